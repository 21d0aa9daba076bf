import PyProof.Rows.All
import Wide.All
import OpenK.AllK
import Wide.FinOn
import HandS.ForMost
import HandS.Flow
import HandS.Walk
import HandS.TupAny
import HandS.Deep
import HandS.IsInst
import HandS.Conv
import HandS.Wide
import HandS.ExcInit
import HandS.Lambda
import PyProof.NeData
import PyProof.ReprRoads
import HandS.DictComp
import HandS.DictTup
import PyProof.DictMoreH
import KE.KDictPairs
import KE.SortData
import HandS.TupLen
import HandS.RaiseMore
import KE.KUnpackStar
import HandS.ExcField
import KE.KExcIs
import HandS.ExcOwn
import KE.KIsAll
import HandS.ExcIs
import KE.KNest
import PySem.Challenge.RW_branchedhall_k04_refusals_apart
/-! ==== DCore ==== -/
section
set_option Elab.async false
set_option linter.all false
set_option autoImplicit false
set_option maxRecDepth 100000
set_option maxHeartbeats 4000000
/-! DL: values as trees, a small heap of the things that are changed, and what a def computes as a Lean function over both. -/
namespace DL
open PySem PySem.Spec PyProof.Rows L2

/-- data: trees. obj n is the n-th thing that may be changed; fn: a function, by its name; err: an own error, its class, its fields -/
inductive D where
  | non
  | bl (b : Bool)
  | int (i : Int)
  | str (x : Str)
  | tup (xs : List D)
  | ktup (xs : List D)
  | lst (xs : List D)
  | frz (xs : List D)
  | dK (kvs : List (Key × D))
  | dT (kvs : List (List Key × D))
  | obj (n : Nat)
  | fn (nm : Str)
  | err (nm : Str) (kvs : List (Key × D))
  deriving Inhabited

/-- a thing that may be changed -/
inductive DO where
  | lst (xs : List D)
  | dK (kvs : List (Key × D))
  | dT (kvs : List (List Key × D))
  | lkK (kvs : List (Key × D))
  | lkT (kvs : List (List Key × D))
  | tab
  | dead
  deriving Inhabited

def DO.alive : DO → Bool
  | .dead => false
  | _ => true

abbrev DH := List DO
abbrev DSl := List (Option D)

/-- the tie between both sides -/
structure Wd where
  K : PySem.W.Frag
  p : List Addr
  G : DH
  H : Hp
  hid : Addr → Prop
  kp : Addr → Prop

def Wd.live (W : Wd) (a : Addr) : Prop := ∃ (n : Nat) (o : DO), W.G[n]? = some o ∧ o.alive = true ∧ W.p[n]? = some a

/-- what others may change: things that may be changed, and what the machine is making just now -/
def Wd.own (W : Wd) (a : Addr) : Prop := W.live a ∨ W.hid a

/-- a list that is read alone -/
def Fz (W : Wd) (a : Addr) (vs : List V) : Prop :=
  (∃ o, W.H a = some (.frz o (.lst vs))) ∨
    ∃ (o : Obj) (its : Array Value) (n : Nat), W.K.lookup a = some o ∧ o.cls = .type "list" ∧ o.dict = none ∧ o.data = .seq its n ∧ its.size ≤ sizeLine ∧ Vals vs its.toList

/-- a tuple whose object is known: one of the module's own, or one that was made by a call of tuple -/
def KTp (W : Wd) (a : Addr) (vs : List V) : Prop :=
  ∃ (o : Obj) (its : Array Value) (n : Nat), (W.K.lookup a = some o ∨ W.H a = some (.frz o (.tup vs))) ∧ o.cls = .type "tuple" ∧ o.dict = none ∧ o.data = .seq its n ∧ its.size ≤ sizeLine ∧ Vals vs its.toList

/-- the def that holds a lambda, by its name -/
abbrev lamDef : Str := "is_ranks_body"
abbrev lamQual : Str := "is_ranks_body.<locals>.<lambda>"
abbrev lamNm : Str := "<lambda>"
/-- the lambda in the def's last statement: return .. and f(.., lambda ..) -/
def lamIn : FuncBody → Option (Arguments × Expr × Scope × Pos)
  | .stmts ss => (match ss.getLast? with
    | some (.Return (some (.BoolOp _ es _)) _) => (match es.getLast? with
      | some (.Call _ as _ _) => (match as.getLast? with
        | some (.Lambda params body scope pos) => some (params, body, scope, pos)
        | _ => none)
      | _ => none)
    | _ => none)
  | _ => none
def lamFd (K : PySem.W.Frag) : Option FuncData := match PySem.W.nsIn K mainGlobals lamDef with
  | some (some (.ref f)) => (match K.lookup f with
    | some ⟨_, _, .func fd, _⟩ => some fd
    | _ => none)
  | _ => none
/-- the table of code objects of that def -/
def tabOf (K : PySem.W.Frag) : Option Addr := match lamFd K with
  | some fd => (match fd.code with
    | .ref c => (match K.lookup c with
      | some ⟨_, _, .fields vs, _⟩ => (match vs.getD 11 .none with
        | Value.ref P => some P
        | _ => none)
      | _ => none)
    | _ => none)
  | none => none
/-- a closure of that lambda at a: its code object at c -/
def CloO (K : PySem.W.Frag) (a c : Addr) : HO := .ext fun h => ∃ (params : Arguments) (body : Expr) (scope : Scope) (pos : Pos) (pm ctv : Value) (fd : FuncData), lamFd K = some fd ∧ lamIn fd.body = some (params, body, scope, pos) ∧ h.get? a = some (PySem.W.kla_obj lamNm lamQual params body scope [] pm c ctv)
/-- an error's fields, as its dict holds them -/
def fldsV (ws : List (Key × V)) : List (Str × V) := ws.filterMap fun p => match p.1 with
  | .inr f => some (f, p.2)
  | .inl _ => none
mutual
def Den (W : Wd) : D → V → Prop
  | .non, v => v = .non
  | .bl b, v => v = .bl b
  | .int i, v => v = .int i
  | .str x, v => v = .str x
  | .tup xs, v => ∃ a vs, v = .ref a ∧ W.H a = some (.tup vs) ∧ DenL W xs vs
  | .ktup xs, v => ∃ a vs, v = .ref a ∧ KTp W a vs ∧ DenL W xs vs
  | .lst xs, v => ∃ a vs, v = .ref a ∧ ¬ W.own a ∧ W.H a = some (.lst vs) ∧ DenL W xs vs
  | .frz xs, v => ∃ a vs, v = .ref a ∧ Fz W a vs ∧ DenL W xs vs
  | .dK kvs, v => ∃ a ws, v = .ref a ∧ ¬ W.own a ∧ Rd W.H a (.dK ws) ∧ DenK W kvs ws
  | .dT kvs, v => ∃ a ws, v = .ref a ∧ ¬ W.own a ∧ Rd W.H a (.dT ws) ∧ DenT W kvs ws
  | .obj n, v => ∃ a, W.p[n]? = some a ∧ v = .ref a
  | .fn nm, v => ∃ a, v = .ref a ∧ (PySem.W.nsIn W.K mainGlobals nm = some (some (.ref a)) ∨ nm = lamNm ∧ ∃ c, W.kp a ∧ W.H a = some (CloO W.K a c) ∧ W.kp c ∧ W.H c = some (LamX.CodeO c lamQual))
  | .err nm kvs, v => ∃ a C od ws, v = .ref a ∧ PySem.W.nsIn W.K mainGlobals nm = some (some (.ref C)) ∧ W.kp a ∧ W.H a = some (exo a C od) ∧ (∀ d, od = some d → W.kp d ∧ W.H d = some (exd d (fldsV ws))) ∧ (od = none → kvs = []) ∧ DenK W kvs ws
def DenL (W : Wd) : List D → List V → Prop
  | [], vs => vs = []
  | d :: ds, vs => ∃ v r, vs = v :: r ∧ Den W d v ∧ DenL W ds r
def DenK (W : Wd) : List (Key × D) → List (Key × V) → Prop
  | [], ws => ws = []
  | (k, d) :: ds, ws => ∃ v r, ws = (k, v) :: r ∧ Den W d v ∧ DenK W ds r
def DenT (W : Wd) : List (List Key × D) → List (List Key × V) → Prop
  | [], ws => ws = []
  | (k, d) :: ds, ws => ∃ v r, ws = (k, v) :: r ∧ Den W d v ∧ DenT W ds r
end

/-- what holds from one moment to a later one, of what was told -/
structure Ext0 (W W' : Wd) : Prop where
  k : W'.K = W.K
  p : ∃ t, W'.p = W.p ++ t
  l : ∀ a vs, ¬ W.own a → W.H a = some (.lst vs) → ¬ W'.own a ∧ W'.H a = some (.lst vs)
  t : ∀ a vs, W.H a = some (.tup vs) → W'.H a = some (.tup vs)
  fl : ∀ a o vs, W.H a = some (.frz o (.lst vs)) → W'.H a = some (.frz o (.lst vs))
  ft : ∀ a o vs, W.H a = some (.frz o (.tup vs)) → W'.H a = some (.frz o (.tup vs))
  dk : ∀ a ws, ¬ W.own a → Rd W.H a (.dK ws) → ¬ W'.own a ∧ Rd W'.H a (.dK ws)
  dt : ∀ a ws, ¬ W.own a → Rd W.H a (.dT ws) → ¬ W'.own a ∧ Rd W'.H a (.dT ws)
  e : ∀ a u, W.kp a → W.H a = some u → W'.kp a ∧ W'.H a = some u
/-- .. and what is being made, what is locked, stays too -/
structure Ext (W W' : Wd) : Prop extends Ext0 W W' where
  h : ∀ a u, W.hid a → W.H a = some u → W'.hid a ∧ W'.H a = some u
  fk : ∀ a o ws, W.H a = some (.frz o (.dK ws)) → W'.H a = some (.frz o (.dK ws))
  fd : ∀ a o ws, W.H a = some (.frz o (.dT ws)) → W'.H a = some (.frz o (.dT ws))

theorem Ext0.refl (W : Wd) : Ext0 W W :=
  ⟨rfl, ⟨[], by simp⟩, fun _ _ h e => ⟨h, e⟩, fun _ _ e => e, fun _ _ _ e => e, fun _ _ _ e => e, fun _ _ h e => ⟨h, e⟩, fun _ _ h e => ⟨h, e⟩, fun _ _ h e => ⟨h, e⟩⟩
theorem Ext.refl (W : Wd) : Ext W W := ⟨Ext0.refl W, fun _ _ h e => ⟨h, e⟩, fun _ _ _ e => e, fun _ _ _ e => e⟩
theorem Ext0.trans {W1 W2 W3 : Wd} (x : Ext0 W1 W2) (y : Ext0 W2 W3) : Ext0 W1 W3 := by
  refine ⟨y.k.trans x.k, ?_, fun a vs h e => ?_, fun a vs e => y.t _ _ (x.t _ _ e), fun a o vs e => y.fl _ _ _ (x.fl _ _ _ e), fun a o vs e => y.ft _ _ _ (x.ft _ _ _ e), fun a ws h e => ?_, fun a ws h e => ?_, fun a u h e => let ⟨h1, e1⟩ := x.e a u h e; y.e a u h1 e1⟩
  · obtain ⟨t, e⟩ := x.p
    obtain ⟨u, e'⟩ := y.p
    exact ⟨t ++ u, by rw [e', e, List.append_assoc]⟩
  · obtain ⟨h1, e1⟩ := x.l a vs h e
    exact y.l a vs h1 e1
  · obtain ⟨h1, e1⟩ := x.dk a ws h e
    exact y.dk a ws h1 e1
  · obtain ⟨h1, e1⟩ := x.dt a ws h e
    exact y.dt a ws h1 e1
theorem Ext.trans {W1 W2 W3 : Wd} (x : Ext W1 W2) (y : Ext W2 W3) : Ext W1 W3 :=
  ⟨x.toExt0.trans y.toExt0, fun a u h e => let ⟨h1, e1⟩ := x.h a u h e; y.h a u h1 e1, fun a o ws e => y.fk _ _ _ (x.fk _ _ _ e), fun a o ws e => y.fd _ _ _ (x.fd _ _ _ e)⟩

theorem Ext0.ktp {W W' : Wd} (x : Ext0 W W') {a : Addr} {vs : List V} (h : KTp W a vs) : KTp W' a vs := by
  obtain ⟨o, its, n, h0, h1⟩ := h
  exact ⟨o, its, n, h0.elim (fun e => .inl (by rw [x.k]; exact e)) (fun e => .inr (x.ft _ _ _ e)), h1⟩
theorem Ext0.fz {W W' : Wd} (x : Ext0 W W') {a : Addr} {vs : List V} (h : Fz W a vs) : Fz W' a vs := by
  rcases h with ⟨o, h⟩ | h
  · exact .inl ⟨o, x.fl _ _ _ h⟩
  · exact .inr (by rw [x.k]; exact h)

mutual
theorem Den.mono0 {W W' : Wd} (x : Ext0 W W') : ∀ (d : D) (v : V), Den W d v → Den W' d v
  | .non, _, h => by simpa [Den] using h
  | .bl _, _, h => by simpa [Den] using h
  | .int _, _, h => by simpa [Den] using h
  | .str _, _, h => by simpa [Den] using h
  | .tup xs, v, h => by
    simp only [Den] at h ⊢
    obtain ⟨a, vs, e, h1, h2⟩ := h
    exact ⟨a, vs, e, x.t _ _ h1, DenL.mono0 x xs vs h2⟩
  | .ktup xs, v, h => by
    simp only [Den] at h ⊢
    obtain ⟨a, vs, e, h1, h2⟩ := h
    exact ⟨a, vs, e, x.ktp h1, DenL.mono0 x xs vs h2⟩
  | .lst xs, v, h => by
    simp only [Den] at h ⊢
    obtain ⟨a, vs, e, h0, h1, h2⟩ := h
    obtain ⟨h3, h4⟩ := x.l a vs h0 h1
    exact ⟨a, vs, e, h3, h4, DenL.mono0 x xs vs h2⟩
  | .frz xs, v, h => by
    simp only [Den] at h ⊢
    obtain ⟨a, vs, e, h1, h2⟩ := h
    exact ⟨a, vs, e, x.fz h1, DenL.mono0 x xs vs h2⟩
  | .dK kvs, v, h => by
    simp only [Den] at h ⊢
    obtain ⟨a, ws, e, h0, h1, h2⟩ := h
    obtain ⟨h3, h4⟩ := x.dk a ws h0 h1
    exact ⟨a, ws, e, h3, h4, DenK.mono0 x kvs ws h2⟩
  | .dT kvs, v, h => by
    simp only [Den] at h ⊢
    obtain ⟨a, ws, e, h0, h1, h2⟩ := h
    obtain ⟨h3, h4⟩ := x.dt a ws h0 h1
    exact ⟨a, ws, e, h3, h4, DenT.mono0 x kvs ws h2⟩
  | .obj n, v, h => by
    simp only [Den] at h ⊢
    obtain ⟨a, e, q⟩ := h
    obtain ⟨t, et⟩ := x.p
    refine ⟨a, ?_, q⟩
    rw [et, List.getElem?_append_left (List.getElem?_eq_some_iff.mp e).1]
    exact e
  | .fn nm, v, h => by
    simp only [Den] at h ⊢
    obtain ⟨a, e, h⟩ := h
    refine ⟨a, e, ?_⟩
    rcases h with h | ⟨z, c, h1, h2, h3, h4⟩
    · exact .inl (by rw [x.k]; exact h)
    · obtain ⟨g1, g2⟩ := x.e _ _ h1 h2
      obtain ⟨g3, g4⟩ := x.e _ _ h3 h4
      exact .inr ⟨z, c, g1, by rw [x.k]; exact g2, g3, g4⟩
  | .err nm kvs, v, h => by
    simp only [Den] at h ⊢
    obtain ⟨a, C, od, ws, e, h1, h2, h3, h4, h5, h6⟩ := h
    obtain ⟨g1, g2⟩ := x.e _ _ h2 h3
    exact ⟨a, C, od, ws, e, by rw [x.k]; exact h1, g1, g2, fun d hd => let ⟨a1, a2⟩ := h4 d hd; x.e _ _ a1 a2, h5, DenK.mono0 x kvs ws h6⟩
theorem DenL.mono0 {W W' : Wd} (x : Ext0 W W') : ∀ (ds : List D) (vs : List V), DenL W ds vs → DenL W' ds vs
  | [], _, h => by simpa [DenL] using h
  | d :: ds, vs, h => by
    simp only [DenL] at h ⊢
    obtain ⟨v, r, e, h1, h2⟩ := h
    exact ⟨v, r, e, Den.mono0 x d v h1, DenL.mono0 x ds r h2⟩
theorem DenK.mono0 {W W' : Wd} (x : Ext0 W W') : ∀ (ds : List (Key × D)) (vs : List (Key × V)), DenK W ds vs → DenK W' ds vs
  | [], _, h => by simpa [DenK] using h
  | (k, d) :: ds, vs, h => by
    simp only [DenK] at h ⊢
    obtain ⟨v, r, e, h1, h2⟩ := h
    exact ⟨v, r, e, Den.mono0 x d v h1, DenK.mono0 x ds r h2⟩
theorem DenT.mono0 {W W' : Wd} (x : Ext0 W W') : ∀ (ds : List (List Key × D)) (vs : List (List Key × V)), DenT W ds vs → DenT W' ds vs
  | [], _, h => by simpa [DenT] using h
  | (k, d) :: ds, vs, h => by
    simp only [DenT] at h ⊢
    obtain ⟨v, r, e, h1, h2⟩ := h
    exact ⟨v, r, e, Den.mono0 x d v h1, DenT.mono0 x ds r h2⟩
end

theorem Den.mono {W W' : Wd} (x : Ext W W') (d : D) (v : V) (h : Den W d v) : Den W' d v := Den.mono0 x.toExt0 d v h
theorem DenL.mono {W W' : Wd} (x : Ext W W') (d : List D) (v : List V) (h : DenL W d v) : DenL W' d v := DenL.mono0 x.toExt0 d v h
theorem DenK.mono {W W' : Wd} (x : Ext W W') (d : List (Key × D)) (v : List (Key × V)) (h : DenK W d v) : DenK W' d v := DenK.mono0 x.toExt0 d v h
theorem DenT.mono {W W' : Wd} (x : Ext W W') (d : List (List Key × D)) (v : List (List Key × V)) (h : DenT W d v) : DenT W' d v := DenT.mono0 x.toExt0 d v h

/-- what stands at an address for a thing that may be changed -/
def ORel (W : Wd) : DO → Addr → Prop
  | .lst xs, a => ∃ vs, W.H a = some (.lst vs) ∧ DenL W xs vs
  | .dK kvs, a => ∃ ws, W.H a = some (.dK ws) ∧ DenK W kvs ws
  | .dT kvs, a => ∃ ws, W.H a = some (.dT ws) ∧ DenT W kvs ws
  | .lkK kvs, a => ∃ o ws, W.H a = some (.frz o (.dK ws)) ∧ DenK W kvs ws
  | .lkT kvs, a => ∃ o ws, W.H a = some (.frz o (.dT ws)) ∧ DenT W kvs ws
  | .tab, a => ∃ (_ : tabOf W.K = some a) (ps : Array Value), W.H a = some (.tbl ps) ∧ TriplesOk ps.toList ∧ ∀ (pos : Pos) (cv : Value), codeAmong pos ps.toList = some cv → ∃ c, cv = .ref c ∧ W.kp c ∧ W.H c = some (LamX.CodeO c lamQual)
  | .dead, _ => True
theorem ORel.some {W : Wd} {o : DO} {a : Addr} (h : ORel W o a) (ha : o.alive = true) : ∃ u, W.H a = some u := by
  cases o with
  | lst xs => obtain ⟨vs, e, _⟩ := h; exact ⟨_, e⟩
  | dK xs => obtain ⟨vs, e, _⟩ := h; exact ⟨_, e⟩
  | dT xs => obtain ⟨vs, e, _⟩ := h; exact ⟨_, e⟩
  | lkK xs => obtain ⟨o, vs, e, _⟩ := h; exact ⟨_, e⟩
  | lkT xs => obtain ⟨o, vs, e, _⟩ := h; exact ⟨_, e⟩
  | tab => obtain ⟨_, vs, e, _⟩ := h; exact ⟨_, e⟩
  | dead => cases ha
theorem ORel.mono {W W' : Wd} (x : Ext0 W W') {o : DO} {a : Addr} (h : ORel W o a) (e : W'.H a = W.H a) : ORel W' o a := by
  cases o with
  | lst xs => obtain ⟨vs, q, r⟩ := h; exact ⟨vs, e.trans q, DenL.mono0 x _ _ r⟩
  | dK xs => obtain ⟨vs, q, r⟩ := h; exact ⟨vs, e.trans q, DenK.mono0 x _ _ r⟩
  | dT xs => obtain ⟨vs, q, r⟩ := h; exact ⟨vs, e.trans q, DenT.mono0 x _ _ r⟩
  | lkK xs => obtain ⟨o, vs, q, r⟩ := h; exact ⟨o, vs, e.trans q, DenK.mono0 x _ _ r⟩
  | lkT xs => obtain ⟨o, vs, q, r⟩ := h; exact ⟨o, vs, e.trans q, DenT.mono0 x _ _ r⟩
  | tab =>
    obtain ⟨z, ps, q, t, r⟩ := h
    exact ⟨by rw [x.k]; exact z, ps, e.trans q, t, fun pos cv hc => let ⟨c, e1, e2, e3⟩ := r pos cv hc; let ⟨g1, g2⟩ := x.e _ _ e2 e3; ⟨c, e1, g1, g2⟩⟩
  | dead => trivial

def mkd : HO → Prop
  | .lst _ => True
  | .dK _ => True
  | .dT _ => True
  | .ext _ => True
  | _ => False
/-- what may be kept for ever -/
def kpd : HO → Prop
  | .ext _ => True
  | _ => False
structure Sim (W : Wd) : Prop where
  len : W.p.length = W.G.length
  at_ : ∀ (n : Nat) (o : DO), W.G[n]? = some o → o.alive = true → ∃ a, W.p[n]? = some a ∧ ORel W o a
  hid : ∀ a, W.hid a → ∃ u, W.H a = some u ∧ mkd u
  apart : ∀ a, W.hid a → ¬ W.live a
  inj : ∀ (m n : Nat) (o u : DO) (a : Addr), W.G[m]? = some o → W.G[n]? = some u → o.alive = true → u.alive = true → W.p[m]? = some a → W.p[n]? = some a → m = n
  kp : ∀ a, W.kp a → ¬ W.own a ∧ ∃ u, W.H a = some u ∧ kpd u

theorem Sim.live_some {W : Wd} (S : Sim W) {a : Addr} (h : W.live a) : ∃ u, W.H a = some u := by
  obtain ⟨n, o, e, al, pn⟩ := h
  obtain ⟨b, pb, r⟩ := S.at_ n o e al
  rw [pn] at pb; cases pb
  exact r.some al
theorem Sim.own_some {W : Wd} (S : Sim W) {a : Addr} (h : W.own a) : ∃ u, W.H a = some u := by
  rcases h with h | h
  · exact S.live_some h
  · obtain ⟨_, e, _⟩ := S.hid a h; exact ⟨_, e⟩
theorem Sim.not_own_of_none {W : Wd} (S : Sim W) {a : Addr} (h : W.H a = none) : ¬ W.own a := fun l => by
  obtain ⟨u, e⟩ := S.own_some l
  rw [h] at e; cases e
/-- neither a tuple nor a list that is read alone is one that may be changed -/
theorem Sim.live_kind {W : Wd} (S : Sim W) {a : Addr} {u : HO} (h : W.H a = some u) (hu : (∃ vs, u = .tup vs) ∨ (∃ o vs, u = .frz o (.lst vs)) ∨ ∃ o vs, u = .frz o (.tup vs)) : ¬ W.live a := fun ⟨n, o, e, al, pn⟩ => by
  obtain ⟨b, pb, r⟩ := S.at_ n o e al
  rw [pn] at pb; cases pb
  cases o <;> simp only [ORel] at r <;> first
    | (obtain ⟨_, q, _⟩ := r; rw [h] at q; cases q; rcases hu with ⟨_, z⟩ | ⟨_, _, z⟩ | ⟨_, _, z⟩ <;> cases z)
    | (obtain ⟨_, _, q, _⟩ := r; rw [h] at q; cases q; rcases hu with ⟨_, z⟩ | ⟨_, _, z⟩ | ⟨_, _, z⟩ <;> cases z)
    | cases al
theorem Sim.hid_kind {W : Wd} (S : Sim W) {a : Addr} {u : HO} (h : W.H a = some u) (hu : (∃ vs, u = .tup vs) ∨ (∃ o v, u = .frz o v)) : ¬ W.hid a := fun q => by
  obtain ⟨v, e, k⟩ := S.hid a q
  rw [h] at e; cases e
  rcases hu with ⟨_, rfl⟩ | ⟨_, _, rfl⟩ <;> exact k

def DO.opn : DO → Bool
  | .lst _ => true
  | .dK _ => true
  | .dT _ => true
  | .tab => true
  | _ => false
theorem DO.alive_opn {o : DO} (h : o.opn = true) : o.alive = true := by cases o <;> first | rfl | cases h

/-! ### the steps of the heap -/
/-- a thing that will never be changed is laid -/
def Wd.lay (W : Wd) (a : Addr) (o : HO) : Wd := { W with H := upd W.H a o }
theorem Sim.lay {W : Wd} (S : Sim W) {a : Addr} (o : HO) (h : W.H a = none) : Ext W (W.lay a o) ∧ Sim (W.lay a o) := by
  have ne : ∀ {b u}, W.H b = some u → b ≠ a := fun e z => by rw [z, h] at e; cases e
  have up : ∀ {b u}, W.H b = some u → upd W.H a o b = some u := fun e => (upd_ne (ne e)).trans e
  have x : Ext W (W.lay a o) := ⟨⟨rfl, ⟨[], by simp [Wd.lay]⟩, fun b vs hl e => ⟨hl, up e⟩, fun b vs e => up e, fun b ob vs e => up e, fun b ob vs e => up e,
    fun b ws hl e => ⟨hl, e.imp up fun ⟨ob, e⟩ => ⟨ob, up e⟩⟩, fun b ws hl e => ⟨hl, e.imp up fun ⟨ob, e⟩ => ⟨ob, up e⟩⟩, fun b u hh e => ⟨hh, up e⟩⟩, fun b u hh e => ⟨hh, up e⟩, fun b ob ws e => up e, fun b ob ws e => up e⟩
  refine ⟨x, S.len, fun n u e al => ?_, fun b hb => ?_, S.apart, S.inj, fun b hb => let ⟨h1, u, e, k⟩ := S.kp b hb; ⟨h1, u, up e, k⟩⟩
  · obtain ⟨b, pb, r⟩ := S.at_ n u e al
    obtain ⟨v, ev⟩ := r.some al
    exact ⟨b, pb, r.mono x.toExt0 (by show upd W.H a o b = _; rw [ev]; exact up ev)⟩
  · obtain ⟨u, e, k⟩ := S.hid b hb
    exact ⟨u, up e, k⟩

/-- a thing that may be changed is laid -/
def Wd.new (W : Wd) (a : Addr) (o : HO) (d : DO) : Wd := { W with H := upd W.H a o, p := W.p ++ [a], G := W.G ++ [d] }
theorem Wd.live_new {W : Wd} (S : Sim W) {a b : Addr} {o : HO} {d : DO} (h : (W.new a o d).live b) : W.live b ∨ b = a := by
  obtain ⟨n, u, e, al, pn⟩ := h
  have e' : (W.G ++ [d])[n]? = some u := e
  have pn' : (W.p ++ [a])[n]? = some b := pn
  by_cases hn : n < W.G.length
  · rw [List.getElem?_append_left hn] at e'
    rw [List.getElem?_append_left (by rw [S.len]; exact hn)] at pn'
    exact .inl ⟨n, u, e', al, pn'⟩
  · rw [List.getElem?_append_right (by rw [S.len]; omega)] at pn'
    have := (List.getElem?_eq_some_iff.mp pn').1
    simp only [List.length_singleton] at this
    have z : n - W.p.length = 0 := by omega
    rw [z] at pn'
    exact .inr (by simpa using pn'.symm)
theorem Sim.new {W : Wd} (S : Sim W) {a : Addr} {o : HO} {d : DO} (h : W.H a = none) (hr : ∀ W', Ext W W' → W'.H = upd W.H a o → ORel W' d a) : Ext W (W.new a o d) ∧ Sim (W.new a o d) := by
  have ne : ∀ {b u}, W.H b = some u → b ≠ a := fun e z => by rw [z, h] at e; cases e
  have up : ∀ {b u}, W.H b = some u → upd W.H a o b = some u := fun e => (upd_ne (ne e)).trans e
  have nl : ∀ {b u}, ¬ W.own b → W.H b = some u → ¬ (W.new a o d).own b := fun hl e q => by
    rcases q with q | q
    · exact (Wd.live_new S q).elim (fun z => hl (.inl z)) (ne e)
    · exact hl (.inr q)
  have x : Ext W (W.new a o d) := ⟨⟨rfl, ⟨[a], rfl⟩, fun b vs hl e => ⟨nl hl e, up e⟩, fun b vs e => up e, fun b ob vs e => up e, fun b ob vs e => up e,
    fun b ws hl e => ⟨e.elim (fun e => nl hl e) fun ⟨_, e⟩ => nl hl e, e.imp up fun ⟨ob, e⟩ => ⟨ob, up e⟩⟩, fun b ws hl e => ⟨e.elim (fun e => nl hl e) fun ⟨_, e⟩ => nl hl e, e.imp up fun ⟨ob, e⟩ => ⟨ob, up e⟩⟩, fun b u hh e => ⟨hh, up e⟩⟩,
    fun b u hh e => ⟨hh, up e⟩, fun b ob ws e => up e, fun b ob ws e => up e⟩
  have pl : ∀ {m : Nat} {b : Addr}, m < W.G.length → (W.p ++ [a])[m]? = some b → W.p[m]? = some b := fun hm e => by
    rwa [List.getElem?_append_left (by rw [S.len]; exact hm)] at e
  have gl : ∀ {m : Nat} {u : DO}, m < W.G.length → (W.G ++ [d])[m]? = some u → W.G[m]? = some u := fun hm e => by
    rwa [List.getElem?_append_left hm] at e
  have pa : ∀ {m : Nat} {b : Addr}, ¬ m < W.G.length → (W.p ++ [a])[m]? = some b → m = W.G.length ∧ b = a := fun {m b} hm e => by
    rw [List.getElem?_append_right (by rw [S.len]; omega)] at e
    have := (List.getElem?_eq_some_iff.mp e).1
    simp only [List.length_singleton, S.len] at this
    have z : m - W.p.length = 0 := by rw [S.len]; omega
    rw [z] at e
    exact ⟨by omega, by simpa using e.symm⟩
  have noa : ¬ W.live a := fun z => S.not_own_of_none h (.inl z)
  refine ⟨x, by simp [Wd.new, S.len], fun n u e al => ?_, fun b hb => ?_, fun b hb z => ?_, fun m n u v b e1 e2 a1 a2 p1 p2 => ?_, fun b hb => let ⟨h1, u, e, k⟩ := S.kp b hb; ⟨nl h1 e, u, up e, k⟩⟩
  · have e' : (W.G ++ [d])[n]? = some u := e
    by_cases hn : n < W.G.length
    · obtain ⟨b, pb, r⟩ := S.at_ n u (gl hn e') al
      obtain ⟨v, ev⟩ := r.some al
      refine ⟨b, ?_, r.mono x.toExt0 (by show upd W.H a o b = _; rw [ev]; exact up ev)⟩
      show (W.p ++ [a])[n]? = some b
      rw [List.getElem?_append_left (by rw [S.len]; exact hn)]
      exact pb
    · rw [List.getElem?_append_right (by omega)] at e'
      have := (List.getElem?_eq_some_iff.mp e').1
      simp only [List.length_singleton] at this
      have z : n = W.G.length := by omega
      subst z
      have : u = d := by simpa using e'.symm
      subst this
      refine ⟨a, ?_, hr _ x rfl⟩
      show (W.p ++ [a])[W.G.length]? = some a
      rw [← S.len]; simp
  · obtain ⟨u, e, k⟩ := S.hid b hb
    exact ⟨u, up e, k⟩
  · rcases Wd.live_new S z with z | z
    · exact S.apart b hb z
    · subst z
      exact S.not_own_of_none h (.inr hb)
  · have e1' : (W.G ++ [d])[m]? = some u := e1
    have e2' : (W.G ++ [d])[n]? = some v := e2
    have p1' : (W.p ++ [a])[m]? = some b := p1
    have p2' : (W.p ++ [a])[n]? = some b := p2
    by_cases hm : m < W.G.length
    · by_cases hn : n < W.G.length
      · exact S.inj m n u v b (gl hm e1') (gl hn e2') a1 a2 (pl hm p1') (pl hn p2')
      · obtain ⟨_, rfl⟩ := pa hn p2'
        exact absurd ⟨m, u, gl hm e1', a1, pl hm p1'⟩ noa
    · obtain ⟨rfl, rfl⟩ := pa hm p1'
      by_cases hn : n < W.G.length
      · exact absurd ⟨n, v, gl hn e2', a2, pl hn p2'⟩ noa
      · exact (pa hn p2').1.symm

/-- a thing that may be changed is changed -/
def Wd.put (W : Wd) (n : Nat) (a : Addr) (o : HO) (d : DO) : Wd := { W with H := upd W.H a o, G := W.G.set n d }
theorem Wd.live_put {W : Wd} {n : Nat} {a b : Addr} {o : HO} {d d0 : DO} (e0 : W.G[n]? = some d0) (a0 : d0.alive = true) (h : (W.put n a o d).live b) : W.live b := by
  obtain ⟨m, u, e, al, pn⟩ := h
  have e' : (W.G.set n d)[m]? = some u := e
  have pn' : W.p[m]? = some b := pn
  by_cases hm : n = m
  · subst hm
    exact ⟨n, d0, e0, a0, pn'⟩
  · rw [List.getElem?_set_ne hm] at e'
    exact ⟨m, u, e', al, pn'⟩
theorem Sim.put {W : Wd} (S : Sim W) {n : Nat} {a : Addr} {o : HO} {d d0 : DO} (e0 : W.G[n]? = some d0) (o0 : d0.opn = true) (pn : W.p[n]? = some a)
    (hr : ∀ W', Ext W W' → W'.H = upd W.H a o → ORel W' d a) : Ext W (W.put n a o d) ∧ Sim (W.put n a o d) := by
  have a0 := DO.alive_opn o0
  have la : W.live a := ⟨n, d0, e0, a0, pn⟩
  have ne : ∀ {b}, ¬ W.own b → b ≠ a := fun hl z => hl (z ▸ .inl la)
  have up : ∀ {b u}, ¬ W.own b → W.H b = some u → upd W.H a o b = some u := fun hl e => (upd_ne (ne hl)).trans e
  have nl : ∀ {b}, ¬ W.own b → ¬ (W.put n a o d).own b := fun hl q => q.elim (fun q => hl (.inl (Wd.live_put e0 a0 q))) fun q => hl (.inr q)
  have nhid : ∀ {b}, W.hid b → b ≠ a := fun hb z => S.apart _ hb (z ▸ la)
  have upn : ∀ {b u}, ¬ W.live b → W.H b = some u → upd W.H a o b = some u := fun {b u} hl e => (upd_ne fun z => hl (by rw [z]; exact la)).trans e
  have nofrz : ∀ {b ob u}, W.H b = some (.frz ob u) → b ≠ a := fun {b ob u} e z => by
    subst z
    obtain ⟨c, pc, r⟩ := S.at_ n d0 e0 a0
    rw [pn] at pc; cases pc
    cases d0 <;> simp only [ORel] at r <;> first
      | (obtain ⟨_, q, _⟩ := r; rw [e] at q; cases q; done)
      | (obtain ⟨_, _, q, _⟩ := r; rw [e] at q; cases q; done)
      | cases o0
  have x : Ext W (W.put n a o d) := ⟨⟨rfl, ⟨[], by simp [Wd.put]⟩, fun b vs hl e => ⟨nl hl, up hl e⟩, fun b vs e => upn (S.live_kind e (.inl ⟨_, rfl⟩)) e, fun b ob vs e => (upd_ne (nofrz e)).trans e, fun b ob vs e => (upd_ne (nofrz e)).trans e,
    fun b ws hl e => ⟨nl hl, e.imp (up hl) fun ⟨ob, e⟩ => ⟨ob, up hl e⟩⟩, fun b ws hl e => ⟨nl hl, e.imp (up hl) fun ⟨ob, e⟩ => ⟨ob, up hl e⟩⟩, fun b u hh e => ⟨hh, up (S.kp b hh).1 e⟩⟩, fun b u hh e => ⟨hh, (upd_ne (nhid hh)).trans e⟩,
    fun b ob ws e => (upd_ne (nofrz e)).trans e, fun b ob ws e => (upd_ne (nofrz e)).trans e⟩
  have nth : ∀ {m : Nat} {u : DO}, (W.G.set n d)[m]? = some u → u.alive = true → ∃ u', W.G[m]? = some u' ∧ u'.alive = true ∧ (m ≠ n → u' = u) := fun {m u} e al => by
    by_cases hm : n = m
    · subst hm; exact ⟨d0, e0, a0, fun z => absurd rfl z⟩
    · rw [List.getElem?_set_ne hm] at e; exact ⟨u, e, al, fun _ => rfl⟩
  refine ⟨x, by simp [Wd.put, S.len], fun m u e al => ?_, fun b hb => ?_, fun b hb z => S.apart b hb (Wd.live_put e0 a0 z), fun m k u v b e1 e2 a1 a2 p1 p2 => ?_, fun b hb => let ⟨h1, u, e, k⟩ := S.kp b hb; ⟨nl h1, u, up h1 e, k⟩⟩
  · have e' : (W.G.set n d)[m]? = some u := e
    by_cases hm : n = m
    · subst hm
      rw [List.getElem?_set_self (List.getElem?_eq_some_iff.mp e0).1] at e'
      cases e'
      exact ⟨a, pn, hr _ x rfl⟩
    · rw [List.getElem?_set_ne hm] at e'
      obtain ⟨b, pb, r⟩ := S.at_ m u e' al
      have nb : b ≠ a := fun z => hm (S.inj n m d0 u a e0 e' a0 al pn (z ▸ pb))
      exact ⟨b, pb, r.mono x.toExt0 (upd_ne nb)⟩
  · obtain ⟨u, e, k⟩ := S.hid b hb
    exact ⟨u, (upd_ne (nhid hb)).trans e, k⟩
  · obtain ⟨u', q1, r1, _⟩ := nth e1 a1
    obtain ⟨v', q2, r2, _⟩ := nth e2 a2
    exact S.inj m k u' v' b q1 q2 r1 r2 p1 p2

/-- a thing that may be changed is given up: it will never be changed any more -/
def Wd.drop (W : Wd) (n : Nat) : Wd := { W with G := W.G.set n .dead }
theorem Wd.live_drop {W : Wd} {n : Nat} {b : Addr} (h : (W.drop n).live b) : W.live b := by
  obtain ⟨m, u, e, al, pn⟩ := h
  have e' : (W.G.set n .dead)[m]? = some u := e
  by_cases hm : n = m
  · subst hm
    rw [List.getElem?_set] at e'
    simp only [if_true] at e'
    split at e'
    · cases e'; cases al
    · cases e'
  · rw [List.getElem?_set_ne hm] at e'
    exact ⟨m, u, e', al, pn⟩
theorem Sim.drop {W : Wd} (S : Sim W) (n : Nat) : Ext W (W.drop n) ∧ Sim (W.drop n) := by
  have nl : ∀ {b}, ¬ W.own b → ¬ (W.drop n).own b := fun hl q => q.elim (fun q => hl (.inl (Wd.live_drop q))) fun q => hl (.inr q)
  have x : Ext W (W.drop n) := ⟨⟨rfl, ⟨[], by simp [Wd.drop]⟩, fun b vs hl e => ⟨nl hl, e⟩, fun b vs e => e, fun b ob vs e => e, fun b ob vs e => e, fun b ws hl e => ⟨nl hl, e⟩, fun b ws hl e => ⟨nl hl, e⟩, fun b u hh e => ⟨hh, e⟩⟩,
    fun b u hh e => ⟨hh, e⟩, fun b ob ws e => e, fun b ob ws e => e⟩
  have nth : ∀ {m : Nat} {u : DO}, (W.G.set n .dead)[m]? = some u → u.alive = true → W.G[m]? = some u := fun {m u} e al => by
    by_cases hm : n = m
    · subst hm
      rw [List.getElem?_set] at e
      simp only [if_true] at e
      split at e
      · cases e; cases al
      · cases e
    · rwa [List.getElem?_set_ne hm] at e
  refine ⟨x, by simp [Wd.drop, S.len], fun m u e al => ?_, S.hid, fun b hb z => S.apart b hb (Wd.live_drop z), fun m k u v b e1 e2 a1 a2 p1 p2 => S.inj m k u v b (nth e1 a1) (nth e2 a2) a1 a2 p1 p2, fun b hb => let ⟨h1, u, e, k⟩ := S.kp b hb; ⟨nl h1, u, e, k⟩⟩
  obtain ⟨b, pb, r⟩ := S.at_ m u (nth e al) al
  exact ⟨b, pb, r.mono x.toExt0 rfl⟩
theorem Sim.drop_not_own {W : Wd} (S : Sim W) {n : Nat} {o : DO} {a : Addr} (e : W.G[n]? = some o) (al : o.alive = true) (pn : W.p[n]? = some a) : ¬ (W.drop n).own a := by
  rintro (⟨m, u, e', al', pm⟩ | hh)
  · have e2 : (W.G.set n .dead)[m]? = some u := e'
    by_cases hm : n = m
    · subst hm
      rw [List.getElem?_set_self (List.getElem?_eq_some_iff.mp e).1] at e2
      cases e2; cases al'
    · rw [List.getElem?_set_ne hm] at e2
      exact hm (S.inj n m o u a e e2 al al' pn pm)
  · exact S.apart a hh ⟨n, o, e, al, pn⟩

/-! ### what the machine is making just now -/
/-- a list, a dict is begun by the machine -/
def Wd.hide (W : Wd) (a : Addr) (o : HO) : Wd := { W with H := upd W.H a o, hid := fun b => W.hid b ∨ b = a }
theorem Sim.hide {W : Wd} (S : Sim W) {a : Addr} {o : HO} (h : W.H a = none) (ho : mkd o) : Ext W (W.hide a o) ∧ Sim (W.hide a o) := by
  have ne : ∀ {b u}, W.H b = some u → b ≠ a := fun e z => by rw [z, h] at e; cases e
  have up : ∀ {b u}, W.H b = some u → upd W.H a o b = some u := fun e => (upd_ne (ne e)).trans e
  have nl : ∀ {b u}, ¬ W.own b → W.H b = some u → ¬ (W.hide a o).own b := fun hl e q => by
    rcases q with q | q | q
    · exact hl (.inl q)
    · exact hl (.inr q)
    · exact ne e q
  have x : Ext W (W.hide a o) := ⟨⟨rfl, ⟨[], by simp [Wd.hide]⟩, fun b vs hl e => ⟨nl hl e, up e⟩, fun b vs e => up e, fun b ob vs e => up e, fun b ob vs e => up e,
    fun b ws hl e => ⟨e.elim (fun e => nl hl e) fun ⟨_, e⟩ => nl hl e, e.imp up fun ⟨ob, e⟩ => ⟨ob, up e⟩⟩, fun b ws hl e => ⟨e.elim (fun e => nl hl e) fun ⟨_, e⟩ => nl hl e, e.imp up fun ⟨ob, e⟩ => ⟨ob, up e⟩⟩, fun b u hh e => ⟨hh, up e⟩⟩,
    fun b u hh e => ⟨.inl hh, up e⟩, fun b ob ws e => up e, fun b ob ws e => up e⟩
  refine ⟨x, S.len, fun n u e al => ?_, fun b hb => ?_, fun b hb z => ?_, S.inj, fun b hb => let ⟨h1, u, e, k⟩ := S.kp b hb; ⟨nl h1 e, u, up e, k⟩⟩
  · obtain ⟨b, pb, r⟩ := S.at_ n u e al
    obtain ⟨v, ev⟩ := r.some al
    exact ⟨b, pb, r.mono x.toExt0 (by show upd W.H a o b = _; rw [ev]; exact up ev)⟩
  · rcases hb with hb | rfl
    · obtain ⟨u, e, k⟩ := S.hid b hb
      exact ⟨u, up e, k⟩
    · exact ⟨o, upd_same, ho⟩
  · rcases hb with hb | rfl
    · exact S.apart b hb z
    · exact S.not_own_of_none h (.inl z)
/-- it is grown: W0 is what stood ahead of its begin -/
def Wd.grow (W : Wd) (a : Addr) (o : HO) : Wd := { W with H := upd W.H a o }
theorem Sim.grow {W0 W : Wd} (S : Sim W) {a : Addr} {o : HO} (x : Ext W0 W) (h0 : W0.H a = none) (n0 : ¬ W0.hid a) (ha : W.hid a) (ho : mkd o) : Ext W0 (W.grow a o) ∧ Ext0 W (W.grow a o) ∧ Sim (W.grow a o) := by
  have up : ∀ {b u}, b ≠ a → W.H b = some u → upd W.H a o b = some u := fun n e => (upd_ne n).trans e
  have na : ∀ {b}, ¬ W.own b → b ≠ a := fun hl z => hl (z ▸ .inr ha)
  have n0' : ∀ {b u}, W0.H b = some u → b ≠ a := fun e z => by rw [z, h0] at e; cases e
  have nt : ∀ {b u}, W.H b = some u → ((∃ vs, u = .tup vs) ∨ (∃ o v, u = .frz o v)) → b ≠ a := fun e k z => S.hid_kind e k (z ▸ ha)
  have x1 : Ext0 W (W.grow a o) := ⟨rfl, ⟨[], by simp [Wd.grow]⟩, fun b vs hl e => ⟨hl, up (na hl) e⟩, fun b vs e => up (nt e (.inl ⟨_, rfl⟩)) e, fun b ob vs e => up (nt e (.inr ⟨_, _, rfl⟩)) e, fun b ob vs e => up (nt e (.inr ⟨_, _, rfl⟩)) e,
    fun b ws hl e => ⟨hl, e.imp (up (na hl)) fun ⟨ob, e⟩ => ⟨ob, up (na hl) e⟩⟩, fun b ws hl e => ⟨hl, e.imp (up (na hl)) fun ⟨ob, e⟩ => ⟨ob, up (na hl) e⟩⟩, fun b u hh e => ⟨hh, up (na (S.kp b hh).1) e⟩⟩
  refine ⟨⟨x.toExt0.trans x1, fun b u hh e => ?_, fun b ob ws e => up (n0' e) (x.fk _ _ _ e), fun b ob ws e => up (n0' e) (x.fd _ _ _ e)⟩, x1, S.len, fun n u e al => ?_, fun b hb => ?_, S.apart, S.inj, fun b hb => let ⟨h1, u, e, k⟩ := S.kp b hb; ⟨h1, u, up (na h1) e, k⟩⟩
  · obtain ⟨h1, e1⟩ := x.h b u hh e
    exact ⟨h1, up (fun z => n0 (z ▸ hh)) e1⟩
  · obtain ⟨b, pb, r⟩ := S.at_ n u e al
    refine ⟨b, pb, r.mono x1 ?_⟩
    exact upd_ne fun z => S.apart a ha ⟨n, u, e, al, z ▸ pb⟩
  · by_cases hb' : b = a
    · subst hb'
      exact ⟨o, upd_same, ho⟩
    · obtain ⟨u, e, k⟩ := S.hid b hb
      exact ⟨u, up hb' e, k⟩
/-- it is whole: from now on it is one that is never changed -/
def Wd.show_ (W : Wd) (a : Addr) : Wd := { W with hid := fun b => W.hid b ∧ b ≠ a }
theorem Sim.show_ {W0 W : Wd} (S : Sim W) {a : Addr} (x : Ext W0 W) (n0 : ¬ W0.hid a) : Ext W0 (W.show_ a) ∧ Ext0 W (W.show_ a) ∧ Sim (W.show_ a) := by
  have nl : ∀ {b}, ¬ W.own b → ¬ (W.show_ a).own b := fun hl q => q.elim (fun q => hl (.inl q)) fun q => hl (.inr q.1)
  have x1 : Ext0 W (W.show_ a) := ⟨rfl, ⟨[], by simp [Wd.show_]⟩, fun b vs hl e => ⟨nl hl, e⟩, fun b vs e => e, fun b ob vs e => e, fun b ob vs e => e, fun b ws hl e => ⟨nl hl, e⟩, fun b ws hl e => ⟨nl hl, e⟩, fun b u hh e => ⟨hh, e⟩⟩
  refine ⟨⟨x.toExt0.trans x1, fun b u hh e => ?_, fun b ob ws e => x.fk _ _ _ e, fun b ob ws e => x.fd _ _ _ e⟩, x1, S.len, fun n u e al => ?_, fun b hb => S.hid b hb.1, fun b hb z => S.apart b hb.1 z, S.inj, fun b hb => let ⟨h1, u, e, k⟩ := S.kp b hb; ⟨nl h1, u, e, k⟩⟩
  · obtain ⟨h1, e1⟩ := x.h b u hh e
    exact ⟨⟨h1, fun z => n0 (z ▸ hh)⟩, e1⟩
  · obtain ⟨b, pb, r⟩ := S.at_ n u e al
    exact ⟨b, pb, r.mono x1 rfl⟩
theorem Sim.show_not_own {W : Wd} (S : Sim W) {a : Addr} (ha : W.hid a) : ¬ (W.show_ a).own a := by
  rintro (h | h)
  · exact S.apart a ha h
  · exact h.2 rfl
end DL
end
/-! ==== DRule ==== -/
section
set_option Elab.async false
set_option linter.all false
set_option autoImplicit false
set_option maxRecDepth 100000
set_option maxHeartbeats 4000000
/-! DL: what an expression is worth, as a function of slots and the small heap; the rules of expressions. -/
namespace DL
open PySem PySem.Spec PyProof.Rows L2

/-- an outcome: a value and the heap behind it; an exception; no word -/
inductive R (α : Type) where
  | ok (a : α) (G : DH)
  | ex (e : D) (G : DH)
  | stop
def R.bind {α β : Type} (r : R α) (k : α → DH → R β) : R β :=
  match r with
  | .ok a G => k a G
  | .ex e G => .ex e G
  | .stop => .stop
@[simp] theorem R.bind_ok {α β : Type} (a : α) (G : DH) (k : α → DH → R β) : (R.ok a G).bind k = k a G := rfl
@[simp] theorem R.bind_ex {α β : Type} (e : D) (G : DH) (k : α → DH → R β) : (R.ex e G : R α).bind k = .ex e G := rfl
@[simp] theorem R.bind_stop {α β : Type} (k : α → DH → R β) : (R.stop : R α).bind k = .stop := rfl
theorem R.bind_assoc {α β γ : Type} (r : R α) (k : α → DH → R β) (l : β → DH → R γ) : (r.bind k).bind l = r.bind fun a G => (k a G).bind l := by
  cases r <;> rfl

/-- how an exception lies: an own class's, with one field -/
def DenX1 (W : Wd) (e : D) (c : Value) (od : Option Addr) : Prop :=
  ∃ (nm f : Str) (p : D) (C d : Addr) (v : V), e = .tup [.str nm, .str f, p] ∧ PySem.W.nsIn W.K mainGlobals nm = some (some (.ref C)) ∧ c = .ref C ∧ od = some d ∧ W.H d = some (.xd [(f, v)]) ∧ Den W p v
/-- .. without any -/
def DenX0 (W : Wd) (e : D) (c : Value) (od : Option Addr) : Prop :=
  ∃ (nm : Str) (C : Addr), e = .tup [.str nm] ∧ PySem.W.nsIn W.K mainGlobals nm = some (some (.ref C)) ∧ c = .ref C ∧ od = none
def DenX (W : Wd) (e : D) (c : Value) (od : Option Addr) : Prop := DenX1 W e c od ∨ DenX0 W e c od

/-- what is wanted behind an outcome -/
def Fin {α β : Type} (Rel : Wd → α → β → Prop) (W : Wd) (E : XK) (r : R α) (Q : β → Hp → Prop) : Prop :=
  match r with
  | .ok a G => ∀ (b : β) (W' : Wd), Ext W W' → Sim W' → W'.G = G → Rel W' a b → Q b W'.H
  | .ex e G => ∀ (c : Value) (od : Option Addr) (W' : Wd), Ext W W' → Sim W' → W'.G = G → DenX W' e c od → E c od W'.H
  | .stop => False
section
variable {α β γ δ : Type} {RA : Wd → α → β → Prop} {RC : Wd → γ → δ → Prop} {W : Wd} {E : XK}
theorem Fin.mono {W0 : Wd} (x : Ext W0 W) {r : R α} {Q : β → Hp → Prop} (h : Fin RA W0 E r Q) : Fin RA W E r Q := by
  cases r with
  | ok a G => exact fun b W' y S e q => h b W' (x.trans y) S e q
  | ex e G => exact fun c od W' y S e q => h c od W' (x.trans y) S e q
  | stop => exact h
theorem Fin.seq {r : R α} {k : α → DH → R γ} {Q : δ → Hp → Prop} {Q' : β → Hp → Prop} (h : Fin RC W E (r.bind k) Q)
    (hk : ∀ a b W', Ext W W' → Sim W' → RA W' a b → Fin RC W' E (k a W'.G) Q → Q' b W'.H) : Fin RA W E r Q' := by
  cases r with
  | ok a G => exact fun b W' x S e q => hk a b W' x S q (by subst e; exact Fin.mono x h)
  | ex e G => exact h
  | stop => exact h
/-- the outcome is here -/
theorem Fin.here {a : α} {b : β} {Q : β → Hp → Prop} (S : Sim W) (h : Fin RA W E (.ok a W.G) Q) (q : RA W a b) : Q b W.H := h b W (Ext.refl W) S rfl q
end

abbrev DE := DSl → DH → R D
abbrev DT := DSl → DH → R Bool
abbrev DA := DSl → DH → R (List D)

/-- the slots -/
def Sl (W : Wd) (σ : L2.St) (s : DSl) : Prop := σ.length = s.length ∧ ∀ (i : Nat) (d : D), s[i]? = some (some d) → ∃ v, σ[i]? = some (some v) ∧ Den W d v
theorem Sl.mono {W W' : Wd} (x : Ext W W') {σ : L2.St} {s : DSl} (h : Sl W σ s) : Sl W' σ s :=
  ⟨h.1, fun i d e => let ⟨v, q, r⟩ := h.2 i d e; ⟨v, q, Den.mono x _ _ r⟩⟩
theorem Sl.set {W : Wd} {σ : L2.St} {s : DSl} (h : Sl W σ s) {i : Nat} {d : D} {v : V} (r : Den W d v) : Sl W (σ.set i (some v)) (s.set i (some d)) := by
  refine ⟨by simpa using h.1, fun j e q => ?_⟩
  by_cases hj : i = j
  · subst hj
    by_cases hi : i < s.length
    · rw [List.getElem?_set_self hi] at q
      cases q
      have hi2 : i < σ.length := by rw [h.1]; exact hi
      exact ⟨v, List.getElem?_set_self hi2, r⟩
    · rw [List.getElem?_eq_none (by simpa using Nat.le_of_not_lt hi)] at q; cases q
  · rw [List.getElem?_set_ne hj] at q
    obtain ⟨w, e1, e2⟩ := h.2 j e q
    exact ⟨w, by rw [List.getElem?_set_ne hj]; exact e1, e2⟩

structure DEOk (X : Cx) (E : XK) (e : Expr) (f : DE) : Prop where
  out : ∃ t : TE, PE X e t ∧ ∀ (W : Wd) (σ : L2.St) (s : DSl) (Q : VK), W.K = X.K → Sim W → Sl W σ s → Fin Den W E (f s W.G) Q → t σ W.H Q
abbrev RB : Wd → Bool → Bool → Prop := fun _ a b => a = b
structure DTOk (X : Cx) (E : XK) (e : Expr) (f : DT) : Prop where
  out : ∃ t : TT, PT X e t ∧ ∀ (W : Wd) (σ : L2.St) (s : DSl) (Q : Bool → Hp → Prop), W.K = X.K → Sim W → Sl W σ s → Fin RB W E (f s W.G) Q → t σ W.H Q
structure DWOk (X : Cx) (E : XK) (e : Expr) (f : DT) : Prop where
  out : ∃ t : TT, PW X e t ∧ ∀ (W : Wd) (σ : L2.St) (s : DSl) (Q : Bool → Hp → Prop), W.K = X.K → Sim W → Sl W σ s → Fin RB W E (f s W.G) Q → t σ W.H Q
structure DAOk (X : Cx) (E : XK) (es : List Expr) (f : DA) : Prop where
  out : ∃ t : TA, PA X es t ∧ ∀ (W : Wd) (σ : L2.St) (s : DSl) (Q : List V → Hp → Prop), W.K = X.K → Sim W → Sl W σ s → Fin DenL W E (f s W.G) Q → t σ W.H Q
section
variable {X : Cx} {E : XK}
theorem DWOk.t {e : Expr} {f : DT} (h : DWOk X E e f) : DTOk X E e f := let ⟨t, p, q⟩ := h.out; ⟨t, p.pt, q⟩

/-! ### names, constants -/
def dVar (i : Nat) : DE := fun s G => match s[i]? with
  | some (some d) => .ok d G
  | _ => .stop
theorem de_var (i : Nat) {x : Str} {pos : Pos} (hN : X.N[i]? = some x := by rfl) (hv : Vis X.env.scope x := by first | exact Or.inl rfl | exact Or.inr (Or.inl rfl) | exact Or.inr (Or.inr rfl)) (hd : (x == ("__debug__" : Str)) = false := by decide)
    (hcd : (x == ("__classdict__" : Str)) = false := by decide) : DEOk X E (.Name x pos) (dVar i) := by
  refine ⟨_, pe_var hN hv hd hcd, fun W σ s Q hK S L h => ?_⟩
  unfold dVar at h
  cases e : s[i]? with
  | none => rw [e] at h; exact h.elim
  | some o =>
    cases o with
    | none => rw [e] at h; exact h.elim
    | some d =>
      rw [e] at h
      obtain ⟨v, q, r⟩ := L.2 i d e
      exact ⟨v, q, h.here S r⟩
def dC (d : D) : DE := fun _ G => .ok d G
theorem de_c {e : Expr} {v : V} {d : D} (h : PE X e (tC v)) (hd : ∀ W, Sim W → W.K = X.K → Den W d v) : DEOk X E e (dC d) :=
  ⟨_, h, fun W σ s Q hK S L f => f.here S (hd W S hK)⟩
theorem de_int {i j pos} : DEOk X E (.Constant (.int i) j pos) (dC (.int i)) := de_c pe_int fun _ _ _ => by simp [Den]
theorem de_bl {b j pos} : DEOk X E (.Constant (.bool b) j pos) (dC (.bl b)) := de_c pe_bl fun _ _ _ => by simp [Den]
theorem de_non {j pos} : DEOk X E (.Constant .none j pos) (dC .non) := de_c pe_non fun _ _ _ => by simp [Den]
theorem de_str {x j pos} : DEOk X E (.Constant (.str x) j pos) (dC (.str x)) := de_c pe_str fun _ _ _ => by simp [Den]
/-- a constant of the module -/
theorem de_glob {x : Str} {v : V} {u : Value} {d : D} {pos : Pos} (hg : Gl X x) (hm : X.mg x = some u) (r : RelV v u) (hd : ∀ W, Sim W → W.K = X.K → Den W d v) (hdb : (x == ("__debug__" : Str)) = false := by decide) : DEOk X E (.Name x pos) (dC d) :=
  de_c (pe_glob hg hm r hdb) hd

/-! ### two values -/
/-- an operation on two values: what it is worth -/
structure OpOk (X : Cx) (E : XK) (f : Value → Value → Sem Value) (F : D → D → DH → R D) : Prop where
  out : ∃ r : R2, OpR X f r ∧ ∀ (W : Wd) (x y : D) (v w : V) (Q : VK), W.K = X.K → Sim W → Den W x v → Den W y w → Fin Den W E (F x y W.G) Q → r v w W.H Q
def dBin (F : D → D → DH → R D) (a b : DE) : DE := fun s G => (a s G).bind fun x G => (b s G).bind fun y G => F x y G
theorem bin_out {fa fb : DE} {F : D → D → DH → R D} {r : R2} {ta tb : TE} (ha : ∀ (W : Wd) (σ : L2.St) (s : DSl) (Q : VK), W.K = X.K → Sim W → Sl W σ s → Fin Den W E (fa s W.G) Q → ta σ W.H Q)
    (hb : ∀ (W : Wd) (σ : L2.St) (s : DSl) (Q : VK), W.K = X.K → Sim W → Sl W σ s → Fin Den W E (fb s W.G) Q → tb σ W.H Q)
    (hr : ∀ (W : Wd) (x y : D) (v w : V) (Q : VK), W.K = X.K → Sim W → Den W x v → Den W y w → Fin Den W E (F x y W.G) Q → r v w W.H Q) :
    ∀ (W : Wd) (σ : L2.St) (s : DSl) (Q : VK), W.K = X.K → Sim W → Sl W σ s → Fin Den W E (dBin F fa fb s W.G) Q → tOp r ta tb σ W.H Q := by
  intro W σ s Q hK S L h
  refine ha W σ s _ hK S L (h.seq fun x v W1 x1 S1 d1 h1 => ?_)
  refine hb W1 σ s _ (x1.k.trans hK) S1 (L.mono x1) (h1.seq fun y w W2 x2 S2 d2 h2 => ?_)
  exact hr W2 x y v w Q (x2.k.trans (x1.k.trans hK)) S2 (Den.mono x2 _ _ d1) d2 h2
theorem de_bin {op : Operator} {a b : Expr} {fa fb : DE} {F : D → D → DH → R D} {pos : Pos} (ho : OpOk X E (binaryOp op) F) (ha : DEOk X E a fa) (hb : DEOk X E b fb) : DEOk X E (.BinOp a op b pos) (dBin F fa fb) := by
  obtain ⟨r, hr, qr⟩ := ho.out
  obtain ⟨ta, pa, qa⟩ := ha.out
  obtain ⟨tb, pb, qb⟩ := hb.out
  exact ⟨_, pe_op hr pa pb, bin_out qa qb qr⟩
theorem de_cmp {op : CmpOp} {a b : Expr} {fa fb : DE} {F : D → D → DH → R D} {pos : Pos} (ho : OpOk X E (compareOp op) F) (ha : DEOk X E a fa) (hb : DEOk X E b fb) (hm : behindInMarks op b = false) : DEOk X E (.Compare a [op] [b] pos) (dBin F fa fb) := by
  obtain ⟨r, hr, qr⟩ := ho.out
  obtain ⟨ta, pa, qa⟩ := ha.out
  obtain ⟨tb, pb, qb⟩ := hb.out
  exact ⟨_, pe_cmpR hr pa pb hm, bin_out qa qb qr⟩
/-- a value that is a bool, as a test -/
def dTest (f : DE) : DT := fun s G => (f s G).bind fun d G => match d with
  | .bl b => .ok b G
  | _ => .stop
theorem test_out {ta : TE} {f : DE} (ha : ∀ (W : Wd) (σ : L2.St) (s : DSl) (Q : VK), W.K = X.K → Sim W → Sl W σ s → Fin Den W E (f s W.G) Q → ta σ W.H Q) :
    ∀ (W : Wd) (σ : L2.St) (s : DSl) (Q : Bool → Hp → Prop), W.K = X.K → Sim W → Sl W σ s → Fin RB W E (dTest f s W.G) Q → tTest ta σ W.H Q := by
  intro W σ s Q hK S L h
  refine ha W σ s _ hK S L (h.seq fun x v W1 x1 S1 d1 h1 => ?_)
  cases x with
  | bl b =>
    simp only [Den] at d1
    exact ⟨b, d1, h1.here S1 rfl⟩
  | _ => exact h1.elim
theorem dt_cmp {op : CmpOp} {a b : Expr} {fa fb : DE} {F : D → D → DH → R D} {pos : Pos} (ho : OpOk X E (compareOp op) F) (ha : DEOk X E a fa) (hb : DEOk X E b fb) (hm : behindInMarks op b = false) : DTOk X E (.Compare a [op] [b] pos) (dTest (dBin F fa fb)) := by
  obtain ⟨r, hr, qr⟩ := ho.out
  obtain ⟨ta, pa, qa⟩ := ha.out
  obtain ⟨tb, pb, qb⟩ := hb.out
  exact ⟨_, pt_cmpR hr pa pb hm, test_out (bin_out qa qb qr)⟩
/-- a op b op' c -/
def dChain (F F' : D → D → DH → R D) (a b c : DE) : DE := fun s G => (a s G).bind fun x G => (b s G).bind fun y G => (F x y G).bind fun z G => match z with
  | .bl true => (c s G).bind fun w G => F' y w G
  | .bl false => .ok (.bl false) G
  | _ => .stop
theorem chain_out {fa fb fc : DE} {F F' : D → D → DH → R D} {r r' : R2} {ta tb tc : TE} (ha : ∀ (W : Wd) (σ : L2.St) (s : DSl) (Q : VK), W.K = X.K → Sim W → Sl W σ s → Fin Den W E (fa s W.G) Q → ta σ W.H Q)
    (hb : ∀ (W : Wd) (σ : L2.St) (s : DSl) (Q : VK), W.K = X.K → Sim W → Sl W σ s → Fin Den W E (fb s W.G) Q → tb σ W.H Q)
    (hc : ∀ (W : Wd) (σ : L2.St) (s : DSl) (Q : VK), W.K = X.K → Sim W → Sl W σ s → Fin Den W E (fc s W.G) Q → tc σ W.H Q)
    (hr : ∀ (W : Wd) (x y : D) (v w : V) (Q : VK), W.K = X.K → Sim W → Den W x v → Den W y w → Fin Den W E (F x y W.G) Q → r v w W.H Q)
    (hr' : ∀ (W : Wd) (x y : D) (v w : V) (Q : VK), W.K = X.K → Sim W → Den W x v → Den W y w → Fin Den W E (F' x y W.G) Q → r' v w W.H Q) :
    ∀ (W : Wd) (σ : L2.St) (s : DSl) (Q : VK), W.K = X.K → Sim W → Sl W σ s → Fin Den W E (dChain F F' fa fb fc s W.G) Q → tChain r r' ta tb tc σ W.H Q := by
  intro W σ s Q hK S L h
  refine ha W σ s _ hK S L (h.seq fun x v W1 x1 S1 d1 h1 => ?_)
  refine hb W1 σ s _ (x1.k.trans hK) S1 (L.mono x1) (h1.seq fun y w W2 x2 S2 d2 h2 => ?_)
  refine hr W2 x y v w _ (x2.k.trans (x1.k.trans hK)) S2 (Den.mono x2 _ _ d1) d2 (h2.seq fun z u W3 x3 S3 d3 h3 => ?_)
  cases z with
  | bl b =>
    simp only [Den] at d3
    refine ⟨b, d3, ?_⟩
    cases b with
    | true =>
      rw [if_pos rfl]
      refine hc W3 σ s _ (x3.k.trans (x2.k.trans (x1.k.trans hK))) S3 ((L.mono x1).mono x2 |>.mono x3) (Fin.seq (RC := Den) h3 fun w' u' W4 x4 S4 d4 h4 => ?_)
      exact hr' W4 y w' w u' Q (x4.k.trans (x3.k.trans (x2.k.trans (x1.k.trans hK)))) S4 (Den.mono (x3.trans x4) _ _ d2) d4 h4
    | false =>
      rw [if_neg Bool.false_ne_true]
      exact Fin.here (RA := Den) S3 h3 (by simp [Den])
  | _ => exact h3.elim
theorem de_chain {op op' : CmpOp} {a b c : Expr} {fa fb fc : DE} {F F' : D → D → DH → R D} {pos : Pos} (ho : OpOk X E (compareOp op) F) (ho' : OpOk X E (compareOp op') F') (ha : DEOk X E a fa) (hb : DEOk X E b fb) (hc : DEOk X E c fc)
    (hm : lastMarks [op, op'] [b, c] = false := by with_unfolding_all rfl) : DEOk X E (.Compare a [op, op'] [b, c] pos) (dChain F F' fa fb fc) := by
  obtain ⟨r, hr, qr⟩ := ho.out
  obtain ⟨r', hr', qr'⟩ := ho'.out
  obtain ⟨ta, pa, qa⟩ := ha.out
  obtain ⟨tb, pb, qb⟩ := hb.out
  obtain ⟨tc, pc, qc⟩ := hc.out
  exact ⟨_, pe_chain hr hr' pa pb pc hm, chain_out qa qb qc qr qr'⟩
theorem dt_chain {op op' : CmpOp} {a b c : Expr} {fa fb fc : DE} {F F' : D → D → DH → R D} {pos : Pos} (ho : OpOk X E (compareOp op) F) (ho' : OpOk X E (compareOp op') F') (ha : DEOk X E a fa) (hb : DEOk X E b fb) (hc : DEOk X E c fc)
    (hm : lastMarks [op, op'] [b, c] = false := by with_unfolding_all rfl) : DTOk X E (.Compare a [op, op'] [b, c] pos) (dTest (dChain F F' fa fb fc)) := by
  obtain ⟨r, hr, qr⟩ := ho.out
  obtain ⟨r', hr', qr'⟩ := ho'.out
  obtain ⟨ta, pa, qa⟩ := ha.out
  obtain ⟨tb, pb, qb⟩ := hb.out
  obtain ⟨tc, pc, qc⟩ := hc.out
  exact ⟨_, pt_chain hr hr' pa pb pc hm, test_out (chain_out qa qb qc qr qr')⟩

/-! ### new things -/
/-- a new list: one that may be changed, or one that never is -/
def mkL (o : Bool) (xs : List D) (G : DH) : R D := if o then .ok (.obj G.length) (G ++ [.lst xs]) else .ok (.lst xs) G
theorem fin_mkL {W : Wd} {o : Bool} {xs : List D} {vs : List V} {Q : VK} (S : Sim W) (h : Fin Den W E (mkL o xs W.G) Q) (r : DenL W xs vs) : ∀ p, W.H p = none → Q (.ref p) (upd W.H p (.lst vs)) := by
  intro p hp
  cases o with
  | false =>
    obtain ⟨x, S'⟩ := S.lay (.lst vs) hp
    refine h (.ref p) _ x S' rfl ?_
    simp only [Den]
    exact ⟨p, vs, rfl, fun l => S.not_own_of_none hp l, upd_same, DenL.mono x _ _ r⟩
  | true =>
    obtain ⟨x, S'⟩ := S.new (o := .lst vs) (d := .lst xs) hp fun W' y e => ⟨vs, by rw [e]; exact upd_same, DenL.mono y _ _ r⟩
    refine h (.ref p) _ x S' rfl ?_
    simp only [Den]
    exact ⟨p, by show (W.p ++ [p])[W.G.length]? = some p; rw [← S.len]; simp, rfl⟩
theorem fin_tup {W : Wd} {xs : List D} {vs : List V} {Q : VK} (S : Sim W) (h : Fin Den W E (.ok (.tup xs) W.G) Q) (r : DenL W xs vs) : ∀ p, W.H p = none → Q (.ref p) (upd W.H p (.tup vs)) := by
  intro p hp
  obtain ⟨x, S'⟩ := S.lay (.tup vs) hp
  refine h (.ref p) _ x S' rfl ?_
  simp only [Den]
  exact ⟨p, vs, rfl, upd_same, DenL.mono x _ _ r⟩

theorem DenL.len {W : Wd} : ∀ {xs : List D} {vs : List V}, DenL W xs vs → vs.length = xs.length
  | [], _, h => by simp only [DenL] at h; subst h; rfl
  | _ :: xs, _, h => by
    simp only [DenL] at h
    obtain ⟨v, r, rfl, _, h2⟩ := h
    simp [DenL.len h2]
theorem DenL.at {W : Wd} : ∀ {xs : List D} {vs : List V} {i : Nat} {d : D}, DenL W xs vs → xs[i]? = some d → ∃ v, vs[i]? = some v ∧ Den W d v
  | [], _, _, _, _, e => by simp at e
  | _ :: _, _, 0, _, h, e => by
    simp only [DenL] at h
    obtain ⟨v, r, rfl, h1, _⟩ := h
    simp at e
    subst e
    exact ⟨v, rfl, h1⟩
  | _ :: xs, _, i + 1, _, h, e => by
    simp only [DenL] at h
    obtain ⟨v, r, rfl, _, h2⟩ := h
    obtain ⟨w, e1, e2⟩ := DenL.at (i := i) h2 (by simpa using e)
    exact ⟨w, by simpa using e1, e2⟩
theorem DenL.app {W : Wd} : ∀ {xs ys : List D} {vs ws : List V}, DenL W xs vs → DenL W ys ws → DenL W (xs ++ ys) (vs ++ ws)
  | [], _, _, _, h, g => by simp only [DenL] at h; subst h; exact g
  | _ :: xs, _, _, _, h, g => by
    simp only [DenL] at h
    obtain ⟨v, r, rfl, h1, h2⟩ := h
    simp only [List.cons_append, DenL]
    exact ⟨v, _, rfl, h1, DenL.app h2 g⟩
theorem DenL.one {W : Wd} {d : D} {v : V} (h : Den W d v) : DenL W [d] [v] := by simp only [DenL]; exact ⟨v, [], rfl, h, rfl⟩
theorem DenL.take {W : Wd} : ∀ {xs : List D} {vs : List V} (n : Nat), DenL W xs vs → DenL W (xs.take n) (vs.take n)
  | _, _, 0, _ => by simp [DenL]
  | [], _, n + 1, h => by simp only [DenL] at h; subst h; simp [DenL]
  | _ :: xs, _, n + 1, h => by
    simp only [DenL] at h
    obtain ⟨v, r, rfl, h1, h2⟩ := h
    simp only [List.take_succ_cons, DenL]
    exact ⟨v, _, rfl, h1, DenL.take n h2⟩
theorem DenL.drop {W : Wd} : ∀ {xs : List D} {vs : List V} (n : Nat), DenL W xs vs → DenL W (xs.drop n) (vs.drop n)
  | _, _, 0, h => by simpa using h
  | [], _, n + 1, h => by simp only [DenL] at h; subst h; simp [DenL]
  | _ :: xs, _, n + 1, h => by
    simp only [DenL] at h
    obtain ⟨v, r, rfl, h1, h2⟩ := h
    simpa using DenL.drop n h2
theorem DenL.set {W : Wd} : ∀ {xs : List D} {vs : List V} {d : D} {v : V} (n : Nat), DenL W xs vs → Den W d v → DenL W (xs.set n d) (vs.set n v)
  | [], _, _, _, _, h, _ => by simp only [DenL] at h; subst h; simp [DenL]
  | _ :: xs, _, _, _, 0, h, g => by
    simp only [DenL] at h
    obtain ⟨v, r, rfl, h1, h2⟩ := h
    simp only [List.set_cons_zero, DenL]
    exact ⟨_, _, rfl, g, h2⟩
  | _ :: xs, _, _, _, n + 1, h, g => by
    simp only [DenL] at h
    obtain ⟨v, r, rfl, h1, h2⟩ := h
    simp only [List.set_cons_succ, DenL]
    exact ⟨v, _, rfl, h1, DenL.set n h2 g⟩
theorem DenL.rep {W : Wd} {xs : List D} {vs : List V} (h : DenL W xs vs) : ∀ k : Nat, DenL W (List.replicate k xs).flatten (List.replicate k vs).flatten
  | 0 => by simp [DenL]
  | k + 1 => by simpa [List.replicate_succ] using DenL.app h (DenL.rep h k)
theorem DenL.emp {W : Wd} {xs : List D} {vs : List V} (h : DenL W xs vs) : vs.isEmpty = xs.isEmpty := by
  have := h.len
  cases xs <;> cases vs <;> simp_all

/-- the items of what is read as a list -/
def lstOf (G : DH) : D → Option (List D)
  | .lst xs => some xs
  | .frz xs => some xs
  | .obj n => match G[n]? with
    | some (.lst xs) => some xs
    | _ => none
  | _ => none
def seqOf (G : DH) : D → Option (List D)
  | .tup xs => some xs
  | .ktup xs => some xs
  | d => lstOf G d
theorem lstOf_den {W : Wd} {d : D} {xs : List D} {v : V} (S : Sim W) (h : Den W d v) (e : lstOf W.G d = some xs) : ∃ a vs, v = .ref a ∧ SqL W.K W.H a vs ∧ DenL W xs vs := by
  cases d with
  | lst ys =>
    simp only [lstOf, Option.some.injEq] at e; subst e
    simp only [Den] at h
    obtain ⟨a, vs, e, _, h1, h2⟩ := h
    exact ⟨a, vs, e, .of h1, h2⟩
  | frz ys =>
    simp only [lstOf, Option.some.injEq] at e; subst e
    simp only [Den] at h
    obtain ⟨a, vs, e, h1, h2⟩ := h
    refine ⟨a, vs, e, ?_, h2⟩
    rcases h1 with ⟨o, h1⟩ | h1
    · exact .inl (.inr ⟨o, h1⟩)
    · exact .inr h1
  | obj n =>
    simp only [Den] at h
    obtain ⟨a, pn, ev⟩ := h
    simp only [lstOf] at e
    cases q : W.G[n]? with
    | none => rw [q] at e; cases e
    | some o =>
      cases o with
      | lst ys =>
        rw [q] at e
        simp only [Option.some.injEq] at e; subst e
        obtain ⟨b, pb, vs, h1, h2⟩ := S.at_ n _ q rfl
        rw [pn] at pb; cases pb
        exact ⟨a, vs, ev, .of h1, h2⟩
      | _ => rw [q] at e; cases e
  | _ => cases e
theorem tup_den {W : Wd} {xs : List D} {v : V} (h : Den W (.tup xs) v) : ∃ a vs, v = .ref a ∧ SqT W.K W.H a vs ∧ DenL W xs vs := by
  simp only [Den] at h
  obtain ⟨a, vs, e, h1, h2⟩ := h
  exact ⟨a, vs, e, .of h1, h2⟩
theorem KTp.sq {W : Wd} {a : Addr} {vs : List V} (h : KTp W a vs) : SqT W.K W.H a vs := by
  obtain ⟨o, its, n, h0, h1, h2, h3, h4, h5⟩ := h
  exact h0.elim (fun e => .inr ⟨o, its, n, e, h1, h3, h4, h5⟩) fun e => .inl (.inr ⟨o, e⟩)
theorem ktup_den {W : Wd} {xs : List D} {v : V} (h : Den W (.ktup xs) v) : ∃ a vs, v = .ref a ∧ SqT W.K W.H a vs ∧ DenL W xs vs := by
  simp only [Den] at h
  obtain ⟨a, vs, e, h1, h2⟩ := h
  exact ⟨a, vs, e, h1.sq, h2⟩
/-- the items of a tuple -/
def tupOf : D → Option (List D)
  | .tup xs => some xs
  | .ktup xs => some xs
  | _ => none
theorem tupOf_den {W : Wd} {d : D} {xs : List D} {v : V} (h : Den W d v) (e : tupOf d = some xs) : ∃ a vs, v = .ref a ∧ SqT W.K W.H a vs ∧ DenL W xs vs := by
  cases d with
  | tup ys => cases e; exact tup_den h
  | ktup ys => cases e; exact ktup_den h
  | _ => cases e
/-- a tracked list -/
def lstM (G : DH) : D → Option (List D)
  | .lst xs => some xs
  | .obj n => match G[n]? with
    | some (.lst xs) => some xs
    | _ => none
  | _ => none
theorem lstM_den {W : Wd} {d : D} {xs : List D} {v : V} (S : Sim W) (h : Den W d v) (e : lstM W.G d = some xs) : ∃ a vs, v = .ref a ∧ W.H a = some (.lst vs) ∧ DenL W xs vs := by
  cases d with
  | lst ys =>
    simp only [lstM, Option.some.injEq] at e; subst e
    simp only [Den] at h
    obtain ⟨a, vs, e, _, h1, h2⟩ := h
    exact ⟨a, vs, e, h1, h2⟩
  | obj n =>
    simp only [Den] at h
    obtain ⟨a, pn, ev⟩ := h
    simp only [lstM] at e
    cases q : W.G[n]? with
    | none => rw [q] at e; cases e
    | some o =>
      cases o with
      | lst ys =>
        rw [q] at e
        simp only [Option.some.injEq] at e; subst e
        obtain ⟨b, pb, vs, h1, h2⟩ := S.at_ n _ q rfl
        rw [pn] at pb; cases pb
        exact ⟨a, vs, ev, h1, h2⟩
      | _ => rw [q] at e; cases e
  | _ => cases e
end
end DL
end
/-! ==== DOps ==== -/
section
set_option Elab.async false
set_option linter.all false
set_option autoImplicit false
set_option maxRecDepth 100000
set_option maxHeartbeats 4000000
/-! DL: operators, built-in functions, methods, by values. -/
namespace DL
open PySem PySem.Spec PyProof.Rows L2

section
variable {X : Cx} {E : XK}

/-! ### arithmetic -/
def addD (o : Bool) (x y : D) (G : DH) : R D :=
  match x, y with
  | .int i, .int j => .ok (.int (i + j)) G
  | .str a, .str b => if a.length + b.length ≤ sizeLine then .ok (.str (a ++ b)) G else .stop
  | .tup xs, .tup ys => if xs.length + ys.length ≤ sizeLine then .ok (.tup (xs ++ ys)) G else .stop
  | x, y => match lstM G x, lstM G y with
    | some xs, some ys => if xs.length + ys.length ≤ sizeLine then mkL o (xs ++ ys) G else .stop
    | _, _ => .stop
theorem add_list {W : Wd} {o : Bool} {x y : D} {v w : V} {Q : VK} (S : Sim W) (dx : Den W x v) (dy : Den W y w)
    (h : Fin Den W E (match lstM W.G x, lstM W.G y with | some xs, some ys => if xs.length + ys.length ≤ sizeLine then mkL o (xs ++ ys) W.G else .stop | _, _ => .stop) Q) : rCat v w W.H Q := by
  cases e1 : lstM W.G x with
  | none => rw [e1] at h; exact h.elim
  | some xs =>
    cases e2 : lstM W.G y with
    | none => rw [e1, e2] at h; exact h.elim
    | some ys =>
      rw [e1, e2] at h
      obtain ⟨a, vs, rfl, ha, ra⟩ := lstM_den S dx e1
      obtain ⟨b, ws, rfl, hb, rb⟩ := lstM_den S dy e2
      by_cases c : xs.length + ys.length ≤ sizeLine
      · simp only [if_pos c] at h
        exact ⟨a, b, vs, ws, rfl, rfl, ha, hb, by rw [ra.len, rb.len]; exact c, fin_mkL S h (ra.app rb)⟩
      · simp only [if_neg c] at h; exact h.elim
theorem op_addD (o : Bool) : OpOk X E (binaryOp .Add) (addD o) := by
  refine ⟨_, ((op_add.or op_add_str).or op_catA).or op_cat, fun W x y v w Q hK S dx dy h => ?_⟩
  unfold addD at h
  split at h
  · simp only [Den] at dx dy
    exact .inl (.inl (.inl ⟨_, _, dx, dy, h.here S (by simp [Den])⟩))
  · simp only [Den] at dx dy
    split at h
    · rename_i c
      exact .inl (.inl (.inr ⟨_, _, dx, dy, c, h.here S (by simp [Den])⟩))
    · exact h.elim
  · rename_i xs ys
    split at h
    · rename_i c
      obtain ⟨a, vs, rfl, ha, ra⟩ := tup_den dx
      obtain ⟨b, ws, rfl, hb, rb⟩ := tup_den dy
      refine .inl (.inr ⟨a, b, vs, ws, rfl, rfl, by rw [← hK]; exact ha, by rw [← hK]; exact hb, by rw [ra.len, rb.len]; exact c, fun e => ?_, fun _ e => ?_, fun _ _ => fin_tup S h (ra.app rb)⟩)
      · subst e
        have z : xs = [] := List.eq_nil_of_length_eq_zero (by simpa using ra.len.symm)
        subst z
        exact h.here S (by simpa using dy)
      · subst e
        have z : ys = [] := List.eq_nil_of_length_eq_zero (by simpa using rb.len.symm)
        subst z
        exact h.here S (by simpa using dx)
    · exact h.elim
  · exact .inr (add_list S dx dy h)
def subD (x y : D) (G : DH) : R D :=
  match x, y with
  | .int i, .int j => .ok (.int (i - j)) G
  | _, _ => .stop
theorem op_subD : OpOk X E (binaryOp .Sub) subD := by
  refine ⟨_, op_sub, fun W x y v w Q hK S dx dy h => ?_⟩
  unfold subD at h
  split at h
  · simp only [Den] at dx dy
    exact ⟨_, _, dx, dy, h.here S (by simp [Den])⟩
  · exact h.elim
def fdivD (x y : D) (G : DH) : R D :=
  match x, y with
  | .int i, .int j => if 0 < j ∧ j.natAbs.log2 < 9000 then .ok (.int (i / j)) G else .stop
  | _, _ => .stop
theorem op_fdivD : OpOk X E (binaryOp .FloorDiv) fdivD := by
  refine ⟨_, op_fdivW, fun W x y v w Q hK S dx dy h => ?_⟩
  unfold fdivD at h
  split at h
  · simp only [Den] at dx dy
    split at h
    · rename_i c
      exact ⟨_, _, dx, dy, c, h.here S (by simp [Den])⟩
    · exact h.elim
  · exact h.elim
def modD (x y : D) (G : DH) : R D :=
  match x, y with
  | .int i, .int j => if 0 < j then .ok (.int (i % j)) G else .stop
  | _, _ => .stop
theorem op_modD : OpOk X E (binaryOp .Mod) modD := by
  refine ⟨_, op_mod, fun W x y v w Q hK S dx dy h => ?_⟩
  unfold modD at h
  split at h
  · simp only [Den] at dx dy
    split at h
    · rename_i c
      exact ⟨_, _, dx, dy, c, h.here S (by simp [Den])⟩
    · exact h.elim
  · exact h.elim
def powD (x y : D) (G : DH) : R D :=
  match x, y with
  | .int i, .int j => if 0 ≤ j ∧ j ≤ 1000000 ∧ i.natAbs < 18446744073709551616 then .ok (.int (i ^ j.toNat)) G else .stop
  | _, _ => .stop
theorem op_powD : OpOk X E (binaryOp .Pow) powD := by
  refine ⟨_, op_pow, fun W x y v w Q hK S dx dy h => ?_⟩
  unfold powD at h
  split at h
  · simp only [Den] at dx dy
    split at h
    · rename_i c
      exact ⟨_, _, dx, dy, c, h.here S (by simp [Den])⟩
    · exact h.elim
  · exact h.elim
/-- a text k times -/
def repS (x : Str) (k : Nat) : Str := ⟨(List.replicate k x.cps.toList).flatten.toArray⟩
theorem repS_fold (x : Str) : ∀ (k : Nat) (acc : List Nat), (List.replicate k x.cps).foldl (· ++ ·) acc.toArray = (acc ++ (List.replicate k x.cps.toList).flatten).toArray
  | 0, acc => by simp
  | k + 1, acc => by
    have e : acc.toArray ++ x.cps = (acc ++ x.cps.toList).toArray := by
      apply Array.ext'
      simp
    rw [List.replicate_succ, List.foldl_cons, e, repS_fold x k, List.replicate_succ, List.flatten_cons, List.append_assoc]
theorem repS_eq (x : Str) (k : Nat) : (⟨(List.replicate k x.cps).foldl (· ++ ·) #[]⟩ : Str) = repS x k := by
  have := repS_fold x k []
  simp only [List.nil_append] at this
  unfold repS
  rw [← this]
theorem repS_one (x : Str) : repS x 1 = x := by
  unfold repS
  simp
theorem repS_length (x : Str) (k : Nat) : (repS x k).length = k * x.length := by
  unfold repS
  show (List.replicate k x.cps.toList).flatten.toArray.size = _
  simp [List.length_flatten, List.map_replicate, List.sum_replicate_nat]
  rfl
theorem op_mul_str : OpR X (binaryOp .Mult) (fun x y H Q => ∃ (a : Str) (i : Int), x = .str a ∧ y = .int i ∧ (-(2 ^ 31) ≤ i ∧ i ≤ 2 ^ 31 ∧ a.length * i.toNat ≤ sizeLine) ∧ Q (.str (repS a i.toNat)) H) := by
  intro pins s σ H x y v u Q I rx ry h
  obtain ⟨a, i, rfl, rfl, ⟨h1, h2, h3⟩, q⟩ := h
  obtain ⟨t, rfl⟩ := rx
  obtain ⟨t', rfl⟩ := ry
  have hl : Builtin.Str.tooLong (a.length * i.toNat) = false := by
    unfold Builtin.Str.tooLong
    exact decide_eq_false (by omega)
  refine P.mul_str (by
    rw [decide_eq_false (by omega), decide_eq_false (by omega)]; rfl) (fun c _ z => ?_) (fun _ _ => hl) ?_
  · have c1 : (1 : Int) ≤ i := by omega
    have z1 : a.length ≤ sizeLine := Nat.le_trans (Nat.le_mul_of_pos_right _ (by omega)) h3
    have z2 : (sizeLine : Int) = 16777216 := by decide
    have z3 : ((2 ^ 63 - 1) / (2 ^ 31) : Int) ≤ (2 ^ 63 - 1) / i := by
      refine Int.le_ediv_of_mul_le (by omega) ?_
      have z4 : ((2 ^ 63 - 1) / (2 ^ 31) : Int) = 4294967295 := by decide
      rw [z4]
      omega
    have z5 : ((2 ^ 63 - 1) / (2 ^ 31) : Int) = 4294967295 := by decide
    omega
  · by_cases c : i < 1
    · rw [if_pos c]
      have e : repS a i.toNat = Str.empty := by
        rw [show i.toNat = 0 by omega]; rfl
      rw [e] at q
      exact ⟨by decide, .str Str.empty, H, I.tok _, ⟨_, rfl⟩, q⟩
    · rw [if_neg c]
      by_cases c2 : (i == 1 || a.length == 0) = true
      · rw [if_pos c2]
        have e : repS a i.toNat = a := by
          rcases Bool.or_eq_true_iff.mp c2 with z | z
          · have : i = 1 := by simpa using z
            subst this
            exact repS_one a
          · have z' : a.length = 0 := by simpa using z
            have : a = Str.empty := by
              obtain ⟨cs⟩ := a
              have : cs = #[] := Array.eq_empty_of_size_eq_zero z'
              subst this; rfl
            subst this
            unfold repS Str.empty
            simp
        rw [e] at q
        exact ⟨.str a, H, I, ⟨_, rfl⟩, q⟩
      · rw [if_neg c2, repS_eq]
        refine ⟨?_, .str _, H, I.tok _, ⟨_, rfl⟩, q⟩
        rw [repS_length, Nat.mul_comm]
        exact h3
/-- two ints that may be multiplied: one of them is short, or both are not too long -/
def mulOk (i j : Int) : Prop := i.natAbs < 18446744073709551616 ∨ j.natAbs < 18446744073709551616 ∨ i.natAbs.log2 + j.natAbs.log2 < 1000000
instance (i j : Int) : Decidable (mulOk i j) := inferInstanceAs (Decidable (_ ∨ _ ∨ _))
theorem short_bits {i : Int} (h : i.natAbs < 18446744073709551616) : Builtin.Int.intBits i ≤ 64 := by
  have l : i.natAbs.log2 < 64 := PySem.Flt.log2_lt_of (by decide) h
  unfold Builtin.Int.intBits
  split <;> omega
theorem mulOk.ok {i j : Int} (h : mulOk i j) : IntMulOk i j := by
  rcases h with h | h | h
  · exact .of_left (short_bits h)
  · exact .of_right (short_bits h)
  · exact CMulW.ok h
theorem op_mulI : OpR X (binaryOp .Mult) (rI mulOk fun i j => .int (i * j)) := opI fun _ _ _ _ _ _ _ hc q => mul_int q hc.ok
theorem two31 : (2 : Int) ^ 31 = 2147483648 := by decide +kernel
theorem two63 : (2 : Int) ^ 63 = 9223372036854775808 := by decide +kernel
theorem two64 : (2 : Nat) ^ 64 = 18446744073709551616 := by decide +kernel
/-- * : ints, a text or a list times an int -/
def mulD (o : Bool) (x y : D) (G : DH) : R D :=
  match x, y with
  | .int i, .int j => if mulOk i j then .ok (.int (i * j)) G else .stop
  | .str a, .int i => if -2147483648 ≤ i ∧ i ≤ 2147483648 ∧ a.length * i.toNat ≤ sizeLine then .ok (.str (repS a i.toNat)) G else .stop
  | x, .int i => match lstM G x with
    | some xs => if -9223372036854775808 ≤ i ∧ i < 9223372036854775808 ∧ xs.length * i.toNat ≤ sizeLine then mkL o (List.replicate i.toNat xs).flatten G else .stop
    | none => .stop
  | _, _ => .stop
theorem op_mulD (o : Bool) : OpOk X E (binaryOp .Mult) (mulD o) := by
  refine ⟨_, (op_mulI.or op_mul_str).or op_rep, fun W x y v w Q hK S dx dy h => ?_⟩
  unfold mulD at h
  split at h
  · simp only [Den] at dx dy
    split at h
    · rename_i c
      exact .inl (.inl ⟨_, _, dx, dy, c, h.here S (by simp [Den])⟩)
    · exact h.elim
  · simp only [Den] at dx dy
    split at h
    · rename_i c
      rw [← two31] at c
      exact .inl (.inr ⟨_, _, dx, dy, c, h.here S (by simp [Den])⟩)
    · exact h.elim
  · rename_i i _ _
    simp only [Den] at dy
    split at h
    · rename_i xs e
      split at h
      · rename_i c
        rw [← two63] at c
        obtain ⟨a, vs, rfl, ha, ra⟩ := lstM_den S dx e
        exact .inr ⟨a, i, vs, rfl, dy, ha, c.1, c.2.1, by rw [ra.len]; exact c.2.2, fin_mkL S h (ra.rep _)⟩
      · exact h.elim
    · exact h.elim
  · exact h.elim
def negD (x : D) (G : DH) : R D :=
  match x with
  | .int i => .ok (.int (-i)) G
  | _ => .stop
def dUn (F : D → DH → R D) (a : DE) : DE := fun s G => (a s G).bind F
theorem de_neg {a : Expr} {fa : DE} {pos : Pos} (ha : DEOk X E a fa) : DEOk X E (.UnaryOp .USub a pos) (dUn negD fa) := by
  obtain ⟨ta, pa, qa⟩ := ha.out
  refine ⟨_, pe_un un_neg pa, fun W σ s Q hK S L h => ?_⟩
  refine qa W σ s _ hK S L (h.seq fun x v W1 x1 S1 d1 h1 => ?_)
  unfold negD at h1
  split at h1
  · simp only [Den] at d1
    exact ⟨_, d1, h1.here S1 (by simp [Den])⟩
  · exact h1.elim

/-! ### order of ints and texts -/
def ltS (a b : Str) : Bool := decide (a.cps.toList < b.cps.toList)
def ltD (x y : D) (G : DH) : R D :=
  match x, y with
  | .int i, .int j => .ok (.bl (decide (i < j))) G
  | .str a, .str b => .ok (.bl (ltS a b)) G
  | _, _ => .stop
def leD (x y : D) (G : DH) : R D :=
  match x, y with
  | .int i, .int j => .ok (.bl (decide (i ≤ j))) G
  | .str a, .str b => .ok (.bl (!ltS b a)) G
  | _, _ => .stop
def gtD (x y : D) (G : DH) : R D :=
  match x, y with
  | .int i, .int j => .ok (.bl (decide (j < i))) G
  | .str a, .str b => .ok (.bl (ltS b a)) G
  | _, _ => .stop
def geD (x y : D) (G : DH) : R D :=
  match x, y with
  | .int i, .int j => .ok (.bl (decide (j ≤ i))) G
  | .str a, .str b => .ok (.bl (!ltS a b)) G
  | _, _ => .stop
theorem op_ltD : OpOk X E (compareOp .Lt) ltD := by
  refine ⟨_, op_lt.or op_lt_str, fun W x y v w Q hK S dx dy h => ?_⟩
  unfold ltD at h
  split at h
  · simp only [Den] at dx dy
    exact .inl ⟨_, _, dx, dy, h.here S (by simp [Den])⟩
  · simp only [Den] at dx dy
    exact .inr ⟨_, _, dx, dy, h.here S (by simp [Den, ltS])⟩
  · exact h.elim
theorem op_leD : OpOk X E (compareOp .LtE) leD := by
  refine ⟨_, op_le.or op_le_str, fun W x y v w Q hK S dx dy h => ?_⟩
  unfold leD at h
  split at h
  · simp only [Den] at dx dy
    exact .inl ⟨_, _, dx, dy, h.here S (by simp [Den])⟩
  · simp only [Den] at dx dy
    exact .inr ⟨_, _, dx, dy, h.here S (by simp [Den, ltS])⟩
  · exact h.elim
theorem op_gtD : OpOk X E (compareOp .Gt) gtD := by
  refine ⟨_, op_gt.or op_gt_str, fun W x y v w Q hK S dx dy h => ?_⟩
  unfold gtD at h
  split at h
  · simp only [Den] at dx dy
    exact .inl ⟨_, _, dx, dy, h.here S (by simp [Den])⟩
  · simp only [Den] at dx dy
    exact .inr ⟨_, _, dx, dy, h.here S (by simp [Den, ltS])⟩
  · exact h.elim
theorem op_geD : OpOk X E (compareOp .GtE) geD := by
  refine ⟨_, op_ge.or op_ge_str, fun W x y v w Q hK S dx dy h => ?_⟩
  unfold geD at h
  split at h
  · simp only [Den] at dx dy
    exact .inl ⟨_, _, dx, dy, h.here S (by simp [Den])⟩
  · simp only [Den] at dx dy
    exact .inr ⟨_, _, dx, dy, h.here S (by simp [Den, ltS])⟩
  · exact h.elim
/-- is None -/
def isNon : D → Bool
  | .non => true
  | _ => false
theorem isNon_den {W : Wd} {x : D} {v : V} (h : Den W x v) : decide (v = .non) = isNon x := by
  cases x <;> simp only [Den] at h <;> first
    | (subst h; simp [isNon]; done)
    | (obtain ⟨a, rfl, _⟩ := h; simp [isNon]; done)
    | (obtain ⟨a, vs, rfl, _⟩ := h; simp [isNon]; done)
    | (obtain ⟨a, _, rfl⟩ := h; simp [isNon]; done)
    | (obtain ⟨a, _, _, _, rfl, _⟩ := h; simp [isNon]; done)
def isD (x y : D) (G : DH) : R D :=
  match y with
  | .non => .ok (.bl (isNon x)) G
  | _ => .stop
def isnotD (x y : D) (G : DH) : R D :=
  match y with
  | .non => .ok (.bl (!isNon x)) G
  | _ => .stop
theorem op_isD : OpOk X E (compareOp .Is) isD := by
  refine ⟨_, op_isN, fun W x y v w Q hK S dx dy h => ?_⟩
  unfold isD at h
  split at h
  · simp only [Den] at dy
    exact ⟨dy, h.here S (by simp [Den, isNon_den dx])⟩
  · exact h.elim
theorem op_isnotD : OpOk X E (compareOp .IsNot) isnotD := by
  refine ⟨_, op_notN, fun W x y v w Q hK S dx dy h => ?_⟩
  unfold isnotD at h
  split at h
  · simp only [Den] at dy
    exact ⟨dy, h.here S (by simp [Den, isNon_den dx])⟩
  · exact h.elim

/-! ### truth, and, or, not, if -/
def truD (G : DH) : D → Option Bool
  | .non => some false
  | .bl b => some b
  | .int i => some (i != 0)
  | .str x => if x.length ≤ sizeLine then some ((x.length : Int) != 0) else none
  | .tup xs => some (!xs.isEmpty)
  | .ktup xs => some (!xs.isEmpty)
  | x => (lstOf G x).map fun xs => !xs.isEmpty
theorem truD_den {W : Wd} {x : D} {v : V} {k : Bool} (S : Sim W) (h : Den W x v) (e : truD W.G x = some k) : TruV W.K v W.H k := by
  have viaL : ∀ {x : D}, Den W x v → (lstOf W.G x).map (fun xs => !xs.isEmpty) = some k → TruV W.K v W.H k := fun {x} h e => by
    cases q : lstOf W.G x with
    | none => rw [q] at e; cases e
    | some xs =>
      rw [q] at e
      obtain ⟨a, vs, rfl, h1, h2⟩ := lstOf_den S h q
      simp only [Option.map_some, Option.some.injEq] at e
      exact .inl ⟨vs, h1, by rw [h2.emp, e]⟩
  cases x with
  | fn nm => cases e
  | err nm kvs => cases e
  | non => simp only [Den] at h; subst h; simp only [truD, Option.some.injEq] at e; exact e.symm
  | bl b => simp only [Den] at h; subst h; simp only [truD, Option.some.injEq] at e; exact e.symm
  | int b => simp only [Den] at h; subst h; simp only [truD, Option.some.injEq] at e; exact e.symm
  | str b =>
    simp only [Den] at h; subst h
    simp only [truD] at e
    split at e
    · rename_i c; simp only [Option.some.injEq] at e; exact ⟨c, e.symm⟩
    · cases e
  | tup xs =>
    simp only [truD, Option.some.injEq] at e
    obtain ⟨a, vs, rfl, h1, h2⟩ := tup_den h
    exact .inr (.inl ⟨vs, h1, by rw [h2.emp, e]⟩)
  | ktup xs =>
    simp only [truD, Option.some.injEq] at e
    obtain ⟨a, vs, rfl, h1, h2⟩ := ktup_den h
    exact .inr (.inl ⟨vs, h1, by rw [h2.emp, e]⟩)
  | lst xs => exact viaL h e
  | frz xs => exact viaL h e
  | obj n => exact viaL h e
  | dK kvs => cases e
  | dT kvs => cases e
def dAnd (a b : DE) : DE := fun s G => (a s G).bind fun x G => match truD G x with
  | some true => b s G
  | some false => .ok x G
  | none => .stop
def dOr (a b : DE) : DE := fun s G => (a s G).bind fun x G => match truD G x with
  | some true => .ok x G
  | some false => b s G
  | none => .stop
def dNot (a : DE) : DE := fun s G => (a s G).bind fun x G => match truD G x with
  | some b => .ok (.bl (!b)) G
  | none => .stop
theorem de_one {op} {a : Expr} {fa : DE} {pos : Pos} (ha : DEOk X E a fa) : DEOk X E (.BoolOp op [a] pos) fa := by
  obtain ⟨ta, pa, qa⟩ := ha.out
  exact ⟨_, pe_one pa, qa⟩
theorem de_and {a b : Expr} {rest : List Expr} {fa fb : DE} {pos : Pos} (ha : DEOk X E a fa) (hb : DEOk X E (.BoolOp .And (b :: rest) pos) fb) : DEOk X E (.BoolOp .And (a :: b :: rest) pos) (dAnd fa fb) := by
  obtain ⟨ta, pa, qa⟩ := ha.out
  obtain ⟨tb, pb, qb⟩ := hb.out
  refine ⟨_, pe_andT pa pb, fun W σ s Q hK S L h => ?_⟩
  refine qa W σ s _ hK S L (h.seq fun x v W1 x1 S1 d1 h1 => ?_)
  split at h1
  · rename_i e
    exact ⟨true, by rw [← hK, ← x1.k]; exact truD_den S1 d1 e, by rw [if_pos rfl]; exact qb W1 σ s Q (x1.k.trans hK) S1 (L.mono x1) h1⟩
  · rename_i e
    exact ⟨false, by rw [← hK, ← x1.k]; exact truD_den S1 d1 e, by rw [if_neg Bool.false_ne_true]; exact h1.here S1 d1⟩
  · exact h1.elim
theorem de_or {a b : Expr} {rest : List Expr} {fa fb : DE} {pos : Pos} (ha : DEOk X E a fa) (hb : DEOk X E (.BoolOp .Or (b :: rest) pos) fb) : DEOk X E (.BoolOp .Or (a :: b :: rest) pos) (dOr fa fb) := by
  obtain ⟨ta, pa, qa⟩ := ha.out
  obtain ⟨tb, pb, qb⟩ := hb.out
  refine ⟨_, pe_orT pa pb, fun W σ s Q hK S L h => ?_⟩
  refine qa W σ s _ hK S L (h.seq fun x v W1 x1 S1 d1 h1 => ?_)
  split at h1
  · rename_i e
    exact ⟨true, by rw [← hK, ← x1.k]; exact truD_den S1 d1 e, by rw [if_pos rfl]; exact h1.here S1 d1⟩
  · rename_i e
    exact ⟨false, by rw [← hK, ← x1.k]; exact truD_den S1 d1 e, by rw [if_neg Bool.false_ne_true]; exact qb W1 σ s Q (x1.k.trans hK) S1 (L.mono x1) h1⟩
  · exact h1.elim
theorem de_not {a : Expr} {fa : DE} {pos : Pos} (ha : DEOk X E a fa) : DEOk X E (.UnaryOp .Not a pos) (dNot fa) := by
  obtain ⟨ta, pa, qa⟩ := ha.out
  refine ⟨_, pe_notT pa, fun W σ s Q hK S L h => ?_⟩
  refine qa W σ s _ hK S L (h.seq fun x v W1 x1 S1 d1 h1 => ?_)
  split at h1
  · rename_i b e
    exact ⟨b, by rw [← hK, ← x1.k]; exact truD_den S1 d1 e, h1.here S1 (by simp [Den])⟩
  · exact h1.elim
/-- tests -/
def dTru (a : DE) : DT := fun s G => (a s G).bind fun x G => match truD G x with
  | some b => .ok b G
  | none => .stop
theorem dt_tru {a : Expr} {fa : DE} (ha : DEOk X E a fa) (he : ∀ whole, isTrue a X.env whole = (do let v ← whole; standAt a.pos; holding [v] (truthy v)) := by intro _; rfl) : DTOk X E a (dTru fa) := by
  obtain ⟨ta, pa, qa⟩ := ha.out
  refine ⟨_, pt_truth pa he, fun W σ s Q hK S L h => ?_⟩
  refine qa W σ s _ hK S L (h.seq fun x v W1 x1 S1 d1 h1 => ?_)
  split at h1
  · rename_i b e
    exact ⟨b, by rw [← hK, ← x1.k]; exact truD_den S1 d1 e, h1.here S1 rfl⟩
  · exact h1.elim
def tAndD (a b : DT) : DT := fun s G => (a s G).bind fun c G => if c = true then b s G else .ok false G
def tOrD (a b : DT) : DT := fun s G => (a s G).bind fun c G => if c = true then .ok true G else b s G
def tNotD (a : DT) : DT := fun s G => (a s G).bind fun c G => .ok (!c) G
theorem dw_and1 {a : Expr} {fa : DT} {pos : Pos} (ha : DTOk X E a fa) : DWOk X E (.BoolOp .And [a] pos) fa := let ⟨t, p, q⟩ := ha.out; ⟨t, pw_and1 p, q⟩
theorem dw_or1 {a : Expr} {fa : DT} {pos : Pos} (ha : DTOk X E a fa) : DWOk X E (.BoolOp .Or [a] pos) fa := let ⟨t, p, q⟩ := ha.out; ⟨t, pw_or1 p, q⟩
theorem dw_and {a b : Expr} {rest : List Expr} {fa fb : DT} {pos : Pos} (ha : DTOk X E a fa) (hb : DWOk X E (.BoolOp .And (b :: rest) pos) fb) : DWOk X E (.BoolOp .And (a :: b :: rest) pos) (tAndD fa fb) := by
  obtain ⟨ta, pa, qa⟩ := ha.out
  obtain ⟨tb, pb, qb⟩ := hb.out
  refine ⟨_, pw_and pa pb, fun W σ s Q hK S L h => ?_⟩
  refine qa W σ s _ hK S L (h.seq fun x v W1 x1 S1 d1 h1 => ?_)
  obtain rfl : x = v := d1
  cases x with
  | true => rw [if_pos rfl] at h1 ⊢; exact qb W1 σ s Q (x1.k.trans hK) S1 (L.mono x1) h1
  | false => rw [if_neg Bool.false_ne_true] at h1 ⊢; exact Fin.here (RA := RB) S1 h1 rfl
theorem dw_or {a b : Expr} {rest : List Expr} {fa fb : DT} {pos : Pos} (ha : DTOk X E a fa) (hb : DWOk X E (.BoolOp .Or (b :: rest) pos) fb) : DWOk X E (.BoolOp .Or (a :: b :: rest) pos) (tOrD fa fb) := by
  obtain ⟨ta, pa, qa⟩ := ha.out
  obtain ⟨tb, pb, qb⟩ := hb.out
  refine ⟨_, pw_or pa pb, fun W σ s Q hK S L h => ?_⟩
  refine qa W σ s _ hK S L (h.seq fun x v W1 x1 S1 d1 h1 => ?_)
  obtain rfl : x = v := d1
  cases x with
  | true => rw [if_pos rfl] at h1 ⊢; exact Fin.here (RA := RB) S1 h1 rfl
  | false => rw [if_neg Bool.false_ne_true] at h1 ⊢; exact qb W1 σ s Q (x1.k.trans hK) S1 (L.mono x1) h1
theorem dt_not {a : Expr} {fa : DT} {pos : Pos} (ha : DTOk X E a fa) : DTOk X E (.UnaryOp .Not a pos) (tNotD fa) := by
  obtain ⟨ta, pa, qa⟩ := ha.out
  refine ⟨_, pt_not pa, fun W σ s Q hK S L h => ?_⟩
  refine qa W σ s _ hK S L (h.seq fun x v W1 x1 S1 d1 h1 => ?_)
  obtain rfl : x = v := d1
  exact Fin.here (RA := RB) S1 h1 rfl
def dIf (c : DT) (a b : DE) : DE := fun s G => (c s G).bind fun k G => if k = true then a s G else b s G
theorem de_if {c a b : Expr} {fc : DT} {fa fb : DE} {pos : Pos} (hc : DTOk X E c fc) (ha : DEOk X E a fa) (hb : DEOk X E b fb) : DEOk X E (.IfExp c a b pos) (dIf fc fa fb) := by
  obtain ⟨tc, pc, qc⟩ := hc.out
  obtain ⟨ta, pa, qa⟩ := ha.out
  obtain ⟨tb, pb, qb⟩ := hb.out
  refine ⟨_, pe_ifExp pc pa pb, fun W σ s Q hK S L h => ?_⟩
  refine qc W σ s _ hK S L (h.seq fun x v W1 x1 S1 d1 h1 => ?_)
  obtain rfl : x = v := d1
  cases x with
  | true => rw [if_pos rfl] at h1 ⊢; exact qa W1 σ s Q (x1.k.trans hK) S1 (L.mono x1) h1
  | false => rw [if_neg Bool.false_ne_true] at h1 ⊢; exact qb W1 σ s Q (x1.k.trans hK) S1 (L.mono x1) h1

/-! ### arguments, displays -/
def dNil : DA := fun _ G => .ok [] G
def dCons (a : DE) (r : DA) : DA := fun s G => (a s G).bind fun x G => (r s G).bind fun xs G => .ok (x :: xs) G
theorem da_nil : DAOk X E [] dNil := ⟨_, pa_nil, fun W σ s Q hK S L h => Fin.here (RA := DenL) S h (by simp [DenL])⟩
theorem da_cons {e : Expr} {es : List Expr} {f : DE} {g : DA} (ha : DEOk X E e f) (hr : DAOk X E es g) (hs : starEach (e :: es) X.env = (false, eval e X.env) :: starEach es X.env := by rfl) : DAOk X E (e :: es) (dCons f g) := by
  obtain ⟨ta, pa, qa⟩ := ha.out
  obtain ⟨tr, pr, qr⟩ := hr.out
  refine ⟨_, pa_cons pa pr hs, fun W σ s Q hK S L h => ?_⟩
  refine qa W σ s _ hK S L (h.seq fun x v W1 x1 S1 d1 h1 => ?_)
  refine qr W1 σ s _ (x1.k.trans hK) S1 (L.mono x1) (Fin.seq (RC := DenL) h1 fun xs vs W2 x2 S2 d2 h2 => ?_)
  refine Fin.here (RA := DenL) S2 h2 ?_
  simp only [DenL]
  exact ⟨v, vs, rfl, Den.mono x2 _ _ d1, d2⟩
def dTup (a : DA) : DE := fun s G => (a s G).bind fun xs G => if xs.length ≤ sizeLine then .ok (.tup xs) G else .stop
def dLst (o : Bool) (a : DA) : DE := fun s G => (a s G).bind fun xs G => if xs.length ≤ sizeLine then mkL o xs G else .stop
theorem de_tup {es : List Expr} {f : DA} {x1 : Nat} {pos : Pos} (ha : DAOk X E es f) : DEOk X E (.Tuple es x1 pos) (dTup f) := by
  obtain ⟨ta, pa, qa⟩ := ha.out
  refine ⟨_, pe_tup pa, fun W σ s Q hK S L h => ?_⟩
  refine qa W σ s _ hK S L (Fin.seq (RC := Den) h fun xs vs W1 x1 S1 d1 h1 => ?_)
  split at h1
  · rename_i c
    exact ⟨by rw [d1.len]; exact c, fin_tup S1 h1 d1⟩
  · exact h1.elim
theorem de_lst (o : Bool) {es : List Expr} {f : DA} {pos : Pos} (ha : DAOk X E es f) : DEOk X E (.List es pos) (dLst o f) := by
  obtain ⟨ta, pa, qa⟩ := ha.out
  refine ⟨_, pe_lst pa, fun W σ s Q hK S L h => ?_⟩
  refine qa W σ s _ hK S L (Fin.seq (RC := Den) h fun xs vs W1 x1 S1 d1 h1 => ?_)
  split at h1
  · rename_i c
    exact ⟨by rw [d1.len]; exact c, fin_mkL S1 h1 d1⟩
  · exact h1.elim

/-! ### subscripts, slices -/
def ixD (x y : D) (G : DH) : R D :=
  match x, y with
  | .str z, .int i => if z.length ≤ sizeLine then (match atI z.cps.toList i with | some c => .ok (.str ⟨#[c]⟩) G | none => .stop) else .stop
  | x, .int i => match seqOf G x with
    | some xs => (match atI xs i with | some d => .ok d G | none => .stop)
    | none => .stop
  | _, _ => .stop
theorem atI_den {W : Wd} {xs : List D} {vs : List V} {i : Int} {d : D} (r : DenL W xs vs) (e : atI xs i = some d) : ∃ v, atI vs i = some v ∧ Den W d v := by
  unfold atI at e ⊢
  rw [r.len]
  cases q : ixN xs.length i with
  | none => rw [q] at e; cases e
  | some j =>
    rw [q] at e
    exact r.at e
theorem ix_D : ∃ r : R2, IxR X r ∧ ∀ (W : Wd) (x y : D) (v w : V) (Q : VK), W.K = X.K → Sim W → Den W x v → Den W y w → Fin Den W E (ixD x y W.G) Q → r v w W.H Q := by
  refine ⟨_, ix_seq, fun W x y v w Q hK S dx dy h => ?_⟩
  have viaL : ∀ {x : D} {i : Int}, Den W x v → w = .int i → Fin Den W E (match lstOf W.G x with | some xs => (match atI xs i with | some d => R.ok d W.G | none => .stop) | none => .stop) Q → rIx X.K v w W.H Q := fun {x i} dx dy h => by
    cases q : lstOf W.G x with
    | none => rw [q] at h; exact h.elim
    | some xs =>
      rw [q] at h
      obtain ⟨a, vs, rfl, h1, h2⟩ := lstOf_den S dx q
      cases e : atI xs i with
      | none => simp only [e] at h; exact h.elim
      | some d =>
        simp only [e] at h
        obtain ⟨u, e1, e2⟩ := atI_den h2 e
        exact .inl ⟨a, vs, i, u, rfl, dy, by rw [← hK]; exact h1, e1, h.here S e2⟩
  unfold ixD at h
  split at h
  · simp only [Den] at dx dy
    split at h
    · rename_i c
      split at h
      · rename_i e
        exact .inr (.inr ⟨_, _, _, dx, dy, c, e, h.here S (by simp [Den])⟩)
      · exact h.elim
    · exact h.elim
  · rename_i i _
    simp only [Den] at dy
    cases x with
    | tup xs =>
      simp only [seqOf] at h
      obtain ⟨a, vs, rfl, h1, h2⟩ := tup_den dx
      split at h
      · rename_i e
        obtain ⟨u, e1, e2⟩ := atI_den h2 e
        exact .inr (.inl ⟨a, vs, i, u, rfl, dy, by rw [← hK]; exact h1, e1, h.here S e2⟩)
      · exact h.elim
    | ktup xs =>
      simp only [seqOf] at h
      obtain ⟨a, vs, rfl, h1, h2⟩ := ktup_den dx
      split at h
      · rename_i e
        obtain ⟨u, e1, e2⟩ := atI_den h2 e
        exact .inr (.inl ⟨a, vs, i, u, rfl, dy, by rw [← hK]; exact h1, e1, h.here S e2⟩)
      · exact h.elim
    | lst xs => exact viaL dx dy h
    | frz xs => exact viaL dx dy h
    | obj n => exact viaL dx dy h
    | _ => exact h.elim
  · exact h.elim
theorem de_ix {a b : Expr} {fa fb : DE} {pos : Pos} (ha : DEOk X E a fa) (hb : DEOk X E b fb) (hs : PlainIx b := by intro _ _; rfl) : DEOk X E (.Subscript a b pos) (dBin ixD fa fb) := by
  obtain ⟨r, hr, qr⟩ := ix_D (X := X) (E := E)
  obtain ⟨ta, pa, qa⟩ := ha.out
  obtain ⟨tb, pb, qb⟩ := hb.out
  exact ⟨_, pe_ix hr pa pb hs, bin_out qa qb qr⟩
abbrev DO_ := DSl → DH → R (Option Int)
abbrev RO : Wd → Option Int → Option Int → Prop := fun _ a b => a = b
structure DPOk (X : Cx) (E : XK) (e : Option Expr) (f : DO_) : Prop where
  out : ∃ t : TO, PO X e t ∧ ∀ (W : Wd) (σ : L2.St) (s : DSl) (Q : Option Int → Hp → Prop), W.K = X.K → Sim W → Sl W σ s → Fin RO W E (f s W.G) Q → t σ W.H Q
def dNoP : DO_ := fun _ G => .ok none G
def dP (a : DE) : DO_ := fun s G => (a s G).bind fun x G => match x with
  | .int i => .ok (some i) G
  | _ => .stop
theorem dp_none : DPOk X E none dNoP := ⟨_, po_none, fun W σ s Q hK S L h => Fin.here (RA := RO) S h rfl⟩
theorem dp_some {e : Expr} {f : DE} (ha : DEOk X E e f) : DPOk X E (some e) (dP f) := by
  obtain ⟨ta, pa, qa⟩ := ha.out
  refine ⟨_, po_some pa, fun W σ s Q hK S L h => ?_⟩
  refine qa W σ s _ hK S L (Fin.seq (RC := RO) h fun x v W1 x1 S1 d1 h1 => ?_)
  split at h1
  · simp only [Den] at d1
    exact ⟨_, d1, Fin.here (RA := RO) S1 h1 rfl⟩
  · exact h1.elim
def cutD {α : Type} (xs : List α) (lo hi : Option Int) : List α := (xs.drop (HT.sIx xs.length 0 lo)).take (HT.sIx xs.length xs.length hi - HT.sIx xs.length 0 lo)
def slD (o : Bool) (x : D) (lo hi : Option Int) (G : DH) : R D :=
  match x with
  | .str z => if z.length ≤ sizeLine then .ok (.str (cutS z lo hi)) G else .stop
  | .tup xs => .ok (.tup (cutD xs lo hi)) G
  | x => match lstOf G x with
    | some xs => mkL o (cutD xs lo hi) G
    | none => .stop
theorem cut_den {W : Wd} {xs : List D} {vs : List V} (r : DenL W xs vs) (lo hi : Option Int) : DenL W (cutD xs lo hi) (cutV vs lo hi) := by
  unfold cutD cutV
  rw [r.len]
  exact (r.drop _).take _
def dSl (o : Bool) (a : DE) (l u : DO_) : DE := fun s G => (a s G).bind fun x G => (l s G).bind fun lo G => (u s G).bind fun hi G => slD o x lo hi G
theorem de_slice (o : Bool) {e : Expr} {lo hi : Option Expr} {fe : DE} {fl fh : DO_} {pos p2 : Pos} (he : DEOk X E e fe) (hl : DPOk X E lo fl) (hh : DPOk X E hi fh) : DEOk X E (.Subscript e (.Slice lo hi none p2) pos) (dSl o fe fl fh) := by
  obtain ⟨te, pe, qe⟩ := he.out
  obtain ⟨tl, pl, ql⟩ := hl.out
  obtain ⟨th, ph, qh⟩ := hh.out
  refine ⟨_, pe_slice ((sl_str.or sl_tupA).or sl_list) pe pl ph, fun W σ s Q hK S L h => ?_⟩
  refine qe W σ s _ hK S L (h.seq fun x v W1 x1 S1 d1 h1 => ?_)
  refine ql W1 σ s _ (x1.k.trans hK) S1 (L.mono x1) (Fin.seq (RC := Den) h1 fun l l' W2 x2 S2 d2 h2 => ?_)
  obtain rfl : l = l' := d2
  refine qh W2 σ s _ (x2.k.trans (x1.k.trans hK)) S2 ((L.mono x1).mono x2) (Fin.seq (RC := Den) h2 fun u u' W3 x3 S3 d3 h3 => ?_)
  obtain rfl : u = u' := d3
  have hK3 : W3.K = X.K := x3.k.trans (x2.k.trans (x1.k.trans hK))
  have d := Den.mono (x2.trans x3) _ _ d1
  have viaL : ∀ {x : D}, Den W3 x v → Fin Den W3 E (match lstOf W3.G x with | some xs => mkL o (cutD xs l u) W3.G | none => .stop) Q → rSlL X.K v l u W3.H Q := fun {x} dx h => by
    cases q : lstOf W3.G x with
    | none => rw [q] at h; exact h.elim
    | some xs =>
      rw [q] at h
      obtain ⟨a, vs, rfl, e1, e2⟩ := lstOf_den S3 dx q
      exact ⟨a, vs, rfl, by rw [← hK3]; exact e1, fin_mkL S3 h (cut_den e2 _ _)⟩
  unfold slD at h3
  cases x with
  | str z =>
    simp only [Den] at d
    simp only at h3
    split at h3
    · rename_i c
      exact .inl (.inl ⟨z, d, c, h3.here S3 (by simp [Den])⟩)
    · exact h3.elim
  | tup xs =>
    obtain ⟨a, vs, rfl, e1, e2⟩ := tup_den d
    refine .inl (.inr ⟨a, vs, rfl, by rw [← hK3]; exact e1, fun c => ?_, fun _ => fin_tup S3 h3 (cut_den e2 _ _)⟩)
    refine h3.here S3 ?_
    have z : cutD xs l u = xs := by
      rw [e2.len] at c
      unfold cutD
      rw [c.1, c.2]
      simp
    rw [z]
    exact d
  | lst xs => exact .inr (viaL d h3)
  | frz xs => exact .inr (viaL d h3)
  | obj n => exact .inr (viaL d h3)
  | _ => exact h3.elim
end
end DL
end
/-! ==== DStmt ==== -/
section
set_option Elab.async false
set_option linter.all false
set_option autoImplicit false
set_option maxRecDepth 100000
set_option maxHeartbeats 4000000
/-! DL: statements, targets, what is walked, loops. -/
namespace DL
open PySem PySem.Spec PyProof.Rows L2

inductive Out where
  | nx
  | rt (d : D)
  | bk
  | ct
abbrev DS := DSl → DH → R (Out × DSl)

/-- what is wanted behind a statement -/
def SFin (W : Wd) (E : XK) (r : R (Out × DSl)) (D : Ends) : Prop :=
  match r with
  | .ok (.nx, s) G => ∀ (σ : L2.St) (W' : Wd), Ext W W' → Sim W' → W'.G = G → Sl W' σ s → D.nx σ W'.H
  | .ok (.rt d, _) G => ∀ (v : V) (W' : Wd), Ext W W' → Sim W' → W'.G = G → Den W' d v → D.rt v W'.H
  | .ok (.bk, s) G => ∀ (σ : L2.St) (W' : Wd), Ext W W' → Sim W' → W'.G = G → Sl W' σ s → D.bk σ W'.H
  | .ok (.ct, s) G => ∀ (σ : L2.St) (W' : Wd), Ext W W' → Sim W' → W'.G = G → Sl W' σ s → D.ct σ W'.H
  | .ex e G => ∀ (c : Value) (od : Option Addr) (W' : Wd), Ext W W' → Sim W' → W'.G = G → DenX W' e c od → E c od W'.H
  | .stop => False
section
variable {α β : Type} {RA : Wd → α → β → Prop} {W : Wd} {E : XK} {D : Ends}
theorem SFin.mono {W0 : Wd} (x : Ext W0 W) {r : R (Out × DSl)} (h : SFin W0 E r D) : SFin W E r D := by
  cases r with
  | ok a G =>
    obtain ⟨o, s⟩ := a
    cases o with
    | nx => exact fun σ W' y S e q => h σ W' (x.trans y) S e q
    | rt d => exact fun σ W' y S e q => h σ W' (x.trans y) S e q
    | bk => exact fun σ W' y S e q => h σ W' (x.trans y) S e q
    | ct => exact fun σ W' y S e q => h σ W' (x.trans y) S e q
  | ex e G => exact fun c od W' y S e q => h c od W' (x.trans y) S e q
  | stop => exact h
/-- an expression first -/
theorem SFin.seq {r : R α} {k : α → DH → R (Out × DSl)} {Q' : β → Hp → Prop} (h : SFin W E (r.bind k) D)
    (hk : ∀ a b W', Ext W W' → Sim W' → RA W' a b → SFin W' E (k a W'.G) D → Q' b W'.H) : Fin RA W E r Q' := by
  cases r with
  | ok a G => exact fun b W' x S e q => hk a b W' x S q (by subst e; exact SFin.mono x h)
  | ex e G => exact h
  | stop => exact h
/-- a statement first -/
def sBind (r : R (Out × DSl)) (k : DSl → DH → R (Out × DSl)) : R (Out × DSl) :=
  match r with
  | .ok (.nx, s) G => k s G
  | r => r
theorem SFin.then {r : R (Out × DSl)} {k : DSl → DH → R (Out × DSl)} (h : SFin W E (sBind r k) D) {n : L2.St → Hp → Prop}
    (hk : ∀ s σ W', Ext W W' → Sim W' → Sl W' σ s → SFin W' E (k s W'.G) D → n σ W'.H) : SFin W E r { D with nx := n } := by
  cases r with
  | ok a G =>
    obtain ⟨o, s⟩ := a
    cases o with
    | nx => exact fun σ W' x S e q => hk s σ W' x S q (by subst e; exact SFin.mono x h)
    | rt d => exact h
    | bk => exact h
    | ct => exact h
  | ex e G => exact h
  | stop => exact h
end

structure DSOk (X : Cx) (E : XK) (st : Stmt) (f : DS) : Prop where
  out : ∃ t : TS, PS X st t ∧ ∀ (W : Wd) (σ : L2.St) (s : DSl) (D : Ends), W.K = X.K → Sim W → Sl W σ s → SFin W E (f s W.G) D → t D σ W.H
structure DSsOk (X : Cx) (E : XK) (st : List Stmt) (f : DS) : Prop where
  out : ∃ t : TS, PSs X st t ∧ ∀ (W : Wd) (σ : L2.St) (s : DSl) (D : Ends), W.K = X.K → Sim W → Sl W σ s → SFin W E (f s W.G) D → t D σ W.H
section
variable {X : Cx} {E : XK}

theorem DenL.uno {W : Wd} {d : D} {vs : List V} (h : DenL W [d] vs) : ∃ v, vs = [v] ∧ Den W d v := by
  simp only [DenL] at h
  obtain ⟨v, _, rfl, h1, rfl⟩ := h
  exact ⟨v, rfl, h1⟩
theorem DenL.two {W : Wd} {d e : D} {vs : List V} (h : DenL W [d, e] vs) : ∃ v w, vs = [v, w] ∧ Den W d v ∧ Den W e w := by
  simp only [DenL] at h
  obtain ⟨v, _, rfl, h1, w, _, rfl, h2, rfl⟩ := h
  exact ⟨v, w, rfl, h1, h2⟩
def sPass : DS := fun s G => .ok (.nx, s) G
def sSeq (f g : DS) : DS := fun s G => sBind (f s G) g
theorem dss_nil : DSsOk X E [] sPass := ⟨_, pss_nil, fun W σ s D hK S L h => h σ W (Ext.refl W) S rfl L⟩
theorem dss_cons {st : Stmt} {rest : List Stmt} {f g : DS} (h1 : DSOk X E st f) (h2 : DSsOk X E rest g) : DSsOk X E (st :: rest) (sSeq f g) := by
  obtain ⟨t, p, q⟩ := h1.out
  obtain ⟨t', p', q'⟩ := h2.out
  refine ⟨_, pss_cons p p', fun W σ s D hK S L h => ?_⟩
  exact q W σ s _ hK S L (SFin.then h fun s' σ' W' x S' L' h' => q' W' σ' s' D (x.k.trans hK) S' L' h')
theorem dss_one {st : Stmt} {f : DS} (h1 : DSOk X E st f) : DSsOk X E [st] f := let ⟨t, p, q⟩ := h1.out; ⟨t, pss_one p, q⟩
theorem ds_pass {pos : Pos} : DSOk X E (.Pass pos) sPass := ⟨_, ps_pass, fun W σ s D hK S L h => h σ W (Ext.refl W) S rfl L⟩
def sBreak : DS := fun s G => .ok (.bk, s) G
def sCont : DS := fun s G => .ok (.ct, s) G
theorem ds_break {pos : Pos} : DSOk X E (.Break pos) sBreak := ⟨_, ps_break, fun W σ s D hK S L h => h σ W (Ext.refl W) S rfl L⟩
theorem ds_cont {pos : Pos} : DSOk X E (.Continue pos) sCont := ⟨_, ps_continue, fun W σ s D hK S L h => h σ W (Ext.refl W) S rfl L⟩
theorem ds_doc {x j pos pos'} : DSOk X E (.Expr (.Constant (.str x) j pos) pos') sPass := ⟨_, ps_doc, fun W σ s D hK S L h => h σ W (Ext.refl W) S rfl L⟩
def sDrop (f : DE) : DS := fun s G => (f s G).bind fun _ G => .ok (.nx, s) G
theorem ds_expr {e : Expr} {f : DE} {pos : Pos} (he : DEOk X E e f) (hs : swapsWith e none pos.line X.env = pure false := by rfl) : DSOk X E (.Expr e pos) (sDrop f) := by
  obtain ⟨t, p, q⟩ := he.out
  refine ⟨_, ps_expr p hs, fun W σ s D hK S L h => ?_⟩
  exact q W σ s _ hK S L (SFin.seq h fun d v W' x S' r h' => h' σ W' (Ext.refl W') S' rfl (L.mono x))
def sRet (f : DE) : DS := fun s G => (f s G).bind fun d G => .ok (.rt d, s) G
theorem ds_ret {e : Expr} {f : DE} {pos : Pos} (he : DEOk X E e f) : DSOk X E (.Return (some e) pos) (sRet f) := by
  obtain ⟨t, p, q⟩ := he.out
  refine ⟨_, ps_ret p, fun W σ s D hK S L h => ?_⟩
  exact q W σ s _ hK S L (SFin.seq h fun d v W' x S' r h' => h' v W' (Ext.refl W') S' rfl r)
def sRetN : DS := fun s G => .ok (.rt .non, s) G
theorem ds_retN {pos : Pos} : DSOk X E (.Return none pos) sRetN := ⟨_, ps_retN, fun W σ s D hK S L h => h .non W (Ext.refl W) S rfl (by simp [Den])⟩
def sIf (c : DT) (a b : DS) : DS := fun s G => (c s G).bind fun k G => if k = true then a s G else b s G
theorem ds_if {c : Expr} {a b : List Stmt} {fc : DT} {fa fb : DS} {pos : Pos} (hc : DTOk X E c fc) (ha : DSsOk X E a fa) (hb : DSsOk X E b fb) : DSOk X E (.If c a b pos) (sIf fc fa fb) := by
  obtain ⟨tc, pc, qc⟩ := hc.out
  obtain ⟨ta, pa, qa⟩ := ha.out
  obtain ⟨tb, pb, qb⟩ := hb.out
  refine ⟨_, ps_if pc pa pb, fun W σ s D hK S L h => ?_⟩
  refine qc W σ s _ hK S L (SFin.seq h fun x v W1 x1 S1 d1 h1 => ?_)
  obtain rfl : x = v := d1
  cases x with
  | true => rw [if_pos rfl] at h1 ⊢; exact qa W1 σ s D (x1.k.trans hK) S1 (L.mono x1) h1
  | false => rw [if_neg Bool.false_ne_true] at h1 ⊢; exact qb W1 σ s D (x1.k.trans hK) S1 (L.mono x1) h1

/-! ### targets -/
abbrev DG := D → DSl → DH → R DSl
abbrev RSl : Wd → DSl → L2.St → Prop := fun W s σ => Sl W σ s
structure DGOk (X : Cx) (E : XK) (tg : Expr) (g : DG) : Prop where
  out : ∃ t : TG, PG X tg t ∧ ∀ (W : Wd) (σ : L2.St) (s : DSl) (d : D) (v : V) (Q : L2.St → Hp → Prop), W.K = X.K → Sim W → Sl W σ s → Den W d v → Fin RSl W E (g d s W.G) Q → t v σ W.H Q
def gNm (i : Nat) : DG := fun d s G => .ok (s.set i (some d)) G
theorem dg_name (i : Nat) {x : Str} {pos : Pos} (hN : X.N.Nodup) (hi : X.N[i]? = some x := by rfl) (hx : Loc X.env.scope x := by first | exact Or.inl rfl | exact Or.inr rfl)
    (hf : X.fn x = true ∨ X.env.scope.names.lookup x = some .local := by first | exact .inl rfl | exact .inr rfl | assumption) : DGOk X E (.Name x pos) (gNm i) :=
  ⟨_, pg_name hN hi hx hf, fun W σ s d v Q hK S L r h => Fin.here (RA := RSl) S h (L.set r)⟩
abbrev DGs := List D → DSl → DH → R DSl
structure DGsOk (X : Cx) (E : XK) (tgs : List Expr) (g : DGs) : Prop where
  out : ∃ t : TGs, PGs X tgs t ∧ ∀ (W : Wd) (σ : L2.St) (s : DSl) (ds : List D) (vs : List V) (Q : L2.St → Hp → Prop), W.K = X.K → Sim W → Sl W σ s → DenL W ds vs → Fin RSl W E (g ds s W.G) Q → t vs σ W.H Q
def gNil : DGs := fun ds s G => match ds with
  | [] => .ok s G
  | _ => .stop
def gCons (g : DG) (r : DGs) : DGs := fun ds s G => match ds with
  | d :: ds => (g d s G).bind fun s G => r ds s G
  | [] => .stop
theorem dgs_nil : DGsOk X E [] gNil := by
  refine ⟨_, pgs_nil, fun W σ s ds vs Q hK S L r h => ?_⟩
  cases ds with
  | nil => exact ⟨by simpa [DenL] using r, Fin.here (RA := RSl) S h L⟩
  | cons d ds => exact h.elim
theorem dgs_cons {e : Expr} {es : List Expr} {g : DG} {gs : DGs} (h1 : DGOk X E e g) (h2 : DGsOk X E es gs)
    (hs : (assignEach (e :: es) X.env).map (·.2) = assign e X.env :: (assignEach es X.env).map (·.2) := by rfl) : DGsOk X E (e :: es) (gCons g gs) := by
  obtain ⟨t, p, q⟩ := h1.out
  obtain ⟨t', p', q'⟩ := h2.out
  refine ⟨_, pgs_cons p p' hs, fun W σ s ds vs Q hK S L r h => ?_⟩
  cases ds with
  | nil => exact h.elim
  | cons d ds =>
    simp only [DenL] at r
    obtain ⟨v, r', rfl, r1, r2⟩ := r
    refine ⟨v, r', rfl, q W σ s d v _ hK S L r1 (Fin.seq (RC := RSl) h fun s1 σ1 W1 x1 S1 L1 h1 => ?_)⟩
    exact q' W1 σ1 s1 ds r' Q (x1.k.trans hK) S1 L1 (DenL.mono x1 _ _ r2) h1
def gTup (n : Nat) (g : DGs) : DG := fun d s G => match tupOf d with
  | some xs => if xs.length = n then g xs s G else .stop
  | none => .stop
theorem dg_tup {es : List Expr} {k : Nat} {g : DGs} {n : Nat} {pos : Pos} (hc : X.calm = true) (h : DGsOk X E es g) (hn : (assignEach es X.env).length = n := by rfl) (hst : (assignEach es X.env).findIdx? (·.1) = none := by rfl) : DGOk X E (.Tuple es k pos) (gTup n g) := by
  obtain ⟨t, p, q⟩ := h.out
  refine ⟨_, pg_tup hc p hn hst, fun W σ s d v Q hK S L r h => ?_⟩
  unfold gTup at h
  split at h
  · rename_i xs e
    obtain ⟨a, vs, rfl, h1, h2⟩ := tupOf_den r e
    split at h
    · rename_i c
      exact ⟨a, vs, rfl, by rw [← hK]; exact h1, by rw [h2.len]; exact c, q W σ s xs vs Q hK S L h2 h⟩
    · exact h.elim
  · exact h.elim
def sAsg (f : DE) (g : DG) : DS := fun s G => (f s G).bind fun d G => (g d s G).bind fun s G => .ok (.nx, s) G
theorem asg_out {te : TE} {tg : TG} {f : DE} {g : DG} (qe : ∀ (W : Wd) (σ : L2.St) (s : DSl) (Q : VK), W.K = X.K → Sim W → Sl W σ s → Fin Den W E (f s W.G) Q → te σ W.H Q)
    (qg : ∀ (W : Wd) (σ : L2.St) (s : DSl) (d : D) (v : V) (Q : L2.St → Hp → Prop), W.K = X.K → Sim W → Sl W σ s → Den W d v → Fin RSl W E (g d s W.G) Q → tg v σ W.H Q) :
    ∀ (W : Wd) (σ : L2.St) (s : DSl) (D : Ends), W.K = X.K → Sim W → Sl W σ s → SFin W E (sAsg f g s W.G) D → tAsg te tg D σ W.H := by
  intro W σ s D hK S L h
  refine qe W σ s _ hK S L (SFin.seq h fun d v W1 x1 S1 r1 h1 => ?_)
  exact qg W1 σ s d v _ (x1.k.trans hK) S1 (L.mono x1) r1 (SFin.seq h1 fun s2 σ2 W2 x2 S2 L2 h2 => h2 σ2 W2 (Ext.refl W2) S2 rfl L2)
/-- name = value -/
theorem ds_set (i : Nat) {x : Str} {e : Expr} {f : DE} {pos' pos : Pos} (hN : X.N.Nodup) (he : DEOk X E e f) (hi : X.N[i]? = some x := by rfl) (hx : Loc X.env.scope x := by first | exact Or.inl rfl | exact Or.inr rfl)
    (hs : swapsWith e (some (.Name x pos')) pos.line X.env = pure false := by rfl) (hf : X.fn x = true ∨ X.env.scope.names.lookup x = some .local := by first | exact .inl rfl | exact .inr rfl | assumption) :
    DSOk X E (.Assign [.Name x pos'] e pos) (sAsg f (gNm i)) := by
  obtain ⟨t, p, q⟩ := he.out
  exact ⟨_, ps_set hN hi hx p hs hf, asg_out q fun W σ s d v Q hK S L r h => Fin.here (RA := RSl) S h (L.set r)⟩
/-- target = value -/
theorem ds_asg {tg e : Expr} {f : DE} {g : DG} {pos : Pos} (he : DEOk X E e f) (hg : DGOk X E tg g) (hs : swapsWithSole [tg] e pos.line X.env = pure false := by rfl) (hw : swappedStores [tg] e X.env = pure none := by rfl)
    (h1 : (assignEach [tg] X.env).map (·.2) = [assign tg X.env] := by rfl) : DSOk X E (.Assign [tg] e pos) (sAsg f g) := by
  obtain ⟨t, p, q⟩ := he.out
  obtain ⟨t', p', q'⟩ := hg.out
  exact ⟨_, ps_asg p p' hs hw h1, asg_out q q'⟩
/-- a, b = x, y -/
def sPar (i j : Nat) (a : DA) : DS := fun s G => (a s G).bind fun ds G => match ds with
  | [x, y] => .ok (.nx, (s.set i (some x)).set j (some y)) G
  | _ => .stop
theorem ds_par (i j : Nat) {x y : Str} {a b : Expr} {f : DA} {px py pt : Pos} {kt k2 : Nat} {pt2 pos : Pos} (hc : X.calm = true) (hN : X.N.Nodup) (hi : X.N[i]? = some x) (hj : X.N[j]? = some y) (hij : i ≠ j)
    (hx : X.env.scope.names.lookup x = some .local) (hy : X.env.scope.names.lookup y = some .local) (ha : DAOk X E [a, b] f)
    (hw : swappedStores [.Tuple [.Name x px, .Name y py] kt pt] (.Tuple [a, b] k2 pt2) X.env = pure (some [x, y]))
    (hs : swapsWithSole [.Tuple [.Name x px, .Name y py] kt pt] (.Tuple [a, b] k2 pt2) pos.line X.env = pure false := by rfl) :
    DSOk X E (.Assign [.Tuple [.Name x px, .Name y py] kt pt] (.Tuple [a, b] k2 pt2) pos) (sPar i j f) := by
  obtain ⟨t, p, q⟩ := ha.out
  refine ⟨_, ps_par hc hN hi hj hij hx hy p hw hs, fun W σ s D hK S L h => ?_⟩
  refine q W σ s _ hK S L (SFin.seq h fun ds vs W1 x1 S1 r1 h1 => ?_)
  split at h1
  · obtain ⟨v, w, rfl, q1, q2⟩ := r1.two
    exact ⟨v, w, rfl, h1 _ W1 (Ext.refl W1) S1 rfl (((L.mono x1).set q1).set q2)⟩
  · exact h1.elim

/-! ### while -/
def whl (c : DT) (b : DS) : Nat → DS
  | 0 => fun _ _ => .stop
  | n + 1 => fun s G => (c s G).bind fun k G => if k = true then (match b s G with
      | .ok (.nx, s) G => whl c b n s G
      | .ok (.ct, s) G => whl c b n s G
      | .ok (.bk, s) G => .ok (.nx, s) G
      | r => r) else .ok (.nx, s) G
theorem ds_while (n : Nat) {c : Expr} {body : List Stmt} {fc : DT} {fb : DS} {pos : Pos} (hp : PassesOwn (model X.prog X.w) X.A X.env X.xe) (hc : DTOk X E c fc) (hb : DSsOk X E body fb) : DSOk X E (.While c body [] pos) (whl fc fb n) := by
  obtain ⟨tc, pc, qc⟩ := hc.out
  obtain ⟨tb, pb, qb⟩ := hb.out
  refine ⟨_, ps_while hp pc pb, fun W σ s D hK S L h => ?_⟩
  refine ⟨fun m σ H => ∃ W' s', W'.H = H ∧ W'.K = X.K ∧ Sim W' ∧ Sl W' σ s' ∧ SFin W' E (whl fc fb m s' W'.G) D, ⟨n, W, s, rfl, hK, S, L, h⟩, ?_⟩
  rintro m σ H ⟨W, s, rfl, hK, S, L, h⟩
  cases m with
  | zero => exact h.elim
  | succ m =>
    unfold whl at h
    refine qc W σ s _ hK S L (SFin.seq h fun x v W1 x1 S1 d1 h1 => ?_)
    obtain rfl : x = v := d1
    cases x with
    | false => rw [if_neg Bool.false_ne_true] at h1 ⊢; exact h1 σ W1 (Ext.refl W1) S1 rfl (L.mono x1)
    | true =>
      rw [if_pos rfl] at h1 ⊢
      refine ⟨fun σ' H' => ∃ W' s', W'.H = H' ∧ W'.K = X.K ∧ Sim W' ∧ Sl W' σ' s' ∧ SFin W' E (whl fc fb m s' W'.G) D, fun σ' H' q => ⟨m, Nat.lt_succ_self m, q⟩, ?_⟩
      refine qb W1 σ s _ (x1.k.trans hK) S1 (L.mono x1) ?_
      cases e : fb s W1.G with
      | ok a G =>
        obtain ⟨o, s2⟩ := a
        rw [e] at h1
        cases o with
        | nx => exact fun σ2 W2 x2 S2 e2 L2 => ⟨W2, s2, rfl, x2.k.trans (x1.k.trans hK), S2, L2, by subst e2; exact SFin.mono x2 h1⟩
        | ct => exact fun σ2 W2 x2 S2 e2 L2 => ⟨W2, s2, rfl, x2.k.trans (x1.k.trans hK), S2, L2, by subst e2; exact SFin.mono x2 h1⟩
        | bk => exact h1
        | rt d => exact h1
      | ex d G => rw [e] at h1; exact h1
      | stop => rw [e] at h1; exact h1

/-! ### what is walked -/
/-- the walk J gives the items ds, from W0 on -/
structure DWalk (W0 : Wd) (J : It) (ds : List D) : Prop where
  go : ∀ (i : Nat) (W : Wd) (d : D), ds[i]? = some d → Ext W0 W → Sim W → J.go i W.H ∧ ∀ x H', J.yld i W.H x H' → ∃ W', W'.H = H' ∧ Ext W W' ∧ Sim W' ∧ W'.G = W.G ∧ Den W' d x
  stop : ∀ (W : Wd), Ext W0 W → Sim W → J.stop ds.length W.H
/-- a walk's outcome -/
def IFin (W : Wd) (E : XK) (r : R (List D)) (R : It → Hp → Prop) : Prop :=
  match r with
  | .ok ds G => ∀ (J : It) (W' : Wd), Ext W W' → Sim W' → W'.G = G → DWalk W' J ds → R J W'.H
  | .ex e G => ∀ (c : Value) (od : Option Addr) (W' : Wd), Ext W W' → Sim W' → W'.G = G → DenX W' e c od → E c od W'.H
  | .stop => False
theorem IFin.mono {W0 W : Wd} (x : Ext W0 W) {r : R (List D)} {Q : It → Hp → Prop} (h : IFin W0 E r Q) : IFin W E r Q := by
  cases r with
  | ok a G => exact fun b W' y S e q => h b W' (x.trans y) S e q
  | ex e G => exact fun c od W' y S e q => h c od W' (x.trans y) S e q
  | stop => exact h
theorem IFin.seq {α β : Type} {RA : Wd → α → β → Prop} {W : Wd} {r : R α} {k : α → DH → R (List D)} {Q : It → Hp → Prop} {Q' : β → Hp → Prop} (h : IFin W E (r.bind k) Q)
    (hk : ∀ a b W', Ext W W' → Sim W' → RA W' a b → IFin W' E (k a W'.G) Q → Q' b W'.H) : Fin RA W E r Q' := by
  cases r with
  | ok a G => exact fun b W' x S e q => hk a b W' x S q (by subst e; exact IFin.mono x h)
  | ex e G => exact h
  | stop => exact h
structure DIOk (X : Cx) (E : XK) (tg e : Expr) (f : DA) : Prop where
  out : ∃ t : TI, PI X tg e t ∧ ∀ (W : Wd) (σ : L2.St) (s : DSl) (R : It → Hp → Prop), W.K = X.K → Sim W → Sl W σ s → IFin W E (f s W.G) R → t σ W.H R
/-- from a walk over values that stays -/
theorem DWalk.of {W0 : Wd} {J : It} {n : Nat} {Gd : Hp → Prop} {Y : Nat → Hp → V → Hp → Prop} {ds : List D} (w : Walk J n Gd Y) (hn : n = ds.length) (hG : ∀ W, Ext W0 W → Sim W → Gd W.H)
    (hY : ∀ (i : Nat) (W : Wd) (d : D) x H', ds[i]? = some d → Ext W0 W → Sim W → Y i W.H x H' → ∃ W', W'.H = H' ∧ Ext W W' ∧ Sim W' ∧ W'.G = W.G ∧ Den W' d x) : DWalk W0 J ds := by
  refine ⟨fun i W d e x S => ?_, fun W x S => by rw [← hn]; exact w.stops _ (hG W x S)⟩
  have hi : i < n := by rw [hn]; exact (List.getElem?_eq_some_iff.mp e).1
  exact ⟨w.goes i _ hi (hG W x S), fun v H' y => hY i W d v H' e x S (w.yields i _ v H' hi (hG W x S) y)⟩
/-- items of a list, a tuple that stays -/
theorem DWalk.at_ {W0 : Wd} {J : It} {Gd : Hp → Prop} {vs : List V} {ds : List D} (w : Walk J vs.length Gd (YAt vs)) (hd : DenL W0 ds vs) (hG : ∀ W, Ext W0 W → Sim W → Gd W.H) : DWalk W0 J ds := by
  refine DWalk.of w hd.len hG fun i W d x H' e xt S y => ?_
  obtain ⟨rfl, hx⟩ := y
  obtain ⟨v, e1, e2⟩ := hd.at e
  rw [hx] at e1; cases e1
  exact ⟨W, rfl, Ext.refl W, S, rfl, Den.mono xt _ _ e2⟩
/-- a value list or tuple that is walked -/
def iSeq (f : DE) : DA := fun s G => (f s G).bind fun d G => match d with
  | .lst xs => .ok xs G
  | .frz xs => .ok xs G
  | .tup xs => .ok xs G
  | .ktup xs => .ok xs G
  | _ => .stop
theorem pi_or {tg e : Expr} {t t' : TI} (h : PI X tg e t) (h' : PI X tg e t') : PI X tg e (fun σ H R => t σ H R ∨ t' σ H R) :=
  ⟨fun pins s σ H R I q => q.elim (h.run pins s σ H R I) (h'.run pins s σ H R I)⟩
theorem di_seq {tg e : Expr} {f : DE} (he : DEOk X E e f) : DIOk X E tg e (iSeq f) := by
  obtain ⟨t, p, q⟩ := he.out
  refine ⟨_, pi_or (pi_list p) (pi_tup p), fun W σ s R hK S L h => ?_⟩
  -- the way is chosen by the outcome
  cases e1 : f s W.G with
  | stop => unfold iSeq at h; rw [e1] at h; exact h.elim
  | ex e G =>
    refine .inl (q W σ s _ hK S L ?_)
    unfold iSeq at h
    rw [e1] at h ⊢
    exact h
  | ok d G =>
    have h' := h
    unfold iSeq at h'
    rw [e1] at h'
    have viaL : ∀ ds : List D, (∀ W1 v, Den W1 d v → Sim W1 → ∃ a vs, v = .ref a ∧ DenL W1 ds vs ∧ ∀ W2, Ext W1 W2 → SqL W2.K W2.H a vs) → IFin W E (.ok ds G) R → iList X.K t σ W.H R := fun ds hd hh => by
      refine q W σ s _ hK S L ?_
      rw [e1]
      intro v W1 x1 S1 eG r1
      obtain ⟨a, vs, rfl, h2, h1⟩ := hd W1 v r1 S1
      have hK1 : W1.K = X.K := x1.k.trans hK
      refine ⟨a, rfl, ⟨vs, by rw [← hK1]; exact h1 W1 (Ext.refl W1)⟩, hh _ W1 x1 S1 eG ?_⟩
      exact DWalk.at_ walk_list h2 fun W2 x2 S2 => by rw [← hK1, ← x2.k]; exact h1 W2 x2
    have viaT : ∀ ds : List D, tupOf d = some ds → IFin W E (.ok ds G) R → iTup X.K t σ W.H R := fun ds hd hh => by
      refine q W σ s _ hK S L ?_
      rw [e1]
      intro v W1 x1 S1 eG r1
      obtain ⟨a, vs, rfl, h1, h2⟩ := tupOf_den r1 hd
      have hK1 : W1.K = X.K := x1.k.trans hK
      refine ⟨a, rfl, ⟨vs, by rw [← hK1]; exact h1⟩, hh _ W1 x1 S1 eG ?_⟩
      refine DWalk.at_ walk_tup h2 fun W2 x2 S2 => ?_
      rw [← hK1]
      rcases h1 with (h1 | ⟨o, h1⟩) | h1
      · exact .inl (.inl (x2.t _ _ h1))
      · exact .inl (.inr ⟨o, x2.ft _ _ _ h1⟩)
      · exact .inr h1
    cases d with
    | lst xs =>
      refine .inl (viaL xs (fun W1 v r1 S1 => ?_) h')
      simp only [Den] at r1
      obtain ⟨a, vs, rfl, h0, h1, h2⟩ := r1
      exact ⟨a, vs, rfl, h2, fun W2 x2 => .of (x2.l a vs h0 h1).2⟩
    | frz xs =>
      refine .inl (viaL xs (fun W1 v r1 S1 => ?_) h')
      simp only [Den] at r1
      obtain ⟨a, vs, rfl, h1, h2⟩ := r1
      refine ⟨a, vs, rfl, h2, fun W2 x2 => ?_⟩
      rcases x2.fz h1 with ⟨o, h3⟩ | h3
      · exact .inl (.inr ⟨o, h3⟩)
      · exact .inr h3
    | tup xs => exact .inr (viaT xs rfl h')
    | ktup xs => exact .inr (viaT xs rfl h')
    | _ => exact h'.elim
/-- range(n), range(a, b) -/
def rngD (lo : Int) (n : Nat) : List D := (List.range n).map fun i => .int (lo + (i : Nat))
theorem DWalk.rng {W0 : Wd} {lo : Int} {n : Nat} : DWalk W0 (Itr lo n) (rngD lo n) := by
  refine DWalk.of walk_range (by simp [rngD]) (fun _ _ _ => trivial) fun i W d x H' e xt S y => ?_
  obtain ⟨rfl, rfl⟩ := y
  refine ⟨W, rfl, Ext.refl W, S, rfl, ?_⟩
  have hi : i < n := by have := (List.getElem?_eq_some_iff.mp e).1; simpa [rngD] using this
  simp only [rngD, List.getElem?_map, List.getElem?_range hi, Option.map_some, Option.some.injEq] at e
  subst e
  simp [Den]
theorem two62 : (2 : Int) ^ 62 = 4611686018427387904 := by decide +kernel
def iRg1 (a : DA) : DA := fun s G => (a s G).bind fun ds G => match ds with
  | [.int j] => if -4611686018427387904 ≤ j ∧ j < 4611686018427387904 then .ok (rngD 0 j.toNat) G else .stop
  | _ => .stop
def iRg2 (a : DA) : DA := fun s G => (a s G).bind fun ds G => match ds with
  | [.int i, .int j] => if -4611686018427387904 ≤ i ∧ i < 4611686018427387904 ∧ -4611686018427387904 ≤ j ∧ j < 4611686018427387904 then .ok (rngD i (j - i).toNat) G else .stop
  | _ => .stop
theorem di_rg1 {tg a : Expr} {f : DA} {p pos : Pos} (hg : Gl X "range") (hm : X.mg "range" = none) (ha : DAOk X E [a] f) (hs : starEach [a] X.env = [(false, eval a X.env)] := by rfl) : DIOk X E tg (.Call (.Name "range" p) [a] [] pos) (iRg1 f) := by
  obtain ⟨t, pt, q⟩ := ha.out
  refine ⟨_, pi_range1 hg hm pt hs, fun W σ s R hK S L h => ?_⟩
  refine q W σ s _ hK S L (IFin.seq h fun ds vs W1 x1 S1 r1 h1 => ?_)
  split at h1
  · rename_i j
    obtain ⟨v, rfl, q1⟩ := r1.uno
    simp only [Den] at q1
    subst q1
    split at h1
    · rename_i c
      rw [← two62] at c
      exact ⟨j, rfl, c.1, c.2, h1 _ W1 (Ext.refl W1) S1 rfl DWalk.rng⟩
    · exact h1.elim
  · exact h1.elim
theorem di_rg2 {tg a b : Expr} {f : DA} {p pos : Pos} (hg : Gl X "range") (hm : X.mg "range" = none) (ha : DAOk X E [a, b] f) (hs : starEach [a, b] X.env = [(false, eval a X.env), (false, eval b X.env)] := by rfl) (hs2 : starEach [b] X.env = [(false, eval b X.env)] := by rfl) :
    DIOk X E tg (.Call (.Name "range" p) [a, b] [] pos) (iRg2 f) := by
  obtain ⟨t, pt, q⟩ := ha.out
  refine ⟨_, pi_range2 hg hm pt hs hs2, fun W σ s R hK S L h => ?_⟩
  refine q W σ s _ hK S L (IFin.seq h fun ds vs W1 x1 S1 r1 h1 => ?_)
  split at h1
  · rename_i i j
    obtain ⟨v, w, rfl, q1, q2⟩ := r1.two
    simp only [Den] at q1 q2
    subst q1 q2
    split at h1
    · rename_i c
      rw [← two62] at c
      exact ⟨i, j, rfl, c, h1 _ W1 (Ext.refl W1) S1 rfl DWalk.rng⟩
    · exact h1.elim
  · exact h1.elim
/-- a text, sign by sign -/
def sgnD (z : Str) : List D := z.cps.toList.map fun c => .str ⟨#[c]⟩
def iStr (f : DE) : DA := fun s G => (f s G).bind fun d G => match d with
  | .str z => .ok (sgnD z) G
  | _ => .stop
theorem di_str {tg e : Expr} {f : DE} (he : DEOk X E e f) : DIOk X E tg e (iStr f) := by
  obtain ⟨t, p, q⟩ := he.out
  refine ⟨_, pi_str p, fun W σ s R hK S L h => ?_⟩
  refine q W σ s _ hK S L (IFin.seq h fun d v W1 x1 S1 r1 h1 => ?_)
  cases d with
  | str z =>
    simp only [Den] at r1
    refine ⟨z, r1, h1 _ W1 (Ext.refl W1) S1 rfl ?_⟩
    refine DWalk.of walk_str (by simp [sgnD]) (fun _ _ _ => trivial) fun i W d x H' e xt S y => ?_
    obtain ⟨rfl, c, hc, rfl⟩ := y
    refine ⟨W, rfl, Ext.refl W, S, rfl, ?_⟩
    simp only [sgnD, List.getElem?_map] at e
    rw [show z.cps.toList[i]? = some c by simpa using hc] at e
    cases e
    simp [Den]
  | _ => exact h1.elim
/-- a walk that is one of two -/
def orA (f g : DA) : DA := fun s G => match f s G with
  | .stop => g s G
  | r => r
theorem di_or {tg e : Expr} {f g : DA} (h1 : DIOk X E tg e f) (h2 : DIOk X E tg e g) : DIOk X E tg e (orA f g) := by
  obtain ⟨t, p, q⟩ := h1.out
  obtain ⟨t', p', q'⟩ := h2.out
  refine ⟨_, pi_or p p', fun W σ s R hK S L h => ?_⟩
  cases e1 : f s W.G with
  | stop => unfold orA at h; rw [e1] at h; exact .inr (q' W σ s R hK S L h)
  | ok d G => unfold orA at h; rw [e1] at h; exact .inl (q W σ s R hK S L (by rw [e1]; exact h))
  | ex d G => unfold orA at h; rw [e1] at h; exact .inl (q W σ s R hK S L (by rw [e1]; exact h))
/-- pairs -/
theorem YPair_den {W0 W : Wd} {xs ys : Nat → Option V} {i : Nat} {x : V} {H' : Hp} {a b : D} (S : Sim W) (h : YPair xs ys i W.H x H') (ha : ∀ v, xs i = some v → Den W a v) (hb : ∀ v, ys i = some v → Den W b v) :
    ∃ W', W'.H = H' ∧ Ext W W' ∧ Sim W' ∧ W'.G = W.G ∧ Den W' (.tup [a, b]) x := by
  obtain ⟨T, u, v, rfl, hT, rfl, e1, e2⟩ := h
  obtain ⟨x1, S1⟩ := S.lay (.tup [u, v]) hT
  refine ⟨_, rfl, x1, S1, rfl, ?_⟩
  simp only [Den]
  refine ⟨T, [u, v], rfl, upd_same, ?_⟩
  simp only [DenL]
  exact ⟨u, _, rfl, Den.mono x1 _ _ (ha u e1), v, _, rfl, Den.mono x1 _ _ (hb v e2), rfl⟩
@[simp] def enumD : Nat → List D → List D
  | _, [] => []
  | n, d :: ds => .tup [.int (n : Nat), d] :: enumD (n + 1) ds
theorem enumD_len : ∀ (n : Nat) (ds : List D), (enumD n ds).length = ds.length
  | _, [] => rfl
  | n, _ :: ds => by simp [enumD, enumD_len (n + 1) ds]
theorem enumD_at : ∀ (n : Nat) (ds : List D) (i : Nat) (d : D), (enumD n ds)[i]? = some d → ∃ e, ds[i]? = some e ∧ d = .tup [.int ((n + i : Nat) : Int), e]
  | _, [], _, _, h => by simp [enumD] at h
  | n, x :: ds, 0, d, h => by
    simp [enumD] at h
    exact ⟨x, rfl, by simp [← h]⟩
  | n, x :: ds, i + 1, d, h => by
    obtain ⟨e, h1, h2⟩ := enumD_at (n + 1) ds i d (by simpa [enumD] using h)
    exact ⟨e, by simpa using h1, by rw [h2, show n + 1 + i = n + (i + 1) by omega]⟩
/-- a list that stays -/
theorem lst_stays {W : Wd} {d : D} {xs : List D} {v : V} (r : Den W d v) (e : d = .lst xs ∨ d = .frz xs) : ∃ a vs, v = .ref a ∧ DenL W xs vs ∧ ∀ W2, Ext W W2 → SqL W2.K W2.H a vs := by
  rcases e with rfl | rfl
  · simp only [Den] at r
    obtain ⟨a, vs, rfl, h0, h1, h2⟩ := r
    exact ⟨a, vs, rfl, h2, fun W2 x2 => .of (x2.l a vs h0 h1).2⟩
  · simp only [Den] at r
    obtain ⟨a, vs, rfl, h1, h2⟩ := r
    refine ⟨a, vs, rfl, h2, fun W2 x2 => ?_⟩
    rcases x2.fz h1 with ⟨o, h3⟩ | h3
    · exact .inl (.inr ⟨o, h3⟩)
    · exact .inr h3
def valL : D → Option (List D)
  | .lst xs => some xs
  | .frz xs => some xs
  | _ => none
theorem valL_stays {W : Wd} {d : D} {xs : List D} {v : V} (r : Den W d v) (e : valL d = some xs) : ∃ a vs, v = .ref a ∧ DenL W xs vs ∧ ∀ W2, Ext W W2 → SqL W2.K W2.H a vs := by
  cases d with
  | lst ys => cases e; exact lst_stays r (.inl rfl)
  | frz ys => cases e; exact lst_stays r (.inr rfl)
  | _ => cases e
def iEnum (a : DA) : DA := fun s G => (a s G).bind fun ds G => match ds with
  | [d] => match valL d with
    | some xs => .ok (enumD 0 xs) G
    | none => .stop
  | _ => .stop
theorem di_enum {e : Expr} {f : DA} {p pos tpos : Pos} {elts : List Expr} {kk : Nat} (hg : Gl X "enumerate") (hm : X.mg "enumerate" = none) (ha : DAOk X E [e] f) (hs : starEach [e] X.env = [(false, eval e X.env)] := by rfl) :
    DIOk X E (.Tuple elts kk tpos) (.Call (.Name "enumerate" p) [e] [] pos) (iEnum f) := by
  obtain ⟨t, pt, q⟩ := ha.out
  refine ⟨_, pi_enum hg hm pt hs, fun W σ s R hK S L h => ?_⟩
  refine q W σ s _ hK S L (IFin.seq h fun ds vs W1 x1 S1 r1 h1 => ?_)
  have hK1 : W1.K = X.K := x1.k.trans hK
  split at h1
  · rename_i d
    obtain ⟨v, rfl, q1⟩ := r1.uno
    cases e1 : valL d with
    | none => rw [e1] at h1; exact h1.elim
    | some xs =>
      rw [e1] at h1
      obtain ⟨a, ws, rfl, h2, h3⟩ := valL_stays q1 e1
      refine ⟨a, ws, rfl, by rw [← hK1]; exact h3 W1 (Ext.refl W1), h1 _ W1 (Ext.refl W1) S1 rfl ?_⟩
      refine DWalk.of walk_enum (by rw [enumD_len, h2.len]) (fun W2 x2 S2 => by rw [← hK1, ← x2.k]; exact h3 W2 x2) fun i W2 d x H' e xt S2 y => ?_
      obtain ⟨e0, q1, rfl⟩ := enumD_at 0 xs i d e
      refine YPair_den (W0 := W2) S2 y (fun v hv => ?_) fun v hv => ?_
      · cases hv
        simp [Den]
      · obtain ⟨u, u1, u2⟩ := h2.at q1
        rw [hv] at u1; cases u1
        exact Den.mono xt _ _ u2
  · exact h1.elim
@[simp] def zipD : List D → List D → List D
  | x :: xs, y :: ys => .tup [x, y] :: zipD xs ys
  | _, _ => []
theorem zipD_len : ∀ (xs ys : List D), (zipD xs ys).length = min xs.length ys.length
  | [], _ => by simp [zipD]
  | _ :: _, [] => by simp [zipD]
  | _ :: xs, _ :: ys => by simp [zipD, zipD_len xs ys]
theorem zipD_at : ∀ (xs ys : List D) (i : Nat) (d : D), (zipD xs ys)[i]? = some d → ∃ x y, xs[i]? = some x ∧ ys[i]? = some y ∧ d = .tup [x, y]
  | [], _, _, _, h => by simp [zipD] at h
  | _ :: _, [], _, _, h => by simp [zipD] at h
  | x :: xs, y :: ys, 0, d, h => by
    simp [zipD] at h
    exact ⟨x, y, rfl, rfl, h.symm⟩
  | x :: xs, y :: ys, i + 1, d, h => by simpa using zipD_at xs ys i d (by simpa [zipD] using h)
def iZip (a : DA) : DA := fun s G => (a s G).bind fun ds G => match ds with
  | [d, e] => match valL d, valL e with
    | some xs, some ys => .ok (zipD xs ys) G
    | _, _ => .stop
  | _ => .stop
theorem di_zip {e e2 : Expr} {f : DA} {p pos tpos : Pos} {elts : List Expr} {kk : Nat} (hg : Gl X "zip") (hm : X.mg "zip" = none) (ha : DAOk X E [e, e2] f)
    (hs : starEach [e, e2] X.env = (false, eval e X.env) :: starEach [e2] X.env := by rfl) (hpl : (backTo pos (starEach [e2] X.env)).any (·.1) = false := by rfl) :
    DIOk X E (.Tuple elts kk tpos) (.Call (.Name "zip" p) [e, e2] [] pos) (iZip f) := by
  obtain ⟨t, pt, q⟩ := ha.out
  refine ⟨_, pi_zip hg hm pt hs hpl, fun W σ s R hK S L h => ?_⟩
  refine q W σ s _ hK S L (IFin.seq h fun ds vs W1 x1 S1 r1 h1 => ?_)
  have hK1 : W1.K = X.K := x1.k.trans hK
  split at h1
  · rename_i d d'
    obtain ⟨v, v', rfl, r1, r1'⟩ := r1.two
    cases e1 : valL d with
    | none => rw [e1] at h1; exact h1.elim
    | some xs =>
      cases e1' : valL d' with
      | none => rw [e1, e1'] at h1; exact h1.elim
      | some ys =>
        rw [e1, e1'] at h1
        obtain ⟨a, ws, rfl, h2, h3⟩ := valL_stays r1 e1
        obtain ⟨b, us, rfl, h2', h3'⟩ := valL_stays r1' e1'
        refine ⟨a, b, ws, us, rfl, by rw [← hK1]; exact h3 W1 (Ext.refl W1), by rw [← hK1]; exact h3' W1 (Ext.refl W1), h1 _ W1 (Ext.refl W1) S1 rfl ?_⟩
        refine DWalk.of (walk_zip rfl) (by rw [zipD_len, ← h2.len, ← h2'.len]) (fun W2 x2 S2 => ⟨by rw [← hK1, ← x2.k]; exact h3 W2 x2, by rw [← hK1, ← x2.k]; exact h3' W2 x2⟩) fun i W2 d x H' e xt S2 y => ?_
        obtain ⟨d1, d2, q1, q2, rfl⟩ := zipD_at xs ys i d e
        refine YPair_den (W0 := W2) S2 y (fun v hv => ?_) fun v hv => ?_
        · obtain ⟨u, u1, u2⟩ := h2.at q1
          rw [hv] at u1; cases u1
          exact Den.mono xt _ _ u2
        · obtain ⟨u, u1, u2⟩ := h2'.at q2
          rw [hv] at u1; cases u1
          exact Den.mono xt _ _ u2
  · exact h1.elim

/-! ### for -/
@[simp] def forL (g : DG) (b : DS) : List D → DS
  | [] => fun s G => .ok (.nx, s) G
  | d :: ds => fun s G => (g d s G).bind fun s G => match b s G with
      | .ok (.nx, s) G => forL g b ds s G
      | .ok (.ct, s) G => forL g b ds s G
      | .ok (.bk, s) G => .ok (.nx, s) G
      | r => r
def sFor (it : DA) (g : DG) (b : DS) : DS := fun s G => (it s G).bind fun ds G => forL g b ds s G
theorem SFin.iseq {W : Wd} {r : R (List D)} {k : List D → DH → R (Out × DSl)} {D : Ends} {Q : It → Hp → Prop} (h : SFin W E (r.bind k) D)
    (hk : ∀ ds J W', Ext W W' → Sim W' → DWalk W' J ds → SFin W' E (k ds W'.G) D → Q J W'.H) : IFin W E r Q := by
  cases r with
  | ok a G => exact fun J W' x S e q => hk a J W' x S q (by subst e; exact SFin.mono x h)
  | ex e G => exact h
  | stop => exact h
theorem ds_for {tg iter : Expr} {body : List Stmt} {fi : DA} {g : DG} {fb : DS} {pos : Pos} (hp : PassesOwn (model X.prog X.w) X.A X.env X.xe) (hc : X.calm = true) (hi : DIOk X E tg iter fi) (hg : DGOk X E tg g) (hb : DSsOk X E body fb)
    (hs : ∀ x, foldedSetIterable iter X.env x = pure x := by intro _; rfl) : DSOk X E (.For tg iter body [] pos) (sFor fi g fb) := by
  obtain ⟨ti, pi, qi⟩ := hi.out
  obtain ⟨tg', pg, qg⟩ := hg.out
  obtain ⟨tb, pb, qb⟩ := hb.out
  refine ⟨_, ps_for hp hc pi pg pb hs, fun W σ s D hK S L h => ?_⟩
  refine qi W σ s _ hK S L (SFin.iseq h fun ds J W0 x0 S0 w h0 => ?_)
  have hK0 : W0.K = X.K := x0.k.trans hK
  refine ⟨fun i m σ H => ∃ W' s', W'.H = H ∧ Ext W0 W' ∧ Sim W' ∧ Sl W' σ s' ∧ m = ds.length - i ∧ i ≤ ds.length ∧ SFin W' E (forL g fb (ds.drop i) s' W'.G) D, ⟨ds.length, W0, s, rfl, Ext.refl W0, S0, L.mono x0, by simp, Nat.zero_le _, h0⟩, ?_⟩
  rintro i m σ H ⟨W1, s1, rfl, x1, S1, L1, rfl, hi, h1⟩
  by_cases hlt : i < ds.length
  · have ed : ds.drop i = ds[i] :: ds.drop (i + 1) := List.drop_eq_getElem_cons hlt
    rw [ed] at h1
    obtain ⟨hgo, hyl⟩ := w.go i W1 ds[i] (List.getElem?_eq_getElem hlt) x1 S1
    refine .inr ⟨hgo, fun σ' H' => ∃ W' s', W'.H = H' ∧ Ext W0 W' ∧ Sim W' ∧ Sl W' σ' s' ∧ SFin W' E (forL g fb (ds.drop (i + 1)) s' W'.G) D, fun σ' H' ⟨W', s', e1, e2, e3, e4, e5⟩ => ⟨ds.length - (i + 1), by omega, W', s', e1, e2, e3, e4, rfl, hlt, e5⟩, fun x H' y => ?_⟩
    obtain ⟨W2, rfl, x2, S2, eG, r2⟩ := hyl x H' y
    have x02 : Ext W0 W2 := x1.trans x2
    have h2 : SFin W2 E (forL g fb (ds[i] :: ds.drop (i + 1)) s1 W2.G) D := by rw [eG]; exact SFin.mono x2 h1
    unfold forL at h2
    refine qg W2 σ s1 _ x _ (x02.k.trans hK0) S2 (L1.mono x2) r2 (SFin.seq h2 fun s3 σ3 W3 x3 S3 L3 h3 => ?_)
    refine qb W3 σ3 s3 _ (x3.k.trans (x02.k.trans hK0)) S3 L3 ?_
    cases e : fb s3 W3.G with
    | ok a G =>
      obtain ⟨o, s4⟩ := a
      rw [e] at h3
      cases o with
      | nx => exact fun σ4 W4 x4 S4 e4 L4 => ⟨W4, s4, rfl, (x02.trans x3).trans x4, S4, L4, by subst e4; exact SFin.mono x4 h3⟩
      | ct => exact fun σ4 W4 x4 S4 e4 L4 => ⟨W4, s4, rfl, (x02.trans x3).trans x4, S4, L4, by subst e4; exact SFin.mono x4 h3⟩
      | bk => exact h3
      | rt d => exact h3
    | ex d G => rw [e] at h3; exact h3
    | stop => rw [e] at h3; exact h3
  · have ei : i = ds.length := by omega
    subst ei
    rw [List.drop_length] at h1
    exact .inl ⟨w.stop W1 x1 S1, h1 σ W1 (Ext.refl W1) S1 rfl L1⟩
end
end DL
end
/-! ==== DFun ==== -/
section
set_option Elab.async false
set_option linter.all false
set_option autoImplicit false
set_option maxRecDepth 100000
set_option maxHeartbeats 4000000
/-! DL: defs, their calls; list comprehensions; the end of a law. -/
namespace DL
open PySem PySem.Spec PyProof.Rows L2

abbrev DFn := List D → DH → R D
/-- what a def is worth: np parameters, n names -/
def runF (np n : Nat) (b : DS) : DFn := fun ds G => if ds.length = np then (match b (ds.map some ++ List.replicate (n - np) none) G with
  | .ok (.nx, _) G => .ok .non G
  | .ok (.rt d, _) G => .ok d G
  | .ok _ _ => .stop
  | .ex e G => .ex e G
  | .stop => .stop) else .stop

/-- the around of a law's call, as far as the rules ask -/
structure Rm (k : Nat) (A : Around) : Prop where
  room : Room k A
  gu : A.guards = some []
theorem Rm.mono {j k : Nat} {A : Around} (r : Rm k A) (h : j ≤ k) : Rm j A := ⟨r.room.mono h, r.gu⟩
theorem Rm.deeper {k : Nat} {A : Around} (r : Rm (k + 1) A) (env : Env) : Rm k (A.deeper env) := ⟨r.room.deeper env, r.gu⟩
theorem Rm.u1 {k : Nat} {A : Around} (r : Rm k A) : A.units + 1 < cLine := hu_of r.room
theorem Rm.u64 {k : Nat} {A : Around} (r : Rm k A) : A.units + 64 < cLine := r.room.units
theorem Rm.u200 {k : Nat} {A : Around} (r : Rm k A) : A.units + 200 < cLine := by have := r.room.un; omega

/-- a def of the text is worth F -/
structure DFok (P : Program) (w : World) (K : PySem.W.Frag) (mg : Str → Option Value) (base : Heap) (CX : CXT) (k : Nat) (f : Addr) (fd : FuncData) (ps : List Str) (F : DFn) : Prop where
  len : ∀ (W : Wd) (ds : List D) (Q : VK) (E : XK), Fin Den W E (F ds W.G) Q → ds.length = ps.length
  run : ∀ (A : Around) (outer : List Env) (s : Shared) (args : Args) (us : List Value) (vs : List V) (W : Wd) (ds : List D) (Q : VK) (E : XK), Rm k A → Env0 P w K mg base A outer s W.H → BindsTo s fd args (ps.zip us) → Vals vs us →
    W.K = K → Sim W → DenL W ds vs → Fin Den W E (F ds W.G) Q → codeAny (model P w) A (.call (.ref f) args) (CR CX outer P w W.H s Q E) s
theorem DFok.mono {P : Program} {w : World} {K : PySem.W.Frag} {mg : Str → Option Value} {base : Heap} {CX : CXT} {j k : Nat} {f : Addr} {fd : FuncData} {ps : List Str} {F : DFn} (h : DFok P w K mg base CX j f fd ps F) (hj : j ≤ k) : DFok P w K mg base CX k f fd ps F :=
  ⟨h.len, fun A outer s args us vs W ds Q E r => h.run A outer s args us vs W ds Q E (r.mono hj)⟩
/-- the same worth, said otherwise -/
theorem DFok.eq {P : Program} {w : World} {K : PySem.W.Frag} {mg : Str → Option Value} {base : Heap} {CX : CXT} {k : Nat} {f : Addr} {fd : FuncData} {ps : List Str} {F F' : DFn} (h : DFok P w K mg base CX k f fd ps F) (e : F = F') : DFok P w K mg base CX k f fd ps F' := e ▸ h

theorem start_sl {W : Wd} {N : List Str} {ds : List D} {vs : List V} (r : DenL W ds vs) : Sl W (L2.start N vs) (ds.map some ++ List.replicate (N.length - ds.length) none) := by
  unfold L2.start
  have e := r.len
  refine ⟨by simp [e], fun i d h => ?_⟩
  by_cases hi : i < ds.length
  · rw [List.getElem?_append_left (by simpa using hi), List.getElem?_map] at h
    cases q : ds[i]? with
    | none => rw [q] at h; cases h
    | some d' =>
      rw [q] at h
      cases h
      obtain ⟨v, h1, h2⟩ := r.at q
      refine ⟨v, ?_, h2⟩
      rw [List.getElem?_append_left (by rw [List.length_map, e]; exact hi), List.getElem?_map, h1]
      rfl
  · rw [List.getElem?_append_right (by simpa using hi), List.getElem?_replicate] at h
    split at h <;> cases h

section
variable {P : Program} {w : World} {K : PySem.W.Frag} {mg : Str → Option Value} {base : Heap}
/-- THE RULE for a def -/
theorem dfn_of {CX : CXT} {k : Nat} {f : Addr} {name qual : Str} {params : Arguments} {body : List Stmt} {scope : Scope} {dV kV doc pm cdv ct oc : Value} {an od : Option Addr} {osl : Array (Option Value)} {N ps : List Str} {b : DS}
    (lk : K.lookup f = some ⟨oc, od, .func (PySem.W.fnOf name qual params body scope dV kV doc pm an cdv ct), osl⟩) (hcd : PySem.W.codeIn K cdv qual = true) (S : FnScope N ps scope)
    (hb : ∀ (A : Around) (outer : List Env) (s : Shared) (H : Hp) (E : XK), Rm k (A.deeper (envOfC qual scope s.heap.objs.size f cdv)) → DSsOk (cxOf CX P w K mg base N qual scope f cdv A outer s H E) E body b) :
    DFok P w K mg base CX (k + 1) f (PySem.W.fnOf name qual params body scope dV kV doc pm an cdv ct) ps (runF ps.length N.length b) := by
  have hlen : ∀ (W : Wd) (ds : List D) (Q : VK) (E : XK), Fin Den W E (runF ps.length N.length b ds W.G) Q → ds.length = ps.length := fun W ds Q E h => by
    unfold runF at h
    split at h
    · assumption
    · exact h.elim
  refine ⟨hlen, fun A outer s args us vs W ds Q E hr e0 hbd r hK SW hd hf => ?_⟩
  have hl : vs.length = ps.length := by rw [hd.len]; exact hlen W ds Q E hf
  have KX : K.In s.heap := e0.mod.kin.keeps fun b o e => (e0.bs b o e).1
  have lim : s.heap.NoLimit := e0.mod.nolimit.keeps fun b o e => (e0.bs b o e).1
  have hkd : ∀ y ∈ ps.zip us, scope.names.lookup y.1 = some .local ∨ (scope.names.lookup y.1 = some .cell ∧ ((cellsFrom (s.heap.objs.size + 1) scope.names []).lookup y.1).isSome = true) := by
    rintro ⟨n, v⟩ hy
    refine (S.par n (List.of_mem_zip hy).1).imp id fun q => ⟨q, ?_⟩
    exact PySem.W.cellsFrom_some _ _ _ (.inl q)
  refine codeAny_call_function hr.room.depth (KX _ _ lk) rfl S.co S.gen rfl (PySem.W.codeRec_of KX hcd) (hbd _ _ _ _ ?_)
  refine wpAny_newFunctionEnv_cells S.kind hkd fun env he s1 x => ?_
  subst he
  refine ⟨lim.keeps x.toInCall.keep, codeAny_func ?_⟩
  obtain ⟨t, ht, hq⟩ := (hb A outer s W.H E (hr.deeper _)).out
  have I : Inv (cxOf CX P w K mg base N qual scope f cdv A outer s W.H E) [] (L2.start N vs) W.H s1 := inv_start S hr.room.hd e0 hl r x
  have L := start_sl (N := N) hd
  rw [hd.len] at hl
  have q : t { nx := fun _ H' => Q .non H', rt := Q } (L2.start N vs) W.H := by
    refine hq W (L2.start N vs) _ { nx := fun _ H' => Q .non H', rt := Q } hK SW L ?_
    unfold runF at hf
    rw [if_pos hl, ← hl] at hf
    cases e : b (ds.map some ++ List.replicate (N.length - ds.length) none) W.G with
    | ok a G =>
      obtain ⟨o, s'⟩ := a
      rw [e] at hf
      cases o with
      | nx => exact fun σ W' y S' e' L' => hf .non W' y S' e' (by simp [Den])
      | rt d => exact hf
      | bk => exact hf.elim
      | ct => exact hf.elim
    | ex d G => rw [e] at hf; exact hf
    | stop => rw [e] at hf; exact hf.elim
  refine wpAny_mono (ht.run [] s1 (L2.start N vs) W.H _ I q) (fun fl s' hs => ?_) fun e s' hs => hs
  have fin : ∀ {σ' : L2.St} {H' : Hp} {v : V} {u : Value}, Inv (cxOf CX P w K mg base N qual scope f cdv A outer s W.H E) [] σ' H' s' → RelV v u → Q v H' → CE outer P w W.H s Q u s' :=
    fun {σ' H' v u} J rv q => ⟨v, H', J.os, J.bare, J.base, J.hok, rv, q⟩
  cases fl with
  | ret u =>
    obtain ⟨v, σ', H', J, rv, q⟩ := hs
    exact fin J rv q
  | next =>
    obtain ⟨σ', H', J, q⟩ := hs
    exact fin (v := V.non) (u := Value.none) J rfl q
  | brk =>
    obtain ⟨_, _, _, q⟩ := hs
    exact False.elim q
  | cont =>
    obtain ⟨_, _, _, q⟩ := hs
    exact False.elim q
/-- a def that lets no exception out -/
theorem DSsOk.nox {X : Cx} {E : XK} {st : List Stmt} {f : DS} (h : DSsOk X.nox E st f) : DSsOk X E st f := let ⟨t, p, q⟩ := h.out; ⟨t, p.nox, q⟩
theorem dfn_mk {x qual : Str} {st : Stmt} {f : Addr} {fd : FuncData} {N ps : List Str} {k : Nat} {b : DS} (F : Fun K x qual st f fd) (S : FnScope N ps (defScope st))
    (hb : ∀ (cdv : Value) (A : Around) (outer : List Env) (s : Shared) (H : Hp) (E : XK), Rm k (A.deeper (envOfC qual (defScope st) s.heap.objs.size f cdv)) → DSsOk (cxOf CX0 P w K mg base N qual (defScope st) f cdv A outer s H E).nox E (defBody st) b) :
    DFok P w K mg base CX0 (k + 1) f fd ps (runF ps.length N.length b) := by
  obtain ⟨oc, od, kV, doc, pm, an, cdv, ct, osl, rfl, lk, hcd⟩ := F.ex
  exact dfn_of lk hcd S fun A outer s H E hr => (hb cdv A outer s H E hr).nox
end

/-! ### calls -/
section
variable {X : Cx} {E : XK}
def tFn (K : PySem.W.Frag) (E : XK) (F : DFn) (t : TA) : TE := fun σ H Q => t σ H fun vs H1 => ∃ (W : Wd) (ds : List D), W.H = H1 ∧ W.K = K ∧ Sim W ∧ DenL W ds vs ∧ Fin Den W E (F ds W.G) Q
theorem run_dfn {CX : CXT} {k : Nat} {f : Addr} {fd : FuncData} {ps : List Str} {F : DFn} {pins : List (Addr × Obj)} {σ : L2.St} {s : Shared} {Q : VK} {us : List Value} {vs : List V} {kw : List (Str × Value)} {us' : List Value} {W : Wd} {ds : List D}
    (hF : DFok X.prog X.w X.K X.mg X.base CX k f fd ps F) (hr : Rm k X.A) (hb : BindsTo s fd ⟨us, kw⟩ (ps.zip us')) (hx : Passes CX X E)
    (I : Inv X pins σ W.H s) (r : Vals vs us') (hK : W.K = X.K) (S : Sim W) (hd : DenL W ds vs) (h : Fin Den W E (F ds W.G) Q) : wpAny (model X.prog X.w) X.A (call (.ref f) us kw) (EP X pins σ Q) X.xe s := by
  refine wpAny_call (codeAny_mono (hF.run X.A X.stack s ⟨us, kw⟩ us' vs W ds Q E hr I.env0 hb r hK S hd h) fun r s' hq => ?_)
  cases r with
  | error e => exact hx pins σ W.H s e s' I hq
  | ok fl =>
    cases fl with
    | ret u => exact I.after hq
    | next => exact False.elim hq
    | brk => exact False.elim hq
    | cont => exact False.elim hq
def dCall (F : DFn) (a : DA) : DE := fun s G => (a s G).bind F
/-- f(a, ..) -/
theorem de_call {CX : CXT} {k : Nat} {f : Addr} {fd : FuncData} {ps : List Str} {F : DFn} {x : Str} {p pos : Pos} {e : Expr} {es : List Expr} {fa : DA} (hF : DFok X.prog X.w X.K X.mg X.base CX k f fd ps F) (hr : Rm k X.A) (hg : Gl X x) (hm : X.mg x = some (.ref f))
    (hk : PySem.W.keepIn X.K (.ref f) = true) (hb : Binds X.K fd ps []) (hx : Passes CX X E) (ha : DAOk X E (e :: es) fa)
    (hdb : (x == ("__debug__" : Str)) = false := by decide) (he : starEach (e :: es) X.env = (false, eval e X.env) :: starEach es X.env := by rfl) (hpl : (backTo pos (starEach es X.env)).any (·.1) = false := by rfl) :
    DEOk X E (.Call (.Name x p) (e :: es) [] pos) (dCall F fa) := by
  obtain ⟨t, pt, q⟩ := ha.out
  refine ⟨tFn X.K E F t, ⟨fun pins s σ H Q I h => ?_⟩, fun W σ s Q hK S L h => ?_⟩
  · refine wpAny_Call_Name_kw (ld_glob I hg hm ?_ hdb)
    refine PySem.W.callWith_K (h₀ := X.base) I.ok.mod.kin hk (thn (pt.run pos pins s σ H _ I h) fun us s1 ⟨vs, H1, I1, r, W, ds, e1, hK, S, hd, q⟩ => ⟨I1.kIn, ?_⟩) he hpl
    subst e1
    have hl : us.length = ps.length := by rw [← r.length, hd.len]; exact hF.len W ds Q E q
    exact run_dfn hF hr (by have := hb s1 us I1.kIn (by simpa using hl); simpa using this) hx I1 r hK S hd q
  · refine q W σ s _ hK S L (Fin.seq (RC := Den) h fun ds vs W1 x1 S1 d1 h1 => ?_)
    exact ⟨W1, ds, rfl, x1.k.trans hK, S1, d1, h1⟩
/-- f() -/
theorem de_call0 {CX : CXT} {k : Nat} {f : Addr} {fd : FuncData} {F : DFn} {x : Str} {p pos : Pos} (hF : DFok X.prog X.w X.K X.mg X.base CX k f fd [] F) (hr : Rm k X.A) (hg : Gl X x) (hm : X.mg x = some (.ref f))
    (hk : PySem.W.keepIn X.K (.ref f) = true) (hb : Binds X.K fd [] []) (hx : Passes CX X E) (hdb : (x == ("__debug__" : Str)) = false := by decide) : DEOk X E (.Call (.Name x p) [] [] pos) (dCall F dNil) := by
  refine ⟨tFn X.K E F tNil, ⟨fun pins s σ H Q I h => ?_⟩, fun W σ s Q hK S L h => ?_⟩
  · obtain ⟨W, ds, e1, hK, S, hd, q⟩ := h
    subst e1
    refine wpAny_Call_Name_kw (ld_glob I hg hm ?_ hdb)
    exact PySem.W.callWith_K0 I.kIn hk (run_dfn (us := []) (us' := []) hF hr (by have := hb s [] I.kIn rfl; simpa using this) hx I .nil hK S hd q)
  · exact ⟨W, [], rfl, hK, S, by simp [DenL], h⟩
/-- keywords, in the order in which they are written; perm: from the written to the parameters' order -/
def pick {α : Type} (perm : List Nat) (xs : List α) : List α := perm.filterMap fun i => xs[i]?
theorem pick_den {W : Wd} {xs : List D} {vs : List V} (h : DenL W xs vs) : ∀ perm : List Nat, DenL W (pick perm xs) (pick perm vs)
  | [] => by simp [pick, DenL]
  | i :: r => by
    have ih := pick_den h r
    unfold pick at ih ⊢
    rw [List.filterMap_cons, List.filterMap_cons]
    cases e : xs[i]? with
    | none =>
      have : vs[i]? = none := by
        rw [List.getElem?_eq_none_iff] at e ⊢
        rw [h.len]; exact e
      rw [this]
      exact ih
    | some d =>
      obtain ⟨v, e1, e2⟩ := h.at e
      rw [e1]
      simp only [DenL]
      exact ⟨v, _, rfl, e2, ih⟩
theorem pick_vals {vs : List V} {us : List Value} (h : Vals vs us) : ∀ perm : List Nat, Vals (pick perm vs) (pick perm us)
  | [] => .nil
  | i :: r => by
    have ih := pick_vals h r
    unfold pick at ih ⊢
    rw [List.filterMap_cons, List.filterMap_cons]
    cases e : vs[i]? with
    | none =>
      rw [Vals.none_of h e]
      exact ih
    | some d =>
      obtain ⟨v, e1, e2⟩ := Vals.get h e
      rw [e1]
      exact .cons e2 ih
structure DKOk (X : Cx) (E : XK) (kws : List Keyword) (f : DA) : Prop where
  out : ∃ t : TA, PK X kws t ∧ ∀ (W : Wd) (σ : L2.St) (s : DSl) (Q : List V → Hp → Prop), W.K = X.K → Sim W → Sl W σ s → Fin DenL W E (f s W.G) Q → t σ W.H Q
theorem dk_nil : DKOk X E [] dNil := ⟨_, pk_nil, fun W σ s Q hK S L h => Fin.here (RA := DenL) S h (by simp [DenL])⟩
theorem dk_cons {nm : Option Str} {e : Expr} {kpos : Pos} {kws : List Keyword} {f : DE} {g : DA} (ha : DEOk X E e f) (hr : DKOk X E kws g) : DKOk X E (⟨nm, e, kpos⟩ :: kws) (dCons f g) := by
  obtain ⟨ta, pa, qa⟩ := ha.out
  obtain ⟨tr, pr, qr⟩ := hr.out
  refine ⟨_, pk_cons pa pr, fun W σ s Q hK S L h => ?_⟩
  refine qa W σ s _ hK S L (h.seq fun x v W1 x1 S1 d1 h1 => ?_)
  refine qr W1 σ s _ (x1.k.trans hK) S1 (L.mono x1) (Fin.seq (RC := DenL) h1 fun xs vs W2 x2 S2 d2 h2 => ?_)
  refine Fin.here (RA := DenL) S2 h2 ?_
  simp only [DenL]
  exact ⟨v, vs, rfl, Den.mono x2 _ _ d1, d2⟩
/-- how a call with keywords binds: np written positional values, nk keywords named ks -/
def BindsK (K : PySem.W.Frag) (fd : FuncData) (ps : List Str) (ks : List Str) (np nk : Nat) (perm : List Nat) : Prop :=
  ∀ (s : Shared) (us ws : List Value), K.In s.heap → us.length = np → ws.length = nk → BindsTo s fd ⟨us, ks.zip ws⟩ (ps.zip (pick perm (us ++ ws)))
def dCallK (np nk : Nat) (perm : List Nat) (F : DFn) (a k : DA) : DE := fun s G => (a s G).bind fun xs G => (k s G).bind fun ys G => if xs.length = np ∧ ys.length = nk then F (pick perm (xs ++ ys)) G else .stop
def tFnK (K : PySem.W.Frag) (E : XK) (np nk : Nat) (perm : List Nat) (F : DFn) (t tk : TA) : TE := fun σ H Q => t σ H fun vs H1 => tk σ H1 fun zs H2 => vs.length = np ∧ zs.length = nk ∧ ∃ (W : Wd) (ds : List D), W.H = H2 ∧ W.K = K ∧ Sim W ∧ DenL W ds (pick perm (vs ++ zs)) ∧ Fin Den W E (F ds W.G) Q
theorem callK_out {np nk : Nat} {perm : List Nat} {F : DFn} {fa fk : DA} {t tk : TA} (q : ∀ (W : Wd) (σ : L2.St) (s : DSl) (Q : List V → Hp → Prop), W.K = X.K → Sim W → Sl W σ s → Fin DenL W E (fa s W.G) Q → t σ W.H Q)
    (qk : ∀ (W : Wd) (σ : L2.St) (s : DSl) (Q : List V → Hp → Prop), W.K = X.K → Sim W → Sl W σ s → Fin DenL W E (fk s W.G) Q → tk σ W.H Q) :
    ∀ (W : Wd) (σ : L2.St) (s : DSl) (Q : VK), W.K = X.K → Sim W → Sl W σ s → Fin Den W E (dCallK np nk perm F fa fk s W.G) Q → tFnK X.K E np nk perm F t tk σ W.H Q := by
  intro W σ s Q hK S L h
  refine q W σ s _ hK S L (Fin.seq (RC := Den) h fun xs vs W1 x1 S1 d1 h1 => ?_)
  refine qk W1 σ s _ (x1.k.trans hK) S1 (L.mono x1) (Fin.seq (RC := Den) h1 fun ys zs W2 x2 S2 d2 h2 => ?_)
  split at h2
  · rename_i c
    exact ⟨by rw [d1.len]; exact c.1, by rw [d2.len]; exact c.2, W2, _, rfl, x2.k.trans (x1.k.trans hK), S2, pick_den ((DenL.mono x2 _ _ d1).app d2) perm, h2⟩
  · exact h2.elim
theorem de_callK {CX : CXT} {k : Nat} {f : Addr} {fd : FuncData} {ps ks : List Str} {np nk : Nat} {perm : List Nat} {F : DFn} {x : Str} {p pos : Pos} {e : Expr} {es : List Expr} {kws : List Keyword} {fa fk : DA} (hF : DFok X.prog X.w X.K X.mg X.base CX k f fd ps F) (hr : Rm k X.A) (hg : Gl X x)
    (hm : X.mg x = some (.ref f)) (hk : PySem.W.keepIn X.K (.ref f) = true) (hb : BindsK X.K fd ps ks np nk perm) (hx : Passes CX X E) (ha : DAOk X E (e :: es) fa) (hkw : DKOk X E kws fk)
    (hall : (backToKw pos (keywordEach kws X.env)).all (·.1.isSome) = true := by rfl) (hks : (backToKw pos (keywordEach kws X.env)).filterMap (·.1) = ks := by rfl)
    (hdb : (x == ("__debug__" : Str)) = false := by decide) (he : starEach (e :: es) X.env = (false, eval e X.env) :: starEach es X.env := by rfl)
    (hpl : ((backTo pos (starEach (e :: es) X.env)).any (·.1) || (backToKw pos (keywordEach kws X.env)).any (·.1.isNone)) = false := by rfl) :
    DEOk X E (.Call (.Name x p) (e :: es) kws pos) (dCallK np nk perm F fa fk) := by
  obtain ⟨t, pt, q⟩ := ha.out
  obtain ⟨tk, ptk, qk⟩ := hkw.out
  refine ⟨tFnK X.K E np nk perm F t tk, ⟨fun pins s σ H Q I h => ?_⟩, callK_out q qk⟩
  refine wpAny_Call_Name_kw (ld_glob I hg hm ?_ hdb)
  refine PySem.W.callWith_KW (h₀ := X.base) I.ok.mod.kin hk hall (thn (pt.run pos pins s σ H _ I h) fun us s1 ⟨vs, H1, I1, r, q1⟩ => ?_) hpl he
  refine thn (ptk.run pos pins s1 σ H1 _ I1 q1) fun ws s2 ⟨zs, H2, I2, rz, l1, l2, W, ds, e1, hK, S, hd, q2⟩ => ⟨I2.kIn, ?_⟩
  rw [hks]
  subst e1
  exact run_dfn hF hr (hb s2 us ws I2.kIn (by rw [← r.length]; exact l1) (by rw [← rz.length]; exact l2)) hx I2 (pick_vals (Vals.append r rz) perm) hK S hd q2
theorem de_callK0 {CX : CXT} {k : Nat} {f : Addr} {fd : FuncData} {ps ks : List Str} {nk : Nat} {perm : List Nat} {F : DFn} {x : Str} {p pos : Pos} {kws : List Keyword} {fk : DA} (hF : DFok X.prog X.w X.K X.mg X.base CX k f fd ps F) (hr : Rm k X.A) (hg : Gl X x)
    (hm : X.mg x = some (.ref f)) (hk : PySem.W.keepIn X.K (.ref f) = true) (hb : BindsK X.K fd ps ks 0 nk perm) (hx : Passes CX X E) (hkw : DKOk X E kws fk)
    (hall : (backToKw pos (keywordEach kws X.env)).all (·.1.isSome) = true := by rfl) (hks : (backToKw pos (keywordEach kws X.env)).filterMap (·.1) = ks := by rfl)
    (hdb : (x == ("__debug__" : Str)) = false := by decide) (hpl : ((backTo pos (starEach [] X.env)).any (·.1) || (backToKw pos (keywordEach kws X.env)).any (·.1.isNone)) = false := by rfl) :
    DEOk X E (.Call (.Name x p) [] kws pos) (dCallK 0 nk perm F dNil fk) := by
  obtain ⟨tk, ptk, qk⟩ := hkw.out
  refine ⟨tFnK X.K E 0 nk perm F tNil tk, ⟨fun pins s σ H Q I h => ?_⟩, callK_out (fun W σ s Q hK S L h => Fin.here (RA := DenL) S h (by simp [DenL])) qk⟩
  refine wpAny_Call_Name_kw (ld_glob I hg hm ?_ hdb)
  refine PySem.W.callWith_KW0 (h₀ := X.base) I.ok.mod.kin hk hall ?_ hpl
  refine thn (ptk.run pos pins s σ H _ I h) fun ws s2 ⟨zs, H2, I2, rz, l1, l2, W, ds, e1, hK, S, hd, q2⟩ => ⟨I2.kIn, ?_⟩
  rw [hks]
  subst e1
  exact run_dfn (us := []) hF hr (hb s2 [] ws I2.kIn rfl (by rw [← rz.length]; exact l2)) hx I2 (pick_vals (Vals.append .nil rz) perm) hK S hd q2

/-! ### list comprehensions -/
theorem Fin.seq0 {α β γ δ : Type} {RA : Wd → α → β → Prop} {RC : Wd → γ → δ → Prop} {W0 W : Wd} (x0 : Ext W0 W) {r : R α} {k : α → DH → R γ} {Q : δ → Hp → Prop} {Q' : β → Hp → Prop} (h : Fin RC W0 E (r.bind k) Q)
    (hk : ∀ a b W', Ext W W' → Sim W' → RA W' a b → Fin RC W0 E (k a W'.G) Q → Q' b W'.H) : Fin RA W E r Q' := by
  cases r with
  | ok a G => exact fun b W' x S e q => hk a b W' x S q (by subst e; exact h)
  | ex e G => exact fun c od W' x S e' q => h c od W' (x0.trans x) S e' q
  | stop => exact h
/-- what was made becomes a thing that may be changed -/
def Wd.adopt (W : Wd) (a : Addr) (d : DO) : Wd := { W with p := W.p ++ [a], G := W.G ++ [d], hid := fun b => W.hid b ∧ b ≠ a }
theorem Sim.adopt {W0 W : Wd} (S : Sim W) {a : Addr} {d : DO} (x : Ext W0 W) (h0 : W0.H a = none) (n0 : ¬ W0.hid a) (ha : W.hid a) (hr : ∀ W', Ext0 W W' → W'.H = W.H → ORel W' d a) : Ext W0 (W.adopt a d) ∧ Sim (W.adopt a d) := by
  have nla : ¬ W.live a := S.apart a ha
  have lv : ∀ {b}, (W.adopt a d).live b → W.live b ∨ b = a := fun {b} ⟨n, u, e, al, pn⟩ => by
    have e' : (W.G ++ [d])[n]? = some u := e
    have pn' : (W.p ++ [a])[n]? = some b := pn
    by_cases hn : n < W.G.length
    · rw [List.getElem?_append_left hn] at e'
      rw [List.getElem?_append_left (by rw [S.len]; exact hn)] at pn'
      exact .inl ⟨n, u, e', al, pn'⟩
    · rw [List.getElem?_append_right (by rw [S.len]; omega)] at pn'
      have := (List.getElem?_eq_some_iff.mp pn').1
      simp only [List.length_singleton] at this
      have z : n - W.p.length = 0 := by omega
      rw [z] at pn'
      exact .inr (by simpa using pn'.symm)
  have own' : ∀ {b}, (W.adopt a d).own b → W.own b := fun {b} q => by
    rcases q with q | q
    · rcases lv q with q | q
      · exact .inl q
      · exact .inr (q ▸ ha)
    · exact .inr q.1
  have x1 : Ext0 W (W.adopt a d) := ⟨rfl, ⟨[a], rfl⟩, fun b vs hl e => ⟨fun q => hl (own' q), e⟩, fun b vs e => e, fun b ob vs e => e, fun b ob vs e => e, fun b ws hl e => ⟨fun q => hl (own' q), e⟩, fun b ws hl e => ⟨fun q => hl (own' q), e⟩, fun b u hh e => ⟨hh, e⟩⟩
  have pl : ∀ {m : Nat} {b : Addr}, m < W.G.length → (W.p ++ [a])[m]? = some b → W.p[m]? = some b := fun hm e => by
    rwa [List.getElem?_append_left (by rw [S.len]; exact hm)] at e
  have gl : ∀ {m : Nat} {u : DO}, m < W.G.length → (W.G ++ [d])[m]? = some u → W.G[m]? = some u := fun hm e => by
    rwa [List.getElem?_append_left hm] at e
  have pa : ∀ {m : Nat} {b : Addr}, ¬ m < W.G.length → (W.p ++ [a])[m]? = some b → m = W.G.length ∧ b = a := fun {m b} hm e => by
    rw [List.getElem?_append_right (by rw [S.len]; omega)] at e
    have := (List.getElem?_eq_some_iff.mp e).1
    simp only [List.length_singleton, S.len] at this
    have z : m - W.p.length = 0 := by rw [S.len]; omega
    rw [z] at e
    exact ⟨by omega, by simpa using e.symm⟩
  refine ⟨⟨x.toExt0.trans x1, fun b u hh e => ?_, fun b ob ws e => x.fk _ _ _ e, fun b ob ws e => x.fd _ _ _ e⟩, by simp [Wd.adopt, S.len], fun n u e al => ?_, fun b hb => S.hid b hb.1, fun b hb z => ?_, fun m n u v b e1 e2 a1 a2 p1 p2 => ?_, fun b hb => let ⟨h1, u, e, k⟩ := S.kp b hb; ⟨fun q => h1 (own' q), u, e, k⟩⟩
  · obtain ⟨h1, e1⟩ := x.h b u hh e
    exact ⟨⟨h1, fun z => n0 (z ▸ hh)⟩, e1⟩
  · have e' : (W.G ++ [d])[n]? = some u := e
    by_cases hn : n < W.G.length
    · obtain ⟨b, pb, r⟩ := S.at_ n u (gl hn e') al
      refine ⟨b, ?_, r.mono x1 rfl⟩
      show (W.p ++ [a])[n]? = some b
      rw [List.getElem?_append_left (by rw [S.len]; exact hn)]
      exact pb
    · rw [List.getElem?_append_right (by omega)] at e'
      have := (List.getElem?_eq_some_iff.mp e').1
      simp only [List.length_singleton] at this
      have z : n = W.G.length := by omega
      subst z
      have : u = d := by simpa using e'.symm
      subst this
      refine ⟨a, ?_, hr _ x1 rfl⟩
      show (W.p ++ [a])[W.G.length]? = some a
      rw [← S.len]; simp
  · rcases lv z with z | z
    · exact S.apart b hb.1 z
    · exact hb.2 z
  · have e1' : (W.G ++ [d])[m]? = some u := e1
    have e2' : (W.G ++ [d])[n]? = some v := e2
    have p1' : (W.p ++ [a])[m]? = some b := p1
    have p2' : (W.p ++ [a])[n]? = some b := p2
    by_cases hm : m < W.G.length
    · by_cases hn : n < W.G.length
      · exact S.inj m n u v b (gl hm e1') (gl hn e2') a1 a2 (pl hm p1') (pl hn p2')
      · obtain ⟨_, rfl⟩ := pa hn p2'
        exact absurd ⟨m, u, gl hm e1', a1, pl hm p1'⟩ nla
    · obtain ⟨rfl, rfl⟩ := pa hm p1'
      by_cases hn : n < W.G.length
      · exact absurd ⟨n, v, gl hn e2', a2, pl hn p2'⟩ nla
      · exact (pa hn p2').1.symm
/-- what the machine has made, handed on -/
theorem fin_made {W0 W : Wd} {o : Bool} {xs : List D} {vs : List V} {a : Addr} {Q : VK} (S : Sim W) (x : Ext W0 W) (h0 : W0.H a = none) (n0 : ¬ W0.hid a) (ha : W.hid a) (e : W.H a = some (.lst vs)) (r : DenL W xs vs)
    (h : Fin Den W0 E (mkL o xs W.G) Q) : Q (.ref a) W.H := by
  cases o with
  | false =>
    obtain ⟨x1, x2, S1⟩ := S.show_ x n0
    refine h (.ref a) (W.show_ a) x1 S1 rfl ?_
    simp only [Den]
    exact ⟨a, vs, rfl, S.show_not_own ha, e, DenL.mono0 x2 _ _ r⟩
  | true =>
    obtain ⟨x1, S1⟩ := S.adopt (d := .lst xs) x h0 n0 ha fun W' y e' => ⟨vs, by rw [e']; exact e, DenL.mono0 y _ _ r⟩
    refine h (.ref a) (W.adopt a (.lst xs)) x1 S1 rfl ?_
    simp only [Den]
    exact ⟨a, by show (W.p ++ [a])[W.G.length]? = some a; rw [← S.len]; simp, rfl⟩

/-- the slots of a comprehension's own names forgotten -/
@[simp] def wipeD (s : DSl) : List Nat → DSl
  | [] => s
  | v :: vs => (wipeD s vs).set v none
theorem wipe_sl {W : Wd} {σ : L2.St} {s : DSl} (L : Sl W σ s) : ∀ vs : List Nat, Sl W (wipe σ vs) (wipeD s vs)
  | [] => L
  | v :: vs => by
    have ih := wipe_sl L vs
    unfold wipe wipeD
    refine ⟨by simpa using ih.1, fun i d h => ?_⟩
    by_cases hi : v = i
    · subst hi
      rw [List.getElem?_set] at h
      simp only [if_true] at h
      split at h <;> cases h
    · rw [List.getElem?_set_ne hi] at h ⊢
      exact ih.2 i d h
/-- slots but those of vs are as they were -/
def Kp (vs : List Nat) (σ σ' : L2.St) : Prop := σ'.length = σ.length ∧ ∀ i, i ∉ vs → σ'[i]? = σ[i]?
theorem wipe_at {σ : L2.St} {i : Nat} : ∀ {vs : List Nat}, i ∈ vs → i < σ.length → (wipe σ vs)[i]? = some none
  | [], h, _ => by cases h
  | v :: vs, h, hl => by
    unfold wipe
    by_cases hi : v = i
    · subst hi
      exact List.getElem?_set_self (by rw [wipe_length]; exact hl)
    · rw [List.getElem?_set_ne hi]
      exact wipe_at ((List.mem_cons.mp h).resolve_left fun z => hi z.symm) hl
theorem wipe_kp {vs : List Nat} {σ σ' : L2.St} (h : Kp vs (wipe σ vs) σ') : wipe σ' vs = wipe σ vs := by
  apply List.ext_getElem?
  intro i
  have hl : σ'.length = σ.length := by rw [h.1, wipe_length]
  by_cases hi : i ∈ vs
  · by_cases hb : i < σ.length
    · rw [wipe_at hi hb, wipe_at hi (by rw [hl]; exact hb)]
    · rw [List.getElem?_eq_none (by rw [wipe_length, hl]; omega), List.getElem?_eq_none (by rw [wipe_length]; omega)]
  · rw [wipe_out hi]
    exact h.2 i hi
/-- a target that stores to the slots vs alone -/
structure DHOk (X : Cx) (E : XK) (tg : Expr) (vs : List Nat) (g : DG) : Prop where
  out : ∃ t : TG, PG X tg t ∧ ∀ (W : Wd) (σ : L2.St) (s : DSl) (d : D) (v : V) (Q : L2.St → Hp → Prop), W.K = X.K → Sim W → Sl W σ s → Den W d v → Fin (fun W s σ' => Sl W σ' s ∧ Kp vs σ σ') W E (g d s W.G) Q → t v σ W.H Q
theorem dh_name (i : Nat) {vs : List Nat} {x : Str} {pos : Pos} (hN : X.N.Nodup) (hv : i ∈ vs) (hi : X.N[i]? = some x := by rfl) (hx : Loc X.env.scope x := by first | exact Or.inl rfl | exact Or.inr rfl)
    (hf : X.fn x = true ∨ X.env.scope.names.lookup x = some .local := by first | exact .inl rfl | exact .inr rfl | assumption) : DHOk X E (.Name x pos) vs (gNm i) := by
  refine ⟨_, pg_name hN hi hx hf, fun W σ s d v Q hK S L r h => ?_⟩
  refine Fin.here (RA := fun W s σ' => Sl W σ' s ∧ Kp vs σ σ') S h ⟨L.set r, by simp, fun j hj => ?_⟩
  exact List.getElem?_set_ne (fun z => hj (by rw [← z]; exact hv))
structure DHsOk (X : Cx) (E : XK) (tgs : List Expr) (vs : List Nat) (g : DGs) : Prop where
  out : ∃ t : TGs, PGs X tgs t ∧ ∀ (W : Wd) (σ : L2.St) (s : DSl) (ds : List D) (us : List V) (Q : L2.St → Hp → Prop), W.K = X.K → Sim W → Sl W σ s → DenL W ds us → Fin (fun W s σ' => Sl W σ' s ∧ Kp vs σ σ') W E (g ds s W.G) Q → t us σ W.H Q
theorem dhs_nil {vs : List Nat} : DHsOk X E [] vs gNil := by
  refine ⟨_, pgs_nil, fun W σ s ds us Q hK S L r h => ?_⟩
  cases ds with
  | nil => exact ⟨by simpa [DenL] using r, Fin.here (RA := fun W s σ' => Sl W σ' s ∧ Kp vs σ σ') S h ⟨L, rfl, fun _ _ => rfl⟩⟩
  | cons d ds => exact h.elim
theorem dhs_cons {e : Expr} {es : List Expr} {vs : List Nat} {g : DG} {gs : DGs} (h1 : DHOk X E e vs g) (h2 : DHsOk X E es vs gs)
    (hs : (assignEach (e :: es) X.env).map (·.2) = assign e X.env :: (assignEach es X.env).map (·.2) := by rfl) : DHsOk X E (e :: es) vs (gCons g gs) := by
  obtain ⟨t, p, q⟩ := h1.out
  obtain ⟨t', p', q'⟩ := h2.out
  refine ⟨_, pgs_cons p p' hs, fun W σ s ds us Q hK S L r h => ?_⟩
  cases ds with
  | nil => exact h.elim
  | cons d ds =>
    simp only [DenL] at r
    obtain ⟨v, r', rfl, r1, r2⟩ := r
    refine ⟨v, r', rfl, q W σ s d v _ hK S L r1 (Fin.seq (RC := fun W s σ' => Sl W σ' s ∧ Kp vs σ σ') h fun s1 σ1 W1 x1 S1 L1 h1 => ?_)⟩
    refine q' W1 σ1 s1 ds r' Q (x1.k.trans hK) S1 L1.1 (DenL.mono x1 _ _ r2) ?_
    cases e1 : gs ds s1 W1.G with
    | ok a G => rw [e1] at h1; exact fun b W' y S' e' c => h1 b W' y S' e' ⟨c.1, c.2.1.trans L1.2.1, fun i hi => (c.2.2 i hi).trans (L1.2.2 i hi)⟩
    | ex a G => rw [e1] at h1; exact h1
    | stop => rw [e1] at h1; exact h1
theorem dh_tup {es : List Expr} {k : Nat} {vs : List Nat} {g : DGs} {n : Nat} {pos : Pos} (hc : X.calm = true) (h : DHsOk X E es vs g) (hn : (assignEach es X.env).length = n := by rfl) (hst : (assignEach es X.env).findIdx? (·.1) = none := by rfl) : DHOk X E (.Tuple es k pos) vs (gTup n g) := by
  obtain ⟨t, p, q⟩ := h.out
  refine ⟨_, pg_tup hc p hn hst, fun W σ s d v Q hK S L r h => ?_⟩
  unfold gTup at h
  split at h
  · rename_i xs e
    obtain ⟨a, us, rfl, h1, h2⟩ := tupOf_den r e
    split at h
    · rename_i c
      exact ⟨a, us, rfl, by rw [← hK]; exact h1, by rw [h2.len]; exact c, q W σ s xs us Q hK S L h2 h⟩
    · exact h.elim
  · exact h.elim
structure DTsOk (X : Cx) (E : XK) (ifs : List Expr) (f : DT) : Prop where
  out : ∃ t : TT, PTs X ifs t ∧ ∀ (W : Wd) (σ : L2.St) (s : DSl) (Q : Bool → Hp → Prop), W.K = X.K → Sim W → Sl W σ s → Fin RB W E (f s W.G) Q → t σ W.H Q
def dYes : DT := fun _ G => .ok true G
theorem dts_nil : DTsOk X E [] dYes := ⟨_, pts_nil, fun W σ s Q hK S L h => Fin.here (RA := RB) S h rfl⟩
theorem dts_one {c : Expr} {f : DT} (h : DTOk X E c f) : DTsOk X E [c] f := let ⟨t, p, q⟩ := h.out; ⟨t, pts_one p, q⟩
/-- the turns of a comprehension -/
@[simp] def lcL (g : DG) (tt : DT) (te : DE) (s0 : DSl) : List D → List D → DH → R (List D)
  | [], acc, G => .ok acc G
  | d :: ds, acc, G => (g d s0 G).bind fun s1 G => (tt s1 G).bind fun b G => if b = true then (te s1 G).bind fun y G => if acc.length < sizeLine then lcL g tt te s0 ds (acc ++ [y]) G else .stop else lcL g tt te s0 ds acc G
def dLc (o : Bool) (vs : List Nat) (it : DA) (g : DG) (tt : DT) (te : DE) : DE := fun s G => (it s G).bind fun ds G => (lcL g tt te (wipeD s vs) ds [] G).bind fun xs G => mkL o xs G
theorem Fin.iseq {W : Wd} {r : R (List D)} {k : List D → DH → R D} {Q : VK} {Q' : It → Hp → Prop} (h : Fin Den W E (r.bind k) Q)
    (hk : ∀ ds J W', Ext W W' → Sim W' → DWalk W' J ds → Fin Den W' E (k ds W'.G) Q → Q' J W'.H) : IFin W E r Q' := by
  cases r with
  | ok a G => exact fun J W' x S e q => hk a J W' x S q (by subst e; exact Fin.mono x h)
  | ex e G => exact h
  | stop => exact h
theorem lc_out {K : PySem.W.Frag} {o : Bool} {vs : List Nat} {fi : DA} {g : DG} {tt : DT} {te : DE} {wi : TI} {tg : TG} {ttt : TT} {tte : TE}
    (qi : ∀ (W : Wd) (σ : L2.St) (s : DSl) (R : It → Hp → Prop), W.K = K → Sim W → Sl W σ s → IFin W E (fi s W.G) R → wi σ W.H R)
    (qg : ∀ (W : Wd) (σ : L2.St) (s : DSl) (d : D) (v : V) (Q : L2.St → Hp → Prop), W.K = K → Sim W → Sl W σ s → Den W d v → Fin (fun W s σ' => Sl W σ' s ∧ Kp vs σ σ') W E (g d s W.G) Q → tg v σ W.H Q)
    (qt : ∀ (W : Wd) (σ : L2.St) (s : DSl) (Q : Bool → Hp → Prop), W.K = K → Sim W → Sl W σ s → Fin RB W E (tt s W.G) Q → ttt σ W.H Q)
    (qe : ∀ (W : Wd) (σ : L2.St) (s : DSl) (Q : VK), W.K = K → Sim W → Sl W σ s → Fin Den W E (te s W.G) Q → tte σ W.H Q) :
    ∀ (W : Wd) (σ : L2.St) (s : DSl) (Q : VK), W.K = K → Sim W → Sl W σ s → Fin Den W E (dLc o vs fi g tt te s W.G) Q → tLc wi tg ttt tte vs σ W.H Q := by
  intro W σ s Q hK S L h
  refine qi W σ s _ hK S L (Fin.iseq h fun ds J W0 x0 S0 w h0 => ?_)
  have hK0 : W0.K = K := x0.k.trans hK
  intro a ha
  have n0 : ¬ W0.hid a := fun z => S0.not_own_of_none ha (.inr z)
  have L0 : Sl W0 σ s := L.mono x0
  refine ⟨fun i m H => ∃ (W1 : Wd) (acc : List D) (va : List V), W1.H = H ∧ Ext W0 W1 ∧ Sim W1 ∧ W1.hid a ∧ W1.H a = some (.lst va) ∧ DenL W1 acc va ∧ m = ds.length - i ∧ i ≤ ds.length ∧
    Fin Den W0 E ((lcL g tt te (wipeD s vs) (ds.drop i) acc W1.G).bind fun xs G => mkL o xs G) Q, ⟨ds.length, ?_⟩, ?_⟩
  · obtain ⟨x1, S1⟩ := S0.hide (o := .lst []) ha trivial
    exact ⟨_, [], [], rfl, x1, S1, .inr rfl, upd_same, by simp [DenL], by simp, Nat.zero_le _, h0⟩
  · rintro i m H ⟨W1, acc, va, rfl, x1, S1, ha1, ea, ra, rfl, hi, h1⟩
    by_cases hlt : i < ds.length
    · have ed : ds.drop i = ds[i] :: ds.drop (i + 1) := List.drop_eq_getElem_cons hlt
      rw [ed] at h1
      obtain ⟨hgo, hyl⟩ := w.go i W1 ds[i] (List.getElem?_eq_getElem hlt) x1 S1
      refine .inr ⟨hgo, fun H' => ∃ (W1 : Wd) (acc : List D) (va : List V), W1.H = H' ∧ Ext W0 W1 ∧ Sim W1 ∧ W1.hid a ∧ W1.H a = some (.lst va) ∧ DenL W1 acc va ∧
        Fin Den W0 E ((lcL g tt te (wipeD s vs) (ds.drop (i + 1)) acc W1.G).bind fun xs G => mkL o xs G) Q, fun H' ⟨W', c, v, e1, e2, e3, e4, e5, e6, e7⟩ => ⟨ds.length - (i + 1), by omega, W', c, v, e1, e2, e3, e4, e5, e6, rfl, hlt, e7⟩, fun x H' y => ?_⟩
      obtain ⟨W2, rfl, x2, S2, eG, r2⟩ := hyl x H' y
      rw [← eG] at h1
      unfold lcL at h1
      rw [R.bind_assoc] at h1
      have x02 := x1.trans x2
      refine qg W2 (wipe σ vs) (wipeD s vs) _ x _ (x02.k.trans hK0) S2 (wipe_sl (L0.mono x02) vs) r2 (Fin.seq0 x02 h1 fun s3 σ3 W3 x3 S3 L3 h3 => ?_)
      refine ⟨wipe_kp L3.2, ?_⟩
      rw [R.bind_assoc] at h3
      have x03 := x02.trans x3
      refine qt W3 σ3 s3 _ (x03.k.trans hK0) S3 L3.1 (Fin.seq0 (RA := RB) x03 h3 fun b b' W4 x4 S4 eb h4 => ?_)
      obtain rfl : b = b' := eb
      have x04 := x03.trans x4
      have x14 := (x2.trans x3).trans x4
      cases b with
      | false =>
        rw [if_neg Bool.false_ne_true] at h4 ⊢
        obtain ⟨c1, c2⟩ := x14.h a _ ha1 ea
        exact ⟨W4, acc, va, rfl, x04, S4, c1, c2, DenL.mono x14 _ _ ra, h4⟩
      | true =>
        rw [if_pos rfl] at h4 ⊢
        rw [R.bind_assoc] at h4
        refine qe W4 σ3 s3 _ (x04.k.trans hK0) S4 (L3.1.mono x4) (Fin.seq0 (RA := Den) x04 h4 fun y v W5 x5 S5 d5 h5 => ?_)
        have x05 := x04.trans x5
        have x15 := x14.trans x5
        obtain ⟨c1, c2⟩ := x15.h a _ ha1 ea
        split at h5
        · rename_i c
          refine ⟨va, c2, by rw [ra.len]; exact c, ?_⟩
          obtain ⟨g1, g2, g3⟩ := S5.grow (o := .lst (va ++ [v])) x05 ha n0 c1 trivial
          exact ⟨_, acc ++ [y], va ++ [v], rfl, g1, g3, c1, upd_same, DenL.app (DenL.mono0 g2 _ _ (DenL.mono x15 _ _ ra)) (DenL.one (Den.mono0 g2 _ _ d5)), h5⟩
        · exact h5.elim
    · have ei : i = ds.length := by omega
      subst ei
      rw [List.drop_length] at h1
      exact .inl ⟨w.stop W1 x1 S1, fin_made S1 x1 ha n0 ha1 ea ra h1⟩
/-- the readings that a worth gives -/
def cE (K : PySem.W.Frag) (E : XK) (f : DE) : TE := fun σ H Q => ∃ (W : Wd) (s : DSl), W.H = H ∧ W.K = K ∧ Sim W ∧ Sl W σ s ∧ Fin Den W E (f s W.G) Q
def cT (K : PySem.W.Frag) (E : XK) (f : DT) : TT := fun σ H Q => ∃ (W : Wd) (s : DSl), W.H = H ∧ W.K = K ∧ Sim W ∧ Sl W σ s ∧ Fin RB W E (f s W.G) Q
def cG (K : PySem.W.Frag) (E : XK) (vs : List Nat) (g : DG) : TG := fun v σ H Q => ∃ (W : Wd) (s : DSl) (d : D), W.H = H ∧ W.K = K ∧ Sim W ∧ Sl W σ s ∧ Den W d v ∧ Fin (fun W s σ' => Sl W σ' s ∧ Kp vs σ σ') W E (g d s W.G) Q
theorem DEOk.pe {e : Expr} {f : DE} (h : DEOk X E e f) : PE X e (cE X.K E f) := by
  obtain ⟨t, p, q⟩ := h.out
  refine ⟨fun pins s σ H Q I h => ?_⟩
  obtain ⟨W, sl, rfl, hK, S, L, hf⟩ := h
  exact p.run pins s σ W.H Q I (q W σ sl Q hK S L hf)
theorem DTsOk.pt {es : List Expr} {f : DT} (h : DTsOk X E es f) : PTs X es (cT X.K E f) := by
  obtain ⟨t, p, q⟩ := h.out
  refine ⟨fun pins s σ H Q I h => ?_⟩
  obtain ⟨W, sl, rfl, hK, S, L, hf⟩ := h
  exact p.run pins s σ W.H Q I (q W σ sl Q hK S L hf)
theorem DHOk.pg {e : Expr} {vs : List Nat} {g : DG} (h : DHOk X E e vs g) : PG X e (cG X.K E vs g) := by
  obtain ⟨t, p, q⟩ := h.out
  refine ⟨fun pins s σ H v u Q I rv h => ?_⟩
  obtain ⟨W, sl, d, rfl, hK, S, L, hd, hf⟩ := h
  exact p.run pins s σ W.H v u Q I rv (q W σ sl d v Q hK S L hd hf)
/-- [elt for tg in iter if ..] -/
theorem de_lc (o : Bool) {elt tg iter : Expr} {ifs : List Expr} {scope : Scope} {own : List (Str × Nat)} {pos : Pos} {fi : DA} {g : DG} {tt : DT} {te : DE} (hc : X.calm = true) (hN : X.N.Nodup) (hi : DIOk X E tg iter fi) (ok : BlkOk X.N X.env.scope scope own)
    (hg : ∀ (s : Shared) (H : Hp) (C : Addr) (cl : List (Str × Addr)) (fp : List Addr), DHOk (X.blk s H scope (compEnvC scope cl C X.env) fp) E tg (own.map (·.2)) g)
    (ht : ∀ (s : Shared) (H : Hp) (C : Addr) (cl : List (Str × Addr)) (fp : List Addr), DTsOk (X.blk s H scope (compEnvC scope cl C X.env) fp) E ifs tt)
    (he : ∀ (s : Shared) (H : Hp) (C : Addr) (cl : List (Str × Addr)) (fp : List Addr), DEOk (X.blk s H scope (compEnvC scope cl C X.env) fp) E elt te)
    (hs : ∀ x, foldedSetIterable iter X.env x = pure x := by intro _; rfl) : DEOk X E (.ListComp elt [⟨tg, iter, ifs, 0⟩] scope pos) (dLc o (own.map (·.2)) fi g tt te) := by
  obtain ⟨wi, pi, qi⟩ := hi.out
  exact ⟨_, pe_lc (g := cG X.K E (own.map (·.2)) g) (tt := cT X.K E tt) (te := cE X.K E te) hc hN pi ok (fun s H C cl fp => (hg s H C cl fp).pg) (fun s H C cl fp => (ht s H C cl fp).pt) (fun s H C cl fp => (he s H C cl fp).pe) hs,
    lc_out qi (fun W σ s d v Q hK S L r h => ⟨W, s, d, rfl, hK, S, L, r, h⟩) (fun W σ s Q hK S L h => ⟨W, s, rfl, hK, S, L, h⟩) fun W σ s Q hK S L h => ⟨W, s, rfl, hK, S, L, h⟩⟩
/-- name = [..] on one line -/
theorem ds_setLc (o : Bool) (i : Nat) {y : Str} {py : Pos} {elt tg iter : Expr} {ifs : List Expr} {scope : Scope} {own : List (Str × Nat)} {pos spos : Pos} {fi : DA} {g : DG} {tt : DT} {te : DE} (hc : X.calm = true) (hN : X.N.Nodup)
    (hsw : swapsWith (.ListComp elt [⟨tg, iter, ifs, 0⟩] scope pos) (some (.Name y py)) spos.line X.env = pure true) (hi : DIOk X E tg iter fi) (ok : BlkOk X.N X.env.scope scope own)
    (hg : ∀ (s : Shared) (H : Hp) (C : Addr) (cl : List (Str × Addr)) (fp : List Addr), DHOk (X.blk s H scope (compEnvC scope cl C X.env) fp) E tg (own.map (·.2)) g)
    (ht : ∀ (s : Shared) (H : Hp) (C : Addr) (cl : List (Str × Addr)) (fp : List Addr), DTsOk (X.blk s H scope (compEnvC scope cl C X.env) fp) E ifs tt)
    (he : ∀ (s : Shared) (H : Hp) (C : Addr) (cl : List (Str × Addr)) (fp : List Addr), DEOk (X.blk s H scope (compEnvC scope cl C X.env) fp) E elt te)
    (hy : X.N[i]? = some y := by rfl) (hyl : X.env.scope.names.lookup y = some .local := by rfl) (hs : ∀ x, foldedSetIterable iter X.env x = pure x := by intro _; rfl) :
    DSOk X E (.Assign [.Name y py] (.ListComp elt [⟨tg, iter, ifs, 0⟩] scope pos) spos) (sAsg (dLc o (own.map (·.2)) fi g tt te) (gNm i)) := by
  obtain ⟨wi, pi, qi⟩ := hi.out
  exact ⟨_, ps_setLc (g := cG X.K E (own.map (·.2)) g) (tt := cT X.K E tt) (te := cE X.K E te) hc hN hy hyl hsw pi ok (fun s H C cl fp => (hg s H C cl fp).pg) (fun s H C cl fp => (ht s H C cl fp).pt) (fun s H C cl fp => (he s H C cl fp).pe) hs,
    asg_out (lc_out qi (fun W σ s d v Q hK S L r h => ⟨W, s, d, rfl, hK, S, L, r, h⟩) (fun W σ s Q hK S L h => ⟨W, s, rfl, hK, S, L, h⟩) fun W σ s Q hK S L h => ⟨W, s, rfl, hK, S, L, h⟩)
      fun W σ s d v Q hK S L r h => Fin.here (RA := RSl) S h (L.set r)⟩
end

/-! ### the end of a law -/
/-- the script -/
def scD (ns : List Int) : D := .frz (ns.map D.int)
theorem ints_den {W : Wd} : ∀ ns : List Int, DenL W (ns.map D.int) (ns.map V.int)
  | [] => by simp [DenL]
  | n :: ns => by
    simp only [List.map_cons, DenL]
    exact ⟨_, _, rfl, by simp [Den], ints_den ns⟩
end DL
end
/-! ==== DEq ==== -/
section
set_option Elab.async false
set_option linter.all false
set_option autoImplicit false
set_option maxRecDepth 100000
set_option maxHeartbeats 4000000
/-! DL: == and !=, in and not in, of data at any depth. -/
namespace DL
open PySem PySem.Spec PyProof.Rows L2

mutual
/-- how deep data is -/
@[simp] def dep : D → Nat
  | .tup xs => depL xs + 1
  | .ktup xs => depL xs + 1
  | .lst xs => depL xs + 1
  | .frz xs => depL xs + 1
  | _ => 0
@[simp] def depL : List D → Nat
  | [] => 0
  | x :: xs => max (dep x) (depL xs)
end
mutual
/-- == of data -/
@[simp] def eqD : D → D → Bool
  | .non, y => (match y with | .non => true | _ => false)
  | .bl a, y => (match y with | .bl b => a == b | .int j => (if a then 1 else 0) == j | _ => false)
  | .int i, y => (match y with | .bl b => i == (if b then 1 else 0) | .int j => i == j | _ => false)
  | .str a, y => (match y with | .str b => a == b | _ => false)
  | .tup xs, y => (match tupOf y with | some ys => eqL xs ys | none => false)
  | .ktup xs, y => (match tupOf y with | some ys => eqL xs ys | none => false)
  | .lst xs, y => (match valL y with | some ys => eqL xs ys | none => false)
  | .frz xs, y => (match valL y with | some ys => eqL xs ys | none => false)
  | _, _ => false
@[simp] def eqL : List D → List D → Bool
  | [], ys => ys.isEmpty
  | x :: xs, ys => (match ys with | y :: ys => eqD x y && eqL xs ys | [] => false)
end
mutual
/-- how data lies in the machine's heap -/
def Rq (h : Heap) : D → Value → Prop
  | .non, u => u = .none
  | .bl b, u => u = .bool b
  | .int i, u => ∃ t, u = .int i t
  | .str x, u => ∃ t, u = .str x t
  | .tup xs, u => ∃ a its, u = .ref a ∧ h.IsTuple a its ∧ RqL h xs its.toList
  | .ktup xs, u => ∃ a its, u = .ref a ∧ h.IsTuple a its ∧ RqL h xs its.toList
  | .lst xs, u => ∃ a its, u = .ref a ∧ h.IsList a its ∧ RqL h xs its.toList
  | .frz xs, u => ∃ a its, u = .ref a ∧ h.IsList a its ∧ RqL h xs its.toList
  | _, _ => False
def RqL (h : Heap) : List D → List Value → Prop
  | [], us => us = []
  | x :: xs, us => ∃ u r, us = u :: r ∧ Rq h x u ∧ RqL h xs r
end
theorem RqL.len {h : Heap} : ∀ {xs : List D} {us : List Value}, RqL h xs us → us.length = xs.length
  | [], _, r => by simp only [RqL] at r; subst r; rfl
  | _ :: xs, _, r => by
    simp only [RqL] at r
    obtain ⟨u, q, rfl, _, r2⟩ := r
    simp [RqL.len r2]
theorem tup_rq {h : Heap} {y : D} {u : Value} {ys : List D} (r : Rq h y u) (e : tupOf y = some ys) : ∃ a its, u = .ref a ∧ h.IsTuple a its ∧ RqL h ys its.toList := by
  cases y with
  | tup zs => cases e; simpa only [Rq] using r
  | ktup zs => cases e; simpa only [Rq] using r
  | _ => cases e
theorem lst_rq {h : Heap} {y : D} {u : Value} {ys : List D} (r : Rq h y u) (e : valL y = some ys) : ∃ a its, u = .ref a ∧ h.IsList a its ∧ RqL h ys its.toList := by
  cases y with
  | lst zs => cases e; simpa only [Rq] using r
  | frz zs => cases e; simpa only [Rq] using r
  | _ => cases e
theorem isList_inj {h : Heap} {a : Addr} {x y : Array Value} (p : h.IsList a x) (q : h.IsList a y) : x = y := by
  obtain ⟨o, e, _, n, d⟩ := p
  obtain ⟨o', e', _, n', d'⟩ := q
  rw [e] at e'; cases e'
  rw [d] at d'
  injection d'
theorem isTuple_inj {h : Heap} {a : Addr} {x y : Array Value} (p : h.IsTuple a x) (q : h.IsTuple a y) : x = y := by
  obtain ⟨o, e, _, n, d⟩ := p
  obtain ⟨o', e', _, n', d'⟩ := q
  rw [e] at e'; cases e'
  rw [d] at d'
  injection d'
theorem isList_tuple {h : Heap} {a : Addr} {x y : Array Value} (p : h.IsList a x) (q : h.IsTuple a y) : False := by
  obtain ⟨o, e, c, n, d⟩ := p
  obtain ⟨o', e', c', n', d'⟩ := q
  rw [e] at e'; cases e'
  rw [c] at c'
  injection c' with z
  exact absurd z (by decide)
theorem rq_eqT {h : Heap} (xs : List D) (ih : ∀ (ys : List D) (us : List Value), RqL h xs us → RqL h ys us → eqL xs ys = true) : ∀ (y : D) (a : Addr) (its : Array Value), h.IsTuple a its → RqL h xs its.toList → Rq h y (.ref a) → (match tupOf y with | some ys => eqL xs ys | none => false) = true
  | y, a, its, r1, r2, q => by
    cases e : tupOf y with
    | some ys =>
      obtain ⟨b, jts, eb, q1, q2⟩ := tup_rq q e
      cases eb
      obtain rfl := isTuple_inj r1 q1
      exact ih ys _ r2 q2
    | none =>
      exfalso
      cases y <;> simp only [Rq] at q <;> first
        | (cases e; done)
        | (obtain ⟨_, _, eb, q1, _⟩ := q; cases eb; exact isList_tuple q1 r1)
        | (obtain ⟨_, eb⟩ := q; cases eb)
        | (cases q; done)
theorem rq_eqS {h : Heap} (xs : List D) (ih : ∀ (ys : List D) (us : List Value), RqL h xs us → RqL h ys us → eqL xs ys = true) : ∀ (y : D) (a : Addr) (its : Array Value), h.IsList a its → RqL h xs its.toList → Rq h y (.ref a) → (match valL y with | some ys => eqL xs ys | none => false) = true
  | y, a, its, r1, r2, q => by
    cases e : valL y with
    | some ys =>
      obtain ⟨b, jts, eb, q1, q2⟩ := lst_rq q e
      cases eb
      obtain rfl := isList_inj r1 q1
      exact ih ys _ r2 q2
    | none =>
      exfalso
      cases y <;> simp only [Rq] at q <;> first
        | (cases e; done)
        | (obtain ⟨_, _, eb, q1, _⟩ := q; cases eb; exact isList_tuple r1 q1)
        | (obtain ⟨_, eb⟩ := q; cases eb)
        | (cases q; done)
mutual
/-- two readings of one thing are equal data -/
theorem rq_eq {h : Heap} : ∀ (x y : D) (u : Value), Rq h x u → Rq h y u → eqD x y = true
  | .non, y, u, r, q => by
    simp only [Rq] at r; subst r
    cases y <;> simp only [Rq] at q <;> first | (subst q; rfl; done) | rfl | (obtain ⟨_, e⟩ := q; cases e; done) | (cases q; done) | (obtain ⟨_, _, e, _⟩ := q; cases e)
  | .bl a, y, u, r, q => by
    simp only [Rq] at r; subst r
    cases y <;> simp only [Rq] at q <;> first | (cases q; simp [eqD]; done) | (obtain ⟨_, e⟩ := q; cases e; done) | (cases q; done) | (obtain ⟨_, _, e, _⟩ := q; cases e)
  | .int a, y, u, r, q => by
    simp only [Rq] at r; obtain ⟨t, rfl⟩ := r
    cases y <;> simp only [Rq] at q <;> first | (obtain ⟨_, e⟩ := q; cases e <;> simp [eqD]; done) | (cases q; done) | (obtain ⟨_, _, e, _⟩ := q; cases e)
  | .str a, y, u, r, q => by
    simp only [Rq] at r; obtain ⟨t, rfl⟩ := r
    cases y <;> simp only [Rq] at q <;> first | (obtain ⟨_, e⟩ := q; cases e <;> simp [eqD]; done) | (cases q; done) | (obtain ⟨_, _, e, _⟩ := q; cases e)
  | .tup xs, y, u, r, q => by
    simp only [Rq] at r; obtain ⟨a, its, rfl, r1, r2⟩ := r
    exact rq_eqT xs (fun ys us => rq_eqL xs ys us) y a its r1 r2 q
  | .ktup xs, y, u, r, q => by
    simp only [Rq] at r; obtain ⟨a, its, rfl, r1, r2⟩ := r
    exact rq_eqT xs (fun ys us => rq_eqL xs ys us) y a its r1 r2 q
  | .lst xs, y, u, r, q => by
    simp only [Rq] at r; obtain ⟨a, its, rfl, r1, r2⟩ := r
    exact rq_eqS xs (fun ys us => rq_eqL xs ys us) y a its r1 r2 q
  | .frz xs, y, u, r, q => by
    simp only [Rq] at r; obtain ⟨a, its, rfl, r1, r2⟩ := r
    exact rq_eqS xs (fun ys us => rq_eqL xs ys us) y a its r1 r2 q
  | .dK _, _, _, r, _ => by simp only [Rq] at r
  | .dT _, _, _, r, _ => by simp only [Rq] at r
  | .obj _, _, _, r, _ => by simp only [Rq] at r
  | .fn _, _, _, r, _ => by simp only [Rq] at r
  | .err _ _, _, _, r, _ => by simp only [Rq] at r
theorem rq_eqL {h : Heap} : ∀ (xs ys : List D) (us : List Value), RqL h xs us → RqL h ys us → eqL xs ys = true
  | [], ys, us, r, q => by
    simp only [RqL] at r; subst r
    cases ys with
    | nil => simp [eqL]
    | cons y ys => simp only [RqL] at q; obtain ⟨_, _, e, _⟩ := q; cases e
  | x :: xs, ys, us, r, q => by
    simp only [RqL] at r; obtain ⟨u, r', rfl, r1, r2⟩ := r
    cases ys with
    | nil => simp only [RqL] at q; cases q
    | cons y ys =>
      simp only [RqL] at q
      obtain ⟨_, _, e, q1, q2⟩ := q
      cases e
      simp only [eqL]
      rw [rq_eq x y _ r1 q1, rq_eqL xs ys _ r2 q2]
      rfl
end
/-- the j-th of both -/
def prs (xs ys : List D) (j : Nat) : Bool := match xs[j]?, ys[j]? with
  | some x, some y => eqD x y
  | _, _ => false
theorem eqL_prs : ∀ xs ys : List D, ((List.range (min xs.length ys.length)).all (prs xs ys) && xs.length == ys.length) = eqL xs ys
  | [], [] => by simp [eqL]
  | [], y :: ys => by simp [eqL]
  | x :: xs, [] => by simp [eqL]
  | x :: xs, y :: ys => by
    have ih := eqL_prs xs ys
    have e : min (x :: xs).length (y :: ys).length = min xs.length ys.length + 1 := by simp only [List.length_cons]; omega
    rw [e, List.range_succ_eq_map, List.all_cons, List.all_map]
    have e2 : ((prs (x :: xs) (y :: ys)) ∘ Nat.succ) = prs xs ys := by
      funext j
      simp [prs]
    rw [e2]
    have e3 : ((x :: xs).length == (y :: ys).length) = (xs.length == ys.length) := by simp
    rw [e3]
    simp only [eqL, ← ih, prs, List.getElem?_cons_zero, Bool.and_assoc]
theorem eqL_len {xs ys : List D} (h : xs.length = ys.length) : (List.range xs.length).all (prs xs ys) = eqL xs ys := by
  rw [← eqL_prs xs ys, h]
  simp
theorem eqL_ne {xs ys : List D} (h : xs.length ≠ ys.length) : eqL xs ys = false := by
  rw [← eqL_prs xs ys]
  simp [h]
open SeqAt in
theorem eqAt_rqT (xs : List D) (ih : ∀ (ys : List D) (A : Around) (s : Shared) (us vs : List Value), RqL s.heap xs us → RqL s.heap ys vs → A.units + depL xs < cLine → ∀ j (h1 : j < us.length) (h2 : j < vs.length), EqAt A s us[j] vs[j] (prs xs ys j)) : ∀ (y : D) (A : Around) (s : Shared) (a : Addr) (v : Value) (its : Array Value), s.heap.IsTuple a its → RqL s.heap xs its.toList → Rq s.heap y v → A.units + (depL xs + 1) < cLine →
    EqAt A s (.ref a) v (match tupOf y with | some ys => eqL xs ys | none => false)
  | y, A, s, a, v, its, r1, r2, q, hu => by
    have hz : A.units < cLine := by omega
    cases e : tupOf y with
    | some ys =>
      obtain ⟨b, jts, rfl, q1, q2⟩ := tup_rq q e
      show EqAt A s (.ref a) (.ref b) (eqL xs ys)
      by_cases hab : a = b
      · subst hab
        obtain rfl := isTuple_inj r1 q1
        rw [rq_eqL xs ys _ r2 q2]
        exact EqAt.same _
      · have n1 : its.size = xs.length := by simpa using r2.len
        have n2 : jts.size = ys.length := by simpa using q2.len
        rw [← eqL_prs xs ys, ← n1, ← n2]
        refine EqAt.of_refs hab (RcAt.tuples r1 q1 hz fun j j1 j2 => ?_)
        have := ih ys A.in1 s its.toList jts.toList r2 q2 (by show A.units + 1 + depL xs < cLine; omega) j (by simpa using j1) (by simpa using j2)
        simpa using this
    | none =>
      dsimp only
      cases y <;> simp only [Rq] at q <;> first
        | (cases e; done)
        | (subst q; first | with_reducible exact EqAt.tuple_none r1 hz | with_reducible exact EqAt.tuple_bool _ r1 hz)
        | (obtain ⟨t, rfl⟩ := q; first | with_reducible exact EqAt.tuple_int _ _ r1 hz | with_reducible exact EqAt.tuple_str _ _ r1 hz)
        | (obtain ⟨a, its, rfl, q1, _⟩ := q; with_reducible exact EqAt.tuple_list r1 q1 hz)
open SeqAt in
theorem eqAt_rqS (xs : List D) (ih : ∀ (ys : List D) (A : Around) (s : Shared) (us vs : List Value), RqL s.heap xs us → RqL s.heap ys vs → A.units + depL xs < cLine → ∀ j (h1 : j < us.length) (h2 : j < vs.length), EqAt A s us[j] vs[j] (prs xs ys j)) : ∀ (y : D) (A : Around) (s : Shared) (a : Addr) (v : Value) (its : Array Value), s.heap.IsList a its → RqL s.heap xs its.toList → Rq s.heap y v → A.units + (depL xs + 1) < cLine →
    EqAt A s (.ref a) v (match valL y with | some ys => eqL xs ys | none => false)
  | y, A, s, a, v, its, r1, r2, q, hu => by
    have hz : A.units < cLine := by omega
    cases e : valL y with
    | some ys =>
      obtain ⟨b, jts, rfl, q1, q2⟩ := lst_rq q e
      show EqAt A s (.ref a) (.ref b) (eqL xs ys)
      by_cases hab : a = b
      · subst hab
        obtain rfl := isList_inj r1 q1
        rw [rq_eqL xs ys _ r2 q2]
        exact EqAt.same _
      · have n1 : its.size = xs.length := by simpa using r2.len
        have n2 : jts.size = ys.length := by simpa using q2.len
        by_cases hsz : its.size = jts.size
        · rw [← eqL_len (by omega : xs.length = ys.length), ← n1]
          refine EqAt.of_refs hab (RcAt.lists r1 q1 hsz hz fun j j1 j2 => ?_)
          have := ih ys A.in1 s its.toList jts.toList r2 q2 (by show A.units + 1 + depL xs < cLine; omega) j (by simpa using j1) (by simpa using j2)
          simpa using this
        · rw [eqL_ne (by omega : xs.length ≠ ys.length)]
          exact EqAt.of_refs hab (RcAt.lists_lengths r1 q1 (by simpa using hsz) hz)
    | none =>
      dsimp only
      cases y <;> simp only [Rq] at q <;> first
        | (cases e; done)
        | (subst q; first | with_reducible exact EqAt.list_none r1 hz | with_reducible exact EqAt.list_bool _ r1 hz)
        | (obtain ⟨t, rfl⟩ := q; first | with_reducible exact EqAt.list_int _ _ r1 hz | with_reducible exact EqAt.list_str _ _ r1 hz)
        | (obtain ⟨a, its, rfl, q1, _⟩ := q; with_reducible exact EqAt.list_tuple r1 q1 hz)
open SeqAt in
mutual
theorem eqAt_rq : ∀ (x y : D) (A : Around) (s : Shared) (u v : Value), Rq s.heap x u → Rq s.heap y v → A.units + dep x < cLine → A.units < cLine → EqAt A s u v (eqD x y)
  | .non, y, A, s, u, v, r, q, hu, hz => by
    simp only [Rq] at r; subst r
    cases y <;> simp only [Rq] at q <;> simp only [eqD] <;> first
      | (subst q; first | with_reducible exact EqAt.same _ | with_reducible exact EqAt.none_bool _)
      | (obtain ⟨t, rfl⟩ := q; first | with_reducible exact EqAt.none_int _ _ | with_reducible exact EqAt.none_str _ _)
      | (obtain ⟨a, its, rfl, q1, _⟩ := q; first | with_reducible exact EqAt.none_list q1 hz | with_reducible exact EqAt.none_tuple q1 hz)
  | .bl b, y, A, s, u, v, r, q, hu, hz => by
    simp only [Rq] at r; subst r
    cases y <;> simp only [Rq] at q <;> simp only [eqD] <;> first
      | (subst q; first | with_reducible exact EqAt.bool_none _ | with_reducible exact EqAt.bool_bool _ _)
      | (obtain ⟨t, rfl⟩ := q; first | with_reducible exact EqAt.bool_int _ _ _ | with_reducible exact EqAt.bool_str _ _ _)
      | (obtain ⟨a, its, rfl, q1, _⟩ := q; first | with_reducible exact EqAt.bool_list _ q1 hz | with_reducible exact EqAt.bool_tuple _ q1 hz)
  | .int i, y, A, s, u, v, r, q, hu, hz => by
    simp only [Rq] at r; obtain ⟨t, rfl⟩ := r
    cases y <;> simp only [Rq] at q <;> simp only [eqD] <;> first
      | (subst q; first | with_reducible exact EqAt.int_none _ _ | with_reducible exact EqAt.int_bool _ _ _)
      | (obtain ⟨t, rfl⟩ := q; first | with_reducible exact EqAt.int_int _ _ _ _ | with_reducible exact EqAt.int_str _ _ _ _)
      | (obtain ⟨a, its, rfl, q1, _⟩ := q; first | with_reducible exact EqAt.int_list _ _ q1 hz | with_reducible exact EqAt.int_tuple _ _ q1 hz)
  | .str i, y, A, s, u, v, r, q, hu, hz => by
    simp only [Rq] at r; obtain ⟨t, rfl⟩ := r
    cases y <;> simp only [Rq] at q <;> simp only [eqD] <;> first
      | (subst q; first | with_reducible exact EqAt.str_none _ _ | with_reducible exact EqAt.str_bool _ _ _)
      | (obtain ⟨t, rfl⟩ := q; first | with_reducible exact EqAt.str_int _ _ _ _ | with_reducible exact EqAt.str_str _ _ _ _)
      | (obtain ⟨a, its, rfl, q1, _⟩ := q; first | with_reducible exact EqAt.str_list _ _ q1 hz | with_reducible exact EqAt.str_tuple _ _ q1 hz)
  | .tup xs, y, A, s, u, v, r, q, hu, hz => by
    simp only [Rq] at r; obtain ⟨a, its, rfl, r1, r2⟩ := r
    exact eqAt_rqT xs (fun ys A s us vs => eqAt_rqL xs ys A s us vs) y A s a v its r1 r2 q (by simp only [dep] at hu; omega)
  | .ktup xs, y, A, s, u, v, r, q, hu, hz => by
    simp only [Rq] at r; obtain ⟨a, its, rfl, r1, r2⟩ := r
    exact eqAt_rqT xs (fun ys A s us vs => eqAt_rqL xs ys A s us vs) y A s a v its r1 r2 q (by simp only [dep] at hu; omega)
  | .lst xs, y, A, s, u, v, r, q, hu, hz => by
    simp only [Rq] at r; obtain ⟨a, its, rfl, r1, r2⟩ := r
    exact eqAt_rqS xs (fun ys A s us vs => eqAt_rqL xs ys A s us vs) y A s a v its r1 r2 q (by simp only [dep] at hu; omega)
  | .frz xs, y, A, s, u, v, r, q, hu, hz => by
    simp only [Rq] at r; obtain ⟨a, its, rfl, r1, r2⟩ := r
    exact eqAt_rqS xs (fun ys A s us vs => eqAt_rqL xs ys A s us vs) y A s a v its r1 r2 q (by simp only [dep] at hu; omega)
  | .dK _, _, _, _, _, _, r, _, _, _ => by simp only [Rq] at r
  | .dT _, _, _, _, _, _, r, _, _, _ => by simp only [Rq] at r
  | .obj _, _, _, _, _, _, r, _, _, _ => by simp only [Rq] at r
  | .fn _, _, _, _, _, _, r, _, _, _ => by simp only [Rq] at r
  | .err _ _, _, _, _, _, _, r, _, _, _ => by simp only [Rq] at r
theorem eqAt_rqL : ∀ (xs ys : List D) (A : Around) (s : Shared) (us vs : List Value), RqL s.heap xs us → RqL s.heap ys vs → A.units + depL xs < cLine → ∀ j (h1 : j < us.length) (h2 : j < vs.length), EqAt A s us[j] vs[j] (prs xs ys j)
  | [], _, _, _, us, _, r, _, _, j, h1, _ => by simp only [RqL] at r; subst r; exact absurd h1 (Nat.not_lt_zero _)
  | x :: xs, [], _, _, _, vs, _, q, _, j, _, h2 => by simp only [RqL] at q; subst q; exact absurd h2 (Nat.not_lt_zero _)
  | x :: xs, y :: ys, A, s, us, vs, r, q, hu, j, h1, h2 => by
    simp only [RqL] at r q
    obtain ⟨u, us', rfl, r1, r2⟩ := r
    obtain ⟨v, vs', rfl, q1, q2⟩ := q
    simp only [depL] at hu
    cases j with
    | zero => exact eqAt_rq x y A s u v r1 q1 (by omega) (by omega)
    | succ j => exact eqAt_rqL xs ys A s us' vs' r2 q2 (by omega) j (Nat.lt_of_succ_lt_succ h1) (Nat.lt_of_succ_lt_succ h2)
end
/-- at the top -/
theorem eqTop {prog : Program} {w : World} {A : Around} {E : Value → Shared → Prop} {s : Shared} {x y : D} {u v : Value} {Q : Value → Shared → Prop} (r : Rq s.heap x u) (q : Rq s.heap y v) (hu : A.units + dep x < cLine) (hz : A.units < cLine) (h : Q (.bool (eqD x y)) s) :
    wpAny (model prog w) A (compareOp .Eq u v) Q E s := by
  suffices H : SeqAt.RcAt A s u v (eqD x y) from H prog w E Q h
  have viaT : ∀ {xs : List D} {a : Addr} {its : Array Value}, s.heap.IsTuple a its → RqL s.heap xs its.toList → A.units + (depL xs + 1) < cLine → SeqAt.RcAt A s (.ref a) v (match tupOf y with | some ys => eqL xs ys | none => false) := fun {xs a its} r1 r2 hu => by
    cases e : tupOf y with
    | some ys =>
      obtain ⟨b, jts, rfl, q1, q2⟩ := tup_rq q e
      have n1 : its.size = xs.length := by simpa using r2.len
      have n2 : jts.size = ys.length := by simpa using q2.len
      show SeqAt.RcAt A s (.ref a) (.ref b) (eqL xs ys)
      rw [← eqL_prs xs ys, ← n1, ← n2]
      refine SeqAt.RcAt.tuples r1 q1 hz fun j j1 j2 => ?_
      have := eqAt_rqL xs ys A.in1 s its.toList jts.toList r2 q2 (by show A.units + 1 + depL xs < cLine; omega) j (by simpa using j1) (by simpa using j2)
      simpa using this
    | none =>
      dsimp only
      cases y <;> simp only [Rq] at q <;> first
        | (cases e; done)
        | (subst q; first | with_reducible exact SeqAt.RcAt.tuple_none r1 hz | with_reducible exact SeqAt.RcAt.tuple_bool _ r1 hz)
        | (obtain ⟨t, rfl⟩ := q; first | with_reducible exact SeqAt.RcAt.tuple_int _ _ r1 hz | with_reducible exact SeqAt.RcAt.tuple_str _ _ r1 hz)
        | (obtain ⟨a, its, rfl, q1, _⟩ := q; with_reducible exact SeqAt.RcAt.tuple_list r1 q1 hz)
  have viaS : ∀ {xs : List D} {a : Addr} {its : Array Value}, s.heap.IsList a its → RqL s.heap xs its.toList → A.units + (depL xs + 1) < cLine → SeqAt.RcAt A s (.ref a) v (match valL y with | some ys => eqL xs ys | none => false) := fun {xs a its} r1 r2 hu => by
    cases e : valL y with
    | some ys =>
      obtain ⟨b, jts, rfl, q1, q2⟩ := lst_rq q e
      have n1 : its.size = xs.length := by simpa using r2.len
      have n2 : jts.size = ys.length := by simpa using q2.len
      show SeqAt.RcAt A s (.ref a) (.ref b) (eqL xs ys)
      by_cases hsz : its.size = jts.size
      · rw [← eqL_len (by omega : xs.length = ys.length), ← n1]
        refine SeqAt.RcAt.lists r1 q1 hsz hz fun j j1 j2 => ?_
        have := eqAt_rqL xs ys A.in1 s its.toList jts.toList r2 q2 (by show A.units + 1 + depL xs < cLine; omega) j (by simpa using j1) (by simpa using j2)
        simpa using this
      · rw [eqL_ne (by omega : xs.length ≠ ys.length)]
        exact SeqAt.RcAt.lists_lengths r1 q1 (by simpa using hsz) hz
    | none =>
      dsimp only
      cases y <;> simp only [Rq] at q <;> first
        | (cases e; done)
        | (subst q; first | with_reducible exact SeqAt.RcAt.list_none r1 hz | with_reducible exact SeqAt.RcAt.list_bool _ r1 hz)
        | (obtain ⟨t, rfl⟩ := q; first | with_reducible exact SeqAt.RcAt.list_int _ _ r1 hz | with_reducible exact SeqAt.RcAt.list_str _ _ r1 hz)
        | (obtain ⟨a, its, rfl, q1, _⟩ := q; with_reducible exact SeqAt.RcAt.list_tuple r1 q1 hz)
  cases x with
  | non =>
    simp only [Rq] at r; subst r
    cases y <;> simp only [Rq] at q <;> simp only [eqD] <;> first
      | (subst q; first | with_reducible exact SeqAt.RcAt.none_none | with_reducible exact SeqAt.RcAt.none_bool _)
      | (obtain ⟨t, rfl⟩ := q; first | with_reducible exact SeqAt.RcAt.none_int _ _ | with_reducible exact SeqAt.RcAt.none_str _ _)
      | (obtain ⟨a, its, rfl, q1, _⟩ := q; first | with_reducible exact SeqAt.RcAt.none_list q1 hz | with_reducible exact SeqAt.RcAt.none_tuple q1 hz)
  | bl b =>
    simp only [Rq] at r; subst r
    cases y <;> simp only [Rq] at q <;> simp only [eqD] <;> first
      | (subst q; first | with_reducible exact SeqAt.RcAt.bool_none _ | with_reducible exact SeqAt.RcAt.bool_bool _ _)
      | (obtain ⟨t, rfl⟩ := q; first | with_reducible exact SeqAt.RcAt.bool_int _ _ _ | with_reducible exact SeqAt.RcAt.bool_str _ _ _)
      | (obtain ⟨a, its, rfl, q1, _⟩ := q; first | with_reducible exact SeqAt.RcAt.bool_list _ q1 hz | with_reducible exact SeqAt.RcAt.bool_tuple _ q1 hz)
  | int i =>
    simp only [Rq] at r; obtain ⟨t, rfl⟩ := r
    cases y <;> simp only [Rq] at q <;> simp only [eqD] <;> first
      | (subst q; first | with_reducible exact SeqAt.RcAt.int_none _ _ | with_reducible exact SeqAt.RcAt.int_bool _ _ _)
      | (obtain ⟨t, rfl⟩ := q; first | with_reducible exact SeqAt.RcAt.int_int _ _ _ _ | with_reducible exact SeqAt.RcAt.int_str _ _ _ _)
      | (obtain ⟨a, its, rfl, q1, _⟩ := q; first | with_reducible exact SeqAt.RcAt.int_list _ _ q1 hz | with_reducible exact SeqAt.RcAt.int_tuple _ _ q1 hz)
  | str i =>
    simp only [Rq] at r; obtain ⟨t, rfl⟩ := r
    cases y <;> simp only [Rq] at q <;> simp only [eqD] <;> first
      | (subst q; first | with_reducible exact SeqAt.RcAt.str_none _ _ | with_reducible exact SeqAt.RcAt.str_bool _ _ _)
      | (obtain ⟨t, rfl⟩ := q; first | with_reducible exact SeqAt.RcAt.str_int _ _ _ _ | with_reducible exact SeqAt.RcAt.str_str _ _ _ _)
      | (obtain ⟨a, its, rfl, q1, _⟩ := q; first | with_reducible exact SeqAt.RcAt.str_list _ _ q1 hz | with_reducible exact SeqAt.RcAt.str_tuple _ _ q1 hz)
  | tup xs => simp only [Rq] at r; obtain ⟨a, its, rfl, r1, r2⟩ := r; exact viaT r1 r2 (by simpa only [dep] using hu)
  | ktup xs => simp only [Rq] at r; obtain ⟨a, its, rfl, r1, r2⟩ := r; exact viaT r1 r2 (by simpa only [dep] using hu)
  | lst xs => simp only [Rq] at r; obtain ⟨a, its, rfl, r1, r2⟩ := r; exact viaS r1 r2 (by simpa only [dep] using hu)
  | frz xs => simp only [Rq] at r; obtain ⟨a, its, rfl, r1, r2⟩ := r; exact viaS r1 r2 (by simpa only [dep] using hu)
  | _ => simp only [Rq] at r
theorem neTop {prog : Program} {w : World} {A : Around} {E : Value → Shared → Prop} {s : Shared} {x y : D} {u v : Value} {Q : Value → Shared → Prop} (r : Rq s.heap x u) (q : Rq s.heap y v) (hu : A.units + dep x < cLine) (hz : A.units < cLine) (h : Q (.bool (!eqD x y)) s) :
    wpAny (model prog w) A (compareOp .NotEq u v) Q E s := by
  suffices H : SeqAt.RcNeAt A s u v (!eqD x y) from H prog w E Q h
  have viaT : ∀ {xs : List D} {a : Addr} {its : Array Value}, s.heap.IsTuple a its → RqL s.heap xs its.toList → A.units + (depL xs + 1) < cLine → SeqAt.RcNeAt A s (.ref a) v (!(match tupOf y with | some ys => eqL xs ys | none => false)) := fun {xs a its} r1 r2 hu => by
    cases e : tupOf y with
    | some ys =>
      obtain ⟨b, jts, rfl, q1, q2⟩ := tup_rq q e
      have n1 : its.size = xs.length := by simpa using r2.len
      have n2 : jts.size = ys.length := by simpa using q2.len
      show SeqAt.RcNeAt A s (.ref a) (.ref b) (!eqL xs ys)
      rw [← eqL_prs xs ys, ← n1, ← n2]
      refine SeqAt.RcNeAt.tuples r1 q1 hz fun j j1 j2 => ?_
      have := eqAt_rqL xs ys A.in1 s its.toList jts.toList r2 q2 (by show A.units + 1 + depL xs < cLine; omega) j (by simpa using j1) (by simpa using j2)
      simpa using this
    | none =>
      dsimp only
      simp only [Bool.not_false]
      cases y <;> simp only [Rq] at q <;> first
        | (cases e; done)
        | (subst q; first | with_reducible exact SeqAt.RcNeAt.tuple_none r1 hz | with_reducible exact SeqAt.RcNeAt.tuple_bool _ r1 hz)
        | (obtain ⟨t, rfl⟩ := q; first | with_reducible exact SeqAt.RcNeAt.tuple_int _ _ r1 hz | with_reducible exact SeqAt.RcNeAt.tuple_str _ _ r1 hz)
        | (obtain ⟨a, its, rfl, q1, _⟩ := q; with_reducible exact SeqAt.RcNeAt.tuple_list r1 q1 hz)
  have viaS : ∀ {xs : List D} {a : Addr} {its : Array Value}, s.heap.IsList a its → RqL s.heap xs its.toList → A.units + (depL xs + 1) < cLine → SeqAt.RcNeAt A s (.ref a) v (!(match valL y with | some ys => eqL xs ys | none => false)) := fun {xs a its} r1 r2 hu => by
    cases e : valL y with
    | some ys =>
      obtain ⟨b, jts, rfl, q1, q2⟩ := lst_rq q e
      have n1 : its.size = xs.length := by simpa using r2.len
      have n2 : jts.size = ys.length := by simpa using q2.len
      show SeqAt.RcNeAt A s (.ref a) (.ref b) (!eqL xs ys)
      by_cases hsz : its.size = jts.size
      · rw [← eqL_len (by omega : xs.length = ys.length), ← n1]
        refine SeqAt.RcNeAt.lists r1 q1 hsz hz fun j j1 j2 => ?_
        have := eqAt_rqL xs ys A.in1 s its.toList jts.toList r2 q2 (by show A.units + 1 + depL xs < cLine; omega) j (by simpa using j1) (by simpa using j2)
        simpa using this
      · rw [eqL_ne (by omega : xs.length ≠ ys.length)]
        exact SeqAt.RcNeAt.lists_lengths r1 q1 (by simpa using hsz) hz
    | none =>
      dsimp only
      simp only [Bool.not_false]
      cases y <;> simp only [Rq] at q <;> first
        | (cases e; done)
        | (subst q; first | with_reducible exact SeqAt.RcNeAt.list_none r1 hz | with_reducible exact SeqAt.RcNeAt.list_bool _ r1 hz)
        | (obtain ⟨t, rfl⟩ := q; first | with_reducible exact SeqAt.RcNeAt.list_int _ _ r1 hz | with_reducible exact SeqAt.RcNeAt.list_str _ _ r1 hz)
        | (obtain ⟨a, its, rfl, q1, _⟩ := q; with_reducible exact SeqAt.RcNeAt.list_tuple r1 q1 hz)
  cases x with
  | non =>
    simp only [Rq] at r; subst r
    cases y <;> simp only [Rq] at q <;> simp only [eqD, Bool.not_false, Bool.not_true] <;> first
      | (subst q; first | with_reducible exact SeqAt.RcNeAt.none_none | with_reducible exact SeqAt.RcNeAt.none_bool _)
      | (obtain ⟨t, rfl⟩ := q; first | with_reducible exact SeqAt.RcNeAt.none_int _ _ | with_reducible exact SeqAt.RcNeAt.none_str _ _)
      | (obtain ⟨a, its, rfl, q1, _⟩ := q; first | with_reducible exact SeqAt.RcNeAt.none_list q1 hz | with_reducible exact SeqAt.RcNeAt.none_tuple q1 hz)
  | bl b =>
    simp only [Rq] at r; subst r
    cases y <;> simp only [Rq] at q <;> simp only [eqD, Bool.not_false, Bool.not_true] <;> first
      | (subst q; first | with_reducible exact SeqAt.RcNeAt.bool_none _ | with_reducible exact SeqAt.RcNeAt.bool_bool _ _)
      | (obtain ⟨t, rfl⟩ := q; first | with_reducible exact SeqAt.RcNeAt.bool_int _ _ _ | with_reducible exact SeqAt.RcNeAt.bool_str _ _ _)
      | (obtain ⟨a, its, rfl, q1, _⟩ := q; first | with_reducible exact SeqAt.RcNeAt.bool_list _ q1 hz | with_reducible exact SeqAt.RcNeAt.bool_tuple _ q1 hz)
  | int i =>
    simp only [Rq] at r; obtain ⟨t, rfl⟩ := r
    cases y <;> simp only [Rq] at q <;> simp only [eqD, Bool.not_false, Bool.not_true] <;> first
      | (subst q; first | with_reducible exact SeqAt.RcNeAt.int_none _ _ | with_reducible exact SeqAt.RcNeAt.int_bool _ _ _)
      | (obtain ⟨t, rfl⟩ := q; first | with_reducible exact SeqAt.RcNeAt.int_int _ _ _ _ | with_reducible exact SeqAt.RcNeAt.int_str _ _ _ _)
      | (obtain ⟨a, its, rfl, q1, _⟩ := q; first | with_reducible exact SeqAt.RcNeAt.int_list _ _ q1 hz | with_reducible exact SeqAt.RcNeAt.int_tuple _ _ q1 hz)
  | str i =>
    simp only [Rq] at r; obtain ⟨t, rfl⟩ := r
    cases y <;> simp only [Rq] at q <;> simp only [eqD, Bool.not_false, Bool.not_true] <;> first
      | (subst q; first | with_reducible exact SeqAt.RcNeAt.str_none _ _ | with_reducible exact SeqAt.RcNeAt.str_bool _ _ _)
      | (obtain ⟨t, rfl⟩ := q; first | with_reducible exact SeqAt.RcNeAt.str_int _ _ _ _ | with_reducible exact SeqAt.RcNeAt.str_str _ _ _ _)
      | (obtain ⟨a, its, rfl, q1, _⟩ := q; first | with_reducible exact SeqAt.RcNeAt.str_list _ _ q1 hz | with_reducible exact SeqAt.RcNeAt.str_tuple _ _ q1 hz)
  | tup xs => simp only [Rq] at r; obtain ⟨a, its, rfl, r1, r2⟩ := r; exact viaT r1 r2 (by simpa only [dep] using hu)
  | ktup xs => simp only [Rq] at r; obtain ⟨a, its, rfl, r1, r2⟩ := r; exact viaT r1 r2 (by simpa only [dep] using hu)
  | lst xs => simp only [Rq] at r; obtain ⟨a, its, rfl, r1, r2⟩ := r; exact viaS r1 r2 (by simpa only [dep] using hu)
  | frz xs => simp only [Rq] at r; obtain ⟨a, its, rfl, r1, r2⟩ := r; exact viaS r1 r2 (by simpa only [dep] using hu)
  | _ => simp only [Rq] at r
end DL
end
/-! ==== DBlt ==== -/
section
set_option Elab.async false
set_option linter.all false
set_option autoImplicit false
set_option maxRecDepth 100000
set_option maxHeartbeats 4000000
/-! DL: == by values, in, built-in functions, methods, stores to a place. -/
namespace DL
open PySem PySem.Spec PyProof.Rows L2

section
variable {X : Cx} {E : XK}

/-! ### data as it stands in the machine's heap -/
mutual
/-- neither a dict nor a thing that may be changed within -/
@[simp] def pln : D → Bool
  | .tup xs => plnL xs
  | .ktup xs => plnL xs
  | .lst xs => plnL xs
  | .frz xs => plnL xs
  | .dK _ => false
  | .dT _ => false
  | .obj _ => false
  | .fn _ => false
  | .err _ _ => false
  | _ => true
@[simp] def plnL : List D → Bool
  | [] => true
  | x :: xs => pln x && plnL xs
end
theorem sq_isList {pins : List (Addr × Obj)} {σ : L2.St} {H : Hp} {s : Shared} {a : Addr} {vs : List V} (I : Inv X pins σ H s) (h : SqL X.K H a vs) : ∃ its : Array Value, Vals vs its.toList ∧ s.heap.IsList a its := by
  obtain ⟨its, r, ⟨o, n, e, c, _, d⟩, _⟩ := I.list h
  exact ⟨its.toArray, by simpa using r, o, e, c, n, d⟩
theorem sq_isTuple {pins : List (Addr × Obj)} {σ : L2.St} {H : Hp} {s : Shared} {a : Addr} {vs : List V} (I : Inv X pins σ H s) (h : SqT X.K H a vs) : ∃ its : Array Value, Vals vs its.toList ∧ s.heap.IsTuple a its := by
  obtain ⟨its, r, ⟨o, e, c, n, d⟩, _⟩ := I.tuple h
  exact ⟨its.toArray, by simpa using r, o, e, c, n, d⟩
mutual
theorem den_rq {pins : List (Addr × Obj)} {σ : L2.St} {s : Shared} {W : Wd} (I : Inv X pins σ W.H s) (S : Sim W) (hK : W.K = X.K) : ∀ (d : D) (v : V) (u : Value), pln d = true → Den W d v → RelV v u → Rq s.heap d u
  | .non, v, u, _, h, r => by simp only [Den] at h; subst h; simp only [Rq]; exact r
  | .bl b, v, u, _, h, r => by simp only [Den] at h; subst h; simp only [Rq]; exact r
  | .int b, v, u, _, h, r => by simp only [Den] at h; subst h; simp only [Rq]; exact r
  | .str b, v, u, _, h, r => by simp only [Den] at h; subst h; simp only [Rq]; exact r
  | .tup xs, v, u, p, h, r => by
    simp only [pln] at p
    obtain ⟨a, vs, rfl, h1, h2⟩ := tup_den h
    obtain rfl : u = .ref a := r
    obtain ⟨its, rv, l⟩ := sq_isTuple I (by rw [← hK]; exact h1)
    simp only [Rq]
    exact ⟨a, its, rfl, l, den_rqL I S hK xs vs _ p h2 rv⟩
  | .ktup xs, v, u, p, h, r => by
    simp only [pln] at p
    obtain ⟨a, vs, rfl, h1, h2⟩ := ktup_den h
    obtain rfl : u = .ref a := r
    obtain ⟨its, rv, l⟩ := sq_isTuple I (by rw [← hK]; exact h1)
    simp only [Rq]
    exact ⟨a, its, rfl, l, den_rqL I S hK xs vs _ p h2 rv⟩
  | .lst xs, v, u, p, h, r => by
    simp only [pln] at p
    obtain ⟨a, vs, rfl, h1, h2⟩ := lstOf_den S h (by rfl : lstOf W.G (.lst xs) = some xs)
    obtain rfl : u = .ref a := r
    obtain ⟨its, rv, l⟩ := sq_isList I (by rw [← hK]; exact h1)
    simp only [Rq]
    exact ⟨a, its, rfl, l, den_rqL I S hK xs vs _ p h2 rv⟩
  | .frz xs, v, u, p, h, r => by
    simp only [pln] at p
    obtain ⟨a, vs, rfl, h1, h2⟩ := lstOf_den S h (by rfl : lstOf W.G (.frz xs) = some xs)
    obtain rfl : u = .ref a := r
    obtain ⟨its, rv, l⟩ := sq_isList I (by rw [← hK]; exact h1)
    simp only [Rq]
    exact ⟨a, its, rfl, l, den_rqL I S hK xs vs _ p h2 rv⟩
  | .dK _, _, _, p, _, _ => by simp only [pln] at p; cases p
  | .dT _, _, _, p, _, _ => by simp only [pln] at p; cases p
  | .obj _, _, _, p, _, _ => by simp only [pln] at p; cases p
  | .fn _, _, _, p, _, _ => by simp only [pln] at p; cases p
  | .err _ _, _, _, p, _, _ => by simp only [pln] at p; cases p
theorem den_rqL {pins : List (Addr × Obj)} {σ : L2.St} {s : Shared} {W : Wd} (I : Inv X pins σ W.H s) (S : Sim W) (hK : W.K = X.K) : ∀ (ds : List D) (vs : List V) (us : List Value), plnL ds = true → DenL W ds vs → Vals vs us → RqL s.heap ds us
  | [], vs, us, _, h, r => by simp only [DenL] at h; subst h; cases r; simp [RqL]
  | d :: ds, vs, us, p, h, r => by
    simp only [plnL, Bool.and_eq_true] at p
    simp only [DenL] at h
    obtain ⟨v, vs', rfl, h1, h2⟩ := h
    cases r with
    | cons r1 r2 =>
      simp only [RqL]
      exact ⟨_, _, rfl, den_rq I S hK d v _ p.1 h1 r1, den_rqL I S hK ds vs' _ p.2 h2 r2⟩
end
/-- a thing that may be changed, as it stands -/
def der (G : DH) : D → D
  | .obj n => match G[n]? with
    | some (.lst xs) => .lst xs
    | some (.dK kvs) => .dK kvs
    | some (.dT kvs) => .dT kvs
    | some (.lkK kvs) => .dK kvs
    | some (.lkT kvs) => .dT kvs
    | _ => .obj n
  | d => d
theorem der_rq {pins : List (Addr × Obj)} {σ : L2.St} {s : Shared} {W : Wd} (I : Inv X pins σ W.H s) (S : Sim W) (hK : W.K = X.K) {d : D} {v : V} {u : Value} (p : pln (der W.G d) = true) (h : Den W d v) (r : RelV v u) : Rq s.heap (der W.G d) u := by
  cases d with
  | obj n =>
    cases e : W.G[n]? with
    | none => simp only [der, e, pln] at p; cases p
    | some o =>
      cases o with
      | lst xs =>
        simp only [der, e, pln] at p ⊢
        obtain ⟨a, vs, rfl, h1, h2⟩ := lstOf_den S h (show lstOf W.G (.obj n) = some xs by simp only [lstOf, e])
        obtain rfl : u = .ref a := r
        obtain ⟨its, rv, l⟩ := sq_isList I (by rw [← hK]; exact h1)
        simp only [Rq]
        exact ⟨a, its, rfl, l, den_rqL I S hK xs vs _ p h2 rv⟩
      | _ => simp only [der, e, pln] at p; cases p
  | _ => exact den_rq I S hK _ v u p h r
/-- an operation by what the machine does -/
theorem OpOk.of {f : Value → Value → Sem Value} {F : D → D → DH → R D}
    (h : ∀ (pins : List (Addr × Obj)) (s : Shared) (σ : L2.St) (W : Wd) (x y : D) (v w : V) (u1 u2 : Value) (Q : VK), Inv X pins σ W.H s → Sim W → W.K = X.K → Den W x v → Den W y w → RelV v u1 → RelV w u2 → Fin Den W E (F x y W.G) Q →
      wpAny (model X.prog X.w) X.A (f u1 u2) (EP X pins σ Q) X.xe s) : OpOk X E f F := by
  refine ⟨fun v w H Q => ∃ (W : Wd) (x y : D), W.H = H ∧ Sim W ∧ W.K = X.K ∧ Den W x v ∧ Den W y w ∧ Fin Den W E (F x y W.G) Q, ?_, fun W x y v w Q hK S dx dy hf => ⟨W, x, y, rfl, S, hK, dx, dy, hf⟩⟩
  rintro pins s σ H v w u1 u2 Q I r1 r2 ⟨W, x, y, rfl, S, hK, dx, dy, hf⟩
  exact h pins s σ W x y v w u1 u2 Q I S hK dx dy r1 r2 hf
theorem fin_ep {pins : List (Addr × Obj)} {σ : L2.St} {W : Wd} {s : Shared} {d : D} {v : V} {u : Value} {Q : VK} (I : Inv X pins σ W.H s) (S : Sim W) (h : Fin Den W E (.ok d W.G) Q) (r : Den W d v) (rv : RelV v u) : EP X pins σ Q u s := ⟨v, W.H, I, rv, h.here S r⟩
def eqOp (x y : D) (G : DH) : R D := if pln (der G x) = true ∧ pln (der G y) = true ∧ dep (der G x) ≤ 60 then .ok (.bl (eqD (der G x) (der G y))) G else .stop
def neOp (x y : D) (G : DH) : R D := if pln (der G x) = true ∧ pln (der G y) = true ∧ dep (der G x) ≤ 60 then .ok (.bl (!eqD (der G x) (der G y))) G else .stop
theorem op_eqO {k : Nat} (hr : Rm k X.A) : OpOk X E (compareOp .Eq) eqOp := by
  refine OpOk.of fun pins s σ W x y v w u1 u2 Q I S hK dx dy r1 r2 h => ?_
  unfold eqOp at h
  split at h
  · rename_i c
    have hu := hr.u200
    exact eqTop (der_rq I S hK c.1 dx r1) (der_rq I S hK c.2.1 dy r2) (by omega) (by omega) (fin_ep (v := .bl _) I S h (by simp [Den]) rfl)
  · exact h.elim
theorem op_neO {k : Nat} (hr : Rm k X.A) : OpOk X E (compareOp .NotEq) neOp := by
  refine OpOk.of fun pins s σ W x y v w u1 u2 Q I S hK dx dy r1 r2 h => ?_
  unfold neOp at h
  split at h
  · rename_i c
    have hu := hr.u200
    exact neTop (der_rq I S hK c.1 dx r1) (der_rq I S hK c.2.1 dy r2) (by omega) (by omega) (fin_ep (v := .bl _) I S h (by simp [Den]) rfl)
  · exact h.elim

/-! ### in, not in -/
mutual
/-- two readings of one thing: == cannot tell them -/
theorem rq_cong {h : Heap} : ∀ (x y : D) (u : Value), Rq h x u → Rq h y u → ∀ z, eqD x z = eqD y z
  | .non, y, u, r, q, z => by
    simp only [Rq] at r; subst r
    cases y <;> simp only [Rq] at q <;> first | rfl | (obtain ⟨_, e⟩ := q; cases e; done) | (cases q; done) | (obtain ⟨_, _, e, _⟩ := q; cases e)
  | .bl a, y, u, r, q, z => by
    simp only [Rq] at r; subst r
    cases y <;> simp only [Rq] at q <;> first | (cases q; rfl; done) | (obtain ⟨_, e⟩ := q; cases e; done) | (cases q; done) | (obtain ⟨_, _, e, _⟩ := q; cases e)
  | .int a, y, u, r, q, z => by
    simp only [Rq] at r; obtain ⟨t, rfl⟩ := r
    cases y <;> simp only [Rq] at q <;> first | (obtain ⟨_, e⟩ := q; cases e <;> rfl; done) | (cases q; done) | (obtain ⟨_, _, e, _⟩ := q; cases e)
  | .str a, y, u, r, q, z => by
    simp only [Rq] at r; obtain ⟨t, rfl⟩ := r
    cases y <;> simp only [Rq] at q <;> first | (obtain ⟨_, e⟩ := q; cases e <;> rfl; done) | (cases q; done) | (obtain ⟨_, _, e, _⟩ := q; cases e)
  | .tup xs, y, u, r, q, z => by
    simp only [Rq] at r; obtain ⟨a, its, rfl, r1, r2⟩ := r
    cases y <;> simp only [Rq] at q <;> first
      | (obtain ⟨b, jts, e, q1, q2⟩ := q; cases e; obtain rfl := isTuple_inj r1 q1; simp only [eqD]; cases tupOf z with | none => rfl | some zs => exact rq_congL xs _ _ r2 q2 zs)
      | (obtain ⟨_, _, e, q1, _⟩ := q; cases e; exact (isList_tuple q1 r1).elim)
      | (obtain ⟨_, e⟩ := q; cases e; done)
      | (cases q; done)
  | .ktup xs, y, u, r, q, z => by
    simp only [Rq] at r; obtain ⟨a, its, rfl, r1, r2⟩ := r
    cases y <;> simp only [Rq] at q <;> first
      | (obtain ⟨b, jts, e, q1, q2⟩ := q; cases e; obtain rfl := isTuple_inj r1 q1; simp only [eqD]; cases tupOf z with | none => rfl | some zs => exact rq_congL xs _ _ r2 q2 zs)
      | (obtain ⟨_, _, e, q1, _⟩ := q; cases e; exact (isList_tuple q1 r1).elim)
      | (obtain ⟨_, e⟩ := q; cases e; done)
      | (cases q; done)
  | .lst xs, y, u, r, q, z => by
    simp only [Rq] at r; obtain ⟨a, its, rfl, r1, r2⟩ := r
    cases y <;> simp only [Rq] at q <;> first
      | (obtain ⟨b, jts, e, q1, q2⟩ := q; cases e; obtain rfl := isList_inj r1 q1; simp only [eqD]; cases valL z with | none => rfl | some zs => exact rq_congL xs _ _ r2 q2 zs)
      | (obtain ⟨_, _, e, q1, _⟩ := q; cases e; exact (isList_tuple r1 q1).elim)
      | (obtain ⟨_, e⟩ := q; cases e; done)
      | (cases q; done)
  | .frz xs, y, u, r, q, z => by
    simp only [Rq] at r; obtain ⟨a, its, rfl, r1, r2⟩ := r
    cases y <;> simp only [Rq] at q <;> first
      | (obtain ⟨b, jts, e, q1, q2⟩ := q; cases e; obtain rfl := isList_inj r1 q1; simp only [eqD]; cases valL z with | none => rfl | some zs => exact rq_congL xs _ _ r2 q2 zs)
      | (obtain ⟨_, _, e, q1, _⟩ := q; cases e; exact (isList_tuple r1 q1).elim)
      | (obtain ⟨_, e⟩ := q; cases e; done)
      | (cases q; done)
  | .dK _, _, _, r, _, _ => by simp only [Rq] at r
  | .dT _, _, _, r, _, _ => by simp only [Rq] at r
  | .obj _, _, _, r, _, _ => by simp only [Rq] at r
  | .fn _, _, _, r, _, _ => by simp only [Rq] at r
  | .err _ _, _, _, r, _, _ => by simp only [Rq] at r
theorem rq_congL {h : Heap} : ∀ (xs ys : List D) (us : List Value), RqL h xs us → RqL h ys us → ∀ zs, eqL xs zs = eqL ys zs
  | [], ys, us, r, q, zs => by
    simp only [RqL] at r; subst r
    cases ys with
    | nil => rfl
    | cons y ys => simp only [RqL] at q; obtain ⟨_, _, e, _⟩ := q; cases e
  | x :: xs, ys, us, r, q, zs => by
    simp only [RqL] at r; obtain ⟨u, r', rfl, r1, r2⟩ := r
    cases ys with
    | nil => simp only [RqL] at q; cases q
    | cons y ys =>
      simp only [RqL] at q
      obtain ⟨_, _, e, q1, q2⟩ := q
      cases e
      cases zs with
      | nil => rfl
      | cons z zs =>
        simp only [eqL]
        rw [rq_cong x y _ r1 q1 z, rq_congL xs ys _ r2 q2 zs]
end
open Classical in
/-- an item's answer, read off the item -/
noncomputable def ansOf (h : Heap) (ds : List D) (x : D) (u : Value) : Bool := if c : ∃ d, d ∈ ds ∧ Rq h d u then eqD (Classical.choose c) x else false
theorem RqL.mem {h : Heap} : ∀ {ds : List D} {us : List Value}, RqL h ds us → ∀ u ∈ us, ∃ d, d ∈ ds ∧ Rq h d u
  | [], _, r, u, hu => by simp only [RqL] at r; subst r; cases hu
  | d :: ds, _, r, u, hu => by
    simp only [RqL] at r
    obtain ⟨w, us, rfl, r1, r2⟩ := r
    rcases List.mem_cons.mp hu with rfl | hu
    · exact ⟨d, List.mem_cons_self, r1⟩
    · obtain ⟨e, e1, e2⟩ := RqL.mem r2 u hu
      exact ⟨e, List.mem_cons_of_mem _ e1, e2⟩
theorem ansOf_eq {h : Heap} {ds : List D} {x d : D} {u : Value} (hd : d ∈ ds) (r : Rq h d u) : ansOf h ds x u = eqD d x := by
  have c : ∃ d, d ∈ ds ∧ Rq h d u := ⟨d, hd, r⟩
  unfold ansOf
  rw [dif_pos c]
  exact rq_cong _ _ _ (Classical.choose_spec c).2 r x
theorem ans_any {h : Heap} (all : List D) (x : D) : ∀ {ds : List D} {us : List Value}, (∀ d ∈ ds, d ∈ all) → RqL h ds us → us.any (ansOf h all x) = ds.any fun d => eqD d x
  | [], _, _, r => by simp only [RqL] at r; subst r; rfl
  | d :: ds, _, m, r => by
    simp only [RqL] at r
    obtain ⟨w, us, rfl, r1, r2⟩ := r
    rw [List.any_cons, List.any_cons, ansOf_eq (m d List.mem_cons_self) r1, ans_any all x (fun e he => m e (List.mem_cons_of_mem _ he)) r2]
theorem plnL_dep {ds : List D} {d : D} (h : d ∈ ds) : dep d ≤ depL ds := by
  induction ds with
  | nil => cases h
  | cons a r ih =>
    simp only [depL]
    rcases List.mem_cons.mp h with rfl | h
    · exact Nat.le_max_left _ _
    · exact Nat.le_trans (ih h) (Nat.le_max_right _ _)
theorem item_eqAt {A : Around} {s : Shared} {ds : List D} {us : List Value} {x : D} {v : Value} (r : RqL s.heap ds us) (q : Rq s.heap x v) (hu : A.units + depL ds < cLine) : ∀ u ∈ us, SeqAt.EqAt A s u v (ansOf s.heap ds x u) := fun u hu' => by
  obtain ⟨d, h1, h2⟩ := r.mem u hu'
  rw [ansOf_eq h1 h2]
  have := plnL_dep h1
  exact eqAt_rq d x A s u v h2 q (by omega) (by omega)
/-- whether a sign stands in a text -/
def sgnIn (a b : Str) : Option Bool := match a.cps.toList with
  | [c] => some (decide (c ∈ b.cps.toList))
  | _ => none
theorem sgnIn_eq {a b : Str} {k : Bool} (h : sgnIn a b = some k) : ∃ c, a = ⟨#[c]⟩ ∧ k = decide (c ∈ b.cps.toList) := by
  unfold sgnIn at h
  split at h
  · rename_i c e
    refine ⟨c, ?_, by simpa using h.symm⟩
    obtain ⟨cs⟩ := a
    have e' : cs.toList = [c] := e
    have : cs = #[c] := by rw [← Array.toArray_toList (xs := cs), e']
    rw [this]
  · cases h
/-- x in y, by values; dicts stand in DDict -/
def inV? (G : DH) (x y : D) : Option Bool :=
  match x, y with
  | .str a, .str b => some ((sgnIn a b).getD (!(Builtin.Str.occurrences b a 0 b.length 1).isEmpty))
  | x, y => match seqOf G y with
    | some ys => if pln (der G x) = true ∧ plnL ys = true ∧ depL ys ≤ 60 then some (ys.any fun d => eqD d (der G x)) else none
    | none => none
def inOp (neg : Bool) (x y : D) (G : DH) : R D := match inV? G x y with
  | some k => .ok (.bl (if neg then !k else k)) G
  | none => .stop
theorem seqOf_rq {pins : List (Addr × Obj)} {σ : L2.St} {s : Shared} {W : Wd} {y : D} {ys : List D} {v : V} {u : Value} (I : Inv X pins σ W.H s) (S : Sim W) (hK : W.K = X.K) (e : seqOf W.G y = some ys) (p : plnL ys = true) (h : Den W y v) (r : RelV v u) :
    ∃ a its, u = .ref a ∧ (s.heap.IsList a its ∨ s.heap.IsTuple a its) ∧ RqL s.heap ys its.toList := by
  have viaL : ∀ {y : D}, Den W y v → lstOf W.G y = some ys → ∃ a its, u = .ref a ∧ (s.heap.IsList a its ∨ s.heap.IsTuple a its) ∧ RqL s.heap ys its.toList := fun {y} h e => by
    obtain ⟨a, vs, rfl, h1, h2⟩ := lstOf_den S h e
    obtain rfl : u = .ref a := r
    obtain ⟨its, rv, l⟩ := sq_isList I (by rw [← hK]; exact h1)
    exact ⟨a, its, rfl, .inl l, den_rqL I S hK ys vs _ p h2 rv⟩
  have viaT : ∀ {y : D}, Den W y v → tupOf y = some ys → ∃ a its, u = .ref a ∧ (s.heap.IsList a its ∨ s.heap.IsTuple a its) ∧ RqL s.heap ys its.toList := fun {y} h e => by
    obtain ⟨a, vs, rfl, h1, h2⟩ := tupOf_den h e
    obtain rfl : u = .ref a := r
    obtain ⟨its, rv, l⟩ := sq_isTuple I (by rw [← hK]; exact h1)
    exact ⟨a, its, rfl, .inr l, den_rqL I S hK ys vs _ p h2 rv⟩
  cases y with
  | tup zs => exact viaT h e
  | ktup zs => exact viaT h e
  | _ => exact viaL h e
theorem in_seq {k : Nat} (hr : Rm k X.A) {pins : List (Addr × Obj)} {s : Shared} {σ : L2.St} {W : Wd} {x y : D} {v w : V} {u1 u2 : Value} {Q : VK} {neg : Bool} (I : Inv X pins σ W.H s) (S : Sim W) (hK : W.K = X.K) (dx : Den W x v) (dy : Den W y w) (r1 : RelV v u1) (r2 : RelV w u2)
    {kk : Bool} (e : (match seqOf W.G y with
    | some ys => if pln (der W.G x) = true ∧ plnL ys = true ∧ depL ys ≤ 60 then some (ys.any fun d => eqD d (der W.G x)) else none
    | none => none) = some kk) (h : Fin Den W E (.ok (.bl (if neg then !kk else kk)) W.G) Q) :
    wpAny (model X.prog X.w) X.A (compareOp (if neg then .NotIn else .In) u1 u2) (EP X pins σ Q) X.xe s := by
  have hu := hr.u200
  split at e
  · rename_i ys es
    split at e
    · rename_i c
      simp only [Option.some.injEq] at e
      obtain ⟨a, its, rfl, hl, rq⟩ := seqOf_rq I S hK es c.2.1 dy r2
      have q := der_rq I S hK c.1 dx r1
      have ha : its.any (ansOf s.heap ys (der W.G x)) = kk := by
        rw [← e, ← Array.any_toList]
        exact ans_any ys _ (fun _ h => h) rq
      have he : ∀ u ∈ its, SeqAt.EqAt X.A.in1 s u u1 (ansOf s.heap ys (der W.G x) u) := fun u hu' => item_eqAt rq q (by show X.A.units + 1 + depL ys < cLine; omega) u (by simpa using hu')
      have fin := fin_ep I S h (v := .bl (if neg then !kk else kk)) (by simp [Den]) rfl
      cases neg with
      | false =>
        rcases hl with hl | hl
        · exact SeqAt.in_listAt _ hl he (by rw [ha]; exact fin)
        · exact SeqAt.in_tupleAt _ hl he (by rw [ha]; exact fin)
      | true =>
        rcases hl with hl | hl
        · exact SeqAt.notIn_listAt _ hl he (by rw [ha]; exact fin)
        · exact SeqAt.notIn_tupleAt _ hl he (by rw [ha]; exact fin)
    · cases e
  · cases e
theorem inV_out {G : DH} {x y : D} {kk : Bool} (h : inV? G x y = some kk) : (∃ a b, x = .str a ∧ y = .str b ∧ ((sgnIn a b).getD (!(Builtin.Str.occurrences b a 0 b.length 1).isEmpty)) = kk) ∨ (match seqOf G y with
    | some ys => if pln (der G x) = true ∧ plnL ys = true ∧ depL ys ≤ 60 then some (ys.any fun d => eqD d (der G x)) else none
    | none => none) = some kk := by
  unfold inV? at h
  split at h
  · simp only [Option.some.injEq] at h
    exact .inl ⟨_, _, rfl, rfl, h⟩
  · exact .inr h
theorem op_inO {k : Nat} (hr : Rm k X.A) : OpOk X E (compareOp .In) (inOp false) := by
  refine OpOk.of fun pins s σ W x y v w u1 u2 Q I S hK dx dy r1 r2 h => ?_
  unfold inOp at h
  split at h
  · rename_i kk e
    rcases inV_out e with ⟨a, b, rfl, rfl, e0⟩ | e
    · clear e
      have e := e0
      simp only [Den] at dx dy
      cases e1 : sgnIn a b with
      | some k1 =>
        rw [e1] at e
        obtain ⟨c, rfl, e2⟩ := sgnIn_eq e1
        refine op_in_sign pins s σ W.H v w u1 u2 Q I r1 r2 ⟨c, b, dx, dy, ?_⟩
        rw [← e2]
        obtain rfl : k1 = kk := e
        exact h.here S (by simp [Den])
      | none =>
        rw [e1] at e
        refine op_in_str pins s σ W.H v w u1 u2 Q I r1 r2 ⟨a, b, dx, dy, ?_⟩
        rw [show (!(Builtin.Str.occurrences b a 0 b.length 1).isEmpty) = kk from e]
        exact h.here S (by simp [Den])
    · exact in_seq (neg := false) hr I S hK dx dy r1 r2 e h
  · exact h.elim
theorem op_notInO {k : Nat} (hr : Rm k X.A) : OpOk X E (compareOp .NotIn) (inOp true) := by
  refine OpOk.of fun pins s σ W x y v w u1 u2 Q I S hK dx dy r1 r2 h => ?_
  unfold inOp at h
  split at h
  · rename_i kk e
    rcases inV_out e with ⟨a, b, rfl, rfl, e0⟩ | e
    · clear e
      have e := e0
      simp only [Den] at dx dy
      cases e1 : sgnIn a b with
      | some k1 =>
        rw [e1] at e
        obtain ⟨c, rfl, e2⟩ := sgnIn_eq e1
        refine op_notIn_sign pins s σ W.H v w u1 u2 Q I r1 r2 ⟨c, b, dx, dy, ?_⟩
        rw [← e2]
        obtain rfl : k1 = kk := e
        exact h.here S (by simp [Den])
      | none =>
        rw [e1] at e
        refine op_notIn_str pins s σ W.H v w u1 u2 Q I r1 r2 ⟨a, b, dx, dy, ?_⟩
        rw [show (!(Builtin.Str.occurrences b a 0 b.length 1).isEmpty) = kk from e]
        exact h.here S (by simp [Den])
    · exact in_seq (neg := true) hr I S hK dx dy r1 r2 e h
  · exact h.elim

/-! ### built-in functions -/
structure CallOk (X : Cx) (E : XK) (f : Value) (F : List D → DH → R D) : Prop where
  out : ∃ r : List V → Hp → VK → Prop, CallR X f r ∧ ∀ (W : Wd) (ds : List D) (vs : List V) (Q : VK), W.K = X.K → Sim W → DenL W ds vs → Fin Den W E (F ds W.G) Q → r vs W.H Q
theorem CallR.or {f : Value} {r r' : List V → Hp → VK → Prop} (h : CallR X f r) (h' : CallR X f r') : CallR X f (fun xs H Q => r xs H Q ∨ r' xs H Q) :=
  fun pins s σ H xs us Q I rv q => q.elim (h pins s σ H xs us Q I rv) (h' pins s σ H xs us Q I rv)
theorem CallOk.of {f : Value} {F : List D → DH → R D}
    (h : ∀ (pins : List (Addr × Obj)) (s : Shared) (σ : L2.St) (W : Wd) (ds : List D) (vs : List V) (us : List Value) (Q : VK), Inv X pins σ W.H s → Sim W → W.K = X.K → DenL W ds vs → Vals vs us → Fin Den W E (F ds W.G) Q → wpAny (model X.prog X.w) X.A (call f us) (EP X pins σ Q) X.xe s) : CallOk X E f F := by
  refine ⟨fun vs H Q => ∃ (W : Wd) (ds : List D), W.H = H ∧ Sim W ∧ W.K = X.K ∧ DenL W ds vs ∧ Fin Den W E (F ds W.G) Q, ?_, fun W ds vs Q hK S d hf => ⟨W, ds, rfl, S, hK, d, hf⟩⟩
  rintro pins s σ H vs us Q I rv ⟨W, ds, rfl, S, hK, d, hf⟩
  exact h pins s σ W ds vs us Q I S hK d rv hf
theorem de_callB {f : List D → DH → R D} {id : String} {x : Str} {p pos : Pos} {e : Expr} {es : List Expr} {fa : DA} (hc : CallOk X E (.builtin id) f) (hg : Gl X x) (hm : X.mg x = none) (hv : bootBuiltins x = some (.builtin id)) (ha : DAOk X E (e :: es) fa) (hn : x ≠ "__name__" := by decide) (hdb : (x == ("__debug__" : Str)) = false := by decide)
    (he : starEach (e :: es) X.env = (false, eval e X.env) :: starEach es X.env := by rfl) (hpl : (backTo pos (starEach es X.env)).any (·.1) = false := by rfl) : DEOk X E (.Call (.Name x p) (e :: es) [] pos) (dCall f fa) := by
  obtain ⟨r, hr, qr⟩ := hc.out
  obtain ⟨t, pt, q⟩ := ha.out
  refine ⟨_, pe_callB hr hg hm hv pt hn hdb he hpl, fun W σ s Q hK S L h => ?_⟩
  exact q W σ s _ hK S L (Fin.seq (RC := Den) h fun ds vs W1 x1 S1 d1 h1 => qr W1 ds vs Q (x1.k.trans hK) S1 d1 h1)
theorem de_callTy {f : List D → DH → R D} {T : String} {x : Str} {p pos : Pos} {e : Expr} {es : List Expr} {fa : DA} (hc : CallOk X E (.type T) f) (hg : Gl X x) (hm : X.mg x = none) (hv : bootBuiltins x = some (.type T)) (ha : DAOk X E (e :: es) fa) (hn : x ≠ "__name__" := by decide) (hdb : (x == ("__debug__" : Str)) = false := by decide)
    (he : starEach (e :: es) X.env = (false, eval e X.env) :: starEach es X.env := by rfl) (hpl : (backTo pos (starEach es X.env)).any (·.1) = false := by rfl) : DEOk X E (.Call (.Name x p) (e :: es) [] pos) (dCall f fa) := by
  obtain ⟨r, hr, qr⟩ := hc.out
  obtain ⟨t, pt, q⟩ := ha.out
  refine ⟨_, pe_callTy hr hg hm hv pt hn hdb he hpl, fun W σ s Q hK S L h => ?_⟩
  exact q W σ s _ hK S L (Fin.seq (RC := Den) h fun ds vs W1 x1 S1 d1 h1 => qr W1 ds vs Q (x1.k.trans hK) S1 d1 h1)
/-- len -/
def lenV (G : DH) : D → Option Nat
  | .str z => if z.length ≤ sizeLine then some z.length else none
  | .tup xs => some xs.length
  | .ktup xs => some xs.length
  | x => (lstOf G x).map List.length
def lenO (ds : List D) (G : DH) : R D := match ds with
  | [d] => match lenV G d with
    | some n => .ok (.int n) G
    | none => .stop
  | _ => .stop
theorem call_lenO : CallOk X E (.builtin "len") lenO := by
  refine ⟨_, CallR.or call_len_str call_len_seq, fun W ds vs Q hK S r h => ?_⟩
  unfold lenO at h
  split at h
  · rename_i d
    obtain ⟨v, rfl, d1⟩ := r.uno
    split at h
    · rename_i n e
      have viaL : ∀ {d : D}, Den W d v → (lstOf W.G d).map List.length = some n → ∃ p ys, [v] = [.ref p] ∧ (SqL X.K W.H p ys ∨ SqT X.K W.H p ys) ∧ Q (.int ys.length) W.H := fun {d} d1 e => by
        cases e1 : lstOf W.G d with
        | none => rw [e1] at e; cases e
        | some xs =>
          rw [e1] at e
          simp only [Option.map_some, Option.some.injEq] at e
          obtain ⟨a, us, rfl, h1, h2⟩ := lstOf_den S d1 e1
          refine ⟨a, us, rfl, .inl (by rw [← hK]; exact h1), ?_⟩
          rw [h2.len, e]
          exact h.here S (by simp [Den])
      have viaT : ∀ {d : D} {xs : List D}, Den W d v → tupOf d = some xs → xs.length = n → ∃ p ys, [v] = [.ref p] ∧ (SqL X.K W.H p ys ∨ SqT X.K W.H p ys) ∧ Q (.int ys.length) W.H := fun {d xs} d1 e1 e2 => by
        obtain ⟨a, us, rfl, h1, h2⟩ := tupOf_den d1 e1
        refine ⟨a, us, rfl, .inr (by rw [← hK]; exact h1), ?_⟩
        rw [h2.len, e2]
        exact h.here S (by simp [Den])
      cases d with
      | str z =>
        simp only [lenV] at e
        split at e
        · rename_i c
          simp only [Option.some.injEq] at e
          simp only [Den] at d1
          subst d1
          refine .inl ⟨z, rfl, c, ?_⟩
          rw [e]
          exact h.here S (by simp [Den])
        · cases e
      | tup xs => exact .inr (viaT d1 rfl (by simpa [lenV] using e))
      | ktup xs => exact .inr (viaT d1 rfl (by simpa [lenV] using e))
      | _ => exact .inr (viaL d1 e)
    · exact h.elim
  · exact h.elim
/-- max, min of two ints -/
def maxO (ds : List D) (G : DH) : R D := match ds with
  | [.int i, .int j] => .ok (.int (if j > i then j else i)) G
  | _ => .stop
def minO (ds : List D) (G : DH) : R D := match ds with
  | [.int i, .int j] => .ok (.int (if j < i then j else i)) G
  | _ => .stop
theorem call_maxO (hc : X.calm = true) : CallOk X E (.builtin "max") maxO := by
  refine ⟨_, call_max2 hc, fun W ds vs Q hK S r h => ?_⟩
  unfold maxO at h
  split at h
  · obtain ⟨v, w, rfl, d1, d2⟩ := r.two
    simp only [Den] at d1 d2
    exact ⟨_, _, by rw [d1, d2], h.here S (by simp [Den])⟩
  · exact h.elim
theorem call_minO (hc : X.calm = true) : CallOk X E (.builtin "min") minO := by
  refine ⟨_, call_min2 hc, fun W ds vs Q hK S r h => ?_⟩
  unfold minO at h
  split at h
  · obtain ⟨v, w, rfl, d1, d2⟩ := r.two
    simp only [Den] at d1 d2
    exact ⟨_, _, by rw [d1, d2], h.here S (by simp [Den])⟩
  · exact h.elim
/-- int of an int, a bool -/
def intO (ds : List D) (G : DH) : R D := match ds with
  | [.int i] => .ok (.int i) G
  | [.bl k] => .ok (.int (if k then 1 else 0)) G
  | _ => .stop
theorem call_intO : CallOk X E (.type "int") intO := by
  refine ⟨_, call_int1, fun W ds vs Q hK S r h => ?_⟩
  unfold intO at h
  split at h
  · obtain ⟨v, rfl, d1⟩ := r.uno
    simp only [Den] at d1
    exact .inl ⟨_, by rw [d1], h.here S (by simp [Den])⟩
  · obtain ⟨v, rfl, d1⟩ := r.uno
    simp only [Den] at d1
    exact .inr ⟨_, by rw [d1], h.here S (by simp [Den])⟩
  · exact h.elim
/-- bools -/
@[simp] def bls : List D → Option (List Bool)
  | [] => some []
  | .bl b :: ds => (bls ds).map (b :: ·)
  | _ => none
theorem bls_den {W : Wd} : ∀ {ds : List D} {vs : List V} {bs : List Bool}, DenL W ds vs → bls ds = some bs → vs = bs.map V.bl
  | [], _, _, h, e => by simp only [DenL] at h; subst h; cases e; rfl
  | d :: ds, _, bs, h, e => by
    simp only [DenL] at h
    obtain ⟨v, r, rfl, h1, h2⟩ := h
    cases d with
    | bl b =>
      simp only [bls] at e
      cases e1 : bls ds with
      | none => rw [e1] at e; cases e
      | some cs =>
        rw [e1] at e
        cases e
        simp only [Den] at h1
        rw [h1, bls_den h2 e1]
        rfl
    | _ => cases e
def allO (ds : List D) (G : DH) : R D := match ds with
  | [d] => match (lstOf G d).bind bls with
    | some bs => .ok (.bl (bs.all id)) G
    | none => .stop
  | _ => .stop
def anyO (ds : List D) (G : DH) : R D := match ds with
  | [d] => match (lstOf G d).bind bls with
    | some bs => .ok (.bl (bs.any id)) G
    | none => .stop
  | _ => .stop
theorem lst_bls {W : Wd} {d : D} {v : V} {bs : List Bool} (S : Sim W) (hK : W.K = X.K) (d1 : Den W d v) (e : (lstOf W.G d).bind bls = some bs) : ∃ a, v = .ref a ∧ SqL X.K W.H a (bs.map V.bl) := by
  cases e1 : lstOf W.G d with
  | none => rw [e1] at e; cases e
  | some xs =>
    rw [e1] at e
    obtain ⟨a, us, rfl, h1, h2⟩ := lstOf_den S d1 e1
    refine ⟨a, rfl, ?_⟩
    rw [← hK, ← bls_den h2 e]
    exact h1
theorem call_allO (hc : X.calm = true) : CallOk X E (.builtin "all") allO := by
  refine ⟨_, cr_all hc, fun W ds vs Q hK S r h => ?_⟩
  unfold allO at h
  split at h
  · obtain ⟨v, rfl, d1⟩ := r.uno
    split at h
    · rename_i bs e
      obtain ⟨a, rfl, hs⟩ := lst_bls S hK d1 e
      exact ⟨a, bs, rfl, hs, h.here S (by simp [Den])⟩
    · exact h.elim
  · exact h.elim
theorem call_anyO (hc : X.calm = true) : CallOk X E (.builtin "any") anyO := by
  refine ⟨_, cr_any hc, fun W ds vs Q hK S r h => ?_⟩
  unfold anyO at h
  split at h
  · obtain ⟨v, rfl, d1⟩ := r.uno
    split at h
    · rename_i bs e
      obtain ⟨a, rfl, hs⟩ := lst_bls S hK d1 e
      exact ⟨a, bs, rfl, hs, h.here S (by simp [Den])⟩
    · exact h.elim
  · exact h.elim
/-- list(xs), tuple(xs) of lists and tuples -/
def listO (o : Bool) (ds : List D) (G : DH) : R D := match ds with
  | [d] => match seqOf G d with
    | some xs => mkL o xs G
    | none => .stop
  | _ => .stop
theorem seqOf_den {W : Wd} {d : D} {xs : List D} {v : V} (S : Sim W) (h : Den W d v) (e : seqOf W.G d = some xs) : ∃ a vs, v = .ref a ∧ (SqL W.K W.H a vs ∨ SqT W.K W.H a vs) ∧ DenL W xs vs := by
  have viaL : ∀ {d : D}, Den W d v → lstOf W.G d = some xs → ∃ a vs, v = .ref a ∧ (SqL W.K W.H a vs ∨ SqT W.K W.H a vs) ∧ DenL W xs vs := fun {d} h e => by
    obtain ⟨a, vs, rfl, h1, h2⟩ := lstOf_den S h e
    exact ⟨a, vs, rfl, .inl h1, h2⟩
  have viaT : ∀ {d : D}, Den W d v → tupOf d = some xs → ∃ a vs, v = .ref a ∧ (SqL W.K W.H a vs ∨ SqT W.K W.H a vs) ∧ DenL W xs vs := fun {d} h e => by
    obtain ⟨a, vs, rfl, h1, h2⟩ := tupOf_den h e
    exact ⟨a, vs, rfl, .inr h1, h2⟩
  cases d with
  | tup zs => exact viaT h e
  | ktup zs => exact viaT h e
  | _ => exact viaL h e
theorem call_listO (o : Bool) : CallOk X E (.type "list") (listO o) := by
  refine ⟨_, call_list_of, fun W ds vs Q hK S r h => ?_⟩
  unfold listO at h
  split at h
  · obtain ⟨v, rfl, d1⟩ := r.uno
    split at h
    · rename_i xs e
      obtain ⟨a, us, rfl, h1, h2⟩ := seqOf_den S d1 e
      exact ⟨a, us, rfl, by rw [← hK]; exact h1, fin_mkL S h h2⟩
    · exact h.elim
  · exact h.elim
def tupleO (ds : List D) (G : DH) : R D := match ds with
  | [.tup xs] => .ok (.tup xs) G
  | [.ktup xs] => .ok (.ktup xs) G
  | [d] => match lstOf G d with
    | some xs => .ok (.tup xs) G
    | none => .stop
  | _ => .stop
theorem call_tupleO : CallOk X E (.type "tuple") tupleO := by
  refine ⟨_, call_tuple_of, fun W ds vs Q hK S r h => ?_⟩
  unfold tupleO at h
  split at h
  · obtain ⟨v, rfl, d1⟩ := r.uno
    obtain ⟨a, us, rfl, h1, h2⟩ := tup_den d1
    exact ⟨a, us, rfl, .inr ⟨by rw [← hK]; exact h1, h.here S d1⟩⟩
  · obtain ⟨v, rfl, d1⟩ := r.uno
    obtain ⟨a, us, rfl, h1, h2⟩ := ktup_den d1
    exact ⟨a, us, rfl, .inr ⟨by rw [← hK]; exact h1, h.here S d1⟩⟩
  · obtain ⟨v, rfl, d1⟩ := r.uno
    split at h
    · rename_i xs e
      obtain ⟨a, us, rfl, h1, h2⟩ := lstOf_den S d1 e
      exact ⟨a, us, rfl, .inl ⟨by rw [← hK]; exact h1, fin_tup S h h2⟩⟩
    · exact h.elim
  · exact h.elim
/-- str of an int -/
def strO (ds : List D) (G : DH) : R D := match ds with
  | [.int i] => if i.natAbs.log2 < 1920 then .ok (.str (toString i)) G else .stop
  | _ => .stop
theorem call_strO : CallOk X E (.type "str") strO := by
  refine ⟨_, call_str_int, fun W ds vs Q hK S r h => ?_⟩
  unfold strO at h
  split at h
  · obtain ⟨v, rfl, d1⟩ := r.uno
    simp only [Den] at d1
    split at h
    · rename_i c
      exact ⟨_, by rw [d1], c, h.here S (by simp [Den])⟩
    · exact h.elim
  · exact h.elim

/-! ### isinstance with a built-in type -/
/-- the type of data, by name -/
def tyN (G : DH) : D → Option String
  | .non => some "NoneType"
  | .bl _ => some "bool"
  | .int _ => some "int"
  | .str _ => some "str"
  | .tup _ => some "tuple"
  | .ktup _ => some "tuple"
  | .lst _ => some "list"
  | .frz _ => some "list"
  | .dK _ => some "dict"
  | .dT _ => none
  | .fn _ => none
  | .err _ _ => none
  | .obj n => match G[n]? with
    | some (.lst _) => some "list"
    | some (.dK _) => some "dict"
    | some (.dT _) => some "dict"
    | _ => none
@[simp] def isiT (a T : String) : Bool := a == T || (a == "bool" && T == "int")
def kinds : List String := ["NoneType", "bool", "int", "str", "tuple", "list", "dict"]
def asks : List String := ["bool", "int", "str", "tuple", "list", "dict"]
theorem kit_all : ∀ a ∈ kinds, ∀ T ∈ asks, kitB a T = some (isiT a T) := by decide +kernel
theorem tyN_kinds {G : DH} {d : D} {a : String} (h : tyN G d = some a) : a ∈ kinds := by
  cases d <;> simp only [tyN] at h <;> first
    | (cases h; done)
    | (cases h; decide)
    | (split at h <;> first | (cases h; decide) | cases h)
theorem tyN_of {W : Wd} {d : D} {v : V} {a : String} (S : Sim W) (hK : W.K = X.K) (r : Den W d v) (h : tyN W.G d = some a) : TyX X.K W.H v (.type a) := by
  cases d with
  | fn nm => cases h
  | err nm kvs => cases h
  | non => cases h; simp only [Den] at r; subst r; exact .base .non
  | bl b => cases h; simp only [Den] at r; subst r; exact .base (.bl b)
  | int b => cases h; simp only [Den] at r; subst r; exact .base (.int b)
  | str b => cases h; simp only [Den] at r; subst r; exact .base (.str b)
  | tup xs =>
    cases h
    simp only [Den] at r
    obtain ⟨a, vs, rfl, h1, _⟩ := r
    exact .base (.tup h1)
  | ktup xs =>
    cases h
    simp only [Den] at r
    obtain ⟨a, vs, rfl, ⟨o, _, _, h1, h2, _⟩, _⟩ := r
    rcases h1 with h1 | h1
    · exact .kTuple (by rw [← hK]; exact h1) h2
    · exact .fTuple h1
  | lst xs =>
    cases h
    simp only [Den] at r
    obtain ⟨a, vs, rfl, _, h1, _⟩ := r
    exact .base (.lst h1)
  | frz xs =>
    cases h
    simp only [Den] at r
    obtain ⟨a, vs, rfl, h1, _⟩ := r
    rcases h1 with ⟨o, h1⟩ | ⟨o, _, _, h1, h2, _⟩
    · exact .base (.frz h1)
    · exact .kList (by rw [← hK]; exact h1) h2
  | dK xs =>
    cases h
    simp only [Den] at r
    obtain ⟨a, vs, rfl, _, h1, _⟩ := r
    rcases h1 with h1 | ⟨o, h1⟩
    · exact .base (.dK h1)
    · exact .fDict h1
  | dT xs => cases h
  | obj n =>
    simp only [tyN] at h
    simp only [Den] at r
    obtain ⟨b, pn, rfl⟩ := r
    split at h
    · rename_i xs e
      cases h
      obtain ⟨c, pc, vs, q, _⟩ := S.at_ n _ e rfl
      rw [pn] at pc; cases pc
      exact .base (.lst q)
    · rename_i xs e
      cases h
      obtain ⟨c, pc, vs, q, _⟩ := S.at_ n _ e rfl
      rw [pn] at pc; cases pc
      exact .base (.dK q)
    · rename_i xs e
      cases h
      obtain ⟨c, pc, vs, q, _⟩ := S.at_ n _ e rfl
      rw [pn] at pc; cases pc
      exact .base (.dT q)
    · cases h
def dIsi (T : String) (a : DE) : DE := fun s G => (a s G).bind fun d G => match tyN G d with
  | some k => .ok (.bl (isiT k T)) G
  | none => .stop
theorem de_isi (T : String) {e : Expr} {f : DE} {tx : Str} {p p2 pos : Pos} (he : DEOk X E e f) (hT : T ∈ asks) (hg : Gl X "isinstance") (hm : X.mg "isinstance" = none) (hgT : Gl X tx) (hmT : X.mg tx = none) (hvT : bootBuiltins tx = some (.type T))
    (hn : tx ≠ "__name__" := by decide) (hdb : (tx == ("__debug__" : Str)) = false := by decide) (hst : starEach [e, .Name tx p2] X.env = (false, eval e X.env) :: starEach [.Name tx p2] X.env := by rfl)
    (hst2 : starEach [.Name tx p2] X.env = (false, eval (.Name tx p2) X.env) :: starEach [] X.env := by rfl) (hpl : (backTo pos (starEach [.Name tx p2] X.env)).any (·.1) = false := by rfl) :
    DEOk X E (.Call (.Name "isinstance" p) [e, .Name tx p2] [] pos) (dIsi T f) := by
  obtain ⟨t, pt, q⟩ := he.out
  refine ⟨_, pe_callB call_isi hg hm boot_isinstance (pa_cons pt (pa_cons (pe_bltn (v := .ty T) hgT hmT hvT rfl hn hdb) pa_nil hst2) hst) (by decide) (by decide) hst hpl, fun W σ s Q hK S L h => ?_⟩
  refine q W σ s _ hK S L (h.seq fun d v W1 x1 S1 d1 h1 => ?_)
  split at h1
  · rename_i k e
    exact ⟨v, .ty T, .type k, .type T, isiT k T, rfl, .ty T, tyN_of S1 (x1.k.trans hK) d1 e, kit_ty (kit_all k (tyN_kinds e) T hT), h1.here S1 (by simp [Den])⟩
  · exact h1.elim

/-! ### methods of built-in types -/
structure MtOk (X : Cx) (E : XK) (id : String) (F : D → List D → DH → R D) : Prop where
  out : ∃ r : V → List V → Hp → VK → Prop, MtR X id r ∧ ∀ (W : Wd) (d : D) (v : V) (ds : List D) (vs : List V) (Q : VK), W.K = X.K → Sim W → Den W d v → DenL W ds vs → Fin Den W E (F d ds W.G) Q → r v vs W.H Q
/-- the receiver is of the type T, as a method call asks -/
def rcv (G : DH) (T : String) : D → Bool
  | .str _ => T == "str"
  | .int _ => T == "int"
  | .lst _ => T == "list"
  | .frz _ => T == "list"
  | .obj n => match G[n]? with
    | some (.lst _) => T == "list"
    | some (.dK _) => T == "dict"
    | some (.dT _) => T == "dict"
    | _ => false
  | _ => false
theorem rcv_ty {W : Wd} {T : String} {d : D} {v : V} (S : Sim W) (hK : W.K = X.K) (r : Den W d v) (h : rcv W.G T d = true) : tyV X.K T v W.H := by
  cases d with
  | str z => simp only [Den] at r; subst r; exact eq_of_beq h
  | int z => simp only [Den] at r; subst r; exact eq_of_beq h
  | lst xs =>
    obtain ⟨a, vs, rfl, h1, _⟩ := lstOf_den S r (by rfl : lstOf W.G (.lst xs) = some xs)
    exact .inl ⟨by simpa [rcv] using h, vs, by rw [← hK]; exact h1⟩
  | frz xs =>
    obtain ⟨a, vs, rfl, h1, _⟩ := lstOf_den S r (by rfl : lstOf W.G (.frz xs) = some xs)
    exact .inl ⟨by simpa [rcv] using h, vs, by rw [← hK]; exact h1⟩
  | obj n =>
    simp only [rcv] at h
    simp only [Den] at r
    obtain ⟨b, pn, rfl⟩ := r
    split at h
    · rename_i xs e
      obtain ⟨c, pc, vs, q, _⟩ := S.at_ n _ e rfl
      rw [pn] at pc; cases pc
      exact .inl ⟨by simpa using h, vs, .of q⟩
    · rename_i xs e
      obtain ⟨c, pc, vs, q, _⟩ := S.at_ n _ e rfl
      rw [pn] at pc; cases pc
      exact .inr (.inr (.inl ⟨by simpa using h, .inl ⟨vs, q⟩⟩))
    · rename_i xs e
      obtain ⟨c, pc, vs, q, _⟩ := S.at_ n _ e rfl
      rw [pn] at pc; cases pc
      exact .inr (.inr (.inl ⟨by simpa using h, .inr ⟨vs, q⟩⟩))
    · cases h
  | _ => cases h
def dMt (T : String) (F : D → List D → DH → R D) (o : DE) (a : DA) : DE := fun s G => (o s G).bind fun d G => if rcv G T d = true then (a s G).bind fun ds G => F d ds G else .stop
theorem de_mt {T id : String} {F : D → List D → DH → R D} {o e : Expr} {es : List Expr} {fo : DE} {fa : DA} {name : Str} {apos cpos : Pos} (pa : PlainAttrs T) (slot : Slot T name id) (hty : typeOf (.builtin id) = pure (.type "method_descriptor")) (hm : MtOk X E id F) (ho : DEOk X E o fo) (ha : DAOk X E (e :: es) fa)
    (hbase : attributeBase o name X.env (eval o X.env) = eval o X.env := by rfl)
    (hfew : ((backTo cpos (starEach (e :: es) X.env)).all (fun x => !x.1) && (backToKw cpos (keywordEach [] X.env)).all (fun x => x.1.isSome) && decide ((e :: es).length + ([] : List Keyword).length + (if ([] : List Keyword).isEmpty then 0 else 1) < 30)) = true := by rfl)
    (hline : (apos.endLine == cpos.line) = true := by rfl) (hs : starEach (e :: es) X.env = (false, eval e X.env) :: starEach es X.env := by rfl) (hplain : (backTo cpos (starEach es X.env)).any (·.1) = false := by rfl) :
    DEOk X E (.Call (.Attribute o name apos) (e :: es) [] cpos) (dMt T F fo fa) := by
  obtain ⟨r, hr, qr⟩ := hm.out
  obtain ⟨to, po, qo⟩ := ho.out
  obtain ⟨t, pt, q⟩ := ha.out
  refine ⟨_, pe_bm pa slot hty hr po pt hbase hfew hline hs hplain, fun W σ s Q hK S L h => ?_⟩
  refine qo W σ s _ hK S L (h.seq fun d v W1 x1 S1 d1 h1 => ?_)
  split at h1
  · rename_i c
    refine ⟨rcv_ty S1 (x1.k.trans hK) d1 c, q W1 σ s _ (x1.k.trans hK) S1 (L.mono x1) (Fin.seq (RC := Den) h1 fun ds vs W2 x2 S2 d2 h2 => ?_)⟩
    exact qr W2 d v ds vs Q (x2.k.trans (x1.k.trans hK)) S2 (Den.mono x2 _ _ d1) d2 h2
  · exact h1.elim
theorem de_mt0 {T id : String} {F : D → List D → DH → R D} {o : Expr} {fo : DE} {name : Str} {apos cpos : Pos} (pa : PlainAttrs T) (slot : Slot T name id) (hty : typeOf (.builtin id) = pure (.type "method_descriptor")) (hm : MtOk X E id F) (ho : DEOk X E o fo)
    (hbase : attributeBase o name X.env (eval o X.env) = eval o X.env := by rfl) (hline : (apos.endLine == cpos.line) = true := by rfl) :
    DEOk X E (.Call (.Attribute o name apos) [] [] cpos) (dMt T F fo dNil) := by
  obtain ⟨r, hr, qr⟩ := hm.out
  obtain ⟨to, po, qo⟩ := ho.out
  refine ⟨_, pe_bm0 pa slot hty hr po hbase hline, fun W σ s Q hK S L h => ?_⟩
  refine qo W σ s _ hK S L (h.seq fun d v W1 x1 S1 d1 h1 => ?_)
  split at h1
  · rename_i c
    exact ⟨rcv_ty S1 (x1.k.trans hK) d1 c, qr W1 d v [] [] Q (x1.k.trans hK) S1 d1 (by simp [DenL]) h1⟩
  · exact h1.elim
/-- texts -/
@[simp] def txts : List D → Option (List Str)
  | [] => some []
  | .str b :: ds => (txts ds).map (b :: ·)
  | _ => none
theorem txts_den {W : Wd} : ∀ {ds : List D} {vs : List V} {bs : List Str}, DenL W ds vs → txts ds = some bs → vs = bs.map V.str
  | [], _, _, h, e => by simp only [DenL] at h; subst h; cases e; rfl
  | d :: ds, _, bs, h, e => by
    simp only [DenL] at h
    obtain ⟨v, r, rfl, h1, h2⟩ := h
    cases d with
    | str b =>
      simp only [txts] at e
      cases e1 : txts ds with
      | none => rw [e1] at e; cases e
      | some cs =>
        rw [e1] at e
        cases e
        simp only [Den] at h1
        rw [h1, txts_den h2 e1]
        rfl
    | _ => cases e
theorem den_txts {W : Wd} : ∀ bs : List Str, DenL W (bs.map D.str) (bs.map V.str)
  | [] => by simp [DenL]
  | b :: bs => by simp only [List.map_cons, DenL]; exact ⟨_, _, rfl, by simp [Den], den_txts bs⟩
def splitO (o : Bool) (d : D) (ds : List D) (G : DH) : R D := match d, ds with
  | .str a, [.str b] => if (b.length == 0) = false ∧ a.length + 2 ≤ sizeLine then mkL o ((Txt.split a b).map D.str) G else .stop
  | _, _ => .stop
theorem mt_splitO (o : Bool) : MtOk X E "str.split" (splitO o) := by
  refine ⟨_, mt_split, fun W d v ds vs Q hK S r rs h => ?_⟩
  unfold splitO at h
  split at h
  · obtain ⟨w, rfl, d1⟩ := rs.uno
    simp only [Den] at r d1
    split at h
    · rename_i c
      exact ⟨_, _, r, by rw [d1], c.1, c.2, fin_mkL S h (den_txts _)⟩
    · exact h.elim
  · exact h.elim
def partO (d : D) (ds : List D) (G : DH) : R D := match d, ds with
  | .str a, [.str b] => if (b.length == 0) = false ∧ a.length ≤ sizeLine then .ok (.tup [.str (Txt.partition a b).1, .str (Txt.partition a b).2.1, .str (Txt.partition a b).2.2]) G else .stop
  | _, _ => .stop
theorem mt_partO : MtOk X E "str.partition" partO := by
  refine ⟨_, mt_partition, fun W d v ds vs Q hK S r rs h => ?_⟩
  unfold partO at h
  split at h
  · obtain ⟨w, rfl, d1⟩ := rs.uno
    simp only [Den] at r d1
    split at h
    · rename_i c
      exact ⟨_, _, r, by rw [d1], c.1, c.2, fin_tup S h (den_txts [_, _, _])⟩
    · exact h.elim
  · exact h.elim
def countO (d : D) (ds : List D) (G : DH) : R D := match d, ds with
  | .str a, [.str b] => .ok (.int (Txt.count a b)) G
  | _, _ => .stop
theorem mt_countO : MtOk X E "str.count" countO := by
  refine ⟨_, mt_count, fun W d v ds vs Q hK S r rs h => ?_⟩
  unfold countO at h
  split at h
  · obtain ⟨w, rfl, d1⟩ := rs.uno
    simp only [Den] at r d1
    exact ⟨_, _, r, by rw [d1], h.here S (by simp [Den])⟩
  · exact h.elim
def joinO (d : D) (ds : List D) (G : DH) : R D := match d, ds with
  | .str a, [x] => match (seqOf G x).bind txts with
    | some ys => if (ys.map (·.length)).sum + ys.length * a.length ≤ 16777216 then .ok (.str (Txt.join a ys)) G else .stop
    | none => .stop
  | _, _ => .stop
theorem mt_joinO : MtOk X E "str.join" joinO := by
  refine ⟨_, mt_join, fun W d v ds vs Q hK S r rs h => ?_⟩
  unfold joinO at h
  split at h
  · obtain ⟨w, rfl, d1⟩ := rs.uno
    simp only [Den] at r
    split at h
    · rename_i ys e
      split at h
      · rename_i c
        obtain ⟨xs, e1, e⟩ := Option.bind_eq_some_iff.mp e
        obtain ⟨a, us, rfl, h1, h2⟩ := seqOf_den S d1 e1
        refine ⟨_, a, ys, r, rfl, ?_, c, h.here S (by simp [Den])⟩
        rw [← txts_den h2 e, ← hK]
        exact h1
      · exact h.elim
    · exact h.elim
  · exact h.elim

/-! ### a store to a place -/
structure StOk (X : Cx) (E : XK) (F : D → D → D → DH → R Unit) : Prop where
  out : ∃ t : TSet, PSet X t ∧ ∀ (W : Wd) (x y z : D) (v w u : V) (Q : Hp → Prop), W.K = X.K → Sim W → Den W x v → Den W y w → Den W z u → Fin (fun _ (_ : Unit) (_ : Unit) => True) W E (F x y z W.G) (fun _ H => Q H) → t v w u W.H Q
def gSt (F : D → D → D → DH → R Unit) (o i : DE) : DG := fun d s G => (o s G).bind fun x G => (i s G).bind fun y G => (F x y d G).bind fun _ G => .ok s G
theorem dg_sub {o i : Expr} {fo fi : DE} {F : D → D → D → DH → R Unit} {pos : Pos} (ho : DEOk X E o fo) (hi : DEOk X E i fi) (hs : StOk X E F)
    (ha : ∀ v, assign (.Subscript o i pos) X.env v = (do
      let ov ← holding [v] (eval o X.env)
      let iv ← holding [v, ov] (eval i X.env)
      standAt pos
      holding [v, ov, iv] (setItem ov iv v)
      release [v, ov, iv] []) := by intro _; rfl) : DGOk X E (.Subscript o i pos) (gSt F fo fi) := by
  obtain ⟨to, po, qo⟩ := ho.out
  obtain ⟨ti, pi, qi⟩ := hi.out
  obtain ⟨t, ps, q⟩ := hs.out
  refine ⟨_, pg_sub po pi ps ha, fun W σ s d v Q hK S L r h => ?_⟩
  refine qo W σ s _ hK S L (Fin.seq (RC := RSl) h fun x xv W1 x1 S1 d1 h1 => ?_)
  refine qi W1 σ s _ (x1.k.trans hK) S1 (L.mono x1) (Fin.seq (RC := RSl) h1 fun y yv W2 x2 S2 d2 h2 => ?_)
  refine q W2 x y d xv yv v _ (x2.k.trans (x1.k.trans hK)) S2 (Den.mono x2 _ _ d1) d2 (Den.mono (x1.trans x2) _ _ r) (Fin.seq (RC := RSl) h2 fun _ _ W3 x3 S3 _ h3 => ?_)
  exact Fin.here (RA := RSl) S3 h3 (((L.mono x1).mono x2).mono x3)
def setL (x y z : D) (G : DH) : R Unit := match x, y with
  | .obj n, .int k => match G[n]? with
    | some (.lst xs) => match ixN xs.length k with
      | some j => .ok () (G.set n (.lst (xs.set j z)))
      | none => .stop
    | _ => .stop
  | _, _ => .stop
theorem st_setL : StOk X E setL := by
  refine ⟨_, set_list, fun W x y z v w u Q hK S dx dy dz h => ?_⟩
  unfold setL at h
  split at h
  · rename_i n k
    simp only [Den] at dx dy
    obtain ⟨a, pn, rfl⟩ := dx
    split at h
    · rename_i xs e
      split at h
      · rename_i j ej
        obtain ⟨b, pb, vs, h1, h2⟩ := S.at_ n _ e rfl
        rw [pn] at pb; cases pb
        refine ⟨a, vs, k, j, rfl, dy, h1, by rw [h2.len]; exact ej, ?_⟩
        obtain ⟨x1, S1⟩ := S.put (o := .lst (vs.set j u)) (d := .lst (xs.set j z)) e rfl pn fun W' y' e' => ⟨_, by rw [e']; exact upd_same, (DenL.mono y' _ _ h2).set j (Den.mono y' _ _ dz)⟩
        exact h () _ x1 S1 rfl trivial
      · exact h.elim
    · exact h.elim
  · exact h.elim
end
end DL
end
/-! ==== DEnd ==== -/
section
set_option Elab.async false
set_option linter.all false
set_option autoImplicit false
set_option maxRecDepth 100000
set_option maxHeartbeats 4000000
/-! DL: repr of data; the end of a law. -/
namespace DL
open PySem PySem.Spec PyProof.Rows L2

/-! ### repr -/
mutual
/-- data as the kit names it -/
def toP : D → PyData
  | .non => .none
  | .bl b => .bool b
  | .int i => .int i
  | .str x => .str x
  | .tup xs => .tuple (toPL xs)
  | .ktup xs => .tuple (toPL xs)
  | .lst xs => .list (toPL xs)
  | .frz xs => .list (toPL xs)
  | .dK _ => .none
  | .dT _ => .none
  | .obj _ => .none
  | .fn _ => .none
  | .err _ _ => .none
def toPL : List D → List PyData
  | [] => []
  | x :: xs => toP x :: toPL xs
end
mutual
theorem toP_nodict : ∀ d : D, (toP d).hasDict = false
  | .non => by simp only [toP, PyData.hasDict]
  | .bl b => by simp only [toP, PyData.hasDict]
  | .int i => by simp only [toP, PyData.hasDict]
  | .str x => by simp only [toP, PyData.hasDict]
  | .tup xs => by simp only [toP, PyData.hasDict]; exact toPL_nodict xs
  | .ktup xs => by simp only [toP, PyData.hasDict]; exact toPL_nodict xs
  | .lst xs => by simp only [toP, PyData.hasDict]; exact toPL_nodict xs
  | .frz xs => by simp only [toP, PyData.hasDict]; exact toPL_nodict xs
  | .dK _ => by simp only [toP, PyData.hasDict]
  | .dT _ => by simp only [toP, PyData.hasDict]
  | .obj _ => by simp only [toP, PyData.hasDict]
  | .fn _ => by simp only [toP, PyData.hasDict]
  | .err _ _ => by simp only [toP, PyData.hasDict]
theorem toPL_nodict : ∀ ds : List D, PyData.hasDictAll (toPL ds) = false
  | [] => by simp only [toPL, PyData.hasDictAll]
  | d :: ds => by simp only [toPL, PyData.hasDictAll, toP_nodict d, toPL_nodict ds, Bool.or_self]
end
mutual
theorem rq_reads {h : Heap} : ∀ (d : D) (u : Value), Rq h d u → ∃ as, Reads h u (toP d) as
  | .non, u, r => by simp only [Rq] at r; subst r; exact ⟨_, by simp only [toP]; exact .none⟩
  | .bl b, u, r => by simp only [Rq] at r; subst r; exact ⟨_, by simp only [toP]; exact .bool b⟩
  | .int i, u, r => by simp only [Rq] at r; obtain ⟨t, rfl⟩ := r; exact ⟨_, by simp only [toP]; exact .int i t⟩
  | .str x, u, r => by simp only [Rq] at r; obtain ⟨t, rfl⟩ := r; exact ⟨_, by simp only [toP]; exact .str x t⟩
  | .tup xs, u, r => by
    simp only [Rq] at r
    obtain ⟨a, its, rfl, ⟨o, e, c, n, dd⟩, r2⟩ := r
    obtain ⟨as, q⟩ := rq_readsL xs _ r2
    exact ⟨_, by simp only [toP]; exact .tuple e c dd q⟩
  | .ktup xs, u, r => by
    simp only [Rq] at r
    obtain ⟨a, its, rfl, ⟨o, e, c, n, dd⟩, r2⟩ := r
    obtain ⟨as, q⟩ := rq_readsL xs _ r2
    exact ⟨_, by simp only [toP]; exact .tuple e c dd q⟩
  | .lst xs, u, r => by
    simp only [Rq] at r
    obtain ⟨a, its, rfl, ⟨o, e, c, n, dd⟩, r2⟩ := r
    obtain ⟨as, q⟩ := rq_readsL xs _ r2
    exact ⟨_, by simp only [toP]; exact .list e c dd q⟩
  | .frz xs, u, r => by
    simp only [Rq] at r
    obtain ⟨a, its, rfl, ⟨o, e, c, n, dd⟩, r2⟩ := r
    obtain ⟨as, q⟩ := rq_readsL xs _ r2
    exact ⟨_, by simp only [toP]; exact .list e c dd q⟩
  | .dK _, _, r => by simp only [Rq] at r
  | .dT _, _, r => by simp only [Rq] at r
  | .obj _, _, r => by simp only [Rq] at r
  | .fn _, _, r => by simp only [Rq] at r
  | .err _ _, _, r => by simp only [Rq] at r
theorem rq_readsL {h : Heap} : ∀ (ds : List D) (us : List Value), RqL h ds us → ∃ as, ReadsAll h us (toPL ds) as
  | [], us, r => by simp only [RqL] at r; subst r; exact ⟨_, by simp only [toPL]; exact .nil⟩
  | d :: ds, us, r => by
    simp only [RqL] at r
    obtain ⟨u, q, rfl, r1, r2⟩ := r
    obtain ⟨as, q1⟩ := rq_reads d u r1
    obtain ⟨bs, q2⟩ := rq_readsL ds q r2
    exact ⟨_, by simp only [toPL]; exact .cons q1 q2⟩
end
/-- whether repr of data is covered -/
def shows (p : PyData) : Prop := p.showable = true ∧ p.depth ≤ 60 ∧ p.shown.length ≤ sizeLine
instance (p : PyData) : Decidable (shows p) := inferInstanceAs (Decidable (_ ∧ _ ∧ _))
section
variable {X : Cx} {E : XK}
def isRef : D → Bool
  | .tup _ => true
  | .ktup _ => true
  | .lst _ => true
  | .frz _ => true
  | _ => false
def reprO (ds : List D) (G : DH) : R D := match ds with
  | [d] => if isRef (der G d) = true ∧ pln (der G d) = true ∧ shows (toP (der G d)) then .ok (.str (toP (der G d)).shown) G else .stop
  | _ => .stop
theorem rq_ref {h : Heap} {d : D} {u : Value} (r : Rq h d u) (hd : isRef d = true) : ∃ a, u = .ref a := by
  cases d <;> first
    | (cases hd; done)
    | (simp only [Rq] at r; obtain ⟨a, _, rfl, _⟩ := r; exact ⟨a, rfl⟩)
theorem call_reprO {k : Nat} (hr : Rm k X.A) : CallOk X E (.builtin "repr") reprO := by
  refine CallOk.of fun pins s σ W ds vs us Q I S hK dd rv h => ?_
  unfold reprO at h
  split at h
  · rename_i d
    obtain ⟨v, rfl, d1⟩ := dd.uno
    cases rv with
    | cons r1 r2 =>
      cases r2
      split at h
      · rename_i c
        obtain ⟨c0, c1, c2, c3, c4⟩ := c
        have q := der_rq I S hK c1 d1 r1
        obtain ⟨a, rfl⟩ := rq_ref q c0
        obtain ⟨as, rd⟩ := rq_reads _ _ q
        have hu := hr.u200
        exact repr_of_reads' rd c2 (PyData.noDict_hsm (toP_nodict _)) hr.gu (by omega) (fun _ _ e => e) (fun h' u tk kp => ⟨.str _, W.H, I.kept kp, ⟨u, rfl⟩, h.here S (by simp [Den])⟩) c4
      · exact h.elim
  · exact h.elim
/-- a new dict of the kind K, a value or a thing that may be changed -/
def mkK (o : Bool) (kvs : List (Key × D)) (G : DH) : R D := if o then .ok (.obj G.length) (G ++ [.dK kvs]) else .ok (.dK kvs) G
def mkT (o : Bool) (kvs : List (List Key × D)) (G : DH) : R D := if o then .ok (.obj G.length) (G ++ [.dT kvs]) else .ok (.dT kvs) G
theorem fin_mkK {W : Wd} {o : Bool} {kvs : List (Key × D)} {ws : List (Key × V)} {Q : VK} (S : Sim W) (h : Fin Den W E (mkK o kvs W.G) Q) (r : DenK W kvs ws) : ∀ p, W.H p = none → Q (.ref p) (upd W.H p (.dK ws)) := by
  intro p hp
  cases o with
  | false =>
    obtain ⟨x, S'⟩ := S.lay (.dK ws) hp
    refine h (.ref p) _ x S' rfl ?_
    simp only [Den]
    exact ⟨p, ws, rfl, fun l => S.not_own_of_none hp l, .inl upd_same, DenK.mono x _ _ r⟩
  | true =>
    obtain ⟨x, S'⟩ := S.new (o := .dK ws) (d := .dK kvs) hp fun W' y e => ⟨ws, by rw [e]; exact upd_same, DenK.mono y _ _ r⟩
    refine h (.ref p) _ x S' rfl ?_
    simp only [Den]
    exact ⟨p, by show (W.p ++ [p])[W.G.length]? = some p; rw [← S.len]; simp, rfl⟩
theorem fin_mkT {W : Wd} {o : Bool} {kvs : List (List Key × D)} {ws : List (List Key × V)} {Q : VK} (S : Sim W) (h : Fin Den W E (mkT o kvs W.G) Q) (r : DenT W kvs ws) : ∀ p, W.H p = none → Q (.ref p) (upd W.H p (.dT ws)) := by
  intro p hp
  cases o with
  | false =>
    obtain ⟨x, S'⟩ := S.lay (.dT ws) hp
    refine h (.ref p) _ x S' rfl ?_
    simp only [Den]
    exact ⟨p, ws, rfl, fun l => S.not_own_of_none hp l, .inl upd_same, DenT.mono x _ _ r⟩
  | true =>
    obtain ⟨x, S'⟩ := S.new (o := .dT ws) (d := .dT kvs) hp fun W' y e => ⟨ws, by rw [e]; exact upd_same, DenT.mono y _ _ r⟩
    refine h (.ref p) _ x S' rfl ?_
    simp only [Den]
    exact ⟨p, by show (W.p ++ [p])[W.G.length]? = some p; rw [← S.len]; simp, rfl⟩
/-- {} -/
def dNewK (o : Bool) : DE := fun _ G => mkK o [] G
def dNewT (o : Bool) : DE := fun _ G => mkT o [] G
theorem de_newK (o : Bool) {pos : Pos} : DEOk X E (.Dict [] [] pos) (dNewK o) :=
  ⟨_, pe_dnewK, fun W σ s Q hK S L h => fin_mkK S h (by simp [DenK])⟩
theorem de_newT (o : Bool) {pos : Pos} : DEOk X E (.Dict [] [] pos) (dNewT o) :=
  ⟨_, pe_dnewT, fun W σ s Q hK S L h => fin_mkT S h (by simp [DenT])⟩
end

/-! ### the end of a law -/
section
theorem dlaw_call {P : Program} {w : World} {K : PySem.W.Frag} {g b : Str → Option Value} {k : Nat} {fa a : Addr} {fd : FuncData} {x : Str} {Fl : DFn} {t : Shared} {us : List Value} {zs : List Int}
    (kin : K.In t.heap) (nsg : t.heap.Ns mainGlobals g) (nsb : t.heap.Ns builtinsNs b) (bob : ∀ y : Str, y ≠ "__name__" → b y = bootBuiltins y) (nol : t.heap.NoLimit) (g0 : t.gens = #[])
    (scr : t.heap.get? a = some { cls := .type "list", data := .seq us.toArray }) (izs : IntsAre us zs) (few : zs.length ≤ sizeLine) (room : Rm k callerA)
    (hF : ∀ base : Heap, K.In base → base.Ns mainGlobals g → DFok P w K g base CX0 k fa fd [x] Fl) (bnd : ∀ (q : Shared) (u : Value), BindsTo q fd ⟨[u], []⟩ [(x, u)])
    (ends : ∃ G, Fl [.frz (zs.map D.int)] [] = .ok (.bl true) G) :
    codeAny (model P w) callerA (.call (.ref fa) ⟨[.ref a], []⟩) (fun r q => r = .ok (.ret (.bool true)) ∧ OldK t.heap q.heap ∧ q.os = t.os ∧ AllBare q.gens) t := by
  have vals := vals_ints izs
  have lens := izs.length
  let ob : Obj := { cls := .type "list", data := .seq us.toArray }
  -- whatever is tracked is the script
  have main : ∀ H : Hp, (∀ c u, H c = some u → c = a ∧ u = .frz ob (.lst (zs.map V.int)) ∧ K.lookup a = none) → Fz ⟨K, [], [], H, fun _ => False, fun _ => False⟩ a (zs.map V.int) → HOk P w H t.heap →
      codeAny (model P w) callerA (.call (.ref fa) ⟨[.ref a], []⟩) (fun r q => r = .ok (.ret (.bool true)) ∧ OldK t.heap q.heap ∧ q.os = t.os ∧ AllBare q.gens) t := by
    intro H only hz hok
    have nod : ∀ {c : Addr} {o : Obj} {es : Array DictEntry} {m : Nat}, t.heap.get? c = some o → o.data = .dict es m → H c = none := fun {c o es m} e ed => by
      cases z : H c with
      | none => rfl
      | some u =>
        obtain ⟨rfl, _⟩ := only c u z
        rw [scr] at e; cases e
        have ed' : Data.seq us.toArray _ = Data.dict es m := ed
        cases ed'
    have keepNs : ∀ {c : Addr} {m : Str → Option Value}, t.heap.Ns c m → (hidT t.heap H).Ns c m := fun {c m} ⟨o, es, m2, e, ed, r⟩ => ⟨o, es, m2, hidT_get e (nod e ed), ed, r⟩
    have kb : K.In (hidT t.heap H) := fun c o e => hidT_get (kin c o e) (by
      cases z : H c with
      | none => rfl
      | some u =>
        obtain ⟨rfl, _, z2⟩ := only c u z
        rw [z2] at e; cases e)
    have md : Mod K g (hidT t.heap H) := ⟨kb, keepNs nsg, ⟨b, keepNs nsb, bob⟩, let ⟨mc, y1, y2⟩ := nol; ⟨mc, keepNs y1, y2⟩⟩
    have env0 : Env0 P w K g (hidT t.heap H) callerA [] t H := ⟨rfl, md, fun c o e => of_hidT e, Nat.le_of_eq (hidT_size _ _), trivial, fun c hc => absurd (show c ∈ ([] : List Addr) from hc) (by simp), hok, .of_eq g0⟩
    let W : Wd := ⟨K, [], [], H, fun _ => False, fun _ => False⟩
    have sim : Sim W := by
      refine ⟨rfl, fun m o e => ?_, fun c z => z.elim, fun c z => z.elim, fun m m2 o u c e => ?_, fun c z => z.elim⟩
      · have : ([] : DH)[m]? = some o := e
        simp at this
      · have : ([] : DH)[m]? = some o := e
        simp at this
    have args : DenL W [.frz (zs.map D.int)] [.ref a] := by
      simp only [DenL]
      exact ⟨_, _, rfl, by simp only [Den]; exact ⟨a, _, rfl, hz, ints_den zs⟩, rfl⟩
    have fin : Fin Den W (fun _ _ _ => False) (Fl [.frz (zs.map D.int)] W.G) (fun v _ => v = .bl true) := by
      obtain ⟨G, eG⟩ := ends
      show Fin Den W (fun _ _ _ => False) (Fl [.frz (zs.map D.int)] []) (fun v _ => v = .bl true)
      rw [eG]
      intro v W1 x1 S1 e1 d1
      simpa [Den] using d1
    refine codeAny_mono ((hF _ kb (keepNs nsg)).run callerA [] t ⟨[.ref a], []⟩ [.ref a] [.ref a] W _ _ _ room env0 (bnd t (.ref a)) (.cons rfl .nil) rfl sim args fin) fun r q hq => ?_
    cases r with
    | error e => exact False.elim hq
    | ok fl =>
      cases fl with
      | next => exact False.elim hq
      | brk => exact False.elim hq
      | cont => exact False.elim hq
      | ret u =>
        obtain ⟨v, H2, eos, bare, un, hok2, rv, ev⟩ := hq
        have ev' : v = .bl true := ev
        subst ev'
        obtain rfl : u = Value.bool true := rv
        refine ⟨rfl, OldK.of_keep fun c o e => ?_, eos, bare⟩
        cases z : H c with
        | none => exact un.keep c o e z (by intro y; exact absurd (show c ∈ ([] : List Addr) from y) (by simp)) (by simp)
        | some u =>
          obtain ⟨rfl, rfl, _⟩ := only c u z
          have z2 := un.frzs c _ _ z
          obtain ⟨e1, _⟩ := hok c _ z
          obtain ⟨e2, _⟩ := hok2 c _ z2
          rw [e] at e1; cases e1
          exact e2
  cases hk : K.lookup a with
  | some o =>
    have e := kin a o hk
    rw [scr] at e
    cases e
    exact main (fun _ => none) (fun c u z => by cases z) (.inr ⟨_, us.toArray, _, hk, rfl, rfl, rfl, by rw [List.size_toArray, lens]; exact few, by simpa using vals⟩) (fun c u z => by
      have z' : (none : Option HO) = some u := z
      cases z')
  | none =>
    refine main (fun c => if c = a then some (.frz ob (.lst (zs.map V.int))) else none) (fun c u z => ?_) (.inl ⟨ob, if_pos rfl⟩) (fun c u z => ?_)
    · by_cases hc : c = a
      · exact ⟨hc, (Option.some.inj ((if_pos hc).symm.trans z)).symm, hk⟩
      · exact absurd ((if_neg hc).symm.trans z) (by simp)
    · by_cases hc : c = a
      · have z' := Option.some.inj ((if_pos hc).symm.trans z)
        subst z'
        subst hc
        exact ⟨scr, by rw [List.length_map]; exact few, us, _, vals, scr⟩
      · exact absurd ((if_neg hc).symm.trans z) (by simp)

theorem dlaw_walk {l : PySem.W.OpenLaw} {n k : Nat} {q : Program} {loose : List Str} {XP : (Str → Option Value) → Heap → Prop} {YP : World → Heap → Prop} {d : DefRec} {K : Params → PySem.W.Frag} {Fl : DFn} {x : Str}
    (most : l.most = some n) (small : n ≤ sizeLine) (dflt : d.params.defaults = []) (room : Rm k callerA) (hY : ∀ (w : World) (h : Heap), YP w h → (K w.params).In h)
    (hF : ∀ (w : World) (g : Str → Option Value) (fa : Addr) (h : Heap), (K w.params).In h → h.Ns mainGlobals g → g d.name = some (.ref fa) →
      ∃ fd : FuncData, (∀ (t : Shared) (u : Value), BindsTo t fd ⟨[u], []⟩ [(x, u)]) ∧ ∀ base : Heap, (K w.params).In base → base.Ns mainGlobals g → DFok l.prog w (K w.params) g base CX0 k fa fd [x] Fl)
    (ends : ∀ zs : List Int, zs.length ≤ n → ∃ G, Fl [.frz (zs.map D.int)] [] = .ok (.bl true) G) : PySem.W.WalkO q loose XP YP l.row.toRowW d [] (fun f us => PySem.call f us) := by
  refine Att.attach_call most dflt fun w s0 t g b fa o pm cd doc a us zs Gr Y ho hd hcd hg scr izs few g0 => ?_
  have kin := hY w _ Y
  obtain ⟨fd, bnd, hF'⟩ := hF w g fa _ kin Gr.T.g hg
  exact dlaw_call kin Gr.T.g Gr.T.b Gr.T.builtins Gr.T.nolimit g0 scr izs (Nat.le_trans few small) room hF' bnd (ends zs few)
end
end DL
end
/-! ==== DDefs ==== -/
section
set_option Elab.async false
set_option linter.all false
set_option autoImplicit false
set_option maxRecDepth 100000
set_option maxHeartbeats 4000000
/-! DL: the defs of a text by their names. -/
namespace DL
open PySem PySem.Spec PyProof.Rows L2

theorem passX {X : Cx} {E : XK} : Passes CX0 X E := fun _ _ _ _ _ _ _ h => h.elim
/-- a def as the top has written it -/
structure DRaw (K : PySem.W.Frag) (mg : Str → Option Value) (x : Str) (st : Stmt) (ps : List Str) : Prop where
  ex : ∃ (f : Addr) (fd : FuncData), Fun K x x st f fd ∧ mg x = some (.ref f) ∧ PySem.W.keepIn K (.ref f) = true ∧ Binds K fd ps []
/-- .. and what it is worth -/
structure DDef (P : Program) (w : World) (K : PySem.W.Frag) (mg : Str → Option Value) (base : Heap) (k : Nat) (x : Str) (st : Stmt) (ps : List Str) (F : DFn) : Prop where
  ex : ∃ (f : Addr) (fd : FuncData), Fun K x x st f fd ∧ mg x = some (.ref f) ∧ PySem.W.keepIn K (.ref f) = true ∧ Binds K fd ps [] ∧ DFok P w K mg base CX0 k f fd ps F
section
variable {P : Program} {w : World} {K : PySem.W.Frag} {mg : Str → Option Value} {base : Heap} {x : Str} {st : Stmt} {ps : List Str}
theorem DRaw.made {k : Nat} {F : DFn} (h : DRaw K mg x st ps) (hf : ∀ {f : Addr} {fd : FuncData}, Fun K x x st f fd → DFok P w K mg base CX0 k f fd ps F) : DDef P w K mg base k x st ps F :=
  let ⟨f, fd, a, b, c, d⟩ := h.ex
  ⟨f, fd, a, b, c, d, hf a⟩
theorem draw_mk {h : Heap} {f : Addr} {oc : Value} {od an : Option Addr} {osl : Array (Option Value)} {kV doc pm cdv ct : Value} (X : K.In h) (G : h.Ns mainGlobals mg) (a : PySem.W.nsIn K mainGlobals x = some (some (.ref f)))
    (l : K.lookup f = some ⟨oc, od, .func (PySem.W.fnOf x x (defArgs st) (defBody st) (defScope st) .none kV doc pm an cdv ct), osl⟩) (c : PySem.W.codeIn K cdv x = true) (k : PySem.W.keepIn K (.ref f) = true)
    (hb : ∀ (kV doc pm : Value) (an : Option Addr) (cdv ct : Value) (us : List Value), us.length = ps.length → bindArgs (PySem.W.fnOf x x (defArgs st) (defBody st) (defScope st) .none kV doc pm an cdv ct) ⟨us, []⟩ = pure (ps.zip us)) : DRaw K mg x st ps :=
  ⟨f, _, fun_mk l c k, PySem.W.mg_of X G a, k, (fun_mk (st := st) l c k).binds hb⟩
/-- keywords: how such a call binds -/
def KwBinds (x : Str) (st : Stmt) (ps ks : List Str) (np nk : Nat) (perm : List Nat) : Prop :=
  ∀ (kV doc pm : Value) (an : Option Addr) (cdv ct : Value) (us ws : List Value), us.length = np → ws.length = nk → bindArgs (PySem.W.fnOf x x (defArgs st) (defBody st) (defScope st) .none kV doc pm an cdv ct) ⟨us, ks.zip ws⟩ = pure (ps.zip (pick perm (us ++ ws)))
theorem kw_binds {f : Addr} {fd : FuncData} {ks : List Str} {np nk : Nat} {perm : List Nat} (F : Fun K x x st f fd) (h : KwBinds x st ps ks np nk perm) : BindsK K fd ps ks np nk perm := by
  obtain ⟨oc, od, kV, doc, pm, an, cdv, ct, osl, rfl, lk, hcd⟩ := F.ex
  exact fun s us ws _ h1 h2 => .of_eq (h kV doc pm an cdv ct us ws h1 h2)
/-- the law's end -/
theorem dlaw_fd {q : Program} {k : Nat} {fa : Addr} {F : DFn} {p : Str} (h : DRaw K mg x st [p]) (hfa : mg x = some (.ref fa))
    (hb : ∀ (kV doc pm : Value) (an : Option Addr) (cdv ct : Value) (u : Value), bindArgs (PySem.W.fnOf x x (defArgs st) (defBody st) (defScope st) .none kV doc pm an cdv ct) ⟨[u], []⟩ = pure [(p, u)])
    (hf : ∀ (base : Heap) {f : Addr} {fd : FuncData}, Fun K x x st f fd → DFok q w K mg base CX0 k f fd [p] F) :
    ∃ fd : FuncData, (∀ (t : Shared) (u : Value), BindsTo t fd ⟨[u], []⟩ [(p, u)]) ∧ ∀ base : Heap, K.In base → base.Ns mainGlobals mg → DFok q w K mg base CX0 k fa fd [p] F := by
  obtain ⟨f, fd, a, b, _, _⟩ := h.ex
  rw [hfa] at b
  cases b
  refine ⟨fd, fun t u => ?_, fun base _ _ => hf base a⟩
  obtain ⟨oc, od, kV, doc, pm, an, cdv, ct, osl, rfl, lk, hcd⟩ := a.ex
  exact .of_eq (hb kV doc pm an cdv ct u)
end
section
variable {X : Cx} {E : XK} {k j : Nat} {y : Str} {st : Stmt} {ps : List Str} {F : DFn}
theorem de_callD {p pos : Pos} {e : Expr} {es : List Expr} {fa : DA} (h : DDef X.prog X.w X.K X.mg X.base j y st ps F) (hr : Rm k X.A) (hj : j ≤ k) (ha : DAOk X E (e :: es) fa) (hg : Gl X y := by rfl)
    (hdb : (y == ("__debug__" : Str)) = false := by decide) (he : starEach (e :: es) X.env = (false, eval e X.env) :: starEach es X.env := by rfl) (hpl : (backTo pos (starEach es X.env)).any (·.1) = false := by rfl) :
    DEOk X E (.Call (.Name y p) (e :: es) [] pos) (dCall F fa) := by
  obtain ⟨f, fd, _, b, c, d, q⟩ := h.ex
  exact de_call q (hr.mono hj) hg b c d passX ha hdb he hpl
theorem de_callD0 {p pos : Pos} (h : DDef X.prog X.w X.K X.mg X.base j y st [] F) (hr : Rm k X.A) (hj : j ≤ k) (hg : Gl X y := by rfl) (hdb : (y == ("__debug__" : Str)) = false := by decide) : DEOk X E (.Call (.Name y p) [] [] pos) (dCall F dNil) := by
  obtain ⟨f, fd, _, b, c, d, q⟩ := h.ex
  exact de_call0 q (hr.mono hj) hg b c d passX hdb
theorem de_callKD {ks : List Str} {np nk : Nat} {perm : List Nat} {p pos : Pos} {e : Expr} {es : List Expr} {kws : List Keyword} {fa fk : DA} (h : DDef X.prog X.w X.K X.mg X.base j y st ps F) (hr : Rm k X.A) (hj : j ≤ k) (hb : KwBinds y st ps ks np nk perm)
    (ha : DAOk X E (e :: es) fa) (hkw : DKOk X E kws fk) (hg : Gl X y := by rfl) (hall : (backToKw pos (keywordEach kws X.env)).all (·.1.isSome) = true := by rfl) (hks : (backToKw pos (keywordEach kws X.env)).filterMap (·.1) = ks := by rfl)
    (hdb : (y == ("__debug__" : Str)) = false := by decide) (he : starEach (e :: es) X.env = (false, eval e X.env) :: starEach es X.env := by rfl)
    (hpl : ((backTo pos (starEach (e :: es) X.env)).any (·.1) || (backToKw pos (keywordEach kws X.env)).any (·.1.isNone)) = false := by rfl) :
    DEOk X E (.Call (.Name y p) (e :: es) kws pos) (dCallK np nk perm F fa fk) := by
  obtain ⟨f, fd, a, b, c, d, q⟩ := h.ex
  exact de_callK q (hr.mono hj) hg b c (kw_binds a hb) passX ha hkw hall hks hdb he hpl
theorem de_callKD0 {ks : List Str} {nk : Nat} {perm : List Nat} {p pos : Pos} {kws : List Keyword} {fk : DA} (h : DDef X.prog X.w X.K X.mg X.base j y st ps F) (hr : Rm k X.A) (hj : j ≤ k) (hb : KwBinds y st ps ks 0 nk perm)
    (hkw : DKOk X E kws fk) (hg : Gl X y := by rfl) (hall : (backToKw pos (keywordEach kws X.env)).all (·.1.isSome) = true := by rfl) (hks : (backToKw pos (keywordEach kws X.env)).filterMap (·.1) = ks := by rfl)
    (hdb : (y == ("__debug__" : Str)) = false := by decide) (hpl : ((backTo pos (starEach [] X.env)).any (·.1) || (backToKw pos (keywordEach kws X.env)).any (·.1.isNone)) = false := by rfl) :
    DEOk X E (.Call (.Name y p) [] kws pos) (dCallK 0 nk perm F dNil fk) := by
  obtain ⟨f, fd, a, b, c, d, q⟩ := h.ex
  exact de_callK0 q (hr.mono hj) hg b c (kw_binds a hb) passX hkw hall hks hdb hpl
/-- constants of the module -/
theorem de_gint {i : Int} {t : Tok} {pos : Pos} (hm : X.mg y = some (.int i t)) (hg : Gl X y := by rfl) (hdb : (y == ("__debug__" : Str)) = false := by decide) : DEOk X E (.Name y pos) (dC (.int i)) :=
  de_glob (v := .int i) hg hm ⟨t, rfl⟩ (fun W _ _ => by simp [Den]) hdb
theorem de_gstr {i : Str} {t : Tok} {pos : Pos} (hm : X.mg y = some (.str i t)) (hg : Gl X y := by rfl) (hdb : (y == ("__debug__" : Str)) = false := by decide) : DEOk X E (.Name y pos) (dC (.str i)) :=
  de_glob (v := .str i) hg hm ⟨t, rfl⟩ (fun W _ _ => by simp [Den]) hdb
end
end DL
end
/-! ==== DDict ==== -/
section
set_option Elab.async false
set_option linter.all false
set_option autoImplicit false
set_option maxRecDepth 100000
set_option maxHeartbeats 4000000
/-! DL: dicts. -/
namespace DL
open PySem PySem.Spec PyProof.Rows L2

section
variable {κ : Type} [DecidableEq κ]
def valK (kvs : List (κ × D)) (k : κ) : Option D := (kvs.find? fun kv => decide (kv.1 = k)).map (·.2)
def setK (kvs : List (κ × D)) (k : κ) (d : D) : List (κ × D) :=
  if (kvs.any fun kv => decide (kv.1 = k)) = true then kvs.map (fun kv => if kv.1 = k then (kv.1, d) else kv) else kvs ++ [(k, d)]
def delK (kvs : List (κ × D)) (k : κ) : List (κ × D) := kvs.filter fun kv => decide (kv.1 ≠ k)
def PD (W : Wd) (p : κ × D) (q : κ × V) : Prop := p.1 = q.1 ∧ Den W p.2 q.2
theorem pd_val {W : Wd} {kvs : List (κ × D)} {ws : List (κ × V)} (r : Paired (PD W) kvs ws) (k : κ) : (valK kvs k = none ∧ valV ws k = none) ∨ ∃ d v, valK kvs k = some d ∧ valV ws k = some v ∧ Den W d v := by
  induction r with
  | nil => exact .inl ⟨rfl, rfl⟩
  | @cons p q ps qs h t ih =>
    obtain ⟨h1, h2⟩ := h
    by_cases e : p.1 = k
    · refine .inr ⟨p.2, q.2, by simp [valK, List.find?_cons, e], ?_, h2⟩
      exact valV_pos (h1.symm.trans e)
    · have e' : ¬ q.1 = k := fun z => e (h1.trans z)
      have a1 : valK (p :: ps) k = valK ps k := by simp [valK, List.find?_cons, e]
      rw [a1, valV_neg e']
      exact ih
theorem pd_any {W : Wd} {kvs : List (κ × D)} {ws : List (κ × V)} (r : Paired (PD W) kvs ws) (k : κ) : (kvs.any fun kv => decide (kv.1 = k)) = (ws.any fun kv => decide (kv.1 = k)) := by
  induction r with
  | nil => rfl
  | @cons p q ps qs h t ih => rw [List.any_cons, List.any_cons, ih, h.1]
theorem pd_app {W : Wd} {kvs : List (κ × D)} {ws : List (κ × V)} (r : Paired (PD W) kvs ws) {k : κ} {d : D} {v : V} (h : Den W d v) : Paired (PD W) (kvs ++ [(k, d)]) (ws ++ [(k, v)]) := by
  induction r with
  | nil => exact .cons ⟨rfl, h⟩ .nil
  | cons a _ ih => exact .cons a ih
theorem pd_map {W : Wd} {kvs : List (κ × D)} {ws : List (κ × V)} (r : Paired (PD W) kvs ws) {k : κ} {d : D} {v : V} (h : Den W d v) : Paired (PD W) (kvs.map fun kv => if kv.1 = k then (kv.1, d) else kv) (ws.map fun kv => if kv.1 = k then (kv.1, v) else kv) := by
  induction r with
  | nil => exact .nil
  | @cons p q ps qs a t ih =>
    rw [List.map_cons, List.map_cons]
    refine .cons ?_ ih
    by_cases e : p.1 = k
    · rw [if_pos e, if_pos (a.1.symm.trans e)]; exact ⟨a.1, h⟩
    · rw [if_neg e, if_neg fun z => e (a.1.trans z)]; exact a
theorem pd_put {W : Wd} {kvs : List (κ × D)} {ws : List (κ × V)} (r : Paired (PD W) kvs ws) {k : κ} {d : D} {v : V} (h : Den W d v) : Paired (PD W) (setK kvs k d) (putK ws k v) := by
  unfold setK putK
  rw [pd_any r k]
  split
  · exact pd_map r h
  · exact pd_app r h
theorem pd_del {W : Wd} {kvs : List (κ × D)} {ws : List (κ × V)} (r : Paired (PD W) kvs ws) (k : κ) : Paired (PD W) (delK kvs k) (dropK ws k) := by
  unfold delK dropK
  induction r with
  | nil => exact .nil
  | @cons p q ps qs a t ih =>
    rw [List.filter_cons, List.filter_cons, a.1]
    split
    · exact .cons a ih
    · exact ih
theorem pd_len {W : Wd} {kvs : List (κ × D)} {ws : List (κ × V)} (r : Paired (PD W) kvs ws) : ws.length = kvs.length := (Paired.length r).symm
end
theorem denK_pd {W : Wd} : ∀ {kvs : List (Key × D)} {ws : List (Key × V)}, DenK W kvs ws ↔ Paired (PD W) kvs ws
  | [], ws => by
    simp only [DenK]
    exact ⟨fun e => e ▸ .nil, fun r => by cases r; rfl⟩
  | (k, d) :: kvs, ws => by
    simp only [DenK]
    constructor
    · rintro ⟨v, r, rfl, h1, h2⟩
      exact .cons ⟨rfl, h1⟩ (denK_pd.mp h2)
    · intro r
      cases r with
      | @cons p q ps qs a t =>
        obtain ⟨k', v⟩ := q
        obtain ⟨e, h⟩ := a
        exact ⟨v, _, by rw [show k = k' from e], h, denK_pd.mpr t⟩
theorem denT_pd {W : Wd} : ∀ {kvs : List (List Key × D)} {ws : List (List Key × V)}, DenT W kvs ws ↔ Paired (PD W) kvs ws
  | [], ws => by
    simp only [DenT]
    exact ⟨fun e => e ▸ .nil, fun r => by cases r; rfl⟩
  | (k, d) :: kvs, ws => by
    simp only [DenT]
    constructor
    · rintro ⟨v, r, rfl, h1, h2⟩
      exact .cons ⟨rfl, h1⟩ (denT_pd.mp h2)
    · intro r
      cases r with
      | @cons p q ps qs a t =>
        obtain ⟨k', v⟩ := q
        obtain ⟨e, h⟩ := a
        exact ⟨v, _, by rw [show k = k' from e], h, denT_pd.mpr t⟩
/-! ### keys -/
def keyK : D → Option Key
  | .int i => some (.inl i)
  | .str x => some (.inr x)
  | _ => none
def keysL : List D → Option (List Key)
  | [] => some []
  | d :: ds => match keyK d, keysL ds with
    | some k, some ks => some (k :: ks)
    | _, _ => none
def keyT (d : D) : Option (List Key) := (tupOf d).bind keysL
theorem keyK_den {W : Wd} {d : D} {v : V} {k : Key} (r : Den W d v) (e : keyK d = some k) : v = kV k := by
  cases d with
  | int i => cases e; simp only [Den] at r; exact r
  | str i => cases e; simp only [Den] at r; exact r
  | _ => cases e
theorem keysL_den {W : Wd} : ∀ {ds : List D} {vs : List V} {ks : List Key}, DenL W ds vs → keysL ds = some ks → vs = ks.map kV
  | [], vs, ks, r, e => by simp only [DenL] at r; subst r; cases e; rfl
  | d :: ds, vs, ks, r, e => by
    simp only [DenL] at r
    obtain ⟨v, r', rfl, h1, h2⟩ := r
    unfold keysL at e
    split at e
    · rename_i k ks' e1 e2
      cases e
      rw [keyK_den h1 e1, keysL_den h2 e2]
      rfl
    · cases e
theorem keyT_den {W : Wd} {d : D} {v : V} {ks : List Key} (r : Den W d v) (e : keyT d = some ks) : ∃ b, v = .ref b ∧ SqT W.K W.H b (ks.map kV) := by
  obtain ⟨xs, e1, e2⟩ := Option.bind_eq_some_iff.mp e
  obtain ⟨b, vs, rfl, h1, h2⟩ := tupOf_den r e1
  rw [keysL_den h2 e2] at h1
  exact ⟨b, rfl, h1⟩
/-! ### a dict's content -/
def dKof (G : DH) : D → Option (List (Key × D))
  | .dK kvs => some kvs
  | .obj n => match G[n]? with
    | some (.dK kvs) => some kvs
    | some (.lkK kvs) => some kvs
    | _ => none
  | _ => none
def dTof (G : DH) : D → Option (List (List Key × D))
  | .dT kvs => some kvs
  | .obj n => match G[n]? with
    | some (.dT kvs) => some kvs
    | some (.lkT kvs) => some kvs
    | _ => none
  | _ => none
theorem dKof_den {W : Wd} {d : D} {v : V} {kvs : List (Key × D)} (S : Sim W) (r : Den W d v) (e : dKof W.G d = some kvs) : ∃ a ws, v = .ref a ∧ Rd W.H a (.dK ws) ∧ Paired (PD W) kvs ws := by
  cases d with
  | dK ks =>
    cases e
    simp only [Den] at r
    obtain ⟨a, ws, rfl, _, h1, h2⟩ := r
    exact ⟨a, ws, rfl, h1, denK_pd.mp h2⟩
  | obj n =>
    simp only [Den] at r
    obtain ⟨a, pn, rfl⟩ := r
    simp only [dKof] at e
    split at e
    · rename_i ks e1
      cases e
      obtain ⟨b, pb, ws, q1, q2⟩ := S.at_ n _ e1 rfl
      rw [pn] at pb; cases pb
      exact ⟨a, ws, rfl, .inl q1, denK_pd.mp q2⟩
    · rename_i ks e1
      cases e
      obtain ⟨b, pb, o, ws, q1, q2⟩ := S.at_ n _ e1 rfl
      rw [pn] at pb; cases pb
      exact ⟨a, ws, rfl, .inr ⟨o, q1⟩, denK_pd.mp q2⟩
    · cases e
  | _ => cases e
theorem dTof_den {W : Wd} {d : D} {v : V} {kvs : List (List Key × D)} (S : Sim W) (r : Den W d v) (e : dTof W.G d = some kvs) : ∃ a ws, v = .ref a ∧ Rd W.H a (.dT ws) ∧ Paired (PD W) kvs ws := by
  cases d with
  | dT ks =>
    cases e
    simp only [Den] at r
    obtain ⟨a, ws, rfl, _, h1, h2⟩ := r
    exact ⟨a, ws, rfl, h1, denT_pd.mp h2⟩
  | obj n =>
    simp only [Den] at r
    obtain ⟨a, pn, rfl⟩ := r
    simp only [dTof] at e
    split at e
    · rename_i ks e1
      cases e
      obtain ⟨b, pb, ws, q1, q2⟩ := S.at_ n _ e1 rfl
      rw [pn] at pb; cases pb
      exact ⟨a, ws, rfl, .inl q1, denT_pd.mp q2⟩
    · rename_i ks e1
      cases e
      obtain ⟨b, pb, o, ws, q1, q2⟩ := S.at_ n _ e1 rfl
      rw [pn] at pb; cases pb
      exact ⟨a, ws, rfl, .inr ⟨o, q1⟩, denT_pd.mp q2⟩
    · cases e
  | _ => cases e
/-- what stands in a dict at a key: none, the look is not covered -/
def lookD (G : DH) (d y : D) : Option (Option D) := match dKof G d, keyK y with
  | some kvs, some k => some (valK kvs k)
  | _, _ => match dTof G d, keyT y with
    | some kvs, some ks => some (valK kvs ks)
    | _, _ => none
/-! ### d[y], y in d -/
section
variable {X : Cx} {E : XK}
/-- d[y], d.get(y), y in d: the dict at a holds r at y; the key may be one of the module's tuples -/
def DGetX (K : PySem.W.Frag) (H : Hp) (a : Addr) (y : V) (r : Option V) : Prop :=
  (∃ kvs k, Rd H a (.dK kvs) ∧ y = kV k ∧ r = valV kvs k) ∨ ∃ kvs k b, Rd H a (.dT kvs) ∧ y = .ref b ∧ SqT K H b (k.map kV) ∧ r = valV kvs k
theorem key_at {pins : List (Addr × Obj)} {σ : L2.St} {H : Hp} {s : Shared} {b : Addr} {k : List Key} (I : Inv X pins σ H s) (h : SqT X.K H b (k.map kV)) : (tupleKind (mixKind X.prog X.w)).is s.heap k b := by
  obtain ⟨its, r, ⟨o, h1, h2, n, h3⟩, _⟩ := I.tuple h
  exact ⟨o, its.toArray, n, h1, h2, h3, by simpa using items_are r⟩
theorem look_den {W : Wd} {d y : D} {v w : V} {o : Option D} (S : Sim W) (dd : Den W d v) (dy : Den W y w) (e : lookD W.G d y = some o) :
    ∃ a r, v = .ref a ∧ DGetX W.K W.H a w r ∧ ((o = none ∧ r = none) ∨ ∃ d' v', o = some d' ∧ r = some v' ∧ Den W d' v') := by
  unfold lookD at e
  split at e
  · rename_i kvs k e1 e2
    cases e
    obtain ⟨a, ws, rfl, h1, h2⟩ := dKof_den S dd e1
    refine ⟨a, _, rfl, .inl ⟨ws, k, h1, keyK_den dy e2, rfl⟩, ?_⟩
    rcases pd_val h2 k with ⟨q1, q2⟩ | ⟨d', v', q1, q2, q3⟩
    · exact .inl ⟨q1, q2⟩
    · exact .inr ⟨d', v', q1, q2, q3⟩
  · split at e
    · rename_i kvs ks e1 e2
      cases e
      obtain ⟨a, ws, rfl, h1, h2⟩ := dTof_den S dd e1
      obtain ⟨b, rfl, hb⟩ := keyT_den dy e2
      refine ⟨a, _, rfl, .inr ⟨ws, ks, b, h1, rfl, hb, rfl⟩, ?_⟩
      rcases pd_val h2 ks with ⟨q1, q2⟩ | ⟨d', v', q1, q2, q3⟩
      · exact .inl ⟨q1, q2⟩
      · exact .inr ⟨d', v', q1, q2, q3⟩
    · cases e
theorem dx_type {pins : List (Addr × Obj)} {σ : L2.St} {H : Hp} {s : Shared} {a : Addr} {y : V} {r : Option V} (I : Inv X pins σ H s) (g : DGetX X.K H a y r) : s.TypeIs (.ref a) "dict" := by
  rcases g with ⟨kvs, k, e, _, _⟩ | ⟨kvs, k, b, e, _, _, _⟩
  · obtain ⟨_, _, vs, _, dd⟩ := dk_rd I.hok e
    exact dd.typeIs
  · obtain ⟨_, _, xs, _, dd⟩ := dt_rd I.hok e
    exact dd.typeIs
theorem dx_getItem {pins : List (Addr × Obj)} {σ : L2.St} {H : Hp} {s : Shared} {a : Addr} {y v : V} {u : Value} {A : Around} {Q : Value → Shared → Prop} {Ex : Value → Shared → Prop} (hu : A.units + 1 < cLine) (I : Inv X pins σ H s) (g : DGetX X.K H a y (some v)) (ry : RelV y u)
    (h : ∀ w' s', Inv X pins σ H s' → RelV v w' → Q w' s') : wpAny (model X.prog X.w) A (getItem (.ref a) u) Q Ex s := by
  rcases g with ⟨kvs, k, e, rfl, l⟩ | ⟨kvs, k, b, e, rfl, eb, l⟩
  · obtain ⟨_, _, vs, rel, dd⟩ := dk_rd I.hok e
    obtain ⟨w', hw, rw'⟩ := RelO.some_of (v := v) (o := valueAt vs k) (by rw [l]; exact rel.val k)
    exact wpAny_getItem_of (kV_is ry) dd.mapOf hw (h w' _ (I.tok _) rw')
  · obtain rfl : u = Value.ref b := ry
    obtain ⟨_, _, xs, rel, dd⟩ := dt_rd I.hok e
    obtain ⟨w', hw, rw'⟩ := RelO.some_of (v := v) (o := (atKey xs k).map (·.2)) (by rw [l]; exact rel.val k)
    obtain ⟨p, hp, hp2⟩ := Option.map_eq_some_iff.mp hw
    exact wpAny_getItem_heap (tupleKind_room_in1 hu) (key_at I eb) dd hp (by rw [hp2]; exact h w' _ (I.tok _) rw')
theorem dx_in {neg : Bool} {pins : List (Addr × Obj)} {σ : L2.St} {H : Hp} {s : Shared} {a : Addr} {y : V} {o : Option V} {u : Value} {A : Around} {Q : Value → Shared → Prop} {Ex : Value → Shared → Prop} (hu : A.units + 1 < cLine) (I : Inv X pins σ H s) (g : DGetX X.K H a y o) (ry : RelV y u)
    (h : ∀ s', Inv X pins σ H s' → Q (.bool (if neg then !o.isSome else o.isSome)) s') : wpAny (model X.prog X.w) A (compareOp (if neg then .NotIn else .In) u (.ref a)) Q Ex s := by
  rcases g with ⟨kvs, k, e, rfl, l⟩ | ⟨kvs, k, b, e, rfl, eb, l⟩
  · obtain ⟨_, hd, vs, rel, dd⟩ := dk_rd I.hok e
    have q := (rel.val k).isSome_eq
    cases neg with
    | false => exact wpAny_in_of (kV_is ry) hd dd.mapOf (by rw [← q, ← l]; exact h _ (I.tok _))
    | true => exact wpAny_notIn_of (kV_is ry) hd dd.mapOf (by rw [← q, ← l]; exact h _ (I.tok _))
  · obtain rfl : u = Value.ref b := ry
    obtain ⟨_, hd, xs, rel, dd⟩ := dt_rd I.hok e
    have q := (rel.val k).isSome_eq
    rw [Option.isSome_map] at q
    cases neg with
    | false => exact wpAny_in_heap (tupleKind_room_in1 hu) (key_at I eb) hd dd (by rw [← q, ← l]; exact h _ (I.tok _))
    | true => exact wpAny_notIn_heap (tupleKind_room_in1 hu) (key_at I eb) hd dd (by rw [← q, ← l]; exact h _ (I.tok _))
def rGetX (K : PySem.W.Frag) : R2 := fun x y H Q => ∃ a v, x = .ref a ∧ DGetX K H a y (some v) ∧ Q v H
theorem ix_dictX (hu : X.A.units + 1 < cLine) : IxR X (rGetX X.K) := by
  intro value slice pins s σ H x y v u Q I rx ry h hs
  obtain ⟨a, w, rfl, g, q⟩ := h
  obtain rfl : v = Value.ref a := rx
  exact tail_any (dx_type I g) PySem.F.slot_dict_getitem.lookup (dx_getItem hu I g ry fun w' s3 I3 rw' => ⟨w, H, I3, rw', q⟩) hs
/-- x[y]: of a dict, or of a list, a tuple, a text -/
def ixU (x y : D) (G : DH) : R D := match lookD G x y with
  | some (some d) => .ok d G
  | some none => .stop
  | none => ixD x y G
theorem de_get {k : Nat} {a b : Expr} {fa fb : DE} {pos : Pos} (hr : Rm k X.A) (ha : DEOk X E a fa) (hb : DEOk X E b fb) (hs : PlainIx b := by intro _ _; rfl) : DEOk X E (.Subscript a b pos) (dBin ixU fa fb) := by
  obtain ⟨r, hr1, qr⟩ := ix_D (X := X) (E := E)
  obtain ⟨ta, pa, qa⟩ := ha.out
  obtain ⟨tb, pb, qb⟩ := hb.out
  refine ⟨_, pe_ix ((ix_dictX hr.u1).or hr1) pa pb hs, bin_out qa qb fun W x y v w Q hK S dx dy h => ?_⟩
  unfold ixU at h
  split at h
  · rename_i d e
    obtain ⟨a, r, rfl, g, q⟩ := look_den S dx dy e
    rcases q with ⟨q, _⟩ | ⟨d', v', q1, q2, q3⟩
    · cases q
    · cases q1
      subst q2
      exact .inl ⟨a, v', rfl, by rw [← hK]; exact g, h.here S q3⟩
  · exact h.elim
  · exact .inr (qr W x y v w Q hK S dx dy h)
/-- y in d: of a dict, or of a list, a tuple, a text -/
def inU (neg : Bool) (x y : D) (G : DH) : R D := match lookD G y x with
  | some o => .ok (.bl (if neg then !o.isSome else o.isSome)) G
  | none => inOp neg x y G
theorem OpOk.run {f : Value → Value → Sem Value} {F : D → D → DH → R D} (h : OpOk X E f F) {pins : List (Addr × Obj)} {s : Shared} {σ : L2.St} {W : Wd} {x y : D} {v w : V} {u1 u2 : Value} {Q : VK} (I : Inv X pins σ W.H s) (S : Sim W) (hK : W.K = X.K) (dx : Den W x v) (dy : Den W y w) (r1 : RelV v u1) (r2 : RelV w u2) (hf : Fin Den W E (F x y W.G) Q) :
    wpAny (model X.prog X.w) X.A (f u1 u2) (EP X pins σ Q) X.xe s := by
  obtain ⟨r, hr, q⟩ := h.out
  exact hr pins s σ W.H v w u1 u2 Q I r1 r2 (q W x y v w Q hK S dx dy hf)
theorem in_dict {neg : Bool} {k : Nat} (hr : Rm k X.A) {pins : List (Addr × Obj)} {s : Shared} {σ : L2.St} {W : Wd} {x y : D} {v w : V} {u1 u2 : Value} {Q : VK} {o : Option D} (I : Inv X pins σ W.H s) (S : Sim W) (hK : W.K = X.K) (dx : Den W x v) (dy : Den W y w) (r1 : RelV v u1) (r2 : RelV w u2) (e : lookD W.G y x = some o)
    (h : Fin Den W E (.ok (.bl (if neg then !o.isSome else o.isSome)) W.G) Q) : wpAny (model X.prog X.w) X.A (compareOp (if neg then .NotIn else .In) u1 u2) (EP X pins σ Q) X.xe s := by
  obtain ⟨a, r, rfl, g, q⟩ := look_den S dy dx e
  obtain rfl : u2 = Value.ref a := r2
  have eo : r.isSome = o.isSome := by
    rcases q with ⟨q1, q2⟩ | ⟨d', v', q1, q2, _⟩ <;> rw [q1, q2] <;> rfl
  refine dx_in hr.u1 I (by rw [← hK]; exact g) r1 fun s' I' => ?_
  rw [eo]
  exact fin_ep (v := .bl _) I' S h (by simp [Den]) rfl
theorem op_inU {k : Nat} (hr : Rm k X.A) : OpOk X E (compareOp .In) (inU false) := by
  refine OpOk.of fun pins s σ W x y v w u1 u2 Q I S hK dx dy r1 r2 h => ?_
  unfold inU at h
  split at h
  · rename_i o e
    exact in_dict (neg := false) hr I S hK dx dy r1 r2 e h
  · exact (op_inO hr).run I S hK dx dy r1 r2 h
theorem op_notInU {k : Nat} (hr : Rm k X.A) : OpOk X E (compareOp .NotIn) (inU true) := by
  refine OpOk.of fun pins s σ W x y v w u1 u2 Q I S hK dx dy r1 r2 h => ?_
  unfold inU at h
  split at h
  · rename_i o e
    exact in_dict (neg := true) hr I S hK dx dy r1 r2 e h
  · exact (op_notInO hr).run I S hK dx dy r1 r2 h
/-! ### d.get -/
theorem dx_get1 {pins : List (Addr × Obj)} {σ : L2.St} {H : Hp} {s : Shared} {a : Addr} {y : V} {r : Option V} {u : Value} {A : Around} {Q : Value → Shared → Prop} {Ex : Value → Shared → Prop} (hu : A.units + 1 < cLine) (I : Inv X pins σ H s) (g : DGetX X.K H a y r) (ry : RelV y u)
    (h : ∀ t' s', Inv X pins σ H s' → RelV (r.getD .non) t' → Q t' s') : wpAny (model X.prog X.w) A (call (.builtin "dict.get") [.ref a, u]) Q Ex s := by
  rcases g with ⟨ws, k, e, rfl, l⟩ | ⟨ws, k, b, e, rfl, eb, l⟩
  · obtain ⟨_, lo, vs, rel, dd⟩ := dk_rd I.hok e
    have fin := (rel.val k).getD (show RelV V.non Value.none from rfl)
    rw [← l] at fin
    exact call_meetsIn PySem.F.slot_dict_get dd.typeIs PySem.F.entry_dict_get (PySem.F.args_dict_get_2 _ _) (meets_dict_get (mixKind X.prog X.w) a (kV_is ry) lo) ⟨_, dd.mapOf, h _ _ (I.tok _) fin⟩
  · obtain rfl : u = Value.ref b := ry
    obtain ⟨_, lo, xs, rel, dd⟩ := dt_rd I.hok e
    have fin := (rel.val k).getD (show RelV V.non Value.none from rfl)
    rw [← l] at fin
    exact call_meetsIn PySem.F.slot_dict_get dd.typeIs PySem.F.entry_dict_get (PySem.F.args_dict_get_2 _ _) (meetsH_dict_get (tupleKind (mixKind X.prog X.w)) a b lo) ⟨tupleKind_room_in1 hu, k, xs, key_at I eb, dd, h _ _ (I.tok _) fin⟩
theorem dx_get2 {pins : List (Addr × Obj)} {σ : L2.St} {H : Hp} {s : Shared} {a : Addr} {y z : V} {r : Option V} {u q : Value} {A : Around} {Q : Value → Shared → Prop} {Ex : Value → Shared → Prop} (hu : A.units + 1 < cLine) (I : Inv X pins σ H s) (g : DGetX X.K H a y r) (ry : RelV y u) (rz : RelV z q)
    (h : ∀ t' s', Inv X pins σ H s' → RelV (r.getD z) t' → Q t' s') : wpAny (model X.prog X.w) A (call (.builtin "dict.get") [.ref a, u, q]) Q Ex s := by
  rcases g with ⟨ws, k, e, rfl, l⟩ | ⟨ws, k, b, e, rfl, eb, l⟩
  · obtain ⟨_, lo, vs, rel, dd⟩ := dk_rd I.hok e
    have fin := (rel.val k).getD rz
    rw [← l] at fin
    exact call_meetsIn PySem.F.slot_dict_get dd.typeIs PySem.F.entry_dict_get (PySem.F.args_dict_get_3 _ _ _) (meets_dict_get_default (mixKind X.prog X.w) a (kV_is ry) lo q) ⟨_, dd.mapOf, h _ _ (I.tok _) fin⟩
  · obtain rfl : u = Value.ref b := ry
    obtain ⟨_, lo, xs, rel, dd⟩ := dt_rd I.hok e
    have fin := (rel.val k).getD rz
    rw [← l] at fin
    exact call_meetsIn PySem.F.slot_dict_get dd.typeIs PySem.F.entry_dict_get (PySem.F.args_dict_get_3 _ _ _) (meetsH_dict_get_default (tupleKind (mixKind X.prog X.w)) a b lo q) ⟨tupleKind_room_in1 hu, k, xs, key_at I eb, dd, h _ _ (I.tok _) fin⟩
end
end DL
end
/-! ==== DDict2 ==== -/
section
set_option Elab.async false
set_option linter.all false
set_option autoImplicit false
set_option maxRecDepth 100000
set_option maxHeartbeats 4000000
/-! DL: dicts, further: methods, stores, displays, dict(..), list(d). -/
namespace DL
open PySem PySem.Spec PyProof.Rows L2
section
variable {X : Cx} {E : XK}
/-! ### methods -/
theorem MtOk.of {id : String} {F : D → List D → DH → R D}
    (h : ∀ (pins : List (Addr × Obj)) (s : Shared) (σ : L2.St) (W : Wd) (d : D) (v : V) (u : Value) (ds : List D) (vs : List V) (us : List Value) (Q : VK), Inv X pins σ W.H s → Sim W → W.K = X.K → Den W d v → RelV v u → DenL W ds vs → Vals vs us → Fin Den W E (F d ds W.G) Q →
      wpAny (model X.prog X.w) X.A (call (.builtin id) (u :: us)) (EP X pins σ Q) X.xe s) : MtOk X E id F := by
  refine ⟨fun v vs H Q => ∃ (W : Wd) (d : D) (ds : List D), W.H = H ∧ Sim W ∧ W.K = X.K ∧ Den W d v ∧ DenL W ds vs ∧ Fin Den W E (F d ds W.G) Q, ?_, fun W d v ds vs Q hK S r rs hf => ⟨W, d, ds, rfl, S, hK, r, rs, hf⟩⟩
  rintro pins s σ H v vs u us Q I r1 r2 ⟨W, d, ds, rfl, S, hK, r, rs, hf⟩
  exact h pins s σ W d v u ds vs us Q I S hK r r1 rs r2 hf
/-- the receiver is a dict -/
def rcvD (G : DH) (d : D) : Bool := (dKof G d).isSome || (dTof G d).isSome
theorem rcvD_at {W : Wd} {d : D} {v : V} (S : Sim W) (r : Den W d v) (h : rcvD W.G d = true) : ∃ a, v = .ref a ∧ IsD W.H a := by
  unfold rcvD at h
  rw [Bool.or_eq_true] at h
  rcases h with h | h
  · obtain ⟨kvs, e⟩ := Option.isSome_iff_exists.mp h
    obtain ⟨a, ws, rfl, h1, _⟩ := dKof_den S r e
    exact ⟨a, rfl, .inl ⟨ws, h1⟩⟩
  · obtain ⟨kvs, e⟩ := Option.isSome_iff_exists.mp h
    obtain ⟨a, ws, rfl, h1, _⟩ := dTof_den S r e
    exact ⟨a, rfl, .inr ⟨ws, h1⟩⟩
def tBMD (r : V → List V → Hp → VK → Prop) (to : TE) (t : TA) : TE := fun σ H Q => to σ H fun x H1 => (∃ a, x = .ref a ∧ IsD H1 a) ∧ t σ H1 fun xs H2 => r x xs H2 Q
theorem pe_bmD {id : String} {r : V → List V → Hp → VK → Prop} {o e : Expr} {es : List Expr} {to : TE} {t : TA} {name : Str} {apos cpos : Pos} (slot : Slot "dict" name id) (hty : typeOf (.builtin id) = pure (.type "method_descriptor")) (hm : MtR X id r) (ho : PE X o to) (ha : PA X (e :: es) t)
    (hbase : attributeBase o name X.env (eval o X.env) = eval o X.env)
    (hfew : ((backTo cpos (starEach (e :: es) X.env)).all (fun x => !x.1) && (backToKw cpos (keywordEach [] X.env)).all (fun x => x.1.isSome) && decide ((e :: es).length + ([] : List Keyword).length + (if ([] : List Keyword).isEmpty then 0 else 1) < 30)) = true)
    (hline : (apos.endLine == cpos.line) = true) (hs : starEach (e :: es) X.env = (false, eval e X.env) :: starEach es X.env) (hplain : (backTo cpos (starEach es X.env)).any (·.1) = false) :
    PE X (.Call (.Attribute o name apos) (e :: es) [] cpos) (tBMD r to t) := by
  refine ⟨fun pins s σ H Q I h => ?_⟩
  refine wpAny_Call_method_late hbase hfew hline rfl (thn (ho.run pins s σ H _ I h) fun v s1 ⟨x, H1, I1, r1, ⟨a, ea, ty⟩, q1⟩ => ?_)
  subst ea
  obtain rfl : v = Value.ref a := r1
  obtain ⟨h1, h2, _⟩ := isD_at I1 ty
  refine ⟨"dict", id, PySem.F.plainAttrs_dict, slot, hty, h1, h2, ?_⟩
  have hA := ha.run cpos pins s1 σ H1 _ I1 q1
  rw [hs] at hA ⊢
  refine Calls.callWith_builtin (by show (false || (backTo cpos (starEach es X.env)).any (·.1)) = false; rw [hplain] <;> rfl) (Calls.evalArgs_plain ?_)
  exact thn hA fun us s2 ⟨vs, H2, I2, r2, q2⟩ => hm pins s2 σ H2 (.ref a) vs (.ref a) us Q I2 rfl r2 q2
def dMtD (F : D → List D → DH → R D) (o : DE) (a : DA) : DE := fun s G => (o s G).bind fun d G => if rcvD G d = true then (a s G).bind fun ds G => F d ds G else .stop
theorem de_mtD {id : String} {F : D → List D → DH → R D} {o e : Expr} {es : List Expr} {fo : DE} {fa : DA} {name : Str} {apos cpos : Pos} (slot : Slot "dict" name id) (hty : typeOf (.builtin id) = pure (.type "method_descriptor")) (hm : MtOk X E id F) (ho : DEOk X E o fo) (ha : DAOk X E (e :: es) fa)
    (hbase : attributeBase o name X.env (eval o X.env) = eval o X.env := by rfl)
    (hfew : ((backTo cpos (starEach (e :: es) X.env)).all (fun x => !x.1) && (backToKw cpos (keywordEach [] X.env)).all (fun x => x.1.isSome) && decide ((e :: es).length + ([] : List Keyword).length + (if ([] : List Keyword).isEmpty then 0 else 1) < 30)) = true := by rfl)
    (hline : (apos.endLine == cpos.line) = true := by rfl) (hs : starEach (e :: es) X.env = (false, eval e X.env) :: starEach es X.env := by rfl) (hplain : (backTo cpos (starEach es X.env)).any (·.1) = false := by rfl) :
    DEOk X E (.Call (.Attribute o name apos) (e :: es) [] cpos) (dMtD F fo fa) := by
  obtain ⟨r, hr, qr⟩ := hm.out
  obtain ⟨to, po, qo⟩ := ho.out
  obtain ⟨t, pt, q⟩ := ha.out
  refine ⟨_, pe_bmD slot hty hr po pt hbase hfew hline hs hplain, fun W σ s Q hK S L h => ?_⟩
  refine qo W σ s _ hK S L (h.seq fun d v W1 x1 S1 d1 h1 => ?_)
  split at h1
  · rename_i c
    refine ⟨rcvD_at S1 d1 c, q W1 σ s _ (x1.k.trans hK) S1 (L.mono x1) (Fin.seq (RC := Den) h1 fun ds vs W2 x2 S2 d2 h2 => ?_)⟩
    exact qr W2 d v ds vs Q (x2.k.trans (x1.k.trans hK)) S2 (Den.mono x2 _ _ d1) d2 h2
  · exact h1.elim
/-! ### get -/
def getO (d : D) (ds : List D) (G : DH) : R D := match ds with
  | [y] => (match lookD G d y with
    | some o => .ok (o.getD .non) G
    | none => .stop)
  | [y, z] => (match lookD G d y with
    | some o => .ok (o.getD z) G
    | none => .stop)
  | _ => .stop
theorem look_getD {W : Wd} {o : Option D} {r : Option V} {z : D} {zv : V} (h : (o = none ∧ r = none) ∨ ∃ d' v', o = some d' ∧ r = some v' ∧ Den W d' v') (dz : Den W z zv) : Den W (o.getD z) (r.getD zv) := by
  rcases h with ⟨rfl, rfl⟩ | ⟨d', v', rfl, rfl, q⟩
  · exact dz
  · exact q
theorem mt_getO {k : Nat} (hr : Rm k X.A) : MtOk X E "dict.get" getO := by
  refine MtOk.of fun pins s σ W d v u ds vs us Q I S hK r ru rs rus h => ?_
  unfold getO at h
  split at h
  · rename_i y
    obtain ⟨w, rfl, d1⟩ := rs.uno
    obtain ⟨u1, rfl, r1⟩ := rus.one
    split at h
    · rename_i o e
      obtain ⟨a, g, rfl, gx, q⟩ := look_den S r d1 e
      obtain rfl : u = Value.ref a := ru
      refine dx_get1 hr.u1 I (by rw [← hK]; exact gx) r1 fun t' s' I' rt => ⟨_, W.H, I', rt, h.here S (look_getD q (by simp [Den]))⟩
    · exact h.elim
  · rename_i y z
    obtain ⟨w, w2, rfl, d1, d2⟩ := rs.two
    obtain ⟨u1, u2, rfl, r1, r2⟩ := rus.two
    split at h
    · rename_i o e
      obtain ⟨a, g, rfl, gx, q⟩ := look_den S r d1 e
      obtain rfl : u = Value.ref a := ru
      refine dx_get2 hr.u1 I (by rw [← hK]; exact gx) r1 r2 fun t' s' I' rt => ⟨_, W.H, I', rt, h.here S (look_getD q d2)⟩
    · exact h.elim
  · exact h.elim
/-! ### pop -/
theorem kt_without {H : Hp} (k : List Key) : ∀ {kvs : List (List Key × V)} {xs : List (List Key × Addr × Value)}, KT H kvs xs → KT H (dropK kvs k) (withoutH xs k) := by
  intro kvs xs r
  unfold dropK withoutH
  induction r with
  | nil => exact .nil
  | @cons p q ps qs a t ih =>
    rw [List.filter_cons, List.filter_cons, a.1]
    split
    · exact .cons a ih
    · exact ih
theorem rel_someT {kvs : List (List Key × V)} {xs : List (List Key × Addr × Value)} {k : List Key} {v : V} (r : RelO (valV kvs k) ((atKey xs k).map (·.2))) (e : valV kvs k = some v) : ∃ p, atKey xs k = some p ∧ RelV v p.2 := by
  rw [e] at r
  obtain ⟨w', hw, rw'⟩ := RelO.some_of r
  obtain ⟨p, hp, hp2⟩ := Option.map_eq_some_iff.mp hw
  exact ⟨p, hp, by rw [hp2]; exact rw'⟩
/-- d.pop(y) -/
theorem dt_pop {pins : List (Addr × Obj)} {σ : L2.St} {H : Hp} {s : Shared} {a b : Addr} {kvs : List (List Key × V)} {k : List Key} {v : V} {more : List Value} {A : Around} {Q : Value → Shared → Prop} {Ex : Value → Shared → Prop} (hu : A.units + 1 < cLine) (I : Inv X pins σ H s) (e : H a = some (.dT kvs)) (eb : SqT X.K H b (k.map kV))
    (l : valV kvs k = some v) (hm : more = [] ∨ ∃ x, more = [x]) (h : ∀ w' s', Inv X pins σ (upd H a (.dT (dropK kvs k))) s' → RelV v w' → Q w' s') : wpAny (model X.prog X.w) A (call (.builtin "dict.pop") (.ref a :: .ref b :: more)) Q Ex s := by
  obtain ⟨z, hd, xs, rel, dd⟩ := dt_of I.hok e
  have hz : xs.length ≤ sizeLine := by rw [← Paired.length rel]; exact z
  obtain ⟨p, hp, rp⟩ := rel_someT (rel.val k) l
  have ha : argsOk "dict.pop" ⟨.ref a :: .ref b :: more, []⟩ := by
    rcases hm with q | ⟨x, q⟩
    · subst q; exact PySem.F.args_dict_pop_2 _ _
    · subst q; exact PySem.F.args_dict_pop_3 _ _ _
  refine call_pop_heap (hsz := hz) hm ha (tupleKind_room_in1 hu) (key_at I eb) hd dd hp fun h' dd' hs => h _ _ ?_ rp
  obtain ⟨q, es, ep, hq, h2, h3, h4, _, h5⟩ := dd'
  refine d_write I (by rw [e]; exact True.intro) hs ⟨q, hq⟩ ⟨Nat.le_trans (dropK_le kvs k) z, hd, _, (kt_without k rel).keeps fun c ys ec => ?_, q, es, ep, hq, h2, h3, h4, h5⟩
  rw [upd_ne (ne_of ec e (fun z => nomatch z))]
  exact ec
theorem dt_popD {pins : List (Addr × Obj)} {σ : L2.St} {H : Hp} {s : Shared} {a b : Addr} {kvs : List (List Key × V)} {k : List Key} {r : Value} {A : Around} {Q : Value → Shared → Prop} {Ex : Value → Shared → Prop} (hu : A.units + 1 < cLine) (I : Inv X pins σ H s) (e : H a = some (.dT kvs)) (eb : SqT X.K H b (k.map kV))
    (l : valV kvs k = none) (h : ∀ s', Inv X pins σ H s' → Q r s') : wpAny (model X.prog X.w) A (call (.builtin "dict.pop") [.ref a, .ref b, r]) Q Ex s := by
  obtain ⟨z, hd, xs, rel, dd⟩ := dt_of I.hok e
  have hz : xs.length ≤ sizeLine := by rw [← Paired.length rel]; exact z
  have hn : atKey xs k = none := Option.map_eq_none_iff.mp (RelO.none_of (by rw [← l]; exact rel.val k))
  exact call_pop_default_heap (hsz := hz) (tupleKind_room_in1 hu) (key_at I eb) hd dd hn fun tk => h _ (I.tok _)
def popO (d : D) (ds : List D) (G : DH) : R D := match d with
  | .obj n => (match G[n]? with
    | some (.dK kvs) => (match ds with
      | y :: more => (match keyK y with
        | some k => (match valK kvs k, more with
          | some v, [] => .ok v (G.set n (.dK (delK kvs k)))
          | some v, [_] => .ok v (G.set n (.dK (delK kvs k)))
          | none, [z] => .ok z G
          | _, _ => .stop)
        | none => .stop)
      | [] => .stop)
    | some (.dT kvs) => (match ds with
      | y :: more => (match keyT y with
        | some k => (match valK kvs k, more with
          | some v, [] => .ok v (G.set n (.dT (delK kvs k)))
          | some v, [_] => .ok v (G.set n (.dT (delK kvs k)))
          | none, [z] => .ok z G
          | _, _ => .stop)
        | none => .stop)
      | [] => .stop)
    | _ => .stop)
  | _ => .stop
theorem obj_K {W : Wd} {n : Nat} {v : V} {kvs : List (Key × D)} (S : Sim W) (r : Den W (.obj n) v) (e : W.G[n]? = some (.dK kvs)) : ∃ a ws, v = .ref a ∧ W.p[n]? = some a ∧ W.H a = some (.dK ws) ∧ Paired (PD W) kvs ws := by
  simp only [Den] at r
  obtain ⟨a, pn, rfl⟩ := r
  obtain ⟨b, pb, ws, q1, q2⟩ := S.at_ n _ e rfl
  rw [pn] at pb; cases pb
  exact ⟨a, ws, rfl, pn, q1, denK_pd.mp q2⟩
theorem obj_T {W : Wd} {n : Nat} {v : V} {kvs : List (List Key × D)} (S : Sim W) (r : Den W (.obj n) v) (e : W.G[n]? = some (.dT kvs)) : ∃ a ws, v = .ref a ∧ W.p[n]? = some a ∧ W.H a = some (.dT ws) ∧ Paired (PD W) kvs ws := by
  simp only [Den] at r
  obtain ⟨a, pn, rfl⟩ := r
  obtain ⟨b, pb, ws, q1, q2⟩ := S.at_ n _ e rfl
  rw [pn] at pb; cases pb
  exact ⟨a, ws, rfl, pn, q1, denT_pd.mp q2⟩
/-- a changed dict -/
theorem put_K {W : Wd} {n : Nat} {a : Addr} {kvs kvs' : List (Key × D)} {ws' : List (Key × V)} (S : Sim W) (e : W.G[n]? = some (.dK kvs)) (pn : W.p[n]? = some a) (r : Paired (PD W) kvs' ws') :
    Ext W (W.put n a (.dK ws') (.dK kvs')) ∧ Sim (W.put n a (.dK ws') (.dK kvs')) :=
  S.put e rfl pn fun W' y' e' => ⟨_, by rw [e']; exact upd_same, DenK.mono y' _ _ (denK_pd.mpr r)⟩
theorem put_T {W : Wd} {n : Nat} {a : Addr} {kvs kvs' : List (List Key × D)} {ws' : List (List Key × V)} (S : Sim W) (e : W.G[n]? = some (.dT kvs)) (pn : W.p[n]? = some a) (r : Paired (PD W) kvs' ws') :
    Ext W (W.put n a (.dT ws') (.dT kvs')) ∧ Sim (W.put n a (.dT ws') (.dT kvs')) :=
  S.put e rfl pn fun W' y' e' => ⟨_, by rw [e']; exact upd_same, DenT.mono y' _ _ (denT_pd.mpr r)⟩
theorem mt_popO {k : Nat} (hr : Rm k X.A) : MtOk X E "dict.pop" popO := by
  refine MtOk.of fun pins s σ W d v u ds vs us Q I S hK r ru rs rus h => ?_
  unfold popO at h
  split at h
  · rename_i n
    split at h
    · rename_i kvs e
      obtain ⟨a, ws, rfl, pn, e1, pr⟩ := obj_K S r e
      obtain rfl : u = Value.ref a := ru
      split at h
      · rename_i y more
        simp only [DenL] at rs
        obtain ⟨w, vs', rfl, d1, dm⟩ := rs
        cases rus with
        | @cons _ u1 _ us' r1 rus' =>
        split at h
        · rename_i k ek
          obtain rfl := keyK_den d1 ek
          have pv := pd_val pr k
          have there : ∀ {d' : D} {more' : List Value}, valK kvs k = some d' → (more' = [] ∨ ∃ x, more' = [x]) → Fin Den W E (.ok d' (W.G.set n (.dK (delK kvs k)))) Q → wpAny (model X.prog X.w) X.A (call (.builtin "dict.pop") (.ref a :: u1 :: more')) (EP X pins σ Q) X.xe s := fun {d' more'} ev hm hf => by
            rcases pv with ⟨q1, _⟩ | ⟨d2, v2, q1, q2, q3⟩
            · rw [ev] at q1; cases q1
            · rw [ev] at q1; cases q1
              obtain ⟨x2, S2⟩ := put_K (a := a) S e pn (pd_del pr k)
              exact d_pop I e1 r1 q2 hm fun w' s' I' rw' => ⟨v2, _, I', rw', hf v2 _ x2 S2 rfl (Den.mono x2 _ _ q3)⟩
          split at h
          · rename_i d' ev
            simp only [DenL] at dm
            subst dm
            cases rus'
            exact there ev (.inl rfl) h
          · rename_i d' z ev
            obtain ⟨w2, rfl, d2⟩ := DenL.uno dm
            obtain ⟨u2, rfl, r2⟩ := Vals.one rus'
            exact there ev (.inr ⟨_, rfl⟩) h
          · rename_i z ev
            obtain ⟨w2, rfl, d2⟩ := DenL.uno dm
            obtain ⟨u2, rfl, r2⟩ := Vals.one rus'
            rcases pv with ⟨_, q2⟩ | ⟨d3, v2, q1, q2, q3⟩
            · exact d_popD I e1 r1 q2 fun s' I' => ⟨w2, W.H, I', r2, h.here S d2⟩
            · rw [ev] at q1; cases q1
          · exact h.elim
        · exact h.elim
      · exact h.elim
    · rename_i kvs e
      obtain ⟨a, ws, rfl, pn, e1, pr⟩ := obj_T S r e
      obtain rfl : u = Value.ref a := ru
      split at h
      · rename_i y more
        simp only [DenL] at rs
        obtain ⟨w, vs', rfl, d1, dm⟩ := rs
        cases rus with
        | @cons _ u1 _ us' r1 rus' =>
        split at h
        · rename_i k ek
          obtain ⟨b, rfl, hb⟩ := keyT_den d1 ek
          obtain rfl : u1 = Value.ref b := r1
          rw [hK] at hb
          have pv := pd_val pr k
          have there : ∀ {d' : D} {more' : List Value}, valK kvs k = some d' → (more' = [] ∨ ∃ x, more' = [x]) → Fin Den W E (.ok d' (W.G.set n (.dT (delK kvs k)))) Q → wpAny (model X.prog X.w) X.A (call (.builtin "dict.pop") (.ref a :: .ref b :: more')) (EP X pins σ Q) X.xe s := fun {d' more'} ev hm hf => by
            rcases pv with ⟨q1, _⟩ | ⟨d2, v2, q1, q2, q3⟩
            · rw [ev] at q1; cases q1
            · rw [ev] at q1; cases q1
              obtain ⟨x2, S2⟩ := put_T (a := a) S e pn (pd_del pr k)
              exact dt_pop hr.u1 I e1 hb q2 hm fun w' s' I' rw' => ⟨v2, _, I', rw', hf v2 _ x2 S2 rfl (Den.mono x2 _ _ q3)⟩
          split at h
          · rename_i d' ev
            simp only [DenL] at dm
            subst dm
            cases rus'
            exact there ev (.inl rfl) h
          · rename_i d' z ev
            obtain ⟨w2, rfl, d2⟩ := DenL.uno dm
            obtain ⟨u2, rfl, r2⟩ := Vals.one rus'
            exact there ev (.inr ⟨_, rfl⟩) h
          · rename_i z ev
            obtain ⟨w2, rfl, d2⟩ := DenL.uno dm
            obtain ⟨u2, rfl, r2⟩ := Vals.one rus'
            rcases pv with ⟨_, q2⟩ | ⟨d3, v2, q1, q2, q3⟩
            · exact dt_popD hr.u1 I e1 hb q2 fun s' I' => ⟨w2, W.H, I', r2, h.here S d2⟩
            · rw [ev] at q1; cases q1
          · exact h.elim
        · exact h.elim
      · exact h.elim
    · exact h.elim
  · exact h.elim
end
end DL
end
/-! ==== DDict3 ==== -/
section
set_option Elab.async false
set_option linter.all false
set_option autoImplicit false
set_option maxRecDepth 100000
set_option maxHeartbeats 4000000
/-! DL: dicts, further: stores, dict(..), list(d), len, truth, isinstance; sorted; tuple(xs) whose object is known. -/
namespace DL
open PySem PySem.Spec PyProof.Rows L2
open PySem.W (EachIs alike AllAlike Sortable dataLe sorted_data)
section
variable {X : Cx} {E : XK}
/-! ### d[y] = z -/
theorem StOk.of {F : D → D → D → DH → R Unit}
    (h : ∀ (pins : List (Addr × Obj)) (s : Shared) (σ : L2.St) (W : Wd) (x y z : D) (v w u : V) (u1 u2 u3 : Value) (Q : Hp → Prop), Inv X pins σ W.H s → Sim W → W.K = X.K → Den W x v → Den W y w → Den W z u → RelV v u1 → RelV w u2 → RelV u u3 →
      Fin (fun _ (_ : Unit) (_ : Unit) => True) W E (F x y z W.G) (fun _ H => Q H) → wpAny (model X.prog X.w) X.A (setItem u1 u2 u3) (fun _ s' => ∃ H', Inv X pins σ H' s' ∧ Q H') X.xe s) : StOk X E F := by
  refine ⟨fun v w u H Q => ∃ (W : Wd) (x y z : D), W.H = H ∧ Sim W ∧ W.K = X.K ∧ Den W x v ∧ Den W y w ∧ Den W z u ∧ Fin (fun _ (_ : Unit) (_ : Unit) => True) W E (F x y z W.G) (fun _ H => Q H), ?_, fun W x y z v w u Q hK S dx dy dz hf => ⟨W, x, y, z, rfl, S, hK, dx, dy, dz, hf⟩⟩
  rintro pins s σ H v w u u1 u2 u3 Q I r1 r2 r3 ⟨W, x, y, z, rfl, S, hK, dx, dy, dz, hf⟩
  exact h pins s σ W x y z v w u u1 u2 u3 Q I S hK dx dy dz r1 r2 r3 hf
def setU (x y z : D) (G : DH) : R Unit := match x with
  | .obj n => (match G[n]? with
    | some (.dK kvs) => (match keyK y with
      | some k => if kvs.length < sizeLine then .ok () (G.set n (.dK (setK kvs k z))) else .stop
      | none => .stop)
    | some (.dT kvs) => (match y with
      | .tup ds => (match keysL ds with
        | some ks => if kvs.length < sizeLine then .ok () (G.set n (.dT (setK kvs ks z))) else .stop
        | none => .stop)
      | _ => .stop)
    | _ => setL x y z G)
  | _ => .stop
theorem st_setU {k : Nat} (hr : Rm k X.A) : StOk X E setU := by
  refine StOk.of fun pins s σ W x y z v w u u1 u2 u3 Q I S hK dx dy dz r1 r2 r3 h => ?_
  unfold setU at h
  split at h
  · rename_i n
    split at h
    · rename_i kvs e
      obtain ⟨a, ws, rfl, pn, e1, pr⟩ := obj_K S dx e
      obtain rfl : u1 = Value.ref a := r1
      split at h
      · rename_i k ek
        obtain rfl := keyK_den dy ek
        split at h
        · rename_i hl
          obtain ⟨x2, S2⟩ := put_K (a := a) S e pn (pd_put (k := k) pr dz)
          exact d_setItem hr.u1 I (DPut.k e1 (by rw [pd_len pr]; exact hl)) r2 r3 fun s' I' => ⟨_, I', h () _ x2 S2 rfl trivial⟩
        · exact h.elim
      · exact h.elim
    · rename_i kvs e
      obtain ⟨a, ws, rfl, pn, e1, pr⟩ := obj_T S dx e
      obtain rfl : u1 = Value.ref a := r1
      split at h
      · rename_i ds
        split at h
        · rename_i ks ek
          simp only [Den] at dy
          obtain ⟨b, vs, rfl, hb, dl⟩ := dy
          rw [keysL_den dl ek] at hb
          split at h
          · rename_i hl
            obtain ⟨x2, S2⟩ := put_T (a := a) S e pn (pd_put (k := ks) pr dz)
            exact d_setItem hr.u1 I (DPut.t e1 hb (by rw [pd_len pr]; exact hl)) r2 r3 fun s' I' => ⟨_, I', h () _ x2 S2 rfl trivial⟩
          · exact h.elim
        · exact h.elim
      · exact h.elim
    · obtain ⟨t, hp, q⟩ := (st_setL (X := X) (E := E)).out
      exact hp pins s σ W.H v w u u1 u2 u3 Q I r1 r2 r3 (q W _ y z v w u Q hK S dx dy dz h)
  · exact h.elim
/-! ### sorted of a list or a tuple -/
theorem each_reads {pins : List (Addr × Obj)} {σ : L2.St} {s : Shared} {W : Wd} (I : Inv X pins σ W.H s) (S : Sim W) (hK : W.K = X.K) : ∀ {ds : List D} {vs : List V} {us : List Value}, plnL ds = true → DenL W ds vs → Vals vs us →
    EachIs (fun u d => ∃ v, RelV v u ∧ Den W d v) us ds ∧ EachIs (fun u d => ∃ as, Reads s.heap u (toP d) as) us ds
  | [], _, _, _, h, r => by simp only [DenL] at h; subst h; cases r; exact ⟨.nil, .nil⟩
  | d :: ds, _, _, p, h, r => by
    simp only [DenL] at h
    obtain ⟨v, vs', rfl, h1, h2⟩ := h
    simp only [plnL, Bool.and_eq_true] at p
    cases r with
    | cons r1 r2 =>
      obtain ⟨i1, i2⟩ := each_reads I S hK p.2 h2 r2
      exact ⟨.cons ⟨v, r1, h1⟩ i1, .cons (rq_reads d _ (den_rq I S hK d v _ p.1 h1 r1)) i2⟩
theorem each_back {W : Wd} : ∀ {us : List Value} {ds : List D}, EachIs (fun u d => ∃ v, RelV v u ∧ Den W d v) us ds → ∃ vs, Vals vs us ∧ DenL W ds vs
  | _, _, .nil => ⟨[], .nil, by simp [DenL]⟩
  | _, _, .cons ⟨v, r, d⟩ t => by
    obtain ⟨vs, h1, h2⟩ := each_back t
    exact ⟨v :: vs, .cons r h1, by simp only [DenL]; exact ⟨v, vs, rfl, d, h2⟩⟩
def alikes (ds : List D) : Bool := ds.all fun d => ds.all fun e => alike (toP d) (toP e)
def sortables (ds : List D) : Bool := (ds.all fun d => match toP d with | .tuple (_ :: _) => true | _ => false) || ds.all fun d => match toP d with | .tuple _ => false | .none => false | _ => true
theorem alikes_of {ds : List D} (h : alikes ds = true) : AllAlike (ds.map toP) := by
  intro p hp q hq
  obtain ⟨d, hd, rfl⟩ := List.mem_map.mp hp
  obtain ⟨e, he, rfl⟩ := List.mem_map.mp hq
  exact List.all_eq_true.mp (List.all_eq_true.mp h d hd) e he
theorem sortables_of {ds : List D} (h : sortables ds = true) : Sortable (ds.map toP) := by
  unfold sortables at h
  rw [Bool.or_eq_true] at h
  rcases h with h | h
  · refine .inl fun p hp => ?_
    obtain ⟨d, hd, rfl⟩ := List.mem_map.mp hp
    have := List.all_eq_true.mp h d hd
    split at this
    · rename_i x r e; exact ⟨x, r, e⟩
    · cases this
  · refine .inr fun p hp => ?_
    obtain ⟨d, hd, rfl⟩ := List.mem_map.mp hp
    have := List.all_eq_true.mp h d hd
    split at this
    · cases this
    · cases this
    · rename_i h1 h2
      exact ⟨h2, h1⟩
/-- the order of data -/
def leD' (a b : D) : Bool := dataLe false toP a b
def sortD (ds : List D) : List D := ds.mergeSort leD'
def srtOk (ds : List D) : Bool := plnL ds && alikes ds && sortables ds && decide (ds.length ≤ sizeLine) && ds.all fun d => decide ((toP d).depth ≤ 60)
theorem sorted_laid {pins : List (Addr × Obj)} {σ : L2.St} {s : Shared} {W : Wd} {o : Bool} {ds : List D} {vs : List V} {us : List Value} {l : Addr} {k : Nat} {Q : VK} (hr : Rm k X.A) (I : Inv X pins σ W.H s) (S : Sim W) (hK : W.K = X.K) (hl : s.heap.IsList l us.toArray) (d1 : DenL W ds vs) (rv : Vals vs us)
    (c : srtOk ds = true) (h : Fin Den W E (mkL o (sortD ds) W.G) Q) : wpAny (model X.prog X.w) X.A (call (.builtin "sorted") [.ref l]) (EP X pins σ Q) X.xe s := by
  simp only [srtOk, Bool.and_eq_true, decide_eq_true_eq] at c
  obtain ⟨⟨⟨⟨c1, c2⟩, c3⟩, c4⟩, c5⟩ := c
  obtain ⟨e1, e2⟩ := each_reads I S hK c1 d1 rv
  have hu := hr.u200
  refine sorted_data (enc := toP) hl e1 e2 (alikes_of c2) (sortables_of c3) c4 (fun b hb => ?_) fun out hlen e => ?_
  · have := of_decide_eq_true (List.all_eq_true.mp c5 b hb)
    omega
  · obtain ⟨vs', r', d'⟩ := each_back e
    obtain ⟨c, hc⟩ := sortedAll_at s.heap us (List.toArray out)
    have hz : vs'.length ≤ sizeLine := by rw [r'.length, hlen]; exact c4
    have hn : W.H (s.heap.objs.size + 1) = none := I.hok.fresh (Nat.le_succ _)
    have I2 : Inv X pins σ (upd W.H (s.heap.objs.size + 1) (.lst vs')) { s with heap := sortedAll s.heap us (List.toArray out) } :=
      I.laid (t' := s.toks) (fun b ob q => sortedAll_old q) (Nat.le_succ _) ⟨hz, out, c, r', hc⟩
    exact ⟨.ref (s.heap.objs.size + 1), _, I2, rfl, fin_mkL S h d' _ hn⟩
def sortedO (o : Bool) (ds : List D) (G : DH) : R D := match ds with
  | [d] => (match lstOf G d with
    | some xs => if srtOk xs = true then mkL o (sortD xs) G else .stop
    | none => .stop)
  | _ => .stop
theorem call_sortedO (o : Bool) {k : Nat} (hr : Rm k X.A) : CallOk X E (.builtin "sorted") (sortedO o) := by
  refine CallOk.of fun pins s σ W ds vs us Q I S hK dd rv h => ?_
  unfold sortedO at h
  split at h
  · rename_i d
    obtain ⟨v, rfl, d1⟩ := dd.uno
    obtain ⟨u, rfl, r1⟩ := rv.one
    split at h
    · rename_i xs e
      split at h
      · rename_i c
        obtain ⟨a, ws, rfl, h1, h2⟩ := lstOf_den S d1 e
        obtain rfl : u = Value.ref a := r1
        rw [hK] at h1
        obtain ⟨its, rw', hl⟩ := sq_isList I h1
        exact sorted_laid (us := its.toList) hr I S hK (by simpa using hl) h2 rw' c h
      · exact h.elim
    · exact h.elim
  · exact h.elim
/-! ### tuple(xs), the object known -/
def tupleK (ds : List D) (G : DH) : R D := match ds with
  | [d] => (match lstOf G d with
    | some xs => .ok (.ktup xs) G
    | none => .stop)
  | _ => .stop
theorem call_tupleK : CallOk X E (.type "tuple") tupleK := by
  refine CallOk.of fun pins s σ W ds vs us Q I S hK dd rv h => ?_
  unfold tupleK at h
  split at h
  · rename_i d
    obtain ⟨v, rfl, d1⟩ := dd.uno
    obtain ⟨u, rfl, r1⟩ := rv.one
    split at h
    · rename_i xs e
      obtain ⟨a, ws, rfl, h1, h2⟩ := lstOf_den S d1 e
      obtain rfl : u = Value.ref a := r1
      rw [hK] at h1
      obtain ⟨its, r', pl, hz⟩ := I.list h1
      have hlen := r'.length
      refine call_tuple_list pl.isList (fun h' kp => ?_) (by simp only [List.size_toArray] <;> omega)
      have I1 : Inv X pins σ W.H { s with heap := h' } := I.kept (t' := s.toks) kp
      have hf : W.H h'.objs.size = none := I1.hok.fresh (Nat.le_refl _)
      have I2 : Inv X pins σ (upd W.H h'.objs.size (.frz { cls := .type "tuple", data := .seq its.toArray } (.tup ws))) { s with heap := h'.push { cls := .type "tuple", data := .seq its.toArray } } :=
        I1.laid (t' := s.toks) (fun b o e => Heap.get?_push_of_some _ e) (Nat.le_refl _) ⟨Heap.get?_push_size _ rfl, hz, its, r', IsTup.new _ _⟩
      obtain ⟨x2, S2⟩ := S.lay (.frz { cls := .type "tuple", data := .seq its.toArray } (.tup ws)) hf
      refine ⟨.ref h'.objs.size, _, I2, rfl, h _ _ x2 S2 rfl ?_⟩
      simp only [Den]
      refine ⟨_, ws, rfl, ⟨_, its.toArray, 0, .inr upd_same, rfl, rfl, rfl, ?_, ?_⟩, DenL.mono x2 _ _ h2⟩
      · simp only [List.size_toArray]; omega
      · simpa using r'
    · exact h.elim
  · exact h.elim
end
end DL
end
/-! ==== DDict4 ==== -/
section
set_option Elab.async false
set_option linter.all false
set_option autoImplicit false
set_option maxRecDepth 100000
set_option maxHeartbeats 4000000
/-! DL: methods of lists; dict(..), list(d), len, isinstance of dicts; == of dicts. -/
namespace DL
open PySem PySem.Spec PyProof.Rows L2
section
variable {X : Cx} {E : XK}
/-! ### methods of lists -/
theorem obj_L {W : Wd} {n : Nat} {v : V} {xs : List D} (S : Sim W) (r : Den W (.obj n) v) (e : W.G[n]? = some (.lst xs)) : ∃ a vs, v = .ref a ∧ W.p[n]? = some a ∧ W.H a = some (.lst vs) ∧ DenL W xs vs := by
  simp only [Den] at r
  obtain ⟨a, pn, rfl⟩ := r
  obtain ⟨b, pb, vs, q1, q2⟩ := S.at_ n _ e rfl
  rw [pn] at pb; cases pb
  exact ⟨a, vs, rfl, pn, q1, q2⟩
theorem put_L {W : Wd} {n : Nat} {a : Addr} {xs ys : List D} {vs : List V} (S : Sim W) (e : W.G[n]? = some (.lst xs)) (pn : W.p[n]? = some a) (r : DenL W ys vs) : Ext W (W.put n a (.lst vs) (.lst ys)) ∧ Sim (W.put n a (.lst vs) (.lst ys)) :=
  S.put e rfl pn fun W' y' e' => ⟨_, by rw [e']; exact upd_same, DenL.mono y' _ _ r⟩
def appO (d : D) (ds : List D) (G : DH) : R D := match d, ds with
  | .obj n, [y] => (match G[n]? with
    | some (.lst xs) => if xs.length < sizeLine then .ok .non (G.set n (.lst (xs ++ [y]))) else .stop
    | _ => .stop)
  | _, _ => .stop
theorem mt_appO : MtOk X E "list.append" appO := by
  refine ⟨_, mt_append, fun W d v ds vs Q hK S r rs h => ?_⟩
  unfold appO at h
  split at h
  · rename_i n y
    obtain ⟨w, rfl, d1⟩ := rs.uno
    split at h
    · rename_i xs e
      obtain ⟨a, ws, rfl, pn, e1, pr⟩ := obj_L S r e
      split at h
      · rename_i hl
        obtain ⟨x2, S2⟩ := put_L (a := a) S e pn (pr.app (DenL.one d1))
        exact ⟨a, ws, w, rfl, rfl, e1, by rw [pr.len]; exact hl, h .non _ x2 S2 rfl (by simp [Den])⟩
      · exact h.elim
    · exact h.elim
  · exact h.elim
/-- xs.extend(ys), ys another list -/
def extO (d : D) (ds : List D) (G : DH) : R D := match d, ds with
  | .obj n, [y] => (match G[n]?, lstM G y with
    | some (.lst xs), some ys => if xs.length + ys.length ≤ sizeLine then .ok .non (G.set n (.lst (xs ++ ys))) else .stop
    | _, _ => .stop)
  | _, _ => .stop
theorem mt_extO : MtOk X E "list.extend" extO := by
  refine ⟨_, mt_extend, fun W d v ds vs Q hK S r rs h => ?_⟩
  unfold extO at h
  split at h
  · rename_i n y
    obtain ⟨w, rfl, d1⟩ := rs.uno
    split at h
    · rename_i xs ys e ey
      obtain ⟨a, ws, rfl, pn, e1, pr⟩ := obj_L S r e
      obtain ⟨b, zs, rfl, e2, pr2⟩ := lstM_den S d1 ey
      split at h
      · rename_i hl
        obtain ⟨x2, S2⟩ := put_L (a := a) S e pn (pr.app pr2)
        exact ⟨a, b, ws, zs, rfl, rfl, e1, e2, by rw [pr.len, pr2.len]; exact hl, h .non _ x2 S2 rfl (by simp [Den])⟩
      · exact h.elim
    · exact h.elim
  · exact h.elim
/-! ### dict(..) -/
def mergeD {κ : Type} [DecidableEq κ] (kvs more : List (κ × D)) : List (κ × D) := more.foldl (fun acc kv => setK acc kv.1 kv.2) kvs
def mergeV {κ : Type} [DecidableEq κ] (ws more : List (κ × V)) : List (κ × V) := more.foldl (fun acc kv => putK acc kv.1 kv.2) ws
theorem pd_merge {κ : Type} [DecidableEq κ] {W : Wd} : ∀ {more : List (κ × D)} {ms : List (κ × V)} {kvs : List (κ × D)} {ws : List (κ × V)}, Paired (PD W) more ms → Paired (PD W) kvs ws → Paired (PD W) (mergeD kvs more) (mergeV ws ms) := by
  intro more ms kvs ws r
  induction r generalizing kvs ws with
  | nil => intro q; exact q
  | @cons p q ps qs a t ih =>
    intro r0
    obtain ⟨a1, a2⟩ := a
    have e : Paired (PD W) (setK kvs p.1 p.2) (putK ws q.1 q.2) := by rw [← a1]; exact pd_put r0 a2
    exact ih e
/-- pairs, keys ints or texts; tuples of such -/
def pairsK : List D → Option (List (Key × D))
  | [] => some []
  | x :: xs => match tupOf x, pairsK xs with
    | some [k, v], some r => (match keyK k with
      | some q => some ((q, v) :: r)
      | none => none)
    | _, _ => none
def pairsT : List D → Option (List (List Key × D))
  | [] => some []
  | x :: xs => match tupOf x, pairsT xs with
    | some [.tup ds, v], some r => (match keysL ds with
      | some q => some ((q, v) :: r)
      | none => none)
    | _, _ => none
theorem pairsK_den {W : Wd} : ∀ {xs : List D} {vs : List V} {kvs : List (Key × D)}, DenL W xs vs → pairsK xs = some kvs → ∃ (ps : List Addr) (ws : List (Key × V)), vs = ps.map V.ref ∧ Paired (fun p kv => SqT W.K W.H p [kV kv.1, kv.2]) ps ws ∧ Paired (PD W) kvs ws
  | [], _, _, h, e => by simp only [DenL] at h; subst h; cases e; exact ⟨[], [], rfl, .nil, .nil⟩
  | x :: xs, _, kvs, h, e => by
    simp only [DenL] at h
    obtain ⟨v, r, rfl, h1, h2⟩ := h
    unfold pairsK at e
    split at e
    · rename_i k d rr e1 e2
      split at e
      · rename_i q ek
        cases e
        obtain ⟨ps, ws, rfl, p1, p2⟩ := pairsK_den h2 e2
        obtain ⟨a, us, rfl, q1, q2⟩ := tupOf_den h1 e1
        obtain ⟨v1, v2, rfl, d1, d2⟩ := q2.two
        obtain rfl := keyK_den d1 ek
        exact ⟨a :: ps, (q, v2) :: ws, rfl, .cons q1 p1, .cons ⟨rfl, d2⟩ p2⟩
      · cases e
    · cases e
theorem pairsT_den {W : Wd} : ∀ {xs : List D} {vs : List V} {kvs : List (List Key × D)}, DenL W xs vs → pairsT xs = some kvs → ∃ (ps : List Addr) (ws : List (List Key × V)), vs = ps.map V.ref ∧ Paired (fun p kv => ∃ kb, SqT W.K W.H p [.ref kb, kv.2] ∧ W.H kb = some (.tup (kv.1.map kV))) ps ws ∧ Paired (PD W) kvs ws
  | [], _, _, h, e => by simp only [DenL] at h; subst h; cases e; exact ⟨[], [], rfl, .nil, .nil⟩
  | x :: xs, _, kvs, h, e => by
    simp only [DenL] at h
    obtain ⟨v, r, rfl, h1, h2⟩ := h
    unfold pairsT at e
    split at e
    · rename_i k d rr e1 e2
      split at e
      · rename_i q ek
        cases e
        obtain ⟨ps, ws, rfl, p1, p2⟩ := pairsT_den h2 e2
        obtain ⟨a, us, rfl, q1, q2⟩ := tupOf_den h1 e1
        obtain ⟨v1, v2, rfl, d1, d2⟩ := q2.two
        simp only [Den] at d1
        obtain ⟨b, us, rfl, hb, dl⟩ := d1
        rw [keysL_den dl ek] at hb
        exact ⟨a :: ps, (q, v2) :: ws, rfl, .cons ⟨b, q1, hb⟩ p1, .cons ⟨rfl, d2⟩ p2⟩
      · cases e
    · cases e
section
variable {pins : List (Addr × Obj)} {σ : L2.St} {H : Hp} {s : Shared}
theorem prsK_of (I : Inv X pins σ H s) : ∀ {ps : List Addr} {ws : List (Key × V)}, Paired (fun p kv => SqT X.K H p [kV kv.1, kv.2]) ps ws →
    ∃ (pv : List (Value × Value)) (prs : List (Key × Value)), KV ws prs ∧ pv.length = ps.length ∧ prs.length = ps.length ∧ (∀ (j : Nat) (k v : Value), pv[j]? = some (k, v) → ∃ b q, ps[j]? = some b ∧ s.heap.IsTuple b #[k, v] ∧ prs[j]? = some (q, v) ∧ (mixKind X.prog X.w).is q k = true)
  | _, _, .nil => ⟨[], [], .nil, rfl, rfl, fun j k v e => by simp at e⟩
  | _, _, .cons (a := p) (b := kv) h t => by
    obtain ⟨pv, prs, r, l1, l2, hp⟩ := prsK_of I t
    obtain ⟨its, rv, ht, _⟩ := I.tuple h
    obtain ⟨u, y, ei, ru, ry⟩ := rv.two
    subst ei
    refine ⟨(u, y) :: pv, (kv.1, y) :: prs, .cons ⟨rfl, ry⟩ r, by simp [l1], by simp [l2], fun j k v e => ?_⟩
    cases j with
    | zero =>
      have e' : (u, y) = (k, v) := Option.some.inj e
      cases e'
      exact ⟨p, kv.1, rfl, ht, rfl, kV_is ru⟩
    | succ j =>
      obtain ⟨b, q, e1, e2, e3, e4⟩ := hp j k v (by simpa using e)
      exact ⟨b, q, by simpa using e1, e2, by simpa using e3, e4⟩
theorem prsT_of (I : Inv X pins σ H s) : ∀ {ps : List Addr} {ws : List (List Key × V)}, Paired (fun p kv => ∃ kb, SqT X.K H p [.ref kb, kv.2] ∧ H kb = some (.tup (kv.1.map kV))) ps ws →
    ∃ prs : List (List Key × Addr × Value), KT H ws prs ∧ prs.length = ps.length ∧ (∀ (j : Nat) (q : List Key × Addr × Value), prs[j]? = some q → ∃ b, ps[j]? = some b ∧ s.heap.IsTuple b #[.ref q.2.1, q.2.2])
  | _, _, .nil => ⟨[], .nil, rfl, fun j q e => by simp at e⟩
  | _, _, .cons (a := p) (b := kv) h t => by
    obtain ⟨prs, r, l1, hp⟩ := prsT_of I t
    obtain ⟨kb, h, hk⟩ := h
    obtain ⟨its, rv, ht, _⟩ := I.tuple h
    obtain ⟨u, y, ei, ru, ry⟩ := rv.two
    subst ei
    obtain rfl : u = Value.ref kb := ru
    refine ⟨(kv.1, kb, y) :: prs, .cons ⟨rfl, hk, ry⟩ r, by simp [l1], fun j q e => ?_⟩
    cases j with
    | zero =>
      have e' : (kv.1, kb, y) = q := Option.some.inj e
      subst e'
      exact ⟨p, rfl, ht⟩
    | succ j =>
      obtain ⟨b, e1, e2⟩ := hp j q (by simpa using e)
      exact ⟨b, by simpa using e1, e2⟩
abbrev SeqSrc (h : Heap) (a : Addr) (ps : List Addr) : Prop := PlainSeq "list" h a (ps.map Value.ref).toArray ∨ PlainSeq "tuple" h a (ps.map Value.ref).toArray
theorem items_of {pv : List (Value × Value)} {ps : List Addr} (l1 : pv.length = ps.length) (hp : ∀ (j : Nat) (k v : Value), pv[j]? = some (k, v) → ∃ b, ps[j]? = some b ∧ s.heap.IsTuple b #[k, v]) : PairItems s.heap (ps.map Value.ref).toArray (fun j => ps.getD j 0) pv := by
  refine ⟨by simp [l1], fun j k v e => ?_⟩
  obtain ⟨b, e1, e2⟩ := hp j k v e
  have eb : ps.getD j 0 = b := by rw [List.getD_eq_getElem?_getD, e1]; rfl
  show (List.map Value.ref ps).toArray[j]? = some (Value.ref (ps.getD j 0)) ∧ PairAt s.heap (ps.getD j 0) k v
  rw [eb]
  exact ⟨by simp [e1], .inl e2⟩
/-- dict(xs), keys ints or texts -/
theorem dict_pairs_K {a : Addr} {ps : List Addr} {ws : List (Key × V)} {Q : Value → Shared → Prop} {Ex : Value → Shared → Prop} (hc : X.calm = true) (I : Inv X pins σ H s) (hsrc : SeqSrc s.heap a ps) (hp : Paired (fun p kv => SqT X.K H p [kV kv.1, kv.2]) ps ws) (hz : ps.length ≤ sizeLine)
    (h : ∀ p s', H p = none → Inv X pins σ (upd H p (.dK (mergeV [] ws))) s' → Q (.ref p) s') : wpAny (model X.prog X.w) X.A (call (.type "dict") [.ref a]) Q Ex s := by
  obtain ⟨pv, prs, rel, l1, l2, hj⟩ := prsK_of I hp
  have hi := items_of (s := s) l1 fun j k v e => let ⟨b, q, e1, e2, _⟩ := hj j k v e; ⟨b, e1, e2⟩
  have have_ : PairsHave (mixKind X.prog X.w) pv.length (PairRel pv) prs := ⟨by rw [l1, l2], fun i k v e => let ⟨b, q, _, _, e3, e4⟩ := hj i k v e; ⟨q, e3, e4⟩⟩
  have hm : (s.heap.objs.size == sysModules) = false := beq_eq_false_iff_ne.mpr (Nat.ne_of_gt I.big)
  have hlen : (mergeV [] ws).length ≤ sizeLine := by
    refine Nat.le_trans (length_mergeK ws []) ?_
    rw [List.length_nil, Nat.zero_add, rel.length, l2]
    exact hz
  have fin : ∀ (h' : Heap) (tk : Nat), h'.DictOf (mixKind X.prog X.w) s.heap.objs.size (merged [] prs) → (∀ b o, b ∉ ([] : List Addr) → s.heap.get? b = some o → h'.get? b = some o) → Q (.ref s.heap.objs.size) { s with heap := h', toks := tk } := fun h' tk hd k =>
    h _ _ (I.hok.fresh (Nat.le_refl _)) (I.laid (t' := tk) (fun b o e => k b o (by simp) e) (Nat.le_refl _) (show ObjOk X.prog X.w _ _ _ (.dK (mergeV [] ws)) from ⟨hlen, hm, merged [] prs, KV.merge rel .nil, hd⟩))
  rcases hsrc with hs | hs
  · exact PySem.call_dict_pairs (PairArg.list a _ (fun j => ps.getD j 0) pv) (I.ok.hd hc) ⟨hs, hi⟩ have_ (by rw [l1]; exact hz) fin
  · exact PySem.call_dict_pairs (PairArg.tuple a _ (fun j => ps.getD j 0) pv) (I.ok.hd hc) ⟨hs, hi⟩ have_ (by rw [l1]; exact hz) fin
theorem kt_merge {H : Hp} : ∀ {ws : List (List Key × V)} {prs : List (List Key × Addr × Value)} {acc : List (List Key × V)} {xs : List (List Key × Addr × Value)}, KT H ws prs → KT H acc xs → KT H (mergeV acc ws) (storedAllH xs prs) := by
  intro ws prs acc xs r
  induction r generalizing acc xs with
  | nil => intro q; exact q
  | @cons p q ps qs a t ih =>
    intro r0
    obtain ⟨a1, a2, a3⟩ := a
    have e : KT H (putK acc p.1 p.2) (storedH xs q.1 q.2.1 q.2.2) := by rw [← a1]; exact r0.put p.1 a2 a3
    exact ih e
theorem length_mergeV {κ : Type} [DecidableEq κ] : ∀ (more kvs : List (κ × V)), (mergeV kvs more).length ≤ kvs.length + more.length
  | [], kvs => by show kvs.length ≤ kvs.length + 0; omega
  | p :: r, kvs => by
    have h1 := length_mergeV r (putK kvs p.1 p.2)
    have h2 := length_putK kvs p.1 p.2
    have h3 : (mergeV kvs (p :: r)).length = (mergeV (putK kvs p.1 p.2) r).length := rfl
    rw [h3, List.length_cons]
    omega
theorem kt_stay {H : Hp} (I : Inv X pins σ H s) {ws : List (List Key × V)} {prs : List (List Key × Addr × Value)} (r : KT H ws prs) : KeysStay (tupleKind (mixKind X.prog X.w)) s.heap s.heap.objs.size [] prs := by
  intro h' hk x hx
  unfold KT at r
  induction r with
  | nil => cases hx
  | @cons p q ps qs a t ih =>
    rcases List.mem_cons.mp hx with rfl | hx
    · obtain ⟨a1, a2, _⟩ := a
      obtain ⟨_, its, rv, o, h1, h2, n, h3⟩ := I.hok _ _ a2
      rw [← a1]
      exact ⟨o, its.toArray, n, hk _ _ (Nat.ne_of_lt (Heap.lt_size h1)) (by simp) h1, h2, h3, by simpa using items_are rv⟩
    · exact ih hx
/-- dict(xs), keys tuples -/
theorem dict_pairs_T {k : Nat} {a : Addr} {ps : List Addr} {ws : List (List Key × V)} {Q : Value → Shared → Prop} {Ex : Value → Shared → Prop} (hr : Rm k X.A) (hc : X.calm = true) (I : Inv X pins σ H s) (hsrc : SeqSrc s.heap a ps)
    (hp : Paired (fun p kv => ∃ kb, SqT X.K H p [.ref kb, kv.2] ∧ H kb = some (.tup (kv.1.map kV))) ps ws) (hz : ps.length ≤ sizeLine)
    (h : ∀ p s', H p = none → Inv X pins σ (upd H p (.dT (mergeV [] ws))) s' → Q (.ref p) s') : wpAny (model X.prog X.w) X.A (call (.type "dict") [.ref a]) Q Ex s := by
  obtain ⟨prs, rel, l2, hj⟩ := prsT_of I hp
  have hi := items_of (s := s) (pv := prs.map fun q => (Value.ref q.2.1, q.2.2)) (ps := ps) (by simp [l2]) fun j k v e => by
    rw [List.getElem?_map] at e
    obtain ⟨q, e1, e2⟩ := Option.map_eq_some_iff.mp e
    cases e2
    exact hj j q e1
  have have_ : PairsHaveH (tupleKind (mixKind X.prog X.w)) (prs.map fun q => (Value.ref q.2.1, q.2.2)).length (PairRel (prs.map fun q => (Value.ref q.2.1, q.2.2))) prs := ⟨by simp, fun i k v e => by
    have e' : (prs.map fun q => (Value.ref q.2.1, q.2.2))[i]? = some (k, v) := e
    rw [List.getElem?_map] at e'
    obtain ⟨q, e1, e2⟩ := Option.map_eq_some_iff.mp e'
    cases e2
    exact ⟨q.1, q.2.1, e1, rfl⟩⟩
  have hm : (s.heap.objs.size == sysModules) = false := beq_eq_false_iff_ne.mpr (Nat.ne_of_gt I.big)
  have lw : ws.length = prs.length := Paired.length rel
  have hlen : (mergeV [] ws).length ≤ sizeLine := by
    refine Nat.le_trans (length_mergeV ws []) ?_
    rw [List.length_nil, Nat.zero_add, lw, l2]
    exact hz
  have fin : ∀ (h' : Heap) (tk : Nat), h'.DictOfH (tupleKind (mixKind X.prog X.w)) s.heap.objs.size (storedAllH [] prs) → (∀ b o, b ∉ ([] : List Addr) → s.heap.get? b = some o → h'.get? b = some o) → Q (.ref s.heap.objs.size) { s with heap := h', toks := tk } := fun h' tk hd k => by
    obtain ⟨q, es, ep, hq, h2, h3, h4, _, h5⟩ := hd
    have hf := I.hok.fresh (Nat.le_refl s.heap.objs.size)
    refine h _ _ hf (I.laid (t' := tk) (fun b o e => k b o (by simp) e) (Nat.le_refl _) (show ObjOk X.prog X.w _ _ _ (.dT (mergeV [] ws)) from ⟨hlen, hm, _, (kt_merge rel .nil).keeps fun c ys ec => ?_, q, es, ep, hq, h2, h3, h4, h5⟩))
    rw [upd_ne (fun z => by rw [z, hf] at ec; cases ec)]
    exact ec
  have hu := hr.u200
  rcases hsrc with hs | hs
  · exact PySem.call_dict_pairsH (PairArg.list a _ (fun j => ps.getD j 0) _) (I.ok.hd hc) (tupleKind_room_in1 (A := X.A.in1) (by show X.A.units + 1 + 1 < cLine; omega)) ⟨hs, hi⟩ have_ (kt_stay I rel) (by simp [l2]; exact hz) fin
  · exact PySem.call_dict_pairsH (PairArg.tuple a _ (fun j => ps.getD j 0) _) (I.ok.hd hc) (tupleKind_room_in1 (A := X.A.in1) (by show X.A.units + 1 + 1 < cLine; omega)) ⟨hs, hi⟩ have_ (kt_stay I rel) (by simp [l2]; exact hz) fin
end
theorem vals_refsD : ∀ {ps : List Addr} {us : List Value}, Vals (ps.map V.ref) us → us = ps.map Value.ref
  | [], us, r => by rw [List.map_nil] at r; cases r; rfl
  | p :: ps, us, r => by
    rw [List.map_cons] at r
    cases r with
    | cons h t => cases h; rw [List.map_cons, ← vals_refsD t]
/-- what dict(..) walks -/
def srcOf (G : DH) : D → Option (List D)
  | .ktup xs => some xs
  | d => lstOf G d
theorem srcOf_den {pins : List (Addr × Obj)} {σ : L2.St} {s : Shared} {W : Wd} {d : D} {xs : List D} {v : V} {u : Value} (I : Inv X pins σ W.H s) (S : Sim W) (hK : W.K = X.K) (r : Den W d v) (ru : RelV v u) (e : srcOf W.G d = some xs) :
    ∃ a vs, u = .ref a ∧ DenL W xs vs ∧ vs.length ≤ sizeLine ∧ ∀ ps : List Addr, vs = ps.map V.ref → SeqSrc s.heap a ps := by
  have viaL : lstOf W.G d = some xs → ∃ a vs, u = .ref a ∧ DenL W xs vs ∧ vs.length ≤ sizeLine ∧ ∀ ps : List Addr, vs = ps.map V.ref → SeqSrc s.heap a ps := fun e => by
    obtain ⟨a, vs, rfl, h1, h2⟩ := lstOf_den S r e
    obtain rfl : u = Value.ref a := ru
    rw [hK] at h1
    obtain ⟨its, rv, pl, hz⟩ := I.list h1
    obtain ⟨o, n, ho, hc, hd, hdat⟩ := pl
    refine ⟨a, vs, rfl, h2, hz, fun ps q => .inl ?_⟩
    subst q
    have ei := vals_refsD rv
    exact ⟨o, n, ho, hc, hd, by rw [← ei]; exact hdat⟩
  cases d with
  | ktup ys =>
    simp only [srcOf, Option.some.injEq] at e
    subst e
    simp only [Den] at r
    obtain ⟨a, vs, rfl, ⟨o, its, n, h0, h1, h2, h3, h4, h5⟩, h6⟩ := r
    obtain rfl : u = Value.ref a := ru
    refine ⟨a, vs, rfl, h6, by rw [h5.length]; simpa using h4, fun ps q => .inr ?_⟩
    subst q
    have ei := vals_refsD h5
    have ho : s.heap.get? a = some o := h0.elim (fun e => I.kIn a o (by rw [← hK]; exact e)) fun e => (I.hok a _ e).1
    refine ⟨o, n, ho, h1, h2, ?_⟩
    rw [← ei]
    simpa using h3
  | _ => exact viaL e
/-- dict(d), dict(pairs); t: the keys are tuples -/
def dictO (t o : Bool) (ds : List D) (G : DH) : R D := match ds with
  | [d] => (match dKof G d with
    | some kvs => if t = true then .stop else mkK o kvs G
    | none => (match srcOf G d with
      | some xs => if t = true then (match pairsT xs with
          | some kvs => mkT o (mergeD [] kvs) G
          | none => .stop) else (match pairsK xs with
          | some kvs => mkK o (mergeD [] kvs) G
          | none => .stop)
      | none => .stop))
  | _ => .stop
theorem call_dictO (t o : Bool) {k : Nat} (hr : Rm k X.A) (hc : X.calm = true) : CallOk X E (.type "dict") (dictO t o) := by
  refine CallOk.of fun pins s σ W ds vs us Q I S hK dd rv h => ?_
  unfold dictO at h
  split at h
  · rename_i d
    obtain ⟨v, rfl, d1⟩ := dd.uno
    obtain ⟨u, rfl, r1⟩ := rv.one
    split at h
    · rename_i kvs e
      split at h
      · exact h.elim
      · obtain ⟨a, ws, rfl, h1, h2⟩ := dKof_den S d1 e
        obtain rfl : u = Value.ref a := r1
        exact d_copyOf I h1 fun p s' hp I' => ⟨.ref p, _, I', rfl, fin_mkK S h (denK_pd.mpr h2) p hp⟩
    · split at h
      · rename_i xs e
        obtain ⟨a, vs, rfl, dl, hz, hs⟩ := srcOf_den I S hK d1 r1 e
        split at h
        · split at h
          · rename_i kvs ek
            obtain ⟨ps, ws, rfl, p1, p2⟩ := pairsT_den dl ek
            rw [hK] at p1
            exact dict_pairs_T hr hc I (hs ps rfl) p1 (by simpa using hz) fun p s' hp I' => ⟨.ref p, _, I', rfl, fin_mkT S h (denT_pd.mpr (pd_merge p2 .nil)) p hp⟩
          · exact h.elim
        · split at h
          · rename_i kvs ek
            obtain ⟨ps, ws, rfl, p1, p2⟩ := pairsK_den dl ek
            rw [hK] at p1
            exact dict_pairs_K hc I (hs ps rfl) p1 (by simpa using hz) fun p s' hp I' => ⟨.ref p, _, I', rfl, fin_mkK S h (denK_pd.mpr (pd_merge p2 .nil)) p hp⟩
          · exact h.elim
      · exact h.elim
  · exact h.elim
/-! ### list(d), len(d), truth -/
def kD : Key → D
  | .inl i => .int i
  | .inr x => .str x
theorem kD_den {W : Wd} (k : Key) : Den W (kD k) (kV k) := by cases k <;> simp [kD, Den, kV]
theorem kDs_den {W : Wd} : ∀ ks : List Key, DenL W (ks.map kD) (ks.map kV)
  | [] => by simp [DenL]
  | k :: ks => by simp only [List.map_cons, DenL]; exact ⟨_, _, rfl, kD_den k, kDs_den ks⟩
theorem pd_keys {κ : Type} [DecidableEq κ] {W : Wd} {kvs : List (κ × D)} {ws : List (κ × V)} (r : Paired (PD W) kvs ws) : ws.map (·.1) = kvs.map (·.1) := by
  induction r with
  | nil => rfl
  | cons a _ ih => rw [List.map_cons, List.map_cons, ih, a.1]
theorem keysT_den {W : Wd} : ∀ {kvs : List (List Key × D)} {ws : List (List Key × V)} {bs : List Addr}, Paired (PD W) kvs ws → IsKeys W.H ws bs → DenL W (kvs.map fun kv => D.tup (kv.1.map kD)) (bs.map V.ref) := by
  intro kvs ws bs r q
  unfold IsKeys at q
  induction r generalizing bs with
  | nil => cases q; simp [DenL]
  | @cons p w ps qs a t ih =>
    cases q with
    | @cons _ b _ bs h t2 =>
      simp only [List.map_cons, DenL]
      refine ⟨_, _, rfl, ?_, ih t2⟩
      simp only [Den]
      exact ⟨b, _, rfl, h, by rw [← a.1]; exact kDs_den _⟩
/-- the keys of a dict, as data -/
def keysOf (G : DH) (d : D) : Option (List D) := match dKof G d with
  | some kvs => some (kvs.map fun kv => kD kv.1)
  | none => (dTof G d).map fun kvs => kvs.map fun kv => D.tup (kv.1.map kD)
def listU (o : Bool) (ds : List D) (G : DH) : R D := match ds with
  | [d] => (match keysOf G d with
    | some xs => mkL o xs G
    | none => listO o ds G)
  | _ => .stop
theorem call_listU (o : Bool) (hc : X.calm = true) : CallOk X E (.type "list") (listU o) := by
  refine CallOk.of fun pins s σ W ds vs us Q I S hK dd rv h => ?_
  unfold listU at h
  split at h
  · rename_i d
    split at h
    · rename_i xs e
      obtain ⟨v, rfl, d1⟩ := dd.uno
      unfold keysOf at e
      split at e
      · rename_i kvs e1
        cases e
        obtain ⟨a, ws, rfl, h1, h2⟩ := dKof_den S d1 e1
        refine call_listD hc pins s σ W.H _ us Q I rv ⟨a, ws, rfl, h1, fin_mkL S h ?_⟩
        have e3 : (ws.map fun kv => kV kv.1) = (kvs.map (·.1)).map kV := by rw [← pd_keys h2, List.map_map]; rfl
        have e4 : (kvs.map fun kv => kD kv.1) = (kvs.map (·.1)).map kD := by rw [List.map_map]; rfl
        rw [e3, e4]
        exact kDs_den _
      · obtain ⟨kvs, e1, rfl⟩ := Option.map_eq_some_iff.mp e
        obtain ⟨a, ws, rfl, h1, h2⟩ := dTof_den S d1 e1
        exact call_list_dT hc pins s σ W.H _ us Q I rv ⟨a, ws, rfl, h1, fun p bs hp ik => fin_mkL S h (keysT_den h2 ik) p hp⟩
    · obtain ⟨r, hr1, q⟩ := (call_listO (X := X) (E := E) o).out
      exact hr1 pins s σ W.H vs us Q I rv (q W _ vs Q hK S dd h)
  · exact h.elim
end
end DL
end
/-! ==== DDict5 ==== -/
section
set_option Elab.async false
set_option linter.all false
set_option autoImplicit false
set_option maxRecDepth 100000
set_option maxHeartbeats 4000000
/-! DL: == of dicts, len. -/
namespace DL
open PySem PySem.Spec PyProof.Rows L2
section
variable {X : Cx} {E : XK}
/-! ### len -/
def lenU (ds : List D) (G : DH) : R D := match ds with
  | [d] => (match dKof G d with
    | some kvs => .ok (.int kvs.length) G
    | none => (match dTof G d with
      | some kvs => .ok (.int kvs.length) G
      | none => lenO ds G))
  | _ => .stop
theorem call_lenU : CallOk X E (.builtin "len") lenU := by
  refine CallOk.of fun pins s σ W ds vs us Q I S hK dd rv h => ?_
  unfold lenU at h
  split at h
  · rename_i d
    split at h
    · rename_i kvs e
      obtain ⟨v, rfl, d1⟩ := dd.uno
      obtain ⟨u, rfl, r1⟩ := rv.one
      obtain ⟨a, ws, rfl, h1, h2⟩ := dKof_den S d1 e
      obtain rfl : u = Value.ref a := r1
      refine d_len I h1 fun t s' I' => ⟨.int kvs.length, W.H, I', ⟨t, by rw [pd_len h2]⟩, h.here S (by simp [Den])⟩
    · split at h
      · rename_i kvs e
        obtain ⟨v, rfl, d1⟩ := dd.uno
        obtain ⟨u, rfl, r1⟩ := rv.one
        obtain ⟨a, ws, rfl, h1, h2⟩ := dTof_den S d1 e
        obtain rfl : u = Value.ref a := r1
        obtain ⟨z, hd, ys, rel, dd⟩ := dt_rd I.hok h1
        have hl : ws.length = ys.length := Paired.length rel
        refine call_len_dictH hd dd (by rw [← hl]; rw [sizeLine_eq] at z; omega) ?_
        rw [← hl, pd_len h2]
        exact ⟨.int kvs.length, W.H, I.tok _, ⟨_, rfl⟩, h.here S (by simp [Den])⟩
      · obtain ⟨r, hr1, q⟩ := (call_lenO (X := X) (E := E)).out
        exact hr1 pins s σ W.H vs us Q I rv (q W _ vs Q hK S dd h)
  · exact h.elim
/-! ### == of dicts -/
/-- each entry of the one stands in the other alike -/
def hitsD (ls : List (Key × D)) (kvs : List (Key × D)) : Bool := kvs.all fun p => match valK ls p.1 with
  | some d => eqD p.2 d
  | none => false
def plnKV {κ : Type} (kvs : List (κ × D)) : Bool := kvs.all fun p => pln p.2
def depKV {κ : Type} (kvs : List (κ × D)) : Bool := kvs.all fun p => decide (dep p.2 ≤ 60)
theorem valK_mem {κ : Type} [DecidableEq κ] {kvs : List (κ × D)} {k : κ} {d : D} (h : valK kvs k = some d) : (k, d) ∈ kvs := by
  unfold valK at h
  obtain ⟨p, hp, rfl⟩ := Option.map_eq_some_iff.mp h
  have h1 := List.find?_some hp
  have h2 := List.mem_of_find?_eq_some hp
  have : p.1 = k := by simpa using h1
  rw [← this]
  exact h2
theorem hits_of {pins : List (Addr × Obj)} {σ : L2.St} {s : Shared} {W : Wd} {A : Around} (I : Inv X pins σ W.H s) (S : Sim W) (hK : W.K = X.K) (hu : A.units + 70 < cLine) {ls : List (Key × D)} {wl : List (Key × V)} {vl : List (Key × Value)} (rl : Paired (PD W) ls wl) (kl : KV wl vl) (pl : plnKV ls = true) :
    ∀ {kvs : List (Key × D)} {ws : List (Key × V)} {vs : List (Key × Value)}, Paired (PD W) kvs ws → KV ws vs → plnKV kvs = true → depKV kvs = true → PySem.W.KeqHits A s vl vs (hitsD ls kvs) := by
  intro kvs ws vs r k p d
  induction r generalizing vs with
  | nil => cases k; exact .nil
  | @cons q w qs ws' a t ih =>
    cases k with
    | @cons _ v _ vs' b k' =>
      simp only [plnKV, depKV, List.all_cons, Bool.and_eq_true, decide_eq_true_eq] at p d
      have ih' := ih k' p.2 d.2
      obtain ⟨a1, a2⟩ := a
      obtain ⟨b1, b2⟩ := b
      obtain ⟨vk, vv⟩ := v
      simp only at b1 b2
      subst b1
      have e0 : hitsD ls (q :: qs) = ((match valK ls q.1 with | some d => eqD q.2 d | none => false) && hitsD ls qs) := List.all_cons
      rw [e0]
      have kv := kl.val q.1
      rcases pd_val rl q.1 with ⟨q1, q2⟩ | ⟨d', v', q1, q2, q3⟩
      · rw [q1]
        simp only [Bool.false_and]
        refine .miss ?_
        rw [q2] at kv
        rw [← a1]
        exact RelO.none_of kv
      · rw [q1]
        simp only
        rw [q2] at kv
        obtain ⟨y, hy, ry⟩ := RelO.some_of kv
        refine .hit (y := y) (by rw [← a1]; exact hy) ?_ ih'
        have pd' : pln d' = true := List.all_eq_true.mp pl _ (valK_mem q1)
        exact eqAt_rq q.2 d' A s vv y (den_rq I S hK _ _ _ p.1 a2 b2) (den_rq I S hK _ _ _ pd' q3 ry) (by omega) (by omega)
/-- T-dicts: only where sizes tell -/
theorem same_sizes {A : Around} {P : Program} {w : World} {s : Shared} {Ex : Value → Shared → Prop} {nm : String} {a b : Addr} {oa ob : Obj} {es es' : Array DictEntry} {ep ep' : Nat} {Q : Bool → Shared → Prop} (ha : (a == sysModules) = false) (hb : (b == sysModules) = false)
    (hoa : s.heap.get? a = some oa) (hda : oa.data = .dict es ep) (hob : s.heap.get? b = some ob) (hdb : ob.data = .dict es' ep') (hsz : es.size ≠ es'.size ∨ es.size = 0) (h : Q (es.size == es'.size) s) :
    wpAny (model P w) A (Builtin.Dict.samePairs nm a b) Q Ex s := by
  unfold Builtin.Dict.samePairs Builtin.Dict.showsAll
  rw [if_neg (show ¬ (a == sysModules) = true by rw [ha]; exact Bool.false_ne_true), if_neg (show ¬ (b == sysModules) = true by rw [hb]; exact Bool.false_ne_true)]
  refine wpAny_bind (wpAny_pure (wpAny_bind (wpAny_pure (wpAny_bind (wpAny_dictEntries hoa hda ?_)))))
  dsimp only
  refine wpAny_bind (wpAny_dictEntries hob hdb ?_)
  by_cases e : es.size = es'.size
  · have z : es.size = 0 := hsz.elim (fun n => absurd e n) id
    rw [if_neg (by rw [e]; simp)]
    refine wpAny_bind (wpAny_dictEpoch hoa hda (wpAny_bind ?_))
    rw [Std.Legacy.Range.forIn_eq_forIn_range', z]
    have h' : Q true s := by simpa [e] using h
    simp only [Std.Legacy.Range.size, Nat.sub_zero, Nat.add_sub_cancel, Nat.div_one, List.range'_zero, List.forIn_nil]
    exact wpAny_pure (wpAny_pure h')
  · rw [if_pos (by simpa using e)]
    have hbf : (es.size == es'.size) = false := by simpa using e
    rw [hbf] at h
    exact wpAny_bind (wpAny_rule (wpAny_pure h))
theorem raw_eq {A : Around} {P : Program} {w : World} {s : Shared} {Ex : Value → Shared → Prop} {a b : Addr} {oa ob : Obj} {es es' : Array DictEntry} {ep ep' : Nat} {Q : Value → Shared → Prop} (ha : (a == sysModules) = false) (hb : (b == sysModules) = false)
    (hoa : s.heap.get? a = some oa) (xa : oa.ExactDict) (hda : oa.data = .dict es ep) (hob : s.heap.get? b = some ob) (xb : ob.ExactDict) (hdb : ob.data = .dict es' ep') (hsz : es.size ≠ es'.size ∨ es.size = 0) (hu : A.units < cLine) (h : Q (.bool (es.size == es'.size)) s) :
    wpAny (model P w) A (compareOp .Eq (.ref a) (.ref b)) Q Ex s := by
  have ta : s.TypeIs (.ref a) "dict" := ⟨oa, hoa, xa.1⟩
  have tb : s.TypeIs (.ref b) "dict" := ⟨ob, hob, xb.1⟩
  refine wpAny_richCompare_same_room (op := .Eq) ta tb PySem.F.slot_dict_eq (wpAny_call_entry PySem.F.slot_dict_eq ta PySem.F.entry_dict_eq ?_ (PySem.F.args_dict_eq_2 _ _)) hu
  show wpAny _ _ (Builtin.Dict.dictSlotArgs "__eq__" ⟨[.ref a, .ref b], []⟩ >>= _) _ _ s
  refine wpAny_bind ?_
  unfold Builtin.Dict.dictSlotArgs
  refine wpAny_bind (wpAny_notOrdered_dict ta ?_)
  show wpAny _ _ (pure (Value.ref a, Value.ref b)) _ _ s
  refine wpAny_pure (wpAny_bind (wpAny_isInstance (T := "dict") tb PySem.F.sub_dict_dict ?_))
  simp only [Bool.not_true, Bool.false_eq_true, if_false]
  refine wpAny_bind (wpAny_pure (wpAny_bind (wpAny_pure (wpAny_bind (same_sizes ha hb hoa hda hob hdb hsz (wpAny_pure ⟨_, rfl, ?_, ?_⟩))))))
  · exact fun x => nomatch x
  · simpa using h
theorem raw_ne {A : Around} {P : Program} {w : World} {s : Shared} {Ex : Value → Shared → Prop} {a b : Addr} {oa ob : Obj} {es es' : Array DictEntry} {ep ep' : Nat} {Q : Value → Shared → Prop} (ha : (a == sysModules) = false) (hb : (b == sysModules) = false)
    (hoa : s.heap.get? a = some oa) (xa : oa.ExactDict) (hda : oa.data = .dict es ep) (hob : s.heap.get? b = some ob) (xb : ob.ExactDict) (hdb : ob.data = .dict es' ep') (hsz : es.size ≠ es'.size ∨ es.size = 0) (hu : A.units < cLine) (h : Q (.bool (!(es.size == es'.size))) s) :
    wpAny (model P w) A (compareOp .NotEq (.ref a) (.ref b)) Q Ex s := by
  have ta : s.TypeIs (.ref a) "dict" := ⟨oa, hoa, xa.1⟩
  have tb : s.TypeIs (.ref b) "dict" := ⟨ob, hob, xb.1⟩
  refine wpAny_richCompare_same_room (op := .NotEq) ta tb PySem.F.slot_dict_ne (wpAny_call_entry PySem.F.slot_dict_ne ta PySem.F.entry_dict_ne ?_ (PySem.F.args_dict_ne_2 _ _)) hu
  show wpAny _ _ (Builtin.Dict.dictSlotArgs "__ne__" ⟨[.ref a, .ref b], []⟩ >>= _) _ _ s
  refine wpAny_bind ?_
  unfold Builtin.Dict.dictSlotArgs
  refine wpAny_bind (wpAny_notOrdered_dict ta ?_)
  show wpAny _ _ (pure (Value.ref a, Value.ref b)) _ _ s
  refine wpAny_pure (wpAny_bind (wpAny_isInstance (T := "dict") tb PySem.F.sub_dict_dict ?_))
  simp only [Bool.not_true, Bool.false_eq_true, if_false]
  refine wpAny_bind (wpAny_pure (wpAny_bind (wpAny_pure (wpAny_bind (same_sizes ha hb hoa hda hob hdb hsz (wpAny_pure ⟨_, rfl, ?_, ?_⟩))))))
  · exact fun x => nomatch x
  · simpa using h
/-- how two dicts compare, where it is covered -/
def dEq? (G : DH) (x y : D) : Option Bool := match dKof G x, dKof G y with
  | some ks, some ls => if plnKV ks = true ∧ plnKV ls = true ∧ depKV ks = true then some (ks.length == ls.length && hitsD ls ks) else none
  | _, _ => match dTof G x, dTof G y with
    | some ks, some ls => if ks.length ≠ ls.length ∨ ks.length = 0 then some (ks.length == ls.length) else none
    | _, _ => none
theorem dEq_run {k : Nat} (hr : Rm k X.A) {pins : List (Addr × Obj)} {s : Shared} {σ : L2.St} {W : Wd} {x y : D} {v w : V} {u1 u2 : Value} {c : Bool} {Q : Value → Shared → Prop} {Ex : Value → Shared → Prop} (I : Inv X pins σ W.H s) (S : Sim W) (hK : W.K = X.K) (dx : Den W x v) (dy : Den W y w) (r1 : RelV v u1) (r2 : RelV w u2) (e : dEq? W.G x y = some c) :
    (Q (.bool c) s → wpAny (model X.prog X.w) X.A (compareOp .Eq u1 u2) Q Ex s) ∧ (Q (.bool (!c)) s → wpAny (model X.prog X.w) X.A (compareOp .NotEq u1 u2) Q Ex s) := by
  have hu := hr.u200
  unfold dEq? at e
  split at e
  · rename_i ks ls e1 e2
    split at e
    · rename_i c
      cases e
      obtain ⟨a, ws, rfl, h1, h2⟩ := dKof_den S dx e1
      obtain ⟨b, wl, rfl, g1, g2⟩ := dKof_den S dy e2
      obtain rfl : u1 = Value.ref a := r1
      obtain rfl : u2 = Value.ref b := r2
      obtain ⟨_, ya, va, ra, da⟩ := dk_rd I.hok h1
      obtain ⟨_, yb, vb, rb, db⟩ := dk_rd I.hok g1
      have la : va.length = ks.length := by rw [← ra.length, pd_len h2]
      have lb : vb.length = ls.length := by rw [← rb.length, pd_len g2]
      have hh := hits_of (A := X.A.in1) I S hK (by show X.A.units + 1 + 70 < cLine; omega) g2 rb c.2.1 h2 ra c.1 c.2.2
      exact ⟨fun hq => PySem.W.keq_eq ya yb da db (by omega) (fun _ => hh) (by rw [la, lb]; exact hq), fun hq => PySem.W.keq_ne ya yb da db (by omega) (fun _ => hh) (by rw [la, lb]; exact hq)⟩
    · cases e
  · split at e
    · rename_i ks ls e1 e2
      split at e
      · rename_i c
        cases e
        obtain ⟨a, ws, rfl, h1, h2⟩ := dTof_den S dx e1
        obtain ⟨b, wl, rfl, g1, g2⟩ := dTof_den S dy e2
        obtain rfl : u1 = Value.ref a := r1
        obtain rfl : u2 = Value.ref b := r2
        obtain ⟨_, ya, va, ra, oa, es, ep, hoa, xa, hda, hea, _⟩ := dt_rd I.hok h1
        obtain ⟨_, yb, vb, rb, ob, es', ep', hob, xb, hdb, heb, _⟩ := dt_rd I.hok g1
        have la : es.size = ks.length := by rw [size_of_entries hea, ← Paired.length ra, pd_len h2]
        have lb : es'.size = ls.length := by rw [size_of_entries heb, ← Paired.length rb, pd_len g2]
        exact ⟨fun hq => raw_eq ya yb hoa xa hda hob xb hdb (by rw [la, lb]; exact c) (by omega) (by rw [la, lb]; exact hq), fun hq => raw_ne ya yb hoa xa hda hob xb hdb (by rw [la, lb]; exact c) (by omega) (by rw [la, lb]; exact hq)⟩
      · cases e
    · cases e
def eqU (x y : D) (G : DH) : R D := match dEq? G x y with
  | some c => .ok (.bl c) G
  | none => eqOp x y G
def neU (x y : D) (G : DH) : R D := match dEq? G x y with
  | some c => .ok (.bl (!c)) G
  | none => neOp x y G
theorem op_eqU {k : Nat} (hr : Rm k X.A) : OpOk X E (compareOp .Eq) eqU := by
  refine OpOk.of fun pins s σ W x y v w u1 u2 Q I S hK dx dy r1 r2 h => ?_
  unfold eqU at h
  split at h
  · rename_i c e
    exact (dEq_run hr I S hK dx dy r1 r2 e).1 (fin_ep (v := .bl _) I S h (by simp [Den]) rfl)
  · exact (op_eqO hr).run I S hK dx dy r1 r2 h
theorem op_neU {k : Nat} (hr : Rm k X.A) : OpOk X E (compareOp .NotEq) neU := by
  refine OpOk.of fun pins s σ W x y v w u1 u2 Q I S hK dx dy r1 r2 h => ?_
  unfold neU at h
  split at h
  · rename_i c e
    exact (dEq_run hr I S hK dx dy r1 r2 e).2 (fin_ep (v := .bl _) I S h (by simp [Den]) rfl)
  · exact (op_neO hr).run I S hK dx dy r1 r2 h
end
end DL
end
/-! ==== DRepr ==== -/
section
set_option Elab.async false
set_option linter.all false
set_option autoImplicit false
set_option maxRecDepth 100000
set_option maxHeartbeats 4000000
/-! DL: repr of single values, of a written list in which dicts stand; a tuple written, its object known. -/
namespace DL
open PySem PySem.Spec PyProof.Rows L2
section
variable {X : Cx} {E : XK}
/-! ### repr of anything but dicts -/
def reprU (ds : List D) (G : DH) : R D := match ds with
  | [.int i] => if i.natAbs.log2 < 1920 then .ok (.str (PyData.int i).shown) G else .stop
  | [.non] => .ok (.str (PyData.none).shown) G
  | [.str x] => if (PyData.str x).shown.length ≤ sizeLine then .ok (.str (PyData.str x).shown) G else .stop
  | ds => reprO ds G
theorem call_reprU {k : Nat} (hr : Rm k X.A) : CallOk X E (.builtin "repr") reprU := by
  refine CallOk.of fun pins s σ W ds vs us Q I S hK dd rv h => ?_
  unfold reprU at h
  split at h
  · rename_i i
    obtain ⟨v, rfl, d1⟩ := dd.uno
    simp only [Den] at d1
    subst d1
    split at h
    · rename_i c
      simp only [PyData.shown] at h
      exact SkE.call_repr_int pins s σ W.H _ us Q I rv ⟨i, rfl, c, h.here S (by simp [Den])⟩
    · exact h.elim
  · obtain ⟨v, rfl, d1⟩ := dd.uno
    simp only [Den] at d1
    subst d1
    obtain ⟨u, rfl, r1⟩ := rv.one
    obtain rfl : u = Value.none := r1
    simp only [PyData.shown] at h
    exact call_repr_gives (x := Str.ofString "None") (typeIs_none s) PySem.F.slot_NoneType_repr PySem.F.entry_NoneType_repr (PySem.F.args_NoneType_repr_1 _) gives_none_repr (hx := by decide) ⟨.str (Str.ofString "None"), W.H, I.tok _, ⟨_, rfl⟩, h.here S (by simp [Den])⟩
  · rename_i x
    obtain ⟨v, rfl, d1⟩ := dd.uno
    simp only [Den] at d1
    subst d1
    obtain ⟨u, rfl, r1⟩ := rv.one
    obtain ⟨t, rfl⟩ := (show ∃ t, u = Value.str x t from r1)
    split at h
    · rename_i c
      simp only [PyData.shown] at h c
      exact call_repr_gives (x := reprText x) (typeIs_str s x t) PySem.F.slot_str_repr PySem.F.entry_str_repr (PySem.F.args_str_repr_1 _) (gives_str_repr x t) (hx := c) ⟨.str (reprText x), W.H, I.tok _, ⟨_, rfl⟩, h.here S (by simp [Den])⟩
    · exact h.elim
  · obtain ⟨r, hr1, q⟩ := (call_reprO (E := E) hr).out
    exact hr1 pins s σ W.H vs us Q I rv (q W _ vs Q hK S dd h)
/-! ### data with dicts, as it is shown -/
def shK : Key → PyData
  | .inl i => .int i
  | .inr x => .str x
/-- data as it stands, things that may be changed looked up; no list within -/
def shD : Nat → DH → D → PyData
  | _, _, .non => .none
  | _, _, .bl b => .bool b
  | _, _, .int i => .int i
  | _, _, .str x => .str x
  | n + 1, G, .tup xs => .tuple (xs.map (shD n G))
  | n + 1, G, .ktup xs => .tuple (xs.map (shD n G))
  | n + 1, G, .dK kvs => .dict (kvs.map fun p => (shK p.1, shD n G p.2))
  | n + 1, G, .dT kvs => .dict (kvs.map fun p => (.tuple (p.1.map shK), shD n G p.2))
  | n + 1, G, .obj k => (match G[k]? with
    | some (.dK kvs) => .dict (kvs.map fun p => (shK p.1, shD n G p.2))
    | some (.dT kvs) => .dict (kvs.map fun p => (.tuple (p.1.map shK), shD n G p.2))
    | _ => .none)
  | _, _, _ => .none
def shOk : Nat → DH → D → Bool
  | _, _, .non => true
  | _, _, .bl _ => true
  | _, _, .int _ => true
  | _, _, .str _ => true
  | n + 1, G, .tup xs => xs.all (shOk n G)
  | n + 1, G, .ktup xs => xs.all (shOk n G)
  | n + 1, G, .dK kvs => kvs.all fun p => shOk n G p.2
  | n + 1, G, .dT kvs => kvs.all fun p => shOk n G p.2
  | n + 1, G, .obj k => (match G[k]? with
    | some (.dK kvs) => kvs.all fun p => shOk n G p.2
    | some (.dT kvs) => kvs.all fun p => shOk n G p.2
    | _ => false)
  | _, _, _ => false
section
variable {pins : List (Addr × Obj)} {σ : L2.St} {s : Shared} {W : Wd}
theorem reads_keyK {h : Heap} {k : Key} {u : Value} (e : RelV (kV k) u) : Reads h u (shK k) [] := by
  cases k with
  | inl i => obtain ⟨t, rfl⟩ := e; exact .int i t
  | inr x => obtain ⟨t, rfl⟩ := e; exact .str x t
theorem reads_keysK {h : Heap} : ∀ {ks : List Key} {us : List Value}, Vals (ks.map kV) us → ReadsAll h us (ks.map shK) []
  | [], us, r => by rw [List.map_nil] at r; cases r; exact .nil
  | k :: ks, us, r => by
    rw [List.map_cons] at r
    cases r with
    | cons a b => exact .cons (as := []) (bs := []) (reads_keyK a) (reads_keysK b)
/-- what is wanted of one value -/
def RdW (W : Wd) (s : Shared) (n : Nat) (d : D) : Prop := ∀ (v : V) (u : Value), shOk n W.G d = true → Den W d v → RelV v u → ∃ as, Reads s.heap u (shD n W.G d) as ∧ sysModules ∉ as
theorem rds_all {n : Nat} : ∀ {ds : List D} {vs : List V} {us : List Value}, (∀ d ∈ ds, RdW W s n d) → ds.all (shOk n W.G) = true → DenL W ds vs → Vals vs us → ∃ as, ReadsAll s.heap us (ds.map (shD n W.G)) as ∧ sysModules ∉ as
  | [], _, _, _, _, h, r => by simp only [DenL] at h; subst h; cases r; exact ⟨[], .nil, by simp⟩
  | d :: ds, _, _, ih, c, h, r => by
    simp only [DenL] at h
    obtain ⟨v, vs', rfl, h1, h2⟩ := h
    rw [List.all_cons, Bool.and_eq_true] at c
    cases r with
    | cons r1 r2 =>
      obtain ⟨as, q1, n1⟩ := ih d (List.mem_cons_self ..) v _ c.1 h1 r1
      obtain ⟨bs, q2, n2⟩ := rds_all (fun d hd => ih d (List.mem_cons_of_mem _ hd)) c.2 h2 r2
      exact ⟨as ++ bs, .cons q1 q2, by simp [n1, n2]⟩
theorem rds_K {n : Nat} : ∀ {kvs : List (Key × D)} {ws : List (Key × V)} {vs : List (Key × Value)} {es : List DictEntry}, (∀ p ∈ kvs, RdW W s n p.2) → (kvs.all fun p => shOk n W.G p.2) = true → Paired (PD W) kvs ws → KV ws vs → Pairs (mixKind X.prog X.w) es vs →
    ∃ as bs, ReadsAll s.heap (es.map (·.key)) ((kvs.map fun p => (shK p.1, shD n W.G p.2)).map (·.1)) as ∧ ReadsAll s.heap (es.map (·.val)) ((kvs.map fun p => (shK p.1, shD n W.G p.2)).map (·.2)) bs ∧ sysModules ∉ as ∧ sysModules ∉ bs := by
  intro kvs ws vs es ih c r k p
  induction r generalizing vs es with
  | nil => cases k; cases p; exact ⟨[], [], .nil, .nil, by simp, by simp⟩
  | @cons q w qs ws' a t ih2 =>
    cases k with
    | @cons _ v _ vs' b k' =>
      cases p with
      | @cons e _ es' _ e1 e2 p' =>
        rw [List.all_cons, Bool.and_eq_true] at c
        obtain ⟨as, bs, h1, h2, n1, n2⟩ := ih2 (fun p hp => ih p (List.mem_cons_of_mem _ hp)) c.2 k' p'
        obtain ⟨a1, a2⟩ := a
        obtain ⟨b1, b2⟩ := b
        obtain ⟨cs, q1, n3⟩ := ih q (List.mem_cons_self ..) _ _ c.1 a2 b2
        have hk : Reads s.heap e.key (shK q.1) [] := by
          rw [a1, b1]
          exact reads_keyK (relV_key e1)
        refine ⟨[] ++ as, cs ++ bs, .cons hk h1, .cons ?_ h2, by simpa using n1, by simp [n2, n3]⟩
        show Reads s.heap e.val (shD n W.G q.2) cs
        rw [e2]
        exact q1
theorem rds_T {n : Nat} (I : Inv X pins σ W.H s) : ∀ {kvs : List (List Key × D)} {ws : List (List Key × V)} {xs : List (List Key × Addr × Value)}, (∀ p ∈ kvs, RdW W s n p.2) → (kvs.all fun p => shOk n W.G p.2) = true → Paired (PD W) kvs ws → KT W.H ws xs →
    ∃ as bs, ReadsAll s.heap ((xs.map (entryOfKey (tupleKind (mixKind X.prog X.w)))).map (·.key)) ((kvs.map fun p => (PyData.tuple (p.1.map shK), shD n W.G p.2)).map (·.1)) as ∧
      ReadsAll s.heap ((xs.map (entryOfKey (tupleKind (mixKind X.prog X.w)))).map (·.val)) ((kvs.map fun p => (PyData.tuple (p.1.map shK), shD n W.G p.2)).map (·.2)) bs ∧ sysModules ∉ as ∧ sysModules ∉ bs := by
  intro kvs ws xs ih c r k
  unfold KT at k
  induction r generalizing xs with
  | nil => cases k; exact ⟨[], [], .nil, .nil, by simp, by simp⟩
  | @cons q w qs ws' a t ih2 =>
    cases k with
    | @cons _ x _ xs' b k' =>
      rw [List.all_cons, Bool.and_eq_true] at c
      obtain ⟨as, bs, h1, h2, n1, n2⟩ := ih2 (fun p hp => ih p (List.mem_cons_of_mem _ hp)) c.2 k'
      obtain ⟨a1, a2⟩ := a
      obtain ⟨b1, b2, b3⟩ := b
      obtain ⟨cs, q1, n3⟩ := ih q (List.mem_cons_self ..) _ _ c.1 a2 b3
      obtain ⟨_, its, rv, o, g1, g2, m, g3⟩ := I.hok _ _ b2
      have hk : Reads s.heap (.ref x.2.1) (.tuple (q.1.map shK)) [] := by
        refine .tuple g1 g2 g3 ?_
        rw [a1]
        simpa using reads_keysK rv
      exact ⟨[] ++ as, cs ++ bs, .cons hk h1, .cons q1 h2, by simpa using n1, by simp [n2, n3]⟩
theorem sys_ne {a : Addr} (h : (a == sysModules) = false) : sysModules ≠ a := fun z => by rw [z] at h; simp at h
theorem den_reads (I : Inv X pins σ W.H s) (S : Sim W) (hK : W.K = X.K) : ∀ (n : Nat) (d : D), RdW W s n d := by
  intro n
  induction n with
  | zero =>
    intro d v u c h r
    cases d <;> simp only [shOk] at c <;> first | (cases c; done) | skip
    · simp only [Den] at h; subst h; obtain rfl : u = Value.none := r; exact ⟨[], by simp only [shD]; exact .none, by simp⟩
    · simp only [Den] at h; subst h; rename_i b; obtain rfl : u = Value.bool b := r; exact ⟨[], by simp only [shD]; exact .bool b, by simp⟩
    · simp only [Den] at h; subst h; obtain ⟨t, rfl⟩ := r; exact ⟨[], by simp only [shD]; exact .int _ _, by simp⟩
    · simp only [Den] at h; subst h; obtain ⟨t, rfl⟩ := r; exact ⟨[], by simp only [shD]; exact .str _ _, by simp⟩
  | succ n ih =>
    intro d v u c h r
    have goT : ∀ {xs : List D}, tupOf d = some xs → xs.all (shOk n W.G) = true → ∃ as, Reads s.heap u (.tuple (xs.map (shD n W.G))) as ∧ sysModules ∉ as := fun {xs} e c => by
      obtain ⟨a, vs, rfl, h1, h2⟩ := tupOf_den h e
      obtain rfl : u = Value.ref a := r
      rw [hK] at h1
      obtain ⟨its, rv, ⟨o, g1, g2, m, g3⟩⟩ := sq_isTuple I h1
      obtain ⟨as, q, hn⟩ := rds_all (fun d _ => ih d) c h2 rv
      exact ⟨as, .tuple g1 g2 g3 q, hn⟩
    have goK : ∀ {kvs : List (Key × D)}, dKof W.G d = some kvs → (kvs.all fun p => shOk n W.G p.2) = true → ∃ as, Reads s.heap u (.dict (kvs.map fun p => (shK p.1, shD n W.G p.2))) as ∧ sysModules ∉ as := fun {kvs} e c => by
      obtain ⟨a, ws, rfl, h1, h2⟩ := dKof_den S h e
      obtain rfl : u = Value.ref a := r
      obtain ⟨_, hs, vs, rel, o, es, ep, g1, g2, g3, g4, g5, g6⟩ := dk_rd I.hok h1
      obtain ⟨as, bs, q1, q2, n1, n2⟩ := rds_K (fun p _ => ih p.2) c h2 rel g5
      exact ⟨_, .dict g1 g2.1 g3 q1 q2, by simp [n1, n2, sys_ne hs]⟩
    have goD : ∀ {kvs : List (List Key × D)}, dTof W.G d = some kvs → (kvs.all fun p => shOk n W.G p.2) = true → ∃ as, Reads s.heap u (.dict (kvs.map fun p => (.tuple (p.1.map shK), shD n W.G p.2))) as ∧ sysModules ∉ as := fun {kvs} e c => by
      obtain ⟨a, ws, rfl, h1, h2⟩ := dTof_den S h e
      obtain rfl : u = Value.ref a := r
      obtain ⟨_, hs, xs, rel, o, es, ep, g1, g2, g3, g4, _⟩ := (show ObjOk X.prog X.w W.H s.heap a (.dT ws) from h1.ok I.hok)
      obtain ⟨as, bs, q1, q2, n1, n2⟩ := rds_T I (fun p _ => ih p.2) c h2 rel
      rw [← g4] at q1 q2
      exact ⟨_, .dict g1 g2.1 g3 q1 q2, by simp [n1, n2, sys_ne hs]⟩
    cases d with
    | non => simp only [Den] at h; subst h; obtain rfl : u = Value.none := r; exact ⟨[], by simp only [shD]; exact .none, by simp⟩
    | bl b => simp only [Den] at h; subst h; obtain rfl : u = Value.bool b := r; exact ⟨[], by simp only [shD]; exact .bool b, by simp⟩
    | int i => simp only [Den] at h; subst h; obtain ⟨t, rfl⟩ := r; exact ⟨[], by simp only [shD]; exact .int _ _, by simp⟩
    | str x => simp only [Den] at h; subst h; obtain ⟨t, rfl⟩ := r; exact ⟨[], by simp only [shD]; exact .str _ _, by simp⟩
    | tup xs => simp only [shOk] at c; simp only [shD]; exact goT rfl c
    | ktup xs => simp only [shOk] at c; simp only [shD]; exact goT rfl c
    | dK kvs => simp only [shOk] at c; simp only [shD]; exact goK rfl c
    | dT kvs => simp only [shOk] at c; simp only [shD]; exact goD rfl c
    | obj k =>
      simp only [shOk] at c
      simp only [shD]
      split at c
      · rename_i kvs e
        exact goK (by simp only [dKof, e]) c
      · rename_i kvs e
        exact goD (by simp only [dTof, e]) c
      · cases c
    | lst xs => simp only [shOk] at c; cases c
    | frz xs => simp only [shOk] at c; cases c
    | fn nm => simp only [shOk] at c; cases c
    | err nm kvs => simp only [shOk] at c; cases c
end
/-! ### repr([a, ..]) in which dicts stand: one rule for both, as the list's address is new -/
def tLstN (t : TA) : TE := fun σ H Q => t σ H fun xs H1 => xs.length ≤ sizeLine ∧ ∀ p, H1 p = none → sysModules ≠ p → Q (.ref p) (upd H1 p (.lst xs))
theorem pe_lstN {es : List Expr} {t : TA} {pos : Pos} (h : PA X es t) : PE X (.List es pos) (tLstN t) := by
  refine ⟨fun pins s σ H Q I hq => wpAny_List_spliced (thn (h.run pos pins s σ H _ I hq) fun us s1 ⟨xs, H1, I1, r, z, q⟩ => ⟨by rw [← r.length]; exact z, ?_⟩)⟩
  have hf : H1 s1.heap.objs.size = none := I1.hok.fresh (Nat.le_refl _)
  exact ⟨.ref s1.heap.objs.size, upd H1 s1.heap.objs.size (.lst xs), I1.laid (o := .lst xs) (t' := s1.toks) (fun b u e => Heap.get?_push_of_some _ e) (Nat.le_refl _) ⟨z, us, 0, r, Heap.get?_push_size _ rfl⟩, rfl, q _ hf (Nat.ne_of_lt I1.big)⟩
def shL (ds : List D) (G : DH) : PyData := .list (ds.map (shD 9 G))
def reprLF (ds : List D) (G : DH) : R D := if ds.length ≤ sizeLine ∧ ds.all (shOk 9 G) = true ∧ shows (shL ds G) then .ok (.str (shL ds G).shown) G else .stop
theorem call_reprN {k : Nat} (hr : Rm k X.A) : CallR X (.builtin "repr") (fun xs H Q => ∃ (W : Wd) (ds : List D) (vs : List V) (p : Addr), xs = [.ref p] ∧ H = upd W.H p (.lst vs) ∧ W.H p = none ∧ sysModules ≠ p ∧ Sim W ∧ W.K = X.K ∧ DenL W ds vs ∧ Fin Den W E (reprLF ds W.G) Q) := by
  rintro pins s σ H xs us Q I rv ⟨W, ds, vs, p, rfl, rfl, hp, np, S, hK, dl, h⟩
  obtain ⟨u, rfl, r1⟩ := rv.one
  obtain rfl : u = Value.ref p := r1
  unfold reprLF at h
  split at h
  · rename_i c
    obtain ⟨c0, c1, c2, c3, c4⟩ := c
    obtain ⟨x2, S2⟩ := S.lay (.lst vs) hp
    have I2 : Inv X pins σ (W.lay p (.lst vs)).H s := I
    obtain ⟨z, its, n, r', g⟩ := I.hok p _ upd_same
    have all : ds.all (shOk 9 (W.lay p (.lst vs)).G) = true := c1
    obtain ⟨as, q, hn⟩ := rds_all (W := W.lay p (.lst vs)) (fun d _ => den_reads I2 S2 hK 9 d) all (DenL.mono x2 _ _ dl) r'
    have rd : Reads s.heap (.ref p) (shL ds W.G) (p :: as) := .list g rfl rfl q
    have hu := hr.u200
    exact repr_of_reads' rd c2 (fun _ => by simp [hn, np]) hr.gu (by omega) (fun _ _ e => e) (fun h' u tk kp => ⟨.str _, (W.lay p (.lst vs)).H, I2.kept kp, ⟨u, rfl⟩, h _ _ x2 S2 rfl (by simp [Den])⟩) c4
  · exact h.elim
def dReprL (a : DA) : DE := fun s G => (a s G).bind reprLF
theorem de_reprL {k : Nat} {es : List Expr} {fa : DA} {p pos pos2 : Pos} (hr : Rm k X.A) (hg : Gl X "repr") (hm : X.mg "repr" = none) (ha : DAOk X E es fa)
    (he : starEach [Expr.List es pos2] X.env = (false, eval (.List es pos2) X.env) :: starEach [] X.env := by rfl) : DEOk X E (.Call (.Name "repr" p) [.List es pos2] [] pos) (dReprL fa) := by
  obtain ⟨t, pt, q⟩ := ha.out
  refine ⟨_, pe_callB (call_reprN (E := E) hr) hg hm (by decide +kernel) (pa_cons (pe_lstN pt) pa_nil he) (by decide) (by decide) he (by rfl), fun W σ s Q hK S L h => ?_⟩
  refine q W σ s _ hK S L (Fin.seq (RC := Den) h fun ds vs W1 x1 S1 d1 h1 => ?_)
  have hz : ds.length ≤ sizeLine := by
    unfold reprLF at h1
    split at h1
    · rename_i c; exact c.1
    · exact h1.elim
  exact ⟨by rw [d1.len]; exact hz, fun p hp np => ⟨W1, ds, vs, p, rfl, rfl, hp, np, S1, x1.k.trans hK, d1, h1⟩⟩
/-! ### a tuple written, its object known -/
def tTupK (t : TA) : TE := fun σ H Q => t σ H fun xs H1 => xs.length ≤ sizeLine ∧ ∀ (p : Addr) (o : Obj) (its : List Value), H1 p = none → o.cls = .type "tuple" → o.dict = none → o.data = .seq its.toArray 0 → Vals xs its → Q (.ref p) (upd H1 p (.frz o (.tup xs)))
theorem pe_tupK {es : List Expr} {x1 : Nat} {t : TA} {pos : Pos} (h : PA X es t) : PE X (.Tuple es x1 pos) (tTupK t) := by
  refine ⟨fun pins s σ H Q I hq => wpAny_Tuple_spliced (thn (h.run pos pins s σ H _ I hq) fun us s1 ⟨xs, H1, I1, r, z, q⟩ => ⟨by rw [← r.length]; exact z, ?_⟩)⟩
  have hf : H1 s1.heap.objs.size = none := I1.hok.fresh (Nat.le_refl _)
  have hg : (s1.heap.push { cls := .type "tuple", data := .seq us.toArray }).get? s1.heap.objs.size = some { cls := .type "tuple", data := .seq us.toArray } := Heap.get?_push_size _ rfl
  exact ⟨.ref s1.heap.objs.size, upd H1 s1.heap.objs.size (.frz { cls := .type "tuple", data := .seq us.toArray } (.tup xs)), I1.laid (o := .frz { cls := .type "tuple", data := .seq us.toArray } (.tup xs)) (t' := s1.toks) (fun b u e => Heap.get?_push_of_some _ e) (Nat.le_refl _) ⟨hg, z, us, r, ⟨_, hg, rfl, _, rfl⟩⟩, rfl, q _ _ us hf rfl rfl rfl r⟩
def dTupK (a : DA) : DE := fun s G => (a s G).bind fun xs G => if xs.length ≤ sizeLine then .ok (.ktup xs) G else .stop
theorem de_tupK {es : List Expr} {f : DA} {x1 : Nat} {pos : Pos} (ha : DAOk X E es f) : DEOk X E (.Tuple es x1 pos) (dTupK f) := by
  obtain ⟨t, pt, q⟩ := ha.out
  refine ⟨_, pe_tupK pt, fun W σ s Q hK S L h => ?_⟩
  refine q W σ s _ hK S L (Fin.seq (RC := Den) h fun xs vs W1 x1 S1 d1 h1 => ?_)
  split at h1
  · rename_i c
    refine ⟨by rw [d1.len]; exact c, fun p o its hp h2 h3 h4 rv => ?_⟩
    obtain ⟨x2, S2⟩ := S1.lay (.frz o (.tup vs)) hp
    refine h1 (.ref p) _ x2 S2 rfl ?_
    simp only [Den]
    refine ⟨p, vs, rfl, ⟨o, its.toArray, 0, .inr upd_same, h2, h3, h4, ?_, by simpa using rv⟩, DenL.mono x2 _ _ d1⟩
    simp only [List.size_toArray, ← rv.length, d1.len]
    exact c
  · exact h1.elim
end
end DL
end
/-! ==== DComp ==== -/
section
set_option Elab.async false
set_option linter.all false
set_option autoImplicit false
set_option maxRecDepth 100000
set_option maxHeartbeats 4000000
/-! DL: dict displays and comprehensions (keys ints and texts), walks of dicts. -/
namespace DL
open PySem PySem.Spec PyProof.Rows L2
section
variable {X : Cx} {E : XK}
/-! ### what the machine has made: dicts -/
theorem fin_madeK {W0 W : Wd} {o : Bool} {kvs : List (Key × D)} {ws : List (Key × V)} {a : Addr} {Q : VK} (S : Sim W) (x : Ext W0 W) (h0 : W0.H a = none) (n0 : ¬ W0.hid a) (ha : W.hid a) (e : W.H a = some (.dK ws)) (r : Paired (PD W) kvs ws)
    (h : Fin Den W0 E (mkK o kvs W.G) Q) : Q (.ref a) W.H := by
  cases o with
  | false =>
    obtain ⟨x1, x2, S1⟩ := S.show_ x n0
    refine h (.ref a) (W.show_ a) x1 S1 rfl ?_
    simp only [Den]
    exact ⟨a, ws, rfl, S.show_not_own ha, .inl e, DenK.mono0 x2 _ _ (denK_pd.mpr r)⟩
  | true =>
    obtain ⟨x1, S1⟩ := S.adopt (d := .dK kvs) x h0 n0 ha fun W' y e' => ⟨ws, by rw [e']; exact e, DenK.mono0 y _ _ (denK_pd.mpr r)⟩
    refine h (.ref a) (W.adopt a (.dK kvs)) x1 S1 rfl ?_
    simp only [Den]
    exact ⟨a, by show (W.p ++ [a])[W.G.length]? = some a; rw [← S.len]; simp, rfl⟩
theorem pd_mono {κ : Type} {W W' : Wd} (x : Ext0 W W') {kvs : List (κ × D)} {ws : List (κ × V)} (r : Paired (PD W) kvs ws) : Paired (PD W') kvs ws := by
  induction r with
  | nil => exact .nil
  | cons a _ ih => exact .cons ⟨a.1, Den.mono0 x _ _ a.2⟩ ih
/-! ### displays -/
abbrev DPr := List (DE × DE)
def evP : DPr → DSl → DH → R (List (D × D))
  | [], _, G => .ok [] G
  | (k, v) :: r, s, G => (k s G).bind fun x G => (v s G).bind fun y G => (evP r s G).bind fun ps G => .ok ((x, y) :: ps) G
abbrev DenPs (W : Wd) : List (D × D) → List (V × V) → Prop := Paired fun p q => Den W p.1 q.1 ∧ Den W p.2 q.2
theorem denPs_mono {W W' : Wd} (x : Ext0 W W') {ps : List (D × D)} {vs : List (V × V)} (r : DenPs W ps vs) : DenPs W' ps vs := by
  unfold DenPs at r
  induction r with
  | nil => exact .nil
  | cons a _ ih => exact .cons ⟨Den.mono0 x _ _ a.1, Den.mono0 x _ _ a.2⟩ ih
structure DPsOk (X : Cx) (E : XK) (pos : Pos) (keys : List (Option Expr)) (values : List Expr) (f : DPr) : Prop where
  out : ∃ trs : List (TE × TE), PPs X pos keys values trs ∧ ∀ (W : Wd) (σ : L2.St) (s : DSl) (Q : List (V × V) → Hp → Prop), W.K = X.K → Sim W → Sl W σ s → Fin DenPs W E (evP f s W.G) Q → tPairs trs σ W.H Q
theorem dps_nil {pos : Pos} : DPsOk X E pos [] [] [] := ⟨[], pps_nil, fun W σ s Q hK S L h => Fin.here (RA := DenPs) S h .nil⟩
theorem dps_cons {pos : Pos} {k v : Expr} {ks : List (Option Expr)} {vs : List Expr} {fk fv : DE} {f : DPr} (hk : DEOk X E k fk) (hv : DEOk X E v fv) (hr : DPsOk X E pos ks vs f) : DPsOk X E pos (some k :: ks) (v :: vs) ((fk, fv) :: f) := by
  obtain ⟨tk, pk, qk⟩ := hk.out
  obtain ⟨tv, pv, qv⟩ := hv.out
  obtain ⟨tr, pr, qr⟩ := hr.out
  refine ⟨_, pps_cons pk pv pr, fun W σ s Q hK S L h => ?_⟩
  refine qk W σ s _ hK S L (Fin.seq (RC := DenPs) h fun x u W1 x1 S1 d1 h1 => ?_)
  refine qv W1 σ s _ (x1.k.trans hK) S1 (L.mono x1) (Fin.seq (RC := DenPs) h1 fun y w W2 x2 S2 d2 h2 => ?_)
  refine qr W2 σ s _ (x2.k.trans (x1.k.trans hK)) S2 ((L.mono x1).mono x2) (Fin.seq (RC := DenPs) h2 fun ps vs W3 x3 S3 d3 h3 => ?_)
  exact Fin.here (RA := DenPs) S3 h3 (.cons ⟨Den.mono (x2.trans x3) _ _ d1, Den.mono x3 _ _ d2⟩ d3)
def keysP : List (D × D) → Option (List (Key × D))
  | [] => some []
  | (k, v) :: r => match keyK k, keysP r with
    | some q, some t => some ((q, v) :: t)
    | _, _ => none
theorem keysP_den {W : Wd} : ∀ {ps : List (D × D)} {vs : List (V × V)} {kvs : List (Key × D)}, DenPs W ps vs → keysP ps = some kvs → ∃ ws : List (Key × V), vs = ws.map (fun kv => (kV kv.1, kv.2)) ∧ Paired (PD W) kvs ws := by
  intro ps vs kvs r
  unfold DenPs at r
  induction r generalizing kvs with
  | nil => intro e; cases e; exact ⟨[], rfl, .nil⟩
  | @cons p q ps qs a t ih =>
    intro e
    obtain ⟨p1, p2⟩ := p
    unfold keysP at e
    split at e
    · rename_i k r e1 e2
      cases e
      obtain ⟨ws, rfl, h⟩ := ih e2
      exact ⟨(k, q.2) :: ws, by rw [List.map_cons, ← keyK_den a.1 e1], .cons ⟨rfl, a.2⟩ h⟩
    · cases e
def dDispK (o : Bool) (f : DPr) : DE := fun s G => (evP f s G).bind fun ps G => match keysP ps with
  | some kvs => if kvs.length ≤ 15 then mkK o (mergeD [] kvs) G else .stop
  | none => .stop
theorem de_dispK (o : Bool) {pos : Pos} {keys : List (Option Expr)} {values : List Expr} {f : DPr} (h : DPsOk X E pos keys values f) (hall : keys.all (·.isSome) = true := by rfl) (hl : keys.length = values.length := by rfl) (h0 : keys ≠ [] := by intro h; cases h)
    (h15 : keys.length ≤ 15 := by decide) : DEOk X E (.Dict keys values pos) (dDispK o f) := by
  obtain ⟨trs, pt, q⟩ := h.out
  refine ⟨_, pe_disp pt hall hl h0 h15, fun W σ s Q hK S L h => ?_⟩
  intro p hp
  have n0 : ¬ W.hid p := fun z => S.not_own_of_none hp (.inr z)
  obtain ⟨x1, S1⟩ := S.hide (o := .dK []) hp trivial
  refine q (W.hide p (.dK [])) σ s _ hK S1 (L.mono x1) (Fin.seq0 (RC := Den) (RA := DenPs) x1 h fun ps vs W2 x2 S2 d2 h2 => ?_)
  obtain ⟨c1, c2⟩ := x2.h p (.dK []) (.inr rfl) upd_same
  refine ⟨c2, ?_⟩
  split at h2
  · rename_i kvs e
    obtain ⟨ws, rfl, r⟩ := keysP_den d2 e
    split at h2
    · rename_i hl
      refine ⟨ws, rfl, by rw [pd_len r]; exact hl, ?_⟩
      obtain ⟨y1, y2, S3⟩ := S2.grow (o := .dK (mergeV [] ws)) (x1.trans x2) hp n0 c1 trivial
      exact fin_madeK S3 y1 hp n0 c1 upd_same (pd_mono y2 (pd_merge r .nil)) h2
    · exact h2.elim
  · exact h2.elim
/-! ### comprehensions -/
def dcL (g : DG) (tt : DT) (tk tv : DE) (s0 : DSl) : List D → List (Key × D) → DH → R (List (Key × D))
  | [], acc, G => .ok acc G
  | d :: ds, acc, G => (g d s0 G).bind fun s1 G => (tt s1 G).bind fun b G => if b = true then (tk s1 G).bind fun y G => (tv s1 G).bind fun z G => match keyK y with
    | some k => if acc.length < sizeLine then dcL g tt tk tv s0 ds (setK acc k z) G else .stop
    | none => .stop else dcL g tt tk tv s0 ds acc G
def dDc (o : Bool) (vs : List Nat) (it : DA) (g : DG) (tt : DT) (tk tv : DE) : DE := fun s G => (it s G).bind fun ds G => (dcL g tt tk tv (wipeD s vs) ds [] G).bind fun kvs G => mkK o kvs G
theorem dc_out {K : PySem.W.Frag} {o : Bool} {vs : List Nat} {fi : DA} {g : DG} {tt : DT} {tk tv : DE} {wi : TI} {tg : TG} {ttt : TT} {ttk ttv : TE}
    (qi : ∀ (W : Wd) (σ : L2.St) (s : DSl) (R : It → Hp → Prop), W.K = K → Sim W → Sl W σ s → IFin W E (fi s W.G) R → wi σ W.H R)
    (qg : ∀ (W : Wd) (σ : L2.St) (s : DSl) (d : D) (v : V) (Q : L2.St → Hp → Prop), W.K = K → Sim W → Sl W σ s → Den W d v → Fin (fun W s σ' => Sl W σ' s ∧ Kp vs σ σ') W E (g d s W.G) Q → tg v σ W.H Q)
    (qt : ∀ (W : Wd) (σ : L2.St) (s : DSl) (Q : Bool → Hp → Prop), W.K = K → Sim W → Sl W σ s → Fin RB W E (tt s W.G) Q → ttt σ W.H Q)
    (qk : ∀ (W : Wd) (σ : L2.St) (s : DSl) (Q : VK), W.K = K → Sim W → Sl W σ s → Fin Den W E (tk s W.G) Q → ttk σ W.H Q)
    (qv : ∀ (W : Wd) (σ : L2.St) (s : DSl) (Q : VK), W.K = K → Sim W → Sl W σ s → Fin Den W E (tv s W.G) Q → ttv σ W.H Q) :
    ∀ (W : Wd) (σ : L2.St) (s : DSl) (Q : VK), W.K = K → Sim W → Sl W σ s → Fin Den W E (dDc o vs fi g tt tk tv s W.G) Q → tDc wi tg ttt ttk ttv vs σ W.H Q := by
  intro W σ s Q hK S L h
  refine qi W σ s _ hK S L (Fin.iseq h fun ds J W0 x0 S0 w h0 => ?_)
  have hK0 : W0.K = K := x0.k.trans hK
  intro a ha
  have n0 : ¬ W0.hid a := fun z => S0.not_own_of_none ha (.inr z)
  have L0 : Sl W0 σ s := L.mono x0
  refine ⟨fun i m H => ∃ (W1 : Wd) (acc : List (Key × D)) (va : List (Key × V)), W1.H = H ∧ Ext W0 W1 ∧ Sim W1 ∧ W1.hid a ∧ W1.H a = some (.dK va) ∧ Paired (PD W1) acc va ∧ m = ds.length - i ∧ i ≤ ds.length ∧
    Fin Den W0 E ((dcL g tt tk tv (wipeD s vs) (ds.drop i) acc W1.G).bind fun kvs G => mkK o kvs G) Q, ⟨ds.length, ?_⟩, ?_⟩
  · obtain ⟨x1, S1⟩ := S0.hide (o := .dK []) ha trivial
    exact ⟨_, [], [], rfl, x1, S1, .inr rfl, upd_same, .nil, by simp, Nat.zero_le _, h0⟩
  · rintro i m H ⟨W1, acc, va, rfl, x1, S1, ha1, ea, ra, rfl, hi, h1⟩
    by_cases hlt : i < ds.length
    · have ed : ds.drop i = ds[i] :: ds.drop (i + 1) := List.drop_eq_getElem_cons hlt
      rw [ed] at h1
      obtain ⟨hgo, hyl⟩ := w.go i W1 ds[i] (List.getElem?_eq_getElem hlt) x1 S1
      refine .inr ⟨hgo, fun H' => ∃ (W1 : Wd) (acc : List (Key × D)) (va : List (Key × V)), W1.H = H' ∧ Ext W0 W1 ∧ Sim W1 ∧ W1.hid a ∧ W1.H a = some (.dK va) ∧ Paired (PD W1) acc va ∧
        Fin Den W0 E ((dcL g tt tk tv (wipeD s vs) (ds.drop (i + 1)) acc W1.G).bind fun kvs G => mkK o kvs G) Q, fun H' ⟨W', c, v, e1, e2, e3, e4, e5, e6, e7⟩ => ⟨ds.length - (i + 1), by omega, W', c, v, e1, e2, e3, e4, e5, e6, rfl, hlt, e7⟩, fun x H' y => ?_⟩
      obtain ⟨W2, rfl, x2, S2, eG, r2⟩ := hyl x H' y
      rw [← eG] at h1
      unfold dcL at h1
      rw [R.bind_assoc] at h1
      have x02 := x1.trans x2
      refine qg W2 (wipe σ vs) (wipeD s vs) _ x _ (x02.k.trans hK0) S2 (wipe_sl (L0.mono x02) vs) r2 (Fin.seq0 x02 h1 fun s3 σ3 W3 x3 S3 L3 h3 => ?_)
      refine ⟨wipe_kp L3.2, ?_⟩
      rw [R.bind_assoc] at h3
      have x03 := x02.trans x3
      refine qt W3 σ3 s3 _ (x03.k.trans hK0) S3 L3.1 (Fin.seq0 (RA := RB) x03 h3 fun b b' W4 x4 S4 eb h4 => ?_)
      obtain rfl : b = b' := eb
      have x04 := x03.trans x4
      have x14 := (x2.trans x3).trans x4
      cases b with
      | false =>
        rw [if_neg Bool.false_ne_true] at h4 ⊢
        obtain ⟨c1, c2⟩ := x14.h a _ ha1 ea
        exact ⟨W4, acc, va, rfl, x04, S4, c1, c2, pd_mono x14.toExt0 ra, h4⟩
      | true =>
        rw [if_pos rfl] at h4 ⊢
        rw [R.bind_assoc] at h4
        refine qk W4 σ3 s3 _ (x04.k.trans hK0) S4 (L3.1.mono x4) (Fin.seq0 (RA := Den) x04 h4 fun y v W5 x5 S5 d5 h5 => ?_)
        rw [R.bind_assoc] at h5
        have x05 := x04.trans x5
        refine qv W5 σ3 s3 _ (x05.k.trans hK0) S5 ((L3.1.mono x4).mono x5) (Fin.seq0 (RA := Den) x05 h5 fun z u W6 x6 S6 d6 h6 => ?_)
        have x06 := x05.trans x6
        have x16 := (x14.trans x5).trans x6
        obtain ⟨c1, c2⟩ := x16.h a _ ha1 ea
        split at h6
        · rename_i k ek
          split at h6
          · rename_i c
            obtain rfl := keyK_den d5 ek
            refine ⟨va, k, rfl, c2, by rw [pd_len ra]; exact c, ?_⟩
            obtain ⟨g1, g2, g3⟩ := S6.grow (o := .dK (putK va k u)) x06 ha n0 c1 trivial
            exact ⟨_, setK acc k z, putK va k u, rfl, g1, g3, c1, upd_same, pd_put (pd_mono g2 (pd_mono x16.toExt0 ra)) (Den.mono0 g2 _ _ d6), h6⟩
          · exact h6.elim
        · exact h6.elim
    · have ei : i = ds.length := by omega
      subst ei
      rw [List.drop_length] at h1
      exact .inl ⟨w.stop W1 x1 S1, fin_madeK S1 x1 ha n0 ha1 ea ra h1⟩
theorem de_dc (o : Bool) {kx vx tg iter : Expr} {ifs : List Expr} {scope : Scope} {own : List (Str × Nat)} {pos : Pos} {fi : DA} {g : DG} {tt : DT} {tk tv : DE} (hc : X.calm = true) (hN : X.N.Nodup) (hi : DIOk X E tg iter fi) (ok : BlkOk X.N X.env.scope scope own)
    (hg : ∀ (s : Shared) (H : Hp) (C : Addr) (cl : List (Str × Addr)) (fp : List Addr), DHOk (X.blk s H scope (compEnvC scope cl C X.env) fp) E tg (own.map (·.2)) g)
    (ht : ∀ (s : Shared) (H : Hp) (C : Addr) (cl : List (Str × Addr)) (fp : List Addr), DTsOk (X.blk s H scope (compEnvC scope cl C X.env) fp) E ifs tt)
    (hk : ∀ (s : Shared) (H : Hp) (C : Addr) (cl : List (Str × Addr)) (fp : List Addr), DEOk (X.blk s H scope (compEnvC scope cl C X.env) fp) E kx tk)
    (hv : ∀ (s : Shared) (H : Hp) (C : Addr) (cl : List (Str × Addr)) (fp : List Addr), DEOk (X.blk s H scope (compEnvC scope cl C X.env) fp) E vx tv)
    (hs : ∀ x, foldedSetIterable iter X.env x = pure x := by intro _; rfl) : DEOk X E (.DictComp kx vx [⟨tg, iter, ifs, 0⟩] scope pos) (dDc o (own.map (·.2)) fi g tt tk tv) := by
  obtain ⟨wi, pi, qi⟩ := hi.out
  refine ⟨_, pe_dc (g := cG X.K E (own.map (·.2)) g) (tt := cT X.K E tt) (tk := cE X.K E tk) (tv := cE X.K E tv) hc hN pi ok (fun s H C cl fp => (hg s H C cl fp).pg) (fun s H C cl fp => (ht s H C cl fp).pt) (fun s H C cl fp => (hk s H C cl fp).pe) (fun s H C cl fp => (hv s H C cl fp).pe) hs, dc_out (K := X.K) qi ?_ ?_ ?_ ?_⟩
  · exact fun W σ s d v Q hK S L r h => ⟨W, s, d, rfl, hK, S, L, r, h⟩
  · exact fun W σ s Q hK S L h => ⟨W, s, rfl, hK, S, L, h⟩
  · exact fun W σ s Q hK S L h => ⟨W, s, rfl, hK, S, L, h⟩
  · exact fun W σ s Q hK S L h => ⟨W, s, rfl, hK, S, L, h⟩
end
end DL
end
/-! ==== DWalks ==== -/
section
set_option Elab.async false
set_option linter.all false
set_option autoImplicit false
set_option maxRecDepth 100000
set_option maxHeartbeats 4000000
/-! DL: walks of dicts: by keys, items, values; a thing locked while an expression runs. -/
namespace DL
open PySem PySem.Spec PyProof.Rows L2
/-! ### locking -/
/-- a dict that is never changed is locked -/
theorem Sim.lockV {W : Wd} (S : Sim W) {a : Addr} {o : Obj} {u : HO} (no : ¬ W.own a) (e : W.H a = some u) (hu : (∃ ws, u = .dK ws) ∨ ∃ ws, u = .dT ws) : Ext W (W.lay a (.frz o u)) ∧ Sim (W.lay a (.frz o u)) := by
  have ne : ∀ {b v}, W.H b = some v → (∀ ws, v ≠ .dK ws) → (∀ ws, v ≠ .dT ws) → b ≠ a := fun {b v} e' n1 n2 z => by
    rw [z, e] at e'
    cases e'
    rcases hu with ⟨ws, rfl⟩ | ⟨ws, rfl⟩
    · exact n1 ws rfl
    · exact n2 ws rfl
  have up : ∀ {b v}, b ≠ a → W.H b = some v → upd W.H a (.frz o u) b = some v := fun n e => (upd_ne n).trans e
  have nk : ∀ {b}, W.kp b → b ≠ a := fun {b} hb z => by
    obtain ⟨_, v, e', k⟩ := S.kp b hb
    rw [z, e] at e'
    cases e'
    rcases hu with ⟨ws, rfl⟩ | ⟨ws, rfl⟩ <;> exact k
  have x : Ext W (W.lay a (.frz o u)) := by
    refine ⟨⟨rfl, ⟨[], by simp [Wd.lay]⟩, fun b vs hl e' => ⟨hl, up (ne e' (by intro _ z; cases z) (by intro _ z; cases z)) e'⟩, fun b vs e' => up (ne e' (by intro _ z; cases z) (by intro _ z; cases z)) e', fun b ob vs e' => up (ne e' (by intro _ z; cases z) (by intro _ z; cases z)) e', fun b ob vs e' => up (ne e' (by intro _ z; cases z) (by intro _ z; cases z)) e',
      fun b ws hl e' => ⟨hl, ?_⟩, fun b ws hl e' => ⟨hl, ?_⟩, fun b v hh e' => ⟨hh, up (nk hh) e'⟩⟩, fun b v hh e' => ⟨hh, up (fun z => no (.inr (z ▸ hh))) e'⟩, fun b ob ws e' => up (ne e' (by intro _ z; cases z) (by intro _ z; cases z)) e', fun b ob ws e' => up (ne e' (by intro _ z; cases z) (by intro _ z; cases z)) e'⟩
    all_goals
      by_cases hb : b = a
      · subst hb
        rcases e' with e' | ⟨o', e'⟩
        · rw [e] at e'
          cases e'
          exact .inr ⟨o, upd_same⟩
        · rw [e] at e'
          cases e'
          rcases hu with ⟨ws, z⟩ | ⟨ws, z⟩ <;> cases z
      · exact e'.imp (up hb) fun ⟨ob, q⟩ => ⟨ob, up hb q⟩
  refine ⟨x, S.len, fun n v e' al => ?_, fun b hb => ?_, S.apart, S.inj, fun b hb => let ⟨h1, v, e', k⟩ := S.kp b hb; ⟨h1, v, up (nk hb) e', k⟩⟩
  · obtain ⟨b, pb, r⟩ := S.at_ n v e' al
    refine ⟨b, pb, r.mono x.toExt0 (upd_ne fun z => no (.inl ⟨n, v, e', al, z ▸ pb⟩))⟩
  · have n : b ≠ a := fun z => no (.inr (z ▸ hb))
    obtain ⟨u, e', k⟩ := S.hid b hb
    exact ⟨u, up n e', k⟩
/-- a locked thing is free again -/
theorem Sim.unlock {W0 W : Wd} (S : Sim W) (x : Ext W0 W) {n : Nat} {a : Addr} {o : Obj} {u v : HO} {d d' : DO} (e0 : W0.H a = some v) (h0 : (∃ ws, v = .dK ws) ∨ ∃ ws, v = .dT ws) (pn : W.p[n]? = some a) (e : W.G[n]? = some d) (al : d.alive = true) (eh : W.H a = some (.frz o u)) (hu : (∃ ws, u = .dK ws) ∨ ∃ ws, u = .dT ws)
    (hr : ∀ W', Ext0 W W' → W'.H = upd W.H a u → ORel W' d' a) (al' : d'.alive = true) : Ext W0 (W.put n a u d') ∧ Ext0 W (W.put n a u d') ∧ Sim (W.put n a u d') := by
  have la : W.live a := ⟨n, d, e, al, pn⟩
  have na : ∀ {b}, ¬ W.own b → b ≠ a := fun hl z => hl (z ▸ .inl la)
  have nl : ∀ {b}, ¬ W.own b → ¬ (W.put n a u d').own b := fun hl q => q.elim (fun q => hl (.inl (Wd.live_put e al q))) fun q => hl (.inr q)
  have up : ∀ {b v}, b ≠ a → W.H b = some v → upd W.H a u b = some v := fun n e => (upd_ne n).trans e
  have nf : ∀ {b v}, W.H b = some v → (∀ o' ws, v ≠ .frz o' (.dK ws)) → (∀ o' ws, v ≠ .frz o' (.dT ws)) → b ≠ a := fun {b v} e' n1 n2 z => by
    rw [z, eh] at e'
    cases e'
    rcases hu with ⟨ws, rfl⟩ | ⟨ws, rfl⟩
    · exact n1 _ _ rfl
    · exact n2 _ _ rfl
  have nh : ∀ {b}, W.hid b → b ≠ a := fun hb z => S.apart _ hb (z ▸ la)
  have x1 : Ext0 W (W.put n a u d') := ⟨rfl, ⟨[], by simp [Wd.put]⟩, fun b vs hl e' => ⟨nl hl, up (na hl) e'⟩, fun b vs e' => up (nf e' (by intro _ _ z; cases z) (by intro _ _ z; cases z)) e', fun b ob vs e' => up (nf e' (by intro _ _ z; cases z) (by intro _ _ z; cases z)) e', fun b ob vs e' => up (nf e' (by intro _ _ z; cases z) (by intro _ _ z; cases z)) e',
    fun b ws hl e' => ⟨nl hl, e'.imp (up (na hl)) fun ⟨ob, e'⟩ => ⟨ob, up (na hl) e'⟩⟩, fun b ws hl e' => ⟨nl hl, e'.imp (up (na hl)) fun ⟨ob, e'⟩ => ⟨ob, up (na hl) e'⟩⟩, fun b v hh e' => ⟨hh, up (na (S.kp b hh).1) e'⟩⟩
  have n0 : ∀ {b o' w}, W0.H b = some (.frz o' w) → b ≠ a := fun {b o' w} e' z => by
    rw [z, e0] at e'
    rcases h0 with ⟨ws, rfl⟩ | ⟨ws, rfl⟩ <;> cases e'
  refine ⟨⟨x.toExt0.trans x1, fun b v hh e' => ?_, fun b ob ws e' => up (n0 e') (x.fk _ _ _ e'), fun b ob ws e' => up (n0 e') (x.fd _ _ _ e')⟩, x1, by simp [Wd.put, S.len], fun m v e1 al1 => ?_, fun b hb => ?_, fun b hb z => S.apart b hb (Wd.live_put e al z), fun m k v w b e1 e2 a1 a2 p1 p2 => ?_, fun b hb => let ⟨h1, v, e', k⟩ := S.kp b hb; ⟨nl h1, v, up (na h1) e', k⟩⟩
  · obtain ⟨h1, e1⟩ := x.h b v hh e'
    exact ⟨h1, up (nh h1) e1⟩
  · have e1' : (W.G.set n d')[m]? = some v := e1
    by_cases hm : n = m
    · subst hm
      rw [List.getElem?_set_self (List.getElem?_eq_some_iff.mp e).1] at e1'
      cases e1'
      exact ⟨a, pn, hr _ x1 rfl⟩
    · rw [List.getElem?_set_ne hm] at e1'
      obtain ⟨b, pb, r⟩ := S.at_ m v e1' al1
      exact ⟨b, pb, r.mono x1 (upd_ne fun z => hm (S.inj n m d v a e e1' al al1 pn (z ▸ pb)))⟩
  · obtain ⟨u, e', k⟩ := S.hid b hb
    exact ⟨u, up (nh hb) e', k⟩
  · have nth : ∀ {m : Nat} {v : DO}, (W.G.set n d')[m]? = some v → v.alive = true → ∃ v', W.G[m]? = some v' ∧ v'.alive = true := fun {m v} e' al' => by
      by_cases hm : n = m
      · subst hm; exact ⟨d, e, al⟩
      · rw [List.getElem?_set_ne hm] at e'; exact ⟨v, e', al'⟩
    obtain ⟨v', q1, r1⟩ := nth e1 a1
    obtain ⟨w', q2, r2⟩ := nth e2 a2
    exact S.inj m k v' w' b q1 q2 r1 r2 p1 p2
section
variable {X : Cx} {E : XK}
/-! ### the dict at d is locked, if it is not yet -/
def tLkV (td : TE) : TE := fun σ H Q => td σ H fun x H1 => ∃ d u, x = .ref d ∧ ((∃ o, H1 d = some (.frz o u) ∧ Q x H1) ∨ (H1 d = some u ∧ Mut (some u) ∧ ∀ o, Q x (upd H1 d (.frz o u))))
theorem pe_lkV {e : Expr} {td : TE} (he : PE X e td) : PE X e (tLkV td) := by
  refine ⟨fun pins s σ H Q I h => thn (he.run pins s σ H _ I h) fun v s1 ⟨x, H1, I1, rx, d, u, ex, q⟩ => ?_⟩
  rcases q with ⟨o, e, q⟩ | ⟨e, mu, q⟩
  · exact ⟨x, H1, I1, rx, q⟩
  · obtain ⟨od, I2⟩ := I1.lock e mu
    exact ⟨x, _, I2, rx, q od⟩
/-- a dict that may be walked: a value, or a locked thing -/
def wkK (G : DH) : D → Option (List (Key × D))
  | .dK kvs => some kvs
  | .obj n => (match G[n]? with
    | some (.lkK kvs) => some kvs
    | _ => none)
  | _ => none
def wkT (G : DH) : D → Option (List (List Key × D))
  | .dT kvs => some kvs
  | .obj n => (match G[n]? with
    | some (.lkT kvs) => some kvs
    | _ => none)
  | _ => none
theorem lk_K {W : Wd} {d : D} {v : V} {kvs : List (Key × D)} (S : Sim W) (r : Den W d v) (e : wkK W.G d = some kvs) {Q : V → Hp → Prop} (h : ∀ (a : Addr) (o : Obj) (ws : List (Key × V)) (W' : Wd), v = .ref a → Ext W W' → Sim W' → W'.G = W.G → W'.H a = some (.frz o (.dK ws)) → Paired (PD W') kvs ws → Q (.ref a) W'.H) :
    ∃ d u, v = .ref d ∧ ((∃ o, W.H d = some (.frz o u) ∧ Q v W.H) ∨ (W.H d = some u ∧ Mut (some u) ∧ ∀ o, Q v (upd W.H d (.frz o u)))) := by
  cases d with
  | dK ks =>
    simp only [wkK, Option.some.injEq] at e
    subst e
    simp only [Den] at r
    obtain ⟨a, ws, rfl, no, h1, h2⟩ := r
    refine ⟨a, .dK ws, rfl, ?_⟩
    rcases h1 with h1 | ⟨o, h1⟩
    · refine .inr ⟨h1, trivial, fun o => ?_⟩
      obtain ⟨x, S'⟩ := S.lockV (o := o) no h1 (.inl ⟨ws, rfl⟩)
      exact h a o ws _ rfl x S' rfl upd_same (pd_mono x.toExt0 (denK_pd.mp h2))
    · exact .inl ⟨o, h1, h a o ws W rfl (Ext.refl W) S rfl h1 (denK_pd.mp h2)⟩
  | obj n =>
    simp only [wkK] at e
    split at e
    · rename_i ks e1
      cases e
      simp only [Den] at r
      obtain ⟨a, pn, rfl⟩ := r
      obtain ⟨b, pb, o, ws, q1, q2⟩ := S.at_ n _ e1 rfl
      rw [pn] at pb; cases pb
      exact ⟨a, .dK ws, rfl, .inl ⟨o, q1, h a o ws W rfl (Ext.refl W) S rfl q1 (denK_pd.mp q2)⟩⟩
    · cases e
  | _ => cases e
theorem lk_T {W : Wd} {d : D} {v : V} {kvs : List (List Key × D)} (S : Sim W) (r : Den W d v) (e : wkT W.G d = some kvs) {Q : V → Hp → Prop} (h : ∀ (a : Addr) (o : Obj) (ws : List (List Key × V)) (W' : Wd), v = .ref a → Ext W W' → Sim W' → W'.G = W.G → W'.H a = some (.frz o (.dT ws)) → Paired (PD W') kvs ws → Q (.ref a) W'.H) :
    ∃ d u, v = .ref d ∧ ((∃ o, W.H d = some (.frz o u) ∧ Q v W.H) ∨ (W.H d = some u ∧ Mut (some u) ∧ ∀ o, Q v (upd W.H d (.frz o u)))) := by
  cases d with
  | dT ks =>
    simp only [wkT, Option.some.injEq] at e
    subst e
    simp only [Den] at r
    obtain ⟨a, ws, rfl, no, h1, h2⟩ := r
    refine ⟨a, .dT ws, rfl, ?_⟩
    rcases h1 with h1 | ⟨o, h1⟩
    · refine .inr ⟨h1, trivial, fun o => ?_⟩
      obtain ⟨x, S'⟩ := S.lockV (o := o) no h1 (.inr ⟨ws, rfl⟩)
      exact h a o ws _ rfl x S' rfl upd_same (pd_mono x.toExt0 (denT_pd.mp h2))
    · exact .inl ⟨o, h1, h a o ws W rfl (Ext.refl W) S rfl h1 (denT_pd.mp h2)⟩
  | obj n =>
    simp only [wkT] at e
    split at e
    · rename_i ks e1
      cases e
      simp only [Den] at r
      obtain ⟨a, pn, rfl⟩ := r
      obtain ⟨b, pb, o, ws, q1, q2⟩ := S.at_ n _ e1 rfl
      rw [pn] at pb; cases pb
      exact ⟨a, .dT ws, rfl, .inl ⟨o, q1, h a o ws W rfl (Ext.refl W) S rfl q1 (denT_pd.mp q2)⟩⟩
    · cases e
  | _ => cases e
/-- for k in d -/
def iKeyD (f : DE) : DA := fun s G => (f s G).bind fun d G => match wkK G d with
  | some kvs => .ok (kvs.map fun kv => kD kv.1) G
  | none => (match wkT G d with
    | some kvs => .ok (kvs.map fun kv => D.tup (kv.1.map kD)) G
    | none => .stop)
theorem pd_at {κ : Type} [DecidableEq κ] {W : Wd} : ∀ {kvs : List (κ × D)} {ws : List (κ × V)} {i : Nat} {k : κ} {v : V}, Paired (PD W) kvs ws → ws[i]? = some (k, v) → ∃ d, kvs[i]? = some (k, d) ∧ Den W d v := by
  intro kvs ws i k v r
  induction r generalizing i with
  | nil => intro e; simp at e
  | @cons p q ps qs a t ih =>
    intro e
    cases i with
    | zero =>
      simp only [List.getElem?_cons_zero, Option.some.injEq] at e
      subst e
      obtain ⟨p1, p2⟩ := p
      obtain ⟨a1, a2⟩ := a
      exact ⟨p2, by simp only [List.getElem?_cons_zero]; rw [show p1 = k from a1], a2⟩
    | succ j =>
      simp only [List.getElem?_cons_succ] at e ⊢
      exact ih e
theorem di_key {tg e : Expr} {f : DE} (he : DEOk X E e f) : DIOk X E tg e (iKeyD f) := by
  obtain ⟨te, pe, q⟩ := he.out
  refine ⟨_, pi_keys (pe_lkV pe), fun W σ s R hK S L h => ?_⟩
  refine q W σ s _ hK S L (IFin.seq h fun d v W1 x1 S1 r1 h1 => ?_)
  split at h1
  · rename_i kvs e
    refine lk_K (Q := fun x H1 => ∃ d o, x = V.ref d ∧ ((∃ kvs, H1 d = some (HO.frz o (HO.dK kvs)) ∧ R (Itk d o kvs) H1) ∨ ∃ kvs, H1 d = some (HO.frz o (HO.dT kvs)) ∧ R (Itkt d o kvs) H1)) S1 r1 e fun a o ws W2 ev x2 S2 eG eh pr => ⟨a, o, rfl, .inl ⟨ws, eh, ?_⟩⟩
    refine h1 _ W2 x2 S2 eG (DWalk.of walk_keys (by rw [List.length_map, pd_len pr]) (fun W3 x3 S3 => x3.fk _ _ _ eh) fun i W3 d x H' e xt S3 y => ?_)
    obtain ⟨rfl, k, v, e1, rfl⟩ := y
    obtain ⟨d', e2, _⟩ := pd_at pr e1
    rw [List.getElem?_map, e2] at e
    cases e
    exact ⟨W3, rfl, Ext.refl W3, S3, rfl, kD_den k⟩
  · split at h1
    · rename_i kvs e
      refine lk_T (Q := fun x H1 => ∃ d o, x = V.ref d ∧ ((∃ kvs, H1 d = some (HO.frz o (HO.dK kvs)) ∧ R (Itk d o kvs) H1) ∨ ∃ kvs, H1 d = some (HO.frz o (HO.dT kvs)) ∧ R (Itkt d o kvs) H1)) S1 r1 e fun a o ws W2 ev x2 S2 eG eh pr => ⟨a, o, rfl, .inr ⟨ws, eh, ?_⟩⟩
      refine h1 _ W2 x2 S2 eG (DWalk.of walk_keysT (by rw [List.length_map, pd_len pr]) (fun W3 x3 S3 => x3.fd _ _ _ eh) fun i W3 d x H' e xt S3 y => ?_)
      obtain ⟨rfl, k, v, b, e1, rfl, hb⟩ := y
      obtain ⟨d', e2, _⟩ := pd_at pr e1
      rw [List.getElem?_map, e2] at e
      cases e
      refine ⟨W3, rfl, Ext.refl W3, S3, rfl, ?_⟩
      simp only [Den]
      exact ⟨b, _, rfl, hb, kDs_den k⟩
    · exact h1.elim
/-- for k, v in d.items() -/
def iItmD (f : DE) : DA := fun s G => (f s G).bind fun d G => match wkK G d with
  | some kvs => .ok (kvs.map fun kv => D.tup [kD kv.1, kv.2]) G
  | none => .stop
theorem di_items {e : Expr} {f : DE} {apos cpos tpos : Pos} {elts : List Expr} {kk : Nat} (he : DEOk X E e f) (hbase : attributeBase e "items" X.env (eval e X.env) = eval e X.env := by rfl) (hline : (apos.endLine == cpos.line) = true := by rfl) :
    DIOk X E (.Tuple elts kk tpos) (.Call (.Attribute e "items" apos) [] [] cpos) (iItmD f) := by
  obtain ⟨te, pe, q⟩ := he.out
  refine ⟨_, pi_items (pe_lkV pe) hbase hline, fun W σ s R hK S L h => ?_⟩
  refine q W σ s _ hK S L (IFin.seq h fun d v W1 x1 S1 r1 h1 => ?_)
  split at h1
  · rename_i kvs e
    refine lk_K (Q := fun x H1 => ∃ d o kvs, x = V.ref d ∧ H1 d = some (.frz o (.dK kvs)) ∧ R (Iti d o kvs) H1) S1 r1 e fun a o ws W2 ev x2 S2 eG eh pr => ⟨a, o, ws, rfl, eh, ?_⟩
    refine h1 _ W2 x2 S2 eG (DWalk.of walk_items (by rw [List.length_map, pd_len pr]) (fun W3 x3 S3 => x3.fk _ _ _ eh) fun i W3 d x H' e xt S3 y => ?_)
    rw [List.getElem?_map] at e
    obtain ⟨⟨k, d'⟩, e1, rfl⟩ := Option.map_eq_some_iff.mp e
    refine YPair_den (W0 := W3) S3 y (fun v hv => ?_) fun v hv => ?_
    · obtain ⟨⟨k2, v2⟩, e2, rfl⟩ := Option.map_eq_some_iff.mp hv
      obtain ⟨d2, e3, _⟩ := pd_at pr e2
      rw [e1] at e3; cases e3
      exact kD_den k
    · obtain ⟨⟨k2, v2⟩, e2, rfl⟩ := Option.map_eq_some_iff.mp hv
      obtain ⟨d2, e3, e4⟩ := pd_at pr e2
      rw [e1] at e3; cases e3
      exact Den.mono xt _ _ e4
  · exact h1.elim
/-- for v in d.values() -/
def iValD (f : DE) : DA := fun s G => (f s G).bind fun d G => match wkK G d with
  | some kvs => .ok (kvs.map fun kv => kv.2) G
  | none => .stop
theorem di_values {tg e : Expr} {f : DE} {apos cpos : Pos} (he : DEOk X E e f) (hbase : attributeBase e "values" X.env (eval e X.env) = eval e X.env := by rfl) (hline : (apos.endLine == cpos.line) = true := by rfl) :
    DIOk X E tg (.Call (.Attribute e "values" apos) [] [] cpos) (iValD f) := by
  obtain ⟨te, pe, q⟩ := he.out
  refine ⟨_, pi_values (pe_lkV pe) hbase hline, fun W σ s R hK S L h => ?_⟩
  refine q W σ s _ hK S L (IFin.seq h fun d v W1 x1 S1 r1 h1 => ?_)
  split at h1
  · rename_i kvs e
    refine lk_K (Q := fun x H1 => ∃ d o kvs, x = V.ref d ∧ H1 d = some (.frz o (.dK kvs)) ∧ R (Itd d o kvs) H1) S1 r1 e fun a o ws W2 ev x2 S2 eG eh pr => ⟨a, o, ws, rfl, eh, ?_⟩
    refine h1 _ W2 x2 S2 eG (DWalk.of walk_values (by rw [List.length_map, pd_len pr]) (fun W3 x3 S3 => x3.fk _ _ _ eh) fun i W3 d x H' e xt S3 y => ?_)
    obtain ⟨rfl, k, e1⟩ := y
    obtain ⟨d', e2, e3⟩ := pd_at pr e1
    rw [List.getElem?_map, e2] at e
    cases e
    exact ⟨W3, rfl, Ext.refl W3, S3, rfl, Den.mono xt _ _ e3⟩
  · exact h1.elim
/-! ### an expression, while a thing that may be changed is locked -/
def dLock (i : Nat) (f : DE) : DE := fun s G => match s[i]? with
  | some (some (.obj n)) => (match G[n]? with
    | some (.dK kvs) => (f s (G.set n (.lkK kvs))).bind fun v G' => (match G'[n]? with
      | some (.lkK kvs') => .ok v (G'.set n (.dK kvs'))
      | _ => .stop)
    | some (.dT kvs) => (f s (G.set n (.lkT kvs))).bind fun v G' => (match G'[n]? with
      | some (.lkT kvs') => .ok v (G'.set n (.dT kvs'))
      | _ => .stop)
    | _ => f s G)
  | _ => f s G
theorem pe_or {e : Expr} {t t' : TE} (h : PE X e t) (h' : PE X e t') : PE X e (fun σ H Q => t σ H Q ∨ t' σ H Q) :=
  ⟨fun pins s σ H Q I q => q.elim (h.run pins s σ H Q I) (h'.run pins s σ H Q I)⟩
theorem de_lock (i : Nat) {e : Expr} {f : DE} (he : DEOk X E e f) : DEOk X E e (dLock i f) := by
  obtain ⟨t, p, q⟩ := he.out
  refine ⟨_, pe_or p (pe_lock p), fun W σ s Q hK S L h => ?_⟩
  unfold dLock at h
  split at h
  · rename_i n es
    obtain ⟨v, _, dv⟩ := L.2 i _ es
    split at h
    · rename_i kvs eg
      obtain ⟨a, ws, rfl, pn, e1, pr⟩ := obj_K S dv eg
      refine .inr ⟨a, .dK ws, e1, trivial, fun od => ?_⟩
      obtain ⟨x2, S2⟩ := S.put (o := .frz od (.dK ws)) (d := .lkK kvs) eg rfl pn fun W' y' e' => ⟨od, ws, by rw [e']; exact upd_same, DenK.mono y' _ _ (denK_pd.mpr pr)⟩
      refine q (W.put n a (.frz od (.dK ws)) (.lkK kvs)) σ s _ hK S2 (L.mono x2) (Fin.seq0 (RC := Den) (RA := Den) x2 h fun x u W3 x3 S3 d3 h3 => ?_)
      have eh : W3.H a = some (.frz od (.dK ws)) := x3.fk a od ws upd_same
      refine ⟨eh, ?_⟩
      split at h3
      · rename_i kvs' eg'
        obtain ⟨t, et⟩ := x3.p
        have pn3 : W3.p[n]? = some a := by
          rw [et]
          show (W.p ++ t)[n]? = some a
          rw [List.getElem?_append_left (List.getElem?_eq_some_iff.mp pn).1]
          exact pn
        obtain ⟨b, pb, o', ws', g1, g2⟩ := S3.at_ n _ eg' rfl
        rw [pn3] at pb; cases pb
        rw [eh] at g1; cases g1
        obtain ⟨y1, y2, S4⟩ := S3.unlock (d' := .dK kvs') (x2.trans x3) e1 (.inl ⟨ws, rfl⟩) pn3 eg' rfl eh (.inl ⟨ws, rfl⟩) (fun W' z e' => ⟨ws, by rw [e']; exact upd_same, DenK.mono0 z _ _ g2⟩) rfl
        exact h3 u _ y1 S4 rfl (Den.mono0 y2 _ _ d3)
      · exact h3.elim
    · rename_i kvs eg
      obtain ⟨a, ws, rfl, pn, e1, pr⟩ := obj_T S dv eg
      refine .inr ⟨a, .dT ws, e1, trivial, fun od => ?_⟩
      obtain ⟨x2, S2⟩ := S.put (o := .frz od (.dT ws)) (d := .lkT kvs) eg rfl pn fun W' y' e' => ⟨od, ws, by rw [e']; exact upd_same, DenT.mono y' _ _ (denT_pd.mpr pr)⟩
      refine q (W.put n a (.frz od (.dT ws)) (.lkT kvs)) σ s _ hK S2 (L.mono x2) (Fin.seq0 (RC := Den) (RA := Den) x2 h fun x u W3 x3 S3 d3 h3 => ?_)
      have eh : W3.H a = some (.frz od (.dT ws)) := x3.fd a od ws upd_same
      refine ⟨eh, ?_⟩
      split at h3
      · rename_i kvs' eg'
        obtain ⟨t, et⟩ := x3.p
        have pn3 : W3.p[n]? = some a := by
          rw [et]
          show (W.p ++ t)[n]? = some a
          rw [List.getElem?_append_left (List.getElem?_eq_some_iff.mp pn).1]
          exact pn
        obtain ⟨b, pb, o', ws', g1, g2⟩ := S3.at_ n _ eg' rfl
        rw [pn3] at pb; cases pb
        rw [eh] at g1; cases g1
        obtain ⟨y1, y2, S4⟩ := S3.unlock (d' := .dT kvs') (x2.trans x3) e1 (.inr ⟨ws, rfl⟩) pn3 eg' rfl eh (.inr ⟨ws, rfl⟩) (fun W' z e' => ⟨ws, by rw [e']; exact upd_same, DenT.mono0 z _ _ g2⟩) rfl
        exact h3 u _ y1 S4 rfl (Den.mono0 y2 _ _ d3)
      · exact h3.elim
    · exact .inl (q W σ s Q hK S L h)
  · exact .inl (q W σ s Q hK S L h)
end
end DL
end
/-! ==== DDefs2 ==== -/
section
set_option Elab.async false
set_option linter.all false
set_option autoImplicit false
set_option maxRecDepth 100000
set_option maxHeartbeats 4000000
/-! DL: defs with keyword-only parameters; tuples of texts and ints at the module's top. -/
namespace DL
open PySem PySem.Spec PyProof.Rows L2
/-- a def as the top has written it, called by keywords alone -/
structure KRaw (K : PySem.W.Frag) (mg : Str → Option Value) (x : Str) (st : Stmt) (ps : List Str) : Prop where
  ex : ∃ (f : Addr) (fd : FuncData), Fun K x x st f fd ∧ mg x = some (.ref f) ∧ PySem.W.keepIn K (.ref f) = true
structure KDef (P : Program) (w : World) (K : PySem.W.Frag) (mg : Str → Option Value) (base : Heap) (k : Nat) (x : Str) (st : Stmt) (ps : List Str) (F : DFn) : Prop where
  ex : ∃ (f : Addr) (fd : FuncData), Fun K x x st f fd ∧ mg x = some (.ref f) ∧ PySem.W.keepIn K (.ref f) = true ∧ DFok P w K mg base CX0 k f fd ps F
section
variable {P : Program} {w : World} {K : PySem.W.Frag} {mg : Str → Option Value} {base : Heap} {x : Str} {st : Stmt} {ps : List Str}
theorem KRaw.made {k : Nat} {F : DFn} (h : KRaw K mg x st ps) (hf : ∀ {f : Addr} {fd : FuncData}, Fun K x x st f fd → DFok P w K mg base CX0 k f fd ps F) : KDef P w K mg base k x st ps F :=
  let ⟨f, fd, a, b, c⟩ := h.ex
  ⟨f, fd, a, b, c, hf a⟩
theorem kraw_mk {h : Heap} {f : Addr} {oc : Value} {od an : Option Addr} {osl : Array (Option Value)} {kV doc pm cdv ct : Value} (X : K.In h) (G : h.Ns mainGlobals mg) (a : PySem.W.nsIn K mainGlobals x = some (some (.ref f)))
    (l : K.lookup f = some ⟨oc, od, .func (PySem.W.fnOf x x (defArgs st) (defBody st) (defScope st) .none kV doc pm an cdv ct), osl⟩) (c : PySem.W.codeIn K cdv x = true) (k : PySem.W.keepIn K (.ref f) = true) : KRaw K mg x st ps :=
  ⟨f, _, fun_mk l c k, PySem.W.mg_of X G a, k⟩
/-- a tuple of the module's top -/
def TupC (K : PySem.W.Frag) (mg : Str → Option Value) (y : Str) (ds : List D) : Prop :=
  ∃ (a : Addr) (o : Obj) (its : Array Value) (n : Nat) (vs : List V), mg y = some (.ref a) ∧ K.lookup a = some o ∧ o.cls = .type "tuple" ∧ o.dict = none ∧ o.data = .seq its n ∧ its.size ≤ sizeLine ∧ Vals vs its.toList ∧ ∀ W, DenL W ds vs
/-- an item written -/
inductive ItC : Value → D → V → Prop
  | int (i : Int) (t : Tok) : ItC (.int i t) (.int i) (.int i)
  | str (x : Str) (t : Tok) : ItC (.str x t) (.str x) (.str x)
  | non : ItC .none .non .non
theorem itC_den {u : Value} {d : D} {v : V} (h : ItC u d v) : RelV v u ∧ ∀ W, Den W d v := by
  cases h with
  | int i t => exact ⟨⟨t, rfl⟩, fun W => by simp [Den]⟩
  | str x t => exact ⟨⟨t, rfl⟩, fun W => by simp [Den]⟩
  | non => exact ⟨rfl, fun W => by simp [Den]⟩
inductive ItCs : List Value → List D → List V → Prop
  | nil : ItCs [] [] []
  | cons {u : Value} {d : D} {v : V} {us : List Value} {ds : List D} {vs : List V} : ItC u d v → ItCs us ds vs → ItCs (u :: us) (d :: ds) (v :: vs)
theorem itCs_den {us : List Value} {ds : List D} {vs : List V} (h : ItCs us ds vs) : Vals vs us ∧ ∀ W, DenL W ds vs := by
  induction h with
  | nil => exact ⟨.nil, fun W => by simp [DenL]⟩
  | cons a _ ih => exact ⟨.cons (itC_den a).1 ih.1, fun W => by simp only [DenL]; exact ⟨_, _, rfl, (itC_den a).2 W, ih.2 W⟩⟩
theorem tupC_mk {h : Heap} {y : Str} {a : Addr} {its : List Value} {n : Nat} {sl : Array (Option Value)} {ds : List D} {vs : List V} (X : K.In h) (G : h.Ns mainGlobals mg) (z : PySem.W.nsIn K mainGlobals y = some (some (.ref a)))
    (l : K.lookup a = some ⟨.type "tuple", none, .seq its.toArray n, sl⟩) (hz : its.length ≤ sizeLine) (hi : ItCs its ds vs) : TupC K mg y ds :=
  ⟨a, _, its.toArray, n, vs, PySem.W.mg_of X G z, l, rfl, rfl, rfl, by simpa using hz, by simpa using (itCs_den hi).1, (itCs_den hi).2⟩
end
section
variable {X : Cx} {E : XK} {k j : Nat} {y : Str} {st : Stmt} {ps : List Str} {F : DFn}
theorem de_callKK {ks : List Str} {np nk : Nat} {perm : List Nat} {p pos : Pos} {e : Expr} {es : List Expr} {kws : List Keyword} {fa fk : DA} (h : KDef X.prog X.w X.K X.mg X.base j y st ps F) (hr : Rm k X.A) (hj : j ≤ k) (hb : KwBinds y st ps ks np nk perm)
    (ha : DAOk X E (e :: es) fa) (hkw : DKOk X E kws fk) (hg : Gl X y := by rfl) (hall : (backToKw pos (keywordEach kws X.env)).all (·.1.isSome) = true := by rfl) (hks : (backToKw pos (keywordEach kws X.env)).filterMap (·.1) = ks := by rfl)
    (hdb : (y == ("__debug__" : Str)) = false := by decide) (he : starEach (e :: es) X.env = (false, eval e X.env) :: starEach es X.env := by rfl)
    (hpl : ((backTo pos (starEach (e :: es) X.env)).any (·.1) || (backToKw pos (keywordEach kws X.env)).any (·.1.isNone)) = false := by rfl) :
    DEOk X E (.Call (.Name y p) (e :: es) kws pos) (dCallK np nk perm F fa fk) := by
  obtain ⟨f, fd, a, b, c, q⟩ := h.ex
  exact de_callK q (hr.mono hj) hg b c (kw_binds a hb) passX ha hkw hall hks hdb he hpl
theorem de_gtup {ds : List D} {pos : Pos} (h : TupC X.K X.mg y ds) (hg : Gl X y := by rfl) (hdb : (y == ("__debug__" : Str)) = false := by decide) : DEOk X E (.Name y pos) (dC (.ktup ds)) := by
  obtain ⟨a, o, its, n, vs, h1, h2, h3, h4, h5, h6, h7, h8⟩ := h
  refine de_glob (v := .ref a) hg h1 rfl (fun W S hK => ?_) hdb
  simp only [Den]
  exact ⟨a, vs, rfl, ⟨o, its, n, .inl (by rw [hK]; exact h2), h3, h4, h5, h6, h7⟩, h8 W⟩
end
end DL
end
/-! ==== DFree ==== -/
section
set_option Elab.async false
set_option linter.all false
set_option autoImplicit false
set_option maxRecDepth 100000
set_option maxHeartbeats 4000000
/-! DL: a thing that may be changed is set down: from here on it is a value. -/
namespace DL
open PySem PySem.Spec PyProof.Rows L2
section
variable {X : Cx} {E : XK}
def freeO (d : D) (G : DH) : R D := match d with
  | .obj n => (match G[n]? with
    | some (.lst xs) => .ok (.lst xs) (G.set n .dead)
    | some (.dK kvs) => .ok (.dK kvs) (G.set n .dead)
    | some (.dT kvs) => .ok (.dT kvs) (G.set n .dead)
    | _ => .ok d G)
  | _ => .ok d G
def dFree (f : DE) : DE := fun s G => (f s G).bind freeO
theorem de_free {e : Expr} {f : DE} (he : DEOk X E e f) : DEOk X E e (dFree f) := by
  obtain ⟨t, p, q⟩ := he.out
  refine ⟨t, p, fun W σ s Q hK S L h => q W σ s Q hK S L (Fin.seq h fun d v W1 x1 S1 dv h1 => ?_)⟩
  unfold freeO at h1
  split at h1
  · rename_i n
    obtain ⟨x2, S2⟩ := S1.drop n
    split at h1
    · rename_i xs e
      obtain ⟨a, ws, rfl, pn, e1, pr⟩ := obj_L S1 dv e
      refine h1 _ (W1.drop n) x2 S2 rfl ?_
      simp only [Den]
      exact ⟨a, ws, rfl, S1.drop_not_own e rfl pn, e1, DenL.mono x2 _ _ pr⟩
    · rename_i kvs e
      obtain ⟨a, ws, rfl, pn, e1, pr⟩ := obj_K S1 dv e
      refine h1 _ (W1.drop n) x2 S2 rfl ?_
      simp only [Den]
      exact ⟨a, ws, rfl, S1.drop_not_own e rfl pn, .inl e1, DenK.mono x2 _ _ (denK_pd.mpr pr)⟩
    · rename_i kvs e
      obtain ⟨a, ws, rfl, pn, e1, pr⟩ := obj_T S1 dv e
      refine h1 _ (W1.drop n) x2 S2 rfl ?_
      simp only [Den]
      exact ⟨a, ws, rfl, S1.drop_not_own e rfl pn, .inl e1, DenT.mono x2 _ _ (denT_pd.mpr pr)⟩
    · exact h1.here S1 dv
  · exact h1.here S1 dv
end
@[simp] theorem dFree_s (f : DE) (s : DSl) (G : DH) : dFree f s G = (f s G).bind freeO := (rfl)
end DL
end
/-! ==== DStar ==== -/
section
set_option Elab.async false
set_option linter.all false
set_option autoImplicit false
set_option maxRecDepth 100000
set_option maxHeartbeats 4000000
/-! DL: a tuple taken apart, the last name taking the rest. -/
namespace DL
open PySem PySem.Spec PyProof.Rows L2
theorem star_run {prog : Program} {w : World} {A : Around} {E0 : Value → Shared → Prop} {s : Shared} {env : Env} {es : List Expr} {kt : Nat} {ps : Pos} {x : Addr} {its : Array Value} {n : Nat} {Q : Unit → Shared → Prop}
    (h0 : A.handled = none) (ix : IsTup s.heap x its) (el : (assignEach es env).length = n + 1) (ef : (assignEach es env).findIdx? (·.1) = some n) (le : n ≤ its.size) (sz : its.size ≤ sizeLine)
    (go : ∀ (g : Heap) (tk : Nat), (∀ b o, s.heap.get? b = some o → g.get? b = some o) → wpAny (model prog w) A (assignInOrder ((assignEach es env).map (·.2)) (its.toList.take n ++ [.ref g.objs.size])) Q E0 { s with heap := g.push { cls := .type "list", data := .seq (its.toList.drop n).toArray }, toks := tk }) :
    wpAny (model prog w) A (assign (.Tuple es kt ps) env (.ref x)) Q E0 s := by
  have nx : x ≠ s.heap.objs.size := by obtain ⟨o, e, _⟩ := ix; exact Nat.ne_of_lt (Heap.lt_size e)
  have lx : x < s.heap.objs.size := by obtain ⟨o, e, _⟩ := ix; exact Heap.lt_size e
  rw [assign_Tuple]
  refine wpAny_bind (wpAny_standAt ?_)
  unfold unpack unpackItems notIterableAtAll
  rw [el, ef]
  refine wpAny_bind (wpAny_holding (wpAny_bind (wpAny_bind (wpAny_specialOf ix.typeIs slot_tuple_iter.lookup (wpAny_pure ?_)))))
  simp only [if_false, Bool.false_eq_true]
  refine wpAny_bind (wpAny_holding (iter_tuple ix ?_))
  refine wpAny_bind (wpAny_holding (draw_tuple nx n 0 _ _ ⟨_, Heap.get?_push_size _ rfl, rfl, rfl⟩ (ix.push _) (by omega) fun g1 i1 b1 => ?_))
  have x1 : IsTup g1 x its := (ix.push _).extBut b1.extBut nx
  rw [Nat.zero_add] at i1
  have lI : s.heap.objs.size < g1.objs.size := by obtain ⟨o, e, _⟩ := id i1; exact Heap.lt_size e
  have lx1 : x < g1.objs.size := by obtain ⟨o, e, _⟩ := id x1; exact Heap.lt_size e
  rw [List.drop_zero]
  have fl : (its.toList.take n).length = n := by rw [List.length_take, Array.length_toList]; omega
  have rl : (its.toList.drop n).length = its.size - n := by rw [List.length_drop, Array.length_toList]
  rw [if_neg (by rw [fl]; exact Nat.lt_irrefl _)]
  refine wpAny_bind (wpAny_holding (PySem.W.kun_collect (s := { s with heap := g1 }) (T := "tuple_iterator") (.inr (.inr (.inr rfl))) (Walks.tuple (A := A.in1) h0 s.heap.objs.size x nx its) (fun j u st => st.1.typeIs) (k := n) le ⟨i1, x1⟩ lI lx1 (fun g2 tk b2 => ?_) sz))
  have z0 : n + 1 - 1 - n = 0 := by omega
  simp only [z0, Nat.not_lt_zero, if_false, Nat.sub_zero, List.take_length, List.drop_length, List.append_nil]
  have kp : ∀ b o, s.heap.get? b = some o → g2.get? b = some o := fun b o e => by
    have hb : b ≠ s.heap.objs.size := Nat.ne_of_lt (Heap.lt_size e)
    exact b2 b o hb (b1.extBut b o hb (Heap.get?_push_of_some _ e))
  refine wpAny_bind (wpAny_newList (s := { s with heap := g2, toks := tk }) ?_ (by rw [rl]; omega))
  exact wpAny_pure (go g2 tk kp)
section
variable {X : Cx} {E : XK}
def gTupSK (K : PySem.W.Frag) (n : Nat) (t : TGs) : TG := fun v σ H Q => ∃ a xs, v = .ref a ∧ SqT K H a xs ∧ n ≤ xs.length ∧ ∀ p, H p = none → t (xs.take n ++ [.ref p]) σ (upd H p (.lst (xs.drop n))) Q
theorem pg_tupS {es : List Expr} {k : Nat} {t : TGs} {n : Nat} {pos : Pos} (hc : X.calm = true) (h : PGs X es t) (hn : (assignEach es X.env).length = n + 1) (hst : (assignEach es X.env).findIdx? (·.1) = some n) : PG X (.Tuple es k pos) (gTupSK X.K n t) := by
  refine ⟨fun pins s σ H v u Q I r hw => ?_⟩
  obtain ⟨a, xs, rfl, hq, le, hw⟩ := hw
  cases r
  obtain ⟨its, rv, it, hz⟩ := I.tuple hq
  have ln := rv.length
  refine star_run (I.ok.hd hc) it hn hst (by rw [List.size_toArray]; omega) (by rw [List.size_toArray]; omega) fun g tk kp => ?_
  have I1 : Inv X pins σ H { s with heap := g, toks := tk } := I.kept kp
  have I2 := I1.laid (o := .lst (xs.drop n)) (h' := g.push { cls := .type "list", data := .seq (its.drop n).toArray }) (t' := tk) (fun b o q => Heap.get?_push_of_some _ q) (Nat.le_refl _) ⟨by rw [List.length_drop]; omega, its.drop n, 0, rv.drop n, Heap.get?_push_size _ rfl⟩
  exact h.run pins _ σ _ _ _ Q I2 ((rv.take n).append (.cons (by first | exact .ref _ | constructor) .nil)) (hw _ (I1.hok.fresh (Nat.le_refl _)))
def gTupS (n : Nat) (g : DGs) : DG := fun d s G => match tupOf d with
  | some xs => if n ≤ xs.length then g (xs.take n ++ [.lst (xs.drop n)]) s G else .stop
  | none => .stop
theorem dg_tupS {es : List Expr} {k : Nat} {g : DGs} {n : Nat} {pos : Pos} (hc : X.calm = true) (h : DGsOk X E es g) (hn : (assignEach es X.env).length = n + 1 := by rfl) (hst : (assignEach es X.env).findIdx? (·.1) = some n := by rfl) : DGOk X E (.Tuple es k pos) (gTupS n g) := by
  obtain ⟨t, p, q⟩ := h.out
  refine ⟨_, pg_tupS hc p hn hst, fun W σ s d v Q hK S L r h => ?_⟩
  unfold gTupS at h
  split at h
  · rename_i xs e
    obtain ⟨a, vs, rfl, h1, h2⟩ := tupOf_den r e
    split at h
    · rename_i c
      refine ⟨a, vs, rfl, by rw [← hK]; exact h1, by rw [h2.len]; exact c, fun p hp => ?_⟩
      obtain ⟨x, S'⟩ := S.lay (.lst (vs.drop n)) hp
      have no : ¬ W.own p := S.not_own_of_none hp
      have dl : DenL (W.lay p (.lst (vs.drop n))) (xs.drop n) (vs.drop n) := DenL.mono x _ _ (h2.drop n)
      refine q (W.lay p (.lst (vs.drop n))) σ s _ _ Q hK S' (L.mono x) ((DenL.mono x _ _ (h2.take n)).app (DenL.one ?_)) (Fin.mono x h)
      simp only [Den]
      exact ⟨p, _, rfl, no, upd_same, dl⟩
    · exact h.elim
  · exact h.elim
theorem dgs_star {t : Expr} {es : List Expr} {p : Pos} {g : DGs} (h : DGsOk X E (t :: es) g) (hs : (assignEach (.Starred t p :: es) X.env).map (·.2) = (assignEach (t :: es) X.env).map (·.2) := by rfl) : DGsOk X E (.Starred t p :: es) g := by
  obtain ⟨tt, q, r⟩ := h.out
  refine ⟨tt, ⟨fun pins s σ H vs us Q I rv hw => ?_⟩, r⟩
  rw [hs]
  exact q.run pins s σ H vs us Q I rv hw
end
@[simp] theorem gTupS_s (n : Nat) (g : DGs) (d : D) (s : DSl) (G : DH) : gTupS n g d s G = match tupOf d with
  | some xs => if n ≤ xs.length then g (xs.take n ++ [.lst (xs.drop n)]) s G else .stop
  | none => .stop := (rfl)
/-- an expression that is not reached, or not covered -/
def dStop : DE := fun _ _ => .stop
theorem de_stop {X : Cx} {E : XK} {e : Expr} : DEOk X E e dStop := ⟨fun _ _ _ => False, ⟨fun _ _ _ _ _ _ h => h.elim⟩, fun _ _ _ _ _ _ _ h => h⟩
end DL
end
/-! ==== DSort ==== -/
section
set_option Elab.async false
set_option linter.all false
set_option autoImplicit false
set_option maxRecDepth 100000
set_option maxHeartbeats 4000000
/-! DL: sorted(d.items()), d a dict of ints by texts. -/
namespace DL
open PySem PySem.Spec PyProof.Rows L2
open PySem.W (EachIs AllAlike Sortable dataLe list_sort_data)
abbrev SI := List (Str × Int)
def siE (q : Str × Int) : Key × D := (.inr q.1, .int q.2)
def siD (q : Str × Int) : D := .tup [.str q.1, .int q.2]
/-- a dict's entries, as texts and ints -/
def strInts : List (Key × D) → Option SI
  | [] => some []
  | (.inr x, .int i) :: r => (strInts r).map ((x, i) :: ·)
  | _ :: _ => none
theorem strInts_eq : ∀ {kvs : List (Key × D)} {qs : SI}, strInts kvs = some qs → kvs = qs.map siE
  | [], qs, h => by simp [strInts] at h; subst h; rfl
  | (.inr x, .int i) :: r, qs, h => by
    simp only [strInts] at h
    obtain ⟨qs', h1, rfl⟩ := Option.map_eq_some_iff.mp h
    rw [strInts_eq h1]; rfl
  | (.inl _, _) :: _, _, h => by simp [strInts] at h
  | (.inr _, .non) :: _, _, h => by simp [strInts] at h
  | (.inr _, .bl _) :: _, _, h => by simp [strInts] at h
  | (.inr _, .str _) :: _, _, h => by simp [strInts] at h
  | (.inr _, .tup _) :: _, _, h => by simp [strInts] at h
  | (.inr _, .ktup _) :: _, _, h => by simp [strInts] at h
  | (.inr _, .lst _) :: _, _, h => by simp [strInts] at h
  | (.inr _, .frz _) :: _, _, h => by simp [strInts] at h
  | (.inr _, .dK _) :: _, _, h => by simp [strInts] at h
  | (.inr _, .dT _) :: _, _, h => by simp [strInts] at h
  | (.inr _, .obj _) :: _, _, h => by simp [strInts] at h
  | (.inr _, .fn _) :: _, _, h => by simp [strInts] at h
  | (.inr _, .err _ _) :: _, _, h => by simp [strInts] at h
theorem strInts_map : ∀ qs : SI, strInts (qs.map siE) = some qs
  | [] => rfl
  | q :: qs => by simp only [List.map_cons, siE, strInts, strInts_map qs, Option.map_some]
section
variable {X : Cx} {E : XK}
/-- an entry of the dict -/
def EntI (e : DictEntry) (q : Str × Int) : Prop := (∃ t, e.key = .str q.1 t) ∧ ∃ t, e.val = .int q.2 t
theorem relv_int {i : Int} {u : Value} (r : RelV (.int i) u) : ∃ t, u = .int i t := r
theorem ents_of {W : Wd} : ∀ {qs : SI} {ws : List (Key × V)} {xs : List (Key × Value)} {es : List DictEntry}, Paired (PD W) (qs.map siE) ws → KV ws xs → Pairs (mixKind X.prog X.w) es xs → EachIs EntI es qs
  | [], _, _, _, .nil, .nil, .nil => .nil
  | q :: qs, _, _, _, .cons a r, .cons b s, p => by
    cases p with
    | cons h1 h2 h3 =>
      refine .cons ⟨?_, ?_⟩ (ents_of r s h3)
      · obtain ⟨a1, _⟩ := a
        have e1 := a1.trans b.1
        rw [← e1] at h1
        rcases keyIs_shape (show keyIs (.inr q.1) _ = true from h1) with ⟨_, _, z, _⟩ | ⟨x, t, z, e⟩
        · cases z
        · cases z
          exact ⟨t, e⟩
      · obtain ⟨_, a2⟩ := a
        have b2 := b.2
        have a3 : _ = V.int q.2 := a2
        rw [a3] at b2
        rw [h2]
        exact relv_int b2
theorem each_at {α β : Type} {R : α → β → Prop} : ∀ {as : List α} {bs : List β} {j : Nat} {a : α}, EachIs R as bs → as[j]? = some a → ∃ b, bs[j]? = some b ∧ R a b
  | _, _, _, _, .nil, e => by simp at e
  | _, _, 0, _, .cons r _, e => by simp at e; subst e; exact ⟨_, rfl, r⟩
  | _, _, j + 1, _, .cons _ t, e => by
    obtain ⟨b, h1, h2⟩ := each_at (j := j) t (by simpa using e)
    exact ⟨b, by simpa using h1, h2⟩
theorem each_ix {α β : Type} {R : α → β → Prop} : ∀ {as : List α} {bs : List β}, as.length = bs.length → (∀ (j : Nat) (a : α) (b : β), as[j]? = some a → bs[j]? = some b → R a b) → EachIs R as bs
  | [], [], _, _ => .nil
  | a :: as, b :: bs, l, h => .cons (h 0 a b rfl rfl) (each_ix (by simpa using l) fun j x y e1 e2 => h (j + 1) x y (by simpa using e1) (by simpa using e2))
  | [], _ :: _, l, _ => by simp at l
  | _ :: _, [], l, _ => by simp at l
/-- tuples that were made are told -/
theorem lay_prs {pins : List (Addr × Obj)} {σ : L2.St} {H0 : Hp} {s : Shared} {hf : Heap} {tk : Nat} (I0 : Inv X pins σ H0 s) : ∀ (L : List (Addr × Str × Int)) (W : Wd), Sim W → Inv X pins σ W.H { s with heap := hf, toks := tk } → (L.map (·.1)).Nodup →
    (∀ z ∈ L, s.heap.objs.size ≤ z.1 ∧ W.H z.1 = none ∧ ∃ t t', IsTup hf z.1 #[.str z.2.1 t, .int z.2.2 t']) → ∃ W', Ext W W' ∧ Sim W' ∧ W'.G = W.G ∧ Inv X pins σ W'.H { s with heap := hf, toks := tk } ∧ (∀ b, b ∉ L.map (·.1) → W'.H b = W.H b) ∧ ∀ z ∈ L, W'.H z.1 = some (.tup [.str z.2.1, .int z.2.2])
  | [], W, S, I, _, _ => ⟨W, Ext.refl W, S, rfl, I, fun _ _ => rfl, fun _ h => nomatch h⟩
  | z :: L, W, S, I, nd, h => by
    obtain ⟨h1, h2, t, t', h3⟩ := h z List.mem_cons_self
    rw [List.map_cons, List.nodup_cons] at nd
    obtain ⟨x, S1⟩ := S.lay (.tup [.str z.2.1, .int z.2.2]) h2
    have two : (2 : Nat) ≤ sizeLine := by rw [sizeLine_eq]; omega
    have I1 : Inv X pins σ (W.lay z.1 (.tup [.str z.2.1, .int z.2.2])).H { s with heap := hf, toks := tk } :=
      I.take (h' := hf) (t' := tk) (fun b ob _ e => e) (I0.fpOk h1 h2) ⟨two, [.str z.2.1 t, .int z.2.2 t'], .cons ⟨t, rfl⟩ (.cons ⟨t', rfl⟩ .nil), h3⟩
    obtain ⟨W', x2, S2, g2, I2, k2, q2⟩ := lay_prs I0 L (W.lay z.1 (.tup [.str z.2.1, .int z.2.2])) S1 I1 nd.2 fun y hy => by
      obtain ⟨y1, y2, y3⟩ := h y (List.mem_cons_of_mem _ hy)
      exact ⟨y1, (upd_ne fun e => nd.1 (List.mem_map.mpr ⟨y, hy, e⟩)).trans y2, y3⟩
    refine ⟨W', x.trans x2, S2, g2, I2, fun b hb => ?_, fun y hy => ?_⟩
    · rw [List.map_cons, List.mem_cons, not_or] at hb
      exact (k2 b hb.2).trans (upd_ne hb.1)
    · rcases List.mem_cons.mp hy with rfl | hy
      · exact (k2 _ nd.1).trans upd_same
      · exact q2 y hy
def rItemsK : V → List V → Hp → VK → Prop := fun x xs H Q => ∃ (a : Addr) (ws : List (Key × V)), x = .ref a ∧ xs = [] ∧ Rd H a (.dK ws) ∧ ∀ p, H p = none → Q (.ref p) (upd H p (L2.DX.itemsO p a))
theorem mt_itemsK : MtR X "dict.items" rItemsK := by
  intro pins s σ H x xs v us Q I rx rxs h
  obtain ⟨a, ws, rfl, rfl, ha, q⟩ := h
  cases rx
  cases rxs
  obtain ⟨_, nm, ys, _, o, es, ep, e1, e2, e3, _⟩ := dk_rd I.hok ha
  refine _root_.DT.callItems (es := es) (ep := ep) nm ⟨o, e1, e2, e3⟩ ?_
  have fr : H s.heap.objs.size = none := I.hok.fresh (Nat.le_refl _)
  exact ⟨.ref s.heap.objs.size, _, I.laid (t' := s.toks) (fun b u e => Heap.get?_push_of_some _ e) (Nat.le_refl _) (L2.DX.itemsO_ok (Heap.get?_push_size _ rfl)), rfl, q _ fr⟩
def rSortK (K : PySem.W.Frag) (E : XK) : List V → Hp → VK → Prop := fun vs H Q => ∃ (W : Wd) (p a : Addr) (qs : SI) (ws : List (Key × V)), vs = [.ref p] ∧ W.H = H ∧ H p = some (L2.DX.itemsO p a) ∧ Sim W ∧ W.K = K ∧ Rd H a (.dK ws) ∧ Paired (PD W) (qs.map siE) ws ∧ srtOk (qs.map siD) = true ∧ Fin Den W E (.ok (.lst (sortD (qs.map siD))) W.G) Q
theorem cr_sortK {k : Nat} (hc : X.calm = true) (hr : Rm k X.A) : CallR X (.builtin "sorted") (rSortK X.K E) := by
  rintro pins s σ H vs us Q I rv ⟨W, p, a, qs, ws, rfl, rfl, hp, S, hK, ha, rel, c, hf⟩
  obtain ⟨u, rfl, r1⟩ := rv.one
  obtain rfl : u = Value.ref p := r1
  have view : s.heap.IsItemsView p a := (show ObjOk X.prog X.w W.H s.heap p (L2.DX.itemsO p a) from I.hok p _ hp).1
  obtain ⟨zl, nm, ys, kv, o, es, ep, e1, e2, e3, e4, e5, _⟩ := dk_rd I.hok ha
  have ents := ents_of (X := X) rel kv e5
  have l1 : es.size = qs.length := by rw [← Array.length_toList]; exact ents.length
  have l2 : ws.length = qs.length := by rw [← Paired.length rel, List.length_map]
  have hu := hr.u200
  have c' := c
  simp only [srtOk, Bool.and_eq_true, decide_eq_true_eq] at c'
  obtain ⟨⟨⟨⟨c1, c2⟩, c3⟩, c4⟩, c5⟩ := c'
  refine _root_.DT.sortedI (es := es) (ep := ep) (I.ok.hd hc) view ⟨o, e1, e2, e3⟩ (by omega) fun h' tk as hk hlt hl hG => ?_
  have la : as.length = qs.length := by omega
  have nd : as.Nodup := hG.rise.imp fun q => Nat.ne_of_lt q
  have at_ : ∀ (j : Nat) (b : Addr), as[j]? = some b → ∃ q, qs[j]? = some q ∧ ∃ t t', IsTup h' b #[.str q.1 t, .int q.2 t'] := fun j b hj => by
    obtain ⟨en, h1, h2⟩ := hG.pairs j b hj
    obtain ⟨q, q1, ⟨t, q2⟩, t', q3⟩ := each_at (j := j) ents (by rw [Array.getElem?_toList]; exact h1)
    rw [q2, q3] at h2
    exact ⟨q, q1, t, t', _, h2, rfl, 0, rfl⟩
  have ne0 : ∀ b o, h'.get? b = some o → b ≠ h'.objs.size := fun b o e => Nat.ne_of_lt (Heap.lt_size e)
  have ob : (h'.push { cls := .type "list", data := .seq (as.map Value.ref).toArray }).get? h'.objs.size = some (seqObj "list" (as.map Value.ref).toArray 0) := Heap.get?_push_size _ rfl
  have ka : ∀ b o, h'.get? b = some o → (h'.push { cls := .type "list", data := .seq (as.map Value.ref).toArray }).get? b = some o := fun b o e => Heap.get?_push_of_some _ e
  generalize h'.push { cls := .type "list", data := .seq (as.map Value.ref).toArray } = h2 at ob ka ⊢
  have lq : (as.map Value.ref).length = (qs.map siD).length := by rw [List.length_map, List.length_map, la]
  have ix : ∀ (j : Nat) (v : Value) (d : D), (as.map Value.ref)[j]? = some v → (qs.map siD)[j]? = some d → ∃ (b : Addr) (q : Str × Int), as[j]? = some b ∧ qs[j]? = some q ∧ v = .ref b ∧ d = siD q := fun j v d h1 h2 => by
    rw [List.getElem?_map] at h1 h2
    obtain ⟨b, b1, rfl⟩ := Option.map_eq_some_iff.mp h1
    obtain ⟨q, q1, rfl⟩ := Option.map_eq_some_iff.mp h2
    exact ⟨b, q, b1, q1, rfl, rfl⟩
  refine list_sort_data (enc := toP) (bs := qs.map siD) (R := fun v d => ∃ (j : Nat) (b : Addr) (q : Str × Int), as[j]? = some b ∧ qs[j]? = some q ∧ v = .ref b ∧ d = siD q) ob
    (each_ix lq fun j v d h1 h2 => by obtain ⟨b, q, q1, q2, q3, q4⟩ := ix j v d h1 h2; exact ⟨j, b, q, q1, q2, q3, q4⟩)
    (each_ix lq fun j v d h1 h2 => by
      obtain ⟨b, q, q1, q2, rfl, rfl⟩ := ix j v d h1 h2
      obtain ⟨q', q5, t, t', ot, o1, o2, n, o3⟩ := at_ j b q1
      rw [q2] at q5; cases q5
      exact ⟨_, .tuple (ka _ _ o1) o2 o3 (.cons (.str q.1 t) (.cons (.int q.2 t') .nil)), by simp⟩)
    (alikes_of c2) (sortables_of c3) c4 (fun b hb => ?_) fun out ho eo => ?_
  · have := of_decide_eq_true (List.all_eq_true.mp c5 b hb)
    show X.A.units + 1 + 1 + _ < _
    omega
  · have hb2 : ∀ b ob, b ≠ h'.objs.size → h2.get? b = some ob → (sortedHeap h2 h'.objs.size (as.map Value.ref) out.toArray).get? b = some ob := fun b ob hb e => (sortedHeap_old hb (Heap.lt_size e)).trans e
    obtain ⟨eF, heF⟩ := sortedHeap_at (vs := as.map Value.ref) (out := out.toArray) ob
    have I1 : Inv X pins σ W.H { s with heap := sortedHeap h2 h'.objs.size (as.map Value.ref) out.toArray, toks := tk } := I.kept (t' := tk) fun b ob e => hb2 b ob (ne0 _ _ (hk b ob e)) (ka _ _ (hk b ob e))
    obtain ⟨W1, x1, S1, g1, I2, k1, q1⟩ := lay_prs I (as.zip qs) W S I1 (by rw [List.map_fst_zip (by omega)]; exact nd) fun z hz => by
      obtain ⟨j, hj⟩ := List.mem_iff_getElem?.mp hz
      obtain ⟨j1, j2⟩ := List.getElem?_zip_eq_some.mp hj
      obtain ⟨q, q1, t, t', ot, o1, o2, o3⟩ := at_ j z.1 j1
      rw [j2] at q1; cases q1
      have lo := hG.above z.1 (List.mem_of_getElem? j1)
      exact ⟨Nat.le_of_lt lo, I.hok.fresh (Nat.le_of_lt lo), t, t', ot, hb2 _ _ (ne0 _ _ o1) (ka _ _ o1), o2, o3⟩
    have nl : W1.H h'.objs.size = none := by
      rw [k1 _ fun m => ?_]
      · exact I.hok.fresh (Nat.le_of_lt hlt)
      · rw [List.map_fst_zip (by omega)] at m
        exact Nat.lt_irrefl _ (hG.there m)
    obtain ⟨vs', rv', dl⟩ := each_back (W := W1) (eo.mono fun v d ⟨j, b, q, j1, j2, e1, e2⟩ => by
      subst e1 e2
      have m : (b, q) ∈ as.zip qs := List.mem_of_getElem? (List.getElem?_zip_eq_some.mpr ⟨j1, j2⟩)
      refine ⟨.ref b, rfl, ?_⟩
      show ∃ a vs, V.ref b = .ref a ∧ W1.H a = some (.tup vs) ∧ DenL W1 [.str q.1, .int q.2] vs
      exact ⟨b, _, rfl, q1 _ m, by simp [DenL, Den]⟩)
    have hz : vs'.length ≤ sizeLine := by rw [rv'.length, ho]; exact c4
    have I3 : Inv X pins σ (upd W1.H h'.objs.size (.lst vs')) { s with heap := sortedHeap h2 h'.objs.size (as.map Value.ref) out.toArray, toks := tk } :=
      I2.take (h' := sortedHeap h2 h'.objs.size (as.map Value.ref) out.toArray) (t' := tk) (fun b ob _ e => e) (I.fpOk (Nat.le_of_lt hlt) nl) ⟨hz, out, eF, rv', heF⟩
    have hf' : Fin Den W1 E (mkL false (sortD (qs.map siD)) W1.G) Q := by
      have := Fin.mono x1 hf
      rw [← g1] at this
      exact this
    exact ⟨.ref h'.objs.size, _, I3, rfl, fin_mkL S1 hf' dl _ nl⟩
theorem pe_bmD0 {id : String} {r : V → List V → Hp → VK → Prop} {o : Expr} {to : TE} {name : Str} {apos cpos : Pos} (slot : Slot "dict" name id) (hty : typeOf (.builtin id) = pure (.type "method_descriptor")) (hm : MtR X id r) (ho : PE X o to)
    (hbase : attributeBase o name X.env (eval o X.env) = eval o X.env) (hline : (apos.endLine == cpos.line) = true) :
    PE X (.Call (.Attribute o name apos) [] [] cpos) (fun σ H Q => to σ H fun x H1 => (∃ a, x = .ref a ∧ IsD H1 a) ∧ r x [] H1 Q) := by
  refine ⟨fun pins s σ H Q I h => ?_⟩
  refine wpAny_Call_method0_late hbase hline (thn (ho.run pins s σ H _ I h) fun v s1 ⟨x, H1, I1, r1, ⟨a, ea, ty⟩, q1⟩ => ?_)
  subst ea
  obtain rfl : v = Value.ref a := r1
  obtain ⟨h1, h2, _⟩ := isD_at I1 ty
  exact ⟨"dict", id, PySem.F.plainAttrs_dict, slot, hty, h1, h2, Calls.callWith_builtin rfl (PySem.evalArgs_none (hm pins s1 σ H1 (.ref a) [] (.ref a) [] Q I1 rfl .nil q1))⟩
def sortItF (d : D) (G : DH) : R D := match dKof G d with
  | some kvs => (match strInts kvs with
    | some qs => if srtOk (qs.map siD) = true then .ok (.lst (sortD (qs.map siD))) G else .stop
    | none => .stop)
  | none => .stop
def dSortIt (f : DE) : DE := fun s G => (f s G).bind sortItF
@[simp] theorem dSortIt_s (f : DE) (s : DSl) (G : DH) : dSortIt f s G = (f s G).bind sortItF := (rfl)
theorem de_sortIt {k : Nat} {o : Expr} {f : DE} {x : Str} {p pos apos cpos : Pos} (hr : Rm k X.A) (hc : X.calm = true) (ho : DEOk X E o f) (hx : Gl X x) (hm : X.mg x = none) (hv : bootBuiltins x = some (.builtin "sorted")) (hn : x ≠ "__name__" := by decide) (hdb : (x == ("__debug__" : Str)) = false := by decide)
    (hbase : attributeBase o "items" X.env (eval o X.env) = eval o X.env := by rfl) (hline : (apos.endLine == cpos.line) = true := by rfl)
    (he : starEach [.Call (.Attribute o "items" apos) [] [] cpos] X.env = [(false, eval (.Call (.Attribute o "items" apos) [] [] cpos) X.env)] := by rfl) (hpl : (backTo pos (starEach [] X.env)).any (·.1) = false := by rfl) :
    DEOk X E (.Call (.Name x p) [.Call (.Attribute o "items" apos) [] [] cpos] [] pos) (dSortIt f) := by
  obtain ⟨t, pt, q⟩ := ho.out
  refine ⟨_, pe_callB (cr_sortK (E := E) hc hr) hx hm hv (pa_cons (pe_bmD0 PySem.F.slot_dict_items PySem.F.type_dict_items mt_itemsK pt hbase hline) pa_nil) hn hdb he hpl, fun W σ s Q hK S L h => ?_⟩
  refine q W σ s _ hK S L (Fin.seq h fun d v W1 x1 S1 d1 h1 => ?_)
  unfold sortItF at h1
  split at h1
  · rename_i kvs e1
    split at h1
    · rename_i qs e2
      split at h1
      · rename_i c
        obtain ⟨a, ws, rfl, h2, h3⟩ := dKof_den S1 d1 e1
        rw [strInts_eq e2] at h3
        have hK1 : W1.K = X.K := x1.k.trans hK
        refine ⟨⟨a, rfl, .inl ⟨ws, h2⟩⟩, a, ws, rfl, rfl, h2, fun p hp => ?_⟩
        obtain ⟨x2, S2⟩ := S1.lay (L2.DX.itemsO p a) hp
        have na : a ≠ p := fun z => by
          rcases h2 with h2 | ⟨_, h2⟩ <;> (rw [z, hp] at h2; cases h2)
        refine ⟨W1.lay p (L2.DX.itemsO p a), p, a, qs, ws, rfl, rfl, upd_same, S2, hK1, h2.imp (fun e => (upd_ne na).trans e) (fun ⟨ob, e⟩ => ⟨ob, (upd_ne na).trans e⟩), pd_mono x2.toExt0 h3, c, Fin.mono x2 h1⟩
      · exact h1.elim
    · exact h1.elim
  · exact h1.elim
end
end DL
end
/-! ==== DExc ==== -/
section
set_option Elab.async false
set_option linter.all false
set_option autoImplicit false
set_option maxRecDepth 100000
set_option maxHeartbeats 4000000
/-! DL: own exceptions of one field. -/
namespace DL
open PySem PySem.Spec PyProof.Rows L2
section
variable {P : Program} {w : World} {K : PySem.W.Frag} {mg : Str → Option Value} {base : Heap}
/-- what such a class's __init__ does -/
def spX (K : PySem.W.Frag) (fld : Str) : Sp := fun vs H Q E => ∃ (a C : Addr) (v : V), vs = [.ref a, v] ∧ OexC K C ∧ PySem.W.findIn K (.ref C) fld = some none ∧ H a = some (exo a C none) ∧
  ∀ d, H d = none → d ≠ a → Q .non (upd (upd H d (exd d [(fld, v)])) a (exo a C (some d)))
/-- what is known of the class -/
structure ExC (X : Cx) (nm fld : Str) : Prop where
  ex : ∃ (C fI : Addr) (fd : FuncData), X.mg nm = some (.ref C) ∧ PySem.W.nsIn X.K mainGlobals nm = some (some (.ref C)) ∧ OexC X.K C ∧ PySem.W.findIn X.K (.ref C) "__init__" = some (some (.ref fI)) ∧ PySem.W.typeIn X.K (.ref fI) = some (.type "function") ∧
    PySem.W.findIn X.K (.ref C) fld = some none ∧ FnOk X.prog X.w X.K X.mg X.base CX0 1 fI fd [("self" : Str), fld] (spX X.K fld) ∧ Binds X.K fd [("self" : Str), fld] []
theorem spX_len {fld : Str} : ∀ vs H Q E, spX K fld vs H Q E → vs.length = [("self" : Str), fld].length := fun vs H Q E h => by
  obtain ⟨a, C, v, rfl, _⟩ := h
  rfl
/-- .. as the top has written it -/
structure ExRaw (K : PySem.W.Frag) (mg : Str → Option Value) (nm fld : Str) (st : Stmt) : Prop where
  ex : ∃ (C fI : Addr) (fd : FuncData) (qual : Str), Fun K "__init__" qual st fI fd ∧ mg nm = some (.ref C) ∧ PySem.W.nsIn K mainGlobals nm = some (some (.ref C)) ∧ OexC K C ∧ PySem.W.findIn K (.ref C) "__init__" = some (some (.ref fI)) ∧ PySem.W.typeIn K (.ref fI) = some (.type "function") ∧
    PySem.W.findIn K (.ref C) fld = some none ∧ Binds K fd [("self" : Str), fld] []
theorem ExRaw.made {X : Cx} {nm fld : Str} {st : Stmt} (h : ExRaw X.K X.mg nm fld st) (hI : ∀ {f : Addr} {fd : FuncData} {qual : Str}, Fun X.K "__init__" qual st f fd → FnOk X.prog X.w X.K X.mg X.base CX0 1 f fd [("self" : Str), fld] (spX X.K fld)) : ExC X nm fld := by
  obtain ⟨C, fI, fd, qual, F, a, b, c, d, e, f, g⟩ := h.ex
  exact ⟨C, fI, fd, a, b, c, d, e, f, hI F, g⟩
/-- a def that may raise -/
theorem dfn_mkX {x qual : Str} {st : Stmt} {f : Addr} {fd : FuncData} {N ps : List Str} {k : Nat} {b : DS} (F : Fun K x qual st f fd) (S : FnScope N ps (defScope st))
    (hb : ∀ (cdv : Value) (A : Around) (outer : List Env) (s : Shared) (H : Hp) (E : XK), Rm k (A.deeper (envOfC qual (defScope st) s.heap.objs.size f cdv)) → DSsOk (cxOf (L2.CX P w) P w K mg base N qual (defScope st) f cdv A outer s H E) E (defBody st) b) :
    DFok P w K mg base (L2.CX P w) (k + 1) f fd ps (runF ps.length N.length b) := by
  obtain ⟨oc, od, kV, doc, pm, an, cdv, ct, osl, rfl, lk, hcd⟩ := F.ex
  exact dfn_of lk hcd S fun A outer s H E hr => hb cdv A outer s H E hr
/-- raise C(e) -/
def sRaise (nm fld : Str) (f : DE) : DS := fun s G => (f s G).bind fun d G => .ex (.tup [.str nm, .str fld, d]) G
end
section
variable {X : Cx} {E : XK}
theorem ds_raise {nm fld : Str} {e : Expr} {f : DE} {p pos pos' : Pos} (hc : X.calm = true) (tk : Takes X (fun c d _ H => E c d H)) (T : ExC X nm fld) (hr : Room 2 X.A) (hg : Gl X nm) (he : DEOk X E e f)
    (hdb : (nm == ("__debug__" : Str)) = false := by decide) (hs : starEach [e] X.env = (false, eval e X.env) :: starEach [] X.env := by rfl) (hpl : (backTo pos (starEach [] X.env)).any (·.1) = false := by rfl) :
    DSOk X E (.Raise (some (.Call (.Name nm p) [e] [] pos)) none pos') (sRaise nm fld f) := by
  obtain ⟨C, fI, fd, hm, hn, hT, iC, tI, hf, hF, hb⟩ := T.ex
  obtain ⟨t, pt, q⟩ := he.out
  refine ⟨_, ps_raise hc tk (pmk_oex hT iC tI hF hr hb .nil pass0 hg hm (pa_cons pt pa_nil hs) hdb hs hpl), fun W σ s D hK S L h => ?_⟩
  refine q W σ s _ hK S L (SFin.seq h fun d v W1 x1 S1 d1 h1 => ?_)
  refine ⟨(show 1 ≤ 1000 by decide), fun a ha => ⟨a, C, v, rfl, hT, hf, upd_same, fun d' hd' na => ?_⟩⟩
  have hd0 : W1.H d' = none := by rw [← hd']; exact (upd_ne na).symm
  refine ⟨rfl, d', [(fld, v)], upd_same, by rw [upd_ne na]; exact upd_same, hd0, ?_⟩
  obtain ⟨x2, S2⟩ := S1.lay (.xd [(fld, v)]) hd0
  have eq : upd (del (upd (upd (upd W1.H a (exo a C none)) d' (exd d' [(fld, v)])) a (exo a C (some d'))) a) d' (.xd [(fld, v)]) = (W1.lay d' (.xd [(fld, v)])).H := by
    funext b
    show _ = upd W1.H d' (.xd [(fld, v)]) b
    by_cases h1 : b = d'
    · subst h1; rw [upd_same, upd_same]
    · rw [upd_ne h1, upd_ne h1]
      by_cases h2 : b = a
      · subst h2; rw [del_same, ha]
      · rw [del_ne h2, upd_ne h2, upd_ne h1, upd_ne h2]
  rw [eq]
  exact h1 _ _ _ x2 S2 rfl (.inl ⟨nm, fld, d, C, d', v, rfl, by rw [show (W1.lay d' (.xd [(fld, v)])).K = X.K from x1.k.trans hK]; exact hn, rfl, rfl, upd_same, Den.mono x2 _ _ d1⟩)
end
@[simp] theorem sRaise_s (nm fld : Str) (f : DE) (s : DSl) (G : DH) : sRaise nm fld f s G = (f s G).bind fun d G => .ex (.tup [.str nm, .str fld, d]) G := (rfl)
end DL
end
/-! ==== DErr1 ==== -/
section
set_option Elab.async false
set_option linter.all false
set_option autoImplicit false
set_option maxRecDepth 100000
set_option maxHeartbeats 4000000
/-! DL: own exceptions over any of five of the machine's, made as values. The machine's part. -/
namespace DL
open PySem PySem.Spec PySem.HandSPX PySem.Builtin PySem.Builtin.ObjectAttr
section
variable {M : Model} {A : Around} {E : Value → Shared → Prop} {h : Heap} {g : Array GenState} {d : Drawn} {t : Nat} {os : OsState}
variable {nm q : Str} {C N : Addr} {bs bm bmB : List Value} {hdct : Bool} {sn : List Str} {sub : List Value} {ab : Bool} {col : Option Bool} {dd : Option Addr} {k0 k1 k2 k3 k5 : Option Value} {B newId initId : String} {kw : List (Str × Value)}
/-- what the maker's class asks of the rest of the line -/
structure Tl (bm : List Value) (B : String) : Prop where
  b : bm.contains (.type B) = true
  a : bm.contains (.type "AttributeError") = false
  n : bm.contains (.type "NameError") = false
theorem xn_check (F : ExcBaseFacts B newId initId bmB) (T : Tl bm B) {rest : List Value} {Q : Unit → Shared → Prop}
    (hC : h.get? C = some (excClassObj nm q C N bs bm hdct sn sub ab col dd k0 k1 k2 k3 k5 newId)) (hq : Q () ⟨h, g, d, t, os⟩) : wpAny M A (checkBuiltinCall newId ⟨.ref C :: rest, kw⟩) Q E ⟨h, g, d, t, os⟩ := by
  have hc : (Value.ref C :: bm).contains (.type B) = true := by rw [List.contains_cons, T.b, Bool.or_true]
  have hs := F.noStar
  simp only [checkBuiltinCall, F.newKind, F.newSplit, F.newRow]
  repeat (first | refine wpAny_loadPart_at hC ?_ | (refine wpAny_isSubtype_exc hC ?_; rw [hc]) | refine wpAny_staticBase_exc hC ?_ | refine wpAny_madeBy_exc hC ?_ | simp only [bne_self_eq_false, Bool.false_eq_true, if_false] | wp_step)
  exact hq
end
section
variable {prog : Program} {w : World} {A : Around} {E : Value → Shared → Prop} {R : Result → Shared → Prop} {h : Heap} {g : Array GenState} {d : Drawn} {t : Nat} {os : OsState}
variable {nm q : Str} {C N : Addr} {bs bm bmB : List Value} {hdct : Bool} {sn : List Str} {sub : List Value} {ab : Bool} {col : Option Bool} {dd : Option Addr} {k0 k1 k2 k3 k5 : Option Value} {B newId initId : String} {kw : List (Str × Value)}
theorem xn_new (F : ExcBaseFacts B newId initId bmB) (T : Tl bm B) {rest : List Value}
    (hC : h.get? C = some (excClassObj nm q C N bs bm hdct sn sub ab col dd k0 k1 k2 k3 k5 newId))
    (hq : R (.ok (.ret (.ref (h.objs.size + 1)))) ⟨(h.push { cls := .type "tuple", data := .seq rest.toArray }).push
      { cls := .ref C, data := .fields #[.ref h.objs.size, .none, .none, .none, .bool false, .none] }, g, d, t, os⟩) (hrest : rest.length ≤ sizeLine) :
    codeAny (model prog w) A (.builtin newId ⟨.ref C :: rest, kw⟩) R ⟨h, g, d, t, os⟩ := by
  have he := F.ends
  have cB : (Value.ref C :: bm).contains (.type B) = true := by rw [List.contains_cons, T.b, Bool.or_true]
  have cA : (Value.ref C :: bm).contains (.type "AttributeError") = false := by rw [List.contains_cons, T.a]; rfl
  have cN : (Value.ref C :: bm).contains (.type "NameError") = false := by rw [List.contains_cons, T.n]; rfl
  refine codeAny_builtinAt F.entry ?_
  unfold Builtin.«BaseException.__new__»
  refine wpAt_bind ?_
  show wpAt _ _ _ (stack >>= _) _ _ _
  refine wpAt_bind (wpAt_stack fun p below => wpAt_of_wpAny ?_)
  wp_walk
  refine wpAt_of_wpAny ?_
  rw [F.owner]
  repeat (first | with_reducible refine wpAny_madeHere_exc F.canon hC ?_ | with_reducible refine wpAny_loadPart_at hC ?_ | (with_reducible refine wpAny_isSubtype_exc hC ?_; first | rw [cB] | rw [cA] | rw [cN]) | wp_step)
  show R _ _
  rw [Heap.size_push]
  exact hq
theorem xn_type (F : ExcBaseFacts B newId initId bmB) (T : Tl bm B) {rest : List Value} {fv : Value} {Q : PySem.Fin → Shared → Prop}
    (hC : h.get? C = some (excClassObj nm q C N bs bm hdct sn sub ab col dd k0 k1 k2 k3 k5 newId))
    (hi : W.Looks (model prog w) h (typeLookup (.ref C) "__init__") (some fv)) (hb : ∀ self, W.Looks (model prog w) h (bindSpecial fv self) (fv, [self])) (hrest : rest.length ≤ sizeLine)
    (hq : codeAny (model prog w) A (.call fv ⟨.ref (h.objs.size + 1) :: rest, kw⟩)
      (fun r s' => match r with | .ok (.ret v) => v = .none ∧ Q (.done (.ret (.ref (h.objs.size + 1)))) s' | .ok _ => False | .error e => E e s')
      ⟨(h.push (W.kdv_tup rest)).push (excO C h.objs.size), g, d, t, os⟩) :
    wpAny (model prog w) A (Builtin.«type.__call__» ⟨.ref C :: rest, kw⟩) Q E ⟨h, g, d, t, os⟩ := by
  repeat (first | with_reducible refine wpAny_loadPart_at hC ?_ | with_reducible refine wpAny_madeBy_exc hC ?_ | wp_step)
  refine codeAny_call_builtin_code (Code.quiet_builtin _ F.quiet) (xn_check F T hC ?_)
  refine xn_new F T hC ?_ hrest
  show wpAny _ _ _ _ _ _
  have k : ∀ b o, h.get? b = some o → ((h.push (W.kdv_tup rest)).push (excO C h.objs.size)).get? b = some o := fun b o e => Heap.get?_push_of_some _ (Heap.get?_push_of_some _ e)
  have hD := k _ _ hC
  have hg : ((h.push (W.kdv_tup rest)).push (excO C h.objs.size)).get? (h.objs.size + 1) = some (excO C h.objs.size) := by heap_get
  have cC : (Value.ref C :: bm).contains (.ref C) = true := by simp
  have i1 := hi.keeps k
  have b1 := (hb (.ref (h.objs.size + 1))).keeps k
  unfold isInstance
  repeat (first | with_reducible refine wpAny_loadPart_at hg ?_ | (with_reducible refine wpAny_isSubtype_exc hD ?_; rw [cC]) | wp_step)
  show wpAny _ _ (typeLookup (.ref C) _) _ _ _
  refine i1.at ?_
  refine wpAny_holding (wpAny_bind (b1.at ?_))
  refine wpAny_bind (wpAny_call (codeAny_mono hq fun r s' z => ?_))
  rcases r with e | (v | _ | _ | _) <;> first | exact z | exact z.elim | skip
  obtain ⟨rfl, z⟩ := z
  first
    | exact wpAny_pure (wpAny_pure z)
    | (wp_walk; exact z)
theorem xn_tcheck {rest : List Value} {Q : Unit → Shared → Prop} (hC : h.get? C = some (excClassObj nm q C N bs bm hdct sn sub ab col dd k0 k1 k2 k3 k5 newId))
    (hq : Q () ⟨h, g, d, t, os⟩) : wpAny (model prog w) A (checkBuiltinCall "type.__call__" ⟨.ref C :: rest, kw⟩) Q E ⟨h, g, d, t, os⟩ := by
  have f3 := tc_sub
  have hT : (⟨h, g, d, t, os⟩ : Shared).TypeIs (.ref C) "type" := ⟨_, hC, rfl⟩
  simp only [checkBuiltinCall, tc_kind, tc_split]
  repeat (any_goals (first | assumption | with_reducible refine wpAny_loadPart_at hC ?_ | with_reducible refine wpAny_onRaise ?_ | with_reducible refine wpAny_map ?_ | wp_step))
theorem xn_call (F : ExcBaseFacts B newId initId bmB) (T : Tl bm B) {rest : List Value} {fv : Value}
    (hC : h.get? C = some (excClassObj nm q C N bs bm hdct sn sub ab col dd k0 k1 k2 k3 k5 newId))
    (hi : W.Looks (model prog w) h (typeLookup (.ref C) "__init__") (some fv)) (hb : ∀ self, W.Looks (model prog w) h (bindSpecial fv self) (fv, [self])) (hrest : rest.length ≤ sizeLine)
    (hq : codeAny (model prog w) (A.under (.builtin "type.__call__" ⟨.ref C :: rest, kw⟩)) (.call fv ⟨.ref (h.objs.size + 1) :: rest, kw⟩) (W.InitBack (h.objs.size + 1) R)
      ⟨(h.push (W.kdv_tup rest)).push (excO C h.objs.size), g, d, t, os⟩) :
    codeAny (model prog w) A (.call (.ref C) ⟨rest, kw⟩) R ⟨h, g, d, t, os⟩ := by
  have f1 := tc_lookup
  have f2 := tc_bind (.ref C)
  have hT : (⟨h, g, d, t, os⟩ : Shared).TypeIs (.ref C) "type" := ⟨_, hC, rfl⟩
  refine codeAny_of_tree ?_
  show wpAny _ _ (callAny (.ref C) _) _ _ _
  repeat (any_goals (first | assumption | with_reducible refine wpAny_loadPart_at hC ?_ | wp_step))
  refine ⟨rfl, ?_⟩
  refine codeAny_call_builtin_at (Code.quiet_builtin _ (by decide +kernel)) entry_typeCall (xn_tcheck hC (xn_type F T hC hi hb hrest ?_))
  refine codeAny_mono hq fun r s' z => ?_
  rcases r with e | (v | _ | _ | _) <;> exact z
/-- what is known of a class's __init__ that is the machine's own -/
structure InF (B initId : String) : Prop where
  init : Slot B "__init__" initId
  entry : entryFor table initId = some Builtin.«BaseException.__init__»
  kind : builtinKind initId = some .slot
  split : splitId initId = some (B, "__init__")
  row : Manifest.signature? initId = some ⟨.positional, "*", B, .self, [⟨"args", .varPos, false⟩]⟩
  star : (B != "*") = true
theorem inF_of (F : ExcCallFacts B newId initId) : InF B initId := ⟨F.init, F.initEntry, F.initKind, F.initSplit, F.initRow, F.noStar⟩
theorem xi_check (F : InF B initId) (hB : bm.contains (.type B) = true) {e : Addr} {oe : Obj} {rest : List Value} {Q : Unit → Shared → Prop}
    (hC : h.get? C = some (excClassObj nm q C N bs bm hdct sn sub ab col dd k0 k1 k2 k3 k5 newId)) (he : h.get? e = some oe) (hcls : oe.cls = .ref C) (hq : Q () ⟨h, g, d, t, os⟩) :
    wpAny (model prog w) A (checkBuiltinCall initId ⟨.ref e :: rest, []⟩) Q E ⟨h, g, d, t, os⟩ := by
  have cB : (Value.ref C :: bm).contains (.type B) = true := by rw [List.contains_cons, hB, Bool.or_true]
  have hs := F.star
  simp only [checkBuiltinCall, F.kind, F.split, F.row]
  repeat (first | (with_reducible refine wpAny_loadPart_at he ?_; rw [hcls]) | with_reducible refine wpAny_loadPart_at hC ?_ | (with_reducible refine wpAny_isSubtype_exc hC ?_; rw [cB]) | wp_step)
  refine wpAny_onRaise ?_
  rw [show ∀ (a b : String) (n : Nat), Bind.check ⟨.positional, "*", B, .self, [⟨"args", .varPos, false⟩]⟩ a b n (List.map (fun x => x.fst) ({ pos := Value.ref e :: rest } : Args).kw) = pure () from
    fun a b n => check_star_args _ _ _ _ _ _]
  exact wpAny_pure hq
theorem xi_base (F : InF B initId) (hB : bm.contains (.type B) = true) {e t0 : Addr} {rest : List Value}
    (hC : h.get? C = some (excClassObj nm q C N bs bm hdct sn sub ab col dd k0 k1 k2 k3 k5 newId)) (he : h.get? e = some (excO C t0)) (hrest : rest.length ≤ sizeLine)
    (hq : ∀ h' t1, (∀ b o, b ≠ e → h.get? b = some o → h'.get? b = some o) → h'.get? e = some (excO C t1) → R (.ok (.ret .none)) ⟨h', g, d, t, os⟩) :
    codeAny (model prog w) A (.call (.builtin initId) ⟨.ref e :: rest, []⟩) R ⟨h, g, d, t, os⟩ := by
  refine codeAny_call_builtin F.init.plain F.entry (xi_check F hB hC he rfl ?_)
  wp_walk
  refine hq _ h.objs.size (fun b o hb ho => ?_) ?_
  · rw [Heap.get?_update_other _ _ (Ne.symm hb)]
    exact Heap.get?_push_of_some _ ho
  · rw [Heap.get?_update_self _ (Heap.get?_push_of_some _ he) rfl]
    rfl
end
end DL
end
/-! ==== DErr2 ==== -/
section
set_option Elab.async false
set_option linter.all false
set_option autoImplicit false
set_option maxRecDepth 100000
set_option maxHeartbeats 4000000
/-! DL: fields of own exceptions over any of five of the machine's, stored. -/
namespace DL
open PySem PySem.Spec PySem.HandSPX PySem.Builtin PySem.Builtin.ObjectAttr
section
variable {prog : Program} {w : World} {A : Around} {E : Value → Shared → Prop} {R : Result → Shared → Prop} {hp : Heap} {g : Array GenState} {d : Drawn} {t : Nat} {os : OsState}
/-- what a store asks of the class's line -/
structure Ml (mro : List Value) : Prop where
  ne : mro.isEmpty = false
  ob : mro.contains (.type "object") = true
  pass : ∀ self, refuseLoop self "__setattr__" mro = pure ()
theorem xo_new {K : W.Frag} {name : Str} {tk : Tok} {v : Value} {x C : Addr} {fv : Array Value} {cd : ClassData}
    (X : K.In hp) (hx : hp.get? x = some { cls := .ref C, data := .fields fv }) (hcd : W.clsIn K C = some cd) (hm : Ml cd.mro) (hh : cd.hasDict = true) (ha : W.findIn K (.ref C) name = some none)
    (hq : ∀ h' tk' dx, (∀ b o, b ≠ x → hp.get? b = some o → h'.get? b = some o) → hp.objs.size ≤ dx → dx ≠ x → h'.get? x = some { cls := .ref C, dict := some dx, data := .fields fv } →
      h'.Ns1 dx (fun y => if y = name then some v else none) → R (.ok (.ret .none)) ⟨h', g, d, tk', os⟩) :
    codeAny (model prog w) A (.call (.builtin "object.__setattr__") ⟨[.ref x, .str name tk, v], []⟩) R ⟨hp, g, d, t, os⟩ := by
  have I : W.InstAt hp x { cls := .ref C, data := .fields fv } C none := ⟨hx, rfl, rfl, trivial⟩
  have SF := F.store_object
  have ne := hm.ne
  have hob := hm.ob
  have hxs : x ≠ hp.objs.size := Nat.ne_of_lt (Heap.lt_size hx)
  have sub : W.Looks (model prog w) hp (isInstance (.ref x) (.type "object")) true := I.type.andThen (W.looks_mroIn X (by unfold W.mroIn; rw [hcd, Option.bind_some, if_neg (by rw [ne]; decide), hob]))
  refine codeAny_call_builtin SF.slot.plain SF.entry (@W.check_slot (model prog w) _ _ ⟨hp, g, d, t, os⟩ "object.__setattr__" "object" "__setattr__" (.ref x) [.str name tk, v] [] _ SF.kind SF.split sub (SF.args (.ref x) (.str name tk) v) ?_)
  have hmr : W.Looks (model prog w) hp (mroOf (.ref C)) cd.mro := (W.looks_clsIn X hcd).andThen .now
  have L3 : W.Looks (model prog w) hp (storeTaker? none) none := .now
  have hcls : W.Looks (model prog w) hp (classData C) cd := W.looks_clsIn X hcd
  rw [W.osa_eq, refuse_eq]
  refine wpAny_bind (wpAny_bind (I.type.at (wpAny_bind (hmr.at ?_))))
  rw [hm.pass]
  refine wpAny_pure (wpAny_bind (I.type.at (wpAny_bind ((W.looks_findIn X ha).at (wpAny_bind (L3.at ?_))))))
  show wpAny _ _ (storeInOwnDict (.ref x) (.ref C) (.str name tk) name v false) _ _ _
  obtain ⟨nm, bs, mro, ns, qn, hd, sn, sb, ab, col, del⟩ := cd
  dsimp only at hh
  subst hh
  unfold storeInOwnDict ownDictForStores
  repeat (first | with_reducible refine store_in_new ?_ ?_ | with_reducible refine wpAny_loadPart_at hx ?_ | with_reducible refine hcls.at ?_ | wp_step)
  · exact ⟨_, #[], _, (Heap.get?_update_ne _ _ _ _ hxs.symm).trans (Heap.get?_push_at rfl rfl), rfl, fun e he => absurd he (by simp), fun _ => rfl⟩
  · intro h' tk' hn' hs
    have hx₁ : (hp.push { cls := .type "dict", data := .dict #[] }).get? x = some { cls := .ref C, data := .fields fv } := Heap.get?_push_of_some _ hx
    refine hq h' tk' hp.objs.size (fun b o hb ho => ?_) (Nat.le_refl _) hxs.symm ?_ hn'
    · exact (hs.2 b (Nat.ne_of_lt (Heap.lt_size ho))).trans ((Heap.get?_update_ne _ _ _ _ hb).trans (Heap.get?_push_of_some _ ho))
    · exact (hs.2 x hxs).trans (Heap.get?_update_self _ hx₁ rfl)
theorem xo_old {K : W.Frag} {name : Str} {tk : Tok} {v : Value} {x C dx : Addr} {fv : Array Value} {cd : ClassData} {m0 : Str → Option Value} {nl : List Str}
    (X : K.In hp) (hx : hp.get? x = some { cls := .ref C, dict := some dx, data := .fields fv }) (hns : hp.Ns1 dx m0) (hw : Within m0 nl) (hz : nl.length ≤ 1000) (hcd : W.clsIn K C = some cd) (hm : Ml cd.mro) (hh : cd.hasDict = true)
    (ha : W.findIn K (.ref C) name = some none)
    (hq : ∀ h' tk', (∀ b o, b ≠ dx → hp.get? b = some o → h'.get? b = some o) → h'.Ns1 dx (fun y => if y = name then some v else m0 y) → R (.ok (.ret .none)) ⟨h', g, d, tk', os⟩) :
    codeAny (model prog w) A (.call (.builtin "object.__setattr__") ⟨[.ref x, .str name tk, v], []⟩) R ⟨hp, g, d, t, os⟩ := by
  obtain ⟨oD, esD, epD, hoD, hdD, _⟩ := hns.count hw
  have I : W.InstAt hp x { cls := .ref C, dict := some dx, data := .fields fv } C (some oD) := ⟨hx, rfl, rfl, hoD⟩
  have SF := F.store_object
  have ne := hm.ne
  have hob := hm.ob
  have sub : W.Looks (model prog w) hp (isInstance (.ref x) (.type "object")) true := I.type.andThen (W.looks_mroIn X (by unfold W.mroIn; rw [hcd, Option.bind_some, if_neg (by rw [ne]; decide), hob]))
  refine codeAny_call_builtin SF.slot.plain SF.entry (@W.check_slot (model prog w) _ _ ⟨hp, g, d, t, os⟩ "object.__setattr__" "object" "__setattr__" (.ref x) [.str name tk, v] [] _ SF.kind SF.split sub (SF.args (.ref x) (.str name tk) v) ?_)
  have hmr : W.Looks (model prog w) hp (mroOf (.ref C)) cd.mro := (W.looks_clsIn X hcd).andThen .now
  have L3 : W.Looks (model prog w) hp (storeTaker? none) none := .now
  have hcls : W.Looks (model prog w) hp (classData C) cd := W.looks_clsIn X hcd
  rw [W.osa_eq, refuse_eq]
  refine wpAny_bind (wpAny_bind (I.type.at (wpAny_bind (hmr.at ?_))))
  rw [hm.pass]
  refine wpAny_pure (wpAny_bind (I.type.at (wpAny_bind ((W.looks_findIn X ha).at (wpAny_bind (L3.at ?_))))))
  show wpAny _ _ (storeInOwnDict (.ref x) (.ref C) (.str name tk) name v false) _ _ _
  obtain ⟨nm, bs, mro, ns, qn, hd, sn, sb, ab, col, del⟩ := cd
  dsimp only at hh
  subst hh
  unfold storeInOwnDict ownDictForStores
  repeat (first | with_reducible refine PySem.OEX.store_in_old hns hw hz ?_ | with_reducible refine wpAny_loadPart_at hx ?_ | with_reducible refine hcls.at ?_ | wp_step)
  intro h' tk' hn' hs
  exact hq h' tk' (fun b o hb ho => (hs.2 b hb).trans ho) hn'
end
end DL
end
/-! ==== DTry ==== -/
section
set_option Elab.async false
set_option linter.all false
set_option autoImplicit false
set_option maxRecDepth 100000
set_option maxHeartbeats 4000000
/-! DL: try .. except C as e: .. , the error known behind the suite too, to the def's end. -/
namespace DL
open PySem PySem.Spec PyProof.Rows L2
section
variable {X : Cx} {x n : Str} {c : Value} {i : Nat} {body suite rest : List Stmt} {b0 : Stmt} {np ps ps' : Pos} {tb : WX → TS} {ts t2 : Addr → Value → Option Addr → TS} {t1 : TS} {Wo : WX}
/-- behind the body's end; behind the suite's, the error pinned -/
def wKeep (K : PySem.W.Frag) (c : Value) (i : Nat) (ts t2 : Addr → Value → Option Addr → TS) (Wo : WX) (D : Ends) : WX := fun cls d σ H =>
  ∃ b, PySem.W.exmOne K cls c = some b ∧
    (b = true → ∀ a, H a = none → ts a cls d { nx := fun σ1 H1 => t2 a cls d D (σ1.set i none) H1, rt := D.rt, bk := fun σ1 H1 => D.bk (σ1.set i none) H1, ct := fun σ1 H1 => D.ct (σ1.set i none) H1 } (σ.set i (some (.ref a))) H) ∧
    (b = false → Wo cls d σ H)
/-- what runs behind a statement, to the def's end -/
def goOn (X : Cx) (pins : List (Addr × Obj)) (D : Ends) (rest : List Stmt) (f : Flow) (s' : Shared) : Prop := match f with
  | .next => wpAny (model X.prog X.w) X.A (execs rest X.env) (SP X pins D) X.xe s'
  | f => SP X pins D f s'
theorem goOn_of {pins : List (Addr × Obj)} {D : Ends} (h1 : PSs X rest t1) {f : Flow} {s' : Shared} (h : SP X pins { D with nx := t1 D } f s') : goOn X pins D rest f s' := by
  cases f with
  | next => obtain ⟨σ', H', J, q⟩ := h; exact h1.run pins s' σ' H' D J q
  | ret v => exact h
  | brk => exact h
  | cont => exact h
theorem Inv.pinned {pins pn' : List (Addr × Obj)} {σ : L2.St} {H : Hp} {s : Shared} {a : Addr} {q : Addr × Obj} (J : Inv (X.suite a (q :: (X.pn ++ pins))) pn' σ H s) (ok : X.Ok) : Inv X (q :: pins) σ H s :=
  ⟨ok, J.os, J.bare, J.base, J.loc, J.cell, J.free, J.freeC, fun p hp => by
    refine J.pin p (List.mem_append_left _ ?_)
    show p ∈ q :: (X.pn ++ pins)
    rcases List.mem_append.mp hp with h | h
    · exact List.mem_cons_of_mem _ (List.mem_append_left _ h)
    · rcases List.mem_cons.mp h with h | h
      · rw [h]; exact List.mem_cons_self
      · exact List.mem_cons_of_mem _ (List.mem_append_right _ h), J.hok, J.len⟩
theorem Inv.toKeep {pins : List (Addr × Obj)} {σ : L2.St} {H : Hp} {s : Shared} {q : Addr × Obj} (J : Inv X (q :: pins) σ H s) : Inv (X.tr (q :: (X.pn ++ pins)) X.xe) [] σ H s :=
  ⟨J.ok.toTry _ _, J.os, J.bare, J.base, J.loc, J.cell, J.free, J.freeC, fun p hp => by
    have h' : p ∈ q :: (X.pn ++ pins) := by rw [List.append_nil] at hp; exact hp
    refine J.pin p ?_
    rcases List.mem_cons.mp h' with h | h
    · rw [h]; exact List.mem_append_right _ List.mem_cons_self
    · rcases List.mem_append.mp h with h | h
      · exact List.mem_append_left _ h
      · exact List.mem_append_right _ (List.mem_cons_of_mem _ h), J.hok, J.len⟩
theorem Inv.ofKeep {pins pn' : List (Addr × Obj)} {xe : Value → Shared → Prop} {σ : L2.St} {H : Hp} {s : Shared} {q : Addr × Obj} (J : Inv (X.tr (q :: (X.pn ++ pins)) xe) pn' σ H s) (ok : X.Ok) : Inv X pins σ H s :=
  ⟨ok, J.os, J.bare, J.base, J.loc, J.cell, J.free, J.freeC, fun p hp => J.pin p (List.mem_append_left _ (List.mem_cons_of_mem _ hp)), J.hok, J.len⟩
theorem Inv.unpin {pins : List (Addr × Obj)} {σ : L2.St} {H : Hp} {s : Shared} {q : Addr × Obj} (J : Inv X (q :: pins) σ H s) : Inv X pins σ H s :=
  ⟨J.ok, J.os, J.bare, J.base, J.loc, J.cell, J.free, J.freeC, fun p hp => J.pin p (by
    rcases List.mem_append.mp hp with h | h
    · exact List.mem_append_left _ h
    · exact List.mem_append_right _ (List.mem_cons_of_mem _ h)), J.hok, J.len⟩
theorem pss_try_keep (hs : X.stack = X.env :: X.outer) (hf : X.env.frame = some X.env.locals) (hN : X.N.Nodup) (hi : X.N[i]? = some n) (hln : X.env.kindOf n = some .local) (hc : Names X x c) (tk : Takes X Wo)
    (hb : ∀ (W : WX) (pn : List (Addr × Obj)) (xe : Value → Shared → Prop), Takes (X.tr pn xe) W → PassesOwn (model X.prog X.w) X.A X.env xe → PSs (X.tr pn xe) body (tb W))
    (hsu : ∀ (a : Addr) (oe : Obj) (cls : Value) (d : Option Addr) (pn : List (Addr × Obj)), Zc cls d oe → (∃ vs, oe.data = .fields vs) → PSs (X.suite a ((a, oe) :: pn)) (b0 :: suite) (ts a cls d))
    (h1 : PSs X rest t1)
    (h2 : ∀ (a : Addr) (oe : Obj) (cls : Value) (d : Option Addr) (pn : List (Addr × Obj)), Zc cls d oe → (∃ vs, oe.data = .fields vs) → PSs (X.tr ((a, oe) :: pn) X.xe) rest (t2 a cls d)) :
    PSs X (.Try body [.ExceptHandler (some (.Name x np)) (some n) (b0 :: suite) ps'] [] [] ps :: rest) (fun D σ H => tb (wKeep X.K c i ts t2 Wo D) { D with nx := t1 D } σ H) := by
  refine ⟨fun pins s σ H D I0 h0 => ?_⟩
  have okX := I0.ok
  have fr : X.A.frames = some (X.env :: X.outer) := by rw [okX.frames, hs]
  have lc : Loc X.env.scope n := .inl hln
  -- to the def's end
  have over : ∀ (f : Flow) (s' : Shared), goOn X pins D rest f s' → (match f with | .next => wpAny (model X.prog X.w) X.A (execs rest X.env) (SP X pins D) X.xe s' | f => SP X pins D f s') := fun f s' q => by
    cases f <;> exact q
  refine wpAny_execs_cons (thn (Q := goOn X pins D rest) ?_ over)
  refine wpAny_Try_except (wpAny_mono ((hb (wKeep X.K c i ts t2 Wo D) (X.pn ++ pins) (fun er sa => wpAny (model X.prog X.w) X.A (noteFrame er X.env) (fun _ sb => wpAny (model X.prog X.w) X.A (setFlight er none) (fun _ sc =>
    wpAny (model X.prog X.w) X.A (handleBy er X.env [.ExceptHandler (some (.Name x np)) (some n) (b0 :: suite) ps']) (goOn X pins D rest) X.xe sc) X.xe sb) X.xe sa) (fun u sx fly => ?_) PassesOwn.looking).run [] s σ H { D with nx := t1 D } (I0.toTry _) h0) (fun f sx q => ?_) (fun _ _ q => q))
  · obtain ⟨a, B, sI, pn1, σ1, H1, cls, d, rfl, J0, nb, up, sky, na, os1, ag, b, eb, yes, no⟩ := fly
    have J := J0.ofTry okX
    have sk : Sky B (X.env :: X.outer) a (Zc cls d) X.env.locals sx.heap := by rw [← hs]; exact sky
    show wpAny (model X.prog X.w) X.A (noteFrame (.ref a) X.env) _ _ _
    refine Sky.land Zc.steady fr hf sk fun g3 fly3 up3 => ?_
    have J3 : Inv X pins σ1 H1 { sx with heap := g3 } := J.landed nb fly3.1 (up.trans up3) os1 ag
    obtain ⟨o3, w3, e3, z3, d3⟩ := fly3.there
    have nfr : a ∉ frs (X.env :: X.outer) := fun hm => by
      obtain ⟨_, o', e', hn⟩ := fly3.2.2.1.mem hm
      rw [e3] at e'; cases e'
      exact hn _ d3
    have nl : a ≠ X.env.locals := fun z => nfr (List.mem_filterMap.mpr ⟨X.env, List.mem_cons_self, by rw [hf, z]⟩)
    have nf : a ∉ X.fs := fun hm => by
      obtain ⟨e, he, q⟩ := List.mem_filterMap.mp hm
      exact nfr (List.mem_filterMap.mpr ⟨e, List.mem_cons_of_mem _ he, q⟩)
    have S3 := J3.suite e3 d3 na nl nf
    refine wpAny_handleBy_cons (codeAny_handlers_test ?_) (by intro q; cases q)
    have ty : PySem.W.Looks (model X.prog X.w) g3 (typeOf (.ref a)) cls := fun A Q E s kk q => wpAny_typeOf_ref (kk _ _ e3) (by rw [z3.1]; exact q)
    have look := PySem.W.exm_one (M := model X.prog X.w) J3.kIn ty eb
    have asks : ∀ {Q : Value → Shared → Prop} {E : Value → Shared → Prop}, Q c { sx with heap := g3 } → wpAny (model X.prog X.w) (X.A.mark (some (.ref a))) (eval (.Name x np) X.env) Q E { sx with heap := g3 } := fun {Q E} q => by
      obtain ⟨g, db, m | ⟨m, v, nn⟩⟩ := hc
      · exact ld_glob (X := X.suite a ((a, o3) :: (X.pn ++ pins))) S3 g m q db
      · exact ld_blt (X := X.suite a ((a, o3) :: (X.pn ++ pins))) S3 g m v q nn db
    refine asks (look.here ?_)
    cases b with
    | true =>
      refine codeAny_handlers_suite_as (HandSPX.lands_againZ fly3 fun g4 fly4 up4 => ?_)
      have J4 : Inv X pins σ1 H1 { sx with heap := g4 } := J.landed nb fly4.1 ((up.trans up3).trans up4) os1 ag
      obtain ⟨o4, w4, e4, z4, d4⟩ := fly4.there
      refine store_ok (X := X.suite a ((a, o4) :: (X.pn ++ pins))) (v := .ref a) (J4.suite e4 d4 na nl nf) hN hi lc rfl (fun s5 S5 => ?_) (.inr hln)
      refine wpAny_mono ((hsu a o4 cls d (X.pn ++ pins) z4 ⟨_, d4⟩).run [] s5 _ H1 _ S5 (yes rfl a na)) (fun f s6 q6 => ?_) (fun _ _ z => False.elim z)
      have leave : ∀ {σ6 : L2.St} {H6 : Hp} {Q : Shared → Prop}, Inv (X.suite a ((a, o4) :: (X.pn ++ pins))) [] σ6 H6 s6 → (∀ s7, Inv X ((a, o4) :: pins) (σ6.set i none) H6 s7 → Q s7) →
          wpAny (model X.prog X.w) X.A (do bindName X.env n .none; unbindBehindTheSuite X.env n ps') (fun _ s7 => Q s7) X.xe s6 := fun {σ6 H6 Q} S6 hq => gone_ok (Inv.pinned S6 okX) hN hi hln hq
      cases f with
      | next =>
        obtain ⟨σ6, H6, S6, r6⟩ := q6
        refine leave S6 fun s7 J7 => ?_
        show wpAny (model X.prog X.w) X.A (execs rest X.env) (SP X pins D) X.xe s7
        refine thn ((h2 a o4 cls d (X.pn ++ pins) z4 ⟨_, d4⟩).run [] s7 _ H6 D (Inv.toKeep J7) r6) fun f s8 q8 => ?_
        cases f with
        | next => obtain ⟨σ8, H8, J8, r8⟩ := q8; exact ⟨σ8, H8, Inv.ofKeep J8 okX, r8⟩
        | brk => obtain ⟨σ8, H8, J8, r8⟩ := q8; exact ⟨σ8, H8, Inv.ofKeep J8 okX, r8⟩
        | cont => obtain ⟨σ8, H8, J8, r8⟩ := q8; exact ⟨σ8, H8, Inv.ofKeep J8 okX, r8⟩
        | ret u => obtain ⟨v8, σ8, H8, J8, rv8, r8⟩ := q8; exact ⟨v8, σ8, H8, Inv.ofKeep J8 okX, rv8, r8⟩
      | brk => obtain ⟨σ6, H6, S6, r6⟩ := q6; exact leave S6 fun s7 J7 => ⟨_, _, Inv.unpin J7, r6⟩
      | cont => obtain ⟨σ6, H6, S6, r6⟩ := q6; exact leave S6 fun s7 J7 => ⟨_, _, Inv.unpin J7, r6⟩
      | ret u => obtain ⟨v6, σ6, H6, S6, rv6, r6⟩ := q6; exact leave S6 fun s7 J7 => ⟨_, _, _, Inv.unpin J7, rv6, r6⟩
    | false =>
      show wpAny _ X.A (handleBy (.ref a) X.env []) _ _ _
      refine wpAny_handleBy_nil ?_
      obtain ⟨j1, j2, j3, oe, vs, T, oT, ts', he, hz, hd, hT, hr⟩ := id fly3
      unfold PySem.passOn
      refine wpAny_bind (wpAny_field he hd hT ?_)
      rw [if_neg (show ¬ ((Value.ref T == Value.none) = true) by simp)]
      have up_ : wpAny (model X.prog X.w) X.A (setFlight (.ref a) X.env.frame) (fun _ s4 => wpAny (model X.prog X.w) X.A (throw (.ref a) : Sem Flow) (goOn X pins D rest) X.xe s4) X.xe { sx with heap := g3 } := by
        rw [hf]
        exact HandSPX.setFlight_upZ fly3 fun g4 hold up4 => wpAny_throw (tk _ _ ⟨a, B, sI, pins, σ1, H1, cls, d, rfl, J, nb, (up.trans up3).trans up4, .inr (.inr (by rw [hs]; exact hold)), na, os1, ag, no rfl⟩)
      first
        | exact wpAny_bind (wpAny_pure (wpAny_bind up_))
        | exact wpAny_bind up_
  · cases f with
    | next => obtain ⟨σ', H', J, r⟩ := q; exact wpAny_execs_nil (h1.run pins sx σ' H' D (J.ofTry okX) r)
    | brk => obtain ⟨σ', H', J, r⟩ := q; exact ⟨σ', H', J.ofTry okX, r⟩
    | cont => obtain ⟨σ', H', J, r⟩ := q; exact ⟨σ', H', J.ofTry okX, r⟩
    | ret u => obtain ⟨v, σ', H', J, rv, r⟩ := q; exact ⟨v, σ', H', J.ofTry okX, rv, r⟩
end
end DL
end
/-! ==== DExc2 ==== -/
section
set_option Elab.async false
set_option linter.all false
set_option autoImplicit false
set_option maxRecDepth 100000
set_option maxHeartbeats 4000000
/-! DL: an error that is known: its field, its classes. -/
namespace DL
open PySem PySem.Spec PyProof.Rows L2
section
variable {X : Cx} {a C : Addr} {oe : Obj} {cls : Value} {d : Option Addr} {pn : List (Addr × Obj)} {xe : Value → Shared → Prop}
/-- it stands where it is pinned -/
theorem at_pin {pins : List (Addr × Obj)} {σ : L2.St} {H : Hp} {s : Shared} (J : Inv (X.tr ((a, oe) :: pn) xe) pins σ H s) : s.heap.get? a = some oe := (J.pin (a, oe) (List.mem_append_left _ List.mem_cons_self)).1
/-- e.f of a known error -/
theorem pe_xk {e : Expr} {te : TE} {pos : Pos} {n : Str} (T : XfC X.K C) (hno : PySem.W.findIn X.K (.ref C) n = some none) (hz : Zc cls d oe) (hf : ∃ vs, oe.data = .fields vs) (he : PE (X.tr ((a, oe) :: pn) xe) e te)
    (hb : attributeBase e n X.env (eval e X.env) = eval e X.env := by rfl) : PE (X.tr ((a, oe) :: pn) xe) (.Attribute e n pos) (tXf a cls d C n te) := by
  refine ⟨fun pins s σ H Q J h => attr_of hb (thn (he.run pins s σ H _ J h) fun u s1 q => ?_)⟩
  obtain ⟨y, H1, J1, ry, rfl, rfl, dd, fs, v, rfl, ed, lk, q⟩ := q
  obtain rfl : u = Value.ref a := ry
  obtain ⟨mA, ns, r⟩ := (show ObjOk X.prog X.w H1 s1.heap dd (.xd fs) from J1.hok dd _ ed)
  obtain ⟨od, ho, hl⟩ := lookIn_ns ns
  obtain ⟨w, hw, rw'⟩ := RelO.some_of (v := v) (o := mA n) (by rw [← lk]; exact r n)
  have at_ : PySem.W.InstAt s1.heap a oe C (some od) := ⟨at_pin J1, hz.1, by unfold PySem.W.notCls; obtain ⟨vs, hd⟩ := hf; rw [hd] <;> rfl, by rw [hz.2]; exact ho⟩
  exact HandSPX.exc_get J1.kIn at_ T.ga T.gg T.exC (PySem.W.findObj_own T.hdC hno rfl (by rw [hl, hw])) (handed_of rw') ⟨v, H1, J1.tok _, rw', q⟩
/-- what isinstance asks of the class -/
structure IsC (K : PySem.W.Frag) (C : Addr) : Prop where
  cl : (PySem.W.clsIn K C).isSome = true
  ga : PySem.W.findIn K (.ref C) "__getattribute__" = some (some (.builtin "BaseException.__getattribute__"))
  gg : PySem.W.findIn K (.ref C) "__getattr__" = some none
  be : PySem.W.subIn K (.ref C) (.type "BaseException") = some true
  ca : PySem.W.findIn K (.ref C) "__class__" = some (some (.builtin "object.__class__"))
  sp : PySem.W.specialIn K (.builtin "object.__class__") "__get__" = some (some (.builtin "getset_descriptor.__get__"))
  tk : PySem.W.takesIn K (.builtin "object.__class__") = some true
  mr : PySem.W.mroIn K C (.type "object") = some true
theorem err_at {pins : List (Addr × Obj)} {σ : L2.St} {H : Hp} {s : Shared} {dd : Addr} {fs : List (Str × V)} (J : Inv (X.tr ((a, oe) :: pn) xe) pins σ H s) (hz : Zc (.ref C) (some dd) oe) (hf : ∃ vs, oe.data = .fields vs) (ed : H dd = some (.xd fs)) : ∃ od, PySem.W.InstAt s.heap a oe C (some od) := by
  obtain ⟨mA, ns, _⟩ := (show ObjOk X.prog X.w H s.heap dd (.xd fs) from J.hok dd _ ed)
  obtain ⟨od, ho, _⟩ := lookIn_ns ns
  exact ⟨od, at_pin J, hz.1, by unfold PySem.W.notCls; obtain ⟨vs, hd⟩ := hf; rw [hd] <;> rfl, by rw [hz.2]; exact ho⟩
/-- isinstance(e, T), e a known error -/
def rIsX (K : PySem.W.Frag) (a C dd : Addr) : List V → Hp → VK → Prop := fun xs H Q => ∃ (c : V) (u : Value) (b : Bool) (fs : List (Str × V)), xs = [.ref a, c] ∧ H dd = some (.xd fs) ∧ ClsV c u ∧ PySem.W.kitOne K (.ref C) u = some b ∧ Q (.bl b) H
theorem cr_isX {dd : Addr} (T : IsC X.K C) (hz : Zc (.ref C) (some dd) oe) (hf : ∃ vs, oe.data = .fields vs) : CallR (X.tr ((a, oe) :: pn) xe) (.builtin "isinstance") (rIsX X.K a C dd) := by
  rintro pins s σ H xs us Q J r ⟨c, u, b, fs, rfl, ed, k, e, q⟩
  obtain ⟨u1, u2, rfl, r1, r2⟩ := vals2 r
  obtain rfl := k.eq r2
  obtain rfl : u1 = Value.ref a := r1
  obtain ⟨od, at_⟩ := err_at J hz hf ed
  exact PySem.W.kia_one (PySem.W.kitx_exc (x := a) (ox := oe) (od := some od) T.cl T.ga T.gg T.be T.ca T.sp T.tk T.mr) J.kIn at_ e (fun z => nomatch z) fun tk => ⟨.bl b, H, J.tok tk, rfl, q⟩
/-- isinstance(e, (T1, T2, ..)) -/
def rIsXT (K : PySem.W.Frag) (a C dd : Addr) : List V → Hp → VK → Prop := fun xs H Q => ∃ (tp : Addr) (cs : List V) (us : List Value) (b : Bool) (fs : List (Str × V)), xs = [.ref a, .ref tp] ∧ H dd = some (.xd fs) ∧ H tp = some (.tup cs) ∧ Paired ClsV cs us ∧ PySem.W.kitAny K (.ref C) us = some b ∧ Q (.bl b) H
theorem cr_isXT {dd : Addr} (T : IsC X.K C) (hz : Zc (.ref C) (some dd) oe) (hf : ∃ vs, oe.data = .fields vs) : CallR (X.tr ((a, oe) :: pn) xe) (.builtin "isinstance") (rIsXT X.K a C dd) := by
  rintro pins s σ H xs us Q J r ⟨tp, cs, ws, b, fs, rfl, ed, ht, k, e, q⟩
  obtain ⟨u1, u2, rfl, r1, r2⟩ := vals2 r
  obtain rfl : u1 = Value.ref a := r1
  obtain rfl : u2 = Value.ref tp := r2
  obtain ⟨od, at_⟩ := err_at J hz hf ed
  obtain ⟨_, its, rv, o, h1, h2, n, h3⟩ := (show ObjOk X.prog X.w H s.heap tp (.tup cs) from J.hok tp _ ht)
  obtain rfl := ClsV.all k rv
  obtain ⟨oc, od', dt, sl⟩ := o
  simp only at h2 h3
  subst h2 h3
  exact PySem.W.kia_tup (PySem.W.kitx_exc (x := a) (ox := oe) (od := some od) T.cl T.ga T.gg T.be T.ca T.sp T.tk T.mr) J.kIn at_ h1 e (fun z => nomatch z) fun tk => ⟨.bl b, H, J.tok tk, rfl, q⟩
end
end DL
end
/-! ==== DExc3 ==== -/
section
set_option Elab.async false
set_option linter.all false
set_option autoImplicit false
set_option maxRecDepth 100000
set_option maxHeartbeats 4000000
/-! DL: try: x = f(y) except C as e: z = e, and what follows. -/
namespace DL
open PySem PySem.Spec PyProof.Rows L2
section
variable {X : Cx}
theorem run_dfnS {CX : CXT} {k : Nat} {f : Addr} {fd : FuncData} {ps : List Str} {F : DFn} {pins : List (Addr × Obj)} {σ : L2.St} {s : Shared} {E : XK} {Q : VK} {us : List Value} {vs : List V} {W : Wd} {ds : List D}
    (hF : DFok X.prog X.w X.K X.mg X.base CX k f fd ps F) (hr : Rm k X.A) (hb : BindsTo s fd ⟨us, []⟩ (ps.zip us)) (hx : PassesAt CX X σ E)
    (I : Inv X pins σ W.H s) (r : Vals vs us) (hK : W.K = X.K) (S : Sim W) (hd : DenL W ds vs) (h : Fin Den W E (F ds W.G) Q) : wpAny (model X.prog X.w) X.A (call (.ref f) us) (EP X pins σ Q) X.xe s := by
  refine wpAny_call (codeAny_mono (hF.run X.A X.stack s ⟨us, []⟩ us vs W ds Q E hr I.env0 hb r hK S hd h) fun t s' q => ?_)
  cases t with
  | error e => exact hx pins W.H s e s' I q
  | ok fl =>
    cases fl with
    | ret u => exact I.after q
    | next => exact False.elim q
    | brk => exact False.elim q
    | cont => exact False.elim q
/-- f(y), y's slot j, f may raise -/
def tLook (K : PySem.W.Frag) (j : Nat) (F : DFn) (Wx : WX) : TE := fun σ H Q => ∃ (v : V) (W : Wd) (d : D), σ[j]? = some (some v) ∧ W.H = H ∧ W.K = K ∧ Sim W ∧ Den W d v ∧ Fin Den W (WE Wx σ) (F [d] W.G) Q
theorem pe_look {k j : Nat} {f : Addr} {fd : FuncData} {p1 : Str} {F : DFn} {x y : Str} {p q pos : Pos} {Wx : WX} (hF : DFok X.prog X.w X.K X.mg X.base (L2.CX X.prog X.w) k f fd [p1] F) (hr : Rm k X.A) (hg : Gl X x) (hm : X.mg x = some (.ref f)) (hk : PySem.W.keepIn X.K (.ref f) = true)
    (hb : Binds X.K fd [p1] []) (tk : Takes X Wx) (hy : PE X (.Name y q) (tVar j)) (hdb : (x == ("__debug__" : Str)) = false := by decide) (he : starEach [.Name y q] X.env = (false, eval (.Name y q) X.env) :: starEach [] X.env := by rfl) (hpl : (backTo pos (starEach [] X.env)).any (·.1) = false := by rfl) :
    PE X (.Call (.Name x p) [.Name y q] [] pos) (tLook X.K j F Wx) := by
  refine ⟨fun pins s σ H Q I h => ?_⟩
  obtain ⟨v, W, d, es, rfl, hK, S, dv, hf⟩ := h
  refine wpAny_Call_Name_kw (ld_glob I hg hm ?_ hdb)
  refine PySem.W.callWith_K (h₀ := X.base) I.ok.mod.kin hk (thn ((pa_cons hy pa_nil he).run pos pins s σ W.H (fun vs H1 => vs = [v] ∧ H1 = W.H) I ⟨v, es, rfl, rfl⟩) fun us s1 ⟨vs, H1, I1, r, e1, e2⟩ => ⟨I1.kIn, ?_⟩) he hpl
  subst e1 e2
  have hl : us.length = [p1].length := r.length.symm
  exact run_dfnS hF hr (by have := hb s1 us I1.kIn (by simpa using hl); simpa using this) (passAt tk σ) I1 r hK S (DenL.one dv) hf
/-- how f's outcome goes on -/
def sTryLook (nm fld : Str) (j kf ke : Nat) (F : DFn) (b1 : DS) (b2 : D → DS) : DS := fun s G => match s[j]? with
  | some (some d) => (match F [d] G with
    | .ok r G' => b1 (s.set kf (some r)) G'
    | .ex (.tup [.str nm', .str fld', p]) G' => if nm' = nm ∧ fld' = fld ∧ ke < s.length then b2 p s G' else .stop
    | _ => .stop)
  | _ => .stop
variable {E : XK}
theorem dss_try_look {k j kf ke kk : Nat} {f C : Addr} {fd : FuncData} {p1 nm fld : Str} {F : DFn} {look item found kept en : Str} {q1 q2 q3 q4 q5 q6 q7 np ps ps' qa : Pos} {rest : List Stmt} {b1 : DS} {b2 : D → DS} {t2 : Addr → Value → Option Addr → TS} {Wo : WX}
    (hs : X.stack = X.env :: X.outer) (hfr : X.env.frame = some X.env.locals) (hN : X.N.Nodup) (hie : X.N[ke]? = some en) (hle : X.env.kindOf en = some .local) (hik : X.N[kk]? = some kept) (hlk : Loc X.env.scope kept) (hif : X.N[kf]? = some found) (hlf : Loc X.env.scope found)
    (hff : X.fn found = true ∨ X.env.scope.names.lookup found = some .local) (hfk : X.fn kept = true ∨ X.env.scope.names.lookup kept = some .local) (hve : Vis X.env.scope en) (hij : X.N[j]? = some item) (hvj : Vis X.env.scope item)
    (hC : PySem.W.nsIn X.K mainGlobals nm = some (some (.ref C))) (hmC : X.mg nm = some (.ref C)) (hgC : Gl X nm) (hdC : (nm == ("__debug__" : Str)) = false) (exC : PySem.W.exmOne X.K (.ref C) (.ref C) = some true) (tk : Takes X Wo)
    (hF : DFok X.prog X.w X.K X.mg X.base (L2.CX X.prog X.w) k f fd [p1] F) (hr : Rm k X.A) (hg : Gl X look) (hm : X.mg look = some (.ref f)) (hk : PySem.W.keepIn X.K (.ref f) = true) (hb : Binds X.K fd [p1] [])
    (hd1 : (look == ("__debug__" : Str)) = false) (hd2 : (item == ("__debug__" : Str)) = false) (hd3 : (item == ("__classdict__" : Str)) = false) (hd4 : (en == ("__debug__" : Str)) = false) (hd5 : (en == ("__classdict__" : Str)) = false)
    (hse : starEach [.Name item q2] X.env = (false, eval (.Name item q2) X.env) :: starEach [] X.env) (hpl : (backTo q3 (starEach [] X.env)).any (·.1) = false)
    (sw1 : swapsWith (.Call (.Name look q1) [.Name item q2] [] q3) (some (.Name found q4)) q5.line X.env = pure false) (sw2 : swapsWith (.Name en q6) (some (.Name kept q7)) qa.line X.env = pure false)
    (h1 : DSsOk X E rest b1)
    (h2 : ∀ (a : Addr) (oe : Obj) (cls : Value) (d : Option Addr) (pn : List (Addr × Obj)), Zc cls d oe → (∃ vs, oe.data = .fields vs) → PSs (X.tr ((a, oe) :: pn) X.xe) rest (t2 a cls d))
    (h3 : ∀ (a d : Addr) (W : Wd) (σ : L2.St) (s : DSl) (p : D) (v : V) (De : Ends), W.K = X.K → Sim W → Sl W σ s → ke < s.length → W.H d = some (.xd [(fld, v)]) → Den W p v → SFin W E (b2 p s W.G) De → t2 a (.ref C) (some d) De (((σ.set ke (some (.ref a))).set kk (some (.ref a))).set ke none) W.H) :
    DSsOk X E (.Try [.Assign [.Name found q4] (.Call (.Name look q1) [.Name item q2] [] q3) q5] [.ExceptHandler (some (.Name nm np)) (some en) [.Assign [.Name kept q7] (.Name en q6) qa] ps'] [] [] ps :: rest) (sTryLook nm fld j kf ke F b1 b2) := by
  obtain ⟨t1, p1', r1⟩ := h1.out
  refine ⟨_, pss_try_keep (c := .ref C) (tb := fun Wx => tAsg (tLook X.K j F Wx) (gName kf)) (ts := fun _ _ _ => tAsg (tVar ke) (gName kk)) (t2 := t2) hs hfr hN hie hle ⟨hgC, hdC, .inl hmC⟩ tk (fun Wx pn xe tk' _ => ?_) (fun a oe cls d pn _ _ => ?_) p1' h2, fun W σ s De hK S L h => ?_⟩
  · exact pss_one (ps_set (X := X.tr pn xe) hN hif hlf (pe_look (X := X.tr pn xe) hF hr hg hm hk hb tk' (pe_var hij hvj hd2 hd3) hd1 hse hpl) sw1 hff)
  · exact pss_one (ps_set (X := X.suite a ((a, oe) :: pn)) hN hik hlk (pe_var hie hve hd4 hd5) sw2 hfk)
  · unfold sTryLook at h
    split at h
    · rename_i d es
      obtain ⟨v, ev, dv⟩ := L.2 j d es
      refine ⟨v, W, d, ev, rfl, hK, S, dv, ?_⟩
      split at h
      · rename_i r G' e
        rw [e]
        intro v' W1 x1 S1 eG dv'
        subst eG
        exact r1 W1 _ _ De (x1.k.trans hK) S1 ((L.mono x1).set dv') (SFin.mono x1 h)
      · rename_i nm' fld' p G' e
        rw [e]
        split at h
        · rename_i c
          obtain ⟨rfl, rfl, cl⟩ := c
          rintro c od W1 x1 S1 eG (⟨nm2, f2, p2, C2, d2, v2, e2, hn2, rfl, rfl, hx2, dv2⟩ | ⟨_, _, e2, _⟩) <;> try (simp at e2; done)
          subst eG
          simp only [DL.D.tup.injEq, List.cons.injEq, DL.D.str.injEq, and_true] at e2
          obtain ⟨rfl, rfl, rfl⟩ := e2
          have hK1 := x1.k.trans hK
          rw [hK1, hC] at hn2
          cases hn2
          refine ⟨true, exC, fun _ a ha => ?_, fun z => by cases z⟩
          exact ⟨.ref a, List.getElem?_set_self (by rw [L.1]; exact cl), h3 a d2 W1 σ s _ v2 De hK1 S1 (L.mono x1) cl hx2 dv2 (SFin.mono x1 h)⟩
        · exact h.elim
      · exact h.elim
    · exact h.elim
end
end DL
end
/-! ==== DTold ==== -/
section
set_option Elab.async false
set_option linter.all false
set_option autoImplicit false
set_option maxRecDepth 100000
set_option maxHeartbeats 4000000
/-! DL: what is known of the own errors, from what the top has written. -/
namespace DL
open PySem PySem.Spec PyProof.Rows L2
section
variable {K : PySem.W.Frag} {mg : Str → Option Value}
/-- an own error of one field over ValueError, its __init__ a def -/
theorem exRaw_mk {h : Heap} {nm fld qual : Str} {st : Stmt} {C fI N : Addr} {cn cq : Str} {bs bm : List Value} {sn : List Str} {sub : List Value} {ab : Bool} {col : Option Bool} {dd : Option Addr} {m0 m1 m2 m3 m5 : Option Value} {od an : Option Addr} {osl : Array (Option Value)} {oc kV doc pm cdv ct : Value}
    (X : K.In h) (G : h.Ns mainGlobals mg) (z : PySem.W.nsIn K mainGlobals nm = some (some (.ref C))) (lc : K.lookup C = some (excClassObj cn cq C N bs bm true sn sub ab col dd m0 m1 m2 m3 m5 "ValueError.__new__")) (rv : PySem.HandSPX.refsVE bm = true)
    (sa : PySem.W.findIn K (.ref C) "__setattr__" = some (some (.builtin "object.__setattr__"))) (be : PySem.W.subIn K (.ref C) (.type "BaseException") = some true) (ty : PySem.W.typeIn K (.ref C) = some (.type "type")) (kc : PySem.W.keepIn K (.ref C) = true)
    (fi : PySem.W.findIn K (.ref C) "__init__" = some (some (.ref fI))) (ti : PySem.W.typeIn K (.ref fI) = some (.type "function")) (fn : PySem.W.findIn K (.ref C) fld = some none)
    (lf : K.lookup fI = some ⟨oc, od, .func (PySem.W.fnOf "__init__" qual (defArgs st) (defBody st) (defScope st) .none kV doc pm an cdv ct), osl⟩) (cf : PySem.W.codeIn K cdv qual = true) (kf : PySem.W.keepIn K (.ref fI) = true)
    (hb : ∀ (kV doc pm : Value) (an : Option Addr) (cdv ct : Value) (us : List Value), us.length = [("self" : Str), fld].length → bindArgs (PySem.W.fnOf "__init__" qual (defArgs st) (defBody st) (defScope st) .none kV doc pm an cdv ct) ⟨us, []⟩ = pure ([("self" : Str), fld].zip us)) : ExRaw K mg nm fld st :=
  ⟨C, fI, _, qual, fun_mk lf cf kf, PySem.W.mg_of X G z, z, ⟨⟨cn, cq, N, bs, bm, sn, sub, ab, col, dd, m0, m1, m2, m3, m5, lc, rv⟩, sa, be, ty, kc⟩, fi, ti, fn, Binds.all (hb _ _ _ _ _ _)⟩
structure ToldF (K : PySem.W.Frag) (mg : Str → Option Value) : Prop where
  ex : ∃ cC c1 c2 c3 c4 : Addr, PySem.W.nsIn K mainGlobals "NoDeed" = some (some (.ref cC)) ∧ mg "NoDeed" = some (.ref cC) ∧ PySem.W.exmOne K (.ref cC) (.ref cC) = some true ∧ XfC K cC ∧ PySem.W.findIn K (.ref cC) "part" = some none ∧ IsC K cC ∧
    mg "NoText" = some (.ref c1) ∧ mg "NoStates" = some (.ref c2) ∧ mg "NoRow" = some (.ref c3) ∧ mg "Barred" = some (.ref c4) ∧ PySem.W.kitOne K (.ref cC) (.type "ValueError") = some true ∧ PySem.W.kitAny K (.ref cC) [.ref c1, .ref c2, .ref c3, .ref c4] = some false
theorem kitOne_no {C c : Addr} (i : PySem.W.isClsIn K c = true) (t : PySem.W.typeIn K (.ref c) = some (.type "type")) (s : PySem.W.subIn K (.ref C) (.ref c) = some false) (n : (C == c) = false) : PySem.W.kitOne K (.ref C) (.ref c) = some false := by
  have i' : (PySem.W.clsIn K c).isSome = true := i
  have n' : (Value.ref C == Value.ref c) = false := by
    rw [beq_eq_false_iff_ne] at n ⊢
    exact fun z => n (Value.ref.inj z)
  unfold PySem.W.kitOne
  rw [n', if_neg Bool.false_ne_true]
  show (if ((PySem.W.clsIn K c).isSome && PySem.W.typeIn K (.ref c) == some (.type "type")) = true then PySem.W.subIn K (.ref C) (.ref c) else none) = some false
  rw [i', t, if_pos (by decide)]
  exact s
theorem toldF_mk {h : Heap} {cC c1 c2 c3 c4 : Addr} (X : K.In h) (G : h.Ns mainGlobals mg) (zC : PySem.W.nsIn K mainGlobals "NoDeed" = some (some (.ref cC))) (z1 : PySem.W.nsIn K mainGlobals "NoText" = some (some (.ref c1))) (z2 : PySem.W.nsIn K mainGlobals "NoStates" = some (some (.ref c2)))
    (z3 : PySem.W.nsIn K mainGlobals "NoRow" = some (some (.ref c3))) (z4 : PySem.W.nsIn K mainGlobals "Barred" = some (some (.ref c4)))
    (be : PySem.W.subIn K (.ref cC) (.type "BaseException") = some true) (hd : PySem.W.hasDictIn K cC = true) (ty : PySem.W.typeIn K (.ref cC) = some (.type "type")) (su : PySem.W.subIn K (.ref cC) (.ref cC) = some true)
    (ga : PySem.W.findIn K (.ref cC) "__getattribute__" = some (some (.builtin "BaseException.__getattribute__"))) (gg : PySem.W.findIn K (.ref cC) "__getattr__" = some none) (np : PySem.W.findIn K (.ref cC) "part" = some none)
    (ca : PySem.W.findIn K (.ref cC) "__class__" = some (some (.builtin "object.__class__"))) (sp : PySem.W.specialIn K (.builtin "object.__class__") "__get__" = some (some (.builtin "getset_descriptor.__get__"))) (tk : PySem.W.takesIn K (.builtin "object.__class__") = some true)
    (mr : PySem.W.mroIn K cC (.type "object") = some true) (ic : PySem.W.isClsIn K cC = true) (sv : PySem.W.subIn K (.ref cC) (.type "ValueError") = some true)
    (i1 : PySem.W.isClsIn K c1 = true) (t1 : PySem.W.typeIn K (.ref c1) = some (.type "type")) (s1 : PySem.W.subIn K (.ref cC) (.ref c1) = some false) (n1 : (cC == c1) = false)
    (i2 : PySem.W.isClsIn K c2 = true) (t2 : PySem.W.typeIn K (.ref c2) = some (.type "type")) (s2 : PySem.W.subIn K (.ref cC) (.ref c2) = some false) (n2 : (cC == c2) = false)
    (i3 : PySem.W.isClsIn K c3 = true) (t3 : PySem.W.typeIn K (.ref c3) = some (.type "type")) (s3 : PySem.W.subIn K (.ref cC) (.ref c3) = some false) (n3 : (cC == c3) = false)
    (i4 : PySem.W.isClsIn K c4 = true) (t4 : PySem.W.typeIn K (.ref c4) = some (.type "type")) (s4 : PySem.W.subIn K (.ref cC) (.ref c4) = some false) (n4 : (cC == c4) = false) : ToldF K mg := by
  refine ⟨cC, c1, c2, c3, c4, zC, PySem.W.mg_of X G zC, PySem.W.exm_ref be hd ty su, ⟨ga, gg, be, hd⟩, np, ⟨ic, ga, gg, be, ca, sp, tk, mr⟩, PySem.W.mg_of X G z1, PySem.W.mg_of X G z2, PySem.W.mg_of X G z3, PySem.W.mg_of X G z4, ?_, ?_⟩
  · have m : PySem.W.kitMeta "ValueError" = true := by decide +kernel
    unfold PySem.W.kitOne
    rw [if_neg (by simp)]
    show (if PySem.W.kitMeta "ValueError" = true then PySem.W.subIn K (.ref cC) (.type "ValueError") else none) = some true
    rw [if_pos m]
    exact sv
  · unfold PySem.W.kitAny
    rw [kitOne_no i1 t1 s1 n1]
    unfold PySem.W.kitAny
    rw [kitOne_no i2 t2 s2 n2]
    unfold PySem.W.kitAny
    rw [kitOne_no i3 t3 s3 n3]
    unfold PySem.W.kitAny
    rw [kitOne_no i4 t4 s4 n4]
    rfl
end
section
variable {P : Program} {w : World} {K : PySem.W.Frag} {mg : Str → Option Value} {base : Heap}
theorem ifn {c : Bool} {p q : Prop} (h : c = false) (hq : q) : if c = true then p else q := by
  subst h
  exact hq
/-- what is told of a NoDeed whose part is p -/
def told2 : D → DS := fun p s G => match p with
  | .non => .ok (.rt (.str "none"), s) G
  | .str z => .ok (.rt (.str z), s) G
  | _ => .stop
/-- what follows where nothing was raised -/
def told1 : DS := sSeq (sIf (dTest (dBin isD (dVar 1) (dC .non))) (sRet (dBin ixD (dLst true (dCons (dC (.str "odd")) (dCons (dC (.str "")) dNil))) (dCall intO (dCons (dBin isD (dVar 2) (dC .non)) dNil)))) sPass) fun _ _ => .stop
theorem takes_nox {X : Cx} : Takes X (fun _ _ _ _ => False) := fun _ _ ⟨_, _, _, _, _, _, _, _, _, _, _, _, _, _, _, _, w⟩ => w.elim
theorem dss_never {X : Cx} {E : XK} {sts : List Stmt} : DSsOk X E sts fun _ _ => .stop := ⟨_, pss_never, fun _ _ _ _ _ _ _ h => h.elim⟩
def bTold (F : DFn) : DS := sSeq (sAsg (dC .non) (gNm 1)) (sTryLook "NoDeed" "part" 0 2 3 F told1 told2)
end
end DL
end
/-! ==== DErr3 ==== -/
section
set_option Elab.async false
set_option linter.all false
set_option autoImplicit false
set_option maxRecDepth 100000
set_option maxHeartbeats 4000000
/-! DL: own exceptions over any of five of the machine's: what the written part says, stores, the first call of the machine's __init__. -/
namespace DL
open PySem PySem.Spec PyProof.Rows L2
/-- the machine's class that an own one stands over -/
inductive Bs | ve | ke | le | oe | re
  deriving DecidableEq
def Bs.own : Bs → String
  | .ve => "ValueError"
  | .ke => "LookupError"
  | .le => "LookupError"
  | .oe => "OverflowError"
  | .re => "RuntimeError"
def Bs.ini : Bs → String
  | .ve => "ValueError"
  | .ke => "KeyError"
  | .le => "LookupError"
  | .oe => "OverflowError"
  | .re => "RuntimeError"
def Bs.newId : Bs → String
  | .ve => "ValueError.__new__"
  | .ke => "LookupError.__new__"
  | .le => "LookupError.__new__"
  | .oe => "OverflowError.__new__"
  | .re => "RuntimeError.__new__"
def Bs.initId : Bs → String
  | .ve => "ValueError.__init__"
  | .ke => "KeyError.__init__"
  | .le => "LookupError.__init__"
  | .oe => "OverflowError.__init__"
  | .re => "RuntimeError.__init__"
def Bs.mro : Bs → List Value
  | .ve => [.type "ValueError", .type "Exception", .type "BaseException", .type "object"]
  | .ke => [.type "KeyError", .type "LookupError", .type "Exception", .type "BaseException", .type "object"]
  | .le => [.type "LookupError", .type "Exception", .type "BaseException", .type "object"]
  | .oe => [.type "OverflowError", .type "ArithmeticError", .type "Exception", .type "BaseException", .type "object"]
  | .re => [.type "RuntimeError", .type "Exception", .type "BaseException", .type "object"]
theorem Bs.fac (b : Bs) : ∃ (i : String) (m : List Value), ExcBaseFacts b.own b.newId i m := by
  cases b
  · exact ⟨_, _, F.excBase_ValueError⟩
  · exact ⟨_, _, F.excBase_LookupError⟩
  · exact ⟨_, _, F.excBase_LookupError⟩
  · exact ⟨_, _, F.excBase_OverflowError⟩
  · exact ⟨_, _, F.excBase_RuntimeError⟩
theorem Bs.tl (b : Bs) : Tl b.mro b.own := by cases b <;> exact ⟨by decide +kernel, by decide +kernel, by decide +kernel⟩
theorem Bs.inF (b : Bs) : InF b.ini b.initId := by
  cases b
  · exact inF_of F.excBase_ValueError.toExcCallFacts
  · exact ⟨excClass_KeyError.init, excClass_KeyError.initEntry, excClass_KeyError.initKind, excClass_KeyError.initSplit, excClass_KeyError.initSig, excClass_KeyError.notStar⟩
  · exact inF_of F.excBase_LookupError.toExcCallFacts
  · exact inF_of F.excBase_OverflowError.toExcCallFacts
  · exact inF_of F.excBase_RuntimeError.toExcCallFacts
theorem Bs.has (b : Bs) : b.mro.contains (.type b.ini) = true := by cases b <;> decide +kernel
theorem pass_ref {self : Value} {C : Addr} {l : List Value} (h : refuseLoop self "__setattr__" l = pure ()) : refuseLoop self "__setattr__" (.ref C :: l) = pure () := by rw [refuseLoop_ref]; exact h
theorem Bs.ml (b : Bs) (C : Addr) : Ml (.ref C :: b.mro) := by
  refine ⟨rfl, ?_, fun self => pass_ref ?_⟩
  · rw [List.contains_cons]
    cases b <;> rfl
  · cases b <;> kernel_rfl
theorem Bs.typ (b : Bs) : typeOf (.type b.ini) = pure (.type "type") := by cases b <;> kernel_rfl
theorem Bs.boot (b : Bs) : bootBuiltins (Str.ofString b.ini) = some (.type b.ini) := by cases b <;> decide +kernel
/-- what the written part says of the class -/
structure OxG (K : PySem.W.Frag) (C : Addr) (b : Bs) : Prop where
  cls : ∃ nm q N bs sn sub ab col dd k0 k1 k2 k3 k5, K.lookup C = some (excClassObj nm q C N bs b.mro true sn sub ab col dd k0 k1 k2 k3 k5 b.newId)
  sa : PySem.W.findIn K (.ref C) "__setattr__" = some (some (.builtin "object.__setattr__"))
  kC : PySem.W.keepIn K (.ref C) = true
section
variable {X : Cx} {pins : List (Addr × Obj)} {σ : L2.St} {H : Hp} {s : Shared} {a C dx : Addr} {f : Str} {y : V} {u : Value} {fs : List (Str × V)} {Q : Unit → Shared → Prop} {E : Value → Shared → Prop} {A : Around} {b : Bs}
theorem OxG.data {K : PySem.W.Frag} (T : OxG K C b) : ∃ cd : ClassData, PySem.W.clsIn K C = some cd ∧ Ml cd.mro ∧ cd.hasDict = true := by
  obtain ⟨nm, q, N, bs, sn, sub, ab, col, dd, k0, k1, k2, k3, k5, hC⟩ := T.cls
  refine ⟨{ name := nm, bases := bs, mro := .ref C :: b.mro, ns := N, qualname := q, hasDict := true, slotNames := sn, subclasses := sub, abstract := ab, collection := col, hasDel := false }, ?_, b.ml C, rfl⟩
  unfold PySem.W.clsIn
  rw [hC] <;> rfl
theorem og_new (T : OxG X.K C b) (I : Inv X pins σ H s) (e : H a = some (exo a C none)) (hno : PySem.W.findIn X.K (.ref C) f = some none) (ry : RelV y u)
    (h : ∀ dx s', H dx = none → dx ≠ a → Inv X pins σ (upd (upd H dx (exd dx [(f, y)])) a (exo a C (some dx))) s' → Q () s') : wpAny (model X.prog X.w) A (setAttr (.ref a) f u) Q E s := by
  obtain ⟨cd, hcl, hml, hhd⟩ := T.data
  obtain ⟨t1, ho⟩ := exo_at I.hok e
  obtain ⟨hp, g, d, t, os⟩ := s
  refine PySem.W.set_plain I.kIn (ox := { cls := .ref C, dict := none, data := .fields #[.ref t1, .none, .none, .none, .bool false, .none] }) (od := none) ⟨ho, rfl, rfl, trivial⟩ T.sa ?_
  refine xo_new I.kIn ho hcl hml hhd hno (fun h' tk' dx k dn dne hx hn => ?_)
  have hnd : H dx = none := I.hok.fresh dn
  have nd : ∀ {b : Addr} {o : Obj}, hp.get? b = some o → b ≠ dx := fun {b o} q => Nat.ne_of_lt (Nat.lt_of_lt_of_le (Heap.lt_size q) dn)
  have na : ∀ {b : Addr}, H b = none → b ≠ a := fun {b} n z => by
    rw [z, e] at n
    cases n
  have U : Un X.fs [] H (upd (upd H dx (exd dx [(f, y)])) a (exo a C (some dx))) hp h' := {
    keep := fun b o q n _ _ => k b o (na n) q
    slot := fun b o q n _ _ => ⟨o.slots, k b o (na n) q⟩
    free := fun b o q n _ => by rw [upd_ne (na n), upd_ne (nd q)]; exact n
    there := fun b o q _ => by
      by_cases hb : b = a
      · exact ⟨_, by rw [hb]; exact hx⟩
      · exact ⟨o, k b o hb q⟩
    tups := fun b xs q => by rw [upd_ne (at_ne e q exo_tup), upd_ne (ne_of_none q hnd)]; exact q
    frzs := fun b o v q => by rw [upd_ne (at_ne e q exo_frz), upd_ne (ne_of_none q hnd)]; exact q
    tbls := fun b ps q => ⟨#[], by rw [upd_ne (at_ne e q exo_tbl), upd_ne (ne_of_none q hnd), q]; simp⟩ }
  refine h dx _ hnd dne (I.un (t' := tk') U fun b o q => ?_)
  by_cases hb : b = a
  · subst hb
    rw [upd_same] at q
    cases q
    exact exo_ok hx
  · rw [upd_ne hb] at q
    by_cases hd : b = dx
    · subst hd
      rw [upd_same] at q
      cases q
      exact exd_ok hn (relO_put (fs := []) ry fun g => True.intro)
    · rw [upd_ne hd] at q
      exact (I.hok b o q).stay (fun c v hc z => k c v (by
          rcases hc with hc | hc
          · rw [hc]
            exact hb
          · exact at_ne e hc exo_own) z)
        (fun c hc => by rw [upd_ne (at_ne e hc exo_own), upd_ne (ne_of_none hc hnd)]; exact hc) (fun c xs hc => by rw [upd_ne (at_ne e hc exo_tup), upd_ne (ne_of_none hc hnd)]; exact hc)
theorem og_old (T : OxG X.K C b) (I : Inv X pins σ H s) (e : H a = some (exo a C (some dx))) (ed : H dx = some (exd dx fs)) (hl : fs.length ≤ 900) (hno : PySem.W.findIn X.K (.ref C) f = some none) (ry : RelV y u)
    (h : ∀ s', Inv X pins σ (upd H dx (exd dx ((f, y) :: fs))) s' → Q () s') : wpAny (model X.prog X.w) A (setAttr (.ref a) f u) Q E s := by
  obtain ⟨cd, hcl, hml, hhd⟩ := T.data
  obtain ⟨t1, ho⟩ := exo_at I.hok e
  obtain ⟨mA, hns, rel⟩ := exd_at I.hok ed
  have hw := within_of rel
  obtain ⟨hp, g, d, t, os⟩ := s
  obtain ⟨oD, _, _, hoD, _, _⟩ := hns.count hw
  refine PySem.W.set_plain I.kIn (ox := { cls := .ref C, dict := some dx, data := .fields #[.ref t1, .none, .none, .none, .bool false, .none] }) (od := some oD) ⟨ho, rfl, rfl, hoD⟩ T.sa ?_
  refine xo_old I.kIn ho hns hw (by rw [List.length_map]; omega) hcl hml hhd hno (fun h' tk' k hn => ?_)
  have hd : ∃ o, h'.get? dx = some o := by
    obtain ⟨o, _, _, e', _⟩ := hn
    exact ⟨o, e'⟩
  exact h _ (I.write (t' := tk') (x := dx) (e := dx) (o := exd dx ((f, y) :: fs)) (by rw [ed]; exact True.intro) (.inl rfl) k hd (exd_ok hn (relO_put ry rel)))
theorem og_init {us : List Value} {Q : Value → Shared → Prop} (T : OxG X.K C b) (I : Inv X pins σ H s) (e : H a = some (exo a C none)) (hl : us.length ≤ sizeLine) (h : ∀ s', Inv X pins σ H s' → Q .none s') :
    wpAny (model X.prog X.w) A (call (.builtin b.initId) (.ref a :: us)) Q E s := by
  obtain ⟨nm, q, N, bs, sn, sub, ab, col, dd, k0, k1, k2, k3, k5, hC⟩ := T.cls
  obtain ⟨t1, ho⟩ := exo_at I.hok e
  obtain ⟨hp, g, d, t, os⟩ := s
  refine wpAny_call (xi_base b.inF b.has (I.kIn _ _ hC) ho hl fun h' t2 k hx => ?_)
  have J := I.write (t' := t) (x := a) (e := a) (o := exo a C none) (by rw [e]; exact True.intro) (.inl rfl) k ⟨_, hx⟩ (exo_ok hx)
  have eu : upd H a (exo a C none) = H := by
    funext b
    by_cases hb : b = a
    · rw [hb, upd_same, e]
    · rw [upd_ne hb]
  rw [eu] at J
  exact h _ J
end
/-! ### rules -/
/-- B.__init__(self, ..) -/
def tBi (K : PySem.W.Frag) (b : Bs) (ta : TA) : TE := fun σ H Q => ta σ H fun vs H1 => ∃ (a C : Addr) (ws : List V), vs = .ref a :: ws ∧ ws.length ≤ 1000 ∧ OxG K C b ∧ H1 a = some (exo a C none) ∧ Q .non H1
/-- self.f = e -/
def tOg (K : PySem.W.Frag) (b : Bs) (f : Str) (to te : TE) : TS := fun D σ H => te σ H fun y H1 => to σ H1 fun x H2 => ∃ a C : Addr, x = .ref a ∧ OxG K C b ∧ PySem.W.findIn K (.ref C) f = some none ∧
  ((H2 a = some (exo a C none) ∧ ∀ dx, H2 dx = none → dx ≠ a → D.nx σ (upd (upd H2 dx (exd dx [(f, y)])) a (exo a C (some dx)))) ∨
    ∃ (dx : Addr) (fs : List (Str × V)), H2 a = some (exo a C (some dx)) ∧ H2 dx = some (exd dx fs) ∧ fs.length ≤ 900 ∧ D.nx σ (upd H2 dx (exd dx ((f, y) :: fs))))
/-- C(e, ..) -/
def tMg (C : Addr) (sp : Sp) (g : List V → List V) (ta : TA) : TE := fun σ H Q => ta σ H fun vs H1 => vs.length ≤ 1000 ∧ ∀ a, H1 a = none → sp (.ref a :: g vs) (upd H1 a (exo a C none)) (fun v H2 => v = .non ∧ Q (.ref a) H2) (fun _ _ _ => False)
section
variable {X : Cx} {o e : Expr} {es : List Expr} {to te : TE} {ta : TA} {f nB : Str} {p p' p1 p2 pos : Pos} {b : Bs}
theorem pe_bini {pl : Sem Bool} (hn : nB = Str.ofString b.ini) (hg : Gl X nB) (hm : X.mg nB = none) (vV : PySem.W.findCls X.K (.type b.ini) (.type "type") "__init__" = some (.val (.builtin b.initId))) (ha : PA X (e :: es) ta)
    (hc : eval (.Call (.Attribute (.Name nB p1) "__init__" p2) (e :: es) [] pos) X.env = (do
      let ov ← eval (.Name nB p1) X.env
      standAt p2.atName
      let (f, first) ← holding [ov] (getMethod ov "__init__" pl)
      callWith pos f first (backTo pos (starEach (e :: es) X.env)) (backToKw pos (keywordEach [] X.env))) := by rfl)
    (hn1 : nB ≠ "__name__" := by decide) (hn2 : (nB == ("__debug__" : Str)) = false := by decide)
    (he : starEach (e :: es) X.env = (false, eval e X.env) :: starEach es X.env := by rfl) (hpl : (backTo pos (starEach es X.env)).any (·.1) = false := by rfl) :
    PE X (.Call (.Attribute (.Name nB p1) "__init__" p2) (e :: es) [] pos) (tBi X.K b ta) := by
  refine ⟨fun pins s σ H Q I h => ?_⟩
  refine PySem.W.methodCall_KW (ld_blt I hg hm (by rw [hn]; exact b.boot) ?_ hn1 hn2) hc
  obtain ⟨m, fr⟩ := I.fr
  refine PySem.W.method_type fr I.ok.mod.kin b.typ (by cases b <;> decide +kernel) vV (by cases b <;> decide +kernel) ?_
  show wpAny _ _ (callWith pos (Value.builtin b.initId) [] (backTo pos (starEach (e :: es) X.env)) []) _ _ _
  refine PyProof.Rows.callWith_method1 (thn (ha.run pos pins _ σ H _ (I.tok _) h) fun us s1 ⟨vs, H1, I1, r1, a, C, ws, ev, hl, T, ea, q⟩ => ?_) he hpl
  subst ev
  cases r1 with
  | @cons _ u0 _ ur ra rw' =>
    obtain rfl : u0 = Value.ref a := ra
    have hlen : ur.length ≤ sizeLine := by
      rw [← Paired.length rw', sizeLine_eq]
      omega
    exact og_init T I1 ea hlen fun s' J => ⟨.non, H1, J, rfl, q⟩
theorem ps_og (ho : PE X o to) (he : PE X e te) (hs : swapsWith e (some (.Attribute o f p')) pos.line X.env = pure false := by rfl) : PS X (.Assign [.Attribute o f p'] e pos) (tOg X.K b f to te) := by
  refine ⟨fun pins s σ H D I h => ?_⟩
  refine plainObj_wpAny_Assign_Attribute (thn (he.run pins s σ H _ I h) fun v s1 ⟨y, H1, I1, r1, q1⟩ => thn (ho.run pins s1 σ H1 _ I1 q1) fun u s2 ⟨x, H2, I2, r2, a, C, ex, T, hno, q⟩ => ?_) hs
  subst ex
  obtain rfl : u = Value.ref a := r2
  rcases q with ⟨ea, q⟩ | ⟨dx, fs, ea, ed, hl, q⟩
  · exact og_new T I2 ea hno r1 fun dx s' n ne J => ⟨σ, _, J, q dx n ne⟩
  · exact og_old T I2 ea ed hl hno r1 fun s' J => ⟨σ, _, J, q⟩
end
end DL
end
/-! ==== DErr4 ==== -/
section
set_option Elab.async false
set_option linter.all false
set_option autoImplicit false
set_option maxRecDepth 100000
set_option maxHeartbeats 4000000
/-! DL: own exceptions made as values. -/
namespace DL
open PySem PySem.Spec PyProof.Rows L2
section
variable {X : Cx} {CX : CXT} {x : Str} {C fI : Addr} {k : Nat} {fd : FuncData} {ps ks : List Str} {sp : Sp} {b : Bs} {e : Expr} {es : List Expr} {kws : List Keyword} {ta tk : TA} {p pos : Pos} {pins : List (Addr × Obj)} {σ : L2.St} {H1 : Hp} {s1 : Shared} {Q : VK}
/-- C(..), C's own __init__ keeping sp -/
theorem run_mg {us : List Value} {kw : List (Str × Value)} {gB : Addr → List Value} {gV : Addr → List V} (T : OxG X.K C b) (iC : PySem.W.findIn X.K (.ref C) "__init__" = some (some (.ref fI))) (tI : PySem.W.typeIn X.K (.ref fI) = some (.type "function"))
    (F1 : FnOk X.prog X.w X.K X.mg X.base CX k fI fd ps sp) (hr : Room (k + 1) X.A) (hx : Passes CX X (fun _ _ _ => False)) (I1 : Inv X pins σ H1 s1) (hus : us.length ≤ sizeLine)
    (hb : ∀ (s : Shared) (a : Addr), X.K.In s.heap → (gB a).length = ps.length → BindsTo s fd ⟨.ref a :: us, kw⟩ (ps.zip (gB a))) (hV : ∀ a, Vals (gV a) (gB a))
    (hq : ∀ a, H1 a = none → sp (gV a) (upd H1 a (exo a C none)) (fun v H2 => v = .non ∧ Q (.ref a) H2) (fun _ _ _ => False)) : wpAny (model X.prog X.w) X.A (call (.ref C) us kw) (EP X pins σ Q) X.xe s1 := by
  obtain ⟨nm, q, N, bs, sn, sub, ab, col, dd, k0, k1, k2, k3, k5, hC⟩ := T.cls
  obtain ⟨i, m, FB⟩ := b.fac
  obtain ⟨hp, g, dr, tk, os⟩ := s1
  have hsz : hp.objs.size ≤ hp.objs.size + 1 := Nat.le_succ _
  have hn : H1 (hp.objs.size + 1) = none := I1.hok.fresh hsz
  have hq0 := hq (hp.objs.size + 1) hn
  have kk : ∀ b o, hp.get? b = some o → ((hp.push (PySem.W.kdv_tup us)).push (PySem.HandSPX.excO C hp.objs.size)).get? b = some o := fun b o e => Heap.get?_push_of_some _ (Heap.get?_push_of_some _ e)
  have hget : ((hp.push (PySem.W.kdv_tup us)).push (PySem.HandSPX.excO C hp.objs.size)).get? (hp.objs.size + 1) = some (PySem.HandSPX.excO C hp.objs.size) := by heap_get
  have I2 : Inv X pins σ (upd H1 (hp.objs.size + 1) (exo (hp.objs.size + 1) C none)) ⟨(hp.push (PySem.W.kdv_tup us)).push (PySem.HandSPX.excO C hp.objs.size), g, dr, tk, os⟩ :=
    I1.laid (t' := tk) (a := hp.objs.size + 1) (o := exo (hp.objs.size + 1) C none) (h' := (hp.push (PySem.W.kdv_tup us)).push (PySem.HandSPX.excO C hp.objs.size)) kk hsz (exo_ok hget)
  have hl : (gB (hp.objs.size + 1)).length = ps.length := by rw [← (hV (hp.objs.size + 1)).length]; exact F1.len _ _ _ _ hq0
  refine wpAny_call (xn_call FB b.tl (I1.kIn _ _ hC) (PySem.W.looks_findIn I1.kIn iC) (fun self => PySem.W.bind_fn I1.kIn self tI) hus
    (codeAny_mono (F1.run _ X.stack _ _ ⟨Value.ref (hp.objs.size + 1) :: us, kw⟩ (gB (hp.objs.size + 1)) _ _ (fun _ _ _ => False) (hr.make C us kw) (I2.env0.make C us kw) (hb _ _ I2.kIn hl) (hV _) hq0) fun r s' hq' => ?_))
  cases r with
  | error er => exact hx pins σ _ _ er s' I2 hq'
  | ok fl =>
    cases fl with
    | ret u =>
      obtain ⟨v, H', I3, rv, ev, q3⟩ := I2.after hq'
      subst ev
      exact ⟨rv, ⟨V.ref (hp.objs.size + 1), H', I3, rfl, q3⟩⟩
    | next => exact False.elim hq'
    | brk => exact False.elim hq'
    | cont => exact False.elim hq'
/-- C(), C without an __init__ of its own -/
theorem run_mg0 (T : OxG X.K C b) (iC : PySem.W.findIn X.K (.ref C) "__init__" = some (some (.builtin b.initId))) (I1 : Inv X pins σ H1 s1)
    (hq : ∀ a, H1 a = none → Q (.ref a) (upd H1 a (exo a C none))) : wpAny (model X.prog X.w) X.A (call (.ref C) [] []) (EP X pins σ Q) X.xe s1 := by
  obtain ⟨nm, q, N, bs, sn, sub, ab, col, dd, k0, k1, k2, k3, k5, hC⟩ := T.cls
  obtain ⟨i, m, FB⟩ := b.fac
  obtain ⟨hp, g, dr, tk, os⟩ := s1
  have hsz : hp.objs.size ≤ hp.objs.size + 1 := Nat.le_succ _
  have hn : H1 (hp.objs.size + 1) = none := I1.hok.fresh hsz
  have kk : ∀ b o, hp.get? b = some o → ((hp.push (PySem.W.kdv_tup [])).push (PySem.HandSPX.excO C hp.objs.size)).get? b = some o := fun b o e => Heap.get?_push_of_some _ (Heap.get?_push_of_some _ e)
  have hget : ((hp.push (PySem.W.kdv_tup [])).push (PySem.HandSPX.excO C hp.objs.size)).get? (hp.objs.size + 1) = some (PySem.HandSPX.excO C hp.objs.size) := by heap_get
  refine wpAny_call (xn_call (fv := .builtin b.initId) FB b.tl (I1.kIn _ _ hC) (PySem.W.looks_findIn I1.kIn iC) (fun self => ?_) (Nat.zero_le _) ?_)
  · intro A E' Q' s' kq h
    rw [b.inF.init.bind]
    exact wpAny_pure h
  · refine xi_base b.inF b.has (kk _ _ (I1.kIn _ _ hC)) hget (Nat.zero_le _) fun h' t1 kn hx => ?_
    refine ⟨rfl, ⟨V.ref (hp.objs.size + 1), _, I1.laid (t' := tk) (a := hp.objs.size + 1) (o := exo (hp.objs.size + 1) C none) (h' := h') (fun b o e => ?_) hsz (exo_ok hx), rfl, hq _ hn⟩⟩
    exact kn b o (Nat.ne_of_lt (Nat.lt_of_lt_of_le (Heap.lt_size e) hsz)) (kk b o e)
theorem pe_mg (T : OxG X.K C b) (iC : PySem.W.findIn X.K (.ref C) "__init__" = some (some (.ref fI))) (tI : PySem.W.typeIn X.K (.ref fI) = some (.type "function"))
    (F1 : FnOk X.prog X.w X.K X.mg X.base CX k fI fd ps sp) (hr : Room (k + 1) X.A) (hb : Binds X.K fd ps []) (hx : Passes CX X (fun _ _ _ => False)) (hg : Gl X x) (hm : X.mg x = some (.ref C)) (ha : PA X (e :: es) ta)
    (hdb : (x == ("__debug__" : Str)) = false := by decide) (he : starEach (e :: es) X.env = (false, eval e X.env) :: starEach es X.env := by rfl) (hpl : (backTo pos (starEach es X.env)).any (·.1) = false := by rfl) :
    PE X (.Call (.Name x p) (e :: es) [] pos) (tMg C sp id ta) := by
  refine ⟨fun pins s σ H Q I h => ?_⟩
  refine wpAny_Call_Name_kw (ld_glob I hg hm ?_ hdb)
  refine PySem.W.callWith_K (h₀ := X.base) I.ok.mod.kin T.kC (thn (ha.run pos pins s σ H _ I h) fun us s1 ⟨vs, H1, I1, r1, hz, q1⟩ => ⟨I1.kIn, ?_⟩) he hpl
  have hus : us.length ≤ sizeLine := by
    rw [← Paired.length r1, sizeLine_eq]
    omega
  refine run_mg (gB := fun a => .ref a :: us) (gV := fun a => .ref a :: vs) T iC tI F1 hr hx I1 hus (fun s a hK hl => ?_) (fun a => .cons rfl r1) q1
  have := hb s (.ref a :: us) hK (by simpa using hl)
  simpa using this
theorem pe_mg0 (T : OxG X.K C b) (iC : PySem.W.findIn X.K (.ref C) "__init__" = some (some (.builtin b.initId))) (hg : Gl X x) (hm : X.mg x = some (.ref C)) (hdb : (x == ("__debug__" : Str)) = false := by decide) :
    PE X (.Call (.Name x p) [] [] pos) (fun _ H Q => ∀ a, H a = none → Q (.ref a) (upd H a (exo a C none))) := by
  refine ⟨fun pins s σ H Q I h => ?_⟩
  refine wpAny_Call_Name_kw (ld_glob I hg hm ?_ hdb)
  exact PySem.W.callWith_K0 I.kIn T.kC (run_mg0 T iC I h)
/-- how such a class binds its keywords -/
def BindsE (K : PySem.W.Frag) (fd : FuncData) (ps ks : List Str) (perm : List Nat) : Prop :=
  ∀ (s : Shared) (u : Value) (ws : List Value), K.In s.heap → ws.length = ks.length → BindsTo s fd ⟨[u], ks.zip ws⟩ (ps.zip (u :: pick perm ws))
theorem pe_mgK {perm : List Nat} (T : OxG X.K C b) (iC : PySem.W.findIn X.K (.ref C) "__init__" = some (some (.ref fI))) (tI : PySem.W.typeIn X.K (.ref fI) = some (.type "function"))
    (F1 : FnOk X.prog X.w X.K X.mg X.base CX k fI fd ps sp) (hr : Room (k + 1) X.A) (hb : BindsE X.K fd ps ks perm) (hx : Passes CX X (fun _ _ _ => False)) (hg : Gl X x) (hm : X.mg x = some (.ref C)) (hkw : PK X kws tk)
    (hall : (backToKw pos (keywordEach kws X.env)).all (·.1.isSome) = true := by rfl) (hks : (backToKw pos (keywordEach kws X.env)).filterMap (·.1) = ks := by rfl)
    (hdb : (x == ("__debug__" : Str)) = false := by decide) (hpl : ((backTo pos (starEach [] X.env)).any (·.1) || (backToKw pos (keywordEach kws X.env)).any (·.1.isNone)) = false := by rfl) :
    PE X (.Call (.Name x p) [] kws pos) (fun σ H Q => tk σ H fun vs H1 => vs.length = ks.length ∧ ∀ a, H1 a = none → sp (.ref a :: pick perm vs) (upd H1 a (exo a C none)) (fun v H2 => v = .non ∧ Q (.ref a) H2) (fun _ _ _ => False)) := by
  refine ⟨fun pins s σ H Q I h => ?_⟩
  refine wpAny_Call_Name_kw (ld_glob I hg hm ?_ hdb)
  refine PySem.W.callWith_KW0 (h₀ := X.base) I.ok.mod.kin T.kC hall ?_ hpl
  refine thn (hkw.run pos pins s σ H _ I h) fun ws s2 ⟨zs, H2, I2, rz, l2, q2⟩ => ⟨I2.kIn, ?_⟩
  rw [hks]
  exact run_mg (us := []) (gB := fun a => .ref a :: pick perm ws) (gV := fun a => .ref a :: pick perm zs) T iC tI F1 hr hx I2 (Nat.zero_le _) (fun s a hK _ => hb s (.ref a) ws hK (by rw [← rz.length]; exact l2)) (fun a => .cons rfl (pick_vals rz perm)) q2
end
end DL
end
/-! ==== DErr5 ==== -/
section
set_option Elab.async false
set_option linter.all false
set_option autoImplicit false
set_option maxRecDepth 100000
set_option maxHeartbeats 4000000
/-! DL: own exceptions as values: a field read, isinstance. -/
namespace DL
open PySem PySem.Spec PyProof.Rows L2
section
variable {X : Cx}
def tGf (K : PySem.W.Frag) (n : Str) (to : TE) : TE := fun σ H Q => to σ H fun x H1 => ∃ (a C dx : Addr) (fs : List (Str × V)) (v : V), x = .ref a ∧ XfC K C ∧ PySem.W.findIn K (.ref C) n = some none ∧ H1 a = some (exo a C (some dx)) ∧ H1 dx = some (exd dx fs) ∧ fs.lookup n = some v ∧ Q v H1
theorem pe_gf {e : Expr} {te : TE} {pos : Pos} {n : Str} (he : PE X e te) (hb : attributeBase e n X.env (eval e X.env) = eval e X.env) : PE X (.Attribute e n pos) (tGf X.K n te) := by
  refine ⟨fun pins s σ H Q J h => attr_of hb (thn (he.run pins s σ H _ J h) fun u s1 q => ?_)⟩
  obtain ⟨y, H1, J1, ry, a, C, dx, fs, v, rfl, T, hno, ea, ed, lk, q⟩ := q
  obtain rfl : u = Value.ref a := ry
  obtain ⟨t1, ho⟩ := exo_at J1.hok ea
  obtain ⟨mA, ns, r⟩ := exd_at J1.hok ed
  obtain ⟨od, hod, hl⟩ := lookIn_ns ns
  obtain ⟨w, hw, rw'⟩ := RelO.some_of (v := v) (o := mA n) (by rw [← lk]; exact r n)
  have at_ : PySem.W.InstAt s1.heap a { cls := .ref C, dict := some dx, data := .fields #[.ref t1, .none, .none, .none, .bool false, .none] } C (some od) := ⟨ho, rfl, rfl, hod⟩
  exact HandSPX.exc_get J1.kIn at_ T.ga T.gg T.exC (PySem.W.findObj_own T.hdC hno rfl (by rw [hl, hw])) (handed_of rw') ⟨v, H1, J1.tok _, rw', q⟩
def rIsG (K : PySem.W.Frag) : List V → Hp → VK → Prop := fun xs H Q => ∃ (a C : Addr) (od : Option Addr) (c : V) (u : Value) (b : Bool), xs = [.ref a, c] ∧ IsC K C ∧ H a = some (exo a C od) ∧ (∀ dx, od = some dx → ∃ fs, H dx = some (exd dx fs)) ∧ ClsV c u ∧ PySem.W.kitOne K (.ref C) u = some b ∧ Q (.bl b) H
theorem call_isG : CallR X (.builtin "isinstance") (rIsG X.K) := by
  rintro pins s σ H xs us Q J r ⟨a, C, od, c, u, b, rfl, T, ea, ed, k, e, q⟩
  obtain ⟨u1, u2, rfl, r1, r2⟩ := vals2 r
  obtain rfl := k.eq r2
  obtain rfl : u1 = Value.ref a := r1
  obtain ⟨t1, ho⟩ := exo_at J.hok ea
  have at_ : ∃ oo, PySem.W.InstAt s.heap a { cls := .ref C, dict := od, data := .fields #[.ref t1, .none, .none, .none, .bool false, .none] } C oo := by
    cases od with
    | none => exact ⟨none, ho, rfl, rfl, trivial⟩
    | some dx =>
      obtain ⟨fs, ed⟩ := ed dx rfl
      obtain ⟨mA, ns, r⟩ := exd_at J.hok ed
      obtain ⟨oo, hod, hl⟩ := lookIn_ns ns
      exact ⟨some oo, ho, rfl, rfl, hod⟩
  obtain ⟨oo, at_⟩ := at_
  exact PySem.W.kia_one (PySem.W.kitx_exc (x := a) (ox := { cls := .ref C, dict := od, data := .fields #[.ref t1, .none, .none, .none, .bool false, .none] }) (od := oo) T.cl T.ga T.gg T.be T.ca T.sp T.tk T.mr) J.kIn at_ e (fun z => nomatch z) fun tk => ⟨.bl b, H, J.tok tk, rfl, q⟩
end
end DL
end
/-! ==== DFn1 ==== -/
section
set_option Elab.async false
set_option linter.all false
set_option autoImplicit false
set_option maxRecDepth 100000
set_option maxHeartbeats 4000000
/-! DL: functions as values: a def by its name; a local that holds a function, called with one value. -/
namespace DL
open PySem PySem.Spec PyProof.Rows L2
section
variable {X : Cx} {E : XK}
def dFn (nm : Str) : DE := fun _ G => .ok (.fn nm) G
@[simp] theorem dFn_s (nm : Str) (s : DSl) (G : DH) : dFn nm s G = .ok (.fn nm) G := (rfl)
theorem de_fn {nm : Str} {f : Addr} {p : Pos} (hg : Gl X nm) (hm : X.mg nm = some (.ref f)) (hn : PySem.W.nsIn X.K mainGlobals nm = some (some (.ref f))) (hd : (nm == ("__debug__" : Str)) = false := by decide) : DEOk X E (.Name nm p) (dFn nm) := by
  refine ⟨_, pe_glob (v := .ref f) hg hm rfl hd, fun W σ s Q hK S L h => ?_⟩
  exact h.here S (by simp only [Den]; exact ⟨f, rfl, .inl (by rw [hK]; exact hn)⟩)
/-- the worth of a function value -/
structure FnOf (X : Cx) (E : XK) (nm : Str) (F : DFn) : Prop where
  at_ : ∀ (pins : List (Addr × Obj)) (σ : L2.St) (W : Wd) (s : Shared) (a : Addr), Inv X pins σ W.H s → W.K = X.K → Den W (.fn nm) (.ref a) → PySem.W.FnAt a s.heap
  run : ∀ (pins : List (Addr × Obj)) (σ : L2.St) (W : Wd) (s : Shared) (a : Addr) (v : V) (u : Value) (d : D) (Q : VK), Inv X pins σ W.H s → Sim W → W.K = X.K → Den W (.fn nm) (.ref a) → Den W d v → RelV v u → Fin Den W E (F [d] W.G) Q →
    wpAny (model X.prog X.w) X.A (call (.ref a) [u]) (EP X pins σ Q) X.xe s
theorem fnOf_def {j k : Nat} {nm p1 : Str} {st : Stmt} {F : DFn} (h : DDef X.prog X.w X.K X.mg X.base j nm st [p1] F) (hr : Rm k X.A) (hj : j ≤ k) (ne : nm ≠ lamNm) : FnOf X E nm F := by
  obtain ⟨f, fd, Fu, hm, hk, hb, hF⟩ := h.ex
  obtain ⟨oc, od, kV, doc, pm, an, cdv, ct, osl, e, lk, hcd⟩ := Fu.ex
  have same : ∀ {pins : List (Addr × Obj)} {σ : L2.St} {W : Wd} {s : Shared} {a : Addr}, Inv X pins σ W.H s → W.K = X.K → Den W (.fn nm) (.ref a) → a = f := fun {pins σ W s a} I hK d => by
    simp only [Den] at d
    obtain ⟨b, eb, d⟩ := d
    injection eb with eb
    subst eb
    rcases d with d | ⟨z, _⟩
    · rw [hK] at d
      have := PySem.W.mg_of I.ok.mod.kin I.ok.mod.glob d
      rw [hm] at this
      exact (Value.ref.inj (Option.some.inj this)).symm
    · exact absurd z ne
  refine ⟨fun pins σ W s a I hK d => ?_, fun pins σ W s a v u d Q I S hK df dd rv h => ?_⟩
  · obtain rfl := same I hK d
    exact ⟨_, _, _, _, I.kIn _ _ lk⟩
  · obtain rfl := same I hK df
    have hl : [u].length = [p1].length := rfl
    exact run_dfn hF (hr.mono hj) (by have := hb s [u] I.kIn hl; simpa using this) passX I (.cons rv .nil) hK S (DenL.one dd) h
/-- a(e), a a local that holds a function -/
def dCallV (i : Nat) (tbl : List (Str × DFn)) (f : DE) : DE := fun s G => match s[i]? with
  | some (some (.fn nm)) => (match tbl.lookup nm with
    | some F => (f s G).bind fun d G => F [d] G
    | none => .stop)
  | _ => .stop
def tCallV (X : Cx) (E : XK) (i : Nat) (te : TE) : TE := fun σ H Q => ∃ (a : Addr) (nm : Str) (F : DFn) (W : Wd), σ[i]? = some (some (.ref a)) ∧ FnOf X E nm F ∧ W.H = H ∧ W.K = X.K ∧ Den W (.fn nm) (.ref a) ∧
  te σ H fun x H1 => ∃ v, [x] = [v] ∧ ∃ (W : Wd) (d : D), W.H = H1 ∧ W.K = X.K ∧ Sim W ∧ Den W (.fn nm) (.ref a) ∧ Den W d v ∧ Fin Den W E (F [d] W.G) Q
theorem de_callV {i : Nat} {a : Str} {e : Expr} {f : DE} {tbl : List (Str × DFn)} {p1 pos : Pos} (hN : X.N[i]? = some a) (hv : Vis X.env.scope a) (ht : ∀ nm F, tbl.lookup nm = some F → FnOf X E nm F) (he : DEOk X E e f)
    (hd : (a == ("__debug__" : Str)) = false := by decide) (hcd : (a == ("__classdict__" : Str)) = false := by decide) (hs : starEach [e] X.env = (false, eval e X.env) :: starEach [] X.env := by rfl) (hpl : (backTo pos (starEach [] X.env)).any (·.1) = false := by rfl) :
    DEOk X E (.Call (.Name a p1) [e] [] pos) (dCallV i tbl f) := by
  obtain ⟨te, pe, q⟩ := he.out
  refine ⟨tCallV X E i te, ⟨fun pins s σ H Q I h => ?_⟩, fun W σ s Q hK S L h => ?_⟩
  · obtain ⟨b, nm, F, W, es, fn, eH, hK, df, h⟩ := h
    refine wpAny_Call_Name_kw (thn ((pe_var (pos := p1) (i := i) hN hv hd hcd).run pins s σ H (fun v H1 => v = .ref b ∧ H1 = H) I ⟨.ref b, es, rfl, rfl⟩) fun u s1 ⟨v, H1, I1, r1, ev, eH1⟩ => ?_)
    subst ev
    rw [eH1] at I1
    obtain rfl : u = Value.ref b := r1
    have I1' : Inv X pins σ W.H s1 := by rw [eH]; exact I1
    refine PySem.W.callWith_F (fn.at_ pins σ W s1 b I1' hK df) (thn ((pa_cons pe pa_nil hs).run pos pins s1 σ H (fun vs H2 => ∃ v, vs = [v] ∧ ∃ (W : Wd) (d : D), W.H = H2 ∧ W.K = X.K ∧ Sim W ∧ Den W (.fn nm) (.ref b) ∧ Den W d v ∧ Fin Den W E (F [d] W.G) Q) I1 ?_) fun us s2 ⟨vs, H2, I2, r2, v, evs, W2, d, eH2, hK2, S2, df2, dd, hf⟩ => ?_) hs hpl
    · exact h
    · subst evs eH2
      obtain ⟨u, rfl, ru⟩ := r2.one
      exact ⟨fn.at_ pins σ W2 s2 b I2 hK2 df2, fn.run pins σ W2 s2 b v u d Q I2 S2 hK2 df2 dd ru hf⟩
  · unfold dCallV at h
    split at h
    · rename_i nm es
      split at h
      · rename_i F el
        obtain ⟨v, ev, dv⟩ := L.2 i _ es
        have dv0 := dv
        simp only [Den] at dv0
        obtain ⟨b, rfl, _⟩ := dv0
        refine ⟨b, nm, F, W, ev, ht nm F el, rfl, hK, dv, ?_⟩
        refine q W σ s _ hK S L (Fin.seq h fun d v W1 x1 S1 d1 h1 => ?_)
        exact ⟨v, rfl, W1, d, rfl, x1.k.trans hK, S1, Den.mono x1 _ _ dv, d1, h1⟩
      · exact h.elim
    · exact h.elim
end
end DL
end
/-! ==== DLam ==== -/
section
set_option Elab.async false
set_option linter.all false
set_option autoImplicit false
set_option maxRecDepth 100000
set_option maxHeartbeats 4000000
/-! DL: a lambda of one parameter that captures nothing: it is made; it is called. -/
namespace DL
open PySem PySem.Spec PyProof.Rows L2
/-- a thing that is kept for ever is laid -/
def Wd.keep (W : Wd) (a : Addr) (o : HO) : Wd := { W with H := upd W.H a o, kp := fun b => W.kp b ∨ b = a }
theorem Sim.keep {W : Wd} (S : Sim W) {a : Addr} {o : HO} (h : W.H a = none) (ko : kpd o) : Ext W (W.keep a o) ∧ Sim (W.keep a o) := by
  have ne : ∀ {b u}, W.H b = some u → b ≠ a := fun e z => by rw [z, h] at e; cases e
  have up : ∀ {b u}, W.H b = some u → upd W.H a o b = some u := fun e => (upd_ne (ne e)).trans e
  have x : Ext W (W.keep a o) := ⟨⟨rfl, ⟨[], by simp [Wd.keep]⟩, fun b vs hl e => ⟨hl, up e⟩, fun b vs e => up e, fun b ob vs e => up e, fun b ob vs e => up e,
    fun b ws hl e => ⟨hl, e.imp up fun ⟨ob, e⟩ => ⟨ob, up e⟩⟩, fun b ws hl e => ⟨hl, e.imp up fun ⟨ob, e⟩ => ⟨ob, up e⟩⟩, fun b u hh e => ⟨.inl hh, up e⟩⟩, fun b u hh e => ⟨hh, up e⟩, fun b ob ws e => up e, fun b ob ws e => up e⟩
  refine ⟨x, S.len, fun n u e al => ?_, fun b hb => ?_, S.apart, S.inj, fun b hb => ?_⟩
  · obtain ⟨b, pb, r⟩ := S.at_ n u e al
    obtain ⟨v, ev⟩ := r.some al
    exact ⟨b, pb, r.mono x.toExt0 (by show upd W.H a o b = _; rw [ev]; exact up ev)⟩
  · obtain ⟨u, e, k⟩ := S.hid b hb
    exact ⟨u, up e, k⟩
  · rcases hb with hb | rfl
    · obtain ⟨h1, u, e, k⟩ := S.kp b hb
      exact ⟨h1, u, up e, k⟩
    · exact ⟨S.not_own_of_none h, o, upd_same, ko⟩
section
variable {X : Cx} {E : XK}
theorem clo_nil {cells : List (Str × Addr)} {names : List (Str × NameKind)} (h : ∀ y ∈ names, y.2 ≠ .free) : cloFrom cells names [] = [] := by
  refine List.eq_nil_iff_forall_not_mem.mpr fun y hy => ?_
  rcases cloFrom_mem hy with hm | ⟨h1, _⟩
  · cases hm
  · exact h _ h1 rfl
/-- a lambda is made: its code object is in the table, or new and put there -/
theorem lam_made {pins : List (Addr × Obj)} {σ : L2.St} {H : Hp} {s : Shared} {P c : Addr} {ps : Array Value} {params : Arguments} {body : Expr} {scope : Scope} {pos : Pos} {Q : Value → Shared → Prop} {E' : Value → Shared → Prop} (I : Inv X pins σ H s) (TB : LamX.TabB X.base X.mg c P) (hcode : X.env.code = .ref c)
    (hP : H P = some (.tbl ps)) (ht : TriplesOk ps.toList) (ha : ∀ (pos : Pos) (cv : Value), codeAmong pos ps.toList = some cv → ∃ c', cv = .ref c') (hdef : defaultsOf params X.env = ([], [])) (hfree : ∀ y ∈ scope.names, y.2 ≠ .free)
    (h : ∀ (f c' : Addr) (pm ctv : Value) (s' : Shared) (H1 : Hp), ((H1 = H ∧ codeAmong pos ps.toList = some (.ref c')) ∨ (H c' = none ∧ c' ≠ P ∧ H1 = upd (upd H P (.tbl (ps ++ #[rawInt pos.line, rawInt pos.col, .ref c']))) c' (LamX.CodeO c' (X.env.qual ++ "<lambda>")))) → Inv X pins σ H1 s' →
      s'.heap.get? f = some (PySem.W.kla_obj "<lambda>" (X.env.qual ++ "<lambda>") params body scope [] pm c' ctv) → H1 f = none → FpOk X pins H1 f → Q (.ref f) s') :
    wpAny (model X.prog X.w) X.A (eval (.Lambda params body scope pos) X.env) Q E' s := by
  refine PySem.W.kla_eval hdef ?_
  have bP : s.heap.BuiltinsAt X.mg P := TB.bm.keeps I.bk
  have hP' : s.heap.get? P = some { cls := .none, data := .fields ps } := I.hok P _ hP
  have hcl : closureFor scope X.env = pure [] := by
    have := closure_ok (scope := scope) (env := X.env) (fun y hy e => absurd e (hfree y hy))
    rw [clo_nil hfree] at this
    exact this
  cases hc : codeAmong pos ps.toList with
  | none =>
    refine PySem.W.kla_makeFunction (mg := X.mg) (c := c) (P := P) (ps := ps) hcl I.ok.glob (I.mod.glob.keeps I.bk) hcode (TB.code.keeps I.bk) hP' ht hc TB.gP bP fun c' ctv h' tk hx hge hlt hrec htb => ?_
    obtain ⟨c2, oc, vs, t, e2, hoc, hd, hv⟩ := hrec
    cases e2
    have hsz : s.heap.objs.size ≤ h'.objs.size := Nat.le_trans hge (Nat.le_of_lt hlt)
    have nC : H c' = none := I.hok.fresh hge
    have nP : P ≠ h'.objs.size := Nat.ne_of_lt (Nat.lt_of_lt_of_le (Heap.lt_size hP') hsz)
    have nCP : c' ≠ P := fun z => by rw [z, hP] at nC; cases nC
    have I1 := LamX.inv_table (t' := tk) (q := X.env.qual ++ "<lambda>") (more := #[rawInt pos.line, rawInt pos.col, .ref c']) (h' := h'.push (PySem.W.kla_obj "<lambda>" (X.env.qual ++ "<lambda>") params body scope [] ((X.mg "__name__").getD .none) c' ctv)) I hP
      (fun b o hb e => Heap.get?_push_of_some _ (hx b o hb e)) (Heap.get?_push_of_some _ htb) hge ⟨oc, vs, t, Heap.get?_push_of_some _ hoc, hd, hv⟩
    have nf : upd (upd H P (.tbl (ps ++ #[rawInt pos.line, rawInt pos.col, .ref c']))) c' (LamX.CodeO c' (X.env.qual ++ "<lambda>")) h'.objs.size = none := by
      rw [upd_ne (Nat.ne_of_gt hlt), upd_ne (fun z => nP z.symm)]
      exact I.hok.fresh hsz
    exact h h'.objs.size c' ((X.mg "__name__").getD .none) ctv _ _ (.inr ⟨nC, nCP, rfl⟩) I1 (Heap.get?_push_size _ rfl) nf (I.fpOk hsz nf)
  | some cv =>
    obtain ⟨c', e⟩ := ha pos cv hc
    subst e
    refine PySem.W.kla_makeFunctionHit (mg := X.mg) (c := c) (P := P) (ps := ps) hcl I.ok.glob (I.mod.glob.keeps I.bk) hcode (TB.code.keeps I.bk) hP' ht hc bP fun ctv h' tk hx hsz => ?_
    have I1 : Inv X pins σ H { s with heap := h'.push (PySem.W.kla_obj "<lambda>" (X.env.qual ++ "<lambda>") params body scope [] ((X.mg "__name__").getD .none) c' ctv), toks := tk } := I.kept (t' := tk) fun b o e => Heap.get?_push_of_some _ (hx b o e)
    have nf : H h'.objs.size = none := I.hok.fresh hsz
    exact h h'.objs.size c' ((X.mg "__name__").getD .none) ctv _ H (.inl ⟨rfl, hc⟩) I1 (Heap.get?_push_size _ rfl) nf (I.fpOk hsz nf)
/-- the lambda, as a value; the table of code objects is the first thing of the small heap -/
def dLam : DE := fun _ G => match G[0]? with
  | some DO.tab => .ok (.fn lamNm) G
  | _ => .stop
def tLamE (K : PySem.W.Frag) : TE := fun _ H Q => ∃ W : Wd, W.H = H ∧ W.K = K ∧ Sim W ∧ W.G[0]? = some .tab ∧ ∀ (W' : Wd) (v : V), Ext W W' → Sim W' → W'.G = W.G → Den W' (.fn lamNm) v → Q v W'.H
theorem set0 {G : DH} {d : DO} (h : G[0]? = some d) : G.set 0 d = G := by
  cases G with
  | nil => cases h
  | cons a G =>
    have : a = d := by simpa using h
    subst this
    rfl
theorem clo_ok {P : Program} {w : World} {K : PySem.W.Frag} {H : Hp} {h : Heap} {f c' : Addr} {params : Arguments} {body : Expr} {scope : Scope} {pos : Pos} {pm ctv : Value} {fd : FuncData} (hfd : lamFd K = some fd) (hl : lamIn fd.body = some (params, body, scope, pos))
    (e : h.get? f = some (PySem.W.kla_obj lamNm lamQual params body scope [] pm c' ctv)) : ObjOk P w H h f (CloO K f c') :=
  ⟨⟨params, body, scope, pos, pm, ctv, fd, hfd, hl, e⟩, ⟨_, e⟩, fun h1 h2 x k => by
    obtain ⟨a1, a2, a3, a4, a5, a6, a7, b1, b2, b3⟩ := x
    exact ⟨a1, a2, a3, a4, a5, a6, a7, b1, b2, k _ b3⟩⟩
theorem de_lam {c P : Addr} {fd : FuncData} {params : Arguments} {body : Expr} {scope : Scope} {pos : Pos} (TB : LamX.TabB X.base X.mg c P) (hcode : X.env.code = .ref c) (hq : X.env.qual ++ "<lambda>" = lamQual) (htab : tabOf X.K = some P) (hfd : lamFd X.K = some fd)
    (hl : lamIn fd.body = some (params, body, scope, pos)) (hdef : defaultsOf params X.env = ([], [])) (hfree : ∀ y ∈ scope.names, y.2 ≠ .free) : DEOk X E (.Lambda params body scope pos) dLam := by
  refine ⟨tLamE X.K, ⟨fun pins s σ H Q I h => ?_⟩, fun W σ s Q hK S L h => ?_⟩
  · obtain ⟨W, rfl, hK, S, g0, h⟩ := h
    obtain ⟨a, pa, ta, ps, hP, ht, hc⟩ := S.at_ 0 .tab g0 rfl
    have ea : a = P := by
      rw [hK, htab] at ta
      exact (Option.some.inj ta).symm
    subst ea
    refine lam_made I TB hcode hP ht (fun pos cv e => let ⟨c', e1, _⟩ := hc pos cv e; ⟨c', e1⟩) hdef hfree fun f c' pm ctv s' H1 hH I1 ob nf fp => ?_
    rw [hq] at ob hH
    have fin : ∀ W1 : Wd, W1.H = H1 → Ext W W1 → Sim W1 → W1.G = W.G → W1.kp c' → W1.H c' = some (LamX.CodeO c' lamQual) → EP X pins σ Q (.ref f) s' := fun W1 e1 x1 S1 eG kc hc' => by
      subst e1
      have K1 : W1.K = X.K := x1.k.trans hK
      obtain ⟨x2, S2⟩ := S1.keep (o := CloO W1.K f c') nf trivial
      have nfc : c' ≠ f := fun z => by rw [z, nf] at hc'; cases hc'
      refine ⟨.ref f, (W1.keep f (CloO W1.K f c')).H, ?_, rfl, h _ _ (x1.trans x2) S2 eG ?_⟩
      · exact I1.take (h' := s'.heap) (t' := s'.toks) (fun b ob _ e => e) fp (clo_ok (by rw [K1]; exact hfd) hl ob)
      · simp only [Den]
        exact ⟨f, rfl, .inr ⟨trivial, c', .inr rfl, upd_same, .inl kc, (upd_ne nfc).trans hc'⟩⟩
    rcases hH with ⟨rfl, hit⟩ | ⟨nC, nCP, rfl⟩
    · obtain ⟨c0, e0, k0, h0⟩ := hc pos _ hit
      cases e0
      exact fin W rfl (Ext.refl W) S rfl k0 h0
    · obtain ⟨xa, Sa⟩ := S.keep (o := LamX.CodeO c' lamQual) nC trivial
      have ga : (W.keep c' (LamX.CodeO c' lamQual)).G[0]? = some .tab := g0
      have ka : (W.keep c' (LamX.CodeO c' lamQual)).H c' = some (LamX.CodeO c' lamQual) := upd_same
      obtain ⟨xb, Sb⟩ := Sa.put (n := 0) (a := a) (o := .tbl (ps ++ #[rawInt pos.line, rawInt pos.col, .ref c'])) (d := .tab) ga rfl pa (fun W' y e' => by
        refine ⟨by rw [y.k]; exact ta, _, by rw [e']; exact upd_same, ?_, fun p' cv hcv => ?_⟩
        · rw [show (ps ++ #[rawInt pos.line, rawInt pos.col, .ref c']).toList = ps.toList ++ [rawInt pos.line, rawInt pos.col, .ref c'] by simp]
          exact PySem.TriplesOk_snoc _ _ _ _ ht
        · rw [show (ps ++ #[rawInt pos.line, rawInt pos.col, .ref c']).toList = ps.toList ++ [rawInt pos.line, rawInt pos.col, .ref c'] by simp] at hcv
          rcases LamX.among_app _ ht hcv with z | z
          · obtain ⟨c0, e0, k0, h0⟩ := hc p' cv z
            obtain ⟨g1, g2⟩ := (xa.trans y).e _ _ k0 h0
            exact ⟨c0, e0, g1, g2⟩
          · obtain ⟨g1, g2⟩ := y.e c' _ (.inr rfl) ka
            exact ⟨c', z, g1, g2⟩)
      have kb := xb.e c' _ (.inr rfl) ka
      refine fin _ ?_ (xa.trans xb) Sb (set0 g0) kb.1 kb.2
      funext b
      show upd (upd W.H c' (LamX.CodeO c' lamQual)) a (.tbl (ps ++ #[rawInt pos.line, rawInt pos.col, .ref c'])) b = _
      by_cases h1 : b = c'
      · subst h1
        rw [upd_same, upd_ne nCP, upd_same]
      · rw [upd_ne h1]
        by_cases h2 : b = a
        · subst h2; rw [upd_same, upd_same]
        · rw [upd_ne h2, upd_ne h2, upd_ne h1]
  · unfold dLam at h
    split at h
    · rename_i g0
      exact ⟨W, rfl, hK, S, g0, fun W' v x S' eG d => h v W' x S' eG d⟩
    · exact h.elim
/-- the closure, called -/
theorem fnOf_lam {k : Nat} {fd : FuncData} {params : Arguments} {body : Expr} {scope : Scope} {pos : Pos} {pnm : Str} {fb : DE} (hr : Rm (k + 1) X.A) (hfd : lamFd X.K = some fd) (hl : lamIn fd.body = some (params, body, scope, pos)) (no : X.mg lamNm = none) (Sc : FnScope [pnm] [pnm] scope)
    (hbind : ∀ (pm cv ctv u : Value), bindArgs (PySem.W.kla_fn lamNm lamQual params body scope [] pm cv ctv) ⟨[u], []⟩ = pure [(pnm, u)])
    (hb : ∀ (a : Addr) (cv : Value) (A : Around) (outer : List Env) (s : Shared) (H : Hp), Rm k (A.deeper (envOfC lamQual scope s.heap.objs.size a cv)) → DEOk (cxOf CX0 X.prog X.w X.K X.mg X.base [pnm] lamQual scope a cv A outer s H E) E body fb) :
    FnOf X E lamNm (fun ds G => fb (ds.map some) G) := by
  have clo : ∀ {pins : List (Addr × Obj)} {σ : L2.St} {W : Wd} {s : Shared} {a : Addr}, Inv X pins σ W.H s → W.K = X.K → Den W (.fn lamNm) (.ref a) → ∃ (c' : Addr) (pm ctv : Value), s.heap.get? a = some (PySem.W.kla_obj lamNm lamQual params body scope [] pm c' ctv) ∧ s.heap.CodeRec (.ref c') lamQual := fun {pins σ W s a} I hK d => by
    simp only [Den] at d
    obtain ⟨b, eb, d⟩ := d
    injection eb with eb
    subst eb
    rcases d with d | ⟨_, c', k1, h1, k2, h2⟩
    · rw [hK] at d
      have := PySem.W.mg_of I.ok.mod.kin I.ok.mod.glob d
      rw [no] at this
      cases this
    · obtain ⟨p', b', s', pos', pm, ctv, fd', e1, e2, e3⟩ := (I.hok a _ h1).1
      rw [hK, hfd] at e1
      cases e1
      rw [hl] at e2
      cases e2
      obtain ⟨oc, vs, t, g1, g2, g3⟩ := (I.hok c' _ h2).1
      exact ⟨c', pm, ctv, e3, c', oc, vs, t, rfl, g1, g2, g3⟩
  refine ⟨fun pins σ W s a I hK d => ?_, fun pins σ W s a v u d Q I S hK df dd rv h => ?_⟩
  · obtain ⟨c', pm, ctv, ob, _⟩ := clo I hK d
    exact ⟨_, _, _, _, ob⟩
  · obtain ⟨c', pm, ctv, ob, code⟩ := clo I hK df
    have hkd : ∀ y ∈ [(pnm, u)], scope.names.lookup y.1 = some .local ∨ (scope.names.lookup y.1 = some .cell ∧ ((cellsFrom (s.heap.objs.size + 1) scope.names []).lookup y.1).isSome = true) := fun y hy => by
      rw [List.mem_singleton.mp hy]
      refine (Sc.par pnm (by simp)).imp id fun q => ⟨q, ?_⟩
      exact PySem.W.cellsFrom_some _ _ _ (.inl q)
    have rc : codeAny (model X.prog X.w) X.A (.call (.ref a) ⟨[u], []⟩) (CR CX0 X.stack X.prog X.w W.H s Q E) s := by
      refine PySem.W.kla_callFunE hr.room.depth ob rfl Sc.co Sc.gen rfl code ?_
      rw [hbind]
      refine wpAny_pure (wpAny_newFunctionEnv_cells Sc.kind hkd fun env he s1 x => ?_)
      subst he
      refine ⟨I.nolimit.keeps x.toInCall.keep, ?_⟩
      obtain ⟨t, ht, hq⟩ := (hb a (.ref c') X.A X.stack s W.H (hr.deeper _)).out
      have I2 : Inv (cxOf CX0 X.prog X.w X.K X.mg X.base [pnm] lamQual scope a (.ref c') X.A X.stack s W.H E) [] (L2.start [pnm] [v]) W.H s1 := inv_start (ps := [pnm]) (us := [u]) Sc hr.room.hd I.env0 rfl (.cons rv .nil) x
      have L := start_sl (N := [pnm]) (DenL.one dd)
      refine PySem.W.kla_codeExpr (wpAny_mono (ht.run [] s1 (L2.start [pnm] [v]) W.H Q I2 (hq W _ _ Q hK S L h)) (fun y s' hq => ?_) fun e s' hq => hq)
      obtain ⟨w', H', J', r', q'⟩ := hq
      exact ⟨w', H', J'.os, J'.bare, J'.base, J'.hok, r', q'⟩
    refine wpAny_call (codeAny_mono rc fun r s' hq => ?_)
    cases r with
    | error e => exact False.elim hq
    | ok fl =>
      cases fl with
      | ret u => exact I.after hq
      | next => exact False.elim hq
      | brk => exact False.elim hq
      | cont => exact False.elim hq
end
end DL
end
/-! ==== DErr6 ==== -/
section
set_option Elab.async false
set_option linter.all false
set_option autoImplicit false
set_option maxRecDepth 100000
set_option maxHeartbeats 4000000
/-! DL: own exceptions as values: the readings. -/
namespace DL
open PySem PySem.Spec PyProof.Rows L2
/-- what is known of a class of errors: its base, its fields -/
structure EcC (K : PySem.W.Frag) (mg : Str → Option Value) (nm : Str) (b : Bs) (fl : List Str) (C : Addr) : Prop where
  n : PySem.W.nsIn K mainGlobals nm = some (some (.ref C))
  m : mg nm = some (.ref C)
  g : OxG K C b
  xf : XfC K C
  is : IsC K C
  ic : PySem.W.isClsIn K C = true
  ty : PySem.W.typeIn K (.ref C) = some (.type "type")
  cn : (PySem.W.clsIn K C).map (·.name) = some nm
  f : ∀ x ∈ fl, PySem.W.findIn K (.ref C) x = some none
/-- .. of all classes of a table -/
def EcT (K : PySem.W.Frag) (mg : Str → Option Value) (tb : Str → Option (Bs × List Str)) : Prop := ∀ nm b fl, tb nm = some (b, fl) → ∃ C, EcC K mg nm b fl C
section
variable {K : PySem.W.Frag} {mg : Str → Option Value} {C C' : Addr} {b b' : Bs} {nm nm' : Str} {fl fl' : List Str}
theorem OxG.mro (T : OxG K C b) (v : Value) : PySem.W.subIn K (.ref C) v = some ((Value.ref C :: b.mro).contains v) := by
  obtain ⟨nm, q, N, bs, sn, sub, ab, col, dd, k0, k1, k2, k3, k5, hC⟩ := T.cls
  show PySem.W.mroIn K C v = _
  unfold PySem.W.mroIn PySem.W.clsIn
  rw [hC] <;> rfl
theorem Bs.no_ref (b : Bs) (C : Addr) : b.mro.contains (.ref C) = false := by cases b <;> rfl
theorem kit_self : PySem.W.kitOne K (.ref C) (.ref C) = some true := by
  unfold PySem.W.kitOne
  rw [if_pos (by simp)]
theorem kit_else (T : OxG K C b) (ic : PySem.W.isClsIn K C' = true) (ty : PySem.W.typeIn K (.ref C') = some (.type "type")) (ne : C ≠ C') : PySem.W.kitOne K (.ref C) (.ref C') = some false := by
  refine kitOne_no ic ty ?_ (beq_eq_false_iff_ne.mpr ne)
  rw [T.mro, List.contains_cons, b.no_ref]
  have : (Value.ref C' == Value.ref C) = false := beq_eq_false_iff_ne.mpr fun z => ne (Value.ref.inj z).symm
  rw [this]; rfl
theorem kit_type {t : String} (T : OxG K C b) (m : PySem.W.kitMeta t = true) : PySem.W.kitOne K (.ref C) (.type t) = some (b.mro.contains (.type t)) := by
  unfold PySem.W.kitOne
  rw [if_neg (by simp)]
  show (if PySem.W.kitMeta t = true then PySem.W.subIn K (.ref C) (.type t) else none) = _
  rw [if_pos m, T.mro, List.contains_cons]
  rfl
theorem EcC.kit (T : EcC K mg nm b fl C) (T' : EcC K mg nm' b' fl' C') : PySem.W.kitOne K (.ref C) (.ref C') = some (nm == nm') := by
  cases e : nm == nm' with
  | true =>
    have e := eq_of_beq e
    subst e
    have := T.n.symm.trans T'.n
    have z : C = C' := by simpa using this
    rw [z]
    exact kit_self
  | false =>
    refine kit_else T.g T'.ic T'.ty fun z => ?_
    subst z
    have := T.cn.symm.trans T'.cn
    rw [beq_eq_false_iff_ne] at e
    exact e (by simpa using this)
end
/-! ### values -/
def lookF (n : Str) : List (Key × D) → Option D
  | [] => none
  | (.inr f, d) :: r => if f = n then some d else lookF n r
  | (.inl _, _) :: r => lookF n r
theorem lookF_den {W : Wd} {n : Str} : ∀ {kvs : List (Key × D)} {ws : List (Key × V)} {d : D}, DenK W kvs ws → lookF n kvs = some d → ∃ v, (fldsV ws).lookup n = some v ∧ Den W d v
  | [], ws, d, _, e => by cases e
  | (.inr f, d0) :: r, ws, d, h, e => by
    simp only [DenK] at h
    obtain ⟨v, ws', rfl, dv, h⟩ := h
    unfold lookF at e
    by_cases c : f = n
    · rw [if_pos c] at e
      cases e
      subst c
      exact ⟨v, by simp [fldsV, List.lookup], dv⟩
    · rw [if_neg c] at e
      obtain ⟨w, e1, e2⟩ := lookF_den h e
      have c' : (n == f) = false := beq_eq_false_iff_ne.mpr fun z => c z.symm
      refine ⟨w, ?_, e2⟩
      show List.lookup n ((f, v) :: fldsV ws') = some w
      rw [List.lookup_cons, c']
      exact e1
  | (.inl i, d0) :: r, ws, d, h, e => by
    simp only [DenK] at h
    obtain ⟨v, ws', rfl, dv, h⟩ := h
    obtain ⟨w, e1, e2⟩ := lookF_den h (show lookF n r = some d from e)
    exact ⟨w, e1, e2⟩
section
variable {X : Cx} {E : XK} {tb : Str → Option (Bs × List Str)}
def dGetF (tb : Str → Option (Bs × List Str)) (n : Str) (f : DE) : DE := fun s G => (f s G).bind fun d G => match d with
  | .err nm kvs => (match tb nm, lookF n kvs with
    | some (_, fl), some x => if n ∈ fl then .ok x G else .stop
    | _, _ => .stop)
  | _ => .stop
theorem de_getf {e : Expr} {f : DE} {n : Str} {pos : Pos} (T : EcT X.K X.mg tb) (he : DEOk X E e f) (hb : attributeBase e n X.env (eval e X.env) = eval e X.env := by rfl) : DEOk X E (.Attribute e n pos) (dGetF tb n f) := by
  obtain ⟨t, p, q⟩ := he.out
  refine ⟨_, pe_gf p hb, fun W σ s Q hK S L h => ?_⟩
  refine q W σ s _ hK S L (h.seq fun d v W1 x1 S1 d1 h1 => ?_)
  split at h1
  · rename_i nm kvs
    simp only [Den] at d1
    obtain ⟨a, C, od, ws, rfl, z1, z2, z3, z4, z5, z6⟩ := d1
    split at h1
    · rename_i b fl x e1 e2
      obtain ⟨C', c⟩ := T _ _ _ e1
      have hK1 := x1.k.trans hK
      rw [hK1, c.n] at z1
      obtain rfl : C' = C := by simpa using z1
      split at h1
      · rename_i hm
        obtain ⟨v, l1, l2⟩ := lookF_den z6 e2
        cases od with
        | none =>
          rw [z5 rfl] at e2
          cases e2
        | some dx =>
          obtain ⟨_, ed⟩ := z4 dx rfl
          exact ⟨a, C', dx, _, v, rfl, c.xf, c.f n hm, z3, ed, l1, h1.here S1 l2⟩
      · exact h1.elim
    · exact h1.elim
  · exact h1.elim
/-- isinstance(e, an own class of the table) -/
def dIsE (tb : Str → Option (Bs × List Str)) (n : Str) (f : DE) : DE := fun s G => (f s G).bind fun d G => match d with
  | .err nm _ => (match tb nm with
    | some _ => .ok (.bl (nm == n)) G
    | none => .stop)
  | _ => .stop
theorem err_wide {W : Wd} {a C : Addr} {od : Option Addr} {ws : List (Key × V)} (z4 : ∀ d, od = some d → W.kp d ∧ W.H d = some (exd d (fldsV ws))) : ∀ dx, od = some dx → ∃ fs, W.H dx = some (exd dx fs) := fun dx e => ⟨_, (z4 dx e).2⟩
theorem de_isE {e : Expr} {f : DE} {n : Str} {b : Bs} {fl : List Str} {p p2 pos : Pos} (T : EcT X.K X.mg tb) (hn : tb n = some (b, fl)) (he : DEOk X E e f) (hg : Gl X "isinstance") (hm : X.mg "isinstance" = none) (hgT : Gl X n) (hdb : (n == ("__debug__" : Str)) = false := by decide)
    (hst : starEach [e, .Name n p2] X.env = (false, eval e X.env) :: starEach [.Name n p2] X.env := by rfl)
    (hst2 : starEach [.Name n p2] X.env = (false, eval (.Name n p2) X.env) :: starEach [] X.env := by rfl) (hpl : (backTo pos (starEach [.Name n p2] X.env)).any (·.1) = false := by rfl) :
    DEOk X E (.Call (.Name "isinstance" p) [e, .Name n p2] [] pos) (dIsE tb n f) := by
  obtain ⟨t, pt, q⟩ := he.out
  obtain ⟨C2, c2⟩ := T _ _ _ hn
  refine ⟨_, pe_callB call_isG hg hm boot_isinstance (pa_cons pt (pa_cons (pe_glob (v := .ref C2) hgT c2.m rfl (hd := hdb)) pa_nil hst2) hst) (by decide) (by decide) hst hpl, fun W σ s Q hK S L h => ?_⟩
  refine q W σ s _ hK S L (h.seq fun d v W1 x1 S1 d1 h1 => ?_)
  split at h1
  · rename_i nm kvs
    simp only [Den] at d1
    obtain ⟨a, C, od, ws, rfl, z1, z2, z3, z4, z5, z6⟩ := d1
    split at h1
    · rename_i pr e1
      obtain ⟨b1, fl1⟩ := pr
      obtain ⟨C', c⟩ := T _ _ _ e1
      have hK1 := x1.k.trans hK
      rw [hK1, c.n] at z1
      obtain rfl : C' = C := by simpa using z1
      exact ⟨a, C', od, .ref C2, .ref C2, nm == n, rfl, c.is, z3, fun dx e => ⟨_, (z4 dx e).2⟩, .own _, c.kit c2, h1.here S1 (by simp [Den])⟩
    · exact h1.elim
  · exact h1.elim
/-- isinstance(e, a class of the machine's) -/
def dIsB (tb : Str → Option (Bs × List Str)) (t : String) (f : DE) : DE := fun s G => (f s G).bind fun d G => match d with
  | .err nm _ => (match tb nm with
    | some (b, _) => .ok (.bl (b.mro.contains (.type t))) G
    | none => .stop)
  | _ => .stop
theorem de_isB (t : String) {e : Expr} {f : DE} {tx : Str} {p p2 pos : Pos} (T : EcT X.K X.mg tb) (he : DEOk X E e f) (hk : PySem.W.kitMeta t = true) (hg : Gl X "isinstance") (hm : X.mg "isinstance" = none) (hgT : Gl X tx) (hmT : X.mg tx = none) (hvT : bootBuiltins tx = some (.type t))
    (hn : tx ≠ "__name__" := by decide) (hdb : (tx == ("__debug__" : Str)) = false := by decide) (hst : starEach [e, .Name tx p2] X.env = (false, eval e X.env) :: starEach [.Name tx p2] X.env := by rfl)
    (hst2 : starEach [.Name tx p2] X.env = (false, eval (.Name tx p2) X.env) :: starEach [] X.env := by rfl) (hpl : (backTo pos (starEach [.Name tx p2] X.env)).any (·.1) = false := by rfl) :
    DEOk X E (.Call (.Name "isinstance" p) [e, .Name tx p2] [] pos) (dIsB tb t f) := by
  obtain ⟨t0, pt, q⟩ := he.out
  refine ⟨_, pe_callB call_isG hg hm boot_isinstance (pa_cons pt (pa_cons (pe_bltn (v := .ty t) hgT hmT hvT rfl hn hdb) pa_nil hst2) hst) (by decide) (by decide) hst hpl, fun W σ s Q hK S L h => ?_⟩
  refine q W σ s _ hK S L (h.seq fun d v W1 x1 S1 d1 h1 => ?_)
  split at h1
  · rename_i nm kvs
    simp only [Den] at d1
    obtain ⟨a, C, od, ws, rfl, z1, z2, z3, z4, z5, z6⟩ := d1
    split at h1
    · rename_i b fl e1
      obtain ⟨C', c⟩ := T _ _ _ e1
      have hK1 := x1.k.trans hK
      rw [hK1, c.n] at z1
      obtain rfl : C' = C := by simpa using z1
      exact ⟨a, C', od, .ty t, .type t, _, rfl, c.is, z3, fun dx e => ⟨_, (z4 dx e).2⟩, .ty _, kit_type c.g hk, h1.here S1 (by simp [Den])⟩
    · exact h1.elim
  · exact h1.elim
end
end DL
end
/-! ==== DErr7 ==== -/
section
set_option Elab.async false
set_option linter.all false
set_option autoImplicit false
set_option maxRecDepth 100000
set_option maxHeartbeats 4000000
/-! DL: own exceptions as values: made. -/
namespace DL
open PySem PySem.Spec PyProof.Rows L2
/-- what an __init__ of one field does -/
def spG1 (K : PySem.W.Frag) (b : Bs) (f : Str) : Sp := fun vs H Q E => ∃ (a C : Addr) (v : V), vs = [.ref a, v] ∧ OxG K C b ∧ PySem.W.findIn K (.ref C) f = some none ∧ H a = some (exo a C none) ∧
  ∀ d, H d = none → d ≠ a → Q .non (upd (upd H d (exd d [(f, v)])) a (exo a C (some d)))
/-- .. of two -/
def spG2 (K : PySem.W.Frag) (b : Bs) (f g : Str) : Sp := fun vs H Q E => ∃ (a C : Addr) (v w : V), vs = [.ref a, v, w] ∧ OxG K C b ∧ PySem.W.findIn K (.ref C) f = some none ∧ PySem.W.findIn K (.ref C) g = some none ∧ H a = some (exo a C none) ∧
  ∀ d, H d = none → d ≠ a → Q .non (upd (upd (upd H d (exd d [(f, v)])) a (exo a C (some d))) d (exd d [(g, w), (f, v)]))
theorem spG1_len {K : PySem.W.Frag} {b : Bs} {f : Str} : ∀ vs H Q E, spG1 K b f vs H Q E → vs.length = [("self" : Str), f].length := fun vs H Q E h => by
  obtain ⟨a, C, v, rfl, _⟩ := h
  rfl
theorem spG2_len {K : PySem.W.Frag} {b : Bs} {f g : Str} : ∀ vs H Q E, spG2 K b f g vs H Q E → vs.length = [("self" : Str), f, g].length := fun vs H Q E h => by
  obtain ⟨a, C, v, w, rfl, _⟩ := h
  rfl
/-- a class of errors and its __init__ -/
structure EcI (X : Cx) (nm : Str) (b : Bs) (fl ps ks : List Str) (perm : List Nat) (sp : Sp) : Prop where
  ex : ∃ (C fI : Addr) (fd : FuncData), EcC X.K X.mg nm b fl C ∧ PySem.W.findIn X.K (.ref C) "__init__" = some (some (.ref fI)) ∧ PySem.W.typeIn X.K (.ref fI) = some (.type "function") ∧ FnOk X.prog X.w X.K X.mg X.base CX0 1 fI fd ps sp ∧ Binds X.K fd ps [] ∧ BindsE X.K fd ps ks perm
section
variable {X : Cx} {E : XK}
theorem keep2 {W : Wd} (S : Sim W) {a C d : Addr} {fs : List (Str × V)} (ha : W.H a = none) (hd : W.H d = none) (na : d ≠ a) :
    ∃ W2 : Wd, Ext W W2 ∧ Sim W2 ∧ W2.G = W.G ∧ W2.K = W.K ∧ W2.kp a ∧ W2.kp d ∧ W2.H a = some (exo a C (some d)) ∧ W2.H d = some (exd d fs) ∧ W2.H = upd (upd W.H d (exd d fs)) a (exo a C (some d)) := by
  obtain ⟨x1, S1⟩ := S.keep (a := d) (o := exd d fs) hd (by exact True.intro)
  have ha1 : (W.keep d (exd d fs)).H a = none := by
    show upd W.H d (exd d fs) a = none
    rw [upd_ne (Ne.symm na)]; exact ha
  obtain ⟨x2, S2⟩ := S1.keep (a := a) (o := exo a C (some d)) ha1 (by exact True.intro)
  refine ⟨_, x1.trans x2, S2, rfl, rfl, .inr rfl, .inl (.inr rfl), upd_same, ?_, rfl⟩
  show upd (upd W.H d (exd d fs)) a (exo a C (some d)) d = _
  rw [upd_ne na, upd_same]
theorem upd3 {H : Hp} {a d : Addr} {o o' u : HO} (na : d ≠ a) : upd (upd (upd H a o) d u) a o' = upd (upd H d u) a o' := by
  funext b
  by_cases h1 : b = a
  · subst h1; rw [upd_same, upd_same]
  · rw [upd_ne h1, upd_ne h1]
    by_cases h2 : b = d
    · subst h2; rw [upd_same, upd_same]
    · rw [upd_ne h2, upd_ne h2, upd_ne h1]
theorem upd4 {H : Hp} {a d : Addr} {o u u' : HO} (na : d ≠ a) : upd (upd (upd H d u) a o) d u' = upd (upd H d u') a o := by
  funext b
  by_cases h2 : b = d
  · subst h2; rw [upd_same, upd_ne na, upd_same]
  · rw [upd_ne h2]
    by_cases h1 : b = a
    · subst h1; rw [upd_same, upd_same]
    · rw [upd_ne h1, upd_ne h1, upd_ne h2, upd_ne h2]
/-- one field: what stands behind -/
theorem made1 {W : Wd} {K : PySem.W.Frag} {nm : Str} {b : Bs} {fl : List Str} {mg : Str → Option Value} {C : Addr} {f : Str} {d : D} {v : V} {Q : VK} (S : Sim W) (hK : W.K = K) (c : EcC K mg nm b fl C) (hf : f ∈ fl) (dv : Den W d v) (h : Fin Den W E (.ok (.err nm [(.inr f, d)]) W.G) Q) :
    ∀ a, W.H a = none → spG1 K b f [.ref a, v] (upd W.H a (exo a C none)) (fun u H2 => u = .non ∧ Q (.ref a) H2) (fun _ _ _ => False) := fun a ha => by
  refine ⟨a, C, v, rfl, c.g, c.f f hf, upd_same, fun d' hd na => ⟨rfl, ?_⟩⟩
  have hd0 : W.H d' = none := by rw [← hd]; exact (upd_ne na).symm
  obtain ⟨W2, x2, S2, eG, eK, k1, k2, e1, e2, eH⟩ := keep2 (C := C) (fs := [(f, v)]) S ha hd0 na
  rw [upd3 na, ← eH]
  refine h (.ref a) W2 x2 S2 eG ?_
  simp only [Den]
  refine ⟨a, C, some d', [(.inr f, v)], rfl, by rw [eK, hK]; exact c.n, k1, e1, (fun d hd => by cases hd; exact ⟨k2, e2⟩), (fun z => by cases z), ?_⟩
  simp only [DenK]
  exact ⟨v, [], rfl, Den.mono x2 _ _ dv, rfl⟩
theorem made2 {W : Wd} {K : PySem.W.Frag} {nm : Str} {b : Bs} {fl : List Str} {mg : Str → Option Value} {C : Addr} {f g : Str} {d e : D} {v w : V} {Q : VK} (S : Sim W) (hK : W.K = K) (c : EcC K mg nm b fl C) (hf : f ∈ fl) (hg : g ∈ fl) (dv : Den W d v) (dw : Den W e w) (h : Fin Den W E (.ok (.err nm [(.inr g, e), (.inr f, d)]) W.G) Q) :
    ∀ a, W.H a = none → spG2 K b f g [.ref a, v, w] (upd W.H a (exo a C none)) (fun u H2 => u = .non ∧ Q (.ref a) H2) (fun _ _ _ => False) := fun a ha => by
  refine ⟨a, C, v, w, rfl, c.g, c.f f hf, c.f g hg, upd_same, fun d' hd na => ⟨rfl, ?_⟩⟩
  have hd0 : W.H d' = none := by rw [← hd]; exact (upd_ne na).symm
  obtain ⟨W2, x2, S2, eG, eK, k1, k2, e1, e2, eH⟩ := keep2 (C := C) (fs := [(g, w), (f, v)]) S ha hd0 na
  rw [upd3 na, upd4 na, ← eH]
  refine h (.ref a) W2 x2 S2 eG ?_
  simp only [Den]
  refine ⟨a, C, some d', [(.inr g, w), (.inr f, v)], rfl, by rw [eK, hK]; exact c.n, k1, e1, (fun d hd => by cases hd; exact ⟨k2, e2⟩), (fun z => by cases z), ?_⟩
  simp only [DenK]
  exact ⟨w, _, rfl, Den.mono x2 _ _ dw, v, [], rfl, Den.mono x2 _ _ dv, rfl⟩
def dMk0 (nm : Str) : DE := fun s G => .ok (.err nm []) G
def dMk1 (nm f : Str) (a : DE) : DE := fun s G => (a s G).bind fun d G => .ok (.err nm [(.inr f, d)]) G
/-- two fields f, g; a is evaluated first -/
def dMk2 (nm f g : Str) (a b : DE) : DE := fun s G => (a s G).bind fun d G => (b s G).bind fun e G => .ok (.err nm [(.inr g, e), (.inr f, d)]) G
/-- two fields f, g; g's is evaluated first -/
def dMk2S (nm f g : Str) (b a : DE) : DE := fun s G => (b s G).bind fun e G => (a s G).bind fun d G => .ok (.err nm [(.inr g, e), (.inr f, d)]) G
theorem one_den {ta : TE} {f : DE} (qa : ∀ (W : Wd) (σ : L2.St) (s : DSl) (Q : VK), W.K = X.K → Sim W → Sl W σ s → Fin Den W E (f s W.G) Q → ta σ W.H Q) : ∀ (W : Wd) (σ : L2.St) (s : DSl) (Q : List V → Hp → Prop), W.K = X.K → Sim W → Sl W σ s → Fin DenL W E (dCons f dNil s W.G) Q → tCons ta tNil σ W.H Q := fun W σ s Q hK S L h => by
  refine qa W σ s _ hK S L (h.seq fun x v W1 x1 S1 d1 h1 => ?_)
  exact h1 [v] W1 (Ext.refl W1) S1 rfl (by simp only [DenL]; exact ⟨v, [], rfl, d1, rfl⟩)
theorem de_mk0 {nm : Str} {b : Bs} {fl : List Str} {C : Addr} {p pos : Pos} (c : EcC X.K X.mg nm b fl C) (iC : PySem.W.findIn X.K (.ref C) "__init__" = some (some (.builtin b.initId))) (hg : Gl X nm) (hdb : (nm == ("__debug__" : Str)) = false := by decide) :
    DEOk X E (.Call (.Name nm p) [] [] pos) (dMk0 nm) := by
  refine ⟨_, pe_mg0 c.g iC hg c.m hdb, fun W σ s Q hK S L h a ha => ?_⟩
  obtain ⟨x1, S1⟩ := S.keep (a := a) (o := exo a C none) ha (by exact True.intro)
  refine h (.ref a) _ x1 S1 rfl ?_
  simp only [Den]
  exact ⟨a, C, none, [], rfl, by rw [show (W.keep a (exo a C none)).K = X.K from hK]; exact c.n, .inr rfl, upd_same, (fun d hd => by cases hd), (fun _ => trivial), by simp only [DenK]⟩
theorem de_mk1 {nm f : Str} {b : Bs} {fl ks : List Str} {perm : List Nat} {e : Expr} {a : DE} {p pos : Pos} (T : EcI X nm b fl [("self" : Str), f] ks perm (spG1 X.K b f)) (hf : f ∈ fl) (hr : Room 2 X.A) (hx : Passes CX0 X (fun _ _ _ => False)) (hg : Gl X nm) (he : DEOk X E e a)
    (hdb : (nm == ("__debug__" : Str)) = false := by decide) (hs : starEach [e] X.env = (false, eval e X.env) :: starEach [] X.env := by rfl) (hpl : (backTo pos (starEach [] X.env)).any (·.1) = false := by rfl) :
    DEOk X E (.Call (.Name nm p) [e] [] pos) (dMk1 nm f a) := by
  obtain ⟨C, fI, fd, c, iC, tI, F1, hb, _⟩ := T.ex
  obtain ⟨t, pt, q⟩ := he.out
  refine ⟨_, pe_mg c.g iC tI F1 hr hb hx hg c.m (pa_cons pt pa_nil hs) hdb hs hpl, fun W σ s Q hK S L h => ?_⟩
  refine q W σ s _ hK S L (h.seq fun d v W1 x1 S1 d1 h1 => ?_)
  exact ⟨(show 1 ≤ 1000 by decide), made1 S1 (x1.k.trans hK) c hf d1 h1⟩
theorem de_mk2 {nm f g : Str} {b : Bs} {fl ks : List Str} {perm : List Nat} {e1 e2 : Expr} {a1 a2 : DE} {p pos : Pos} (T : EcI X nm b fl [("self" : Str), f, g] ks perm (spG2 X.K b f g)) (hf : f ∈ fl) (hfg : g ∈ fl) (hr : Room 2 X.A) (hx : Passes CX0 X (fun _ _ _ => False)) (hg : Gl X nm) (he1 : DEOk X E e1 a1) (he2 : DEOk X E e2 a2)
    (hdb : (nm == ("__debug__" : Str)) = false := by decide) (hs : starEach [e1, e2] X.env = (false, eval e1 X.env) :: starEach [e2] X.env := by rfl) (hs2 : starEach [e2] X.env = (false, eval e2 X.env) :: starEach [] X.env := by rfl) (hpl : (backTo pos (starEach [e2] X.env)).any (·.1) = false := by rfl) :
    DEOk X E (.Call (.Name nm p) [e1, e2] [] pos) (dMk2 nm f g a1 a2) := by
  obtain ⟨C, fI, fd, c, iC, tI, F1, hb, _⟩ := T.ex
  obtain ⟨t, pt, q⟩ := he1.out
  obtain ⟨t', pt', q'⟩ := he2.out
  refine ⟨_, pe_mg c.g iC tI F1 hr hb hx hg c.m (pa_cons pt (pa_cons pt' pa_nil hs2) hs) hdb hs hpl, fun W σ s Q hK S L h => ?_⟩
  refine q W σ s _ hK S L (h.seq fun d v W1 x1 S1 d1 h1 => ?_)
  refine q' W1 σ s _ (x1.k.trans hK) S1 (L.mono x1) (h1.seq fun d' w W2 x2 S2 d2 h2 => ?_)
  exact ⟨(show 2 ≤ 1000 by decide), made2 S2 (x2.k.trans (x1.k.trans hK)) c hf hfg (Den.mono x2 _ _ d1) d2 h2⟩
theorem de_mkK1 {nm f : Str} {b : Bs} {fl : List Str} {e : Expr} {a : DE} {kpos p pos : Pos} (T : EcI X nm b fl [("self" : Str), f] [f] [0] (spG1 X.K b f)) (hf : f ∈ fl) (hr : Room 2 X.A) (hx : Passes CX0 X (fun _ _ _ => False)) (hg : Gl X nm) (he : DEOk X E e a)
    (hall : (backToKw pos (keywordEach [⟨some f, e, kpos⟩] X.env)).all (·.1.isSome) = true := by rfl) (hks : (backToKw pos (keywordEach [⟨some f, e, kpos⟩] X.env)).filterMap (·.1) = [f] := by rfl)
    (hdb : (nm == ("__debug__" : Str)) = false := by decide) (hpl : ((backTo pos (starEach [] X.env)).any (·.1) || (backToKw pos (keywordEach [⟨some f, e, kpos⟩] X.env)).any (·.1.isNone)) = false := by rfl) :
    DEOk X E (.Call (.Name nm p) [] [⟨some f, e, kpos⟩] pos) (dMk1 nm f a) := by
  obtain ⟨C, fI, fd, c, iC, tI, F1, _, hb⟩ := T.ex
  obtain ⟨t, pt, q⟩ := he.out
  refine ⟨_, pe_mgK c.g iC tI F1 hr hb hx hg c.m (pk_cons pt pk_nil) hall hks hdb hpl, fun W σ s Q hK S L h => ?_⟩
  refine q W σ s _ hK S L (h.seq fun d v W1 x1 S1 d1 h1 => ?_)
  exact ⟨rfl, made1 S1 (x1.k.trans hK) c hf d1 h1⟩
theorem de_mkK2 {nm f g : Str} {b : Bs} {fl : List Str} {e1 e2 : Expr} {a1 a2 : DE} {kp1 kp2 p pos : Pos} (T : EcI X nm b fl [("self" : Str), f, g] [g, f] [1, 0] (spG2 X.K b f g)) (hf : f ∈ fl) (hfg : g ∈ fl) (hr : Room 2 X.A) (hx : Passes CX0 X (fun _ _ _ => False)) (hg : Gl X nm) (he1 : DEOk X E e1 a1) (he2 : DEOk X E e2 a2)
    (hall : (backToKw pos (keywordEach [⟨some g, e1, kp1⟩, ⟨some f, e2, kp2⟩] X.env)).all (·.1.isSome) = true := by rfl) (hks : (backToKw pos (keywordEach [⟨some g, e1, kp1⟩, ⟨some f, e2, kp2⟩] X.env)).filterMap (·.1) = [g, f] := by rfl)
    (hdb : (nm == ("__debug__" : Str)) = false := by decide) (hpl : ((backTo pos (starEach [] X.env)).any (·.1) || (backToKw pos (keywordEach [⟨some g, e1, kp1⟩, ⟨some f, e2, kp2⟩] X.env)).any (·.1.isNone)) = false := by rfl) :
    DEOk X E (.Call (.Name nm p) [] [⟨some g, e1, kp1⟩, ⟨some f, e2, kp2⟩] pos) (dMk2S nm f g a1 a2) := by
  obtain ⟨C, fI, fd, c, iC, tI, F1, _, hb⟩ := T.ex
  obtain ⟨t, pt, q⟩ := he1.out
  obtain ⟨t', pt', q'⟩ := he2.out
  refine ⟨_, pe_mgK c.g iC tI F1 hr hb hx hg c.m (pk_cons pt (pk_cons pt' pk_nil)) hall hks hdb hpl, fun W σ s Q hK S L h => ?_⟩
  refine q W σ s _ hK S L (h.seq fun d w W1 x1 S1 d1 h1 => ?_)
  refine q' W1 σ s _ (x1.k.trans hK) S1 (L.mono x1) (h1.seq fun d' v W2 x2 S2 d2 h2 => ?_)
  exact ⟨rfl, made2 S2 (x2.k.trans (x1.k.trans hK)) c hf hfg d2 (Den.mono x2 _ _ d1) h2⟩
end
@[simp] theorem dMk0_s (nm : Str) (s : DSl) (G : DH) : dMk0 nm s G = .ok (.err nm []) G := (rfl)
@[simp] theorem dMk1_s (nm f : Str) (a : DE) (s : DSl) (G : DH) : dMk1 nm f a s G = (a s G).bind fun d G => .ok (.err nm [(.inr f, d)]) G := (rfl)
@[simp] theorem dMk2_s (nm f g : Str) (a b : DE) (s : DSl) (G : DH) : dMk2 nm f g a b s G = (a s G).bind fun d G => (b s G).bind fun e G => .ok (.err nm [(.inr g, e), (.inr f, d)]) G := (rfl)
@[simp] theorem dMk2S_s (nm f g : Str) (b a : DE) (s : DSl) (G : DH) : dMk2S nm f g b a s G = (b s G).bind fun e G => (a s G).bind fun d G => .ok (.err nm [(.inr g, e), (.inr f, d)]) G := (rfl)
end DL
end
/-! ==== DErr8 ==== -/
section
set_option Elab.async false
set_option linter.all false
set_option autoImplicit false
set_option maxRecDepth 100000
set_option maxHeartbeats 4000000
/-! DL: own exceptions as values: what the top has written. -/
namespace DL
open PySem PySem.Spec PyProof.Rows L2
section
variable {K : PySem.W.Frag} {mg : Str → Option Value}
theorem ecC_mk {h : Heap} {nm : Str} {b : Bs} {fl : List Str} {C N : Addr} {cq : Str} {bs : List Value} {sn : List Str} {sub : List Value} {ab : Bool} {col : Option Bool} {dd : Option Addr} {m0 m1 m2 m3 m5 : Option Value}
    (X : K.In h) (G : h.Ns mainGlobals mg) (z : PySem.W.nsIn K mainGlobals nm = some (some (.ref C))) (lc : K.lookup C = some (excClassObj nm cq C N bs b.mro true sn sub ab col dd m0 m1 m2 m3 m5 b.newId))
    (sa : PySem.W.findIn K (.ref C) "__setattr__" = some (some (.builtin "object.__setattr__"))) (kc : PySem.W.keepIn K (.ref C) = true)
    (ga : PySem.W.findIn K (.ref C) "__getattribute__" = some (some (.builtin "BaseException.__getattribute__"))) (gg : PySem.W.findIn K (.ref C) "__getattr__" = some none) (ca : PySem.W.findIn K (.ref C) "__class__" = some (some (.builtin "object.__class__")))
    (sp : PySem.W.specialIn K (.builtin "object.__class__") "__get__" = some (some (.builtin "getset_descriptor.__get__"))) (tk : PySem.W.takesIn K (.builtin "object.__class__") = some true)
    (fn : ∀ x ∈ fl, PySem.W.findIn K (.ref C) x = some none) : EcC K mg nm b fl C := by
  have g : OxG K C b := ⟨⟨nm, cq, N, bs, sn, sub, ab, col, dd, m0, m1, m2, m3, m5, lc⟩, sa, kc⟩
  have cl : PySem.W.clsIn K C = some { name := nm, bases := bs, mro := .ref C :: b.mro, ns := N, qualname := cq, hasDict := true, slotNames := sn, subclasses := sub, abstract := ab, collection := col, hasDel := false } := by
    unfold PySem.W.clsIn
    rw [lc] <;> rfl
  have be : PySem.W.subIn K (.ref C) (.type "BaseException") = some true := by
    rw [g.mro, List.contains_cons]
    cases b <;> rfl
  have mr : PySem.W.mroIn K C (.type "object") = some true := by
    have := g.mro (.type "object")
    rw [List.contains_cons] at this
    refine Eq.trans (show PySem.W.mroIn K C (.type "object") = PySem.W.subIn K (.ref C) (.type "object") from rfl) (this.trans ?_)
    cases b <;> rfl
  have hd : PySem.W.hasDictIn K C = true := by
    unfold PySem.W.hasDictIn
    rw [cl]
    rfl
  have ty : PySem.W.typeIn K (.ref C) = some (.type "type") := by
    show (K.lookup C).map (·.cls) = _
    rw [lc] <;> rfl
  have ic : (PySem.W.clsIn K C).isSome = true := by rw [cl]; rfl
  exact ⟨z, PySem.W.mg_of X G z, g, ⟨ga, gg, be, hd⟩, ⟨ic, ga, gg, be, ca, sp, tk, mr⟩, ic, ty, by rw [cl]; rfl, fn⟩
/-- a class of errors with an __init__ of its own, as the top has written it -/
structure EcRaw (K : PySem.W.Frag) (mg : Str → Option Value) (nm : Str) (b : Bs) (fl ps ks : List Str) (perm : List Nat) (st : Stmt) : Prop where
  ex : ∃ (C fI : Addr) (fd : FuncData) (qual : Str), Fun K "__init__" qual st fI fd ∧ EcC K mg nm b fl C ∧ PySem.W.findIn K (.ref C) "__init__" = some (some (.ref fI)) ∧ PySem.W.typeIn K (.ref fI) = some (.type "function") ∧ Binds K fd ps [] ∧ BindsE K fd ps ks perm
/-- .. without one -/
structure Ec0 (K : PySem.W.Frag) (mg : Str → Option Value) (nm : Str) (b : Bs) : Prop where
  ex : ∃ C : Addr, EcC K mg nm b [] C ∧ PySem.W.findIn K (.ref C) "__init__" = some (some (.builtin b.initId))
theorem EcRaw.cls {nm : Str} {b : Bs} {fl ps ks : List Str} {perm : List Nat} {st : Stmt} (h : EcRaw K mg nm b fl ps ks perm st) : ∃ C, EcC K mg nm b fl C := by
  obtain ⟨C, _, _, _, _, c, _⟩ := h.ex
  exact ⟨C, c⟩
theorem Ec0.cls {nm : Str} {b : Bs} (h : Ec0 K mg nm b) : ∃ C, EcC K mg nm b [] C := by
  obtain ⟨C, c, _⟩ := h.ex
  exact ⟨C, c⟩
theorem EcRaw.made {X : Cx} {nm : Str} {b : Bs} {fl ps ks : List Str} {perm : List Nat} {st : Stmt} {sp : Sp} (h : EcRaw X.K X.mg nm b fl ps ks perm st) (hI : ∀ {f : Addr} {fd : FuncData} {qual : Str}, Fun X.K "__init__" qual st f fd → FnOk X.prog X.w X.K X.mg X.base CX0 1 f fd ps sp) : EcI X nm b fl ps ks perm sp := by
  obtain ⟨C, fI, fd, qual, F, c, d, e, f, g⟩ := h.ex
  exact ⟨C, fI, fd, c, d, e, hI F, f, g⟩
theorem ecRaw_mk {nm qual : Str} {b : Bs} {fl ps ks : List Str} {perm : List Nat} {st : Stmt} {C fI : Addr} {od an : Option Addr} {osl : Array (Option Value)} {oc kV doc pm cdv ct : Value} (c : EcC K mg nm b fl C)
    (fi : PySem.W.findIn K (.ref C) "__init__" = some (some (.ref fI))) (ti : PySem.W.typeIn K (.ref fI) = some (.type "function"))
    (lf : K.lookup fI = some ⟨oc, od, .func (PySem.W.fnOf "__init__" qual (defArgs st) (defBody st) (defScope st) .none kV doc pm an cdv ct), osl⟩) (cf : PySem.W.codeIn K cdv qual = true) (kf : PySem.W.keepIn K (.ref fI) = true)
    (hb : ∀ (kV doc pm : Value) (an : Option Addr) (cdv ct : Value) (us : List Value), us.length = ps.length → bindArgs (PySem.W.fnOf "__init__" qual (defArgs st) (defBody st) (defScope st) .none kV doc pm an cdv ct) ⟨us, []⟩ = pure (ps.zip us))
    (hk : ∀ (kV doc pm : Value) (an : Option Addr) (cdv ct : Value) (u : Value) (ws : List Value), ws.length = ks.length → bindArgs (PySem.W.fnOf "__init__" qual (defArgs st) (defBody st) (defScope st) .none kV doc pm an cdv ct) ⟨[u], ks.zip ws⟩ = pure (ps.zip (u :: pick perm ws))) : EcRaw K mg nm b fl ps ks perm st :=
  ⟨C, fI, _, qual, fun_mk lf cf kf, c, fi, ti, Binds.all (hb _ _ _ _ _ _), fun s u ws _ h => .of_eq (hk _ _ _ _ _ _ u ws h)⟩
end
theorem de_mk0E {X : Cx} {E : XK} {nm : Str} {b : Bs} {p pos : Pos} (T : Ec0 X.K X.mg nm b) (hg : Gl X nm) (hdb : (nm == ("__debug__" : Str)) = false := by decide) : DEOk X E (.Call (.Name nm p) [] [] pos) (dMk0 nm) := by
  obtain ⟨C, c, i⟩ := T.ex
  exact de_mk0 c i hg hdb
end DL
end
/-! ==== LA ==== -/
section
set_option Elab.async false
set_option linter.all false
set_option autoImplicit false
set_option maxRecDepth 100000
set_option maxHeartbeats 4000000
/-! What shared defs compute. Printed by gen.py. -/
namespace DF
open PySem DL

def b__law_pool : DS :=
  sSeq (sAsg (dC (.int 0)) (gNm 2)) (
    sSeq (sIf (dTest (dBin ltD (dVar 1) (dCall lenO (dCons (dVar 0) (dNil))))) (sAsg (dBin ixD (dVar 0) (dVar 1)) (gNm 2)) (sPass)) (
    sSeq (sAsg (dCall maxO (dCons (dVar 2) (dCons (dBin subD (dUn negD (dC (.int 1))) (dVar 2)) (dNil)))) (gNm 3)) (
    sSeq (sAsg (dBin modD (dBin (mulD false) (dBin (addD false) (dBin (addD false) (dBin (addD false) (dBin modD (dVar 3) (dC (.int 2147483629))) (dBin (mulD false) (dBin (mulD false) (dC (.int 7919)) (dVar 1)) (dVar 1))) (dBin (mulD false) (dC (.int 31)) (dVar 1))) (dC (.int 17))) (dC (.int 48271))) (dC (.int 2147483647))) (gNm 4)) (
    sRet (dLst true (dCons (dBin (mulD false) (dVar 3) (dCall intO (dCons (dBin geD (dVar 3) (dBin powD (dC (.int 10)) (dC (.int 18)))) (dNil)))) (dCons (dVar 4) (dNil))))))))
def F__law_pool : DFn := runF 2 5 b__law_pool
def b__law_take : DS :=
  sSeq (sIf (dTest (dBin gtD (dBin ixD (dVar 0) (dC (.int 0))) (dC (.int 0)))) (sSeq (sAsg (dBin modD (dBin ixD (dVar 0) (dC (.int 0))) (dVar 1)) (gNm 2)) (
    sSeq (sAsg (dBin fdivD (dBin ixD (dVar 0) (dC (.int 0))) (dVar 1)) (gSt setL (dVar 0) (dC (.int 0)))) (
    sRet (dVar 2)))) (sPass)) (
    sSeq (sAsg (dBin modD (dBin (addD false) (dBin (mulD false) (dBin ixD (dVar 0) (dC (.int 1))) (dC (.int 69621))) (dC (.int 7))) (dC (.int 2147483647))) (gSt setL (dVar 0) (dC (.int 1)))) (
    sRet (dBin modD (dBin fdivD (dBin modD (dBin (mulD false) (dBin ixD (dVar 0) (dC (.int 1))) (dBin ixD (dVar 0) (dC (.int 1)))) (dC (.int 2147483629))) (dC (.int 32))) (dVar 1))))
def F__law_take : DFn := runF 2 3 b__law_take
def b__law_letters : DS :=
  sSeq (sAsg (dC (.str "abcdefghijklmnopqrstuvwxyz")) (gNm 2)) (
    sRet (dMt "str" joinO (dC (.str "")) (dCons (dLc false [3] (iRg1 (dCons (dVar 1) (dNil))) (gNm 3) (dYes) (dBin ixD (dVar 2) (dCall F__law_take (dCons (dVar 0) (dCons (dC (.int 26)) (dNil)))))) (dNil))))
def F__law_letters : DFn := runF 2 4 b__law_letters
def b_is_word : DS :=
  sRet (dAnd (dIsi "str" (dVar 0)) (dAnd (dChain leD leD (dC (.int 1)) (dCall lenO (dCons (dVar 0) (dNil))) (dC (.int 8))) (dCall allO (dCons (dLc false [1] (iStr (dVar 0)) (gNm 1) (dYes) (dBin (inOp false) (dVar 1) (dC (.str "abcdefghijklmnopqrstuvwxyz")))) (dNil)))))
def F_is_word : DFn := runF 1 2 b_is_word
def b_is_person : DS :=
  sSeq (sIf (tNotD (dTru (dIsi "str" (dVar 0)))) (sRet (dC (.bl false))) (sPass)) (
    sSeq (sAsg (dMt "str" partO (dVar 0) (dCons (dC (.str "@")) (dNil))) (gTup 3 (gCons (gNm 1) (gCons (gNm 2) (gCons (gNm 3) (gNil)))))) (
    sRet (dAnd (dBin eqOp (dVar 2) (dC (.str "@"))) (dAnd (dCall F_is_word (dCons (dVar 1) (dNil))) (dCall F_is_word (dCons (dVar 3) (dNil)))))))
def F_is_person : DFn := runF 1 4 b_is_person
def b_is_whole : DS :=
  sRet (dAnd (dIsi "int" (dVar 0)) (dNot (dIsi "bool" (dVar 0))))
def F_is_whole : DFn := runF 1 1 b_is_whole
def b_is_from : DS :=
  sRet (dAnd (dCall F_is_whole (dCons (dVar 0) (dNil))) (dChain leD leD (dVar 1) (dVar 0) (dVar 2)))
def F_is_from : DFn := runF 3 3 b_is_from
def b_is_name : DS :=
  sRet (dAnd (dIsi "tuple" (dVar 0)) (dAnd (dBin eqOp (dCall lenO (dCons (dVar 0) (dNil))) (dC (.int 2))) (dAnd (dCall F_is_word (dCons (dBin ixD (dVar 0) (dC (.int 0))) (dNil))) (dCall F_is_from (dCons (dBin ixD (dVar 0) (dC (.int 1))) (dCons (dC (.int 0)) (dCons (dC (.int 99999)) (dNil))))))))
def F_is_name : DFn := runF 1 1 b_is_name
def b_is_rank : DS :=
  sRet (dCall F_is_from (dCons (dVar 0) (dCons (dC (.int 0)) (dCons (dC (.int 100)) (dNil)))))
def F_is_rank : DFn := runF 1 1 b_is_rank
def b_house_of : DS :=
  sSeq (sAsg (dMt "str" partO (dVar 0) (dCons (dC (.str "@")) (dNil))) (gTup 3 (gCons (gNm 1) (gCons (gNm 2) (gCons (gNm 3) (gNil)))))) (
    sRet (dVar 3))
def F_house_of : DFn := runF 1 4 b_house_of
end DF
end
/-! ==== K04F ==== -/
section
set_option Elab.async false
set_option linter.all false
set_option autoImplicit false
set_option maxRecDepth 100000
set_option maxHeartbeats 4000000
/-! K04: what the defs compute. Printed by gen.py. -/
namespace K04
open PySem DL DF

def eTab (n : Str) : Option (Bs × List Str) :=
  if n = "NoDeed" then some (.ve, ["part"]) else if n = "NoText" then some (.ve, ["part"]) else if n = "NoStates" then some (.ve, ["number"]) else if n = "NoPaper" then some (.ve, []) else if n = "NoBegin" then some (.ve, []) else if n = "NoRow" then some (.ve, ["number"]) else if n = "NoHouse" then some (.ve, ["house"]) else if n = "NoHouses" then some (.ve, ["number"]) else if n = "Barred" then some (.ve, ["where", "rule"]) else if n = "NoName" then some (.ke, ["name"]) else if n = "NoState" then some (.le, ["name"]) else if n = "NoGoing" then some (.le, ["name"]) else if n = "NoHall" then some (.le, []) else if n = "Full" then some (.oe, []) else if n = "TooMany" then some (.oe, ["many"]) else if n = "Twin" then some (.re, ["name"]) else if n = "Busy" then some (.re, []) else none
def b__law_own : DS :=
  sSeq (sAsg (dLst false (dCons (dIsE eTab "NoDeed" (dVar 0)) (dCons (dIsE eTab "NoText" (dVar 0)) (dCons (dIsE eTab "NoStates" (dVar 0)) (dNil))))) (gNm 1)) (
    sSeq (sAsg (dBin (addD false) (dVar 1) (dLst false (dCons (dIsE eTab "NoPaper" (dVar 0)) (dCons (dIsE eTab "NoBegin" (dVar 0)) (dCons (dIsE eTab "NoRow" (dVar 0)) (dNil)))))) (gNm 1)) (
    sSeq (sAsg (dBin (addD false) (dVar 1) (dLst false (dCons (dIsE eTab "NoHouse" (dVar 0)) (dCons (dIsE eTab "NoHouses" (dVar 0)) (dCons (dIsE eTab "Barred" (dVar 0)) (dNil)))))) (gNm 1)) (
    sSeq (sAsg (dBin (addD false) (dVar 1) (dLst false (dCons (dIsE eTab "NoName" (dVar 0)) (dCons (dIsE eTab "NoState" (dVar 0)) (dCons (dIsE eTab "NoGoing" (dVar 0)) (dNil)))))) (gNm 1)) (
    sSeq (sAsg (dBin (addD false) (dVar 1) (dLst false (dCons (dIsE eTab "NoHall" (dVar 0)) (dCons (dIsE eTab "Full" (dVar 0)) (dCons (dIsE eTab "TooMany" (dVar 0)) (dNil)))))) (gNm 1)) (
    sRet (dBin (addD false) (dVar 1) (dLst false (dCons (dIsE eTab "Twin" (dVar 0)) (dCons (dIsE eTab "Busy" (dVar 0)) (dNil))))))))))
def F__law_own : DFn := runF 1 2 b__law_own
def b__law_roots : DS :=
  sSeq (sAsg (dLst false (dCons (dIsB eTab "ValueError" (dVar 0)) (dCons (dIsB eTab "KeyError" (dVar 0)) (dCons (dIsB eTab "IndexError" (dVar 0)) (dNil))))) (gNm 1)) (
    sSeq (sAsg (dBin (addD false) (dVar 1) (dLst false (dCons (dIsB eTab "LookupError" (dVar 0)) (dCons (dIsB eTab "OverflowError" (dVar 0)) (dCons (dIsB eTab "RuntimeError" (dVar 0)) (dNil)))))) (gNm 1)) (
    sRet (dLc false [2] (iRg1 (dCons (dC (.int 6)) (dNil))) (gNm 2) (dTru (dBin ixU (dVar 1) (dVar 2))) (dVar 2))))
def F__law_roots : DFn := runF 1 3 b__law_roots
def b__law_fields : DS :=
  sSeq (sAsg (dLst false (dCons (dGetF eTab "part" (dBin ixU (dVar 0) (dC (.int 0)))) (dCons (dGetF eTab "part" (dBin ixU (dVar 0) (dC (.int 1)))) (dCons (dGetF eTab "number" (dBin ixU (dVar 0) (dC (.int 2)))) (dCons (dGetF eTab "number" (dBin ixU (dVar 0) (dC (.int 5)))) (dCons (dGetF eTab "house" (dBin ixU (dVar 0) (dC (.int 6)))) (dCons (dGetF eTab "number" (dBin ixU (dVar 0) (dC (.int 7)))) (dNil)))))))) (gNm 1)) (
    sSeq (sAsg (dBin (addD false) (dVar 1) (dLst false (dCons (dGetF eTab "where" (dBin ixU (dVar 0) (dC (.int 8)))) (dCons (dGetF eTab "rule" (dBin ixU (dVar 0) (dC (.int 8)))) (dCons (dGetF eTab "name" (dBin ixU (dVar 0) (dC (.int 9)))) (dCons (dGetF eTab "name" (dBin ixU (dVar 0) (dC (.int 10)))) (dCons (dGetF eTab "name" (dBin ixU (dVar 0) (dC (.int 11)))) (dCons (dGetF eTab "many" (dBin ixU (dVar 0) (dC (.int 14)))) (dNil))))))))) (gNm 1)) (
    sRet (dBin (addD false) (dVar 1) (dLst false (dCons (dGetF eTab "name" (dBin ixU (dVar 0) (dC (.int 15)))) (dNil))))))
def F__law_fields : DFn := runF 1 2 b__law_fields
def b__law_made : DS :=
  sSeq (sAsg (dLst false (dCons (dMk1 "NoDeed" "part" (dVar 0)) (dCons (dMk1 "NoText" "part" (dVar 0)) (dCons (dMk1 "NoStates" "number" (dVar 0)) (dCons (dMk0 "NoPaper") (dCons (dMk0 "NoBegin") (dCons (dMk1 "NoRow" "number" (dVar 0)) (dCons (dMk1 "NoHouse" "house" (dVar 0)) (dCons (dMk1 "NoHouses" "number" (dVar 0)) (dNil)))))))))) (gNm 2)) (
    sSeq (sAsg (dBin (addD false) (dVar 2) (dLst false (dCons (dMk2 "Barred" "where" "rule" (dVar 0) (dVar 1)) (dCons (dMk1 "NoName" "name" (dVar 0)) (dCons (dMk1 "NoState" "name" (dVar 0)) (dCons (dMk1 "NoGoing" "name" (dVar 0)) (dCons (dMk0 "NoHall") (dCons (dMk0 "Full") (dCons (dMk1 "TooMany" "many" (dVar 0)) (dNil)))))))))) (gNm 2)) (
    sRet (dBin (addD false) (dVar 2) (dLst false (dCons (dMk1 "Twin" "name" (dVar 0)) (dCons (dMk0 "Busy") (dNil)))))))
def F__law_made : DFn := runF 2 3 b__law_made
def b__law_named : DS :=
  sSeq (sAsg (dLst false (dCons (dMk1 "NoDeed" "part" (dVar 0)) (dCons (dMk1 "NoText" "part" (dVar 0)) (dCons (dMk1 "NoStates" "number" (dVar 0)) (dCons (dC .non) (dCons (dC .non) (dCons (dMk1 "NoRow" "number" (dVar 0)) (dNil)))))))) (gNm 2)) (
    sSeq (sAsg (dBin (addD false) (dVar 2) (dLst false (dCons (dMk1 "NoHouse" "house" (dVar 0)) (dCons (dMk1 "NoHouses" "number" (dVar 0)) (dCons (dMk2S "Barred" "where" "rule" (dVar 1) (dVar 0)) (dCons (dMk1 "NoName" "name" (dVar 0)) (dNil))))))) (gNm 2)) (
    sSeq (sAsg (dBin (addD false) (dVar 2) (dLst false (dCons (dMk1 "NoState" "name" (dVar 0)) (dCons (dMk1 "NoGoing" "name" (dVar 0)) (dCons (dC .non) (dCons (dC .non) (dCons (dMk1 "TooMany" "many" (dVar 0)) (dNil)))))))) (gNm 2)) (
    sRet (dBin (addD false) (dVar 2) (dLst false (dCons (dMk1 "Twin" "name" (dVar 0)) (dCons (dC .non) (dNil))))))))
def F__law_named : DFn := runF 2 3 b__law_named
def l1_law : DS :=
  sIf (tOrD (dTest (dBin neU (dCall F__law_own (dCons (dVar 9) (dNil))) (dLc false [10] (iRg1 (dCons (dC (.int 17)) (dNil))) (gNm 10) (dYes) (dBin eqU (dVar 8) (dVar 10))))) (dTest (dBin neU (dCall F__law_roots (dCons (dVar 9) (dNil))) (dBin ixU (dVar 1) (dVar 8))))) (sRet (dC (.bl false))) (sPass)
def l2_law : DS :=
  sSeq (sAsg (dCall F__law_pool (dCons (dVar 0) (dCons (dVar 2) (dNil)))) (gNm 3)) (
    sSeq (sAsg (dLst false (dCons (dCall F__law_take (dCons (dVar 3) (dCons (dBin powD (dC (.int 10)) (dC (.int 9))) (dNil)))) (dCons (dC .non) (dCons (dCall F__law_letters (dCons (dVar 3) (dCons (dC (.int 4)) (dNil)))) (dCons (dTup (dCons (dC (.str "a")) (dCons (dC (.int 3)) (dNil)))) (dCons (dLst false (dCons (dC (.int 1)) (dNil))) (dCons (dC (.bl true)) (dCons (dUn negD (dC (.int 1))) (dNil))))))))) (gNm 4)) (
    sSeq (sAsg (dBin ixU (dVar 4) (dCall F__law_take (dCons (dVar 3) (dCons (dC (.int 7)) (dNil))))) (gNm 5)) (
    sSeq (sAsg (dBin ixU (dVar 4) (dCall F__law_take (dCons (dVar 3) (dCons (dC (.int 7)) (dNil))))) (gNm 6)) (
    sSeq (sAsg (dCall F__law_made (dCons (dVar 5) (dCons (dVar 6) (dNil)))) (gNm 7)) (
    sSeq (sFor (iEnum (dCons (dVar 7) (dNil))) (gTup 2 (gCons (gNm 8) (gCons (gNm 9) (gNil)))) (l1_law)) (
    sSeq (sIf (dTest (dBin neU (dCall reprU (dCons (dCall F__law_fields (dCons (dVar 7) (dNil))) (dNil))) (dCall reprU (dCons (dBin (addD false) (dBin (addD false) (dBin (mulD false) (dLst false (dCons (dVar 5) (dNil))) (dC (.int 7))) (dLst false (dCons (dVar 6) (dNil)))) (dBin (mulD false) (dLst false (dCons (dVar 5) (dNil))) (dC (.int 5)))) (dNil))))) (sRet (dC (.bl false))) (sPass)) (
    sIf (dTest (dBin neU (dCall reprU (dCons (dCall F__law_fields (dCons (dCall F__law_named (dCons (dVar 5) (dCons (dVar 6) (dNil)))) (dNil))) (dNil))) (dCall reprU (dCons (dCall F__law_fields (dCons (dVar 7) (dNil))) (dNil))))) (sRet (dC (.bl false))) (sPass))))))))
def b_law : DS :=
  sSeq (sAsg (dBin (addD false) (dBin (addD false) (dBin (addD false) (dBin (addD false) (dBin (mulD false) (dLst false (dCons (dLst false (dCons (dC (.int 0)) (dNil))) (dNil))) (dC (.int 9))) (dLst false (dCons (dLst false (dCons (dC (.int 1)) (dCons (dC (.int 3)) (dNil)))) (dNil)))) (dBin (mulD false) (dLst false (dCons (dLst false (dCons (dC (.int 3)) (dNil))) (dNil))) (dC (.int 3)))) (dBin (mulD false) (dLst false (dCons (dLst false (dCons (dC (.int 4)) (dNil))) (dNil))) (dC (.int 2)))) (dBin (mulD false) (dLst false (dCons (dLst false (dCons (dC (.int 5)) (dNil))) (dNil))) (dC (.int 2)))) (gNm 1)) (
    sSeq (sFor (iRg1 (dCons (dCall maxO (dCons (dC (.int 1)) (dCons (dCall minO (dCons (dCall lenU (dCons (dVar 0) (dNil))) (dCons (dC (.int 10)) (dNil)))) (dNil)))) (dNil))) (gNm 2) (l2_law)) (
    sRet (dC (.bl true))))
def F_law : DFn := runF 1 11 b_law
end K04
end
/-! ==== K04W ==== -/
section
set_option Elab.async false
set_option linter.all false
set_option autoImplicit false
set_option maxRecDepth 100000
set_option maxHeartbeats 4000000
/-! K04: the walk. Printed by gen.py. -/
namespace K04
open PySem PySem.Spec PyProof.Rows L2 DL DF

def top (i : Nat) : Stmt := PySem.Challenge.pw_branchedhall_k04_refusals_apart.main.body.getD i (.Pass ⟨0, 0, 0, 0⟩)
abbrev s__law_pool : Stmt := top 19
abbrev n__law_pool : List Str := ["_law_script", "_law_k", "_law_cell", "_law_size", "_law_mixed"]
abbrev p__law_pool : List Str := ["_law_script", "_law_k"]
abbrev s__law_take : Stmt := top 20
abbrev n__law_take : List Str := ["_law_pool_here", "_law_most", "_law_found"]
abbrev p__law_take : List Str := ["_law_pool_here", "_law_most"]
abbrev s__law_own : Stmt := top 24
abbrev n__law_own : List Str := ["_law_error", "_law_found"]
abbrev p__law_own : List Str := ["_law_error"]
abbrev s__law_roots : Stmt := top 25
abbrev n__law_roots : List Str := ["_law_error", "_law_found", "_law_k"]
abbrev p__law_roots : List Str := ["_law_error"]
abbrev s__law_fields : Stmt := top 26
abbrev n__law_fields : List Str := ["_law_some", "_law_found"]
abbrev p__law_fields : List Str := ["_law_some"]
abbrev s__law_letters : Stmt := top 21
abbrev n__law_letters : List Str := ["_law_pool_here", "_law_most", "_law_letters_here", "_law_turn"]
abbrev p__law_letters : List Str := ["_law_pool_here", "_law_most"]
abbrev s__law_made : Stmt := top 22
abbrev n__law_made : List Str := ["_law_one", "_law_other", "_law_found"]
abbrev p__law_made : List Str := ["_law_one", "_law_other"]
abbrev s__law_named : Stmt := top 23
abbrev n__law_named : List Str := ["_law_one", "_law_other", "_law_found"]
abbrev p__law_named : List Str := ["_law_one", "_law_other"]
abbrev s_law : Stmt := top 27
abbrev n_law : List Str := ["_law_script", "_law_dues", "_law_k", "_law_pool_here", "_law_things", "_law_one", "_law_other", "_law_some", "_law_at", "_law_error", "_law_own_here"]
abbrev p_law : List Str := ["_law_script"]
theorem et_NoDeed : eTab "NoDeed" = some (Bs.ve, (["part"] : List Str)) := by decide +kernel
abbrev sE_NoDeed : Stmt := inClass (top 1) 0
theorem scE_NoDeed : FnScope ["self", "part"] ["self", "part"] (defScope sE_NoDeed) := ⟨rfl, rfl, rfl, by decide +kernel, rfl, by decide +kernel, by decide +kernel⟩
theorem initE_NoDeed {P : Program} {w : World} {K : PySem.W.Frag} {mg : Str → Option Value} {base : Heap} {f : Addr} {fd : FuncData} {qual : Str} (F : Fun K "__init__" qual sE_NoDeed f fd) (gV : mg "ValueError" = none)
    (vV : PySem.W.findCls K (.type "ValueError") (.type "type") "__init__" = some (.val (.builtin "ValueError.__init__"))) : FnOk P w K mg base CX0 1 f fd ["self", "part"] (spG1 K .ve "part") := by
  refine F.ok scE_NoDeed spG1_len fun cdv A outer s H vs Q E hr h => ?_
  obtain ⟨a, C, v, rfl, T, hf, ea, k⟩ := h
  refine ⟨_, pss_cons (ps_expr (pe_bini (b := .ve) rfl rfl gV vV (pa_cons (pv 0) (pa_cons pe_str pa_nil)))) (pss_one (ps_og (b := .ve) (pv 0) (pv 1))), ?_⟩
  refine ⟨.ref a, rfl, a, C, _, rfl, (show 1 ≤ 1000 by decide), T, ea, ?_⟩
  refine ⟨v, rfl, .ref a, rfl, a, C, rfl, T, hf, .inl ⟨ea, fun dx hd na => ?_⟩⟩
  exact k dx hd na
theorem et_NoText : eTab "NoText" = some (Bs.ve, (["part"] : List Str)) := by decide +kernel
abbrev sE_NoText : Stmt := inClass (top 2) 0
theorem scE_NoText : FnScope ["self", "part"] ["self", "part"] (defScope sE_NoText) := ⟨rfl, rfl, rfl, by decide +kernel, rfl, by decide +kernel, by decide +kernel⟩
theorem initE_NoText {P : Program} {w : World} {K : PySem.W.Frag} {mg : Str → Option Value} {base : Heap} {f : Addr} {fd : FuncData} {qual : Str} (F : Fun K "__init__" qual sE_NoText f fd) (gV : mg "ValueError" = none)
    (vV : PySem.W.findCls K (.type "ValueError") (.type "type") "__init__" = some (.val (.builtin "ValueError.__init__"))) : FnOk P w K mg base CX0 1 f fd ["self", "part"] (spG1 K .ve "part") := by
  refine F.ok scE_NoText spG1_len fun cdv A outer s H vs Q E hr h => ?_
  obtain ⟨a, C, v, rfl, T, hf, ea, k⟩ := h
  refine ⟨_, pss_cons (ps_expr (pe_bini (b := .ve) rfl rfl gV vV (pa_cons (pv 0) (pa_cons pe_str pa_nil)))) (pss_one (ps_og (b := .ve) (pv 0) (pv 1))), ?_⟩
  refine ⟨.ref a, rfl, a, C, _, rfl, (show 1 ≤ 1000 by decide), T, ea, ?_⟩
  refine ⟨v, rfl, .ref a, rfl, a, C, rfl, T, hf, .inl ⟨ea, fun dx hd na => ?_⟩⟩
  exact k dx hd na
theorem et_NoStates : eTab "NoStates" = some (Bs.ve, (["number"] : List Str)) := by decide +kernel
abbrev sE_NoStates : Stmt := inClass (top 3) 0
theorem scE_NoStates : FnScope ["self", "number"] ["self", "number"] (defScope sE_NoStates) := ⟨rfl, rfl, rfl, by decide +kernel, rfl, by decide +kernel, by decide +kernel⟩
theorem initE_NoStates {P : Program} {w : World} {K : PySem.W.Frag} {mg : Str → Option Value} {base : Heap} {f : Addr} {fd : FuncData} {qual : Str} (F : Fun K "__init__" qual sE_NoStates f fd) (gV : mg "ValueError" = none)
    (vV : PySem.W.findCls K (.type "ValueError") (.type "type") "__init__" = some (.val (.builtin "ValueError.__init__"))) : FnOk P w K mg base CX0 1 f fd ["self", "number"] (spG1 K .ve "number") := by
  refine F.ok scE_NoStates spG1_len fun cdv A outer s H vs Q E hr h => ?_
  obtain ⟨a, C, v, rfl, T, hf, ea, k⟩ := h
  refine ⟨_, pss_cons (ps_expr (pe_bini (b := .ve) rfl rfl gV vV (pa_cons (pv 0) (pa_cons pe_str pa_nil)))) (pss_one (ps_og (b := .ve) (pv 0) (pv 1))), ?_⟩
  refine ⟨.ref a, rfl, a, C, _, rfl, (show 1 ≤ 1000 by decide), T, ea, ?_⟩
  refine ⟨v, rfl, .ref a, rfl, a, C, rfl, T, hf, .inl ⟨ea, fun dx hd na => ?_⟩⟩
  exact k dx hd na
theorem et_NoPaper : eTab "NoPaper" = some (Bs.ve, ([] : List Str)) := by decide +kernel
theorem et_NoBegin : eTab "NoBegin" = some (Bs.ve, ([] : List Str)) := by decide +kernel
theorem et_NoRow : eTab "NoRow" = some (Bs.ve, (["number"] : List Str)) := by decide +kernel
abbrev sE_NoRow : Stmt := inClass (top 6) 0
theorem scE_NoRow : FnScope ["self", "number"] ["self", "number"] (defScope sE_NoRow) := ⟨rfl, rfl, rfl, by decide +kernel, rfl, by decide +kernel, by decide +kernel⟩
theorem initE_NoRow {P : Program} {w : World} {K : PySem.W.Frag} {mg : Str → Option Value} {base : Heap} {f : Addr} {fd : FuncData} {qual : Str} (F : Fun K "__init__" qual sE_NoRow f fd) (gV : mg "ValueError" = none)
    (vV : PySem.W.findCls K (.type "ValueError") (.type "type") "__init__" = some (.val (.builtin "ValueError.__init__"))) : FnOk P w K mg base CX0 1 f fd ["self", "number"] (spG1 K .ve "number") := by
  refine F.ok scE_NoRow spG1_len fun cdv A outer s H vs Q E hr h => ?_
  obtain ⟨a, C, v, rfl, T, hf, ea, k⟩ := h
  refine ⟨_, pss_cons (ps_expr (pe_bini (b := .ve) rfl rfl gV vV (pa_cons (pv 0) (pa_cons pe_str pa_nil)))) (pss_one (ps_og (b := .ve) (pv 0) (pv 1))), ?_⟩
  refine ⟨.ref a, rfl, a, C, _, rfl, (show 1 ≤ 1000 by decide), T, ea, ?_⟩
  refine ⟨v, rfl, .ref a, rfl, a, C, rfl, T, hf, .inl ⟨ea, fun dx hd na => ?_⟩⟩
  exact k dx hd na
theorem et_NoHouse : eTab "NoHouse" = some (Bs.ve, (["house"] : List Str)) := by decide +kernel
abbrev sE_NoHouse : Stmt := inClass (top 7) 0
theorem scE_NoHouse : FnScope ["self", "house"] ["self", "house"] (defScope sE_NoHouse) := ⟨rfl, rfl, rfl, by decide +kernel, rfl, by decide +kernel, by decide +kernel⟩
theorem initE_NoHouse {P : Program} {w : World} {K : PySem.W.Frag} {mg : Str → Option Value} {base : Heap} {f : Addr} {fd : FuncData} {qual : Str} (F : Fun K "__init__" qual sE_NoHouse f fd) (gV : mg "ValueError" = none)
    (vV : PySem.W.findCls K (.type "ValueError") (.type "type") "__init__" = some (.val (.builtin "ValueError.__init__"))) : FnOk P w K mg base CX0 1 f fd ["self", "house"] (spG1 K .ve "house") := by
  refine F.ok scE_NoHouse spG1_len fun cdv A outer s H vs Q E hr h => ?_
  obtain ⟨a, C, v, rfl, T, hf, ea, k⟩ := h
  refine ⟨_, pss_cons (ps_expr (pe_bini (b := .ve) rfl rfl gV vV (pa_cons (pv 0) (pa_cons pe_str pa_nil)))) (pss_one (ps_og (b := .ve) (pv 0) (pv 1))), ?_⟩
  refine ⟨.ref a, rfl, a, C, _, rfl, (show 1 ≤ 1000 by decide), T, ea, ?_⟩
  refine ⟨v, rfl, .ref a, rfl, a, C, rfl, T, hf, .inl ⟨ea, fun dx hd na => ?_⟩⟩
  exact k dx hd na
theorem et_NoHouses : eTab "NoHouses" = some (Bs.ve, (["number"] : List Str)) := by decide +kernel
abbrev sE_NoHouses : Stmt := inClass (top 8) 0
theorem scE_NoHouses : FnScope ["self", "number"] ["self", "number"] (defScope sE_NoHouses) := ⟨rfl, rfl, rfl, by decide +kernel, rfl, by decide +kernel, by decide +kernel⟩
theorem initE_NoHouses {P : Program} {w : World} {K : PySem.W.Frag} {mg : Str → Option Value} {base : Heap} {f : Addr} {fd : FuncData} {qual : Str} (F : Fun K "__init__" qual sE_NoHouses f fd) (gV : mg "ValueError" = none)
    (vV : PySem.W.findCls K (.type "ValueError") (.type "type") "__init__" = some (.val (.builtin "ValueError.__init__"))) : FnOk P w K mg base CX0 1 f fd ["self", "number"] (spG1 K .ve "number") := by
  refine F.ok scE_NoHouses spG1_len fun cdv A outer s H vs Q E hr h => ?_
  obtain ⟨a, C, v, rfl, T, hf, ea, k⟩ := h
  refine ⟨_, pss_cons (ps_expr (pe_bini (b := .ve) rfl rfl gV vV (pa_cons (pv 0) (pa_cons pe_str pa_nil)))) (pss_one (ps_og (b := .ve) (pv 0) (pv 1))), ?_⟩
  refine ⟨.ref a, rfl, a, C, _, rfl, (show 1 ≤ 1000 by decide), T, ea, ?_⟩
  refine ⟨v, rfl, .ref a, rfl, a, C, rfl, T, hf, .inl ⟨ea, fun dx hd na => ?_⟩⟩
  exact k dx hd na
theorem et_Barred : eTab "Barred" = some (Bs.ve, (["where", "rule"] : List Str)) := by decide +kernel
abbrev sE_Barred : Stmt := inClass (top 9) 0
theorem scE_Barred : FnScope ["self", "where", "rule"] ["self", "where", "rule"] (defScope sE_Barred) := ⟨rfl, rfl, rfl, by decide +kernel, rfl, by decide +kernel, by decide +kernel⟩
theorem initE_Barred {P : Program} {w : World} {K : PySem.W.Frag} {mg : Str → Option Value} {base : Heap} {f : Addr} {fd : FuncData} {qual : Str} (F : Fun K "__init__" qual sE_Barred f fd) (gV : mg "ValueError" = none)
    (vV : PySem.W.findCls K (.type "ValueError") (.type "type") "__init__" = some (.val (.builtin "ValueError.__init__"))) : FnOk P w K mg base CX0 1 f fd ["self", "where", "rule"] (spG2 K .ve "where" "rule") := by
  refine F.ok scE_Barred spG2_len fun cdv A outer s H vs Q E hr h => ?_
  obtain ⟨a, C, v, w, rfl, T, hf, hg, ea, k⟩ := h
  refine ⟨_, pss_cons (ps_expr (pe_bini (b := .ve) rfl rfl gV vV (pa_cons (pv 0) (pa_cons pe_str pa_nil)))) (pss_cons (ps_og (b := .ve) (pv 0) (pv 1)) (pss_one (ps_og (b := .ve) (pv 0) (pv 2)))), ?_⟩
  refine ⟨.ref a, rfl, a, C, _, rfl, (show 1 ≤ 1000 by decide), T, ea, ?_⟩
  refine ⟨v, rfl, .ref a, rfl, a, C, rfl, T, hf, .inl ⟨ea, fun dx hd na => ?_⟩⟩
  exact ⟨w, rfl, .ref a, rfl, a, C, rfl, T, hg, .inr ⟨dx, [("where", v)], upd_same, by rw [upd_ne na]; exact upd_same, (show 1 ≤ 900 by decide), k dx hd na⟩⟩
theorem et_NoName : eTab "NoName" = some (Bs.ke, (["name"] : List Str)) := by decide +kernel
abbrev sE_NoName : Stmt := inClass (top 10) 0
theorem scE_NoName : FnScope ["self", "name"] ["self", "name"] (defScope sE_NoName) := ⟨rfl, rfl, rfl, by decide +kernel, rfl, by decide +kernel, by decide +kernel⟩
theorem initE_NoName {P : Program} {w : World} {K : PySem.W.Frag} {mg : Str → Option Value} {base : Heap} {f : Addr} {fd : FuncData} {qual : Str} (F : Fun K "__init__" qual sE_NoName f fd) (gV : mg "KeyError" = none)
    (vV : PySem.W.findCls K (.type "KeyError") (.type "type") "__init__" = some (.val (.builtin "KeyError.__init__"))) : FnOk P w K mg base CX0 1 f fd ["self", "name"] (spG1 K .ke "name") := by
  refine F.ok scE_NoName spG1_len fun cdv A outer s H vs Q E hr h => ?_
  obtain ⟨a, C, v, rfl, T, hf, ea, k⟩ := h
  refine ⟨_, pss_cons (ps_expr (pe_bini (b := .ke) rfl rfl gV vV (pa_cons (pv 0) (pa_cons pe_str pa_nil)))) (pss_one (ps_og (b := .ke) (pv 0) (pv 1))), ?_⟩
  refine ⟨.ref a, rfl, a, C, _, rfl, (show 1 ≤ 1000 by decide), T, ea, ?_⟩
  refine ⟨v, rfl, .ref a, rfl, a, C, rfl, T, hf, .inl ⟨ea, fun dx hd na => ?_⟩⟩
  exact k dx hd na
theorem et_NoState : eTab "NoState" = some (Bs.le, (["name"] : List Str)) := by decide +kernel
abbrev sE_NoState : Stmt := inClass (top 11) 0
theorem scE_NoState : FnScope ["self", "name"] ["self", "name"] (defScope sE_NoState) := ⟨rfl, rfl, rfl, by decide +kernel, rfl, by decide +kernel, by decide +kernel⟩
theorem initE_NoState {P : Program} {w : World} {K : PySem.W.Frag} {mg : Str → Option Value} {base : Heap} {f : Addr} {fd : FuncData} {qual : Str} (F : Fun K "__init__" qual sE_NoState f fd) (gV : mg "LookupError" = none)
    (vV : PySem.W.findCls K (.type "LookupError") (.type "type") "__init__" = some (.val (.builtin "LookupError.__init__"))) : FnOk P w K mg base CX0 1 f fd ["self", "name"] (spG1 K .le "name") := by
  refine F.ok scE_NoState spG1_len fun cdv A outer s H vs Q E hr h => ?_
  obtain ⟨a, C, v, rfl, T, hf, ea, k⟩ := h
  refine ⟨_, pss_cons (ps_expr (pe_bini (b := .le) rfl rfl gV vV (pa_cons (pv 0) (pa_cons pe_str pa_nil)))) (pss_one (ps_og (b := .le) (pv 0) (pv 1))), ?_⟩
  refine ⟨.ref a, rfl, a, C, _, rfl, (show 1 ≤ 1000 by decide), T, ea, ?_⟩
  refine ⟨v, rfl, .ref a, rfl, a, C, rfl, T, hf, .inl ⟨ea, fun dx hd na => ?_⟩⟩
  exact k dx hd na
theorem et_NoGoing : eTab "NoGoing" = some (Bs.le, (["name"] : List Str)) := by decide +kernel
abbrev sE_NoGoing : Stmt := inClass (top 12) 0
theorem scE_NoGoing : FnScope ["self", "name"] ["self", "name"] (defScope sE_NoGoing) := ⟨rfl, rfl, rfl, by decide +kernel, rfl, by decide +kernel, by decide +kernel⟩
theorem initE_NoGoing {P : Program} {w : World} {K : PySem.W.Frag} {mg : Str → Option Value} {base : Heap} {f : Addr} {fd : FuncData} {qual : Str} (F : Fun K "__init__" qual sE_NoGoing f fd) (gV : mg "LookupError" = none)
    (vV : PySem.W.findCls K (.type "LookupError") (.type "type") "__init__" = some (.val (.builtin "LookupError.__init__"))) : FnOk P w K mg base CX0 1 f fd ["self", "name"] (spG1 K .le "name") := by
  refine F.ok scE_NoGoing spG1_len fun cdv A outer s H vs Q E hr h => ?_
  obtain ⟨a, C, v, rfl, T, hf, ea, k⟩ := h
  refine ⟨_, pss_cons (ps_expr (pe_bini (b := .le) rfl rfl gV vV (pa_cons (pv 0) (pa_cons pe_str pa_nil)))) (pss_one (ps_og (b := .le) (pv 0) (pv 1))), ?_⟩
  refine ⟨.ref a, rfl, a, C, _, rfl, (show 1 ≤ 1000 by decide), T, ea, ?_⟩
  refine ⟨v, rfl, .ref a, rfl, a, C, rfl, T, hf, .inl ⟨ea, fun dx hd na => ?_⟩⟩
  exact k dx hd na
theorem et_NoHall : eTab "NoHall" = some (Bs.le, ([] : List Str)) := by decide +kernel
theorem et_Full : eTab "Full" = some (Bs.oe, ([] : List Str)) := by decide +kernel
theorem et_TooMany : eTab "TooMany" = some (Bs.oe, (["many"] : List Str)) := by decide +kernel
abbrev sE_TooMany : Stmt := inClass (top 15) 0
theorem scE_TooMany : FnScope ["self", "many"] ["self", "many"] (defScope sE_TooMany) := ⟨rfl, rfl, rfl, by decide +kernel, rfl, by decide +kernel, by decide +kernel⟩
theorem initE_TooMany {P : Program} {w : World} {K : PySem.W.Frag} {mg : Str → Option Value} {base : Heap} {f : Addr} {fd : FuncData} {qual : Str} (F : Fun K "__init__" qual sE_TooMany f fd) (gV : mg "OverflowError" = none)
    (vV : PySem.W.findCls K (.type "OverflowError") (.type "type") "__init__" = some (.val (.builtin "OverflowError.__init__"))) : FnOk P w K mg base CX0 1 f fd ["self", "many"] (spG1 K .oe "many") := by
  refine F.ok scE_TooMany spG1_len fun cdv A outer s H vs Q E hr h => ?_
  obtain ⟨a, C, v, rfl, T, hf, ea, k⟩ := h
  refine ⟨_, pss_cons (ps_expr (pe_bini (b := .oe) rfl rfl gV vV (pa_cons (pv 0) (pa_cons pe_str pa_nil)))) (pss_one (ps_og (b := .oe) (pv 0) (pv 1))), ?_⟩
  refine ⟨.ref a, rfl, a, C, _, rfl, (show 1 ≤ 1000 by decide), T, ea, ?_⟩
  refine ⟨v, rfl, .ref a, rfl, a, C, rfl, T, hf, .inl ⟨ea, fun dx hd na => ?_⟩⟩
  exact k dx hd na
theorem et_Twin : eTab "Twin" = some (Bs.re, (["name"] : List Str)) := by decide +kernel
abbrev sE_Twin : Stmt := inClass (top 16) 0
theorem scE_Twin : FnScope ["self", "name"] ["self", "name"] (defScope sE_Twin) := ⟨rfl, rfl, rfl, by decide +kernel, rfl, by decide +kernel, by decide +kernel⟩
theorem initE_Twin {P : Program} {w : World} {K : PySem.W.Frag} {mg : Str → Option Value} {base : Heap} {f : Addr} {fd : FuncData} {qual : Str} (F : Fun K "__init__" qual sE_Twin f fd) (gV : mg "RuntimeError" = none)
    (vV : PySem.W.findCls K (.type "RuntimeError") (.type "type") "__init__" = some (.val (.builtin "RuntimeError.__init__"))) : FnOk P w K mg base CX0 1 f fd ["self", "name"] (spG1 K .re "name") := by
  refine F.ok scE_Twin spG1_len fun cdv A outer s H vs Q E hr h => ?_
  obtain ⟨a, C, v, rfl, T, hf, ea, k⟩ := h
  refine ⟨_, pss_cons (ps_expr (pe_bini (b := .re) rfl rfl gV vV (pa_cons (pv 0) (pa_cons pe_str pa_nil)))) (pss_one (ps_og (b := .re) (pv 0) (pv 1))), ?_⟩
  refine ⟨.ref a, rfl, a, C, _, rfl, (show 1 ≤ 1000 by decide), T, ea, ?_⟩
  refine ⟨v, rfl, .ref a, rfl, a, C, rfl, T, hf, .inl ⟨ea, fun dx hd na => ?_⟩⟩
  exact k dx hd na
theorem et_Busy : eTab "Busy" = some (Bs.re, ([] : List Str)) := by decide +kernel
structure Tx (K : PySem.W.Frag) (mg : Str → Option Value) : Prop where
  d__law_pool : DRaw K mg "_law_pool" s__law_pool p__law_pool
  d__law_take : DRaw K mg "_law_take" s__law_take p__law_take
  d__law_own : DRaw K mg "_law_own" s__law_own p__law_own
  d__law_roots : DRaw K mg "_law_roots" s__law_roots p__law_roots
  d__law_fields : DRaw K mg "_law_fields" s__law_fields p__law_fields
  d__law_letters : DRaw K mg "_law_letters" s__law_letters p__law_letters
  d__law_made : DRaw K mg "_law_made" s__law_made p__law_made
  d__law_named : DRaw K mg "_law_named" s__law_named p__law_named
  d_law : DRaw K mg "law" s_law p_law
  b_IndexError : mg "IndexError" = none
  b_KeyError : mg "KeyError" = none
  b_LookupError : mg "LookupError" = none
  b_OverflowError : mg "OverflowError" = none
  b_RuntimeError : mg "RuntimeError" = none
  b_ValueError : mg "ValueError" = none
  b_enumerate : mg "enumerate" = none
  b_int : mg "int" = none
  b_isinstance : mg "isinstance" = none
  b_len : mg "len" = none
  b_max : mg "max" = none
  b_min : mg "min" = none
  b_range : mg "range" = none
  b_repr : mg "repr" = none
  e_NoDeed : EcRaw K mg "NoDeed" .ve ["part"] ["self", "part"] ["part"] [0] sE_NoDeed
  e_NoText : EcRaw K mg "NoText" .ve ["part"] ["self", "part"] ["part"] [0] sE_NoText
  e_NoStates : EcRaw K mg "NoStates" .ve ["number"] ["self", "number"] ["number"] [0] sE_NoStates
  e_NoPaper : Ec0 K mg "NoPaper" .ve
  e_NoBegin : Ec0 K mg "NoBegin" .ve
  e_NoRow : EcRaw K mg "NoRow" .ve ["number"] ["self", "number"] ["number"] [0] sE_NoRow
  e_NoHouse : EcRaw K mg "NoHouse" .ve ["house"] ["self", "house"] ["house"] [0] sE_NoHouse
  e_NoHouses : EcRaw K mg "NoHouses" .ve ["number"] ["self", "number"] ["number"] [0] sE_NoHouses
  e_Barred : EcRaw K mg "Barred" .ve ["where", "rule"] ["self", "where", "rule"] ["rule", "where"] [1, 0] sE_Barred
  e_NoName : EcRaw K mg "NoName" .ke ["name"] ["self", "name"] ["name"] [0] sE_NoName
  e_NoState : EcRaw K mg "NoState" .le ["name"] ["self", "name"] ["name"] [0] sE_NoState
  e_NoGoing : EcRaw K mg "NoGoing" .le ["name"] ["self", "name"] ["name"] [0] sE_NoGoing
  e_NoHall : Ec0 K mg "NoHall" .le
  e_Full : Ec0 K mg "Full" .oe
  e_TooMany : EcRaw K mg "TooMany" .oe ["many"] ["self", "many"] ["many"] [0] sE_TooMany
  e_Twin : EcRaw K mg "Twin" .re ["name"] ["self", "name"] ["name"] [0] sE_Twin
  e_Busy : Ec0 K mg "Busy" .re
  v_KeyError : PySem.W.findCls K (.type "KeyError") (.type "type") "__init__" = some (.val (.builtin "KeyError.__init__"))
  v_LookupError : PySem.W.findCls K (.type "LookupError") (.type "type") "__init__" = some (.val (.builtin "LookupError.__init__"))
  v_OverflowError : PySem.W.findCls K (.type "OverflowError") (.type "type") "__init__" = some (.val (.builtin "OverflowError.__init__"))
  v_RuntimeError : PySem.W.findCls K (.type "RuntimeError") (.type "type") "__init__" = some (.val (.builtin "RuntimeError.__init__"))
  v_ValueError : PySem.W.findCls K (.type "ValueError") (.type "type") "__init__" = some (.val (.builtin "ValueError.__init__"))
section
variable {P : Program} {w : World} {K : PySem.W.Frag} {mg : Str → Option Value} {base : Heap}
theorem ei_NoDeed (T : Tx K mg) {X : Cx} (hK : X.K = K) (hmg : X.mg = mg) : EcI X "NoDeed" .ve ["part"] ["self", "part"] ["part"] [0] (spG1 X.K .ve "part") := by
  subst hK hmg
  exact T.e_NoDeed.made fun F => initE_NoDeed F T.b_ValueError T.v_ValueError
theorem ei_NoText (T : Tx K mg) {X : Cx} (hK : X.K = K) (hmg : X.mg = mg) : EcI X "NoText" .ve ["part"] ["self", "part"] ["part"] [0] (spG1 X.K .ve "part") := by
  subst hK hmg
  exact T.e_NoText.made fun F => initE_NoText F T.b_ValueError T.v_ValueError
theorem ei_NoStates (T : Tx K mg) {X : Cx} (hK : X.K = K) (hmg : X.mg = mg) : EcI X "NoStates" .ve ["number"] ["self", "number"] ["number"] [0] (spG1 X.K .ve "number") := by
  subst hK hmg
  exact T.e_NoStates.made fun F => initE_NoStates F T.b_ValueError T.v_ValueError
theorem ei_NoRow (T : Tx K mg) {X : Cx} (hK : X.K = K) (hmg : X.mg = mg) : EcI X "NoRow" .ve ["number"] ["self", "number"] ["number"] [0] (spG1 X.K .ve "number") := by
  subst hK hmg
  exact T.e_NoRow.made fun F => initE_NoRow F T.b_ValueError T.v_ValueError
theorem ei_NoHouse (T : Tx K mg) {X : Cx} (hK : X.K = K) (hmg : X.mg = mg) : EcI X "NoHouse" .ve ["house"] ["self", "house"] ["house"] [0] (spG1 X.K .ve "house") := by
  subst hK hmg
  exact T.e_NoHouse.made fun F => initE_NoHouse F T.b_ValueError T.v_ValueError
theorem ei_NoHouses (T : Tx K mg) {X : Cx} (hK : X.K = K) (hmg : X.mg = mg) : EcI X "NoHouses" .ve ["number"] ["self", "number"] ["number"] [0] (spG1 X.K .ve "number") := by
  subst hK hmg
  exact T.e_NoHouses.made fun F => initE_NoHouses F T.b_ValueError T.v_ValueError
theorem ei_Barred (T : Tx K mg) {X : Cx} (hK : X.K = K) (hmg : X.mg = mg) : EcI X "Barred" .ve ["where", "rule"] ["self", "where", "rule"] ["rule", "where"] [1, 0] (spG2 X.K .ve "where" "rule") := by
  subst hK hmg
  exact T.e_Barred.made fun F => initE_Barred F T.b_ValueError T.v_ValueError
theorem ei_NoName (T : Tx K mg) {X : Cx} (hK : X.K = K) (hmg : X.mg = mg) : EcI X "NoName" .ke ["name"] ["self", "name"] ["name"] [0] (spG1 X.K .ke "name") := by
  subst hK hmg
  exact T.e_NoName.made fun F => initE_NoName F T.b_KeyError T.v_KeyError
theorem ei_NoState (T : Tx K mg) {X : Cx} (hK : X.K = K) (hmg : X.mg = mg) : EcI X "NoState" .le ["name"] ["self", "name"] ["name"] [0] (spG1 X.K .le "name") := by
  subst hK hmg
  exact T.e_NoState.made fun F => initE_NoState F T.b_LookupError T.v_LookupError
theorem ei_NoGoing (T : Tx K mg) {X : Cx} (hK : X.K = K) (hmg : X.mg = mg) : EcI X "NoGoing" .le ["name"] ["self", "name"] ["name"] [0] (spG1 X.K .le "name") := by
  subst hK hmg
  exact T.e_NoGoing.made fun F => initE_NoGoing F T.b_LookupError T.v_LookupError
theorem ei_TooMany (T : Tx K mg) {X : Cx} (hK : X.K = K) (hmg : X.mg = mg) : EcI X "TooMany" .oe ["many"] ["self", "many"] ["many"] [0] (spG1 X.K .oe "many") := by
  subst hK hmg
  exact T.e_TooMany.made fun F => initE_TooMany F T.b_OverflowError T.v_OverflowError
theorem ei_Twin (T : Tx K mg) {X : Cx} (hK : X.K = K) (hmg : X.mg = mg) : EcI X "Twin" .re ["name"] ["self", "name"] ["name"] [0] (spG1 X.K .re "name") := by
  subst hK hmg
  exact T.e_Twin.made fun F => initE_Twin F T.b_RuntimeError T.v_RuntimeError
theorem ecT (T : Tx K mg) : EcT K mg eTab := by
  intro nm b fl h
  unfold eTab at h
  by_cases c0 : nm = "NoDeed"
  · rw [if_pos c0] at h; cases h; subst c0; exact T.e_NoDeed.cls
  rw [if_neg c0] at h
  by_cases c1 : nm = "NoText"
  · rw [if_pos c1] at h; cases h; subst c1; exact T.e_NoText.cls
  rw [if_neg c1] at h
  by_cases c2 : nm = "NoStates"
  · rw [if_pos c2] at h; cases h; subst c2; exact T.e_NoStates.cls
  rw [if_neg c2] at h
  by_cases c3 : nm = "NoPaper"
  · rw [if_pos c3] at h; cases h; subst c3; exact T.e_NoPaper.cls
  rw [if_neg c3] at h
  by_cases c4 : nm = "NoBegin"
  · rw [if_pos c4] at h; cases h; subst c4; exact T.e_NoBegin.cls
  rw [if_neg c4] at h
  by_cases c5 : nm = "NoRow"
  · rw [if_pos c5] at h; cases h; subst c5; exact T.e_NoRow.cls
  rw [if_neg c5] at h
  by_cases c6 : nm = "NoHouse"
  · rw [if_pos c6] at h; cases h; subst c6; exact T.e_NoHouse.cls
  rw [if_neg c6] at h
  by_cases c7 : nm = "NoHouses"
  · rw [if_pos c7] at h; cases h; subst c7; exact T.e_NoHouses.cls
  rw [if_neg c7] at h
  by_cases c8 : nm = "Barred"
  · rw [if_pos c8] at h; cases h; subst c8; exact T.e_Barred.cls
  rw [if_neg c8] at h
  by_cases c9 : nm = "NoName"
  · rw [if_pos c9] at h; cases h; subst c9; exact T.e_NoName.cls
  rw [if_neg c9] at h
  by_cases c10 : nm = "NoState"
  · rw [if_pos c10] at h; cases h; subst c10; exact T.e_NoState.cls
  rw [if_neg c10] at h
  by_cases c11 : nm = "NoGoing"
  · rw [if_pos c11] at h; cases h; subst c11; exact T.e_NoGoing.cls
  rw [if_neg c11] at h
  by_cases c12 : nm = "NoHall"
  · rw [if_pos c12] at h; cases h; subst c12; exact T.e_NoHall.cls
  rw [if_neg c12] at h
  by_cases c13 : nm = "Full"
  · rw [if_pos c13] at h; cases h; subst c13; exact T.e_Full.cls
  rw [if_neg c13] at h
  by_cases c14 : nm = "TooMany"
  · rw [if_pos c14] at h; cases h; subst c14; exact T.e_TooMany.cls
  rw [if_neg c14] at h
  by_cases c15 : nm = "Twin"
  · rw [if_pos c15] at h; cases h; subst c15; exact T.e_Twin.cls
  rw [if_neg c15] at h
  by_cases c16 : nm = "Busy"
  · rw [if_pos c16] at h; cases h; subst c16; exact T.e_Busy.cls
  rw [if_neg c16] at h
  cases h
theorem sc__law_pool : FnScope n__law_pool p__law_pool (defScope s__law_pool) := ⟨rfl, rfl, rfl, by decide +kernel, rfl, by decide +kernel, by decide +kernel⟩
theorem ok__law_pool (T : Tx K mg) {f : Addr} {fd : FuncData} (F : Fun K "_law_pool" "_law_pool" s__law_pool f fd) : DFok P w K mg base CX0 1 f fd p__law_pool F__law_pool :=
  dfn_mk F sc__law_pool fun cdv A outer s H E hr =>
    dss_cons (ds_set 2 sc__law_pool.nd (de_int)) (
    dss_cons (ds_if (dt_cmp op_ltD (de_var 1) (de_callB call_lenO (by rfl) T.b_len (by rfl) (da_cons (de_var 0) (da_nil))) (nomark _)) (dss_one (ds_set 2 sc__law_pool.nd (de_ix (de_var 0) (de_var 1)))) (dss_nil)) (
    dss_cons (ds_set 3 sc__law_pool.nd (de_callB (call_maxO (by rfl)) (by rfl) T.b_max (by rfl) (da_cons (de_var 2) (da_cons (de_bin op_subD (de_neg (de_int)) (de_var 2)) (da_nil))))) (
    dss_cons (ds_set 4 sc__law_pool.nd (de_bin op_modD (de_bin (op_mulD false) (de_bin (op_addD false) (de_bin (op_addD false) (de_bin (op_addD false) (de_bin op_modD (de_var 3) (de_int)) (de_bin (op_mulD false) (de_bin (op_mulD false) (de_int) (de_var 1)) (de_var 1))) (de_bin (op_mulD false) (de_int) (de_var 1))) (de_int)) (de_int)) (de_int))) (
    dss_one (ds_ret (de_lst true (da_cons (de_bin (op_mulD false) (de_var 3) (de_callTy call_intO (by rfl) T.b_int (by rfl) (da_cons (de_cmp op_geD (de_var 3) (de_bin op_powD (de_int) (de_int)) (nomark _)) (da_nil)))) (da_cons (de_var 4) (da_nil)))))))))
theorem dd__law_pool (T : Tx K mg) : DDef P w K mg base 1 "_law_pool" s__law_pool p__law_pool F__law_pool := T.d__law_pool.made (ok__law_pool T)
theorem sc__law_take : FnScope n__law_take p__law_take (defScope s__law_take) := ⟨rfl, rfl, rfl, by decide +kernel, rfl, by decide +kernel, by decide +kernel⟩
theorem ok__law_take (T : Tx K mg) {f : Addr} {fd : FuncData} (F : Fun K "_law_take" "_law_take" s__law_take f fd) : DFok P w K mg base CX0 1 f fd p__law_take F__law_take :=
  dfn_mk F sc__law_take fun cdv A outer s H E hr =>
    dss_cons (ds_if (dt_cmp op_gtD (de_ix (de_var 0) (de_int)) (de_int) (nomark _)) (dss_cons (ds_set 2 sc__law_take.nd (de_bin op_modD (de_ix (de_var 0) (de_int)) (de_var 1))) (
    dss_cons (ds_asg (de_bin op_fdivD (de_ix (de_var 0) (de_int)) (de_var 1)) (dg_sub (de_var 0) (de_int) st_setL (by intro _; rfl))) (
    dss_one (ds_ret (de_var 2))))) (dss_nil)) (
    dss_cons (ds_asg (de_bin op_modD (de_bin (op_addD false) (de_bin (op_mulD false) (de_ix (de_var 0) (de_int)) (de_int)) (de_int)) (de_int)) (dg_sub (de_var 0) (de_int) st_setL (by intro _; rfl))) (
    dss_one (ds_ret (de_bin op_modD (de_bin op_fdivD (de_bin op_modD (de_bin (op_mulD false) (de_ix (de_var 0) (de_int)) (de_ix (de_var 0) (de_int))) (de_int)) (de_int)) (de_var 1)))))
theorem dd__law_take (T : Tx K mg) : DDef P w K mg base 1 "_law_take" s__law_take p__law_take F__law_take := T.d__law_take.made (ok__law_take T)
theorem sc__law_own : FnScope n__law_own p__law_own (defScope s__law_own) := ⟨rfl, rfl, rfl, by decide +kernel, rfl, by decide +kernel, by decide +kernel⟩
theorem ok__law_own (T : Tx K mg) {f : Addr} {fd : FuncData} (F : Fun K "_law_own" "_law_own" s__law_own f fd) : DFok P w K mg base CX0 1 f fd p__law_own F__law_own :=
  dfn_mk F sc__law_own fun cdv A outer s H E hr =>
    dss_cons (ds_set 1 sc__law_own.nd (de_lst false (da_cons (de_isE (ecT T) et_NoDeed (de_var 0) (by rfl) T.b_isinstance (by rfl)) (da_cons (de_isE (ecT T) et_NoText (de_var 0) (by rfl) T.b_isinstance (by rfl)) (da_cons (de_isE (ecT T) et_NoStates (de_var 0) (by rfl) T.b_isinstance (by rfl)) (da_nil)))))) (
    dss_cons (ds_set 1 sc__law_own.nd (de_bin (op_addD false) (de_var 1) (de_lst false (da_cons (de_isE (ecT T) et_NoPaper (de_var 0) (by rfl) T.b_isinstance (by rfl)) (da_cons (de_isE (ecT T) et_NoBegin (de_var 0) (by rfl) T.b_isinstance (by rfl)) (da_cons (de_isE (ecT T) et_NoRow (de_var 0) (by rfl) T.b_isinstance (by rfl)) (da_nil))))))) (
    dss_cons (ds_set 1 sc__law_own.nd (de_bin (op_addD false) (de_var 1) (de_lst false (da_cons (de_isE (ecT T) et_NoHouse (de_var 0) (by rfl) T.b_isinstance (by rfl)) (da_cons (de_isE (ecT T) et_NoHouses (de_var 0) (by rfl) T.b_isinstance (by rfl)) (da_cons (de_isE (ecT T) et_Barred (de_var 0) (by rfl) T.b_isinstance (by rfl)) (da_nil))))))) (
    dss_cons (ds_set 1 sc__law_own.nd (de_bin (op_addD false) (de_var 1) (de_lst false (da_cons (de_isE (ecT T) et_NoName (de_var 0) (by rfl) T.b_isinstance (by rfl)) (da_cons (de_isE (ecT T) et_NoState (de_var 0) (by rfl) T.b_isinstance (by rfl)) (da_cons (de_isE (ecT T) et_NoGoing (de_var 0) (by rfl) T.b_isinstance (by rfl)) (da_nil))))))) (
    dss_cons (ds_set 1 sc__law_own.nd (de_bin (op_addD false) (de_var 1) (de_lst false (da_cons (de_isE (ecT T) et_NoHall (de_var 0) (by rfl) T.b_isinstance (by rfl)) (da_cons (de_isE (ecT T) et_Full (de_var 0) (by rfl) T.b_isinstance (by rfl)) (da_cons (de_isE (ecT T) et_TooMany (de_var 0) (by rfl) T.b_isinstance (by rfl)) (da_nil))))))) (
    dss_one (ds_ret (de_bin (op_addD false) (de_var 1) (de_lst false (da_cons (de_isE (ecT T) et_Twin (de_var 0) (by rfl) T.b_isinstance (by rfl)) (da_cons (de_isE (ecT T) et_Busy (de_var 0) (by rfl) T.b_isinstance (by rfl)) (da_nil)))))))))))
theorem dd__law_own (T : Tx K mg) : DDef P w K mg base 1 "_law_own" s__law_own p__law_own F__law_own := T.d__law_own.made (ok__law_own T)
theorem sc__law_roots : FnScope n__law_roots p__law_roots (defScope s__law_roots) := ⟨rfl, rfl, rfl, by decide +kernel, rfl, by decide +kernel, by decide +kernel⟩
theorem ok__law_roots (T : Tx K mg) {f : Addr} {fd : FuncData} (F : Fun K "_law_roots" "_law_roots" s__law_roots f fd) : DFok P w K mg base CX0 1 f fd p__law_roots F__law_roots :=
  dfn_mk F sc__law_roots fun cdv A outer s H E hr =>
    dss_cons (ds_set 1 sc__law_roots.nd (de_lst false (da_cons (de_isB "ValueError" (ecT T) (de_var 0) (by decide +kernel) (by rfl) T.b_isinstance (by rfl) T.b_ValueError (by rfl)) (da_cons (de_isB "KeyError" (ecT T) (de_var 0) (by decide +kernel) (by rfl) T.b_isinstance (by rfl) T.b_KeyError (by rfl)) (da_cons (de_isB "IndexError" (ecT T) (de_var 0) (by decide +kernel) (by rfl) T.b_isinstance (by rfl) T.b_IndexError (by rfl)) (da_nil)))))) (
    dss_cons (ds_set 1 sc__law_roots.nd (de_bin (op_addD false) (de_var 1) (de_lst false (da_cons (de_isB "LookupError" (ecT T) (de_var 0) (by decide +kernel) (by rfl) T.b_isinstance (by rfl) T.b_LookupError (by rfl)) (da_cons (de_isB "OverflowError" (ecT T) (de_var 0) (by decide +kernel) (by rfl) T.b_isinstance (by rfl) T.b_OverflowError (by rfl)) (da_cons (de_isB "RuntimeError" (ecT T) (de_var 0) (by decide +kernel) (by rfl) T.b_isinstance (by rfl) T.b_RuntimeError (by rfl)) (da_nil))))))) (
    dss_one (ds_ret (de_lc false (own := [("_law_k", 2)]) (by rfl) sc__law_roots.nd (di_rg1 (by rfl) T.b_range (da_cons (de_int) (da_nil))) (blkOk_by (own := [("_law_k", 2)]) (N := n__law_roots) (sc := defScope s__law_roots) (by decide +kernel)) (fun _ _ _ _ _ => dh_name 2 sc__law_roots.nd (by decide)) (fun _ _ _ _ _ => dts_one (dt_tru (de_get hr (de_var 1) (de_var 2)))) (fun _ _ _ _ _ => de_var 2)))))
theorem dd__law_roots (T : Tx K mg) : DDef P w K mg base 1 "_law_roots" s__law_roots p__law_roots F__law_roots := T.d__law_roots.made (ok__law_roots T)
theorem sc__law_fields : FnScope n__law_fields p__law_fields (defScope s__law_fields) := ⟨rfl, rfl, rfl, by decide +kernel, rfl, by decide +kernel, by decide +kernel⟩
theorem ok__law_fields (T : Tx K mg) {f : Addr} {fd : FuncData} (F : Fun K "_law_fields" "_law_fields" s__law_fields f fd) : DFok P w K mg base CX0 1 f fd p__law_fields F__law_fields :=
  dfn_mk F sc__law_fields fun cdv A outer s H E hr =>
    dss_cons (ds_set 1 sc__law_fields.nd (de_lst false (da_cons (de_getf (ecT T) (de_get hr (de_var 0) (de_int))) (da_cons (de_getf (ecT T) (de_get hr (de_var 0) (de_int))) (da_cons (de_getf (ecT T) (de_get hr (de_var 0) (de_int))) (da_cons (de_getf (ecT T) (de_get hr (de_var 0) (de_int))) (da_cons (de_getf (ecT T) (de_get hr (de_var 0) (de_int))) (da_cons (de_getf (ecT T) (de_get hr (de_var 0) (de_int))) (da_nil))))))))) (
    dss_cons (ds_set 1 sc__law_fields.nd (de_bin (op_addD false) (de_var 1) (de_lst false (da_cons (de_getf (ecT T) (de_get hr (de_var 0) (de_int))) (da_cons (de_getf (ecT T) (de_get hr (de_var 0) (de_int))) (da_cons (de_getf (ecT T) (de_get hr (de_var 0) (de_int))) (da_cons (de_getf (ecT T) (de_get hr (de_var 0) (de_int))) (da_cons (de_getf (ecT T) (de_get hr (de_var 0) (de_int))) (da_cons (de_getf (ecT T) (de_get hr (de_var 0) (de_int))) (da_nil)))))))))) (
    dss_one (ds_ret (de_bin (op_addD false) (de_var 1) (de_lst false (da_cons (de_getf (ecT T) (de_get hr (de_var 0) (de_int))) (da_nil)))))))
theorem dd__law_fields (T : Tx K mg) : DDef P w K mg base 1 "_law_fields" s__law_fields p__law_fields F__law_fields := T.d__law_fields.made (ok__law_fields T)
theorem sc__law_letters : FnScope n__law_letters p__law_letters (defScope s__law_letters) := ⟨rfl, rfl, rfl, by decide +kernel, rfl, by decide +kernel, by decide +kernel⟩
theorem ok__law_letters (T : Tx K mg) {f : Addr} {fd : FuncData} (F : Fun K "_law_letters" "_law_letters" s__law_letters f fd) : DFok P w K mg base CX0 2 f fd p__law_letters F__law_letters :=
  dfn_mk F sc__law_letters fun cdv A outer s H E hr =>
    dss_cons (ds_set 2 sc__law_letters.nd (de_str)) (
    dss_one (ds_ret (de_mt PySem.F.plainAttrs_str PySem.F.slot_str_join PySem.F.type_str_join mt_joinO (de_str) (da_cons (de_lc false (own := [("_law_turn", 3)]) (by rfl) sc__law_letters.nd (di_rg1 (by rfl) T.b_range (da_cons (de_var 1) (da_nil))) (blkOk_by (own := [("_law_turn", 3)]) (N := n__law_letters) (sc := defScope s__law_letters) (by decide +kernel)) (fun _ _ _ _ _ => dh_name 3 sc__law_letters.nd (by decide)) (fun _ _ _ _ _ => dts_nil) (fun _ _ _ _ _ => de_ix (de_var 2) (de_callD (dd__law_take T) hr (by decide) (da_cons (de_var 0) (da_cons (de_int) (da_nil)))))) (da_nil)))))
theorem dd__law_letters (T : Tx K mg) : DDef P w K mg base 2 "_law_letters" s__law_letters p__law_letters F__law_letters := T.d__law_letters.made (ok__law_letters T)
theorem sc__law_made : FnScope n__law_made p__law_made (defScope s__law_made) := ⟨rfl, rfl, rfl, by decide +kernel, rfl, by decide +kernel, by decide +kernel⟩
theorem ok__law_made (T : Tx K mg) {f : Addr} {fd : FuncData} (F : Fun K "_law_made" "_law_made" s__law_made f fd) : DFok P w K mg base CX0 4 f fd p__law_made F__law_made :=
  dfn_mk F sc__law_made fun cdv A outer s H E hr =>
    dss_cons (ds_set 2 sc__law_made.nd (de_lst false (da_cons (de_mk1 (ei_NoDeed T rfl rfl) (by simp) (hr.room.mono (by decide)) passX (by rfl) (de_var 0)) (da_cons (de_mk1 (ei_NoText T rfl rfl) (by simp) (hr.room.mono (by decide)) passX (by rfl) (de_var 0)) (da_cons (de_mk1 (ei_NoStates T rfl rfl) (by simp) (hr.room.mono (by decide)) passX (by rfl) (de_var 0)) (da_cons (de_mk0E T.e_NoPaper (by rfl)) (da_cons (de_mk0E T.e_NoBegin (by rfl)) (da_cons (de_mk1 (ei_NoRow T rfl rfl) (by simp) (hr.room.mono (by decide)) passX (by rfl) (de_var 0)) (da_cons (de_mk1 (ei_NoHouse T rfl rfl) (by simp) (hr.room.mono (by decide)) passX (by rfl) (de_var 0)) (da_cons (de_mk1 (ei_NoHouses T rfl rfl) (by simp) (hr.room.mono (by decide)) passX (by rfl) (de_var 0)) (da_nil))))))))))) (
    dss_cons (ds_set 2 sc__law_made.nd (de_bin (op_addD false) (de_var 2) (de_lst false (da_cons (de_mk2 (ei_Barred T rfl rfl) (by simp) (by simp) (hr.room.mono (by decide)) passX (by rfl) (de_var 0) (de_var 1)) (da_cons (de_mk1 (ei_NoName T rfl rfl) (by simp) (hr.room.mono (by decide)) passX (by rfl) (de_var 0)) (da_cons (de_mk1 (ei_NoState T rfl rfl) (by simp) (hr.room.mono (by decide)) passX (by rfl) (de_var 0)) (da_cons (de_mk1 (ei_NoGoing T rfl rfl) (by simp) (hr.room.mono (by decide)) passX (by rfl) (de_var 0)) (da_cons (de_mk0E T.e_NoHall (by rfl)) (da_cons (de_mk0E T.e_Full (by rfl)) (da_cons (de_mk1 (ei_TooMany T rfl rfl) (by simp) (hr.room.mono (by decide)) passX (by rfl) (de_var 0)) (da_nil))))))))))) (
    dss_one (ds_ret (de_bin (op_addD false) (de_var 2) (de_lst false (da_cons (de_mk1 (ei_Twin T rfl rfl) (by simp) (hr.room.mono (by decide)) passX (by rfl) (de_var 0)) (da_cons (de_mk0E T.e_Busy (by rfl)) (da_nil))))))))
theorem dd__law_made (T : Tx K mg) : DDef P w K mg base 4 "_law_made" s__law_made p__law_made F__law_made := T.d__law_made.made (ok__law_made T)
theorem sc__law_named : FnScope n__law_named p__law_named (defScope s__law_named) := ⟨rfl, rfl, rfl, by decide +kernel, rfl, by decide +kernel, by decide +kernel⟩
theorem ok__law_named (T : Tx K mg) {f : Addr} {fd : FuncData} (F : Fun K "_law_named" "_law_named" s__law_named f fd) : DFok P w K mg base CX0 4 f fd p__law_named F__law_named :=
  dfn_mk F sc__law_named fun cdv A outer s H E hr =>
    dss_cons (ds_set 2 sc__law_named.nd (de_lst false (da_cons (de_mkK1 (ei_NoDeed T rfl rfl) (by simp) (hr.room.mono (by decide)) passX (by rfl) (de_var 0)) (da_cons (de_mkK1 (ei_NoText T rfl rfl) (by simp) (hr.room.mono (by decide)) passX (by rfl) (de_var 0)) (da_cons (de_mkK1 (ei_NoStates T rfl rfl) (by simp) (hr.room.mono (by decide)) passX (by rfl) (de_var 0)) (da_cons (de_non) (da_cons (de_non) (da_cons (de_mkK1 (ei_NoRow T rfl rfl) (by simp) (hr.room.mono (by decide)) passX (by rfl) (de_var 0)) (da_nil))))))))) (
    dss_cons (ds_set 2 sc__law_named.nd (de_bin (op_addD false) (de_var 2) (de_lst false (da_cons (de_mkK1 (ei_NoHouse T rfl rfl) (by simp) (hr.room.mono (by decide)) passX (by rfl) (de_var 0)) (da_cons (de_mkK1 (ei_NoHouses T rfl rfl) (by simp) (hr.room.mono (by decide)) passX (by rfl) (de_var 0)) (da_cons (de_mkK2 (ei_Barred T rfl rfl) (by simp) (by simp) (hr.room.mono (by decide)) passX (by rfl) (de_var 1) (de_var 0)) (da_cons (de_mkK1 (ei_NoName T rfl rfl) (by simp) (hr.room.mono (by decide)) passX (by rfl) (de_var 0)) (da_nil)))))))) (
    dss_cons (ds_set 2 sc__law_named.nd (de_bin (op_addD false) (de_var 2) (de_lst false (da_cons (de_mkK1 (ei_NoState T rfl rfl) (by simp) (hr.room.mono (by decide)) passX (by rfl) (de_var 0)) (da_cons (de_mkK1 (ei_NoGoing T rfl rfl) (by simp) (hr.room.mono (by decide)) passX (by rfl) (de_var 0)) (da_cons (de_non) (da_cons (de_non) (da_cons (de_mkK1 (ei_TooMany T rfl rfl) (by simp) (hr.room.mono (by decide)) passX (by rfl) (de_var 0)) (da_nil))))))))) (
    dss_one (ds_ret (de_bin (op_addD false) (de_var 2) (de_lst false (da_cons (de_mkK1 (ei_Twin T rfl rfl) (by simp) (hr.room.mono (by decide)) passX (by rfl) (de_var 0)) (da_cons (de_non) (da_nil)))))))))
theorem dd__law_named (T : Tx K mg) : DDef P w K mg base 4 "_law_named" s__law_named p__law_named F__law_named := T.d__law_named.made (ok__law_named T)
theorem sc_law : FnScope n_law p_law (defScope s_law) := ⟨rfl, rfl, rfl, by decide +kernel, rfl, by decide +kernel, by decide +kernel⟩
theorem ok_law (T : Tx K mg) {f : Addr} {fd : FuncData} (F : Fun K "law" "law" s_law f fd) : DFok P w K mg base CX0 5 f fd p_law F_law :=
  dfn_mk F sc_law fun cdv A outer s H E hr =>
    dss_cons (ds_set 1 sc_law.nd (de_bin (op_addD false) (de_bin (op_addD false) (de_bin (op_addD false) (de_bin (op_addD false) (de_bin (op_mulD false) (de_lst false (da_cons (de_lst false (da_cons (de_int) (da_nil))) (da_nil))) (de_int)) (de_lst false (da_cons (de_lst false (da_cons (de_int) (da_cons (de_int) (da_nil)))) (da_nil)))) (de_bin (op_mulD false) (de_lst false (da_cons (de_lst false (da_cons (de_int) (da_nil))) (da_nil))) (de_int))) (de_bin (op_mulD false) (de_lst false (da_cons (de_lst false (da_cons (de_int) (da_nil))) (da_nil))) (de_int))) (de_bin (op_mulD false) (de_lst false (da_cons (de_lst false (da_cons (de_int) (da_nil))) (da_nil))) (de_int)))) (
    dss_cons (ds_for PassesOwn.never (by rfl) (di_rg1 (by rfl) T.b_range (da_cons (de_callB (call_maxO (by rfl)) (by rfl) T.b_max (by rfl) (da_cons (de_int) (da_cons (de_callB (call_minO (by rfl)) (by rfl) T.b_min (by rfl) (da_cons (de_callB call_lenU (by rfl) T.b_len (by rfl) (da_cons (de_var 0) (da_nil))) (da_cons (de_int) (da_nil)))) (da_nil)))) (da_nil))) (dg_name 2 sc_law.nd) (dss_cons (ds_set 3 sc_law.nd (de_callD (dd__law_pool T) hr (by decide) (da_cons (de_var 0) (da_cons (de_var 2) (da_nil))))) (
    dss_cons (ds_set 4 sc_law.nd (de_lst false (da_cons (de_callD (dd__law_take T) hr (by decide) (da_cons (de_var 3) (da_cons (de_bin op_powD (de_int) (de_int)) (da_nil)))) (da_cons (de_non) (da_cons (de_callD (dd__law_letters T) hr (by decide) (da_cons (de_var 3) (da_cons (de_int) (da_nil)))) (da_cons (de_tup (da_cons (de_str) (da_cons (de_int) (da_nil)))) (da_cons (de_lst false (da_cons (de_int) (da_nil))) (da_cons (de_bl) (da_cons (de_neg (de_int)) (da_nil)))))))))) (
    dss_cons (ds_set 5 sc_law.nd (de_get hr (de_var 4) (de_callD (dd__law_take T) hr (by decide) (da_cons (de_var 3) (da_cons (de_int) (da_nil)))))) (
    dss_cons (ds_set 6 sc_law.nd (de_get hr (de_var 4) (de_callD (dd__law_take T) hr (by decide) (da_cons (de_var 3) (da_cons (de_int) (da_nil)))))) (
    dss_cons (ds_set 7 sc_law.nd (de_callD (dd__law_made T) hr (by decide) (da_cons (de_var 5) (da_cons (de_var 6) (da_nil))))) (
    dss_cons (ds_for PassesOwn.never (by rfl) (di_enum (by rfl) T.b_enumerate (da_cons (de_var 7) (da_nil))) (dg_tup (by rfl) (dgs_cons (dg_name 8 sc_law.nd) (dgs_cons (dg_name 9 sc_law.nd) (dgs_nil)))) (dss_one (ds_if (DWOk.t (dw_or (dt_cmp (op_neU hr) (de_callD (dd__law_own T) hr (by decide) (da_cons (de_var 9) (da_nil))) (de_lc false (own := [("_law_own_here", 10)]) (by rfl) sc_law.nd (di_rg1 (by rfl) T.b_range (da_cons (de_int) (da_nil))) (blkOk_by (own := [("_law_own_here", 10)]) (N := n_law) (sc := defScope s_law) (by decide +kernel)) (fun _ _ _ _ _ => dh_name 10 sc_law.nd (by decide)) (fun _ _ _ _ _ => dts_nil) (fun _ _ _ _ _ => de_cmp (op_eqU hr) (de_var 8) (de_var 10) (nomark _))) (nomark _)) (dw_or1 (dt_cmp (op_neU hr) (de_callD (dd__law_roots T) hr (by decide) (da_cons (de_var 9) (da_nil))) (de_get hr (de_var 1) (de_var 8)) (nomark _))))) (dss_one (ds_ret (de_bl))) (dss_nil)))) (
    dss_cons (ds_if (dt_cmp (op_neU hr) (de_callB (call_reprU hr) (by rfl) T.b_repr (by rfl) (da_cons (de_callD (dd__law_fields T) hr (by decide) (da_cons (de_var 7) (da_nil))) (da_nil))) (de_callB (call_reprU hr) (by rfl) T.b_repr (by rfl) (da_cons (de_bin (op_addD false) (de_bin (op_addD false) (de_bin (op_mulD false) (de_lst false (da_cons (de_var 5) (da_nil))) (de_int)) (de_lst false (da_cons (de_var 6) (da_nil)))) (de_bin (op_mulD false) (de_lst false (da_cons (de_var 5) (da_nil))) (de_int))) (da_nil))) (nomark _)) (dss_one (ds_ret (de_bl))) (dss_nil)) (
    dss_one (ds_if (dt_cmp (op_neU hr) (de_callB (call_reprU hr) (by rfl) T.b_repr (by rfl) (da_cons (de_callD (dd__law_fields T) hr (by decide) (da_cons (de_callD (dd__law_named T) hr (by decide) (da_cons (de_var 5) (da_cons (de_var 6) (da_nil)))) (da_nil))) (da_nil))) (de_callB (call_reprU hr) (by rfl) T.b_repr (by rfl) (da_cons (de_callD (dd__law_fields T) hr (by decide) (da_cons (de_var 7) (da_nil))) (da_nil))) (nomark _)) (dss_one (ds_ret (de_bl))) (dss_nil))))))))))) (
    dss_one (ds_ret (de_bl))))
theorem dd_law (T : Tx K mg) : DDef P w K mg base 5 "law" s_law p_law F_law := T.d_law.made (ok_law T)
end
theorem tx_mk {K : PySem.W.Frag} {mg : Str → Option Value} {h : Heap} (X : K.In h) (G : h.Ns mainGlobals mg)
    {f0 : Addr} {oc0 kV0 doc0 pm0 cdv0 ct0 : Value} {od0 an0 : Option Addr} {osl0 : Array (Option Value)} (a0 : PySem.W.nsIn K mainGlobals "_law_pool" = some (some (.ref f0)))
    (l0 : K.lookup f0 = some ⟨oc0, od0, .func (PySem.W.fnOf "_law_pool" "_law_pool" (defArgs s__law_pool) (defBody s__law_pool) (defScope s__law_pool) .none kV0 doc0 pm0 an0 cdv0 ct0), osl0⟩) (c0 : PySem.W.codeIn K cdv0 "_law_pool" = true) (k0 : PySem.W.keepIn K (.ref f0) = true)
    {f1 : Addr} {oc1 kV1 doc1 pm1 cdv1 ct1 : Value} {od1 an1 : Option Addr} {osl1 : Array (Option Value)} (a1 : PySem.W.nsIn K mainGlobals "_law_take" = some (some (.ref f1)))
    (l1 : K.lookup f1 = some ⟨oc1, od1, .func (PySem.W.fnOf "_law_take" "_law_take" (defArgs s__law_take) (defBody s__law_take) (defScope s__law_take) .none kV1 doc1 pm1 an1 cdv1 ct1), osl1⟩) (c1 : PySem.W.codeIn K cdv1 "_law_take" = true) (k1 : PySem.W.keepIn K (.ref f1) = true)
    {f2 : Addr} {oc2 kV2 doc2 pm2 cdv2 ct2 : Value} {od2 an2 : Option Addr} {osl2 : Array (Option Value)} (a2 : PySem.W.nsIn K mainGlobals "_law_own" = some (some (.ref f2)))
    (l2 : K.lookup f2 = some ⟨oc2, od2, .func (PySem.W.fnOf "_law_own" "_law_own" (defArgs s__law_own) (defBody s__law_own) (defScope s__law_own) .none kV2 doc2 pm2 an2 cdv2 ct2), osl2⟩) (c2 : PySem.W.codeIn K cdv2 "_law_own" = true) (k2 : PySem.W.keepIn K (.ref f2) = true)
    {f3 : Addr} {oc3 kV3 doc3 pm3 cdv3 ct3 : Value} {od3 an3 : Option Addr} {osl3 : Array (Option Value)} (a3 : PySem.W.nsIn K mainGlobals "_law_roots" = some (some (.ref f3)))
    (l3 : K.lookup f3 = some ⟨oc3, od3, .func (PySem.W.fnOf "_law_roots" "_law_roots" (defArgs s__law_roots) (defBody s__law_roots) (defScope s__law_roots) .none kV3 doc3 pm3 an3 cdv3 ct3), osl3⟩) (c3 : PySem.W.codeIn K cdv3 "_law_roots" = true) (k3 : PySem.W.keepIn K (.ref f3) = true)
    {f4 : Addr} {oc4 kV4 doc4 pm4 cdv4 ct4 : Value} {od4 an4 : Option Addr} {osl4 : Array (Option Value)} (a4 : PySem.W.nsIn K mainGlobals "_law_fields" = some (some (.ref f4)))
    (l4 : K.lookup f4 = some ⟨oc4, od4, .func (PySem.W.fnOf "_law_fields" "_law_fields" (defArgs s__law_fields) (defBody s__law_fields) (defScope s__law_fields) .none kV4 doc4 pm4 an4 cdv4 ct4), osl4⟩) (c4 : PySem.W.codeIn K cdv4 "_law_fields" = true) (k4 : PySem.W.keepIn K (.ref f4) = true)
    {f5 : Addr} {oc5 kV5 doc5 pm5 cdv5 ct5 : Value} {od5 an5 : Option Addr} {osl5 : Array (Option Value)} (a5 : PySem.W.nsIn K mainGlobals "_law_letters" = some (some (.ref f5)))
    (l5 : K.lookup f5 = some ⟨oc5, od5, .func (PySem.W.fnOf "_law_letters" "_law_letters" (defArgs s__law_letters) (defBody s__law_letters) (defScope s__law_letters) .none kV5 doc5 pm5 an5 cdv5 ct5), osl5⟩) (c5 : PySem.W.codeIn K cdv5 "_law_letters" = true) (k5 : PySem.W.keepIn K (.ref f5) = true)
    {f6 : Addr} {oc6 kV6 doc6 pm6 cdv6 ct6 : Value} {od6 an6 : Option Addr} {osl6 : Array (Option Value)} (a6 : PySem.W.nsIn K mainGlobals "_law_made" = some (some (.ref f6)))
    (l6 : K.lookup f6 = some ⟨oc6, od6, .func (PySem.W.fnOf "_law_made" "_law_made" (defArgs s__law_made) (defBody s__law_made) (defScope s__law_made) .none kV6 doc6 pm6 an6 cdv6 ct6), osl6⟩) (c6 : PySem.W.codeIn K cdv6 "_law_made" = true) (k6 : PySem.W.keepIn K (.ref f6) = true)
    {f7 : Addr} {oc7 kV7 doc7 pm7 cdv7 ct7 : Value} {od7 an7 : Option Addr} {osl7 : Array (Option Value)} (a7 : PySem.W.nsIn K mainGlobals "_law_named" = some (some (.ref f7)))
    (l7 : K.lookup f7 = some ⟨oc7, od7, .func (PySem.W.fnOf "_law_named" "_law_named" (defArgs s__law_named) (defBody s__law_named) (defScope s__law_named) .none kV7 doc7 pm7 an7 cdv7 ct7), osl7⟩) (c7 : PySem.W.codeIn K cdv7 "_law_named" = true) (k7 : PySem.W.keepIn K (.ref f7) = true)
    {f8 : Addr} {oc8 kV8 doc8 pm8 cdv8 ct8 : Value} {od8 an8 : Option Addr} {osl8 : Array (Option Value)} (a8 : PySem.W.nsIn K mainGlobals "law" = some (some (.ref f8)))
    (l8 : K.lookup f8 = some ⟨oc8, od8, .func (PySem.W.fnOf "law" "law" (defArgs s_law) (defBody s_law) (defScope s_law) .none kV8 doc8 pm8 an8 cdv8 ct8), osl8⟩) (c8 : PySem.W.codeIn K cdv8 "law" = true) (k8 : PySem.W.keepIn K (.ref f8) = true)
    (z_IndexError : PySem.W.nsIn K mainGlobals "IndexError" = some none)
    (z_KeyError : PySem.W.nsIn K mainGlobals "KeyError" = some none)
    (z_LookupError : PySem.W.nsIn K mainGlobals "LookupError" = some none)
    (z_OverflowError : PySem.W.nsIn K mainGlobals "OverflowError" = some none)
    (z_RuntimeError : PySem.W.nsIn K mainGlobals "RuntimeError" = some none)
    (z_ValueError : PySem.W.nsIn K mainGlobals "ValueError" = some none)
    (z_enumerate : PySem.W.nsIn K mainGlobals "enumerate" = some none)
    (z_int : PySem.W.nsIn K mainGlobals "int" = some none)
    (z_isinstance : PySem.W.nsIn K mainGlobals "isinstance" = some none)
    (z_len : PySem.W.nsIn K mainGlobals "len" = some none)
    (z_max : PySem.W.nsIn K mainGlobals "max" = some none)
    (z_min : PySem.W.nsIn K mainGlobals "min" = some none)
    (z_range : PySem.W.nsIn K mainGlobals "range" = some none)
    (z_repr : PySem.W.nsIn K mainGlobals "repr" = some none)
    {xC_NoDeed xI_NoDeed xN_NoDeed : Addr} {xcq_NoDeed : Str} {xbs_NoDeed : List Value} {xsn_NoDeed : List Str} {xsub_NoDeed : List Value} {xab_NoDeed : Bool} {xcol_NoDeed : Option Bool} {xdd_NoDeed : Option Addr} {xm0_NoDeed xm1_NoDeed xm2_NoDeed xm3_NoDeed xm5_NoDeed : Option Value} {xod_NoDeed xan_NoDeed : Option Addr} {xosl_NoDeed : Array (Option Value)} {xoc_NoDeed xkV_NoDeed xdoc_NoDeed xpm_NoDeed xcdv_NoDeed xct_NoDeed : Value}
    (xz_NoDeed : PySem.W.nsIn K mainGlobals "NoDeed" = some (some (.ref xC_NoDeed))) (xlc_NoDeed : K.lookup xC_NoDeed = some (excClassObj "NoDeed" xcq_NoDeed xC_NoDeed xN_NoDeed xbs_NoDeed [.type "ValueError", .type "Exception", .type "BaseException", .type "object"] true xsn_NoDeed xsub_NoDeed xab_NoDeed xcol_NoDeed xdd_NoDeed xm0_NoDeed xm1_NoDeed xm2_NoDeed xm3_NoDeed xm5_NoDeed "ValueError.__new__"))
    (xsa_NoDeed : PySem.W.findIn K (.ref xC_NoDeed) "__setattr__" = some (some (.builtin "object.__setattr__"))) (xkc_NoDeed : PySem.W.keepIn K (.ref xC_NoDeed) = true)
    (xga_NoDeed : PySem.W.findIn K (.ref xC_NoDeed) "__getattribute__" = some (some (.builtin "BaseException.__getattribute__"))) (xgg_NoDeed : PySem.W.findIn K (.ref xC_NoDeed) "__getattr__" = some none) (xca_NoDeed : PySem.W.findIn K (.ref xC_NoDeed) "__class__" = some (some (.builtin "object.__class__"))) (xfn0_NoDeed : PySem.W.findIn K (.ref xC_NoDeed) "part" = some none)
    (xfi_NoDeed : PySem.W.findIn K (.ref xC_NoDeed) "__init__" = some (some (.ref xI_NoDeed))) (xti_NoDeed : PySem.W.typeIn K (.ref xI_NoDeed) = some (.type "function"))
    (xlf_NoDeed : K.lookup xI_NoDeed = some ⟨xoc_NoDeed, xod_NoDeed, .func (PySem.W.fnOf "__init__" "NoDeed.__init__" (defArgs sE_NoDeed) (defBody sE_NoDeed) (defScope sE_NoDeed) .none xkV_NoDeed xdoc_NoDeed xpm_NoDeed xan_NoDeed xcdv_NoDeed xct_NoDeed), xosl_NoDeed⟩) (xcf_NoDeed : PySem.W.codeIn K xcdv_NoDeed "NoDeed.__init__" = true) (xkf_NoDeed : PySem.W.keepIn K (.ref xI_NoDeed) = true)
    {xC_NoText xI_NoText xN_NoText : Addr} {xcq_NoText : Str} {xbs_NoText : List Value} {xsn_NoText : List Str} {xsub_NoText : List Value} {xab_NoText : Bool} {xcol_NoText : Option Bool} {xdd_NoText : Option Addr} {xm0_NoText xm1_NoText xm2_NoText xm3_NoText xm5_NoText : Option Value} {xod_NoText xan_NoText : Option Addr} {xosl_NoText : Array (Option Value)} {xoc_NoText xkV_NoText xdoc_NoText xpm_NoText xcdv_NoText xct_NoText : Value}
    (xz_NoText : PySem.W.nsIn K mainGlobals "NoText" = some (some (.ref xC_NoText))) (xlc_NoText : K.lookup xC_NoText = some (excClassObj "NoText" xcq_NoText xC_NoText xN_NoText xbs_NoText [.type "ValueError", .type "Exception", .type "BaseException", .type "object"] true xsn_NoText xsub_NoText xab_NoText xcol_NoText xdd_NoText xm0_NoText xm1_NoText xm2_NoText xm3_NoText xm5_NoText "ValueError.__new__"))
    (xsa_NoText : PySem.W.findIn K (.ref xC_NoText) "__setattr__" = some (some (.builtin "object.__setattr__"))) (xkc_NoText : PySem.W.keepIn K (.ref xC_NoText) = true)
    (xga_NoText : PySem.W.findIn K (.ref xC_NoText) "__getattribute__" = some (some (.builtin "BaseException.__getattribute__"))) (xgg_NoText : PySem.W.findIn K (.ref xC_NoText) "__getattr__" = some none) (xca_NoText : PySem.W.findIn K (.ref xC_NoText) "__class__" = some (some (.builtin "object.__class__"))) (xfn0_NoText : PySem.W.findIn K (.ref xC_NoText) "part" = some none)
    (xfi_NoText : PySem.W.findIn K (.ref xC_NoText) "__init__" = some (some (.ref xI_NoText))) (xti_NoText : PySem.W.typeIn K (.ref xI_NoText) = some (.type "function"))
    (xlf_NoText : K.lookup xI_NoText = some ⟨xoc_NoText, xod_NoText, .func (PySem.W.fnOf "__init__" "NoText.__init__" (defArgs sE_NoText) (defBody sE_NoText) (defScope sE_NoText) .none xkV_NoText xdoc_NoText xpm_NoText xan_NoText xcdv_NoText xct_NoText), xosl_NoText⟩) (xcf_NoText : PySem.W.codeIn K xcdv_NoText "NoText.__init__" = true) (xkf_NoText : PySem.W.keepIn K (.ref xI_NoText) = true)
    {xC_NoStates xI_NoStates xN_NoStates : Addr} {xcq_NoStates : Str} {xbs_NoStates : List Value} {xsn_NoStates : List Str} {xsub_NoStates : List Value} {xab_NoStates : Bool} {xcol_NoStates : Option Bool} {xdd_NoStates : Option Addr} {xm0_NoStates xm1_NoStates xm2_NoStates xm3_NoStates xm5_NoStates : Option Value} {xod_NoStates xan_NoStates : Option Addr} {xosl_NoStates : Array (Option Value)} {xoc_NoStates xkV_NoStates xdoc_NoStates xpm_NoStates xcdv_NoStates xct_NoStates : Value}
    (xz_NoStates : PySem.W.nsIn K mainGlobals "NoStates" = some (some (.ref xC_NoStates))) (xlc_NoStates : K.lookup xC_NoStates = some (excClassObj "NoStates" xcq_NoStates xC_NoStates xN_NoStates xbs_NoStates [.type "ValueError", .type "Exception", .type "BaseException", .type "object"] true xsn_NoStates xsub_NoStates xab_NoStates xcol_NoStates xdd_NoStates xm0_NoStates xm1_NoStates xm2_NoStates xm3_NoStates xm5_NoStates "ValueError.__new__"))
    (xsa_NoStates : PySem.W.findIn K (.ref xC_NoStates) "__setattr__" = some (some (.builtin "object.__setattr__"))) (xkc_NoStates : PySem.W.keepIn K (.ref xC_NoStates) = true)
    (xga_NoStates : PySem.W.findIn K (.ref xC_NoStates) "__getattribute__" = some (some (.builtin "BaseException.__getattribute__"))) (xgg_NoStates : PySem.W.findIn K (.ref xC_NoStates) "__getattr__" = some none) (xca_NoStates : PySem.W.findIn K (.ref xC_NoStates) "__class__" = some (some (.builtin "object.__class__"))) (xfn0_NoStates : PySem.W.findIn K (.ref xC_NoStates) "number" = some none)
    (xfi_NoStates : PySem.W.findIn K (.ref xC_NoStates) "__init__" = some (some (.ref xI_NoStates))) (xti_NoStates : PySem.W.typeIn K (.ref xI_NoStates) = some (.type "function"))
    (xlf_NoStates : K.lookup xI_NoStates = some ⟨xoc_NoStates, xod_NoStates, .func (PySem.W.fnOf "__init__" "NoStates.__init__" (defArgs sE_NoStates) (defBody sE_NoStates) (defScope sE_NoStates) .none xkV_NoStates xdoc_NoStates xpm_NoStates xan_NoStates xcdv_NoStates xct_NoStates), xosl_NoStates⟩) (xcf_NoStates : PySem.W.codeIn K xcdv_NoStates "NoStates.__init__" = true) (xkf_NoStates : PySem.W.keepIn K (.ref xI_NoStates) = true)
    {xC_NoPaper xN_NoPaper : Addr} {xcq_NoPaper : Str} {xbs_NoPaper : List Value} {xsn_NoPaper : List Str} {xsub_NoPaper : List Value} {xab_NoPaper : Bool} {xcol_NoPaper : Option Bool} {xdd_NoPaper : Option Addr} {xm0_NoPaper xm1_NoPaper xm2_NoPaper xm3_NoPaper xm5_NoPaper : Option Value}
    (xz_NoPaper : PySem.W.nsIn K mainGlobals "NoPaper" = some (some (.ref xC_NoPaper))) (xlc_NoPaper : K.lookup xC_NoPaper = some (excClassObj "NoPaper" xcq_NoPaper xC_NoPaper xN_NoPaper xbs_NoPaper [.type "ValueError", .type "Exception", .type "BaseException", .type "object"] true xsn_NoPaper xsub_NoPaper xab_NoPaper xcol_NoPaper xdd_NoPaper xm0_NoPaper xm1_NoPaper xm2_NoPaper xm3_NoPaper xm5_NoPaper "ValueError.__new__"))
    (xsa_NoPaper : PySem.W.findIn K (.ref xC_NoPaper) "__setattr__" = some (some (.builtin "object.__setattr__"))) (xkc_NoPaper : PySem.W.keepIn K (.ref xC_NoPaper) = true)
    (xga_NoPaper : PySem.W.findIn K (.ref xC_NoPaper) "__getattribute__" = some (some (.builtin "BaseException.__getattribute__"))) (xgg_NoPaper : PySem.W.findIn K (.ref xC_NoPaper) "__getattr__" = some none) (xca_NoPaper : PySem.W.findIn K (.ref xC_NoPaper) "__class__" = some (some (.builtin "object.__class__"))) 
    (xfi_NoPaper : PySem.W.findIn K (.ref xC_NoPaper) "__init__" = some (some (.builtin "ValueError.__init__")))
    {xC_NoBegin xN_NoBegin : Addr} {xcq_NoBegin : Str} {xbs_NoBegin : List Value} {xsn_NoBegin : List Str} {xsub_NoBegin : List Value} {xab_NoBegin : Bool} {xcol_NoBegin : Option Bool} {xdd_NoBegin : Option Addr} {xm0_NoBegin xm1_NoBegin xm2_NoBegin xm3_NoBegin xm5_NoBegin : Option Value}
    (xz_NoBegin : PySem.W.nsIn K mainGlobals "NoBegin" = some (some (.ref xC_NoBegin))) (xlc_NoBegin : K.lookup xC_NoBegin = some (excClassObj "NoBegin" xcq_NoBegin xC_NoBegin xN_NoBegin xbs_NoBegin [.type "ValueError", .type "Exception", .type "BaseException", .type "object"] true xsn_NoBegin xsub_NoBegin xab_NoBegin xcol_NoBegin xdd_NoBegin xm0_NoBegin xm1_NoBegin xm2_NoBegin xm3_NoBegin xm5_NoBegin "ValueError.__new__"))
    (xsa_NoBegin : PySem.W.findIn K (.ref xC_NoBegin) "__setattr__" = some (some (.builtin "object.__setattr__"))) (xkc_NoBegin : PySem.W.keepIn K (.ref xC_NoBegin) = true)
    (xga_NoBegin : PySem.W.findIn K (.ref xC_NoBegin) "__getattribute__" = some (some (.builtin "BaseException.__getattribute__"))) (xgg_NoBegin : PySem.W.findIn K (.ref xC_NoBegin) "__getattr__" = some none) (xca_NoBegin : PySem.W.findIn K (.ref xC_NoBegin) "__class__" = some (some (.builtin "object.__class__"))) 
    (xfi_NoBegin : PySem.W.findIn K (.ref xC_NoBegin) "__init__" = some (some (.builtin "ValueError.__init__")))
    {xC_NoRow xI_NoRow xN_NoRow : Addr} {xcq_NoRow : Str} {xbs_NoRow : List Value} {xsn_NoRow : List Str} {xsub_NoRow : List Value} {xab_NoRow : Bool} {xcol_NoRow : Option Bool} {xdd_NoRow : Option Addr} {xm0_NoRow xm1_NoRow xm2_NoRow xm3_NoRow xm5_NoRow : Option Value} {xod_NoRow xan_NoRow : Option Addr} {xosl_NoRow : Array (Option Value)} {xoc_NoRow xkV_NoRow xdoc_NoRow xpm_NoRow xcdv_NoRow xct_NoRow : Value}
    (xz_NoRow : PySem.W.nsIn K mainGlobals "NoRow" = some (some (.ref xC_NoRow))) (xlc_NoRow : K.lookup xC_NoRow = some (excClassObj "NoRow" xcq_NoRow xC_NoRow xN_NoRow xbs_NoRow [.type "ValueError", .type "Exception", .type "BaseException", .type "object"] true xsn_NoRow xsub_NoRow xab_NoRow xcol_NoRow xdd_NoRow xm0_NoRow xm1_NoRow xm2_NoRow xm3_NoRow xm5_NoRow "ValueError.__new__"))
    (xsa_NoRow : PySem.W.findIn K (.ref xC_NoRow) "__setattr__" = some (some (.builtin "object.__setattr__"))) (xkc_NoRow : PySem.W.keepIn K (.ref xC_NoRow) = true)
    (xga_NoRow : PySem.W.findIn K (.ref xC_NoRow) "__getattribute__" = some (some (.builtin "BaseException.__getattribute__"))) (xgg_NoRow : PySem.W.findIn K (.ref xC_NoRow) "__getattr__" = some none) (xca_NoRow : PySem.W.findIn K (.ref xC_NoRow) "__class__" = some (some (.builtin "object.__class__"))) (xfn0_NoRow : PySem.W.findIn K (.ref xC_NoRow) "number" = some none)
    (xfi_NoRow : PySem.W.findIn K (.ref xC_NoRow) "__init__" = some (some (.ref xI_NoRow))) (xti_NoRow : PySem.W.typeIn K (.ref xI_NoRow) = some (.type "function"))
    (xlf_NoRow : K.lookup xI_NoRow = some ⟨xoc_NoRow, xod_NoRow, .func (PySem.W.fnOf "__init__" "NoRow.__init__" (defArgs sE_NoRow) (defBody sE_NoRow) (defScope sE_NoRow) .none xkV_NoRow xdoc_NoRow xpm_NoRow xan_NoRow xcdv_NoRow xct_NoRow), xosl_NoRow⟩) (xcf_NoRow : PySem.W.codeIn K xcdv_NoRow "NoRow.__init__" = true) (xkf_NoRow : PySem.W.keepIn K (.ref xI_NoRow) = true)
    {xC_NoHouse xI_NoHouse xN_NoHouse : Addr} {xcq_NoHouse : Str} {xbs_NoHouse : List Value} {xsn_NoHouse : List Str} {xsub_NoHouse : List Value} {xab_NoHouse : Bool} {xcol_NoHouse : Option Bool} {xdd_NoHouse : Option Addr} {xm0_NoHouse xm1_NoHouse xm2_NoHouse xm3_NoHouse xm5_NoHouse : Option Value} {xod_NoHouse xan_NoHouse : Option Addr} {xosl_NoHouse : Array (Option Value)} {xoc_NoHouse xkV_NoHouse xdoc_NoHouse xpm_NoHouse xcdv_NoHouse xct_NoHouse : Value}
    (xz_NoHouse : PySem.W.nsIn K mainGlobals "NoHouse" = some (some (.ref xC_NoHouse))) (xlc_NoHouse : K.lookup xC_NoHouse = some (excClassObj "NoHouse" xcq_NoHouse xC_NoHouse xN_NoHouse xbs_NoHouse [.type "ValueError", .type "Exception", .type "BaseException", .type "object"] true xsn_NoHouse xsub_NoHouse xab_NoHouse xcol_NoHouse xdd_NoHouse xm0_NoHouse xm1_NoHouse xm2_NoHouse xm3_NoHouse xm5_NoHouse "ValueError.__new__"))
    (xsa_NoHouse : PySem.W.findIn K (.ref xC_NoHouse) "__setattr__" = some (some (.builtin "object.__setattr__"))) (xkc_NoHouse : PySem.W.keepIn K (.ref xC_NoHouse) = true)
    (xga_NoHouse : PySem.W.findIn K (.ref xC_NoHouse) "__getattribute__" = some (some (.builtin "BaseException.__getattribute__"))) (xgg_NoHouse : PySem.W.findIn K (.ref xC_NoHouse) "__getattr__" = some none) (xca_NoHouse : PySem.W.findIn K (.ref xC_NoHouse) "__class__" = some (some (.builtin "object.__class__"))) (xfn0_NoHouse : PySem.W.findIn K (.ref xC_NoHouse) "house" = some none)
    (xfi_NoHouse : PySem.W.findIn K (.ref xC_NoHouse) "__init__" = some (some (.ref xI_NoHouse))) (xti_NoHouse : PySem.W.typeIn K (.ref xI_NoHouse) = some (.type "function"))
    (xlf_NoHouse : K.lookup xI_NoHouse = some ⟨xoc_NoHouse, xod_NoHouse, .func (PySem.W.fnOf "__init__" "NoHouse.__init__" (defArgs sE_NoHouse) (defBody sE_NoHouse) (defScope sE_NoHouse) .none xkV_NoHouse xdoc_NoHouse xpm_NoHouse xan_NoHouse xcdv_NoHouse xct_NoHouse), xosl_NoHouse⟩) (xcf_NoHouse : PySem.W.codeIn K xcdv_NoHouse "NoHouse.__init__" = true) (xkf_NoHouse : PySem.W.keepIn K (.ref xI_NoHouse) = true)
    {xC_NoHouses xI_NoHouses xN_NoHouses : Addr} {xcq_NoHouses : Str} {xbs_NoHouses : List Value} {xsn_NoHouses : List Str} {xsub_NoHouses : List Value} {xab_NoHouses : Bool} {xcol_NoHouses : Option Bool} {xdd_NoHouses : Option Addr} {xm0_NoHouses xm1_NoHouses xm2_NoHouses xm3_NoHouses xm5_NoHouses : Option Value} {xod_NoHouses xan_NoHouses : Option Addr} {xosl_NoHouses : Array (Option Value)} {xoc_NoHouses xkV_NoHouses xdoc_NoHouses xpm_NoHouses xcdv_NoHouses xct_NoHouses : Value}
    (xz_NoHouses : PySem.W.nsIn K mainGlobals "NoHouses" = some (some (.ref xC_NoHouses))) (xlc_NoHouses : K.lookup xC_NoHouses = some (excClassObj "NoHouses" xcq_NoHouses xC_NoHouses xN_NoHouses xbs_NoHouses [.type "ValueError", .type "Exception", .type "BaseException", .type "object"] true xsn_NoHouses xsub_NoHouses xab_NoHouses xcol_NoHouses xdd_NoHouses xm0_NoHouses xm1_NoHouses xm2_NoHouses xm3_NoHouses xm5_NoHouses "ValueError.__new__"))
    (xsa_NoHouses : PySem.W.findIn K (.ref xC_NoHouses) "__setattr__" = some (some (.builtin "object.__setattr__"))) (xkc_NoHouses : PySem.W.keepIn K (.ref xC_NoHouses) = true)
    (xga_NoHouses : PySem.W.findIn K (.ref xC_NoHouses) "__getattribute__" = some (some (.builtin "BaseException.__getattribute__"))) (xgg_NoHouses : PySem.W.findIn K (.ref xC_NoHouses) "__getattr__" = some none) (xca_NoHouses : PySem.W.findIn K (.ref xC_NoHouses) "__class__" = some (some (.builtin "object.__class__"))) (xfn0_NoHouses : PySem.W.findIn K (.ref xC_NoHouses) "number" = some none)
    (xfi_NoHouses : PySem.W.findIn K (.ref xC_NoHouses) "__init__" = some (some (.ref xI_NoHouses))) (xti_NoHouses : PySem.W.typeIn K (.ref xI_NoHouses) = some (.type "function"))
    (xlf_NoHouses : K.lookup xI_NoHouses = some ⟨xoc_NoHouses, xod_NoHouses, .func (PySem.W.fnOf "__init__" "NoHouses.__init__" (defArgs sE_NoHouses) (defBody sE_NoHouses) (defScope sE_NoHouses) .none xkV_NoHouses xdoc_NoHouses xpm_NoHouses xan_NoHouses xcdv_NoHouses xct_NoHouses), xosl_NoHouses⟩) (xcf_NoHouses : PySem.W.codeIn K xcdv_NoHouses "NoHouses.__init__" = true) (xkf_NoHouses : PySem.W.keepIn K (.ref xI_NoHouses) = true)
    {xC_Barred xI_Barred xN_Barred : Addr} {xcq_Barred : Str} {xbs_Barred : List Value} {xsn_Barred : List Str} {xsub_Barred : List Value} {xab_Barred : Bool} {xcol_Barred : Option Bool} {xdd_Barred : Option Addr} {xm0_Barred xm1_Barred xm2_Barred xm3_Barred xm5_Barred : Option Value} {xod_Barred xan_Barred : Option Addr} {xosl_Barred : Array (Option Value)} {xoc_Barred xkV_Barred xdoc_Barred xpm_Barred xcdv_Barred xct_Barred : Value}
    (xz_Barred : PySem.W.nsIn K mainGlobals "Barred" = some (some (.ref xC_Barred))) (xlc_Barred : K.lookup xC_Barred = some (excClassObj "Barred" xcq_Barred xC_Barred xN_Barred xbs_Barred [.type "ValueError", .type "Exception", .type "BaseException", .type "object"] true xsn_Barred xsub_Barred xab_Barred xcol_Barred xdd_Barred xm0_Barred xm1_Barred xm2_Barred xm3_Barred xm5_Barred "ValueError.__new__"))
    (xsa_Barred : PySem.W.findIn K (.ref xC_Barred) "__setattr__" = some (some (.builtin "object.__setattr__"))) (xkc_Barred : PySem.W.keepIn K (.ref xC_Barred) = true)
    (xga_Barred : PySem.W.findIn K (.ref xC_Barred) "__getattribute__" = some (some (.builtin "BaseException.__getattribute__"))) (xgg_Barred : PySem.W.findIn K (.ref xC_Barred) "__getattr__" = some none) (xca_Barred : PySem.W.findIn K (.ref xC_Barred) "__class__" = some (some (.builtin "object.__class__"))) (xfn0_Barred : PySem.W.findIn K (.ref xC_Barred) "where" = some none) (xfn1_Barred : PySem.W.findIn K (.ref xC_Barred) "rule" = some none)
    (xfi_Barred : PySem.W.findIn K (.ref xC_Barred) "__init__" = some (some (.ref xI_Barred))) (xti_Barred : PySem.W.typeIn K (.ref xI_Barred) = some (.type "function"))
    (xlf_Barred : K.lookup xI_Barred = some ⟨xoc_Barred, xod_Barred, .func (PySem.W.fnOf "__init__" "Barred.__init__" (defArgs sE_Barred) (defBody sE_Barred) (defScope sE_Barred) .none xkV_Barred xdoc_Barred xpm_Barred xan_Barred xcdv_Barred xct_Barred), xosl_Barred⟩) (xcf_Barred : PySem.W.codeIn K xcdv_Barred "Barred.__init__" = true) (xkf_Barred : PySem.W.keepIn K (.ref xI_Barred) = true)
    {xC_NoName xI_NoName xN_NoName : Addr} {xcq_NoName : Str} {xbs_NoName : List Value} {xsn_NoName : List Str} {xsub_NoName : List Value} {xab_NoName : Bool} {xcol_NoName : Option Bool} {xdd_NoName : Option Addr} {xm0_NoName xm1_NoName xm2_NoName xm3_NoName xm5_NoName : Option Value} {xod_NoName xan_NoName : Option Addr} {xosl_NoName : Array (Option Value)} {xoc_NoName xkV_NoName xdoc_NoName xpm_NoName xcdv_NoName xct_NoName : Value}
    (xz_NoName : PySem.W.nsIn K mainGlobals "NoName" = some (some (.ref xC_NoName))) (xlc_NoName : K.lookup xC_NoName = some (excClassObj "NoName" xcq_NoName xC_NoName xN_NoName xbs_NoName [.type "KeyError", .type "LookupError", .type "Exception", .type "BaseException", .type "object"] true xsn_NoName xsub_NoName xab_NoName xcol_NoName xdd_NoName xm0_NoName xm1_NoName xm2_NoName xm3_NoName xm5_NoName "LookupError.__new__"))
    (xsa_NoName : PySem.W.findIn K (.ref xC_NoName) "__setattr__" = some (some (.builtin "object.__setattr__"))) (xkc_NoName : PySem.W.keepIn K (.ref xC_NoName) = true)
    (xga_NoName : PySem.W.findIn K (.ref xC_NoName) "__getattribute__" = some (some (.builtin "BaseException.__getattribute__"))) (xgg_NoName : PySem.W.findIn K (.ref xC_NoName) "__getattr__" = some none) (xca_NoName : PySem.W.findIn K (.ref xC_NoName) "__class__" = some (some (.builtin "object.__class__"))) (xfn0_NoName : PySem.W.findIn K (.ref xC_NoName) "name" = some none)
    (xfi_NoName : PySem.W.findIn K (.ref xC_NoName) "__init__" = some (some (.ref xI_NoName))) (xti_NoName : PySem.W.typeIn K (.ref xI_NoName) = some (.type "function"))
    (xlf_NoName : K.lookup xI_NoName = some ⟨xoc_NoName, xod_NoName, .func (PySem.W.fnOf "__init__" "NoName.__init__" (defArgs sE_NoName) (defBody sE_NoName) (defScope sE_NoName) .none xkV_NoName xdoc_NoName xpm_NoName xan_NoName xcdv_NoName xct_NoName), xosl_NoName⟩) (xcf_NoName : PySem.W.codeIn K xcdv_NoName "NoName.__init__" = true) (xkf_NoName : PySem.W.keepIn K (.ref xI_NoName) = true)
    {xC_NoState xI_NoState xN_NoState : Addr} {xcq_NoState : Str} {xbs_NoState : List Value} {xsn_NoState : List Str} {xsub_NoState : List Value} {xab_NoState : Bool} {xcol_NoState : Option Bool} {xdd_NoState : Option Addr} {xm0_NoState xm1_NoState xm2_NoState xm3_NoState xm5_NoState : Option Value} {xod_NoState xan_NoState : Option Addr} {xosl_NoState : Array (Option Value)} {xoc_NoState xkV_NoState xdoc_NoState xpm_NoState xcdv_NoState xct_NoState : Value}
    (xz_NoState : PySem.W.nsIn K mainGlobals "NoState" = some (some (.ref xC_NoState))) (xlc_NoState : K.lookup xC_NoState = some (excClassObj "NoState" xcq_NoState xC_NoState xN_NoState xbs_NoState [.type "LookupError", .type "Exception", .type "BaseException", .type "object"] true xsn_NoState xsub_NoState xab_NoState xcol_NoState xdd_NoState xm0_NoState xm1_NoState xm2_NoState xm3_NoState xm5_NoState "LookupError.__new__"))
    (xsa_NoState : PySem.W.findIn K (.ref xC_NoState) "__setattr__" = some (some (.builtin "object.__setattr__"))) (xkc_NoState : PySem.W.keepIn K (.ref xC_NoState) = true)
    (xga_NoState : PySem.W.findIn K (.ref xC_NoState) "__getattribute__" = some (some (.builtin "BaseException.__getattribute__"))) (xgg_NoState : PySem.W.findIn K (.ref xC_NoState) "__getattr__" = some none) (xca_NoState : PySem.W.findIn K (.ref xC_NoState) "__class__" = some (some (.builtin "object.__class__"))) (xfn0_NoState : PySem.W.findIn K (.ref xC_NoState) "name" = some none)
    (xfi_NoState : PySem.W.findIn K (.ref xC_NoState) "__init__" = some (some (.ref xI_NoState))) (xti_NoState : PySem.W.typeIn K (.ref xI_NoState) = some (.type "function"))
    (xlf_NoState : K.lookup xI_NoState = some ⟨xoc_NoState, xod_NoState, .func (PySem.W.fnOf "__init__" "NoState.__init__" (defArgs sE_NoState) (defBody sE_NoState) (defScope sE_NoState) .none xkV_NoState xdoc_NoState xpm_NoState xan_NoState xcdv_NoState xct_NoState), xosl_NoState⟩) (xcf_NoState : PySem.W.codeIn K xcdv_NoState "NoState.__init__" = true) (xkf_NoState : PySem.W.keepIn K (.ref xI_NoState) = true)
    {xC_NoGoing xI_NoGoing xN_NoGoing : Addr} {xcq_NoGoing : Str} {xbs_NoGoing : List Value} {xsn_NoGoing : List Str} {xsub_NoGoing : List Value} {xab_NoGoing : Bool} {xcol_NoGoing : Option Bool} {xdd_NoGoing : Option Addr} {xm0_NoGoing xm1_NoGoing xm2_NoGoing xm3_NoGoing xm5_NoGoing : Option Value} {xod_NoGoing xan_NoGoing : Option Addr} {xosl_NoGoing : Array (Option Value)} {xoc_NoGoing xkV_NoGoing xdoc_NoGoing xpm_NoGoing xcdv_NoGoing xct_NoGoing : Value}
    (xz_NoGoing : PySem.W.nsIn K mainGlobals "NoGoing" = some (some (.ref xC_NoGoing))) (xlc_NoGoing : K.lookup xC_NoGoing = some (excClassObj "NoGoing" xcq_NoGoing xC_NoGoing xN_NoGoing xbs_NoGoing [.type "LookupError", .type "Exception", .type "BaseException", .type "object"] true xsn_NoGoing xsub_NoGoing xab_NoGoing xcol_NoGoing xdd_NoGoing xm0_NoGoing xm1_NoGoing xm2_NoGoing xm3_NoGoing xm5_NoGoing "LookupError.__new__"))
    (xsa_NoGoing : PySem.W.findIn K (.ref xC_NoGoing) "__setattr__" = some (some (.builtin "object.__setattr__"))) (xkc_NoGoing : PySem.W.keepIn K (.ref xC_NoGoing) = true)
    (xga_NoGoing : PySem.W.findIn K (.ref xC_NoGoing) "__getattribute__" = some (some (.builtin "BaseException.__getattribute__"))) (xgg_NoGoing : PySem.W.findIn K (.ref xC_NoGoing) "__getattr__" = some none) (xca_NoGoing : PySem.W.findIn K (.ref xC_NoGoing) "__class__" = some (some (.builtin "object.__class__"))) (xfn0_NoGoing : PySem.W.findIn K (.ref xC_NoGoing) "name" = some none)
    (xfi_NoGoing : PySem.W.findIn K (.ref xC_NoGoing) "__init__" = some (some (.ref xI_NoGoing))) (xti_NoGoing : PySem.W.typeIn K (.ref xI_NoGoing) = some (.type "function"))
    (xlf_NoGoing : K.lookup xI_NoGoing = some ⟨xoc_NoGoing, xod_NoGoing, .func (PySem.W.fnOf "__init__" "NoGoing.__init__" (defArgs sE_NoGoing) (defBody sE_NoGoing) (defScope sE_NoGoing) .none xkV_NoGoing xdoc_NoGoing xpm_NoGoing xan_NoGoing xcdv_NoGoing xct_NoGoing), xosl_NoGoing⟩) (xcf_NoGoing : PySem.W.codeIn K xcdv_NoGoing "NoGoing.__init__" = true) (xkf_NoGoing : PySem.W.keepIn K (.ref xI_NoGoing) = true)
    {xC_NoHall xN_NoHall : Addr} {xcq_NoHall : Str} {xbs_NoHall : List Value} {xsn_NoHall : List Str} {xsub_NoHall : List Value} {xab_NoHall : Bool} {xcol_NoHall : Option Bool} {xdd_NoHall : Option Addr} {xm0_NoHall xm1_NoHall xm2_NoHall xm3_NoHall xm5_NoHall : Option Value}
    (xz_NoHall : PySem.W.nsIn K mainGlobals "NoHall" = some (some (.ref xC_NoHall))) (xlc_NoHall : K.lookup xC_NoHall = some (excClassObj "NoHall" xcq_NoHall xC_NoHall xN_NoHall xbs_NoHall [.type "LookupError", .type "Exception", .type "BaseException", .type "object"] true xsn_NoHall xsub_NoHall xab_NoHall xcol_NoHall xdd_NoHall xm0_NoHall xm1_NoHall xm2_NoHall xm3_NoHall xm5_NoHall "LookupError.__new__"))
    (xsa_NoHall : PySem.W.findIn K (.ref xC_NoHall) "__setattr__" = some (some (.builtin "object.__setattr__"))) (xkc_NoHall : PySem.W.keepIn K (.ref xC_NoHall) = true)
    (xga_NoHall : PySem.W.findIn K (.ref xC_NoHall) "__getattribute__" = some (some (.builtin "BaseException.__getattribute__"))) (xgg_NoHall : PySem.W.findIn K (.ref xC_NoHall) "__getattr__" = some none) (xca_NoHall : PySem.W.findIn K (.ref xC_NoHall) "__class__" = some (some (.builtin "object.__class__"))) 
    (xfi_NoHall : PySem.W.findIn K (.ref xC_NoHall) "__init__" = some (some (.builtin "LookupError.__init__")))
    {xC_Full xN_Full : Addr} {xcq_Full : Str} {xbs_Full : List Value} {xsn_Full : List Str} {xsub_Full : List Value} {xab_Full : Bool} {xcol_Full : Option Bool} {xdd_Full : Option Addr} {xm0_Full xm1_Full xm2_Full xm3_Full xm5_Full : Option Value}
    (xz_Full : PySem.W.nsIn K mainGlobals "Full" = some (some (.ref xC_Full))) (xlc_Full : K.lookup xC_Full = some (excClassObj "Full" xcq_Full xC_Full xN_Full xbs_Full [.type "OverflowError", .type "ArithmeticError", .type "Exception", .type "BaseException", .type "object"] true xsn_Full xsub_Full xab_Full xcol_Full xdd_Full xm0_Full xm1_Full xm2_Full xm3_Full xm5_Full "OverflowError.__new__"))
    (xsa_Full : PySem.W.findIn K (.ref xC_Full) "__setattr__" = some (some (.builtin "object.__setattr__"))) (xkc_Full : PySem.W.keepIn K (.ref xC_Full) = true)
    (xga_Full : PySem.W.findIn K (.ref xC_Full) "__getattribute__" = some (some (.builtin "BaseException.__getattribute__"))) (xgg_Full : PySem.W.findIn K (.ref xC_Full) "__getattr__" = some none) (xca_Full : PySem.W.findIn K (.ref xC_Full) "__class__" = some (some (.builtin "object.__class__"))) 
    (xfi_Full : PySem.W.findIn K (.ref xC_Full) "__init__" = some (some (.builtin "OverflowError.__init__")))
    {xC_TooMany xI_TooMany xN_TooMany : Addr} {xcq_TooMany : Str} {xbs_TooMany : List Value} {xsn_TooMany : List Str} {xsub_TooMany : List Value} {xab_TooMany : Bool} {xcol_TooMany : Option Bool} {xdd_TooMany : Option Addr} {xm0_TooMany xm1_TooMany xm2_TooMany xm3_TooMany xm5_TooMany : Option Value} {xod_TooMany xan_TooMany : Option Addr} {xosl_TooMany : Array (Option Value)} {xoc_TooMany xkV_TooMany xdoc_TooMany xpm_TooMany xcdv_TooMany xct_TooMany : Value}
    (xz_TooMany : PySem.W.nsIn K mainGlobals "TooMany" = some (some (.ref xC_TooMany))) (xlc_TooMany : K.lookup xC_TooMany = some (excClassObj "TooMany" xcq_TooMany xC_TooMany xN_TooMany xbs_TooMany [.type "OverflowError", .type "ArithmeticError", .type "Exception", .type "BaseException", .type "object"] true xsn_TooMany xsub_TooMany xab_TooMany xcol_TooMany xdd_TooMany xm0_TooMany xm1_TooMany xm2_TooMany xm3_TooMany xm5_TooMany "OverflowError.__new__"))
    (xsa_TooMany : PySem.W.findIn K (.ref xC_TooMany) "__setattr__" = some (some (.builtin "object.__setattr__"))) (xkc_TooMany : PySem.W.keepIn K (.ref xC_TooMany) = true)
    (xga_TooMany : PySem.W.findIn K (.ref xC_TooMany) "__getattribute__" = some (some (.builtin "BaseException.__getattribute__"))) (xgg_TooMany : PySem.W.findIn K (.ref xC_TooMany) "__getattr__" = some none) (xca_TooMany : PySem.W.findIn K (.ref xC_TooMany) "__class__" = some (some (.builtin "object.__class__"))) (xfn0_TooMany : PySem.W.findIn K (.ref xC_TooMany) "many" = some none)
    (xfi_TooMany : PySem.W.findIn K (.ref xC_TooMany) "__init__" = some (some (.ref xI_TooMany))) (xti_TooMany : PySem.W.typeIn K (.ref xI_TooMany) = some (.type "function"))
    (xlf_TooMany : K.lookup xI_TooMany = some ⟨xoc_TooMany, xod_TooMany, .func (PySem.W.fnOf "__init__" "TooMany.__init__" (defArgs sE_TooMany) (defBody sE_TooMany) (defScope sE_TooMany) .none xkV_TooMany xdoc_TooMany xpm_TooMany xan_TooMany xcdv_TooMany xct_TooMany), xosl_TooMany⟩) (xcf_TooMany : PySem.W.codeIn K xcdv_TooMany "TooMany.__init__" = true) (xkf_TooMany : PySem.W.keepIn K (.ref xI_TooMany) = true)
    {xC_Twin xI_Twin xN_Twin : Addr} {xcq_Twin : Str} {xbs_Twin : List Value} {xsn_Twin : List Str} {xsub_Twin : List Value} {xab_Twin : Bool} {xcol_Twin : Option Bool} {xdd_Twin : Option Addr} {xm0_Twin xm1_Twin xm2_Twin xm3_Twin xm5_Twin : Option Value} {xod_Twin xan_Twin : Option Addr} {xosl_Twin : Array (Option Value)} {xoc_Twin xkV_Twin xdoc_Twin xpm_Twin xcdv_Twin xct_Twin : Value}
    (xz_Twin : PySem.W.nsIn K mainGlobals "Twin" = some (some (.ref xC_Twin))) (xlc_Twin : K.lookup xC_Twin = some (excClassObj "Twin" xcq_Twin xC_Twin xN_Twin xbs_Twin [.type "RuntimeError", .type "Exception", .type "BaseException", .type "object"] true xsn_Twin xsub_Twin xab_Twin xcol_Twin xdd_Twin xm0_Twin xm1_Twin xm2_Twin xm3_Twin xm5_Twin "RuntimeError.__new__"))
    (xsa_Twin : PySem.W.findIn K (.ref xC_Twin) "__setattr__" = some (some (.builtin "object.__setattr__"))) (xkc_Twin : PySem.W.keepIn K (.ref xC_Twin) = true)
    (xga_Twin : PySem.W.findIn K (.ref xC_Twin) "__getattribute__" = some (some (.builtin "BaseException.__getattribute__"))) (xgg_Twin : PySem.W.findIn K (.ref xC_Twin) "__getattr__" = some none) (xca_Twin : PySem.W.findIn K (.ref xC_Twin) "__class__" = some (some (.builtin "object.__class__"))) (xfn0_Twin : PySem.W.findIn K (.ref xC_Twin) "name" = some none)
    (xfi_Twin : PySem.W.findIn K (.ref xC_Twin) "__init__" = some (some (.ref xI_Twin))) (xti_Twin : PySem.W.typeIn K (.ref xI_Twin) = some (.type "function"))
    (xlf_Twin : K.lookup xI_Twin = some ⟨xoc_Twin, xod_Twin, .func (PySem.W.fnOf "__init__" "Twin.__init__" (defArgs sE_Twin) (defBody sE_Twin) (defScope sE_Twin) .none xkV_Twin xdoc_Twin xpm_Twin xan_Twin xcdv_Twin xct_Twin), xosl_Twin⟩) (xcf_Twin : PySem.W.codeIn K xcdv_Twin "Twin.__init__" = true) (xkf_Twin : PySem.W.keepIn K (.ref xI_Twin) = true)
    {xC_Busy xN_Busy : Addr} {xcq_Busy : Str} {xbs_Busy : List Value} {xsn_Busy : List Str} {xsub_Busy : List Value} {xab_Busy : Bool} {xcol_Busy : Option Bool} {xdd_Busy : Option Addr} {xm0_Busy xm1_Busy xm2_Busy xm3_Busy xm5_Busy : Option Value}
    (xz_Busy : PySem.W.nsIn K mainGlobals "Busy" = some (some (.ref xC_Busy))) (xlc_Busy : K.lookup xC_Busy = some (excClassObj "Busy" xcq_Busy xC_Busy xN_Busy xbs_Busy [.type "RuntimeError", .type "Exception", .type "BaseException", .type "object"] true xsn_Busy xsub_Busy xab_Busy xcol_Busy xdd_Busy xm0_Busy xm1_Busy xm2_Busy xm3_Busy xm5_Busy "RuntimeError.__new__"))
    (xsa_Busy : PySem.W.findIn K (.ref xC_Busy) "__setattr__" = some (some (.builtin "object.__setattr__"))) (xkc_Busy : PySem.W.keepIn K (.ref xC_Busy) = true)
    (xga_Busy : PySem.W.findIn K (.ref xC_Busy) "__getattribute__" = some (some (.builtin "BaseException.__getattribute__"))) (xgg_Busy : PySem.W.findIn K (.ref xC_Busy) "__getattr__" = some none) (xca_Busy : PySem.W.findIn K (.ref xC_Busy) "__class__" = some (some (.builtin "object.__class__"))) 
    (xfi_Busy : PySem.W.findIn K (.ref xC_Busy) "__init__" = some (some (.builtin "RuntimeError.__init__")))
    (xsp : PySem.W.specialIn K (.builtin "object.__class__") "__get__" = some (some (.builtin "getset_descriptor.__get__"))) (xtk : PySem.W.takesIn K (.builtin "object.__class__") = some true)
    (xv_KeyError : PySem.W.findCls K (.type "KeyError") (.type "type") "__init__" = some (.val (.builtin "KeyError.__init__")))
    (xv_LookupError : PySem.W.findCls K (.type "LookupError") (.type "type") "__init__" = some (.val (.builtin "LookupError.__init__")))
    (xv_OverflowError : PySem.W.findCls K (.type "OverflowError") (.type "type") "__init__" = some (.val (.builtin "OverflowError.__init__")))
    (xv_RuntimeError : PySem.W.findCls K (.type "RuntimeError") (.type "type") "__init__" = some (.val (.builtin "RuntimeError.__init__")))
    (xv_ValueError : PySem.W.findCls K (.type "ValueError") (.type "type") "__init__" = some (.val (.builtin "ValueError.__init__"))) :
    Tx K mg where
  d__law_pool := draw_mk X G a0 l0 c0 k0 fun _ _ _ _ _ _ us hl => match us, hl with | [_, _], _ => rfl
  d__law_take := draw_mk X G a1 l1 c1 k1 fun _ _ _ _ _ _ us hl => match us, hl with | [_, _], _ => rfl
  d__law_own := draw_mk X G a2 l2 c2 k2 fun _ _ _ _ _ _ us hl => match us, hl with | [_], _ => rfl
  d__law_roots := draw_mk X G a3 l3 c3 k3 fun _ _ _ _ _ _ us hl => match us, hl with | [_], _ => rfl
  d__law_fields := draw_mk X G a4 l4 c4 k4 fun _ _ _ _ _ _ us hl => match us, hl with | [_], _ => rfl
  d__law_letters := draw_mk X G a5 l5 c5 k5 fun _ _ _ _ _ _ us hl => match us, hl with | [_, _], _ => rfl
  d__law_made := draw_mk X G a6 l6 c6 k6 fun _ _ _ _ _ _ us hl => match us, hl with | [_, _], _ => rfl
  d__law_named := draw_mk X G a7 l7 c7 k7 fun _ _ _ _ _ _ us hl => match us, hl with | [_, _], _ => rfl
  d_law := draw_mk X G a8 l8 c8 k8 fun _ _ _ _ _ _ us hl => match us, hl with | [_], _ => rfl
  b_IndexError := PySem.W.mg_none_of X G z_IndexError
  b_KeyError := PySem.W.mg_none_of X G z_KeyError
  b_LookupError := PySem.W.mg_none_of X G z_LookupError
  b_OverflowError := PySem.W.mg_none_of X G z_OverflowError
  b_RuntimeError := PySem.W.mg_none_of X G z_RuntimeError
  b_ValueError := PySem.W.mg_none_of X G z_ValueError
  b_enumerate := PySem.W.mg_none_of X G z_enumerate
  b_int := PySem.W.mg_none_of X G z_int
  b_isinstance := PySem.W.mg_none_of X G z_isinstance
  b_len := PySem.W.mg_none_of X G z_len
  b_max := PySem.W.mg_none_of X G z_max
  b_min := PySem.W.mg_none_of X G z_min
  b_range := PySem.W.mg_none_of X G z_range
  b_repr := PySem.W.mg_none_of X G z_repr
  e_NoDeed := ecRaw_mk (ecC_mk (b := .ve) (fl := ["part"]) X G xz_NoDeed xlc_NoDeed xsa_NoDeed xkc_NoDeed xga_NoDeed xgg_NoDeed xca_NoDeed xsp xtk (by intro x hx; rcases List.mem_cons.mp hx with rfl | hx; exact xfn0_NoDeed; cases hx)) xfi_NoDeed xti_NoDeed xlf_NoDeed xcf_NoDeed xkf_NoDeed (fun _ _ _ _ _ _ us hl => match us, hl with | [_, _], _ => rfl) (fun _ _ _ _ _ _ u ws hl => match ws, hl with | [_], _ => rfl)
  e_NoText := ecRaw_mk (ecC_mk (b := .ve) (fl := ["part"]) X G xz_NoText xlc_NoText xsa_NoText xkc_NoText xga_NoText xgg_NoText xca_NoText xsp xtk (by intro x hx; rcases List.mem_cons.mp hx with rfl | hx; exact xfn0_NoText; cases hx)) xfi_NoText xti_NoText xlf_NoText xcf_NoText xkf_NoText (fun _ _ _ _ _ _ us hl => match us, hl with | [_, _], _ => rfl) (fun _ _ _ _ _ _ u ws hl => match ws, hl with | [_], _ => rfl)
  e_NoStates := ecRaw_mk (ecC_mk (b := .ve) (fl := ["number"]) X G xz_NoStates xlc_NoStates xsa_NoStates xkc_NoStates xga_NoStates xgg_NoStates xca_NoStates xsp xtk (by intro x hx; rcases List.mem_cons.mp hx with rfl | hx; exact xfn0_NoStates; cases hx)) xfi_NoStates xti_NoStates xlf_NoStates xcf_NoStates xkf_NoStates (fun _ _ _ _ _ _ us hl => match us, hl with | [_, _], _ => rfl) (fun _ _ _ _ _ _ u ws hl => match ws, hl with | [_], _ => rfl)
  e_NoPaper := ⟨_, (ecC_mk (b := .ve) (fl := []) X G xz_NoPaper xlc_NoPaper xsa_NoPaper xkc_NoPaper xga_NoPaper xgg_NoPaper xca_NoPaper xsp xtk (by intro x hx; cases hx)), xfi_NoPaper⟩
  e_NoBegin := ⟨_, (ecC_mk (b := .ve) (fl := []) X G xz_NoBegin xlc_NoBegin xsa_NoBegin xkc_NoBegin xga_NoBegin xgg_NoBegin xca_NoBegin xsp xtk (by intro x hx; cases hx)), xfi_NoBegin⟩
  e_NoRow := ecRaw_mk (ecC_mk (b := .ve) (fl := ["number"]) X G xz_NoRow xlc_NoRow xsa_NoRow xkc_NoRow xga_NoRow xgg_NoRow xca_NoRow xsp xtk (by intro x hx; rcases List.mem_cons.mp hx with rfl | hx; exact xfn0_NoRow; cases hx)) xfi_NoRow xti_NoRow xlf_NoRow xcf_NoRow xkf_NoRow (fun _ _ _ _ _ _ us hl => match us, hl with | [_, _], _ => rfl) (fun _ _ _ _ _ _ u ws hl => match ws, hl with | [_], _ => rfl)
  e_NoHouse := ecRaw_mk (ecC_mk (b := .ve) (fl := ["house"]) X G xz_NoHouse xlc_NoHouse xsa_NoHouse xkc_NoHouse xga_NoHouse xgg_NoHouse xca_NoHouse xsp xtk (by intro x hx; rcases List.mem_cons.mp hx with rfl | hx; exact xfn0_NoHouse; cases hx)) xfi_NoHouse xti_NoHouse xlf_NoHouse xcf_NoHouse xkf_NoHouse (fun _ _ _ _ _ _ us hl => match us, hl with | [_, _], _ => rfl) (fun _ _ _ _ _ _ u ws hl => match ws, hl with | [_], _ => rfl)
  e_NoHouses := ecRaw_mk (ecC_mk (b := .ve) (fl := ["number"]) X G xz_NoHouses xlc_NoHouses xsa_NoHouses xkc_NoHouses xga_NoHouses xgg_NoHouses xca_NoHouses xsp xtk (by intro x hx; rcases List.mem_cons.mp hx with rfl | hx; exact xfn0_NoHouses; cases hx)) xfi_NoHouses xti_NoHouses xlf_NoHouses xcf_NoHouses xkf_NoHouses (fun _ _ _ _ _ _ us hl => match us, hl with | [_, _], _ => rfl) (fun _ _ _ _ _ _ u ws hl => match ws, hl with | [_], _ => rfl)
  e_Barred := ecRaw_mk (ecC_mk (b := .ve) (fl := ["where", "rule"]) X G xz_Barred xlc_Barred xsa_Barred xkc_Barred xga_Barred xgg_Barred xca_Barred xsp xtk (by intro x hx; rcases List.mem_cons.mp hx with rfl | hx; exact xfn0_Barred; rcases List.mem_cons.mp hx with rfl | hx; exact xfn1_Barred; cases hx)) xfi_Barred xti_Barred xlf_Barred xcf_Barred xkf_Barred (fun _ _ _ _ _ _ us hl => match us, hl with | [_, _, _], _ => rfl) (fun _ _ _ _ _ _ u ws hl => match ws, hl with | [_, _], _ => rfl)
  e_NoName := ecRaw_mk (ecC_mk (b := .ke) (fl := ["name"]) X G xz_NoName xlc_NoName xsa_NoName xkc_NoName xga_NoName xgg_NoName xca_NoName xsp xtk (by intro x hx; rcases List.mem_cons.mp hx with rfl | hx; exact xfn0_NoName; cases hx)) xfi_NoName xti_NoName xlf_NoName xcf_NoName xkf_NoName (fun _ _ _ _ _ _ us hl => match us, hl with | [_, _], _ => rfl) (fun _ _ _ _ _ _ u ws hl => match ws, hl with | [_], _ => rfl)
  e_NoState := ecRaw_mk (ecC_mk (b := .le) (fl := ["name"]) X G xz_NoState xlc_NoState xsa_NoState xkc_NoState xga_NoState xgg_NoState xca_NoState xsp xtk (by intro x hx; rcases List.mem_cons.mp hx with rfl | hx; exact xfn0_NoState; cases hx)) xfi_NoState xti_NoState xlf_NoState xcf_NoState xkf_NoState (fun _ _ _ _ _ _ us hl => match us, hl with | [_, _], _ => rfl) (fun _ _ _ _ _ _ u ws hl => match ws, hl with | [_], _ => rfl)
  e_NoGoing := ecRaw_mk (ecC_mk (b := .le) (fl := ["name"]) X G xz_NoGoing xlc_NoGoing xsa_NoGoing xkc_NoGoing xga_NoGoing xgg_NoGoing xca_NoGoing xsp xtk (by intro x hx; rcases List.mem_cons.mp hx with rfl | hx; exact xfn0_NoGoing; cases hx)) xfi_NoGoing xti_NoGoing xlf_NoGoing xcf_NoGoing xkf_NoGoing (fun _ _ _ _ _ _ us hl => match us, hl with | [_, _], _ => rfl) (fun _ _ _ _ _ _ u ws hl => match ws, hl with | [_], _ => rfl)
  e_NoHall := ⟨_, (ecC_mk (b := .le) (fl := []) X G xz_NoHall xlc_NoHall xsa_NoHall xkc_NoHall xga_NoHall xgg_NoHall xca_NoHall xsp xtk (by intro x hx; cases hx)), xfi_NoHall⟩
  e_Full := ⟨_, (ecC_mk (b := .oe) (fl := []) X G xz_Full xlc_Full xsa_Full xkc_Full xga_Full xgg_Full xca_Full xsp xtk (by intro x hx; cases hx)), xfi_Full⟩
  e_TooMany := ecRaw_mk (ecC_mk (b := .oe) (fl := ["many"]) X G xz_TooMany xlc_TooMany xsa_TooMany xkc_TooMany xga_TooMany xgg_TooMany xca_TooMany xsp xtk (by intro x hx; rcases List.mem_cons.mp hx with rfl | hx; exact xfn0_TooMany; cases hx)) xfi_TooMany xti_TooMany xlf_TooMany xcf_TooMany xkf_TooMany (fun _ _ _ _ _ _ us hl => match us, hl with | [_, _], _ => rfl) (fun _ _ _ _ _ _ u ws hl => match ws, hl with | [_], _ => rfl)
  e_Twin := ecRaw_mk (ecC_mk (b := .re) (fl := ["name"]) X G xz_Twin xlc_Twin xsa_Twin xkc_Twin xga_Twin xgg_Twin xca_Twin xsp xtk (by intro x hx; rcases List.mem_cons.mp hx with rfl | hx; exact xfn0_Twin; cases hx)) xfi_Twin xti_Twin xlf_Twin xcf_Twin xkf_Twin (fun _ _ _ _ _ _ us hl => match us, hl with | [_, _], _ => rfl) (fun _ _ _ _ _ _ u ws hl => match ws, hl with | [_], _ => rfl)
  e_Busy := ⟨_, (ecC_mk (b := .re) (fl := []) X G xz_Busy xlc_Busy xsa_Busy xkc_Busy xga_Busy xgg_Busy xca_Busy xsp xtk (by intro x hx; cases hx)), xfi_Busy⟩
  v_KeyError := xv_KeyError
  v_LookupError := xv_LookupError
  v_OverflowError := xv_OverflowError
  v_RuntimeError := xv_RuntimeError
  v_ValueError := xv_ValueError
theorem law_fd {q : Program} {w : World} {K : PySem.W.Frag} {mg : Str → Option Value} {fa : Addr} (T : Tx K mg) (hfa : mg "law" = some (.ref fa)) :
    ∃ fd : FuncData, (∀ (t : Shared) (u : Value), BindsTo t fd ⟨[u], []⟩ [("_law_script", u)]) ∧ ∀ base : Heap, K.In base → base.Ns mainGlobals mg → DFok q w K mg base CX0 5 fa fd ["_law_script"] F_law :=
  dlaw_fd T.d_law hfa (fun _ _ _ _ _ _ _ => rfl) fun base _ _ F => ok_law T F
end K04
end
/-! ==== DSim ==== -/
section
set_option Elab.async false
set_option linter.all false
set_option autoImplicit false
set_option maxRecDepth 100000
set_option maxHeartbeats 4000000
/-! DL: the combinators, applied. Printed by simgen.py. -/
namespace DL
open PySem
@[simp] theorem dVar_s (i : Nat) (s : DSl) (G : DH) : dVar i s G = match s[i]? with
  | some (some d) => .ok d G
  | _ => .stop := (rfl)
@[simp] theorem dC_s (d : D) (x0 : DSl) (G : DH) : dC d x0 G = .ok d G := (rfl)
@[simp] theorem dBin_s (F : D → D → DH → R D) (a b : DE) (s : DSl) (G : DH) : dBin F a b s G = (a s G).bind fun x G => (b s G).bind fun y G => F x y G := (rfl)
@[simp] theorem dTest_s (f : DE) (s : DSl) (G : DH) : dTest f s G = (f s G).bind fun d G => match d with
  | .bl b => .ok b G
  | _ => .stop := (rfl)
@[simp] theorem dChain_s (F F' : D → D → DH → R D) (a b c : DE) (s : DSl) (G : DH) : dChain F F' a b c s G = (a s G).bind fun x G => (b s G).bind fun y G => (F x y G).bind fun z G => match z with
  | .bl true => (c s G).bind fun w G => F' y w G
  | .bl false => .ok (.bl false) G
  | _ => .stop := (rfl)
@[simp] theorem dUn_s (F : D → DH → R D) (a : DE) (s : DSl) (G : DH) : dUn F a s G = (a s G).bind F := (rfl)
@[simp] theorem dAnd_s (a b : DE) (s : DSl) (G : DH) : dAnd a b s G = (a s G).bind fun x G => match truD G x with
  | some true => b s G
  | some false => .ok x G
  | none => .stop := (rfl)
@[simp] theorem dOr_s (a b : DE) (s : DSl) (G : DH) : dOr a b s G = (a s G).bind fun x G => match truD G x with
  | some true => .ok x G
  | some false => b s G
  | none => .stop := (rfl)
@[simp] theorem dNot_s (a : DE) (s : DSl) (G : DH) : dNot a s G = (a s G).bind fun x G => match truD G x with
  | some b => .ok (.bl (!b)) G
  | none => .stop := (rfl)
@[simp] theorem dTru_s (a : DE) (s : DSl) (G : DH) : dTru a s G = (a s G).bind fun x G => match truD G x with
  | some b => .ok b G
  | none => .stop := (rfl)
@[simp] theorem tAndD_s (a b : DT) (s : DSl) (G : DH) : tAndD a b s G = (a s G).bind fun c G => if c = true then b s G else .ok false G := (rfl)
@[simp] theorem tOrD_s (a b : DT) (s : DSl) (G : DH) : tOrD a b s G = (a s G).bind fun c G => if c = true then .ok true G else b s G := (rfl)
@[simp] theorem tNotD_s (a : DT) (s : DSl) (G : DH) : tNotD a s G = (a s G).bind fun c G => .ok (!c) G := (rfl)
@[simp] theorem dIf_s (c : DT) (a b : DE) (s : DSl) (G : DH) : dIf c a b s G = (c s G).bind fun k G => if k = true then a s G else b s G := (rfl)
@[simp] theorem dNil_s (x0 : DSl) (G : DH) : dNil x0 G = .ok [] G := (rfl)
@[simp] theorem dCons_s (a : DE) (r : DA) (s : DSl) (G : DH) : dCons a r s G = (a s G).bind fun x G => (r s G).bind fun xs G => .ok (x :: xs) G := (rfl)
@[simp] theorem dTup_s (a : DA) (s : DSl) (G : DH) : dTup a s G = (a s G).bind fun xs G => if xs.length ≤ sizeLine then .ok (.tup xs) G else .stop := (rfl)
@[simp] theorem dLst_s (o : Bool) (a : DA) (s : DSl) (G : DH) : dLst o a s G = (a s G).bind fun xs G => if xs.length ≤ sizeLine then mkL o xs G else .stop := (rfl)
@[simp] theorem dNoP_s (x0 : DSl) (G : DH) : dNoP x0 G = .ok none G := (rfl)
@[simp] theorem dP_s (a : DE) (s : DSl) (G : DH) : dP a s G = (a s G).bind fun x G => match x with
  | .int i => .ok (some i) G
  | _ => .stop := (rfl)
@[simp] theorem dSl_s (o : Bool) (a : DE) (l u : DO_) (s : DSl) (G : DH) : dSl o a l u s G = (a s G).bind fun x G => (l s G).bind fun lo G => (u s G).bind fun hi G => slD o x lo hi G := (rfl)
@[simp] theorem sPass_s (s : DSl) (G : DH) : sPass s G = .ok (.nx, s) G := (rfl)
@[simp] theorem sSeq_s (f g : DS) (s : DSl) (G : DH) : sSeq f g s G = sBind (f s G) g := (rfl)
@[simp] theorem sBreak_s (s : DSl) (G : DH) : sBreak s G = .ok (.bk, s) G := (rfl)
@[simp] theorem sCont_s (s : DSl) (G : DH) : sCont s G = .ok (.ct, s) G := (rfl)
@[simp] theorem sDrop_s (f : DE) (s : DSl) (G : DH) : sDrop f s G = (f s G).bind fun _ G => .ok (.nx, s) G := (rfl)
@[simp] theorem sRet_s (f : DE) (s : DSl) (G : DH) : sRet f s G = (f s G).bind fun d G => .ok (.rt d, s) G := (rfl)
@[simp] theorem sRetN_s (s : DSl) (G : DH) : sRetN s G = .ok (.rt .non, s) G := (rfl)
@[simp] theorem sIf_s (c : DT) (a b : DS) (s : DSl) (G : DH) : sIf c a b s G = (c s G).bind fun k G => if k = true then a s G else b s G := (rfl)
@[simp] theorem gNm_s (i : Nat) (d : D) (s : DSl) (G : DH) : gNm i d s G = .ok (s.set i (some d)) G := (rfl)
@[simp] theorem gNil_s (ds : List D) (s : DSl) (G : DH) : gNil ds s G = match ds with
  | [] => .ok s G
  | _ => .stop := (rfl)
@[simp] theorem gCons_s (g : DG) (r : DGs) (ds : List D) (s : DSl) (G : DH) : gCons g r ds s G = match ds with
  | d :: ds => (g d s G).bind fun s G => r ds s G
  | [] => .stop := (rfl)
@[simp] theorem gTup_s (n : Nat) (g : DGs) (d : D) (s : DSl) (G : DH) : gTup n g d s G = match tupOf d with
  | some xs => if xs.length = n then g xs s G else .stop
  | none => .stop := (rfl)
@[simp] theorem sAsg_s (f : DE) (g : DG) (s : DSl) (G : DH) : sAsg f g s G = (f s G).bind fun d G => (g d s G).bind fun s G => .ok (.nx, s) G := (rfl)
@[simp] theorem sPar_s (i j : Nat) (a : DA) (s : DSl) (G : DH) : sPar i j a s G = (a s G).bind fun ds G => match ds with
  | [x, y] => .ok (.nx, (s.set i (some x)).set j (some y)) G
  | _ => .stop := (rfl)
@[simp] theorem iSeq_s (f : DE) (s : DSl) (G : DH) : iSeq f s G = (f s G).bind fun d G => match d with
  | .lst xs => .ok xs G
  | .frz xs => .ok xs G
  | .tup xs => .ok xs G
  | .ktup xs => .ok xs G
  | _ => .stop := (rfl)
@[simp] theorem iRg1_s (a : DA) (s : DSl) (G : DH) : iRg1 a s G = (a s G).bind fun ds G => match ds with
  | [.int j] => if -4611686018427387904 ≤ j ∧ j < 4611686018427387904 then .ok (rngD 0 j.toNat) G else .stop
  | _ => .stop := (rfl)
@[simp] theorem iRg2_s (a : DA) (s : DSl) (G : DH) : iRg2 a s G = (a s G).bind fun ds G => match ds with
  | [.int i, .int j] => if -4611686018427387904 ≤ i ∧ i < 4611686018427387904 ∧ -4611686018427387904 ≤ j ∧ j < 4611686018427387904 then .ok (rngD i (j - i).toNat) G else .stop
  | _ => .stop := (rfl)
@[simp] theorem iStr_s (f : DE) (s : DSl) (G : DH) : iStr f s G = (f s G).bind fun d G => match d with
  | .str z => .ok (sgnD z) G
  | _ => .stop := (rfl)
@[simp] theorem orA_s (f g : DA) (s : DSl) (G : DH) : orA f g s G = match f s G with
  | .stop => g s G
  | r => r := (rfl)
@[simp] theorem iEnum_s (a : DA) (s : DSl) (G : DH) : iEnum a s G = (a s G).bind fun ds G => match ds with
  | [d] => match valL d with
    | some xs => .ok (enumD 0 xs) G
    | none => .stop
  | _ => .stop := (rfl)
@[simp] theorem iZip_s (a : DA) (s : DSl) (G : DH) : iZip a s G = (a s G).bind fun ds G => match ds with
  | [d, e] => match valL d, valL e with
    | some xs, some ys => .ok (zipD xs ys) G
    | _, _ => .stop
  | _ => .stop := (rfl)
@[simp] theorem sFor_s (it : DA) (g : DG) (b : DS) (s : DSl) (G : DH) : sFor it g b s G = (it s G).bind fun ds G => forL g b ds s G := (rfl)
@[simp] theorem dCall_s (F : DFn) (a : DA) (s : DSl) (G : DH) : dCall F a s G = (a s G).bind F := (rfl)
@[simp] theorem dCallK_s (np nk : Nat) (perm : List Nat) (F : DFn) (a k : DA) (s : DSl) (G : DH) : dCallK np nk perm F a k s G = (a s G).bind fun xs G => (k s G).bind fun ys G => if xs.length = np ∧ ys.length = nk then F (pick perm (xs ++ ys)) G else .stop := (rfl)
@[simp] theorem dYes_s (x0 : DSl) (G : DH) : dYes x0 G = .ok true G := (rfl)
@[simp] theorem dLc_s (o : Bool) (vs : List Nat) (it : DA) (g : DG) (tt : DT) (te : DE) (s : DSl) (G : DH) : dLc o vs it g tt te s G = (it s G).bind fun ds G => (lcL g tt te (wipeD s vs) ds [] G).bind fun xs G => mkL o xs G := (rfl)
@[simp] theorem dIsi_s (T : String) (a : DE) (s : DSl) (G : DH) : dIsi T a s G = (a s G).bind fun d G => match tyN G d with
  | some k => .ok (.bl (isiT k T)) G
  | none => .stop := (rfl)
@[simp] theorem dMt_s (T : String) (F : D → List D → DH → R D) (o : DE) (a : DA) (s : DSl) (G : DH) : dMt T F o a s G = (o s G).bind fun d G => if rcv G T d = true then (a s G).bind fun ds G => F d ds G else .stop := (rfl)
@[simp] theorem gSt_s (F : D → D → D → DH → R Unit) (o i : DE) (d : D) (s : DSl) (G : DH) : gSt F o i d s G = (o s G).bind fun x G => (i s G).bind fun y G => (F x y d G).bind fun _ G => .ok s G := (rfl)
@[simp] theorem dNewK_s (o : Bool) (x0 : DSl) (G : DH) : dNewK o x0 G = mkK o [] G := (rfl)
@[simp] theorem dNewT_s (o : Bool) (x0 : DSl) (G : DH) : dNewT o x0 G = mkT o [] G := (rfl)
@[simp] theorem lstOf_non (G : DH)  : lstOf G D.non = none := (rfl)
@[simp] theorem lstOf_bl (G : DH) (b : Bool) : lstOf G (D.bl b) = none := (rfl)
@[simp] theorem lstOf_int (G : DH) (i : Int) : lstOf G (D.int i) = none := (rfl)
@[simp] theorem lstOf_str (G : DH) (z : Str) : lstOf G (D.str z) = none := (rfl)
@[simp] theorem lstOf_tup (G : DH) (xs : List D) : lstOf G (D.tup xs) = none := (rfl)
@[simp] theorem lstOf_ktup (G : DH) (xs : List D) : lstOf G (D.ktup xs) = none := (rfl)
@[simp] theorem lstOf_lst (G : DH) (xs : List D) : lstOf G (D.lst xs) = some xs := (rfl)
@[simp] theorem lstOf_frz (G : DH) (xs : List D) : lstOf G (D.frz xs) = some xs := (rfl)
@[simp] theorem lstOf_dK (G : DH) (kv : List (L2.Key × D)) : lstOf G (D.dK kv) = none := (rfl)
@[simp] theorem lstOf_dT (G : DH) (kt : List (List L2.Key × D)) : lstOf G (D.dT kt) = none := (rfl)
@[simp] theorem lstOf_obj (G : DH) (n : Nat) : lstOf G (D.obj n) = (match G[n]? with | some (.lst xs) => some xs | _ => none) := (rfl)
@[simp] theorem seqOf_non (G : DH)  : seqOf G D.non = none := (rfl)
@[simp] theorem seqOf_bl (G : DH) (b : Bool) : seqOf G (D.bl b) = none := (rfl)
@[simp] theorem seqOf_int (G : DH) (i : Int) : seqOf G (D.int i) = none := (rfl)
@[simp] theorem seqOf_str (G : DH) (z : Str) : seqOf G (D.str z) = none := (rfl)
@[simp] theorem seqOf_tup (G : DH) (xs : List D) : seqOf G (D.tup xs) = some xs := (rfl)
@[simp] theorem seqOf_ktup (G : DH) (xs : List D) : seqOf G (D.ktup xs) = some xs := (rfl)
@[simp] theorem seqOf_lst (G : DH) (xs : List D) : seqOf G (D.lst xs) = some xs := (rfl)
@[simp] theorem seqOf_frz (G : DH) (xs : List D) : seqOf G (D.frz xs) = some xs := (rfl)
@[simp] theorem seqOf_dK (G : DH) (kv : List (L2.Key × D)) : seqOf G (D.dK kv) = none := (rfl)
@[simp] theorem seqOf_dT (G : DH) (kt : List (List L2.Key × D)) : seqOf G (D.dT kt) = none := (rfl)
@[simp] theorem seqOf_obj (G : DH) (n : Nat) : seqOf G (D.obj n) = (match G[n]? with | some (.lst xs) => some xs | _ => none) := (rfl)
@[simp] theorem lstM_non (G : DH)  : lstM G D.non = none := (rfl)
@[simp] theorem lstM_bl (G : DH) (b : Bool) : lstM G (D.bl b) = none := (rfl)
@[simp] theorem lstM_int (G : DH) (i : Int) : lstM G (D.int i) = none := (rfl)
@[simp] theorem lstM_str (G : DH) (z : Str) : lstM G (D.str z) = none := (rfl)
@[simp] theorem lstM_tup (G : DH) (xs : List D) : lstM G (D.tup xs) = none := (rfl)
@[simp] theorem lstM_ktup (G : DH) (xs : List D) : lstM G (D.ktup xs) = none := (rfl)
@[simp] theorem lstM_lst (G : DH) (xs : List D) : lstM G (D.lst xs) = some xs := (rfl)
@[simp] theorem lstM_frz (G : DH) (xs : List D) : lstM G (D.frz xs) = none := (rfl)
@[simp] theorem lstM_dK (G : DH) (kv : List (L2.Key × D)) : lstM G (D.dK kv) = none := (rfl)
@[simp] theorem lstM_dT (G : DH) (kt : List (List L2.Key × D)) : lstM G (D.dT kt) = none := (rfl)
@[simp] theorem lstM_obj (G : DH) (n : Nat) : lstM G (D.obj n) = (match G[n]? with | some (.lst xs) => some xs | _ => none) := (rfl)
@[simp] theorem der_non (G : DH)  : der G D.non = D.non := (rfl)
@[simp] theorem der_bl (G : DH) (b : Bool) : der G (D.bl b) = (D.bl b) := (rfl)
@[simp] theorem der_int (G : DH) (i : Int) : der G (D.int i) = (D.int i) := (rfl)
@[simp] theorem der_str (G : DH) (z : Str) : der G (D.str z) = (D.str z) := (rfl)
@[simp] theorem der_tup (G : DH) (xs : List D) : der G (D.tup xs) = (D.tup xs) := (rfl)
@[simp] theorem der_ktup (G : DH) (xs : List D) : der G (D.ktup xs) = (D.ktup xs) := (rfl)
@[simp] theorem der_lst (G : DH) (xs : List D) : der G (D.lst xs) = (D.lst xs) := (rfl)
@[simp] theorem der_frz (G : DH) (xs : List D) : der G (D.frz xs) = (D.frz xs) := (rfl)
@[simp] theorem der_dK (G : DH) (kv : List (L2.Key × D)) : der G (D.dK kv) = (D.dK kv) := (rfl)
@[simp] theorem der_dT (G : DH) (kt : List (List L2.Key × D)) : der G (D.dT kt) = (D.dT kt) := (rfl)
@[simp] theorem der_obj (G : DH) (n : Nat) : der G (D.obj n) = (match G[n]? with | some (.lst xs) => .lst xs | some (.dK kvs) => .dK kvs | some (.dT kvs) => .dT kvs | some (.lkK kvs) => .dK kvs | some (.lkT kvs) => .dT kvs | _ => .obj n) := (rfl)
@[simp] theorem truD_non (G : DH)  : truD G D.non = some false := (rfl)
@[simp] theorem truD_bl (G : DH) (b : Bool) : truD G (D.bl b) = some b := (rfl)
@[simp] theorem truD_int (G : DH) (i : Int) : truD G (D.int i) = some (i != 0) := (rfl)
@[simp] theorem truD_str (G : DH) (z : Str) : truD G (D.str z) = (if z.length ≤ sizeLine then some ((z.length : Int) != 0) else none) := (rfl)
@[simp] theorem truD_tup (G : DH) (xs : List D) : truD G (D.tup xs) = some (!xs.isEmpty) := (rfl)
@[simp] theorem truD_ktup (G : DH) (xs : List D) : truD G (D.ktup xs) = some (!xs.isEmpty) := (rfl)
@[simp] theorem truD_lst (G : DH) (xs : List D) : truD G (D.lst xs) = some (!xs.isEmpty) := (rfl)
@[simp] theorem truD_frz (G : DH) (xs : List D) : truD G (D.frz xs) = some (!xs.isEmpty) := (rfl)
@[simp] theorem truD_dK (G : DH) (kv : List (L2.Key × D)) : truD G (D.dK kv) = none := (rfl)
@[simp] theorem truD_dT (G : DH) (kt : List (List L2.Key × D)) : truD G (D.dT kt) = none := (rfl)
@[simp] theorem truD_obj (G : DH) (n : Nat) : truD G (D.obj n) = (((match G[n]? with | some (.lst xs) => some xs | _ => none) : Option (List D)).map fun xs => !xs.isEmpty) := (rfl)
@[simp] theorem lenV_non (G : DH)  : lenV G D.non = none := (rfl)
@[simp] theorem lenV_bl (G : DH) (b : Bool) : lenV G (D.bl b) = none := (rfl)
@[simp] theorem lenV_int (G : DH) (i : Int) : lenV G (D.int i) = none := (rfl)
@[simp] theorem lenV_str (G : DH) (z : Str) : lenV G (D.str z) = (if z.length ≤ sizeLine then some z.length else none) := (rfl)
@[simp] theorem lenV_tup (G : DH) (xs : List D) : lenV G (D.tup xs) = some xs.length := (rfl)
@[simp] theorem lenV_ktup (G : DH) (xs : List D) : lenV G (D.ktup xs) = some xs.length := (rfl)
@[simp] theorem lenV_lst (G : DH) (xs : List D) : lenV G (D.lst xs) = some xs.length := (rfl)
@[simp] theorem lenV_frz (G : DH) (xs : List D) : lenV G (D.frz xs) = some xs.length := (rfl)
@[simp] theorem lenV_dK (G : DH) (kv : List (L2.Key × D)) : lenV G (D.dK kv) = none := (rfl)
@[simp] theorem lenV_dT (G : DH) (kt : List (List L2.Key × D)) : lenV G (D.dT kt) = none := (rfl)
@[simp] theorem lenV_obj (G : DH) (n : Nat) : lenV G (D.obj n) = (((match G[n]? with | some (.lst xs) => some xs | _ => none) : Option (List D)).map List.length) := (rfl)
@[simp] theorem tyN_non (G : DH)  : tyN G D.non = some "NoneType" := (rfl)
@[simp] theorem tyN_bl (G : DH) (b : Bool) : tyN G (D.bl b) = some "bool" := (rfl)
@[simp] theorem tyN_int (G : DH) (i : Int) : tyN G (D.int i) = some "int" := (rfl)
@[simp] theorem tyN_str (G : DH) (z : Str) : tyN G (D.str z) = some "str" := (rfl)
@[simp] theorem tyN_tup (G : DH) (xs : List D) : tyN G (D.tup xs) = some "tuple" := (rfl)
@[simp] theorem tyN_ktup (G : DH) (xs : List D) : tyN G (D.ktup xs) = some "tuple" := (rfl)
@[simp] theorem tyN_lst (G : DH) (xs : List D) : tyN G (D.lst xs) = some "list" := (rfl)
@[simp] theorem tyN_frz (G : DH) (xs : List D) : tyN G (D.frz xs) = some "list" := (rfl)
@[simp] theorem tyN_dK (G : DH) (kv : List (L2.Key × D)) : tyN G (D.dK kv) = some "dict" := (rfl)
@[simp] theorem tyN_dT (G : DH) (kt : List (List L2.Key × D)) : tyN G (D.dT kt) = none := (rfl)
@[simp] theorem tyN_obj (G : DH) (n : Nat) : tyN G (D.obj n) = (match G[n]? with | some (.lst _) => some "list" | some (.dK _) => some "dict" | some (.dT _) => some "dict" | _ => none) := (rfl)
@[simp] theorem tupOf_non  : tupOf D.non = none := (rfl)
@[simp] theorem tupOf_bl (b : Bool) : tupOf (D.bl b) = none := (rfl)
@[simp] theorem tupOf_int (i : Int) : tupOf (D.int i) = none := (rfl)
@[simp] theorem tupOf_str (z : Str) : tupOf (D.str z) = none := (rfl)
@[simp] theorem tupOf_tup (xs : List D) : tupOf (D.tup xs) = some xs := (rfl)
@[simp] theorem tupOf_ktup (xs : List D) : tupOf (D.ktup xs) = some xs := (rfl)
@[simp] theorem tupOf_lst (xs : List D) : tupOf (D.lst xs) = none := (rfl)
@[simp] theorem tupOf_frz (xs : List D) : tupOf (D.frz xs) = none := (rfl)
@[simp] theorem tupOf_dK (kv : List (L2.Key × D)) : tupOf (D.dK kv) = none := (rfl)
@[simp] theorem tupOf_dT (kt : List (List L2.Key × D)) : tupOf (D.dT kt) = none := (rfl)
@[simp] theorem tupOf_obj (n : Nat) : tupOf (D.obj n) = none := (rfl)
@[simp] theorem valL_non  : valL D.non = none := (rfl)
@[simp] theorem valL_bl (b : Bool) : valL (D.bl b) = none := (rfl)
@[simp] theorem valL_int (i : Int) : valL (D.int i) = none := (rfl)
@[simp] theorem valL_str (z : Str) : valL (D.str z) = none := (rfl)
@[simp] theorem valL_tup (xs : List D) : valL (D.tup xs) = none := (rfl)
@[simp] theorem valL_ktup (xs : List D) : valL (D.ktup xs) = none := (rfl)
@[simp] theorem valL_lst (xs : List D) : valL (D.lst xs) = some xs := (rfl)
@[simp] theorem valL_frz (xs : List D) : valL (D.frz xs) = some xs := (rfl)
@[simp] theorem valL_dK (kv : List (L2.Key × D)) : valL (D.dK kv) = none := (rfl)
@[simp] theorem valL_dT (kt : List (List L2.Key × D)) : valL (D.dT kt) = none := (rfl)
@[simp] theorem valL_obj (n : Nat) : valL (D.obj n) = none := (rfl)
@[simp] theorem isNon_non  : isNon D.non = true := (rfl)
@[simp] theorem isNon_bl (b : Bool) : isNon (D.bl b) = false := (rfl)
@[simp] theorem isNon_int (i : Int) : isNon (D.int i) = false := (rfl)
@[simp] theorem isNon_str (z : Str) : isNon (D.str z) = false := (rfl)
@[simp] theorem isNon_tup (xs : List D) : isNon (D.tup xs) = false := (rfl)
@[simp] theorem isNon_ktup (xs : List D) : isNon (D.ktup xs) = false := (rfl)
@[simp] theorem isNon_lst (xs : List D) : isNon (D.lst xs) = false := (rfl)
@[simp] theorem isNon_frz (xs : List D) : isNon (D.frz xs) = false := (rfl)
@[simp] theorem isNon_dK (kv : List (L2.Key × D)) : isNon (D.dK kv) = false := (rfl)
@[simp] theorem isNon_dT (kt : List (List L2.Key × D)) : isNon (D.dT kt) = false := (rfl)
@[simp] theorem isNon_obj (n : Nat) : isNon (D.obj n) = false := (rfl)
@[simp] theorem rcv_non (G : DH) (T : String)  : rcv G T D.non = false := (rfl)
@[simp] theorem rcv_bl (G : DH) (T : String) (b : Bool) : rcv G T (D.bl b) = false := (rfl)
@[simp] theorem rcv_int (G : DH) (T : String) (i : Int) : rcv G T (D.int i) = (T == "int") := (rfl)
@[simp] theorem rcv_str (G : DH) (T : String) (z : Str) : rcv G T (D.str z) = (T == "str") := (rfl)
@[simp] theorem rcv_tup (G : DH) (T : String) (xs : List D) : rcv G T (D.tup xs) = false := (rfl)
@[simp] theorem rcv_ktup (G : DH) (T : String) (xs : List D) : rcv G T (D.ktup xs) = false := (rfl)
@[simp] theorem rcv_lst (G : DH) (T : String) (xs : List D) : rcv G T (D.lst xs) = (T == "list") := (rfl)
@[simp] theorem rcv_frz (G : DH) (T : String) (xs : List D) : rcv G T (D.frz xs) = (T == "list") := (rfl)
@[simp] theorem rcv_dK (G : DH) (T : String) (kv : List (L2.Key × D)) : rcv G T (D.dK kv) = false := (rfl)
@[simp] theorem rcv_dT (G : DH) (T : String) (kt : List (List L2.Key × D)) : rcv G T (D.dT kt) = false := (rfl)
@[simp] theorem rcv_obj (G : DH) (T : String) (n : Nat) : rcv G T (D.obj n) = (match G[n]? with | some (.lst _) => T == "list" | some (.dK _) => T == "dict" | some (.dT _) => T == "dict" | _ => false) := (rfl)
@[simp] theorem addD_ii (o : Bool) (i j : Int) (G : DH) : addD o (.int i) (.int j) G = .ok (.int (i + j)) G := (rfl)
@[simp] theorem addD_ss (o : Bool) (a b : Str) (G : DH) : addD o (.str a) (.str b) G = (if a.length + b.length ≤ sizeLine then .ok (.str (a ++ b)) G else .stop) := (rfl)
@[simp] theorem addD_tt (o : Bool) (xs ys : List D) (G : DH) : addD o (.tup xs) (.tup ys) G = (if xs.length + ys.length ≤ sizeLine then .ok (.tup (xs ++ ys)) G else .stop) := (rfl)
@[simp] theorem addD_lst_lst (o : Bool) (xs : List D) (ys : List D) (G : DH) : addD o (D.lst xs) (D.lst ys) G = (match lstM G (D.lst xs), lstM G (D.lst ys) with | some xs, some ys => if xs.length + ys.length ≤ sizeLine then mkL o (xs ++ ys) G else .stop | _, _ => .stop) := (rfl)
@[simp] theorem addD_lst_obj (o : Bool) (xs : List D) (m : Nat) (G : DH) : addD o (D.lst xs) (D.obj m) G = (match lstM G (D.lst xs), lstM G (D.obj m) with | some xs, some ys => if xs.length + ys.length ≤ sizeLine then mkL o (xs ++ ys) G else .stop | _, _ => .stop) := (rfl)
@[simp] theorem addD_obj_lst (o : Bool) (n : Nat) (ys : List D) (G : DH) : addD o (D.obj n) (D.lst ys) G = (match lstM G (D.obj n), lstM G (D.lst ys) with | some xs, some ys => if xs.length + ys.length ≤ sizeLine then mkL o (xs ++ ys) G else .stop | _, _ => .stop) := (rfl)
@[simp] theorem addD_obj_obj (o : Bool) (n : Nat) (m : Nat) (G : DH) : addD o (D.obj n) (D.obj m) G = (match lstM G (D.obj n), lstM G (D.obj m) with | some xs, some ys => if xs.length + ys.length ≤ sizeLine then mkL o (xs ++ ys) G else .stop | _, _ => .stop) := (rfl)
@[simp] theorem subD_ii (i j : Int) (G : DH) : subD (.int i) (.int j) G = .ok (.int (i - j)) G := (rfl)
@[simp] theorem fdivD_ii (i j : Int) (G : DH) : fdivD (.int i) (.int j) G = (if 0 < j ∧ j.natAbs.log2 < 9000 then .ok (.int (i / j)) G else .stop) := (rfl)
@[simp] theorem modD_ii (i j : Int) (G : DH) : modD (.int i) (.int j) G = (if 0 < j then .ok (.int (i % j)) G else .stop) := (rfl)
@[simp] theorem powD_ii (i j : Int) (G : DH) : powD (.int i) (.int j) G = (if 0 ≤ j ∧ j ≤ 1000000 ∧ i.natAbs < 18446744073709551616 then .ok (.int (i ^ j.toNat)) G else .stop) := (rfl)
@[simp] theorem mulD_ii (o : Bool) (i j : Int) (G : DH) : mulD o (.int i) (.int j) G = (if mulOk i j then .ok (.int (i * j)) G else .stop) := (rfl)
@[simp] theorem mulD_si (o : Bool) (a : Str) (i : Int) (G : DH) : mulD o (.str a) (.int i) G = (if -2147483648 ≤ i ∧ i ≤ 2147483648 ∧ a.length * i.toNat ≤ sizeLine then .ok (.str (repS a i.toNat)) G else .stop) := (rfl)
@[simp] theorem mulD_lst (o : Bool) (xs : List D) (i : Int) (G : DH) : mulD o (D.lst xs) (.int i) G = (match lstM G (D.lst xs) with | some xs => if -9223372036854775808 ≤ i ∧ i < 9223372036854775808 ∧ xs.length * i.toNat ≤ sizeLine then mkL o (List.replicate i.toNat xs).flatten G else .stop | none => .stop) := (rfl)
@[simp] theorem mulD_obj (o : Bool) (n : Nat) (i : Int) (G : DH) : mulD o (D.obj n) (.int i) G = (match lstM G (D.obj n) with | some xs => if -9223372036854775808 ≤ i ∧ i < 9223372036854775808 ∧ xs.length * i.toNat ≤ sizeLine then mkL o (List.replicate i.toNat xs).flatten G else .stop | none => .stop) := (rfl)
@[simp] theorem negD_i (i : Int) (G : DH) : negD (.int i) G = .ok (.int (-i)) G := (rfl)
@[simp] theorem ltD_ii (i j : Int) (G : DH) : ltD (.int i) (.int j) G = .ok (.bl (decide (i < j))) G := (rfl)
@[simp] theorem ltD_ss (a b : Str) (G : DH) : ltD (.str a) (.str b) G = .ok (.bl (ltS a b)) G := (rfl)
@[simp] theorem leD_ii (i j : Int) (G : DH) : leD (.int i) (.int j) G = .ok (.bl (decide (i ≤ j))) G := (rfl)
@[simp] theorem leD_ss (a b : Str) (G : DH) : leD (.str a) (.str b) G = .ok (.bl (!ltS b a)) G := (rfl)
@[simp] theorem gtD_ii (i j : Int) (G : DH) : gtD (.int i) (.int j) G = .ok (.bl (decide (j < i))) G := (rfl)
@[simp] theorem gtD_ss (a b : Str) (G : DH) : gtD (.str a) (.str b) G = .ok (.bl (ltS b a)) G := (rfl)
@[simp] theorem geD_ii (i j : Int) (G : DH) : geD (.int i) (.int j) G = .ok (.bl (decide (j ≤ i))) G := (rfl)
@[simp] theorem geD_ss (a b : Str) (G : DH) : geD (.str a) (.str b) G = .ok (.bl (!ltS a b)) G := (rfl)
@[simp] theorem isD_n (x : D) (G : DH) : isD x .non G = .ok (.bl (isNon x)) G := (rfl)
@[simp] theorem isnotD_n (x : D) (G : DH) : isnotD x .non G = .ok (.bl (!isNon x)) G := (rfl)
@[simp] theorem ixD_s (z : Str) (i : Int) (G : DH) : ixD (.str z) (.int i) G = (if z.length ≤ sizeLine then (match L2.atI z.cps.toList i with | some c => .ok (.str ⟨#[c]⟩) G | none => .stop) else .stop) := (rfl)
@[simp] theorem ixD_tup (xs : List D) (i : Int) (G : DH) : ixD (D.tup xs) (.int i) G = (match seqOf G (D.tup xs) with | some xs => (match L2.atI xs i with | some d => .ok d G | none => .stop) | none => .stop) := (rfl)
@[simp] theorem ixD_ktup (xs : List D) (i : Int) (G : DH) : ixD (D.ktup xs) (.int i) G = (match seqOf G (D.ktup xs) with | some xs => (match L2.atI xs i with | some d => .ok d G | none => .stop) | none => .stop) := (rfl)
@[simp] theorem ixD_lst (xs : List D) (i : Int) (G : DH) : ixD (D.lst xs) (.int i) G = (match seqOf G (D.lst xs) with | some xs => (match L2.atI xs i with | some d => .ok d G | none => .stop) | none => .stop) := (rfl)
@[simp] theorem ixD_frz (xs : List D) (i : Int) (G : DH) : ixD (D.frz xs) (.int i) G = (match seqOf G (D.frz xs) with | some xs => (match L2.atI xs i with | some d => .ok d G | none => .stop) | none => .stop) := (rfl)
@[simp] theorem ixD_obj (n : Nat) (i : Int) (G : DH) : ixD (D.obj n) (.int i) G = (match seqOf G (D.obj n) with | some xs => (match L2.atI xs i with | some d => .ok d G | none => .stop) | none => .stop) := (rfl)
@[simp] theorem slD_s (o : Bool) (z : Str) (lo hi : Option Int) (G : DH) : slD o (.str z) lo hi G = (if z.length ≤ sizeLine then .ok (.str (L2.cutS z lo hi)) G else .stop) := (rfl)
@[simp] theorem slD_t (o : Bool) (xs : List D) (lo hi : Option Int) (G : DH) : slD o (.tup xs) lo hi G = .ok (.tup (cutD xs lo hi)) G := (rfl)
@[simp] theorem slD_lst (o : Bool) (xs : List D) (lo hi : Option Int) (G : DH) : slD o (D.lst xs) lo hi G = (match lstOf G (D.lst xs) with | some xs => mkL o (cutD xs lo hi) G | none => .stop) := (rfl)
@[simp] theorem slD_frz (o : Bool) (xs : List D) (lo hi : Option Int) (G : DH) : slD o (D.frz xs) lo hi G = (match lstOf G (D.frz xs) with | some xs => mkL o (cutD xs lo hi) G | none => .stop) := (rfl)
@[simp] theorem slD_obj (o : Bool) (n : Nat) (lo hi : Option Int) (G : DH) : slD o (D.obj n) lo hi G = (match lstOf G (D.obj n) with | some xs => mkL o (cutD xs lo hi) G | none => .stop) := (rfl)
@[simp] theorem lenO_1 (d : D) (G : DH) : lenO [d] G = (match lenV G d with | some n => .ok (.int n) G | none => .stop) := (rfl)
@[simp] theorem maxO_2 (i j : Int) (G : DH) : maxO [.int i, .int j] G = .ok (.int (if j > i then j else i)) G := (rfl)
@[simp] theorem minO_2 (i j : Int) (G : DH) : minO [.int i, .int j] G = .ok (.int (if j < i then j else i)) G := (rfl)
@[simp] theorem intO_i (i : Int) (G : DH) : intO [.int i] G = .ok (.int i) G := (rfl)
@[simp] theorem intO_b (k : Bool) (G : DH) : intO [.bl k] G = .ok (.int (if k then 1 else 0)) G := (rfl)
@[simp] theorem allO_1 (d : D) (G : DH) : allO [d] G = (match (lstOf G d).bind bls with | some bs => .ok (.bl (bs.all id)) G | none => .stop) := (rfl)
@[simp] theorem anyO_1 (d : D) (G : DH) : anyO [d] G = (match (lstOf G d).bind bls with | some bs => .ok (.bl (bs.any id)) G | none => .stop) := (rfl)
@[simp] theorem listO_1 (o : Bool) (d : D) (G : DH) : listO o [d] G = (match seqOf G d with | some xs => mkL o xs G | none => .stop) := (rfl)
@[simp] theorem tupleO_t (xs : List D) (G : DH) : tupleO [.tup xs] G = .ok (.tup xs) G := (rfl)
@[simp] theorem tupleO_k (xs : List D) (G : DH) : tupleO [.ktup xs] G = .ok (.ktup xs) G := (rfl)
@[simp] theorem tupleO_lst (xs : List D) (G : DH) : tupleO [(D.lst xs)] G = (match lstOf G (D.lst xs) with | some xs => .ok (.tup xs) G | none => .stop) := (rfl)
@[simp] theorem tupleO_frz (xs : List D) (G : DH) : tupleO [(D.frz xs)] G = (match lstOf G (D.frz xs) with | some xs => .ok (.tup xs) G | none => .stop) := (rfl)
@[simp] theorem tupleO_obj (n : Nat) (G : DH) : tupleO [(D.obj n)] G = (match lstOf G (D.obj n) with | some xs => .ok (.tup xs) G | none => .stop) := (rfl)
@[simp] theorem strO_i (i : Int) (G : DH) : strO [.int i] G = (if i.natAbs.log2 < 1920 then .ok (.str (toString i)) G else .stop) := (rfl)
@[simp] theorem splitO_s (o : Bool) (a b : Str) (G : DH) : splitO o (.str a) [.str b] G = (if (b.length == 0) = false ∧ a.length + 2 ≤ sizeLine then mkL o ((Txt.split a b).map D.str) G else .stop) := (rfl)
@[simp] theorem partO_s (a b : Str) (G : DH) : partO (.str a) [.str b] G = (if (b.length == 0) = false ∧ a.length ≤ sizeLine then .ok (.tup [.str (Txt.partition a b).1, .str (Txt.partition a b).2.1, .str (Txt.partition a b).2.2]) G else .stop) := (rfl)
@[simp] theorem countO_s (a b : Str) (G : DH) : countO (.str a) [.str b] G = .ok (.int (Txt.count a b)) G := (rfl)
@[simp] theorem joinO_s (a : Str) (x : D) (G : DH) : joinO (.str a) [x] G = (match (seqOf G x).bind txts with | some ys => if (ys.map (·.length)).sum + ys.length * a.length ≤ 16777216 then .ok (.str (Txt.join a ys)) G else .stop | none => .stop) := (rfl)
@[simp] theorem setL_o (n : Nat) (k : Int) (z : D) (G : DH) : setL (.obj n) (.int k) z G = (match G[n]? with | some (.lst xs) => (match L2.ixN xs.length k with | some j => .ok () (G.set n (.lst (xs.set j z))) | none => .stop) | _ => .stop) := (rfl)
theorem eqOp_ok {x y : D} {G : DH} (h : pln (der G x) = true ∧ pln (der G y) = true ∧ dep (der G x) ≤ 60) : eqOp x y G = .ok (.bl (eqD (der G x) (der G y))) G := if_pos h
theorem neOp_ok {x y : D} {G : DH} (h : pln (der G x) = true ∧ pln (der G y) = true ∧ dep (der G x) ≤ 60) : neOp x y G = .ok (.bl (!eqD (der G x) (der G y))) G := if_pos h
@[simp] theorem eqOp_ss (a b : Str) (G : DH) : eqOp (.str a) (.str b) G = .ok (.bl (a == b)) G := (rfl)
@[simp] theorem neOp_ss (a b : Str) (G : DH) : neOp (.str a) (.str b) G = .ok (.bl (!(a == b))) G := (rfl)
@[simp] theorem eqOp_ii (i j : Int) (G : DH) : eqOp (.int i) (.int j) G = .ok (.bl (i == j)) G := (rfl)
@[simp] theorem neOp_ii (i j : Int) (G : DH) : neOp (.int i) (.int j) G = .ok (.bl (!(i == j))) G := (rfl)
@[simp] theorem mkL_v (xs : List D) (G : DH) : mkL false xs G = .ok (.lst xs) G := (rfl)
@[simp] theorem mkL_o (xs : List D) (G : DH) : mkL true xs G = .ok (.obj G.length) (G ++ [.lst xs]) := (rfl)
@[simp] theorem mkK_v (xs : List (L2.Key × D)) (G : DH) : mkK false xs G = .ok (.dK xs) G := (rfl)
@[simp] theorem mkK_o (xs : List (L2.Key × D)) (G : DH) : mkK true xs G = .ok (.obj G.length) (G ++ [.dK xs]) := (rfl)
@[simp] theorem mkT_v (xs : List (List L2.Key × D)) (G : DH) : mkT false xs G = .ok (.dT xs) G := (rfl)
@[simp] theorem mkT_o (xs : List (List L2.Key × D)) (G : DH) : mkT true xs G = .ok (.obj G.length) (G ++ [.dT xs]) := (rfl)

@[simp] theorem bind_ok {α β : Type} (a : α) (G : DH) (k : α → DH → R β) : (R.ok a G).bind k = k a G := (rfl)
@[simp] theorem bind_ex {α β : Type} (e : D) (G : DH) (k : α → DH → R β) : (R.ex e G : R α).bind k = .ex e G := (rfl)
@[simp] theorem bind_stop {α β : Type} (k : α → DH → R β) : (R.stop : R α).bind k = .stop := (rfl)
@[simp] theorem sBind_nx (s : DSl) (G : DH) (k : DSl → DH → R (Out × DSl)) : sBind (.ok (.nx, s) G) k = k s G := (rfl)
@[simp] theorem sBind_rt (d : D) (s : DSl) (G : DH) (k : DSl → DH → R (Out × DSl)) : sBind (.ok (.rt d, s) G) k = .ok (.rt d, s) G := (rfl)
@[simp] theorem sBind_bk (s : DSl) (G : DH) (k : DSl → DH → R (Out × DSl)) : sBind (.ok (.bk, s) G) k = .ok (.bk, s) G := (rfl)
@[simp] theorem sBind_ct (s : DSl) (G : DH) (k : DSl → DH → R (Out × DSl)) : sBind (.ok (.ct, s) G) k = .ok (.ct, s) G := (rfl)
/-- a body's end as the def's answer -/
def finR : R (Out × DSl) → R D
  | .ok (.nx, _) G => .ok .non G
  | .ok (.rt d, _) G => .ok d G
  | .ok _ _ => .stop
  | .ex e G => .ex e G
  | .stop => .stop
@[simp] theorem finR_nx (s : DSl) (G : DH) : finR (.ok (.nx, s) G) = .ok .non G := (rfl)
@[simp] theorem finR_rt (d : D) (s : DSl) (G : DH) : finR (.ok (.rt d, s) G) = .ok d G := (rfl)
@[simp] theorem finR_ex (d : D) (G : DH) : finR (.ex d G) = .ex d G := (rfl)
@[simp] theorem finR_stop : finR .stop = .stop := (rfl)
theorem runF_s {np n : Nat} {b : DS} {ds : List D} {G : DH} (h : ds.length = np) : runF np n b ds G = finR (b (ds.map some ++ List.replicate (n - np) none) G) := by
  unfold runF
  rw [if_pos h]
  generalize b (ds.map some ++ List.replicate (n - np) none) G = r
  unfold finR
  rfl
theorem runF_1 {n : Nat} {b : DS} {d : D} {G : DH} : runF 1 n b [d] G = finR (b (some d :: List.replicate (n - 1) none) G) := runF_s rfl
theorem runF_2 {n : Nat} {b : DS} {d e : D} {G : DH} : runF 2 n b [d, e] G = finR (b (some d :: some e :: List.replicate (n - 2) none) G) := runF_s rfl
theorem runF_3 {n : Nat} {b : DS} {d e f : D} {G : DH} : runF 3 n b [d, e, f] G = finR (b (some d :: some e :: some f :: List.replicate (n - 3) none) G) := runF_s rfl
theorem runF_4 {n : Nat} {b : DS} {d e f g : D} {G : DH} : runF 4 n b [d, e, f, g] G = finR (b (some d :: some e :: some f :: some g :: List.replicate (n - 4) none) G) := runF_s rfl
theorem runF_5 {n : Nat} {b : DS} {d e f g h : D} {G : DH} : runF 5 n b [d, e, f, g, h] G = finR (b (some d :: some e :: some f :: some g :: some h :: List.replicate (n - 5) none) G) := runF_s rfl
theorem runF_at {np n : Nat} {b : DS} {ds : List D} {G : DH} (h : ds.length = np) : runF np n b ds G = (match b (ds.map some ++ List.replicate (n - np) none) G with
  | .ok (.nx, _) G => .ok .non G
  | .ok (.rt d, _) G => .ok d G
  | .ok _ _ => .stop
  | .ex e G => .ex e G
  | .stop => .stop) := if_pos h
theorem runF_rt {np n : Nat} {b : DS} {ds : List D} {G G' : DH} {d : D} {s : DSl} (h : ds.length = np) (e : b (ds.map some ++ List.replicate (n - np) none) G = .ok (.rt d, s) G') : runF np n b ds G = .ok d G' := by
  rw [runF_at h, e]
end DL
end
/-! ==== DLoop ==== -/
section
set_option Elab.async false
set_option linter.all false
set_option autoImplicit false
set_option maxRecDepth 100000
set_option maxHeartbeats 4000000
/-! DL: loops and comprehensions by what one turn does. -/
namespace DL
open PySem

/-- a comprehension that changes nothing -/
theorem lcL_pure {α : Type} {g : DG} {tt : DT} {te : DE} {s0 : DSl} {G : DH} (h : α → D) (p : α → Bool) (f : α → D) : ∀ (l : List α) (acc : List D), (∀ a ∈ l, ∃ s1, g (h a) s0 G = .ok s1 G ∧ tt s1 G = .ok (p a) G ∧ (p a = true → te s1 G = .ok (f a) G)) →
    acc.length + l.length ≤ sizeLine → lcL g tt te s0 (l.map h) acc G = .ok (acc ++ (l.filter p).map f) G
  | [], acc, _, _ => by simp
  | d :: l, acc, hs, hl => by
    obtain ⟨s1, e1, e2, e3⟩ := hs d List.mem_cons_self
    have hl' : acc.length + (l.length + 1) ≤ sizeLine := hl
    cases c : p d with
    | true =>
      rw [c] at e2
      have ih := lcL_pure h p f l (acc ++ [f d]) (fun x hx => hs x (List.mem_cons_of_mem _ hx)) (by rw [List.length_append, List.length_singleton]; omega)
      have hlt : acc.length < sizeLine := by omega
      simp [lcL, e1, e2, e3 c, hlt, ih, c]
    | false =>
      rw [c] at e2
      have ih := lcL_pure h p f l acc (fun x hx => hs x (List.mem_cons_of_mem _ hx)) (by omega)
      simp [lcL, e1, e2, ih, c]
/-- a comprehension without a test that changes nothing -/
theorem lcL_map {α : Type} {g : DG} {te : DE} {s0 : DSl} {G : DH} (h f : α → D) (l : List α) (acc : List D) (hs : ∀ a ∈ l, ∃ s1, g (h a) s0 G = .ok s1 G ∧ te s1 G = .ok (f a) G) (hl : acc.length + l.length ≤ sizeLine) :
    lcL g dYes te s0 (l.map h) acc G = .ok (acc ++ l.map f) G := by
  have := lcL_pure (g := g) (tt := dYes) (te := te) (s0 := s0) (G := G) h (fun _ => true) f l acc (fun d hd => by
    obtain ⟨s1, e1, e2⟩ := hs d hd
    exact ⟨s1, e1, rfl, fun _ => e2⟩) hl
  rw [this, List.filter_eq_self.mpr fun _ _ => rfl]
/-- a comprehension whose turns may change things: an invariant by what is made so far -/
theorem lcL_inv {g : DG} {tt : DT} {te : DE} {s0 : DSl} (Iv : Nat → List D → DH → Prop) : ∀ (ds : List D) (i : Nat) (acc : List D) (G : DH), acc.length + ds.length ≤ sizeLine →
    (∀ (j : Nat) (d : D) (a : List D) (G : DH), ds[j]? = some d → Iv (i + j) a G → ∃ s1 G1, g d s0 G = .ok s1 G1 ∧ ((∃ G2, tt s1 G1 = .ok false G2 ∧ Iv (i + j + 1) a G2) ∨ ∃ G2 y G3, tt s1 G1 = .ok true G2 ∧ te s1 G2 = .ok y G3 ∧ Iv (i + j + 1) (a ++ [y]) G3)) →
    Iv i acc G → ∃ a G', lcL g tt te s0 ds acc G = .ok a G' ∧ a.length ≤ acc.length + ds.length ∧ Iv (i + ds.length) a G'
  | [], i, acc, G, _, _, h0 => ⟨acc, G, by simp, by simp, h0⟩
  | d :: ds, i, acc, G, hl, h, h0 => by
    have hl' : acc.length + (ds.length + 1) ≤ sizeLine := hl
    obtain ⟨s1, G1, e1, r⟩ := h 0 d acc G rfl h0
    have nx : ∀ (j : Nat) (d' : D) (a : List D) (G : DH), ds[j]? = some d' → Iv (i + 1 + j) a G → ∃ s1 G1, g d' s0 G = .ok s1 G1 ∧ ((∃ G2, tt s1 G1 = .ok false G2 ∧ Iv (i + 1 + j + 1) a G2) ∨ ∃ G2 y G3, tt s1 G1 = .ok true G2 ∧ te s1 G2 = .ok y G3 ∧ Iv (i + 1 + j + 1) (a ++ [y]) G3) := fun j d' a G hj hi => by
      have e : i + 1 + j = i + (j + 1) := by omega
      rw [e] at hi ⊢
      exact h (j + 1) d' a G hj hi
    have hlt : acc.length < sizeLine := by omega
    rcases r with ⟨G2, e2, i2⟩ | ⟨G2, y, G3, e2, e3, i2⟩
    · obtain ⟨a, G', q1, q2, q3⟩ := lcL_inv Iv ds (i + 1) acc G2 (by omega) nx i2
      refine ⟨a, G', by simp [lcL, e1, e2, q1], by rw [List.length_cons]; omega, ?_⟩
      rw [List.length_cons, show i + (ds.length + 1) = i + 1 + ds.length by omega]; exact q3
    · obtain ⟨a, G', q1, q2, q3⟩ := lcL_inv Iv ds (i + 1) (acc ++ [y]) G3 (by rw [List.length_append, List.length_singleton]; omega) nx i2
      rw [List.length_append, List.length_singleton] at q2
      refine ⟨a, G', by simp [lcL, e1, e2, e3, hlt, q1], by rw [List.length_cons]; omega, ?_⟩
      rw [List.length_cons, show i + (ds.length + 1) = i + 1 + ds.length by omega]; exact q3
/-- a for loop that goes to its end -/
theorem forL_inv {g : DG} {b : DS} (Iv : Nat → DSl → DH → Prop) : ∀ (ds : List D) (i : Nat) (s : DSl) (G : DH),
    (∀ (j : Nat) (d : D) (s : DSl) (G : DH), ds[j]? = some d → Iv (i + j) s G → ∃ s1 G1 s2 G2, g d s G = .ok s1 G1 ∧ (b s1 G1 = .ok (.nx, s2) G2 ∨ b s1 G1 = .ok (.ct, s2) G2) ∧ Iv (i + j + 1) s2 G2) →
    Iv i s G → ∃ s' G', forL g b ds s G = .ok (.nx, s') G' ∧ Iv (i + ds.length) s' G'
  | [], i, s, G, _, h0 => ⟨s, G, by simp, h0⟩
  | d :: ds, i, s, G, h, h0 => by
    obtain ⟨s1, G1, s2, G2, e1, e2, i2⟩ := h 0 d s G rfl h0
    obtain ⟨s', G', q1, q2⟩ := forL_inv Iv ds (i + 1) s2 G2 (fun j d' s G hj hi => by
      have e : i + 1 + j = i + (j + 1) := by omega
      rw [e] at hi ⊢
      exact h (j + 1) d' s G hj hi) i2
    refine ⟨s', G', ?_, by rw [List.length_cons, show i + (ds.length + 1) = i + 1 + ds.length by omega]; exact q2⟩
    rcases e2 with e2 | e2 <;> simp [forL, e1, e2, q1]
/-- range of a small number -/
theorem iRg1_nat {a : DA} {s : DSl} {G G' : DH} {m : Nat} (e : a s G = .ok [.int m] G') (h : m ≤ 1000000) : iRg1 a s G = .ok (rngD 0 m) G' := by
  rw [iRg1_s, e, bind_ok]
  show (if _ then _ else _) = _
  rw [if_pos ⟨by omega, by omega⟩]
  rfl
end DL
end
/-! ==== LAS ==== -/
section
set_option Elab.async false
set_option linter.all false
set_option autoImplicit false
set_option maxRecDepth 100000
set_option maxHeartbeats 4000000
/-! What the shared defs of LA answer. -/
namespace DF
open PySem DL

/-- a pool stands at n -/
def Pl (G : DH) (n : Nat) : Prop := ∃ a b : Int, G[n]? = some (.lst [.int a, .int b]) ∧ 0 ≤ a ∧ 0 ≤ b ∧ b < 2147483647
/-- behind a draw -/
def Af (n : Nat) (G G' : DH) : Prop := Pl G' n ∧ G'.length = G.length ∧ ∀ m, m ≠ n → G'[m]? = G[m]?
theorem Af.trans {n : Nat} {G G' G'' : DH} (h : Af n G G') (h' : Af n G' G'') : Af n G G'' := ⟨h'.1, h'.2.1.trans h.2.1, fun m hm => (h'.2.2 m hm).trans (h.2.2 m hm)⟩
theorem Af.refl {n : Nat} {G : DH} (h : Pl G n) : Af n G G := ⟨h, rfl, fun _ _ => rfl⟩
theorem Pl.lt {G : DH} {n : Nat} (h : Pl G n) : n < G.length := by
  obtain ⟨_, _, e, _⟩ := h
  exact (List.getElem?_eq_some_iff.mp e).1
theorem take_spec {G : DH} {n : Nat} {m : Int} (h : Pl G n) (hm : 0 < m) (hm2 : m.natAbs.log2 < 9000) : ∃ (r : Int) (G' : DH), F__law_take [.obj n, .int m] G = .ok (.int r) G' ∧ 0 ≤ r ∧ r < m ∧ Af n G G' := by
  obtain ⟨a, b, e, ha, hb, hb2⟩ := h
  have hn := (List.getElem?_eq_some_iff.mp e).1
  have gs : ∀ x y : Int, 0 ≤ x → 0 ≤ y → y < 2147483647 → Af n G (G.set n (.lst [.int x, .int y])) := fun x y h1 h2 h3 =>
    ⟨⟨x, y, by rw [List.getElem?_set_self hn], h1, h2, h3⟩, List.length_set, fun k hk => by rw [List.getElem?_set_ne (fun z => hk z.symm)]⟩
  by_cases c : 0 < a
  · refine ⟨a % m, _, ?_, Int.emod_nonneg _ (by omega), Int.emod_lt_of_pos _ hm, gs (a / m) b (Int.ediv_nonneg ha (by omega)) hb hb2⟩
    rw [F__law_take, runF_2, b__law_take]; simp [e, c, hm, hm2, L2.atI, L2.ixN]
  · have h1 : 0 ≤ (b * 69621 + 7) % 2147483647 := Int.emod_nonneg _ (by decide)
    have h2 : (b * 69621 + 7) % 2147483647 < 2147483647 := Int.emod_lt_of_pos _ (by decide)
    have k1 : mulOk b 69621 := .inr (.inl (by decide))
    have k2 : mulOk ((b * 69621 + 7) % 2147483647) ((b * 69621 + 7) % 2147483647) := .inl (by omega)
    refine ⟨((b * 69621 + 7) % 2147483647 * ((b * 69621 + 7) % 2147483647) % 2147483629 / 32) % m, _, ?_, Int.emod_nonneg _ (by omega), Int.emod_lt_of_pos _ hm, gs a ((b * 69621 + 7) % 2147483647) ha h1 h2⟩
    have l32 : Nat.log2 32 < 9000 := by decide
    have gg : ∀ z : DO, (G.set n z)[n]? = some z := fun z => List.getElem?_set_self hn
    rw [F__law_take, runF_2, b__law_take]; simp [e, c, hm, hm2, k1, k2, gg, l32, L2.atI, L2.ixN]
/-! ### words -/
def LET : List Nat := ("abcdefghijklmnopqrstuvwxyz" : Str).cps.toList
def isW (x : Str) : Bool := decide (1 ≤ x.length) && decide (x.length ≤ 8) && x.cps.toList.all fun c => decide (c ∈ LET)
theorem sgnIn_one (c : Nat) (b : Str) : sgnIn ⟨#[c]⟩ b = some (decide (c ∈ b.cps.toList)) := rfl
theorem in_one (c : Nat) (b : Str) (G : DH) (neg : Bool) : inOp neg (.str ⟨#[c]⟩) (.str b) G = .ok (.bl (if neg then !decide (c ∈ b.cps.toList) else decide (c ∈ b.cps.toList))) G := by
  simp [inOp, inV?, sgnIn_one]
theorem mem_sgnD {z : Str} {d : D} (h : d ∈ sgnD z) : ∃ c, c ∈ z.cps.toList ∧ d = .str ⟨#[c]⟩ := by
  unfold sgnD at h
  obtain ⟨c, h1, h2⟩ := List.mem_map.mp h
  exact ⟨c, h1, h2.symm⟩
theorem sgnD_len (z : Str) : (sgnD z).length = z.length := by simp [sgnD, Str.length]
theorem is_word_str (x : Str) (G : DH) (h : x.length ≤ sizeLine) : F_is_word [.str x] G = .ok (.bl (isW x)) G := by
  have e : lcL (gNm 1) dYes (dBin (inOp false) (dVar 1) (dC (.str "abcdefghijklmnopqrstuvwxyz"))) [some (.str x), none] (sgnD x) [] G = .ok ((x.cps.toList.map fun c => D.bl (decide (c ∈ LET)))) G := by
    have := lcL_map (g := gNm 1) (te := dBin (inOp false) (dVar 1) (dC (.str "abcdefghijklmnopqrstuvwxyz"))) (s0 := [some (.str x), none]) (G := G) (fun c => .str ⟨#[c]⟩) (fun c => .bl (decide (c ∈ LET))) x.cps.toList [] (fun c hc => ⟨_, rfl, by simp [in_one, LET]⟩) (by simpa [Str.length] using h)
    exact this
  have eb : ∀ l : List Nat, bls (l.map fun c => D.bl (decide (c ∈ LET))) = some (l.map fun c => decide (c ∈ LET)) := by
    intro l
    induction l with
    | nil => rfl
    | cons a l ih => simp [ih]
  rw [F_is_word, runF_1, b_is_word]
  unfold isW
  by_cases h1 : 1 ≤ x.length
  · by_cases h2 : x.length ≤ 8
    · have e1 : (1 : Int) ≤ x.length := by omega
      have e2 : (x.length : Int) ≤ 8 := by omega
      simp [h, h1, h2, e1, e2, e, eb, mkL]
    · have e1 : (1 : Int) ≤ x.length := by omega
      have e2 : ¬ (x.length : Int) ≤ 8 := by omega
      simp [h, h1, h2, e1, e2]
  · have e1 : ¬ (1 : Int) ≤ x.length := by omega
    simp [h, h1, e1]
theorem is_word_non {d : D} {G : DH} {T : String} (h : tyN G d = some T) (hT : (T == "str") = false) : F_is_word [d] G = .ok (.bl false) G := by
  rw [F_is_word, runF_1, b_is_word]; simp [h, hT]
/-- a text that len may measure -/
def shortS : D → Prop
  | .str x => x.length ≤ sizeLine
  | _ => True
def isWd : D → Bool
  | .str x => isW x
  | _ => false
theorem ty_not {G : DH} {d : D} {T : String} (h : tyN G d = some T) (U : String) (hU : ∀ T', T' ∈ kinds → T' ≠ U → (T' == U) = false) (ne : T ≠ U) : (T == U) = false := hU T (tyN_kinds h) ne
theorem is_word_ok {d : D} {G : DH} {T : String} (h : tyN G d = some T) (hs : shortS d) : F_is_word [d] G = .ok (.bl (isWd d)) G := by
  cases d with
  | str x => exact is_word_str x G hs
  | _ =>
    refine is_word_non h ?_
    simp only [tyN] at h
    first
      | (cases h; done)
      | (cases h; decide)
      | (split at h <;> first | (cases h; decide) | cases h)
/-! ### people -/
def at_ : Str := "@"
theorem at_tl : TL.tl at_ = [64] := by decide +kernel
def isP (x : Str) : Bool := ((Txt.partition x at_).2.1 == at_) && (isW (Txt.partition x at_).1 && isW (Txt.partition x at_).2.2)
def isPd : D → Bool
  | .str x => isP x
  | _ => false
theorem is_person_str (x : Str) (G : DH) (h : x.length ≤ sizeLine) : F_is_person [.str x] G = .ok (.bl (isP x)) G := by
  obtain ⟨h1, h2, h3⟩ := PyProof.Rows.fact_partition x at_
  have w1 := is_word_str (Txt.partition x at_).1 G (Nat.le_trans h1 h)
  have w2 := is_word_str (Txt.partition x at_).2.2 G (Nat.le_trans h3 h)
  have l1 : ¬ at_.length = 0 := by decide +kernel
  have at_e : (Str.ofString "@") = at_ := rfl
  rw [F_is_person, runF_1, b_is_person]
  unfold isP
  simp [h, l1, at_e]
  cases c : (Txt.partition x at_).2.1 == at_ <;> simp [w1, c]
  cases c1 : isW (Txt.partition x at_).1 <;> simp [w2, c1]
theorem is_person_ok {d : D} {G : DH} {T : String} (h : tyN G d = some T) (hs : shortS d) : F_is_person [d] G = .ok (.bl (isPd d)) G := by
  cases d with
  | str x => exact is_person_str x G hs
  | _ =>
    have hT : (T == "str") = false := by
      simp only [tyN] at h
      first
        | (cases h; done)
        | (cases h; decide)
        | (split at h <;> first | (cases h; decide) | cases h)
    rw [F_is_person, runF_1, b_is_person]; simp [h, hT, isPd, -tyN_non, -tyN_bl, -tyN_int, -tyN_tup, -tyN_ktup, -tyN_lst, -tyN_frz, -tyN_dK, -tyN_dT, -tyN_obj]
/-! ### numbers, names -/
def isIn : D → Int → Int → Bool
  | .int i, lo, hi => decide (lo ≤ i) && decide (i ≤ hi)
  | _, _, _ => false
theorem is_from_ok {d : D} {G : DH} {T : String} {lo hi : Int} (h : tyN G d = some T) : F_is_from [d, .int lo, .int hi] G = .ok (.bl (isIn d lo hi)) G := by
  have w : F_is_whole [d] G = .ok (.bl (match d with | .int _ => true | _ => false)) G := by
    cases d with
    | obj n =>
      have : (T == "int") = false ∧ (T == "bool") = false := by
        simp only [tyN] at h
        split at h <;> first | (cases h; decide) | cases h
      rw [F_is_whole, runF_1, b_is_whole]; simp [h, this.1, this.2, -tyN_obj]
    | dT k => cases h
    | fn _ => cases h
    | err _ _ => cases h
    | _ => rw [F_is_whole, runF_1, b_is_whole]; simp []
  cases d with
  | int i =>
    rw [F_is_from, runF_3, b_is_from]; simp [w, isIn]
    by_cases c : lo ≤ i <;> simp [c]
  | _ => rw [F_is_from, runF_3, b_is_from]; simp [w, isIn]
def isN : D → Bool
  | .tup [a, b] => isWd a && isIn b 0 99999
  | _ => false
theorem is_rank_ok {d : D} {G : DH} {T : String} (h : tyN G d = some T) : F_is_rank [d] G = .ok (.bl (isIn d 0 100)) G := by
  rw [F_is_rank, runF_1, b_is_rank]; simp [is_from_ok h]
theorem is_name_ok {d : D} {G : DH} {T : String} (h : tyN G d = some T) (hs : ∀ a b, d = .tup [a, b] → shortS a ∧ (∃ T, tyN G a = some T) ∧ ∃ T, tyN G b = some T) (hk : ∀ xs, d ≠ .ktup xs) : F_is_name [d] G = .ok (.bl (isN d)) G := by
  cases d with
  | ktup xs => exact absurd rfl (hk xs)
  | tup xs =>
    match xs with
    | [] => rw [F_is_name, runF_1, b_is_name]; simp [isN]
    | [a] => rw [F_is_name, runF_1, b_is_name]; simp [isN]
    | [a, b] =>
      obtain ⟨h1, ⟨T1, h2⟩, T2, h3⟩ := hs a b rfl
      rw [F_is_name, runF_1, b_is_name]; simp [isN, L2.atI, L2.ixN, is_word_ok h2 h1, is_from_ok h3]
      cases isWd a <;> simp
    | a :: b :: c :: r =>
      have : ((r.length : Int) + 1 + 1 + 1 == 2) = false := beq_eq_false_iff_ne.mpr (by omega)
      rw [F_is_name, runF_1, b_is_name]; simp [isN, this]
  | dT k => cases h
  | fn _ => cases h
  | err _ _ => cases h
  | obj n =>
    have : (T == "tuple") = false := by
      simp only [tyN] at h
      split at h <;> first | (cases h; decide) | cases h
    rw [F_is_name, runF_1, b_is_name]; simp [h, this, isN, -tyN_obj]
  | _ => rw [F_is_name, runF_1, b_is_name]; simp [isN]
/-! ### drawn letters -/
theorem atI_lt {α : Type} {xs : List α} {r : Int} (h0 : 0 ≤ r) (h1 : r < xs.length) : ∃ c, L2.atI xs r = some c ∧ c ∈ xs := by
  have hl : r.toNat < xs.length := by omega
  refine ⟨xs[r.toNat], ?_, List.getElem_mem hl⟩
  simp [L2.atI, L2.ixN, h0, h1, hl]
theorem join_signs (cs : List Nat) : Txt.join (Str.ofString "") (cs.map fun c => (⟨#[c]⟩ : Str)) = ⟨cs.toArray⟩ := by
  rw [TL.join_eq]
  refine TL.ext_tl ?_
  rw [TL.tl_join]
  show TL.joinL [] _ = cs
  induction cs with
  | nil => rfl
  | cons a l ih =>
    cases l with
    | nil => rfl
    | cons b l =>
      show [a] ++ ([] ++ TL.joinL [] _) = _
      rw [List.nil_append]
      exact congrArg (a :: ·) ih
theorem txts_signs (cs : List Nat) : txts (cs.map fun c => D.str ⟨#[c]⟩) = some (cs.map fun c => (⟨#[c]⟩ : Str)) := by
  induction cs with
  | nil => rfl
  | cons a l ih => simp [ih]
theorem sum_signs (cs : List Nat) : ((cs.map fun c => (⟨#[c]⟩ : Str)).map Str.length).sum = cs.length := by
  induction cs with
  | nil => rfl
  | cons a l ih => simp [Str.length, Nat.add_comm] at ih ⊢; omega
theorem joinO_signs {cs : List Nat} {G : DH} (h : cs.length ≤ 1000) : joinO (.str (Str.ofString "")) [.lst (cs.map fun c => D.str ⟨#[c]⟩)] G = .ok (.str ⟨cs.toArray⟩) G := by
  rw [joinO_s, seqOf_lst, Option.bind_some, txts_signs]
  show (if _ then R.ok (D.str (Txt.join (Str.ofString "") _)) G else R.stop) = _
  rw [join_signs, if_pos]
  rw [sum_signs, List.length_map, show (Str.ofString "").length = 0 from rfl, Nat.mul_zero]
  omega
theorem letters_spec {G : DH} {n : Nat} (h : Pl G n) (m : Nat) (hm : m ≤ 1000) : ∃ (x : Str) (G' : DH), F__law_letters [.obj n, .int m] G = .ok (.str x) G' ∧ x.length = m ∧ (∀ c ∈ x.cps.toList, c ∈ LET) ∧ Af n G G' := by
  have big : (1000 : Nat) ≤ sizeLine := by rw [sizeLine_eq]; omega
  have len26 : (Str.ofString "abcdefghijklmnopqrstuvwxyz").cps.toList.length = 26 := by decide +kernel
  have fits : (Str.ofString "abcdefghijklmnopqrstuvwxyz").length ≤ sizeLine := by decide +kernel
  obtain ⟨a, G', e, el, cs, rfl, ec, el2, af⟩ := lcL_inv (g := gNm 3) (tt := dYes) (te := dBin ixD (dVar 2) (dCall F__law_take (dCons (dVar 0) (dCons (dC (.int 26)) dNil)))) (s0 := [some (.obj n), some (.int m), some (.str "abcdefghijklmnopqrstuvwxyz"), none])
    (fun i a G' => ∃ cs : List Nat, a = cs.map (fun c => D.str ⟨#[c]⟩) ∧ cs.length = i ∧ (∀ c ∈ cs, c ∈ LET) ∧ Af n G G') (rngD 0 m) 0 [] G (by simp [rngD]; omega) (fun j d a G1 hd hi => by
      obtain ⟨cs, rfl, e1, e2, af⟩ := hi
      obtain ⟨r, G2, t1, t2, t3, t4⟩ := take_spec (m := 26) af.1 (by decide) (by decide)
      obtain ⟨c, c1, c2⟩ := atI_lt (xs := (Str.ofString "abcdefghijklmnopqrstuvwxyz").cps.toList) t2 (by rw [len26]; exact t3)
      refine ⟨_, G1, rfl, .inr ⟨G1, .str ⟨#[c]⟩, G2, rfl, ?_, cs ++ [c], by simp, by simp [e1], ?_, af.trans t4⟩⟩
      · simp [t1, fits, c1]
      · intro x hx
        rcases List.mem_append.mp hx with hx | hx
        · exact e2 x hx
        · rw [List.mem_singleton.mp hx]; exact c2) ⟨[], rfl, rfl, by simp, .refl h⟩
  have hlen : cs.length = m := by simpa [rngD] using ec
  refine ⟨⟨cs.toArray⟩, G', ?_, by simpa [Str.length] using hlen, by simpa using el2, af⟩
  have i1 : iRg1 (dCons (dVar 1) dNil) [some (.obj n), some (.int m), some (.str "abcdefghijklmnopqrstuvwxyz"), none] G = .ok (rngD 0 m) G := iRg1_nat (by simp) (by omega)
  have j := joinO_signs (cs := cs) (G := G') (by omega)
  have s1 : ([some (D.obj n), some (D.int m), none, none] : DSl).set 2 (some (.str "abcdefghijklmnopqrstuvwxyz")) = [some (.obj n), some (.int m), some (.str "abcdefghijklmnopqrstuvwxyz"), none] := rfl
  have s2 : wipeD [some (D.obj n), some (D.int m), some (.str "abcdefghijklmnopqrstuvwxyz"), none] [3] = [some (D.obj n), some (D.int m), some (.str "abcdefghijklmnopqrstuvwxyz"), none] := rfl
  have s3 : (some (D.obj n) :: some (D.int m) :: List.replicate (4 - 2) none : DSl) = [some (D.obj n), some (D.int m), none, none] := rfl
  have s4 : rcv G "str" (.str (Str.ofString "")) = true := by rw [rcv_str]; decide
  rw [F__law_letters, runF_2, b__law_letters, s3, sSeq_s, sAsg_s, dC_s, bind_ok, gNm_s, bind_ok, sBind_nx, s1, sRet_s, dMt_s, dC_s, bind_ok, if_pos s4, dCons_s, dLc_s, i1, bind_ok, s2, e, bind_ok, mkL_v, bind_ok, dNil_s, bind_ok, bind_ok, j, bind_ok, finR_rt]
/-! ### a pool is made -/
theorem pl_new {G : DH} {a b : Int} (ha : 0 ≤ a) (hb : 0 ≤ b) (hb2 : b < 2147483647) : Pl (G ++ [.lst [.int a, .int b]]) G.length := ⟨a, b, by simp, ha, hb, hb2⟩
theorem pool_spec {zs : List Int} {k : Nat} {G : DH} (hk : k ≤ 1000) (hz : zs.length ≤ 1000) : ∃ a b : Int, F__law_pool [.frz (zs.map D.int), .int k] G = .ok (.obj G.length) (G ++ [.lst [.int a, .int b]]) ∧ 0 ≤ a ∧ 0 ≤ b ∧ b < 2147483647 := by
  have main : ∀ c : Int, ∃ a b : Int, (sSeq (sAsg (dCall maxO (dCons (dVar 2) (dCons (dBin subD (dUn negD (dC (.int 1))) (dVar 2)) (dNil)))) (gNm 3)) (
    sSeq (sAsg (dBin modD (dBin (mulD false) (dBin (addD false) (dBin (addD false) (dBin (addD false) (dBin modD (dVar 3) (dC (.int 2147483629))) (dBin (mulD false) (dBin (mulD false) (dC (.int 7919)) (dVar 1)) (dVar 1))) (dBin (mulD false) (dC (.int 31)) (dVar 1))) (dC (.int 17))) (dC (.int 48271))) (dC (.int 2147483647))) (gNm 4)) (
    sRet (dLst true (dCons (dBin (mulD false) (dVar 3) (dCall intO (dCons (dBin geD (dVar 3) (dBin powD (dC (.int 10)) (dC (.int 18)))) (dNil)))) (dCons (dVar 4) (dNil))))))) [some (.frz (zs.map D.int)), some (.int k), some (.int c), none, none] G = .ok (.rt (.obj G.length), [some (.frz (zs.map D.int)), some (.int k), some (.int c), some (.int (if -1 - c > c then -1 - c else c)), some (.int b)]) (G ++ [.lst [.int a, .int b]]) ∧ 0 ≤ a ∧ 0 ≤ b ∧ b < 2147483647 := fun c => by
    have hs : 0 ≤ (if -1 - c > c then -1 - c else c) := by split <;> omega
    generalize hS : (if -1 - c > c then -1 - c else c) = S at hs
    have hm0 : 0 ≤ S % 2147483629 := Int.emod_nonneg _ (by decide)
    have hm1 : S % 2147483629 < 2147483629 := Int.emod_lt_of_pos _ (by decide)
    have k1 : mulOk 7919 k := .inl (by decide)
    have k2 : mulOk (7919 * k) k := .inr (.inl (by omega))
    have k3 : mulOk 31 k := .inl (by decide)
    have k4 : ∀ x : Int, mulOk x 48271 := fun x => .inr (.inl (by decide))
    have k5 : ∀ b : Bool, mulOk S (if b = true then 1 else 0) := fun b => .inr (.inl (by cases b <;> decide))
    have k6 : (10 : Int).natAbs < 18446744073709551616 := by decide
    refine ⟨S * (if decide ((10 : Int) ^ (18 : Int).toNat ≤ S) = true then 1 else 0), (S % 2147483629 + 7919 * k * k + 31 * k + 17) * 48271 % 2147483647, ?_, ?_, Int.emod_nonneg _ (by decide), Int.emod_lt_of_pos _ (by decide)⟩
    · have z2 : (2 : Nat) ≤ sizeLine := by rw [sizeLine_eq]; omega
      have p1 : (0 : Int) < 2147483629 := by decide
      have p2 : (0 : Int) < 2147483647 := by decide
      have p3 : (0 : Int) ≤ 18 ∧ (18 : Int) ≤ 1000000 ∧ (10 : Int).natAbs < 18446744073709551616 := by decide
      simp only [if_pos p1, if_pos p2, if_pos p3, List.length_cons, List.length_nil, Nat.zero_add, Nat.reduceAdd, if_pos z2, mkL_o, sSeq_s, sAsg_s, dCall_s, dCons_s, dVar_s, dBin_s, dUn_s, dC_s, dNil_s, bind_ok, sBind_nx, gNm_s, List.getElem?_cons_succ, List.getElem?_cons_zero, negD_i, subD_ii, maxO_2, hS, List.set_cons_succ, List.set_cons_zero, modD_ii, mulD_ii, addD_ii, if_pos k1, if_pos k2, if_pos k3, if_pos (k4 _), sRet_s, dLst_s, geD_ii, powD_ii, intO_b, if_pos (k5 _)]
    · split <;> omega
  obtain ⟨a, b, e, ha, hb, hb2⟩ := main (if k < zs.length then zs.getD k 0 else 0)
  refine ⟨a, b, ?_, ha, hb, hb2⟩
  have s3 : (some (D.frz (zs.map D.int)) :: some (D.int k) :: List.replicate (5 - 2) none : DSl) = [some (.frz (zs.map D.int)), some (.int k), none, none, none] := rfl
  rw [F__law_pool, runF_2, b__law_pool, s3]
  by_cases c : k < zs.length
  · rw [if_pos c] at e
    have c1 : decide ((k : Int) < (zs.map D.int).length) = true := by simpa using c
    have c2 : L2.atI (zs.map D.int) (k : Int) = some (.int (zs.getD k 0)) := by
      have : (k : Int) < (zs.map D.int).length := by simpa using c
      simp [L2.atI, L2.ixN, this, c]
    have : sIf (dTest (dBin ltD (dVar 1) (dCall lenO (dCons (dVar 0) dNil)))) (sAsg (dBin ixD (dVar 0) (dVar 1)) (gNm 2)) sPass [some (.frz (zs.map D.int)), some (.int k), some (.int 0), none, none] G = .ok (.nx, [some (.frz (zs.map D.int)), some (.int k), some (.int (zs.getD k 0)), none, none]) G := by
      simp only [sIf_s, dTest_s, dBin_s, dVar_s, dCall_s, dCons_s, dNil_s, List.getElem?_cons_succ, List.getElem?_cons_zero, bind_ok, lenO_1, lenV_frz, ltD_ii, c1, if_true, sAsg_s, ixD_frz, seqOf_frz, c2, gNm_s, List.set_cons_succ, List.set_cons_zero]
    rw [sSeq_s, sAsg_s, dC_s, bind_ok, gNm_s, bind_ok, sBind_nx]
    show finR (sSeq _ _ [some (.frz (zs.map D.int)), some (.int k), some (.int 0), none, none] G) = _
    rw [sSeq_s, this, sBind_nx, e, finR_rt]
  · rw [if_neg c] at e
    have c1 : decide ((k : Int) < (zs.map D.int).length) = false := by simpa using c
    have : sIf (dTest (dBin ltD (dVar 1) (dCall lenO (dCons (dVar 0) dNil)))) (sAsg (dBin ixD (dVar 0) (dVar 1)) (gNm 2)) sPass [some (.frz (zs.map D.int)), some (.int k), some (.int 0), none, none] G = .ok (.nx, [some (.frz (zs.map D.int)), some (.int k), some (.int 0), none, none]) G := by
      simp only [sIf_s, dTest_s, dBin_s, dVar_s, dCall_s, dCons_s, dNil_s, List.getElem?_cons_succ, List.getElem?_cons_zero, bind_ok, lenO_1, lenV_frz, ltD_ii, c1, Bool.false_eq_true, if_false, sPass_s]
    rw [sSeq_s, sAsg_s, dC_s, bind_ok, gNm_s, bind_ok, sBind_nx]
    show finR (sSeq _ _ [some (.frz (zs.map D.int)), some (.int k), some (.int 0), none, none] G) = _
    rw [sSeq_s, this, sBind_nx, e, finR_rt]
/-! ### texts and their @ -/
theorem at_eq : at_ = ⟨#[64]⟩ := TL.ext_tl (by rw [at_tl])
theorem at_ne : TL.tl at_ ≠ [] := by rw [at_tl]; simp
theorem at_kind : at_.cps.all (· < 256) = true := by decide +kernel
theorem no64 : (64 : Nat) ∉ LET := by decide +kernel
theorem isW_free {x : Str} (h : isW x = true) : (64 : Nat) ∉ TL.tl x := fun hm => by
  unfold isW at h
  simp only [Bool.and_eq_true, List.all_eq_true, decide_eq_true_eq] at h
  exact no64 (h.2 64 hm)
theorem at_cases (x : Str) : ((64 : Nat) ∉ TL.tl x ∧ Txt.count x at_ = 0 ∧ Txt.partition x at_ = (x, Str.empty, Str.empty)) ∨
    ∃ a b : Str, Txt.partition x at_ = (a, at_, b) ∧ a.length ≤ x.length ∧ b.length ≤ x.length ∧ (((64 : Nat) ∉ TL.tl b ∧ Txt.count x at_ = 1 ∧ Txt.split x at_ = [a, b]) ∨ ((64 : Nat) ∈ TL.tl b ∧ Txt.count x at_ ≠ 1)) := by
  by_cases c : (64 : Nat) ∈ TL.tl x
  · right
    obtain ⟨p, q, e, hp⟩ := List.eq_append_cons_of_mem c
    have ex : x = (⟨p.toArray⟩ : Str) ++ at_ ++ ⟨q.toArray⟩ := TL.ext_tl (by
      rw [TL.tl_append, TL.tl_append, at_tl, e]
      show p ++ 64 :: q = p ++ [64] ++ q
      simp)
    have hp' : (64 : Nat) ∉ TL.tl (⟨p.toArray⟩ : Str) := hp
    have lx : x.length = p.length + (1 + q.length) := by
      have : x.length = (TL.tl x).length := by simp [Str.length, TL.tl]
      rw [this, e]; simp; omega
    have cn : ∀ l : List Nat, 0 ≤ PyProof.Rows.cnt 64 l := fun l => by
      induction l with
      | nil => exact Int.le_refl _
      | cons n l ih => rw [PyProof.Rows.cnt_cons]; split <;> omega
    have ct : Txt.count x at_ = 1 + PyProof.Rows.cnt 64 q := by
      rw [at_eq, PyProof.Rows.count_cnt]
      show PyProof.Rows.cnt 64 (TL.tl x) = _
      rw [e, PyProof.Rows.cnt_append, PyProof.Rows.cnt_none 64 p hp, PyProof.Rows.cnt_cons, if_pos rfl]
      omega
    refine ⟨⟨p.toArray⟩, ⟨q.toArray⟩, by rw [ex]; exact TL.partition_app at_tl hp', by show p.toArray.size ≤ _; rw [lx]; simp, by show q.toArray.size ≤ _; rw [lx]; simp; omega, ?_⟩
    by_cases d : (64 : Nat) ∈ q
    · refine .inr ⟨d, ?_⟩
      rw [ct]
      obtain ⟨u, v, ev, hu⟩ := List.eq_append_cons_of_mem d
      rw [ev, PyProof.Rows.cnt_append, PyProof.Rows.cnt_cons, if_pos rfl]
      have := cn u
      have := cn v
      omega
    · refine .inl ⟨d, by rw [ct, PyProof.Rows.cnt_none 64 q d]; rfl, ?_⟩
      refine TL.map_tl_inj ?_
      rw [TL.split_spl x at_ at_ne (TL.kind_ok at_kind), at_tl, e]
      have r1 := TL.spl_part1 (s := 64) (S := []) (p := p) (rest := q) (acc := []) hp
      have r2 := TL.spl_last1 (s := 64) (S := []) (p := q) (acc := []) d
      have z : p ++ 64 :: q = p ++ ([64] ++ q) := by simp
      rw [z, r1, r2]
      rfl
  · left
    refine ⟨c, ?_, TL.partition_none at_tl c⟩
    rw [at_eq, PyProof.Rows.count_cnt]
    exact PyProof.Rows.cnt_none 64 _ c
end DF
end
/-! ==== LB ==== -/
section
set_option Elab.async false
set_option linter.all false
set_option autoImplicit false
set_option maxRecDepth 100000
set_option maxHeartbeats 4000000
/-! What shared defs compute. Printed by gen.py. -/
namespace DF
open PySem DL

def b_deed_for : DS :=
  sRet (dIf (dTest (dBin (inU false) (dVar 2) (dVar 1))) (dBin ixU (dVar 0) (dBin ixU (dVar 1) (dVar 2))) (dC .non))
def F_deed_for : DFn := runF 3 3 b_deed_for
def b_body_for : DS :=
  sSeq (sAsg (dCall F_deed_for (dCons (dVar 0) (dCons (dVar 1) (dCons (dVar 2) (dNil))))) (gNm 4)) (
    sRet (dIf (dTest (dBin isD (dVar 4) (dC .non))) (dVar 3) (dBin ixU (dVar 4) (dC (.int 4)))))
def F_body_for : DFn := runF 4 5 b_body_for
def b_first_ranked : DS :=
  sSeq (sAsg (dCall F_deed_for (dCons (dVar 0) (dCons (dVar 1) (dCons (dC (.ktup [(.str "begin"), (.str "")])) (dNil))))) (gNm 2)) (
    sRet (dIf (dTest (dBin isD (dVar 2) (dC .non))) (dNewK false) (dDispK false ((dBin ixU (dVar 2) (dC (.int 2)), dC (.int 100)) :: []))))
def F_first_ranked : DFn := runF 2 3 b_first_ranked
def b_ranked_by : DS :=
  sSeq (sIf (dTest (dBin isD (dVar 2) (dC .non))) (sRet (dCall F_first_ranked (dCons (dVar 0) (dCons (dVar 1) (dNil))))) (sPass)) (
    sRet (dDc false [3, 4] (iSeq (dBin ixU (dVar 2) (dC (.int 0)))) (gTup 2 (gCons (gNm 3) (gCons (gNm 4) (gNil)))) (dTest (dBin gtD (dVar 4) (dC (.int 0)))) (dVar 3) (dVar 4)))
def F_ranked_by : DFn := runF 3 5 b_ranked_by
def b_wanted_by : DS :=
  sSeq (sAsg (dIf (dTest (dBin isD (dVar 0) (dC .non))) (dNewK false) (dCall (dictO false false) (dCons (dBin ixU (dVar 0) (dC (.int 1))) (dNil)))) (gNm 1)) (
    sRet (dDc false [2] (iSeq (dC (.ktup [(.str "bar"), (.str "call"), (.str "door"), (.str "move"), (.str "out"), (.str "ranks"), (.str "say"), (.str "strike")]))) (gNm 2) (dYes) (dVar 2) (dMtD getO (dVar 1) (dCons (dVar 2) (dCons (dIf (dTest (dBin (inU false) (dVar 2) (dC (.ktup [(.str "say"), (.str "call")])))) (dC (.int 0)) (dC (.int 50))) (dNil))))))
def F_wanted_by : DFn := runF 1 3 b_wanted_by
def b_ranked : DS :=
  sRet (dCall F_ranked_by (dCons (dVar 0) (dCons (dVar 1) (dCons (dCallK 3 1 [0, 1, 2, 3] F_body_for (dCons (dVar 0) (dCons (dVar 1) (dCons (dC (.ktup [(.str "ranks"), (.str "")])) (dNil)))) (dCons (dC .non) (dNil))) (dNil)))))
def F_ranked : DFn := runF 2 2 b_ranked
def b_rank_in : DS :=
  sRet (dMtD getO (dCall F_ranked (dCons (dVar 0) (dCons (dVar 1) (dNil)))) (dCons (dVar 2) (dCons (dC (.int 0)) (dNil))))
def F_rank_in : DFn := runF 3 3 b_rank_in
def b_wanted_in : DS :=
  sRet (dBin ixU (dCall F_wanted_by (dCons (dCallK 3 1 [0, 1, 2, 3] F_body_for (dCons (dVar 0) (dCons (dVar 1) (dCons (dC (.ktup [(.str "ranks"), (.str "")])) (dNil)))) (dCons (dC .non) (dNil))) (dNil))) (dVar 2))
def F_wanted_in : DFn := runF 3 3 b_wanted_in
def b_seat_in : DS :=
  sRet (dCallK 3 1 [0, 1, 2, 3] F_body_for (dCons (dVar 0) (dCons (dVar 1) (dCons (dTup (dCons (dC (.str "seat")) (dCons (dVar 2) (dNil)))) (dNil)))) (dCons (dC (.str "out")) (dNil)))
def F_seat_in : DFn := runF 3 3 b_seat_in
def b_door_in : DS :=
  sRet (dCallK 3 1 [0, 1, 2, 3] F_body_for (dCons (dVar 0) (dCons (dVar 1) (dCons (dC (.ktup [(.str "door"), (.str "")])) (dNil)))) (dCons (dC (.str "asked")) (dNil)))
def F_door_in : DFn := runF 2 2 b_door_in
def l1__law_folk : DS :=
  sSeq (sAsg (dBin (addD false) (dCall F__law_letters (dCons (dVar 0) (dCons (dBin (addD false) (dC (.int 1)) (dCall F__law_take (dCons (dVar 0) (dCons (dC (.int 2)) (dNil))))) (dNil)))) (dBin ixU (dC (.str "xyzuvw")) (dVar 4))) (gNm 5)) (
    sDrop (dMt "list" appO (dVar 3) (dCons (dBin (addD false) (dBin (addD false) (dVar 5) (dC (.str "@"))) (dBin ixU (dVar 2) (dCall F__law_take (dCons (dVar 0) (dCons (dC (.int 2)) (dNil)))))) (dNil))))
def b__law_folk : DS :=
  sSeq (sAsg (dLc false [7] (iRg1 (dCons (dC (.int 2)) (dNil))) (gNm 7) (dYes) (dCall F__law_letters (dCons (dVar 0) (dCons (dBin (addD false) (dC (.int 1)) (dCall F__law_take (dCons (dVar 0) (dCons (dC (.int 3)) (dNil))))) (dNil))))) (gNm 2)) (
    sSeq (sAsg (dLst true (dNil)) (gNm 3)) (
    sSeq (sFor (iRg1 (dCons (dVar 1) (dNil))) (gNm 4) (l1__law_folk)) (
    sSeq (sIf (tAndD (dTest (dBin neU (dBin ixU (dVar 2) (dC (.int 0))) (dBin ixU (dVar 2) (dC (.int 1))))) (dTest (dBin eqU (dCall F__law_take (dCons (dVar 0) (dCons (dC (.int 3)) (dNil)))) (dC (.int 0))))) (sSeq (sAsg (dMt "str" (splitO false) (dBin ixU (dVar 3) (dC (.int 1))) (dCons (dC (.str "@")) (dNil))) (gNm 6)) (
    sAsg (dBin (addD false) (dBin (addD false) (dBin ixU (dVar 6) (dC (.int 0))) (dC (.str "@"))) (dBin ixU (dVar 2) (dCall intO (dCons (dBin eqU (dBin ixU (dVar 6) (dC (.int 1))) (dBin ixU (dVar 2) (dC (.int 0)))) (dNil))))) (gSt setU (dVar 3) (dUn negD (dC (.int 1)))))) (sPass)) (
    sRet (dFree (dVar 3))))))
def F__law_folk : DFn := runF 2 8 b__law_folk
def b__law_rank_rows : DS :=
  sSeq (sAsg (dLst false (dCons (dC (.int 0)) (dCons (dBin (addD false) (dC (.int 1)) (dCall F__law_take (dCons (dVar 0) (dCons (dC (.int 98)) (dNil))))) (dCons (dC (.int 50)) (dCons (dC (.int 50)) (dCons (dC (.int 99)) (dCons (dC (.int 100)) (dNil)))))))) (gNm 2)) (
    sSeq (sAsg (dCall (sortedO false) (dCons (dLc false [5] (iSeq (dVar 1)) (gNm 5) (dTest (dBin gtD (dCall F__law_take (dCons (dVar 0) (dCons (dC (.int 4)) (dNil)))) (dC (.int 0)))) (dTup (dCons (dVar 5) (dCons (dBin ixU (dVar 2) (dCall F__law_take (dCons (dVar 0) (dCons (dC (.int 6)) (dNil))))) (dNil))))) (dNil))) (gNm 3)) (
    sSeq (sAsg (dLst false (dCons (dC (.str "bar")) (dCons (dC (.str "call")) (dCons (dC (.str "door")) (dCons (dC (.str "move")) (dCons (dC (.str "out")) (dCons (dC (.str "ranks")) (dCons (dC (.str "say")) (dCons (dC (.str "strike")) (dNil)))))))))) (gNm 4)) (
    sRet (dTup (dCons (dCall tupleK (dCons (dVar 3) (dNil))) (dCons (dCall tupleK (dCons (dLc false [6] (iSeq (dVar 4)) (gNm 6) (dTest (dBin eqU (dCall F__law_take (dCons (dVar 0) (dCons (dC (.int 3)) (dNil)))) (dC (.int 0)))) (dTup (dCons (dVar 6) (dCons (dBin ixU (dVar 2) (dCall F__law_take (dCons (dVar 0) (dCons (dC (.int 6)) (dNil))))) (dNil))))) (dNil))) (dNil)))))))
def F__law_rank_rows : DFn := runF 2 7 b__law_rank_rows
def b__law_add : DS :=
  sSeq (sAsg (dTup (dCons (dBin ixU (dMt "str" (splitO false) (dVar 2) (dCons (dC (.str "@")) (dNil))) (dC (.int 1))) (dCons (dCall lenU (dCons (dVar 0) (dNil))) (dNil)))) (gNm 5)) (
    sSeq (sAsg (dCall tupleK (dCons (dSl false (dCall (listU false) (dCons (dVar 0) (dNil))) (dNoP) (dP (dC (.int 1)))) (dNil))) (gNm 6)) (
    sSeq (sAsg (dTup (dCons (dVar 5) (dCons (dVar 1) (dCons (dVar 2) (dCons (dVar 3) (dCons (dVar 4) (dCons (dVar 6) (dCons (dVar 6) (dNil))))))))) (gSt setU (dVar 0) (dVar 5))) (
    sRet (dVar 5))))
def F__law_add : DFn := runF 5 7 b__law_add
def l1__law_hall : DS :=
  sDrop (dCall F__law_add (dCons (dVar 2) (dCons (dC (.str "say")) (dCons (dBin ixU (dVar 1) (dC (.int 0))) (dCons (dC (.str "")) (dCons (dC (.str "so")) (dNil)))))))
def l2__law_hall : DS :=
  sAsg (dCall F__law_add (dCons (dVar 2) (dCons (dC (.str "ranks")) (dCons (dBin ixU (dVar 1) (dCall F__law_take (dCons (dVar 0) (dCons (dCall lenU (dCons (dVar 1) (dNil))) (dNil))))) (dCons (dC (.str "")) (dCons (dCall F__law_rank_rows (dCons (dVar 0) (dCons (dVar 1) (dNil)))) (dNil))))))) (gSt setU (dVar 3) (dTup (dCons (dC (.str "ranks")) (dCons (dC (.str "")) (dNil)))))
def l3__law_hall : DS :=
  sIf (dTest (dBin gtD (dCall F__law_take (dCons (dVar 0) (dCons (dC (.int 5)) (dNil)))) (dC (.int 0)))) (sSeq (sAsg (dBin ixU (dLst false (dCons (dC (.str "in")) (dCons (dC (.str "in")) (dCons (dC (.str "in")) (dCons (dC (.str "out")) (dCons (dC (.str "called")) (dCons (dC (.str "barred")) (dNil)))))))) (dCall F__law_take (dCons (dVar 0) (dCons (dC (.int 6)) (dNil))))) (gNm 6)) (
    sAsg (dCall F__law_add (dCons (dVar 2) (dCons (dC (.str "seat")) (dCons (dBin ixU (dVar 1) (dCall F__law_take (dCons (dVar 0) (dCons (dCall lenU (dCons (dVar 1) (dNil))) (dNil))))) (dCons (dVar 5) (dCons (dVar 6) (dNil))))))) (gSt setU (dVar 3) (dTup (dCons (dC (.str "seat")) (dCons (dVar 5) (dNil))))))) (sPass)
def b__law_hall : DS :=
  sSeq (sAsg (dNewT true) (gNm 2)) (
    sSeq (sAsg (dNewT true) (gNm 3)) (
    sSeq (sAsg (dCall F__law_add (dCons (dVar 2) (dCons (dC (.str "begin")) (dCons (dBin ixU (dVar 1) (dC (.int 0))) (dCons (dC (.str "")) (dCons (dTup (dCons (dBin (addD false) (dC (.int 1)) (dCall F__law_take (dCons (dVar 0) (dCons (dC (.int 2)) (dNil))))) (dCons (dC .non) (dNil)))) (dNil))))))) (gSt setU (dVar 3) (dTup (dCons (dC (.str "begin")) (dCons (dC (.str "")) (dNil)))))) (
    sSeq (sFor (iRg1 (dCons (dCall F__law_take (dCons (dVar 0) (dCons (dC (.int 13)) (dNil)))) (dNil))) (gNm 4) (l1__law_hall)) (
    sSeq (sFor (iRg1 (dCons (dCall F__law_take (dCons (dVar 0) (dCons (dC (.int 3)) (dNil)))) (dNil))) (gNm 4) (l2__law_hall)) (
    sSeq (sIf (dTest (dBin eqU (dCall F__law_take (dCons (dVar 0) (dCons (dC (.int 2)) (dNil)))) (dC (.int 0)))) (sAsg (dCall F__law_add (dCons (dVar 2) (dCons (dC (.str "door")) (dCons (dBin ixU (dVar 1) (dC (.int 0))) (dCons (dC (.str "")) (dCons (dBin ixU (dLst false (dCons (dC (.str "open")) (dCons (dC (.str "asked")) (dNil)))) (dCall F__law_take (dCons (dVar 0) (dCons (dC (.int 2)) (dNil))))) (dNil))))))) (gSt setU (dVar 3) (dTup (dCons (dC (.str "door")) (dCons (dC (.str "")) (dNil)))))) (sPass)) (
    sSeq (sFor (iSeq (dVar 1)) (gNm 5) (l3__law_hall)) (
    sSeq (sDrop (dCall F__law_add (dCons (dVar 2) (dCons (dC (.str "say")) (dCons (dBin ixU (dVar 1) (dC (.int 0))) (dCons (dC (.str "")) (dCons (dC (.str "so")) (dNil)))))))) (
    sSeq (sIf (dTest (dBin eqU (dCall F__law_take (dCons (dVar 0) (dCons (dC (.int 9)) (dNil)))) (dC (.int 0)))) (sDrop (dMtD popO (dVar 3) (dCons (dTup (dCons (dC (.str "begin")) (dCons (dC (.str "")) (dNil)))) (dNil)))) (sPass)) (
    sRet (dTup (dCons (dFree (dVar 2)) (dCons (dFree (dVar 3)) (dNil)))))))))))))
def F__law_hall : DFn := runF 2 7 b__law_hall
def b__law_content_at : DS :=
  sSeq (sIf (dTest (dBin (inU false) (dVar 2) (dVar 1))) (sRet (dBin ixU (dBin ixU (dVar 0) (dBin ixU (dVar 1) (dVar 2))) (dC (.int 4)))) (sPass)) (
    sRet (dVar 3))
def F__law_content_at : DFn := runF 4 4 b__law_content_at
def b__law_rank : DS :=
  sSeq (sAsg (dCall F__law_content_at (dCons (dVar 0) (dCons (dVar 1) (dCons (dTup (dCons (dC (.str "ranks")) (dCons (dC (.str "")) (dNil)))) (dCons (dC .non) (dNil)))))) (gNm 3)) (
    sSeq (sIf (dTest (dBin isnotD (dVar 3) (dC .non))) (sRet (dMtD getO (dCall (dictO false false) (dCons (dBin ixU (dVar 3) (dC (.int 0))) (dNil))) (dCons (dVar 2) (dCons (dC (.int 0)) (dNil))))) (sPass)) (
    sSeq (sIf (dTest (dBin (inU false) (dTup (dCons (dC (.str "begin")) (dCons (dC (.str "")) (dNil)))) (dVar 1))) (sRet (dBin (mulD false) (dC (.int 100)) (dCall intO (dCons (dBin eqU (dBin ixU (dBin ixU (dVar 0) (dBin ixU (dVar 1) (dTup (dCons (dC (.str "begin")) (dCons (dC (.str "")) (dNil)))))) (dC (.int 2))) (dVar 2)) (dNil))))) (sPass)) (
    sRet (dC (.int 0)))))
def F__law_rank : DFn := runF 3 4 b__law_rank
def b__law_free : DS :=
  sRet (dBin ixU (dLst false (dCons (dC (.int 50)) (dCons (dC (.int 0)) (dNil)))) (dCall intO (dCons (dBin (inU false) (dVar 0) (dLst false (dCons (dC (.str "say")) (dCons (dC (.str "call")) (dNil))))) (dNil))))
def F__law_free : DFn := runF 1 1 b__law_free
def b__law_wanted : DS :=
  sSeq (sAsg (dCall F__law_content_at (dCons (dVar 0) (dCons (dVar 1) (dCons (dTup (dCons (dC (.str "ranks")) (dCons (dC (.str "")) (dNil)))) (dCons (dTup (dCons (dTupK (dNil)) (dCons (dTupK (dNil)) (dNil)))) (dNil)))))) (gNm 3)) (
    sRet (dMtD getO (dCall (dictO false false) (dCons (dBin ixU (dVar 3) (dC (.int 1))) (dNil))) (dCons (dVar 2) (dCons (dCall F__law_free (dCons (dVar 2) (dNil))) (dNil)))))
def F__law_wanted : DFn := runF 3 4 b__law_wanted
def b__law_seat : DS :=
  sRet (dCall F__law_content_at (dCons (dVar 0) (dCons (dVar 1) (dCons (dTup (dCons (dC (.str "seat")) (dCons (dVar 2) (dNil)))) (dCons (dC (.str "out")) (dNil))))))
def F__law_seat : DFn := runF 3 3 b__law_seat
end DF
end
/-! ==== DSim2 ==== -/
section
set_option Elab.async false
set_option linter.all false
set_option autoImplicit false
set_option maxRecDepth 100000
set_option maxHeartbeats 4000000
/-! DL: the combinators, applied. Printed by simgen.py. -/
namespace DL
open PySem
@[simp] theorem dMtD_s (F : D → List D → DH → R D) (o : DE) (a : DA) (s : DSl) (G : DH) : dMtD F o a s G = (o s G).bind fun d G => if rcvD G d = true then (a s G).bind fun ds G => F d ds G else .stop := (rfl)
@[simp] theorem dReprL_s (a : DA) (s : DSl) (G : DH) : dReprL a s G = (a s G).bind reprLF := (rfl)
@[simp] theorem dTupK_s (a : DA) (s : DSl) (G : DH) : dTupK a s G = (a s G).bind fun xs G => if xs.length ≤ sizeLine then .ok (.ktup xs) G else .stop := (rfl)
@[simp] theorem dDispK_s (o : Bool) (f : DPr) (s : DSl) (G : DH) : dDispK o f s G = (evP f s G).bind fun ps G => match keysP ps with
  | some kvs => if kvs.length ≤ 15 then mkK o (mergeD [] kvs) G else .stop
  | none => .stop := (rfl)
@[simp] theorem dDc_s (o : Bool) (vs : List Nat) (it : DA) (g : DG) (tt : DT) (tk tv : DE) (s : DSl) (G : DH) : dDc o vs it g tt tk tv s G = (it s G).bind fun ds G => (dcL g tt tk tv (wipeD s vs) ds [] G).bind fun kvs G => mkK o kvs G := (rfl)
@[simp] theorem iKeyD_s (f : DE) (s : DSl) (G : DH) : iKeyD f s G = (f s G).bind fun d G => match wkK G d with
  | some kvs => .ok (kvs.map fun kv => kD kv.1) G
  | none => (match wkT G d with
    | some kvs => .ok (kvs.map fun kv => D.tup (kv.1.map kD)) G
    | none => .stop) := (rfl)
@[simp] theorem iItmD_s (f : DE) (s : DSl) (G : DH) : iItmD f s G = (f s G).bind fun d G => match wkK G d with
  | some kvs => .ok (kvs.map fun kv => D.tup [kD kv.1, kv.2]) G
  | none => .stop := (rfl)
@[simp] theorem iValD_s (f : DE) (s : DSl) (G : DH) : iValD f s G = (f s G).bind fun d G => match wkK G d with
  | some kvs => .ok (kvs.map fun kv => kv.2) G
  | none => .stop := (rfl)
@[simp] theorem dLock_s (i : Nat) (f : DE) (s : DSl) (G : DH) : dLock i f s G = match s[i]? with
  | some (some (.obj n)) => (match G[n]? with
    | some (.dK kvs) => (f s (G.set n (.lkK kvs))).bind fun v G' => (match G'[n]? with
      | some (.lkK kvs') => .ok v (G'.set n (.dK kvs'))
      | _ => .stop)
    | some (.dT kvs) => (f s (G.set n (.lkT kvs))).bind fun v G' => (match G'[n]? with
      | some (.lkT kvs') => .ok v (G'.set n (.dT kvs'))
      | _ => .stop)
    | _ => f s G)
  | _ => f s G := (rfl)
@[simp] theorem keyK_i (i : Int) : keyK (.int i) = some (.inl i) := (rfl)
@[simp] theorem keyK_s (x : Str) : keyK (.str x) = some (.inr x) := (rfl)
@[simp] theorem keyK_t (xs : List D) : keyK (.tup xs) = none := (rfl)
@[simp] theorem keyK_k (xs : List D) : keyK (.ktup xs) = none := (rfl)
@[simp] theorem keysL_nil : keysL [] = some [] := (rfl)
@[simp] theorem keysL_i (i : Int) (ds : List D) : keysL (.int i :: ds) = (keysL ds).map (.inl i :: ·) := by
  rw [keysL, keyK_i]; cases keysL ds <;> rfl
@[simp] theorem keysL_s (x : Str) (ds : List D) : keysL (.str x :: ds) = (keysL ds).map (.inr x :: ·) := by
  rw [keysL, keyK_s]; cases keysL ds <;> rfl
@[simp] theorem keyT_t (xs : List D) : keyT (.tup xs) = keysL xs := (rfl)
@[simp] theorem keyT_k (xs : List D) : keyT (.ktup xs) = keysL xs := (rfl)
@[simp] theorem dKof_dK (G : DH) (kv : List (L2.Key × D)) : dKof G (.dK kv) = some kv := (rfl)
@[simp] theorem dKof_dT (G : DH) (kv : List (List L2.Key × D)) : dKof G (.dT kv) = none := (rfl)
@[simp] theorem dKof_tup (G : DH) (xs : List D) : dKof G (.tup xs) = none := (rfl)
@[simp] theorem dKof_ktup (G : DH) (xs : List D) : dKof G (.ktup xs) = none := (rfl)
@[simp] theorem dKof_lst (G : DH) (xs : List D) : dKof G (.lst xs) = none := (rfl)
@[simp] theorem dKof_frz (G : DH) (xs : List D) : dKof G (.frz xs) = none := (rfl)
@[simp] theorem dKof_str (G : DH) (x : Str) : dKof G (.str x) = none := (rfl)
@[simp] theorem dKof_int (G : DH) (i : Int) : dKof G (.int i) = none := (rfl)
@[simp] theorem dKof_bl (G : DH) (b : Bool) : dKof G (.bl b) = none := (rfl)
@[simp] theorem dKof_non (G : DH) : dKof G .non = none := (rfl)
@[simp] theorem dTof_dT (G : DH) (kv : List (List L2.Key × D)) : dTof G (.dT kv) = some kv := (rfl)
@[simp] theorem dTof_dK (G : DH) (kv : List (L2.Key × D)) : dTof G (.dK kv) = none := (rfl)
@[simp] theorem dTof_tup (G : DH) (xs : List D) : dTof G (.tup xs) = none := (rfl)
@[simp] theorem dTof_ktup (G : DH) (xs : List D) : dTof G (.ktup xs) = none := (rfl)
@[simp] theorem dTof_lst (G : DH) (xs : List D) : dTof G (.lst xs) = none := (rfl)
@[simp] theorem dTof_frz (G : DH) (xs : List D) : dTof G (.frz xs) = none := (rfl)
@[simp] theorem dTof_str (G : DH) (x : Str) : dTof G (.str x) = none := (rfl)
@[simp] theorem dTof_int (G : DH) (i : Int) : dTof G (.int i) = none := (rfl)
@[simp] theorem dTof_bl (G : DH) (b : Bool) : dTof G (.bl b) = none := (rfl)
@[simp] theorem dTof_non (G : DH) : dTof G .non = none := (rfl)
/-- a dict of the one kind is none of the other -/
theorem dK_noT {G : DH} {d : D} {kvs : List (L2.Key × D)} (h : dKof G d = some kvs) : dTof G d = none := by
  cases d with
  | obj n =>
    simp only [dKof, dTof] at h ⊢
    split at h <;> first | (rename_i e; rw [e]) | cases h
  | dK _ => rfl
  | _ => cases h
theorem dT_noK {G : DH} {d : D} {kvs : List (List L2.Key × D)} (h : dTof G d = some kvs) : dKof G d = none := by
  cases d with
  | obj n =>
    simp only [dKof, dTof] at h ⊢
    split at h <;> first | (rename_i e; rw [e]) | cases h
  | dT _ => rfl
  | _ => cases h
theorem dT_noL {G : DH} {d : D} {kvs : List (List L2.Key × D)} (h : dTof G d = some kvs) : lstOf G d = none := by
  cases d with
  | obj n =>
    simp only [dTof, lstOf] at h ⊢
    split at h <;> first | (rename_i e; rw [e]) | cases h
  | dT _ => rfl
  | _ => cases h
theorem lookD_K {G : DH} {d y : D} {kvs : List (L2.Key × D)} {k : L2.Key} (h : dKof G d = some kvs) (hy : keyK y = some k) : lookD G d y = some (valK kvs k) := by
  unfold lookD; rw [h, hy]
theorem lookD_T {G : DH} {d y : D} {kvs : List (List L2.Key × D)} {k : List L2.Key} (h : dTof G d = some kvs) (hy : keyT y = some k) : lookD G d y = some (valK kvs k) := by
  unfold lookD; rw [dT_noK h, h, hy]
theorem lookD_none {G : DH} {d y : D} (h : dKof G d = none) (h' : dTof G d = none) : lookD G d y = none := by
  unfold lookD; rw [h, h']
theorem inU_T {neg : Bool} {G : DH} {d y : D} {kvs : List (List L2.Key × D)} {k : List L2.Key} (h : dTof G d = some kvs) (hy : keyT y = some k) : inU neg y d G = .ok (.bl (if neg then !(valK kvs k).isSome else (valK kvs k).isSome)) G := by
  unfold inU; rw [lookD_T h hy]
theorem inU_K {neg : Bool} {G : DH} {d y : D} {kvs : List (L2.Key × D)} {k : L2.Key} (h : dKof G d = some kvs) (hy : keyK y = some k) : inU neg y d G = .ok (.bl (if neg then !(valK kvs k).isSome else (valK kvs k).isSome)) G := by
  unfold inU; rw [lookD_K h hy]
theorem ixU_T {G : DH} {d y v : D} {kvs : List (List L2.Key × D)} {k : List L2.Key} (h : dTof G d = some kvs) (hy : keyT y = some k) (hv : valK kvs k = some v) : ixU d y G = .ok v G := by
  unfold ixU; rw [lookD_T h hy, hv]
theorem ixU_K {G : DH} {d y v : D} {kvs : List (L2.Key × D)} {k : L2.Key} (h : dKof G d = some kvs) (hy : keyK y = some k) (hv : valK kvs k = some v) : ixU d y G = .ok v G := by
  unfold ixU; rw [lookD_K h hy, hv]
@[simp] theorem ixU_tup (xs : List D) (i : Int) (G : DH) : ixU (.tup xs) (.int i) G = (match L2.atI xs i with | some d => .ok d G | none => .stop) := (rfl)
@[simp] theorem ixU_ktup (xs : List D) (i : Int) (G : DH) : ixU (.ktup xs) (.int i) G = (match L2.atI xs i with | some d => .ok d G | none => .stop) := (rfl)
@[simp] theorem ixU_lst (xs : List D) (i : Int) (G : DH) : ixU (.lst xs) (.int i) G = (match L2.atI xs i with | some d => .ok d G | none => .stop) := (rfl)
@[simp] theorem ixU_frz (xs : List D) (i : Int) (G : DH) : ixU (.frz xs) (.int i) G = (match L2.atI xs i with | some d => .ok d G | none => .stop) := (rfl)
@[simp] theorem ixU_str (z : Str) (i : Int) (G : DH) : ixU (.str z) (.int i) G = (if z.length ≤ sizeLine then (match L2.atI z.cps.toList i with | some c => .ok (.str ⟨#[c]⟩) G | none => .stop) else .stop) := (rfl)
theorem ixU_obj {n : Nat} {xs : List D} {i : Int} {G : DH} (h : G[n]? = some (.lst xs)) : ixU (.obj n) (.int i) G = (match L2.atI xs i with | some d => .ok d G | none => .stop) := by
  have h1 : dKof G (.obj n) = none := by simp only [dKof, h]
  have h2 : dTof G (.obj n) = none := by simp only [dTof, h]
  unfold ixU
  rw [lookD_none h1 h2]
  simp only [ixD_obj, seqOf_obj, h] <;> rfl
@[simp] theorem inU_lst (neg : Bool) (x : D) (xs : List D) (G : DH) : inU neg x (.lst xs) G = inOp neg x (.lst xs) G := (rfl)
@[simp] theorem inU_tup (neg : Bool) (x : D) (xs : List D) (G : DH) : inU neg x (.tup xs) G = inOp neg x (.tup xs) G := (rfl)
@[simp] theorem inU_ktup (neg : Bool) (x : D) (xs : List D) (G : DH) : inU neg x (.ktup xs) G = inOp neg x (.ktup xs) G := (rfl)
@[simp] theorem inU_str (neg : Bool) (x : D) (z : Str) (G : DH) : inU neg x (.str z) G = inOp neg x (.str z) G := (rfl)
theorem inOp_seq {neg : Bool} {x y : D} {ys : List D} {G : DH} (hs : seqOf G y = some ys) (hx : ∀ a, x ≠ .str a ∨ ∀ b, y ≠ .str b) (c : pln (der G x) = true ∧ plnL ys = true ∧ depL ys ≤ 60) : inOp neg x y G = .ok (.bl (if neg then !(ys.any fun d => eqD d (der G x)) else ys.any fun d => eqD d (der G x))) G := by
  have : inV? G x y = some (ys.any fun d => eqD d (der G x)) := by
    unfold inV?
    split
    · rename_i a b
      rcases hx a with h | h
      · exact absurd rfl h
      · exact absurd rfl (h b)
    · rw [hs]; simp only; rw [if_pos c]
  unfold inOp
  rw [this]
@[simp] theorem eqU_ii (i j : Int) (G : DH) : eqU (.int i) (.int j) G = .ok (.bl (i == j)) G := (rfl)
@[simp] theorem neU_ii (i j : Int) (G : DH) : neU (.int i) (.int j) G = .ok (.bl (!(i == j))) G := (rfl)
@[simp] theorem eqU_ss (a b : Str) (G : DH) : eqU (.str a) (.str b) G = .ok (.bl (a == b)) G := (rfl)
@[simp] theorem neU_ss (a b : Str) (G : DH) : neU (.str a) (.str b) G = .ok (.bl (!(a == b))) G := (rfl)
theorem eqU_pln {x y : D} {G : DH} (h1 : dKof G x = none) (h2 : dTof G x = none) (h : pln (der G x) = true ∧ pln (der G y) = true ∧ dep (der G x) ≤ 60) : eqU x y G = .ok (.bl (eqD (der G x) (der G y))) G := by
  have : dEq? G x y = none := by unfold dEq?; rw [h1, h2]
  unfold eqU; rw [this]; exact eqOp_ok h
theorem neU_pln {x y : D} {G : DH} (h1 : dKof G x = none) (h2 : dTof G x = none) (h : pln (der G x) = true ∧ pln (der G y) = true ∧ dep (der G x) ≤ 60) : neU x y G = .ok (.bl (!eqD (der G x) (der G y))) G := by
  have : dEq? G x y = none := by unfold dEq?; rw [h1, h2]
  unfold neU; rw [this]; exact neOp_ok h
theorem lenU_T {G : DH} {d : D} {kvs : List (List L2.Key × D)} (h : dTof G d = some kvs) : lenU [d] G = .ok (.int kvs.length) G := by
  simp only [lenU, dT_noK h, h]
@[simp] theorem lenU_lst (xs : List D) (G : DH) : lenU [.lst xs] G = .ok (.int xs.length) G := (rfl)
@[simp] theorem lenU_frz (xs : List D) (G : DH) : lenU [.frz xs] G = .ok (.int xs.length) G := (rfl)
@[simp] theorem lenU_tup (xs : List D) (G : DH) : lenU [.tup xs] G = .ok (.int xs.length) G := (rfl)
@[simp] theorem lenU_ktup (xs : List D) (G : DH) : lenU [.ktup xs] G = .ok (.int xs.length) G := (rfl)
theorem lenU_obj {n : Nat} {xs : List D} {G : DH} (h : G[n]? = some (.lst xs)) : lenU [.obj n] G = .ok (.int xs.length) G := by
  simp only [lenU, dKof, dTof, h, lenO, lenV, lstOf, Option.map_some]
theorem setU_T {n : Nat} {G : DH} {ds : List D} {ks : List L2.Key} {z : D} {kvs : List (List L2.Key × D)} (h : G[n]? = some (.dT kvs)) (hk : keysL ds = some ks) (hl : kvs.length < sizeLine) : setU (.obj n) (.tup ds) z G = .ok () (G.set n (.dT (setK kvs ks z))) := by
  simp only [setU, h, hk, if_pos hl]
theorem setU_K {n : Nat} {G : DH} {y : D} {k : L2.Key} {z : D} {kvs : List (L2.Key × D)} (h : G[n]? = some (.dK kvs)) (hk : keyK y = some k) (hl : kvs.length < sizeLine) : setU (.obj n) y z G = .ok () (G.set n (.dK (setK kvs k z))) := by
  simp only [setU, h, hk, if_pos hl]
theorem setU_L {n : Nat} {G : DH} {i : Int} {z : D} {xs : List D} (h : G[n]? = some (.lst xs)) : setU (.obj n) (.int i) z G = (match L2.ixN xs.length i with | some j => .ok () (G.set n (.lst (xs.set j z))) | none => .stop) := by
  simp only [setU, h, setL] <;> rfl
theorem listU_T {o : Bool} {G : DH} {d : D} {kvs : List (List L2.Key × D)} (h : dTof G d = some kvs) : listU o [d] G = mkL o (kvs.map fun kv => D.tup (kv.1.map kD)) G := by
  simp only [listU, keysOf, dT_noK h, h, Option.map_some]
@[simp] theorem kD_l (i : Int) : kD (.inl i) = .int i := (rfl)
@[simp] theorem kD_r (x : Str) : kD (.inr x) = .str x := (rfl)
@[simp] theorem tupleK_lst (xs : List D) (G : DH) : tupleK [.lst xs] G = .ok (.ktup xs) G := (rfl)
theorem getO_K {G : DH} {d y z : D} {kvs : List (L2.Key × D)} {k : L2.Key} (h : dKof G d = some kvs) (hy : keyK y = some k) : getO d [y, z] G = .ok ((valK kvs k).getD z) G := by
  simp only [getO, lookD_K h hy]
theorem getO_T {G : DH} {d y z : D} {kvs : List (List L2.Key × D)} {k : List L2.Key} (h : dTof G d = some kvs) (hy : keyT y = some k) : getO d [y, z] G = .ok ((valK kvs k).getD z) G := by
  simp only [getO, lookD_T h hy]
theorem rcvD_K {G : DH} {d : D} {kvs : List (L2.Key × D)} (h : dKof G d = some kvs) : rcvD G d = true := by simp [rcvD, h]
theorem rcvD_T {G : DH} {d : D} {kvs : List (List L2.Key × D)} (h : dTof G d = some kvs) : rcvD G d = true := by simp [rcvD, h]
theorem dictO_kt {o : Bool} {xs : List D} {kvs : List (L2.Key × D)} {G : DH} (h : pairsK xs = some kvs) : dictO false o [.ktup xs] G = mkK o (mergeD [] kvs) G := by
  simp only [dictO, dKof, srcOf, h]; rfl
theorem dictO_ls {o : Bool} {xs : List D} {kvs : List (L2.Key × D)} {G : DH} (h : pairsK xs = some kvs) : dictO false o [.lst xs] G = mkK o (mergeD [] kvs) G := by
  simp only [dictO, dKof, srcOf, lstOf, h]; rfl
theorem valK_set {κ : Type} [DecidableEq κ] (kvs : List (κ × D)) (k j : κ) (d : D) : valK (setK kvs k d) j = if j = k then some d else valK kvs j := by
  unfold valK setK
  by_cases c : (kvs.any fun kv => decide (kv.1 = k)) = true
  · rw [if_pos c]
    have : ∀ l : List (κ × D), (l.map fun kv => if kv.1 = k then (kv.1, d) else kv).find? (fun kv => decide (kv.1 = j)) = (l.find? fun kv => decide (kv.1 = j)).map fun kv => if kv.1 = k then (kv.1, d) else kv := by
      intro l
      induction l with
      | nil => rfl
      | cons p l ih =>
        rw [List.map_cons, List.find?_cons, List.find?_cons]
        by_cases e : p.1 = k
        · rw [if_pos e]
          by_cases e2 : p.1 = j
          · simp [← e2, e]
          · have e3 : ¬ k = j := fun z => e2 (e.trans z)
            simp [e3, ih, e]
        · rw [if_neg e]
          by_cases e2 : p.1 = j
          · simp [← e2, e]
          · simp [e2, ih]
    rw [this, Option.map_map]
    by_cases e : j = k
    · subst e
      rw [if_pos rfl]
      obtain ⟨p, hp, hk⟩ := List.any_eq_true.mp c
      cases f : kvs.find? fun kv => decide (kv.1 = j) with
      | none => exact absurd hk (List.find?_eq_none.mp f p hp)
      | some q =>
        have := List.find?_some f
        simp only [decide_eq_true_eq] at this
        simp [this]
    · rw [if_neg e]
      cases f : kvs.find? fun kv => decide (kv.1 = j) with
      | none => rfl
      | some q =>
        have := List.find?_some f
        simp only [decide_eq_true_eq] at this
        have ne : ¬ q.1 = k := by rw [this]; exact e
        simp [ne]
  · rw [if_neg c, List.find?_append]
    by_cases e : j = k
    · subst e
      rw [if_pos rfl]
      have : kvs.find? (fun kv => decide (kv.1 = j)) = none := List.find?_eq_none.mpr fun p hp hk => c (List.any_eq_true.mpr ⟨p, hp, hk⟩)
      rw [this]
      simp
    · rw [if_neg e]
      have : ([(k, d)] : List (κ × D)).find? (fun kv => decide (kv.1 = j)) = none := by simp [Ne.symm e]
      rw [this]
      simp
theorem valK_del {κ : Type} [DecidableEq κ] (kvs : List (κ × D)) (k j : κ) : valK (delK kvs k) j = if j = k then none else valK kvs j := by
  unfold valK delK
  rw [List.find?_filter]
  by_cases e : j = k
  · subst e
    rw [if_pos rfl]
    have : kvs.find? (fun a => decide (decide (a.1 ≠ j) = true ∧ decide (a.1 = j) = true)) = none := List.find?_eq_none.mpr fun p hp hk => by simp at hk
    rw [this]; rfl
  · rw [if_neg e]
    have : (fun a : κ × D => decide (decide (a.1 ≠ k) = true ∧ decide (a.1 = j) = true)) = fun a => decide (a.1 = j) := by
      funext a
      by_cases h : a.1 = j
      · simp [h, e]
      · simp [h]
    rw [this]
theorem setK_len {κ : Type} [DecidableEq κ] (kvs : List (κ × D)) (k : κ) (d : D) : (setK kvs k d).length ≤ kvs.length + 1 := by
  unfold setK; split <;> simp
theorem delK_len {κ : Type} [DecidableEq κ] (kvs : List (κ × D)) (k : κ) : (delK kvs k).length ≤ kvs.length := List.length_filter_le _ _
end DL
end
/-! ==== LBS ==== -/
section
set_option Elab.async false
set_option linter.all false
set_option autoImplicit false
set_option maxRecDepth 100000
set_option maxHeartbeats 4000000
/-! What the shared defs of LB answer: ranks, seats and the door by a state. -/
namespace DL
open PySem
theorem dcL_pure {α : Type} {g : DG} {tt : DT} {tk tv : DE} {s0 : DSl} {G : DH} (h : α → D) (p : α → Bool) (k : α → L2.Key) (v : α → D) : ∀ (l : List α) (acc : List (L2.Key × D)), (∀ a ∈ l, ∃ s1, g (h a) s0 G = .ok s1 G ∧ tt s1 G = .ok (p a) G ∧ (p a = true → ∃ y, tk s1 G = .ok y G ∧ keyK y = some (k a) ∧ tv s1 G = .ok (v a) G)) →
    acc.length + l.length ≤ sizeLine → dcL g tt tk tv s0 (l.map h) acc G = .ok (mergeD acc ((l.filter p).map fun a => (k a, v a))) G
  | [], acc, _, _ => rfl
  | d :: l, acc, hs, hl => by
    obtain ⟨s1, e1, e2, e3⟩ := hs d List.mem_cons_self
    have hl' : acc.length + (l.length + 1) ≤ sizeLine := hl
    cases c : p d with
    | true =>
      rw [c] at e2
      obtain ⟨y, q1, q2, q3⟩ := e3 c
      have := setK_len acc (k d) (v d)
      have ih := dcL_pure h p k v l (setK acc (k d) (v d)) (fun x hx => hs x (List.mem_cons_of_mem _ hx)) (by omega)
      have hlt : acc.length < sizeLine := by omega
      rw [List.map_cons, dcL, e1, bind_ok, e2, bind_ok, if_pos rfl, q1, bind_ok, q3, bind_ok, q2]
      simp only
      rw [if_pos hlt, ih, List.filter_cons_of_pos c, List.map_cons]
      rfl
    | false =>
      rw [c] at e2
      have ih := dcL_pure h p k v l acc (fun x hx => hs x (List.mem_cons_of_mem _ hx)) (by omega)
      rw [List.map_cons, dcL, e1, bind_ok, e2, bind_ok, if_neg Bool.false_ne_true, ih, List.filter_cons_of_neg (by simp [c])]
theorem setK_new {κ : Type} [DecidableEq κ] {kvs : List (κ × D)} {k : κ} {d : D} (h : k ∉ kvs.map (·.1)) : setK kvs k d = kvs ++ [(k, d)] := by
  unfold setK
  rw [if_neg]
  intro c
  obtain ⟨p, hp, e⟩ := List.any_eq_true.mp c
  exact h (List.mem_map.mpr ⟨p, hp, by simpa using e⟩)
theorem mergeD_nodup {κ : Type} [DecidableEq κ] : ∀ (more acc : List (κ × D)), ((acc ++ more).map (·.1)).Nodup → mergeD acc more = acc ++ more
  | [], acc, _ => by simp [mergeD]
  | p :: more, acc, h => by
    have hn : p.1 ∉ acc.map (·.1) := by
      rw [List.map_append, List.map_cons, List.nodup_append] at h
      exact fun hp => h.2.2 _ hp _ List.mem_cons_self rfl
    have e : mergeD acc (p :: more) = mergeD (setK acc p.1 p.2) more := rfl
    rw [e, setK_new hn, mergeD_nodup more _ (by simpa using h)]
    simp
theorem valK_none {κ : Type} [DecidableEq κ] {kvs : List (κ × D)} {k : κ} (h : k ∉ kvs.map (·.1)) : valK kvs k = none := by
  unfold valK
  rw [List.find?_eq_none.mpr fun p hp e => h (List.mem_map.mpr ⟨p, hp, by simpa using e⟩)]
  rfl
end DL
namespace DF
open PySem DL
abbrev Key := L2.Key
/-! ### names and deeds -/
def nmD (h : Str) (n : Int) : D := .tup [.str h, .int n]
def nmK (h : Str) (n : Int) : List Key := [.inr h, .inl n]
def kk (a b : Str) : List Key := [.inr a, .inr b]
structure Ent where
  h : Str
  n : Int
  sort : Str
  who : Str
  about : Str
  body : D
  f : D
  g : D
def Ent.D (e : Ent) : DL.D := .tup [nmD e.h e.n, .str e.sort, .str e.who, .str e.about, e.body, e.f, e.g]
/-- the hall has the deed by its name -/
def In (hk : List (List Key × D)) (e : Ent) : Prop := valK hk (nmK e.h e.n) = some e.D
abbrev Rk := List (Str × Int)
def prD (p : Str × Int) : D := .tup [.str p.1, .int p.2]
def RB (ps ws : Rk) : D := .tup [.ktup (ps.map prD), .ktup (ws.map prD)]
structure RBok (ps ws : Rk) : Prop where
  np : (ps.map (·.1)).Nodup
  nw : (ws.map (·.1)).Nodup
  rp : ∀ p ∈ ps, 0 ≤ p.2 ∧ p.2 ≤ 100
  rw : ∀ p ∈ ws, 0 ≤ p.2 ∧ p.2 ≤ 100
  lp : ps.length ≤ 1000
  lw : ws.length ≤ 1000
abbrev sRanks : Str := "ranks"
abbrev sBegin : Str := "begin"
abbrev sSeat : Str := "seat"
abbrev sDoor : Str := "door"
abbrev sNo : Str := ""
/-- a body by the kind -/
structure BodyOk (sort : Str) (body : D) : Prop where
  r : sort = sRanks → ∃ ps ws, body = RB ps ws ∧ RBok ps ws
  b : sort = sBegin → ∃ (i : Int) (x : D), body = .tup [.int i, x]
  s : sort = sSeat → ∃ x : Str, body = .str x ∧ x.length ≤ 100
  d : sort = sDoor → ∃ x : Str, body = .str x ∧ x.length ≤ 100
/-- a state of a hall -/
def StOk (hk sk : List (List Key × D)) : Prop := ∀ k v, valK sk k = some v → ∃ e : Ent, v = nmD e.h e.n ∧ k = kk e.sort e.about ∧ In hk e ∧ BodyOk e.sort e.body
/-- what a state has for a key -/
def At (hk sk : List (List Key × D)) (a b : Str) (o : Option Ent) : Prop := match o with
  | none => valK sk (kk a b) = none
  | some e => valK sk (kk a b) = some (nmD e.h e.n) ∧ e.sort = a ∧ e.about = b ∧ In hk e ∧ BodyOk a e.body
theorem StOk.at {hk sk : List (List Key × D)} (S : StOk hk sk) (a b : Str) : ∃ o, At hk sk a b o := by
  cases e : valK sk (kk a b) with
  | none => exact ⟨none, e⟩
  | some v =>
    obtain ⟨x, h1, h2, h3, h4⟩ := S _ _ e
    simp only [kk, List.cons.injEq, Sum.inr.injEq, and_true] at h2
    obtain ⟨e1, e2⟩ := h2
    exact ⟨some x, by rw [← h1]; exact e, e1.symm, e2.symm, h3, by rw [e1]; exact h4⟩
theorem keysL_kk (a b : Str) : keysL [.str a, .str b] = some (kk a b) := by simp [kk]
theorem keysL_nm (h : Str) (n : Int) : keysL [.str h, .int n] = some (nmK h n) := by simp [nmK]
/-- a hall and a state, as a def is handed them -/
structure HS (G : DH) (hl st : D) (hk sk : List (List Key × D)) : Prop where
  h : dTof G hl = some hk
  s : dTof G st = some sk
def keyIs (y : D) (a b : Str) : Prop := keyT y = some (kk a b)
theorem key_t (a b : Str) : keyIs (.tup [.str a, .str b]) a b := keysL_kk a b
theorem key_k (a b : Str) : keyIs (.ktup [.str a, .str b]) a b := keysL_kk a b
def entD (o : Option Ent) : D := match o with
  | none => .non
  | some e => e.D
theorem deed_for_ok {G : DH} {hl st y : D} {hk sk : List (List Key × D)} {a b : Str} {o : Option Ent} (S : HS G hl st hk sk) (hy : keyIs y a b) (A : At hk sk a b o) : F_deed_for [hl, st, y] G = .ok (entD o) G := by
  rw [F_deed_for, runF_3, b_deed_for]
  cases o with
  | none =>
    simp only [sRet_s, dIf_s, dTest_s, dBin_s, dVar_s, dC_s, List.getElem?_cons_succ, List.getElem?_cons_zero, bind_ok, inU_T S.s hy, show valK sk (kk a b) = none from A, Option.isSome_none, Bool.false_eq_true, if_false, finR_rt, entD]
  | some e =>
    obtain ⟨h1, _, _, h2, _⟩ := A
    simp only [sRet_s, dIf_s, dTest_s, dBin_s, dVar_s, dC_s, List.getElem?_cons_succ, List.getElem?_cons_zero, bind_ok, inU_T S.s hy, h1, Option.isSome_some, Bool.false_eq_true, if_false, if_true, finR_rt, entD, ixU_T S.s hy h1, ixU_T S.h (show keyT (nmD e.h e.n) = some (nmK e.h e.n) from keysL_nm _ _) h2]
def bodyD (o : Option Ent) (x : D) : D := match o with
  | none => x
  | some e => e.body
theorem body_for_ok {G : DH} {hl st y x : D} {hk sk : List (List Key × D)} {a b : Str} {o : Option Ent} (S : HS G hl st hk sk) (hy : keyIs y a b) (A : At hk sk a b o) : F_body_for [hl, st, y, x] G = .ok (bodyD o x) G := by
  rw [F_body_for, runF_4, b_body_for]
  have h := deed_for_ok S hy A
  cases o with
  | none => simp [h, entD, bodyD]
  | some e => simp [h, entD, bodyD, Ent.D, L2.atI, L2.ixN]
/-! ### ranks -/
/-- the ranks told, or none -/
def AtR (hk sk : List (List Key × D)) (o : Option (Rk × Rk)) : Prop := ∃ e : Option Ent, At hk sk sRanks sNo e ∧ match e, o with
  | none, none => True
  | some e, some (ps, ws) => e.body = RB ps ws ∧ RBok ps ws
  | _, _ => False
/-- who began, or none -/
def AtB (hk sk : List (List Key × D)) (b : Option Str) : Prop := ∃ e : Option Ent, At hk sk sBegin sNo e ∧ b = e.map (·.who)
theorem StOk.atR {hk sk : List (List Key × D)} (S : StOk hk sk) : ∃ o, AtR hk sk o := by
  obtain ⟨e, h⟩ := S.at sRanks sNo
  cases e with
  | none => exact ⟨none, none, h, trivial⟩
  | some e =>
    obtain ⟨ps, ws, e1, e2⟩ := h.2.2.2.2.r rfl
    exact ⟨some (ps, ws), some e, h, e1, e2⟩
theorem StOk.atB {hk sk : List (List Key × D)} (S : StOk hk sk) : ∃ b, AtB hk sk b := by
  obtain ⟨e, h⟩ := S.at sBegin sNo
  exact ⟨_, e, h, rfl⟩
def RBD (o : Option (Rk × Rk)) : D := match o with
  | none => .non
  | some (ps, ws) => RB ps ws
theorem body_ranks_ok {G : DH} {hl st y : D} {hk sk : List (List Key × D)} {o : Option (Rk × Rk)} (S : HS G hl st hk sk) (hy : keyIs y sRanks sNo) (A : AtR hk sk o) : F_body_for [hl, st, y, .non] G = .ok (RBD o) G := by
  obtain ⟨e, h1, h2⟩ := A
  rw [body_for_ok S hy h1]
  cases e with
  | none => cases o with
    | none => rfl
    | some p => exact h2.elim
  | some e => cases o with
    | none => exact h2.elim
    | some p => obtain ⟨ps, ws⟩ := p; simp only [bodyD, h2.1, RBD]
theorem AtR.ok {hk sk : List (List Key × D)} {ps ws : Rk} (A : AtR hk sk (some (ps, ws))) : RBok ps ws := by
  obtain ⟨e, h1, h2⟩ := A
  cases e with
  | none => exact h2.elim
  | some e => exact h2.2
def rkE (p : Str × Int) : Key × D := (.inr p.1, .int p.2)
/-- all ranked people -/
def rankedOf (o : Option (Rk × Rk)) (b : Option Str) : List (Key × D) := match o with
  | some (ps, _) => (ps.filter fun p => decide (0 < p.2)).map rkE
  | none => match b with
    | some w => [(.inr w, .int 100)]
    | none => []
theorem nodup_inr {ps : Rk} (h : (ps.map (·.1)).Nodup) : (ps.map fun p => (Sum.inr p.1 : Key)).Nodup := by
  have e : (ps.map fun p => (Sum.inr p.1 : Key)) = (ps.map (·.1)).map Sum.inr := by rw [List.map_map]; rfl
  rw [e]
  exact List.Pairwise.map _ (fun a b n z => n (Sum.inr.inj z)) h
theorem big1000 : (1000 : Nat) ≤ sizeLine := by rw [sizeLine_eq]; omega
theorem ranked_dc {s0 : DSl} {G : DH} {ps : Rk} (h5 : s0.length = 5) (hn : (ps.map (·.1)).Nodup) (hl : ps.length ≤ 1000) :
    dcL (gTup 2 (gCons (gNm 3) (gCons (gNm 4) gNil))) (dTest (dBin gtD (dVar 4) (dC (.int 0)))) (dVar 3) (dVar 4) s0 (ps.map prD) [] G = .ok ((ps.filter fun p => decide (0 < p.2)).map rkE) G := by
  match s0, h5 with
  | [a, b, c, d, e], _ =>
    have := big1000
    rw [dcL_pure prD (fun p => decide (0 < p.2)) (fun p => .inr p.1) (fun p => .int p.2) ps [] (fun p _ => ⟨[a, b, c, some (.str p.1), some (.int p.2)], rfl, by simp, fun _ => ⟨.str p.1, by simp, rfl, by simp⟩⟩) (by simp; omega), mergeD_nodup _ _ ?_]
    · rfl
    · rw [List.nil_append, List.map_map]
      exact List.Nodup.sublist (List.Sublist.map _ (List.filter_sublist)) (nodup_inr hn)
theorem first_ranked_ok {G : DH} {hl st : D} {hk sk : List (List Key × D)} {b : Option Str} (S : HS G hl st hk sk) (B : AtB hk sk b) : F_first_ranked [hl, st] G = .ok (.dK (rankedOf none b)) G := by
  obtain ⟨e, h1, rfl⟩ := B
  have h := deed_for_ok S (key_k sBegin sNo) h1
  rw [F_first_ranked, runF_2, b_first_ranked]
  cases e with
  | none => simp [h, entD, rankedOf, sBegin, sNo]
  | some e => simp [h, entD, rankedOf, Ent.D, L2.atI, L2.ixN, evP, keysP, mergeD, setK, sBegin, sNo]
theorem ranked_by_ok {G : DH} {hl st : D} {hk sk : List (List Key × D)} {o : Option (Rk × Rk)} {b : Option Str} (S : HS G hl st hk sk) (B : AtB hk sk b) (ho : ∀ ps ws, o = some (ps, ws) → RBok ps ws) : F_ranked_by [hl, st, RBD o] G = .ok (.dK (rankedOf o b)) G := by
  rw [F_ranked_by, runF_3, b_ranked_by]
  cases o with
  | none => simp [first_ranked_ok S B, RBD]
  | some p =>
    obtain ⟨ps, ws⟩ := p
    obtain ⟨r1, r2, r3, r4, r5, r6⟩ := ho ps ws rfl
    have h := ranked_dc (s0 := [some hl, some st, some (RB ps ws), none, none]) (G := G) rfl r1 r5
    simp [RBD, RB, L2.atI, L2.ixN, rankedOf] at h ⊢
    rw [h]
    rfl
theorem ranked_ok {G : DH} {hl st : D} {hk sk : List (List Key × D)} {o : Option (Rk × Rk)} {b : Option Str} (S : HS G hl st hk sk) (A : AtR hk sk o) (B : AtB hk sk b) : F_ranked [hl, st] G = .ok (.dK (rankedOf o b)) G := by
  have h1 := body_ranks_ok S (key_k sRanks sNo) A
  have h2 := ranked_by_ok (o := o) S B (fun ps ws e => by subst e; exact A.ok)
  rw [F_ranked, runF_2, b_ranked]
  simp [h1, pick, h2, sRanks, sNo]
/-- a person's rank -/
def rankL (ps : Rk) (p : Str) : Int := ((ps.find? fun q => decide (q.1 = p)).map (·.2)).getD 0
def rankOf (o : Option (Rk × Rk)) (b : Option Str) (p : Str) : Int := match o with
  | some (ps, _) => rankL ps p
  | none => match b with
    | some w => if w = p then 100 else 0
    | none => 0
theorem valK_rk (ps : Rk) (p : Str) : valK (ps.map rkE) (.inr p) = ((ps.find? fun q => decide (q.1 = p)).map fun q => D.int q.2) := by
  unfold valK
  rw [List.find?_map, Option.map_map]
  have : ((fun kv : Key × D => decide (kv.1 = (Sum.inr p : Key))) ∘ rkE) = fun q => decide (q.1 = p) := by
    funext q
    simp [rkE]
  rw [this]
  rfl
theorem find_pos {ps : Rk} (hn : (ps.map (·.1)).Nodup) (h0 : ∀ q ∈ ps, 0 ≤ q.2) (p : Str) : (((ps.filter fun q => decide (0 < q.2)).find? fun q => decide (q.1 = p)).map fun q => D.int q.2).getD (.int 0) = .int (rankL ps p) := by
  unfold rankL
  induction ps with
  | nil => rfl
  | cons q ps ih =>
    rw [List.map_cons, List.nodup_cons] at hn
    have ih' := ih hn.2 fun r hr => h0 r (List.mem_cons_of_mem _ hr)
    by_cases e : q.1 = p
    · rw [List.find?_cons_of_pos (a := q) (l := ps) (by simpa using e)]
      by_cases c : 0 < q.2
      · rw [List.filter_cons_of_pos (by simpa using c), List.find?_cons_of_pos (by simpa using e)]
        rfl
      · rw [List.filter_cons_of_neg (by simpa using c)]
        have z : q.2 = 0 := by have := h0 q List.mem_cons_self; omega
        have : (ps.filter fun q => decide (0 < q.2)).find? (fun q => decide (q.1 = p)) = none := List.find?_eq_none.mpr fun r hr hh => by
          have h1 : r.1 = p := by simpa using hh
          exact hn.1 (List.mem_map.mpr ⟨r, (List.mem_filter.mp hr).1, h1.trans e.symm⟩)
        rw [this]
        simp [z]
    · rw [List.find?_cons_of_neg (a := q) (l := ps) (by simpa using e)]
      by_cases c : 0 < q.2
      · rw [List.filter_cons_of_pos (by simpa using c), List.find?_cons_of_neg (by simpa using e)]
        exact ih'
      · rw [List.filter_cons_of_neg (by simpa using c)]
        exact ih'
theorem rank_get {o : Option (Rk × Rk)} {b : Option Str} (ho : ∀ ps ws, o = some (ps, ws) → RBok ps ws) (p : Str) : (valK (rankedOf o b) (.inr p)).getD (.int 0) = .int (rankOf o b p) := by
  cases o with
  | none => cases b with
    | none => rfl
    | some w => by_cases c : w = p <;> simp [rankedOf, rankOf, valK, c]
  | some q =>
    obtain ⟨ps, ws⟩ := q
    obtain ⟨r1, r2, r3, _⟩ := ho ps ws rfl
    simp only [rankedOf, rankOf]
    rw [valK_rk]
    exact find_pos r1 (fun q hq => (r3 q hq).1) p
theorem rank_in_ok {G : DH} {hl st : D} {hk sk : List (List Key × D)} {o : Option (Rk × Rk)} {b : Option Str} (S : HS G hl st hk sk) (A : AtR hk sk o) (B : AtB hk sk b) (p : Str) : F_rank_in [hl, st, .str p] G = .ok (.int (rankOf o b p)) G := by
  have h1 := ranked_ok S A B
  have h2 := rank_get (o := o) (b := b) (fun ps ws e => by subst e; exact A.ok) p
  rw [F_rank_in, runF_3, b_rank_in]
  have h3 : rcvD G (.dK (rankedOf o b)) = true := rfl
  simp only [sRet_s, dMtD_s, dCall_s, dCons_s, dNil_s, dVar_s, dC_s, List.getElem?_cons_succ, List.getElem?_cons_zero, bind_ok, h1, h3, if_true, getO_K (dKof_dK G _) (keyK_s p), h2, finR_rt]
/-! ### wanted ranks -/
def WL : List Str := ["bar", "call", "door", "move", "out", "ranks", "say", "strike"]
def FL : List Str := ["say", "call"]
theorem WL_nodup : WL.Nodup := by decide +kernel
def freeV (w : Str) : Int := if w ∈ FL then 0 else 50
def wantL (ws : Rk) (w : Str) : Int := ((ws.find? fun q => decide (q.1 = w)).map (·.2)).getD (freeV w)
def wantedOf (o : Option (Rk × Rk)) (w : Str) : Int := match o with
  | some (_, ws) => wantL ws w
  | none => freeV w
theorem pairsK_rk : ∀ ws : Rk, pairsK (ws.map prD) = some (ws.map rkE)
  | [] => rfl
  | p :: ws => by
    rw [List.map_cons, pairsK, pairsK_rk ws]
    rfl
theorem merge_rk {ws : Rk} (hn : (ws.map (·.1)).Nodup) : mergeD [] (ws.map rkE) = ws.map rkE := by
  rw [mergeD_nodup _ _ ?_]
  · rfl
  · rw [List.nil_append, List.map_map]
    exact nodup_inr hn
theorem str_any (xs : List Str) (w : Str) : ((xs.map D.str).any fun d => eqD d (.str w)) = decide (w ∈ xs) := by
  induction xs with
  | nil => rfl
  | cons a l ih =>
    rw [List.map_cons, List.any_cons, ih]
    have : eqD (.str a) (.str w) = decide (w = a) := by
      show (a == w) = _
      by_cases c : w = a
      · simp [c]
      · simp [c, Ne.symm c]
    rw [this]
    simp
theorem plnL_strs : ∀ xs : List Str, plnL (xs.map D.str) = true
  | [] => rfl
  | a :: l => by simp [plnL_strs l]
theorem depL_strs : ∀ xs : List Str, depL (xs.map D.str) = 0
  | [] => rfl
  | a :: l => by simp [depL_strs l]
theorem in_strs {neg : Bool} {y : D} {xs : List Str} {w : Str} {G : DH} (h : y = .ktup (xs.map D.str) ∨ y = .lst (xs.map D.str) ∨ y = .tup (xs.map D.str)) : inOp neg (.str w) y G = .ok (.bl (if neg then !decide (w ∈ xs) else decide (w ∈ xs))) G := by
  have c : pln (der G (.str w)) = true ∧ plnL (xs.map D.str) = true ∧ depL (xs.map D.str) ≤ 60 := ⟨rfl, plnL_strs xs, by rw [depL_strs]; omega⟩
  rcases h with rfl | rfl | rfl
  all_goals
    rw [inOp_seq (ys := xs.map D.str) (by simp) (fun a => .inr fun b z => by cases z) c]
    simp only [der_str, str_any]
/-- what is told of the words -/
def toldOf (o : Option (Rk × Rk)) : List (Key × D) := match o with
  | some (_, ws) => ws.map rkE
  | none => []
theorem told_get (o : Option (Rk × Rk)) (w : Str) : (valK (toldOf o) (.inr w)).getD (.int (freeV w)) = .int (wantedOf o w) := by
  cases o with
  | none => rfl
  | some q =>
    obtain ⟨ps, ws⟩ := q
    simp only [toldOf, wantedOf, wantL]
    rw [valK_rk]
    cases ws.find? fun q => decide (q.1 = w) <;> rfl
def wE (o : Option (Rk × Rk)) (w : Str) : Key × D := (.inr w, .int (wantedOf o w))
theorem wanted_dc {s0 : DSl} {G : DH} {o : Option (Rk × Rk)} {x : D} (h3 : s0 = [some x, some (.dK (toldOf o)), none]) :
    dcL (gNm 2) dYes (dVar 2) (dMtD getO (dVar 1) (dCons (dVar 2) (dCons (dIf (dTest (dBin (inU false) (dVar 2) (dC (.ktup [(.str "say"), (.str "call")])))) (dC (.int 0)) (dC (.int 50))) (dNil)))) s0 (WL.map D.str) [] G = .ok (WL.map (wE o)) G := by
  subst h3
  have := big1000
  rw [dcL_pure D.str (fun _ => true) (fun w => .inr w) (fun w => .int (wantedOf o w)) WL [] (fun w _ => ⟨[some x, some (.dK (toldOf o)), some (.str w)], rfl, rfl, fun _ => ⟨.str w, by simp, rfl, ?_⟩⟩) (by simp [WL]; omega), mergeD_nodup _ _ ?_]
  · rw [List.filter_eq_self.mpr fun _ _ => rfl]
    rfl
  · rw [List.filter_eq_self.mpr fun _ _ => rfl, List.nil_append, List.map_map]
    exact List.Pairwise.map _ (fun a b n z => n (Sum.inr.inj z)) WL_nodup
  · have h4 : rcvD G (.dK (toldOf o)) = true := rfl
    have h5 : inOp false (.str w) (.ktup [(.str "say"), (.str "call")]) G = .ok (.bl (decide (w ∈ FL))) G := in_strs (xs := FL) (neg := false) (.inl rfl)
    have h6 : (if decide (w ∈ FL) = true then R.ok (D.int 0) G else R.ok (D.int 50) G) = R.ok (D.int (freeV w)) G := by
      unfold freeV
      by_cases c : w ∈ FL <;> simp [c]
    simp only [dMtD_s, dVar_s, dCons_s, dNil_s, dIf_s, dTest_s, dBin_s, dC_s, List.getElem?_cons_succ, List.getElem?_cons_zero, bind_ok, h4, if_true, inU_ktup, h5, h6, getO_K (dKof_dK G _) (keyK_s w), told_get]
theorem wanted_by_ok {G : DH} {o : Option (Rk × Rk)} (ho : ∀ ps ws, o = some (ps, ws) → RBok ps ws) : F_wanted_by [RBD o] G = .ok (.dK (WL.map (wE o))) G := by
  rw [F_wanted_by, runF_1, b_wanted_by]
  have hd := wanted_dc (o := o) (x := RBD o) (G := G) rfl
  have hw : (D.ktup [(.str "bar"), (.str "call"), (.str "door"), (.str "move"), (.str "out"), (.str "ranks"), (.str "say"), (.str "strike")]) = D.ktup (WL.map D.str) := rfl
  have told : (dIf (dTest (dBin isD (dVar 0) (dC .non))) (dNewK false) (dCall (dictO false false) (dCons (dBin ixU (dVar 0) (dC (.int 1))) (dNil)))) [some (RBD o), none, none] G = .ok (.dK (toldOf o)) G := by
    cases o with
    | none => simp [RBD, toldOf]
    | some p =>
      obtain ⟨ps, ws⟩ := p
      obtain ⟨r1, r2, _⟩ := ho ps ws rfl
      simp [RBD, RB, toldOf, L2.atI, L2.ixN, dictO_kt (pairsK_rk ws), merge_rk r2]
  have s1 : (some (RBD o) :: List.replicate (3 - 1) none : DSl) = [some (RBD o), none, none] := rfl
  have s2 : ([some (RBD o), none, none] : DSl).set 1 (some (.dK (toldOf o))) = [some (RBD o), some (.dK (toldOf o)), none] := rfl
  have s3 : wipeD [some (RBD o), some (.dK (toldOf o)), none] [2] = [some (RBD o), some (.dK (toldOf o)), none] := rfl
  rw [s1, hw, sSeq_s, sAsg_s, told, bind_ok, gNm_s, bind_ok, sBind_nx, s2, sRet_s, dDc_s, iSeq_s, dC_s, bind_ok]
  simp only
  rw [bind_ok, s3, hd, bind_ok, mkK_v, bind_ok, finR_rt]
theorem valK_wE {o : Option (Rk × Rk)} {w : Str} (h : w ∈ WL) : valK (WL.map (wE o)) (.inr w) = some (.int (wantedOf o w)) := by
  unfold valK
  rw [List.find?_map]
  have : ((fun kv : Key × D => decide (kv.1 = (Sum.inr w : Key))) ∘ wE o) = fun q => decide (q = w) := by
    funext q
    simp [wE]
  rw [this]
  cases f : WL.find? fun q => decide (q = w) with
  | none => exact absurd (List.find?_eq_none.mp f w h) (by simp)
  | some q =>
    have := List.find?_some f
    simp only [decide_eq_true_eq] at this
    simp [wE, this]
theorem wanted_in_ok {G : DH} {hl st : D} {hk sk : List (List Key × D)} {o : Option (Rk × Rk)} (S : HS G hl st hk sk) (A : AtR hk sk o) {w : Str} (hw : w ∈ WL) : F_wanted_in [hl, st, .str w] G = .ok (.int (wantedOf o w)) G := by
  have h1 := body_ranks_ok S (key_k sRanks sNo) A
  have h2 := wanted_by_ok (G := G) (o := o) (fun ps ws e => by subst e; exact A.ok)
  have h3 : keyK (.str w) = some (.inr w) := rfl
  rw [F_wanted_in, runF_3, b_wanted_in]
  simp only [sRet_s, dCallK_s, dCall_s, dBin_s, dCons_s, dNil_s, dVar_s, dC_s, List.getElem?_cons_succ, List.getElem?_cons_zero, bind_ok, List.length_cons, List.length_nil, Nat.zero_add, Nat.reduceAdd, and_self, if_true, pick, List.cons_append, List.nil_append, List.filterMap_cons, List.filterMap_nil, h1, h2, ixU_K (dKof_dK G _) h3 (valK_wE hw), finR_rt]
/-! ### seats, the door -/
theorem seat_in_ok {G : DH} {hl st : D} {hk sk : List (List Key × D)} {p : Str} {e : Option Ent} (S : HS G hl st hk sk) (A : At hk sk sSeat p e) : F_seat_in [hl, st, .str p] G = .ok (bodyD e (.str "out")) G := by
  have h := body_for_ok (x := .str "out") S (key_t sSeat p) A
  rw [F_seat_in, runF_3, b_seat_in]
  have z : (2 : Nat) ≤ sizeLine := by have := big1000; omega
  simp only [sRet_s, dCallK_s, dCons_s, dNil_s, dVar_s, dC_s, dTup_s, List.getElem?_cons_succ, List.getElem?_cons_zero, bind_ok, List.length_cons, List.length_nil, Nat.zero_add, Nat.reduceAdd, and_self, if_true, if_pos z, pick, List.cons_append, List.nil_append, List.filterMap_cons, List.filterMap_nil, h, finR_rt]
theorem door_in_ok {G : DH} {hl st : D} {hk sk : List (List Key × D)} {e : Option Ent} (S : HS G hl st hk sk) (A : At hk sk sDoor sNo e) : F_door_in [hl, st] G = .ok (bodyD e (.str "asked")) G := by
  have h := body_for_ok (x := .str "asked") S (key_k sDoor sNo) A
  rw [F_door_in, runF_2, b_door_in]
  simp only [sRet_s, dCallK_s, dCons_s, dNil_s, dVar_s, dC_s, List.getElem?_cons_succ, List.getElem?_cons_zero, bind_ok, List.length_cons, List.length_nil, Nat.zero_add, Nat.reduceAdd, and_self, if_true, pick, List.cons_append, List.nil_append, List.filterMap_cons, List.filterMap_nil, h, finR_rt]
/-! ### the law's own reading -/
theorem content_at_ok {G : DH} {hl st y x : D} {hk sk : List (List Key × D)} {a b : Str} {o : Option Ent} (S : HS G hl st hk sk) (hy : keyIs y a b) (A : At hk sk a b o) : F__law_content_at [hl, st, y, x] G = .ok (bodyD o x) G := by
  rw [F__law_content_at, runF_4, b__law_content_at]
  cases o with
  | none =>
    simp only [sSeq_s, sIf_s, sRet_s, sPass_s, dTest_s, dBin_s, dVar_s, dC_s, List.getElem?_cons_succ, List.getElem?_cons_zero, bind_ok, inU_T S.s hy, show valK sk (kk a b) = none from A, Option.isSome_none, Bool.false_eq_true, if_false, sBind_nx, finR_rt, bodyD]
  | some e =>
    obtain ⟨h1, _, _, h2, _⟩ := A
    have h5 : ixU e.D (.int 4) G = .ok e.body G := rfl
    simp only [sSeq_s, sIf_s, sRet_s, dTest_s, dBin_s, dVar_s, dC_s, List.getElem?_cons_succ, List.getElem?_cons_zero, bind_ok, inU_T S.s hy, h1, Option.isSome_some, Bool.false_eq_true, if_false, if_true, sBind_rt, finR_rt, bodyD, ixU_T S.s hy h1, ixU_T S.h (show keyT (nmD e.h e.n) = some (nmK e.h e.n) from keysL_nm _ _) h2, h5]
end DF
end
/-! ==== LBT ==== -/
section
set_option Elab.async false
set_option linter.all false
set_option autoImplicit false
set_option maxRecDepth 100000
set_option maxHeartbeats 4000000
/-! What the shared defs of LB answer: the law's own reading of ranks; people; halls. -/
namespace DF
open PySem DL
theorem two_ok : (2 : Nat) ≤ sizeLine := by have := big1000; omega
def RBor (x : D) : Option (Rk × Rk) → D
  | none => x
  | some q => RB q.1 q.2
theorem content_ranks_ok {G : DH} {hl st x : D} {hk sk : List (List Key × D)} {o : Option (Rk × Rk)} (S : HS G hl st hk sk) (A : AtR hk sk o) : F__law_content_at [hl, st, .tup [.str "ranks", .str ""], x] G = .ok (RBor x o) G := by
  obtain ⟨e, h1, h2⟩ := A
  rw [content_at_ok S (key_t sRanks sNo) h1]
  cases e with
  | none => cases o with
    | none => rfl
    | some p => exact h2.elim
  | some e => cases o with
    | none => exact h2.elim
    | some p => obtain ⟨ps, ws⟩ := p; simp only [bodyD, h2.1, RBor]
theorem law_rank_ok {G : DH} {hl st : D} {hk sk : List (List Key × D)} {o : Option (Rk × Rk)} {b : Option Str} (S : HS G hl st hk sk) (A : AtR hk sk o) (B : AtB hk sk b) (p : Str) : F__law_rank [hl, st, .str p] G = .ok (.int (rankOf o b p)) G := by
  have h1 := content_ranks_ok (x := .non) S A
  rw [F__law_rank, runF_3, b__law_rank]
  have s0 : (some hl :: some st :: some (D.str p) :: List.replicate (4 - 3) none : DSl) = [some hl, some st, some (.str p), none] := rfl
  rw [s0]
  cases o with
  | some q =>
    obtain ⟨ps, ws⟩ := q
    simp only [RBor] at h1
    obtain ⟨r1, r2, r3, _⟩ := A.ok
    have h3 : rcvD G (.dK (ps.map rkE)) = true := rfl
    have h4 : (valK (ps.map rkE) (.inr p)).getD (.int 0) = .int (rankL ps p) := by
      rw [valK_rk]
      unfold rankL
      cases ps.find? fun q => decide (q.1 = p) <;> rfl
    have h5 : ixU (RB ps ws) (.int 0) G = .ok (.ktup (ps.map prD)) G := rfl
    have h6 : dictO false false [.ktup (ps.map prD)] G = .ok (.dK (ps.map rkE)) G := by rw [dictO_kt (pairsK_rk ps), merge_rk r1]; rfl
    have h7 : isNon (RB ps ws) = false := rfl
    simp only [sSeq_s, sAsg_s, dCall_s, dCons_s, dNil_s, dVar_s, dC_s, dTup_s, List.getElem?_cons_succ, List.getElem?_cons_zero, bind_ok, List.length_cons, List.length_nil, Nat.zero_add, Nat.reduceAdd, if_pos two_ok, h1, gNm_s, List.set_cons_succ, List.set_cons_zero, sBind_nx, sIf_s, dTest_s, dBin_s, isnotD_n, h7, Bool.not_false, if_true, sRet_s, dMtD_s, h5, h6, h3, getO_K (dKof_dK G _) (keyK_s p), h4, sBind_rt, finR_rt, rankOf]
  | none =>
    simp only [RBor] at h1
    obtain ⟨e, h2, rfl⟩ := B
    have h7 : isNon D.non = true := rfl
    cases e with
    | none =>
      have h8 := inU_T (neg := false) S.s (key_t sBegin sNo)
      have h9 : valK sk (kk sBegin sNo) = none := h2
      rw [h9] at h8
      simp only [sSeq_s, sAsg_s, dCall_s, dCons_s, dNil_s, dVar_s, dC_s, dTup_s, List.getElem?_cons_succ, List.getElem?_cons_zero, bind_ok, List.length_cons, List.length_nil, Nat.zero_add, Nat.reduceAdd, if_pos two_ok, h1, gNm_s, List.set_cons_succ, List.set_cons_zero, sBind_nx, sIf_s, dTest_s, dBin_s, isnotD_n, h7, Bool.not_true, Bool.false_eq_true, if_false, sPass_s, h8, Option.isSome_none, sRet_s, finR_rt, rankOf, Option.map_none]
    | some e =>
      obtain ⟨g1, _, _, g2, _⟩ := h2
      have h8 := inU_T (neg := false) S.s (key_t sBegin sNo)
      rw [g1] at h8
      have h9 := ixU_T S.s (key_t sBegin sNo) g1
      have h10 := ixU_T S.h (show keyT (nmD e.h e.n) = some (nmK e.h e.n) from keysL_nm _ _) g2
      have h11 : ixU e.D (.int 2) G = .ok (.str e.who) G := rfl
      have h12 : mulOk 100 (if (e.who == p) = true then 1 else 0) := .inl (by decide)
      have h13 : (100 * if (e.who == p) = true then 1 else 0 : Int) = if e.who = p then 100 else 0 := by
        by_cases c : e.who = p <;> simp [c]
      simp only [sSeq_s, sAsg_s, dCall_s, dCons_s, dNil_s, dVar_s, dC_s, dTup_s, List.getElem?_cons_succ, List.getElem?_cons_zero, bind_ok, List.length_cons, List.length_nil, Nat.zero_add, Nat.reduceAdd, if_pos two_ok, h1, gNm_s, List.set_cons_succ, List.set_cons_zero, sBind_nx, sIf_s, dTest_s, dBin_s, isnotD_n, h7, Bool.not_true, Bool.false_eq_true, if_false, if_true, sPass_s, h8, Option.isSome_some, sRet_s, h9, h10, h11, eqU_ss, intO_b, mulD_ii, if_pos h12, h13, sBind_rt, finR_rt, rankOf, Option.map_some]
theorem law_free_ok {G : DH} (w : Str) : F__law_free [.str w] G = .ok (.int (freeV w)) G := by
  rw [F__law_free, runF_1, b__law_free]
  have h5 : inOp false (.str w) (.lst [(.str "say"), (.str "call")]) G = .ok (.bl (decide (w ∈ FL))) G := in_strs (xs := FL) (neg := false) (.inr (.inl rfl))
  have h6 : ixU (.lst [.int 50, .int 0]) (.int (if decide (w ∈ FL) = true then 1 else 0)) G = .ok (.int (freeV w)) G := by
    unfold freeV
    by_cases c : w ∈ FL <;> simp [c, L2.atI, L2.ixN]
  simp only [sRet_s, dBin_s, dLst_s, dCall_s, dCons_s, dNil_s, dVar_s, dC_s, List.getElem?_cons_zero, bind_ok, List.length_cons, List.length_nil, Nat.zero_add, Nat.reduceAdd, if_pos two_ok, mkL_v, inU_lst, h5, intO_b, h6, finR_rt]
theorem law_wanted_ok {G : DH} {hl st : D} {hk sk : List (List Key × D)} {o : Option (Rk × Rk)} (S : HS G hl st hk sk) (A : AtR hk sk o) (w : Str) : F__law_wanted [hl, st, .str w] G = .ok (.int (wantedOf o w)) G := by
  have h1 := content_ranks_ok (x := .tup [.ktup [], .ktup []]) S A
  rw [F__law_wanted, runF_3, b__law_wanted]
  have h3 : rcvD G (.dK (toldOf o)) = true := rfl
  have h6 : ∃ xs, ixU (RBor (.tup [.ktup [], .ktup []]) o) (.int 1) G = .ok (.ktup xs) G ∧ dictO false false [.ktup xs] G = .ok (.dK (toldOf o)) G := by
    cases o with
    | none => exact ⟨[], rfl, rfl⟩
    | some q =>
      obtain ⟨ps, ws⟩ := q
      exact ⟨ws.map prD, rfl, by rw [dictO_kt (pairsK_rk ws), merge_rk A.ok.nw]; rfl⟩
  obtain ⟨xs, h6, h7⟩ := h6
  simp only [List.replicate, Nat.reduceSub, sSeq_s, sAsg_s, dCall_s, dCons_s, dNil_s, dVar_s, dC_s, dTup_s, dTupK_s, List.getElem?_cons_succ, List.getElem?_cons_zero, bind_ok, List.length_cons, List.length_nil, Nat.zero_add, Nat.reduceAdd, Nat.zero_le, if_pos two_ok, if_true, h1, gNm_s, List.set_cons_succ, List.set_cons_zero, sBind_nx, sRet_s, dMtD_s, dBin_s, h6, h7, h3, law_free_ok, getO_K (dKof_dK G _) (keyK_s w), told_get, finR_rt]
theorem law_seat_ok {G : DH} {hl st : D} {hk sk : List (List Key × D)} {p : Str} {e : Option Ent} (S : HS G hl st hk sk) (A : At hk sk sSeat p e) : F__law_seat [hl, st, .str p] G = .ok (bodyD e (.str "out")) G := by
  have h := content_at_ok (x := .str "out") S (key_t sSeat p) A
  rw [F__law_seat, runF_3, b__law_seat]
  simp only [sRet_s, dCall_s, dCons_s, dNil_s, dVar_s, dC_s, dTup_s, List.getElem?_cons_succ, List.getElem?_cons_zero, bind_ok, List.length_cons, List.length_nil, Nat.zero_add, Nat.reduceAdd, if_pos two_ok, h, finR_rt]
end DF
end
/-! ==== LBU ==== -/
section
set_option Elab.async false
set_option linter.all false
set_option autoImplicit false
set_option maxRecDepth 100000
set_option maxHeartbeats 4000000
/-! People, rows of ranks, halls. -/
namespace DF
open PySem DL
/-- behind some steps: what stood stands, but the pool has gone on -/
structure Xt (n : Nat) (G G' : DH) : Prop where
  p : Pl G' n
  l : G.length ≤ G'.length
  k : ∀ m, m < G.length → m ≠ n → G'[m]? = G[m]?
theorem Xt.refl {n : Nat} {G : DH} (h : Pl G n) : Xt n G G := ⟨h, Nat.le_refl _, fun _ _ _ => rfl⟩
theorem Xt.trans {n : Nat} {G G' G'' : DH} (h : Xt n G G') (h' : Xt n G' G'') : Xt n G G'' := ⟨h'.p, Nat.le_trans h.l h'.l, fun m a b => (h'.k m (Nat.lt_of_lt_of_le a h.l) b).trans (h.k m a b)⟩
theorem Af.xt {n : Nat} {G G' : DH} (h : Af n G G') : Xt n G G' := ⟨h.1, by rw [h.2.1]; exact Nat.le_refl _, fun m _ b => h.2.2 m b⟩
theorem Pl.push {n : Nat} {G : DH} (h : Pl G n) (d : DO) : Pl (G ++ [d]) n := by
  obtain ⟨a, b, e, r⟩ := h
  exact ⟨a, b, by rw [List.getElem?_append_left (List.getElem?_eq_some_iff.mp e).1]; exact e, r⟩
theorem Xt.push {n : Nat} {G : DH} (h : Pl G n) (d : DO) : Xt n G (G ++ [d]) := ⟨h.push d, by simp, fun m a _ => List.getElem?_append_left a⟩
theorem Pl.set {n f : Nat} {G : DH} (h : Pl G n) (d : DO) (ne : f ≠ n) : Pl (G.set f d) n := by
  obtain ⟨a, b, e, r⟩ := h
  exact ⟨a, b, by rw [List.getElem?_set_ne ne]; exact e, r⟩
/-- a person -/
def Pn (x : Str) : Prop := ∃ a h : Str, x = a ++ at_ ++ h ∧ isW a = true ∧ isW h = true
def XY : List Nat := ("xyzuvw" : Str).cps.toList
theorem XY_len : XY.length = 6 := by decide +kernel
theorem XY_let : ∀ c ∈ XY, c ∈ LET := by decide +kernel
theorem XY_nodup : XY.Nodup := by decide +kernel
theorem isW_of {x : Str} (h1 : 1 ≤ x.length) (h2 : x.length ≤ 8) (h3 : ∀ c ∈ x.cps.toList, c ∈ LET) : isW x = true := by
  unfold isW
  simp only [Bool.and_eq_true, decide_eq_true_eq, List.all_eq_true]
  exact ⟨⟨h1, h2⟩, h3⟩
theorem isW_len {x : Str} (h : isW x = true) : 1 ≤ x.length ∧ x.length ≤ 8 := by
  unfold isW at h
  simp only [Bool.and_eq_true, decide_eq_true_eq] at h
  exact h.1
theorem at_length : at_.length = 1 := by decide +kernel
theorem Pn.len {x : Str} (h : Pn x) : x.length ≤ 17 := by
  obtain ⟨a, b, rfl, h1, h2⟩ := h
  have := isW_len h1
  have := isW_len h2
  rw [Str.length_append, Str.length_append, at_length]
  omega
theorem split_pn {a b : Str} (ha : isW a = true) (hb : isW b = true) : Txt.split (a ++ at_ ++ b) at_ = [a, b] := by
  refine TL.map_tl_inj ?_
  rw [TL.split_spl _ at_ at_ne (TL.kind_ok at_kind), TL.tl_append, TL.tl_append, at_tl]
  have r1 := TL.spl_part1 (s := 64) (S := []) (p := TL.tl a) (rest := TL.tl b) (acc := []) (isW_free ha)
  have r2 := TL.spl_last1 (s := 64) (S := []) (p := TL.tl b) (acc := []) (isW_free hb)
  have z : TL.tl a ++ [64] ++ TL.tl b = TL.tl a ++ ([64] ++ TL.tl b) := by simp
  rw [z, r1, r2]
  rfl
theorem at_inj {a b c d : Str} (ha : isW a = true) (hc : isW c = true) (e : a ++ at_ ++ b = c ++ at_ ++ d) : a = c ∧ b = d := by
  have e' : TL.tl (a ++ at_ ++ b) = TL.tl (c ++ at_ ++ d) := by rw [e]
  rw [TL.tl_append, TL.tl_append, TL.tl_append, TL.tl_append, at_tl, List.append_assoc, List.append_assoc] at e'
  have key : ∀ p q r s : List Nat, (64 : Nat) ∉ p → (64 : Nat) ∉ r → p ++ ([64] ++ q) = r ++ ([64] ++ s) → p = r ∧ q = s := by
    intro p
    induction p with
    | nil =>
      intro q r s _ hr h
      cases r with
      | nil => exact ⟨rfl, by simpa using h⟩
      | cons x r => simp at h; exact absurd (by rw [h.1]; exact List.mem_cons_self) hr
    | cons y p ih =>
      intro q r s hp hr h
      cases r with
      | nil => simp at h; exact absurd (by rw [← h.1]; exact List.mem_cons_self) hp
      | cons x r =>
        simp only [List.cons_append, List.cons.injEq] at h
        obtain ⟨i1, i2⟩ := ih q r s (fun m => hp (List.mem_cons_of_mem _ m)) (fun m => hr (List.mem_cons_of_mem _ m)) h.2
        exact ⟨by rw [h.1, i1], i2⟩
  obtain ⟨k1, k2⟩ := key _ _ _ _ (isW_free ha) (isW_free hc) e'
  exact ⟨TL.ext_tl k1, TL.ext_tl k2⟩
theorem split_ok {a b : Str} {o : Bool} {G : DH} (ha : isW a = true) (hb : isW b = true) : splitO o (.str (a ++ at_ ++ b)) [.str at_] G = mkL o [.str a, .str b] G := by
  have l0 : (at_.length == 0) = false := by decide +kernel
  have := Pn.len ⟨a, b, rfl, ha, hb⟩
  have := big1000
  rw [splitO_s, if_pos ⟨l0, by omega⟩, split_pn ha hb]
  rfl
/-- the k-th drawn word -/
structure Wk (k : Nat) (a : Str) : Prop where
  w : isW a = true
  x : ∃ c, XY[k]? = some c ∧ (TL.tl a).getLast? = some c
theorem Wk.inj {j k : Nat} {a : Str} (h : Wk j a) (h' : Wk k a) : j = k := by
  obtain ⟨c, c1, c2⟩ := h.x
  obtain ⟨d, d1, d2⟩ := h'.x
  rw [c2] at d2
  cases d2
  obtain ⟨j1, j2⟩ := List.getElem?_eq_some_iff.mp c1
  obtain ⟨k1, k2⟩ := List.getElem?_eq_some_iff.mp d1
  rcases Nat.lt_trichotomy j k with lt | e | gt
  · exact absurd (j2.trans k2.symm) (List.pairwise_iff_getElem.mp XY_nodup j k j1 k1 lt)
  · exact e
  · exact absurd (k2.trans j2.symm) (List.pairwise_iff_getElem.mp XY_nodup k j k1 j1 gt)
theorem rng_at {m j : Nat} {d : D} (hj : (rngD 0 m)[j]? = some d) : j < m ∧ d = .int (j : Nat) := by
  obtain ⟨h1, h2⟩ := List.getElem?_eq_some_iff.mp hj
  unfold rngD at h1 h2
  simp at h1 h2
  exact ⟨h1, h2.symm⟩
theorem rcv_str_ok {G : DH} {x : Str} : rcv G "str" (.str x) = true := by rw [rcv_str]; decide
theorem folk_step {G : DH} {n f k : Nat} {ds : List D} {H0 H1 : Str} {v1 v5 v6 v7 : Option D} (pl : Pl G n) (hf : G[f]? = some (.lst ds)) (hfn : f ≠ n) (w0 : isW H0 = true) (w1 : isW H1 = true) (hk : k < 6) (hl : ds.length ≤ 10) :
    ∃ (a h : Str) (G' : DH) , l1__law_folk [some (.obj n), v1, some (.lst [.str H0, .str H1]), some (.obj f), some (.int k), v5, v6, v7] G = .ok (.nx, [some (.obj n), v1, some (.lst [.str H0, .str H1]), some (.obj f), some (.int k), some (.str a), v6, v7]) G' ∧ Wk k a ∧ (h = H0 ∨ h = H1) ∧ G'[f]? = some (.lst (ds ++ [.str (a ++ at_ ++ h)])) ∧ Pl G' n ∧ G'.length = G.length ∧ ∀ q, q ≠ n → q ≠ f → G'[q]? = G[q]? := by
  have big := big1000
  obtain ⟨r, G1, t1, a1, b1, f1⟩ := take_spec (m := 2) pl (by decide) (by decide)
  obtain ⟨m, rfl⟩ := Int.eq_ofNat_of_zero_le a1
  obtain ⟨x, G2, t2, l2, x2, f2⟩ := letters_spec f1.1 (1 + m) (by omega)
  obtain ⟨c, hc⟩ : ∃ c, XY[k]? = some c := ⟨_, List.getElem?_eq_getElem (by rw [XY_len]; exact hk)⟩
  have hc' : L2.atI XY (k : Int) = some c := by
    have : (k : Int) < 6 := by omega
    simp [L2.atI, L2.ixN, XY_len, this, hc]
  obtain ⟨r3, G3, t3, a3, b3, f3⟩ := take_spec (m := 2) f2.1 (by decide) (by decide)
  obtain ⟨d, ed, md⟩ := atI_lt (xs := [D.str H0, .str H1]) a3 b3
  obtain ⟨h, rfl, hh⟩ : ∃ h : Str, d = .str h ∧ (h = H0 ∨ h = H1) := by
    simp only [List.mem_cons, List.not_mem_nil, or_false] at md
    rcases md with rfl | rfl
    · exact ⟨_, rfl, .inl rfl⟩
    · exact ⟨_, rfl, .inr rfl⟩
  have wh : isW h = true := by rcases hh with rfl | rfl <;> assumption
  have g3 : G3[f]? = some (.lst ds) := by rw [((f1.trans f2).trans f3).2.2 f hfn]; exact hf
  have fl : f < G3.length := (List.getElem?_eq_some_iff.mp g3).1
  have wa : Wk k (x ++ ⟨#[c]⟩) := by
    refine ⟨isW_of ?_ ?_ ?_, c, hc, ?_⟩
    · rw [Str.length_append, l2]; show 1 ≤ 1 + m + 1; omega
    · rw [Str.length_append, l2]; show 1 + m + 1 ≤ 8; omega
    · intro y hy
      have : y ∈ TL.tl (x ++ ⟨#[c]⟩) := hy
      rw [TL.tl_append, List.mem_append] at this
      rcases this with q | q
      · exact x2 y q
      · have q' : y ∈ [c] := q
        rw [List.mem_singleton.mp q']
        exact XY_let c (List.mem_of_getElem? hc)
    · rw [TL.tl_append]
      show (TL.tl x ++ [c]).getLast? = _
      simp
  have lw := isW_len wa.w
  have lh := isW_len wh
  have q1 : x.length + (⟨#[c]⟩ : Str).length ≤ sizeLine := by rw [← Str.length_append]; omega
  have q2 : (x ++ (⟨#[c]⟩ : Str)).length + at_.length ≤ sizeLine := by rw [at_length]; omega
  have q3 : (x ++ (⟨#[c]⟩ : Str) ++ at_).length + h.length ≤ sizeLine := by rw [Str.length_append, at_length]; omega
  have q4 : ds.length < sizeLine := by omega
  have q5 : (Str.ofString "xyzuvw").length ≤ sizeLine := by
    have : (Str.ofString "xyzuvw").length = 6 := by decide +kernel
    omega
  have q6 : rcv G2 "list" (.obj f) = true := by rw [rcv_obj, (f1.trans f2).2.2 f hfn, hf]; rfl
  have q7 : L2.atI (Str.ofString "xyzuvw").cps.toList (k : Int) = some c := hc'
  have at_e : (Str.ofString "@") = at_ := rfl
  have q8 : appO (.obj f) [.str (x ++ (⟨#[c]⟩ : Str) ++ at_ ++ h)] G3 = .ok .non (G3.set f (.lst (ds ++ [.str (x ++ (⟨#[c]⟩ : Str) ++ at_ ++ h)]))) := by
    unfold appO
    simp only [g3, if_pos q4]
  have z : (1 : Int) + (m : Int) = ((1 + m : Nat) : Int) := by omega
  refine ⟨x ++ ⟨#[c]⟩, h, G3.set f (.lst (ds ++ [.str (x ++ (⟨#[c]⟩ : Str) ++ at_ ++ h)])), ?_, wa, hh, List.getElem?_set_self fl, f3.1.set _ hfn, ?_, ?_⟩
  · rw [l1__law_folk]
    generalize Str.ofString "xyzuvw" = w2 at *
    rw [at_e]
    simp only [sSeq_s, sAsg_s, sIf_s, sRet_s, sPass_s, sDrop_s, sFor_s, dTest_s, dCall_s, dCons_s, dNil_s, dVar_s, dC_s, dBin_s, dUn_s, dTup_s, dTupK_s, dLst_s, dMt_s, dMtD_s, dIf_s, dTru_s, tAndD_s, tOrD_s, tNotD_s, bind_ok, sBind_nx, sBind_rt, finR_rt, gNm_s, gSt_s, List.getElem?_cons_succ, List.getElem?_cons_zero, List.set_cons_succ, List.set_cons_zero, List.length_cons, List.length_nil, Nat.zero_add, Nat.reduceAdd, mkL_v, mkL_o, addD_ii, addD_ss, subD_ii, negD_i, gtD_ii, ltD_ii, leD_ii, geD_ii, intO_b, Bool.false_eq_true, if_false, if_true, t1, z, t2, ixU_str, q7, if_pos q5, if_pos q1, if_pos q2, q6, t3, ixU_lst, ed, if_pos q3, q8]
  · rw [List.length_set, ((f1.trans f2).trans f3).2.1]
  · intro q h1 h2
    rw [List.getElem?_set_ne (fun z => h2 z.symm), ((f1.trans f2).trans f3).2.2 q h1]
/-- a list of drawn people -/
def Ps (H0 H1 : Str) (ps : List Str) : Prop := ∀ j x, ps[j]? = some x → ∃ a h, x = a ++ at_ ++ h ∧ Wk j a ∧ (h = H0 ∨ h = H1)
theorem Ps.nodup {H0 H1 : Str} {ps : List Str} (h : Ps H0 H1 ps) : ps.Nodup := by
  refine List.pairwise_iff_getElem.mpr fun i j hi hj lt e => ?_
  obtain ⟨a, b, e1, w1, _⟩ := h i _ (List.getElem?_eq_getElem hi)
  obtain ⟨c, d, e2, w2, _⟩ := h j _ (List.getElem?_eq_getElem hj)
  rw [e, e2] at e1
  obtain ⟨rfl, _⟩ := at_inj w2.w w1.w e1
  have := w1.inj w2
  omega
theorem folk_homes {G : DH} {n : Nat} (pl : Pl G n) (s0 : DSl) (hs : s0.length = 8) (h0 : s0[0]? = some (some (.obj n))) : ∃ (H0 H1 : Str) (G' : DH), lcL (gNm 7) dYes (dCall F__law_letters (dCons (dVar 0) (dCons (dBin (addD false) (dC (.int 1)) (dCall F__law_take (dCons (dVar 0) (dCons (dC (.int 3)) (dNil))))) (dNil)))) s0 (rngD 0 2) [] G = .ok [.str H0, .str H1] G' ∧ isW H0 = true ∧ isW H1 = true ∧ Af n G G' := by
  have big := big1000
  have one : ∀ (j : Nat) (G : DH), Pl G n → ∃ (x : Str) (G' : DH), (dCall F__law_letters (dCons (dVar 0) (dCons (dBin (addD false) (dC (.int 1)) (dCall F__law_take (dCons (dVar 0) (dCons (dC (.int 3)) (dNil))))) (dNil)))) (s0.set 7 (some (.int j))) G = .ok (.str x) G' ∧ isW x = true ∧ Af n G G' := fun j G pl => by
    obtain ⟨r, G1, t1, a1, b1, f1⟩ := take_spec (m := 3) pl (by decide) (by decide)
    obtain ⟨m, rfl⟩ := Int.eq_ofNat_of_zero_le a1
    obtain ⟨x, G2, t2, l2, x2, f2⟩ := letters_spec f1.1 (1 + m) (by omega)
    have z : (1 : Int) + (m : Int) = ((1 + m : Nat) : Int) := by omega
    have e : (s0.set 7 (some (D.int j)))[0]? = some (some (.obj n)) := by rw [List.getElem?_set_ne (by decide)]; exact h0
    refine ⟨x, G2, ?_, isW_of (by omega) (by omega) x2, f1.trans f2⟩
    simp only [sSeq_s, sAsg_s, sIf_s, sRet_s, sPass_s, sDrop_s, sFor_s, dTest_s, dCall_s, dCons_s, dNil_s, dVar_s, dC_s, dBin_s, dUn_s, dTup_s, dTupK_s, dLst_s, dMt_s, dMtD_s, dIf_s, dTru_s, tAndD_s, tOrD_s, tNotD_s, bind_ok, sBind_nx, sBind_rt, finR_rt, gNm_s, gSt_s, List.getElem?_cons_succ, List.getElem?_cons_zero, List.set_cons_succ, List.set_cons_zero, List.length_cons, List.length_nil, Nat.zero_add, Nat.reduceAdd, mkL_v, mkL_o, addD_ii, addD_ss, subD_ii, negD_i, gtD_ii, ltD_ii, leD_ii, geD_ii, intO_b, Bool.false_eq_true, if_false, if_true, e, t1, z, t2]
  obtain ⟨x, G1, e1, w1, f1⟩ := one 0 G pl
  obtain ⟨y, G2, e2, w2, f2⟩ := one 1 G1 f1.1
  refine ⟨x, y, G2, ?_, w1, w2, f1.trans f2⟩
  have r : rngD 0 2 = [.int (0 : Nat), .int (1 : Nat)] := rfl
  have z0 : (0 : Nat) < sizeLine := by omega
  have z1 : (1 : Nat) < sizeLine := by omega
  rw [r]
  simp only [lcL, gNm_s, bind_ok, dYes_s, if_true, e1, e2, List.length_nil, List.length_cons, List.nil_append, List.cons_append, if_pos z0, if_pos z1, Nat.zero_add]
/-- a drawn person's word -/
def Fk (x : Str) : Prop := ∃ (j : Nat) (a h : Str), x = a ++ at_ ++ h ∧ Wk j a
theorem folk_spec2 {G : DH} {n : Nat} (pl : Pl G n) (m : Nat) (hm : m ≤ 6) (hm2 : 3 ≤ m) : ∃ (ps : List Str) (G' : DH), F__law_folk [.obj n, .int m] G = .ok (.lst (ps.map D.str)) G' ∧ ps.length = m ∧ ps.Nodup ∧ (∀ x ∈ ps, Pn x) ∧ Xt n G G' ∧ ∀ x ∈ ps, Fk x := by
  have big := big1000
  obtain ⟨H0, H1, G1, e1, w0, w1, f1⟩ := folk_homes pl [some (.obj n), some (.int m), none, none, none, none, none, none] rfl rfl
  have ln := f1.2.1
  have nl := pl.lt
  have p2 : Pl (G1 ++ [.lst []]) n := f1.1.push _
  obtain ⟨s', G2, lp, ps, w4, w5, rfl, es, lps, hPs, pl2, len2, fr2⟩ := forL_inv (g := gNm 4) (b := l1__law_folk) (fun i s G' => ∃ (ps : List Str) (w4 w5 : Option D), s = [some (.obj n), some (.int m), some (.lst [.str H0, .str H1]), some (.obj G1.length), w4, w5, none, none] ∧ G'[G1.length]? = some (.lst (ps.map D.str)) ∧ ps.length = i ∧ Ps H0 H1 ps ∧ Pl G' n ∧ G'.length = G1.length + 1 ∧ ∀ q, q ≠ n → q ≠ G1.length → G'[q]? = (G1 ++ [.lst []])[q]?) (rngD 0 m) 0 [some (.obj n), some (.int m), some (.lst [.str H0, .str H1]), some (.obj G1.length), none, none, none, none] (G1 ++ [.lst []]) (fun j d s G' hj hi => by
      obtain ⟨ps, w4, w5, rfl, es, lps, hPs, pl2, len2, fr2⟩ := hi
      obtain ⟨hj', rfl⟩ := rng_at hj
      obtain ⟨a, h, G3, r1, r2, r3, r4, r5, r6, r7⟩ := folk_step (v1 := some (.int m)) (v5 := w5) (v6 := none) (v7 := none) pl2 es (by omega) w0 w1 (k := j) (by omega) (by rw [List.length_map]; omega)
      refine ⟨_, _, _, G3, rfl, .inl r1, ps ++ [a ++ at_ ++ h], _, _, rfl, by rw [r4]; simp, by simp; omega, ?_, r5, by omega, fun q a b => (r7 q a b).trans (fr2 q a b)⟩
      intro i x hx
      rw [List.getElem?_append] at hx
      split at hx
      · exact hPs i x hx
      · rename_i hlt
        have : i = ps.length := by
          have := (List.getElem?_eq_some_iff.mp hx).1
          simp at this
          omega
        subst this
        simp at hx
        subst hx
        exact ⟨a, h, rfl, by rw [lps, Nat.zero_add]; exact r2, r3⟩) ⟨[], none, none, rfl, by simp, rfl, fun j x h => by simp at h, p2, by simp, fun _ _ _ => rfl⟩
  have lps' : ps.length = m := by simpa [rngD] using lps
  have hpn : ∀ x ∈ ps, Pn x := fun x hx => by
    obtain ⟨j, hj⟩ := List.mem_iff_getElem?.mp hx
    obtain ⟨a, h, e, w, hh⟩ := hPs j x hj
    exact ⟨a, h, e, w.w, by rcases hh with rfl | rfl <;> assumption⟩
  have hfk : ∀ x ∈ ps, Fk x := fun x hx => by
    obtain ⟨j, hj⟩ := List.mem_iff_getElem?.mp hx
    obtain ⟨a, h, e, w, _⟩ := hPs j x hj
    exact ⟨j, a, h, e, w⟩
  have z2 : (2 : Nat) ≤ sizeLine := by omega
  have z0 : (0 : Nat) ≤ sizeLine := by omega
  have i2 : iRg1 (dCons (dC (.int 2)) dNil) [some (.obj n), some (.int m), none, none, none, none, none, none] G = .ok (rngD 0 2) G := iRg1_nat (m := 2) (by simp) (by omega)
  have im : iRg1 (dCons (dVar 1) dNil) [some (.obj n), some (.int m), some (.lst [.str H0, .str H1]), some (.obj G1.length), none, none, none, none] (G1 ++ [.lst []]) = .ok (rngD 0 m) (G1 ++ [.lst []]) := iRg1_nat (m := m) (by simp) (by omega)
  have s0 : (some (D.obj n) :: some (D.int m) :: List.replicate (8 - 2) none : DSl) = [some (.obj n), some (.int m), none, none, none, none, none, none] := rfl
  have s1 : wipeD [some (D.obj n), some (D.int m), none, none, none, none, none, none] [7] = [some (.obj n), some (.int m), none, none, none, none, none, none] := rfl
  have xt2 : Xt n G G2 := ⟨pl2, by omega, fun q a b => by
    rw [fr2 q b (by omega), List.getElem?_append_left (by omega), f1.2.2 q b]⟩
  have at_e : (Str.ofString "@") = at_ := rfl
  have a0 : L2.atI [D.str H0, .str H1] (0 : Int) = some (.str H0) := rfl
  have a1 : L2.atI [D.str H0, .str H1] (1 : Int) = some (.str H1) := rfl
  have keep : ∃ (ps : List Str) (G' : DH) (w6 : Option D), (sIf (tAndD (dTest (dBin neU (dBin ixU (dVar 2) (dC (.int 0))) (dBin ixU (dVar 2) (dC (.int 1))))) (dTest (dBin eqU (dCall F__law_take (dCons (dVar 0) (dCons (dC (.int 3)) (dNil)))) (dC (.int 0))))) (sSeq (sAsg (dMt "str" (splitO false) (dBin ixU (dVar 3) (dC (.int 1))) (dCons (dC (.str "@")) (dNil))) (gNm 6)) (
    sAsg (dBin (addD false) (dBin (addD false) (dBin ixU (dVar 6) (dC (.int 0))) (dC (.str "@"))) (dBin ixU (dVar 2) (dCall intO (dCons (dBin eqU (dBin ixU (dVar 6) (dC (.int 1))) (dBin ixU (dVar 2) (dC (.int 0)))) (dNil))))) (gSt setU (dVar 3) (dUn negD (dC (.int 1)))))) (sPass)) [some (.obj n), some (.int m), some (.lst [.str H0, .str H1]), some (.obj G1.length), w4, w5, none, none] G2 = .ok (.nx, [some (.obj n), some (.int m), some (.lst [.str H0, .str H1]), some (.obj G1.length), w4, w5, w6, none]) G' ∧ G'[G1.length]? = some (.lst (ps.map D.str)) ∧ ps.length = m ∧ ps.Nodup ∧ (∀ x ∈ ps, Pn x) ∧ Xt n G G' ∧ (∀ x ∈ ps, Fk x) := by
    rw [at_e]
    by_cases c : H0 = H1
    · have c' : (H0 == H1) = true := by simpa using c
      exact ⟨ps, G2, none, by simp only [sSeq_s, sAsg_s, sIf_s, sRet_s, sPass_s, sDrop_s, sFor_s, dTest_s, dCall_s, dCons_s, dNil_s, dVar_s, dC_s, dBin_s, dUn_s, dTup_s, dTupK_s, dLst_s, dMt_s, dMtD_s, dIf_s, dTru_s, tAndD_s, tOrD_s, tNotD_s, bind_ok, sBind_nx, sBind_rt, finR_rt, gNm_s, gSt_s, List.getElem?_cons_succ, List.getElem?_cons_zero, List.set_cons_succ, List.set_cons_zero, List.length_cons, List.length_nil, Nat.zero_add, Nat.reduceAdd, mkL_v, mkL_o, addD_ii, addD_ss, subD_ii, negD_i, gtD_ii, ltD_ii, leD_ii, geD_ii, intO_b, Bool.false_eq_true, if_false, if_true, ixU_lst, a0, a1, neU_ss, c', Bool.not_true, truD_bl], es, lps', hPs.nodup, hpn, xt2, hfk⟩
    · have c' : (H0 == H1) = false := by simpa using c
      obtain ⟨r, G3, t3, ra, rb, f3⟩ := take_spec (m := 3) pl2 (by decide) (by decide)
      have xt3 := xt2.trans f3.xt
      have es3 : G3[G1.length]? = some (.lst (ps.map D.str)) := by rw [f3.2.2 _ (by omega)]; exact es
      by_cases d : r = 0
      · subst d
        obtain ⟨x1, hx1⟩ : ∃ x1, ps[1]? = some x1 := ⟨_, List.getElem?_eq_getElem (by omega)⟩
        obtain ⟨a, h, rfl, w, hh⟩ := hPs 1 x1 hx1
        have wh : isW h = true := hh.elim (fun e => by rw [e]; exact w0) (fun e => by rw [e]; exact w1)
        have a2 : L2.atI (ps.map D.str) (1 : Int) = some (.str (a ++ at_ ++ h)) := by
          have : (1 : Int) < ps.length := by omega
          simp [L2.atI, L2.ixN, this, hx1]
        have a3 : L2.atI [D.str a, .str h] (0 : Int) = some (.str a) := rfl
        have a4 : L2.atI [D.str a, .str h] (1 : Int) = some (.str h) := rfl
        obtain ⟨h', a5, wh', hne, hh'⟩ : ∃ h', L2.atI [D.str H0, .str H1] (if (h == H0) = true then 1 else 0) = some (.str h') ∧ isW h' = true ∧ h' ≠ h ∧ (h' = H0 ∨ h' = H1) := by
          rcases hh with rfl | rfl
          · exact ⟨H1, by simp [L2.atI, L2.ixN], w1, fun e => c e.symm, .inr rfl⟩
          · have c2 : (h == H0) = false := by simpa using fun e : h = H0 => c e.symm
            exact ⟨H0, by rw [c2]; rfl, w0, c, .inl rfl⟩
        have q1 := isW_len w.w
        have q2 := isW_len wh'
        have q3 : a.length + at_.length ≤ sizeLine := by rw [at_length]; omega
        have q4 : (a ++ at_).length + h'.length ≤ sizeLine := by rw [Str.length_append, at_length]; omega
        have q5 : L2.ixN (ps.map D.str).length (-1) = some (m - 1) := by
          have h1 : ¬ (0 ≤ (-1 : Int)) := by decide
          simp [L2.ixN, lps']
          omega
        have q6 : rcv G3 "str" (.str (a ++ at_ ++ h)) = true := rcv_str_ok
        have q7 : (0 : Int) = 0 := rfl
        refine ⟨ps.set (m - 1) (a ++ at_ ++ h'), G3.set G1.length (.lst ((ps.set (m - 1) (a ++ at_ ++ h')).map D.str)), some (.lst [.str a, .str h]), ?_, List.getElem?_set_self (List.getElem?_eq_some_iff.mp es3).1, by rw [List.length_set]; exact lps', ?_, ?_, ?_, fun x hx => ?_⟩
        · simp only [sSeq_s, sAsg_s, sIf_s, sRet_s, sPass_s, sDrop_s, sFor_s, dTest_s, dCall_s, dCons_s, dNil_s, dVar_s, dC_s, dBin_s, dUn_s, dTup_s, dTupK_s, dLst_s, dMt_s, dMtD_s, dIf_s, dTru_s, tAndD_s, tOrD_s, tNotD_s, bind_ok, sBind_nx, sBind_rt, finR_rt, gNm_s, gSt_s, List.getElem?_cons_succ, List.getElem?_cons_zero, List.set_cons_succ, List.set_cons_zero, List.length_cons, List.length_nil, Nat.zero_add, Nat.reduceAdd, mkL_v, mkL_o, addD_ii, addD_ss, subD_ii, negD_i, gtD_ii, ltD_ii, leD_ii, geD_ii, intO_b, Bool.false_eq_true, if_false, if_true, ixU_lst, a0, a1, neU_ss, c', Bool.not_false, truD_bl, t3, eqU_ii, beq_self_eq_true, ixU_obj es3, a2, q6, split_ok w.w wh, a3, a4, if_pos q3, eqU_ss, a5, if_pos q4, setU_L es3, q5, List.map_set]
        · refine List.pairwise_iff_getElem.mpr fun i j hi hj lt e => ?_
          have hi' : i < ps.length := by simpa using hi
          have hj' : j < ps.length := by simpa using hj
          rw [List.getElem_set, List.getElem_set] at e
          rw [if_neg (by omega)] at e
          split at e
          · obtain ⟨b, g, e3, w3, _⟩ := hPs i _ (List.getElem?_eq_getElem hi')
            rw [e3] at e
            obtain ⟨eb, eg⟩ := at_inj w3.w w.w e
            have ei := w3.inj (eb ▸ w)
            subst ei
            rw [List.getElem?_eq_getElem hi'] at hx1
            have := Option.some.inj hx1
            rw [e3] at this
            exact hne (eg ▸ (at_inj w3.w w.w this).2)
          · exact List.pairwise_iff_getElem.mp hPs.nodup i j hi' hj' lt e
        · intro x hx
          rcases List.mem_or_eq_of_mem_set hx with hx | rfl
          · exact hpn x hx
          · exact ⟨a, h', rfl, w.w, wh'⟩
        · refine ⟨xt3.p.set _ (by omega), by rw [List.length_set]; exact xt3.l, fun q a b => ?_⟩
          rw [List.getElem?_set_ne (by omega)]
          exact xt3.k q a b
        · rcases List.mem_or_eq_of_mem_set hx with hx | rfl
          · exact hfk x hx
          · exact ⟨1, a, h', rfl, w⟩
      · have d' : (r == 0) = false := beq_eq_false_iff_ne.mpr d
        exact ⟨ps, G3, none, by simp only [sSeq_s, sAsg_s, sIf_s, sRet_s, sPass_s, sDrop_s, sFor_s, dTest_s, dCall_s, dCons_s, dNil_s, dVar_s, dC_s, dBin_s, dUn_s, dTup_s, dTupK_s, dLst_s, dMt_s, dMtD_s, dIf_s, dTru_s, tAndD_s, tOrD_s, tNotD_s, bind_ok, sBind_nx, sBind_rt, finR_rt, gNm_s, gSt_s, List.getElem?_cons_succ, List.getElem?_cons_zero, List.set_cons_succ, List.set_cons_zero, List.length_cons, List.length_nil, Nat.zero_add, Nat.reduceAdd, mkL_v, mkL_o, addD_ii, addD_ss, subD_ii, negD_i, gtD_ii, ltD_ii, leD_ii, geD_ii, intO_b, Bool.false_eq_true, if_false, if_true, ixU_lst, a0, a1, neU_ss, c', Bool.not_false, truD_bl, t3, eqU_ii, d'], es3, lps', hPs.nodup, hpn, xt3, hfk⟩
  obtain ⟨qs, G', w6, e, g1, g2, g3, g4, g5, g6⟩ := keep
  refine ⟨qs, G'.set G1.length .dead, ?_, g2, g3, g4, ⟨g5.p.set _ (by omega), by rw [List.length_set]; exact g5.l, fun q a b => by rw [List.getElem?_set_ne (by omega)]; exact g5.k q a b⟩, g6⟩
  have fr : freeO (.obj G1.length) G' = .ok (.lst (qs.map D.str)) (G'.set G1.length .dead) := by
    unfold freeO
    simp only [g1]
  rw [F__law_folk, runF_2, b__law_folk, s0]
  rw [sSeq_s, sAsg_s, dLc_s, i2, bind_ok, s1, e1, bind_ok, mkL_v, bind_ok, gNm_s, bind_ok, sBind_nx]
  simp only [List.set_cons_succ, List.set_cons_zero]
  rw [sSeq_s, sAsg_s, dLst_s, dNil_s, bind_ok, if_pos (show ([] : List D).length ≤ sizeLine from z0), mkL_o, bind_ok, gNm_s, bind_ok, sBind_nx]
  simp only [List.set_cons_succ, List.set_cons_zero]
  rw [sSeq_s, sFor_s, im, bind_ok, lp, sBind_nx, sSeq_s, e, sBind_nx, sRet_s]
  simp only [sSeq_s, sAsg_s, sIf_s, sRet_s, sPass_s, sDrop_s, sFor_s, dTest_s, dCall_s, dCons_s, dNil_s, dVar_s, dC_s, dBin_s, dUn_s, dTup_s, dTupK_s, dLst_s, dMt_s, dMtD_s, dIf_s, dTru_s, tAndD_s, tOrD_s, tNotD_s, bind_ok, sBind_nx, sBind_rt, finR_rt, gNm_s, gSt_s, List.getElem?_cons_succ, List.getElem?_cons_zero, List.set_cons_succ, List.set_cons_zero, List.length_cons, List.length_nil, Nat.zero_add, Nat.reduceAdd, mkL_v, mkL_o, addD_ii, addD_ss, subD_ii, negD_i, gtD_ii, ltD_ii, leD_ii, geD_ii, intO_b, Bool.false_eq_true, if_false, if_true, dFree_s, fr]
theorem folk_spec {G : DH} {n : Nat} (pl : Pl G n) (m : Nat) (hm : m ≤ 6) (hm2 : 3 ≤ m) : ∃ (ps : List Str) (G' : DH), F__law_folk [.obj n, .int m] G = .ok (.lst (ps.map D.str)) G' ∧ ps.length = m ∧ ps.Nodup ∧ (∀ x ∈ ps, Pn x) ∧ Xt n G G' := by
  obtain ⟨ps, G', h1, h2, h3, h4, h5, _⟩ := folk_spec2 pl m hm hm2
  exact ⟨ps, G', h1, h2, h3, h4, h5⟩
end DF
end
/-! ==== LBV ==== -/
section
set_option Elab.async false
set_option linter.all false
set_option autoImplicit false
set_option maxRecDepth 100000
set_option maxHeartbeats 4000000
/-! Rows of ranks, a hall's adding. -/
namespace DF
open PySem DL
/-! ### rows of ranks -/
/-- a short text of common signs -/
def tx (x : Str) : Bool := decide (x.length ≤ 100) && x.cps.toList.all fun c => decide (c < 16 ^ 8)
theorem tx_len {x : Str} (h : tx x = true) : x.length ≤ 100 := by
  unfold tx at h
  simp only [Bool.and_eq_true, decide_eq_true_eq] at h
  exact h.1
theorem let_lt : ∀ c ∈ LET, c < 16 ^ 8 := by decide +kernel
theorem tx_of {x : Str} (h1 : x.length ≤ 100) (h2 : ∀ c ∈ TL.tl x, c ∈ LET ∨ c = 64) : tx x = true := by
  unfold tx
  simp only [Bool.and_eq_true, decide_eq_true_eq, List.all_eq_true]
  exact ⟨h1, fun c hc => (h2 c hc).elim (let_lt c) fun e => by rw [e]; decide⟩
theorem isW_let {x : Str} (h : isW x = true) : ∀ c ∈ TL.tl x, c ∈ LET := fun c hc => by
  unfold isW at h
  simp only [Bool.and_eq_true, List.all_eq_true, decide_eq_true_eq] at h
  exact h.2 c hc
theorem tx_w {x : Str} (h : isW x = true) : tx x = true := tx_of (by have := isW_len h; omega) fun c hc => .inl (isW_let h c hc)
theorem Pn.tx {x : Str} (h : Pn x) : tx x = true := by
  have hl := h.len
  obtain ⟨a, b, rfl, h1, h2⟩ := h
  refine tx_of (by omega) fun c hc => ?_
  rw [TL.tl_append, TL.tl_append, at_tl, List.mem_append, List.mem_append] at hc
  rcases hc with (hc | hc) | hc
  · exact .inl (isW_let h1 c hc)
  · exact .inr (List.mem_singleton.mp hc)
  · exact .inl (isW_let h2 c hc)
/-- short rows -/
structure RBs (ps ws : Rk) : Prop where
  ok : RBok ps ws
  sp : ∀ p ∈ ps, tx p.1 = true
  sw : ∀ p ∈ ws, tx p.1 = true
  lp : ps.length ≤ 30
  lw : ws.length ≤ 30
theorem plnL_pr : ∀ qs : Rk, plnL (qs.map prD) = true
  | [] => rfl
  | q :: qs => by rw [List.map_cons, plnL, plnL_pr qs]; rfl
theorem srt_pr {qs : Rk} (h : qs.length ≤ 1000) : srtOk (qs.map prD) = true := by
  have big := big1000
  unfold srtOk
  simp only [Bool.and_eq_true, decide_eq_true_eq]
  refine ⟨⟨⟨⟨plnL_pr qs, ?_⟩, ?_⟩, by rw [List.length_map]; omega⟩, ?_⟩
  · unfold alikes
    rw [List.all_eq_true]
    intro d hd
    rw [List.all_eq_true]
    intro e he
    obtain ⟨p, _, rfl⟩ := List.mem_map.mp hd
    obtain ⟨q, _, rfl⟩ := List.mem_map.mp he
    rfl
  · unfold sortables
    rw [Bool.or_eq_true]
    refine .inl (List.all_eq_true.mpr fun d hd => ?_)
    obtain ⟨p, _, rfl⟩ := List.mem_map.mp hd
    rfl
  · rw [List.all_eq_true]
    intro d hd
    obtain ⟨p, _, rfl⟩ := List.mem_map.mp hd
    rfl
theorem sort_pr (qs : Rk) : ∃ rs : Rk, sortD (qs.map prD) = rs.map prD ∧ rs.Perm qs := by
  refine ⟨qs.mergeSort fun a b => leD' (prD a) (prD b), ?_, List.mergeSort_perm _ _⟩
  exact (List.map_mergeSort (r := fun a b => leD' (prD a) (prD b)) (s := leD') (f := prD) (l := qs) fun _ _ _ _ => rfl).symm
/-- rows drawn out of a list of texts -/
structure Rw (xs : List Str) (qs : Rk) : Prop where
  s : (qs.map (·.1)).Sublist xs
  r : ∀ q ∈ qs, 0 ≤ q.2 ∧ q.2 ≤ 100
theorem rows_lc {n i : Nat} {tt : DT} {r1 : Int} (h0 : 0 ≤ r1) (h1 : r1 < 98) {s0 : DSl} (hs : s0.length = 7) (hi : i = 5 ∨ i = 6) (e0 : s0[0]? = some (some (.obj n))) (e2 : s0[2]? = some (some (.lst [.int 0, .int (1 + r1), .int 50, .int 50, .int 99, .int 100])))
    (ht : ∀ (x : Str) (G : DH), Pl G n → ∃ b G', tt (s0.set i (some (.str x))) G = .ok b G' ∧ Af n G G') (xs : List Str) (hx : xs.length ≤ 100) {G : DH} (pl : Pl G n) :
    ∃ (qs : Rk) (G' : DH), lcL (gNm i) tt (dTup (dCons (dVar i) (dCons (dBin ixU (dVar 2) (dCall F__law_take (dCons (dVar 0) (dCons (dC (.int 6)) (dNil))))) (dNil)))) s0 (xs.map D.str) [] G = .ok (qs.map prD) G' ∧ Rw xs qs ∧ Af n G G' := by
  have big := big1000
  obtain ⟨a, G', e, _, qs, rfl, w, af⟩ := lcL_inv (g := gNm i) (tt := tt) (te := dTup (dCons (dVar i) (dCons (dBin ixU (dVar 2) (dCall F__law_take (dCons (dVar 0) (dCons (dC (.int 6)) (dNil))))) (dNil)))) (s0 := s0)
    (fun j a G' => ∃ qs : Rk, a = qs.map prD ∧ Rw (xs.take j) qs ∧ Af n G G') (xs.map D.str) 0 [] G (by rw [List.length_map]; show 0 + xs.length ≤ _; omega) (fun j d a G1 hj hi' => by
      obtain ⟨qs, rfl, w, af⟩ := hi'
      rw [List.getElem?_map] at hj
      obtain ⟨x, hx1, rfl⟩ := Option.map_eq_some_iff.mp hj
      have tk : xs.take (0 + j + 1) = xs.take (0 + j) ++ [x] := by rw [Nat.zero_add, List.take_add_one, hx1]; rfl
      obtain ⟨b, G2, t2, f2⟩ := ht x G1 af.1
      refine ⟨_, G1, rfl, ?_⟩
      cases b with
      | false => exact .inl ⟨G2, t2, qs, rfl, ⟨by rw [tk]; exact w.s.trans (List.sublist_append_left _ _), w.r⟩, af.trans f2⟩
      | true =>
        obtain ⟨r, G3, t3, r3, r4, f3⟩ := take_spec (m := 6) f2.1 (by decide) (by decide)
        obtain ⟨d, ed, md⟩ := atI_lt (xs := [D.int 0, .int (1 + r1), .int 50, .int 50, .int 99, .int 100]) r3 r4
        obtain ⟨z, rfl, z0, z1⟩ : ∃ z : Int, d = .int z ∧ 0 ≤ z ∧ z ≤ 100 := by
          simp only [List.mem_cons, List.not_mem_nil, or_false] at md
          rcases md with rfl | rfl | rfl | rfl | rfl | rfl
          · exact ⟨_, rfl, by decide, by decide⟩
          · exact ⟨_, rfl, by omega, by omega⟩
          · exact ⟨_, rfl, by decide, by decide⟩
          · exact ⟨_, rfl, by decide, by decide⟩
          · exact ⟨_, rfl, by decide, by decide⟩
          · exact ⟨_, rfl, by decide, by decide⟩
        have ei : (s0.set i (some (D.str x)))[i]? = some (some (.str x)) := List.getElem?_set_self (by omega)
        have e0' : (s0.set i (some (D.str x)))[0]? = some (some (.obj n)) := by rw [List.getElem?_set_ne (by omega)]; exact e0
        have e2' : (s0.set i (some (D.str x)))[2]? = some (some (.lst [.int 0, .int (1 + r1), .int 50, .int 50, .int 99, .int 100])) := by rw [List.getElem?_set_ne (by omega)]; exact e2
        refine .inr ⟨G2, prD (x, z), G3, t2, ?_, qs ++ [(x, z)], by simp, ⟨?_, ?_⟩, (af.trans f2).trans f3⟩
        · simp only [sSeq_s, sAsg_s, sIf_s, sRet_s, sPass_s, sDrop_s, sFor_s, dTest_s, dCall_s, dCons_s, dNil_s, dVar_s, dC_s, dBin_s, dUn_s, dTup_s, dTupK_s, dLst_s, dMt_s, dMtD_s, dIf_s, dTru_s, tAndD_s, tOrD_s, tNotD_s, bind_ok, sBind_nx, sBind_rt, finR_rt, gNm_s, gSt_s, List.getElem?_cons_succ, List.getElem?_cons_zero, List.set_cons_succ, List.set_cons_zero, List.length_cons, List.length_nil, Nat.zero_add, Nat.reduceAdd, mkL_v, mkL_o, addD_ii, addD_ss, subD_ii, negD_i, gtD_ii, ltD_ii, leD_ii, geD_ii, intO_b, Bool.false_eq_true, if_false, if_true, ei, e0', e2', t3, ixU_lst, ed, if_pos two_ok]
          rfl
        · rw [tk, List.map_append]
          exact w.s.append (List.Sublist.refl _)
        · intro q hq
          rcases List.mem_append.mp hq with hq | hq
          · exact w.r q hq
          · rw [List.mem_singleton.mp hq]; exact ⟨z0, z1⟩) ⟨[], rfl, ⟨List.nil_sublist _, by simp⟩, .refl pl⟩
  refine ⟨qs, G', e, ?_, af⟩
  rw [List.length_map, Nat.zero_add, List.take_length] at w
  exact w
theorem Rw.len {xs : List Str} {qs : Rk} (h : Rw xs qs) : qs.length ≤ xs.length := by
  have := h.s.length_le
  rwa [List.length_map] at this
theorem Rw.sub {xs : List Str} {qs : Rk} (h : Rw xs qs) {q : Str × Int} (hq : q ∈ qs) : q.1 ∈ xs := h.s.subset (List.mem_map.mpr ⟨q, hq, rfl⟩)
theorem rank_rows_spec {G : DH} {n : Nat} {ps : List Str} (pl : Pl G n) (hl : ps.length ≤ 30) (nd : ps.Nodup) (pn : ∀ x ∈ ps, Pn x) :
    ∃ (qs ws : Rk) (G' : DH), F__law_rank_rows [.obj n, .lst (ps.map D.str)] G = .ok (RB qs ws) G' ∧ RBs qs ws ∧ (∀ q ∈ qs, q.1 ∈ ps) ∧ (∀ q ∈ ws, q.1 ∈ WL) ∧ Af n G G' := by
  have big := big1000
  obtain ⟨r1, G1, t1, a1, b1, f1⟩ := take_spec (m := 98) pl (by decide) (by decide)
  obtain ⟨qs, G2, t2, w2, f2⟩ := rows_lc (n := n) (i := 5) (tt := dTest (dBin gtD (dCall F__law_take (dCons (dVar 0) (dCons (dC (.int 4)) (dNil)))) (dC (.int 0)))) a1 b1 (s0 := [some (.obj n), some (.lst (ps.map D.str)), some (.lst [.int 0, .int (1 + r1), .int 50, .int 50, .int 99, .int 100]), none, none, none, none]) rfl (.inl rfl) rfl rfl (fun x G pl => by
    obtain ⟨r, G', t, _, _, f⟩ := take_spec (m := 4) pl (by decide) (by decide)
    exact ⟨decide (r > 0), G', by simp only [sSeq_s, sAsg_s, sIf_s, sRet_s, sPass_s, sDrop_s, sFor_s, dTest_s, dCall_s, dCons_s, dNil_s, dVar_s, dC_s, dBin_s, dUn_s, dTup_s, dTupK_s, dLst_s, dMt_s, dMtD_s, dIf_s, dTru_s, tAndD_s, tOrD_s, tNotD_s, bind_ok, sBind_nx, sBind_rt, finR_rt, gNm_s, gSt_s, List.getElem?_cons_succ, List.getElem?_cons_zero, List.set_cons_succ, List.set_cons_zero, List.length_cons, List.length_nil, Nat.zero_add, Nat.reduceAdd, mkL_v, mkL_o, addD_ii, addD_ss, subD_ii, negD_i, gtD_ii, ltD_ii, leD_ii, geD_ii, intO_b, Bool.false_eq_true, if_false, if_true, t, truD_bl], f⟩) ps (by omega) f1.1
  obtain ⟨rs, es, pr⟩ := sort_pr qs
  obtain ⟨ws, G3, t3, w3, f3⟩ := rows_lc (n := n) (i := 6) (tt := dTest (dBin eqU (dCall F__law_take (dCons (dVar 0) (dCons (dC (.int 3)) (dNil)))) (dC (.int 0)))) a1 b1 (s0 := [some (.obj n), some (.lst (ps.map D.str)), some (.lst [.int 0, .int (1 + r1), .int 50, .int 50, .int 99, .int 100]), some (.lst (rs.map prD)), some (.lst (WL.map D.str)), none, none]) rfl (.inr rfl) rfl rfl (fun x G pl => by
    obtain ⟨r, G', t, _, _, f⟩ := take_spec (m := 3) pl (by decide) (by decide)
    exact ⟨r == 0, G', by simp only [sSeq_s, sAsg_s, sIf_s, sRet_s, sPass_s, sDrop_s, sFor_s, dTest_s, dCall_s, dCons_s, dNil_s, dVar_s, dC_s, dBin_s, dUn_s, dTup_s, dTupK_s, dLst_s, dMt_s, dMtD_s, dIf_s, dTru_s, tAndD_s, tOrD_s, tNotD_s, bind_ok, sBind_nx, sBind_rt, finR_rt, gNm_s, gSt_s, List.getElem?_cons_succ, List.getElem?_cons_zero, List.set_cons_succ, List.set_cons_zero, List.length_cons, List.length_nil, Nat.zero_add, Nat.reduceAdd, mkL_v, mkL_o, addD_ii, addD_ss, subD_ii, negD_i, gtD_ii, ltD_ii, leD_ii, geD_ii, intO_b, Bool.false_eq_true, if_false, if_true, t, eqU_ii, truD_bl], f⟩) WL (by decide) f2.1
  have hrs : ∀ q ∈ rs, q.1 ∈ ps := fun q hq => w2.sub (pr.mem_iff.mp hq)
  have hws : ∀ q ∈ ws, q.1 ∈ WL := fun q hq => w3.sub hq
  have wl : ∀ x ∈ WL, tx x = true := by decide +kernel
  have l2 := w2.len
  have l3 := w3.len
  have lW : WL.length = 8 := rfl
  have hrl : rs.length ≤ 30 := by rw [pr.length_eq]; omega
  have hok : RBok rs ws := ⟨(pr.map (·.1)).nodup_iff.mpr (w2.s.nodup nd), w3.s.nodup WL_nodup, fun p hp => w2.r p (pr.mem_iff.mp hp), w3.r, by omega, by omega⟩
  refine ⟨rs, ws, G3, ?_, ⟨hok, fun p hp => (pn _ (hrs p hp)).tx, fun p hp => wl _ (hws p hp), hrl, by omega⟩, hrs, hws, (f1.trans f2).trans f3⟩
  have s0 : (some (D.obj n) :: some (D.lst (ps.map D.str)) :: List.replicate (7 - 2) none : DSl) = [some (.obj n), some (.lst (ps.map D.str)), none, none, none, none, none] := rfl
  have i1 : iSeq (dVar 1) [some (.obj n), some (.lst (ps.map D.str)), some (.lst [.int 0, .int (1 + r1), .int 50, .int 50, .int 99, .int 100]), none, none, none, none] G1 = .ok (ps.map D.str) G1 := by
    rfl
  have z6 : (6 : Nat) ≤ sizeLine := by omega
  have z8 : (8 : Nat) ≤ sizeLine := by omega
  have w5 : wipeD [some (D.obj n), some (.lst (ps.map D.str)), some (.lst [.int 0, .int (1 + r1), .int 50, .int 50, .int 99, .int 100]), none, none, none, none] [5] = [some (D.obj n), some (.lst (ps.map D.str)), some (.lst [.int 0, .int (1 + r1), .int 50, .int 50, .int 99, .int 100]), none, none, none, none] := rfl
  have w6 : wipeD [some (D.obj n), some (.lst (ps.map D.str)), some (.lst [.int 0, .int (1 + r1), .int 50, .int 50, .int 99, .int 100]), some (.lst (rs.map prD)), some (.lst (WL.map D.str)), none, none] [6] = [some (D.obj n), some (.lst (ps.map D.str)), some (.lst [.int 0, .int (1 + r1), .int 50, .int 50, .int 99, .int 100]), some (.lst (rs.map prD)), some (.lst (WL.map D.str)), none, none] := rfl
  have so : sortedO false [.lst (qs.map prD)] G2 = .ok (.lst (rs.map prD)) G2 := by
    unfold sortedO
    simp only [lstOf_lst, if_pos (srt_pr (show qs.length ≤ 1000 by omega)), es, mkL_v]
  have hw : (D.lst [(.str "bar"), (.str "call"), (.str "door"), (.str "move"), (.str "out"), (.str "ranks"), (.str "say"), (.str "strike")]) = D.lst (WL.map D.str) := rfl
  rw [F__law_rank_rows, runF_2, b__law_rank_rows, s0]
  simp only [sSeq_s, sAsg_s, sIf_s, sRet_s, sPass_s, sDrop_s, sFor_s, dTest_s, dCall_s, dCons_s, dNil_s, dVar_s, dC_s, dBin_s, dUn_s, dTup_s, dTupK_s, dLst_s, dMt_s, dMtD_s, dIf_s, dTru_s, tAndD_s, tOrD_s, tNotD_s, bind_ok, sBind_nx, sBind_rt, finR_rt, gNm_s, gSt_s, List.getElem?_cons_succ, List.getElem?_cons_zero, List.set_cons_succ, List.set_cons_zero, List.length_cons, List.length_nil, Nat.zero_add, Nat.reduceAdd, mkL_v, mkL_o, addD_ii, addD_ss, subD_ii, negD_i, gtD_ii, ltD_ii, leD_ii, geD_ii, intO_b, Bool.false_eq_true, if_false, if_true, t1, if_pos z6, dLc_s, i1, w5, t2, so, if_pos z8, hw, tupleK_lst]
  rw [w6, iSeq_s, dVar_s]
  simp only [List.getElem?_cons_succ, List.getElem?_cons_zero, bind_ok, seqOf_lst, t3, mkL_v, tupleK_lst, List.length_cons, List.length_nil, Nat.zero_add, Nat.reduceAdd, if_pos two_ok, finR_rt]
  rfl
end DF
end
/-! ==== LBW ==== -/
section
set_option Elab.async false
set_option linter.all false
set_option autoImplicit false
set_option maxRecDepth 100000
set_option maxHeartbeats 4000000
/-! Halls. -/
namespace DF
open PySem DL
/-! ### what a hall holds -/
/-- a deed's content -/
def Bd (d : D) : Prop := (∃ x : Str, d = .str x ∧ tx x = true) ∨ (∃ i : Int, d = .int i ∧ 0 ≤ i ∧ i ≤ 1000) ∨ (∃ i : Int, d = .tup [.int i, .non] ∧ 0 ≤ i ∧ i ≤ 1000) ∨ ∃ ps ws, d = RB ps ws ∧ RBs ps ws
/-- what a deed comes behind -/
def Fs (d : D) : Prop := d = .ktup [] ∨ ∃ (h : Str) (n : Int), d = .ktup [nmD h n] ∧ tx h = true ∧ 0 ≤ n ∧ n ≤ 1000
/-- rows tell of known people alone -/
def Kn (F : List Str) (d : D) : Prop := ∀ a b, d = .tup [.ktup a, b] → ∀ z ∈ a, ∃ q : Str × Int, z = prD q ∧ q.1 ∈ F
structure EntOk (F : List Str) (N : Nat) (e : Ent) : Prop where
  n0 : 0 ≤ e.n
  n1 : e.n < N
  lh : tx e.h = true
  ls : tx e.sort = true
  lw : tx e.who = true
  la : tx e.about = true
  bd : Bd e.body
  f : Fs e.f
  g : Fs e.g
  wF : e.who ∈ F
  pF : Kn F e.body
  bg : e.sort = sBegin → F.head? = some e.who
variable {F : List Str}
theorem EntOk.up {N M : Nat} {e : Ent} (h : EntOk F N e) (le : N ≤ M) : EntOk F M e := ⟨h.n0, by have := h.n1; omega, h.lh, h.ls, h.lw, h.la, h.bd, h.f, h.g, h.wF, h.pF, h.bg⟩
abbrev Tb := List (List Key × D)
structure HallOk (F : List Str) (hk sk : Tb) : Prop where
  es : ∀ p ∈ hk, ∃ e : Ent, p = (nmK e.h e.n, e.D) ∧ EntOk F hk.length e
  st : StOk hk sk
  ss : ∀ p ∈ sk, ∃ e : Ent, p = (kk e.sort e.about, nmD e.h e.n) ∧ EntOk F hk.length e
theorem valK_mem {κ : Type} [DecidableEq κ] {kvs : List (κ × D)} {k : κ} {d : D} (h : valK kvs k = some d) : (k, d) ∈ kvs := by
  unfold valK at h
  obtain ⟨p, hp, rfl⟩ := Option.map_eq_some_iff.mp h
  have h1 := List.mem_of_find?_eq_some hp
  have h2 := List.find?_some hp
  simp only [decide_eq_true_eq] at h2
  rw [← h2]
  exact h1
theorem nmK_inj {a b : Str} {i j : Int} (h : nmK a i = nmK b j) : a = b ∧ i = j := by
  simp only [nmK, List.cons.injEq, Sum.inr.injEq, Sum.inl.injEq, and_true] at h
  exact h
theorem HallOk.fresh {hk sk : Tb} (H : HallOk F hk sk) (h : Str) : nmK h hk.length ∉ hk.map (·.1) := fun m => by
  obtain ⟨p, hp, e1⟩ := List.mem_map.mp m
  obtain ⟨e, rfl, ok⟩ := H.es p hp
  obtain ⟨_, e2⟩ := nmK_inj e1
  have := ok.n1
  omega
theorem HallOk.in_add {hk sk : Tb} (H : HallOk F hk sk) (h : Str) (d : D) {e : Ent} (hi : In hk e) : In (setK hk (nmK h hk.length) d) e := by
  unfold In at hi ⊢
  rw [valK_set, if_neg]
  · exact hi
  · intro z
    exact H.fresh h (z ▸ List.mem_map.mpr ⟨_, valK_mem hi, rfl⟩)
theorem HallOk.add {hk sk : Tb} (H : HallOk F hk sk) (e : Ent) (en : e.n = hk.length) (ok : EntOk F (hk.length + 1) e) : HallOk F (setK hk (nmK e.h hk.length) e.D) sk ∧ (setK hk (nmK e.h hk.length) e.D).length = hk.length + 1 ∧ In (setK hk (nmK e.h hk.length) e.D) e := by
  have hs := setK_new (d := e.D) (H.fresh e.h)
  have hl : (setK hk (nmK e.h hk.length) e.D).length = hk.length + 1 := by rw [hs]; simp
  refine ⟨⟨fun p hp => ?_, fun k v hv => ?_, fun p hp => ?_⟩, hl, ?_⟩
  · rw [hl]
    rw [hs] at hp
    rcases List.mem_append.mp hp with hp | hp
    · obtain ⟨e', e1, e2⟩ := H.es p hp
      exact ⟨e', e1, e2.up (by omega)⟩
    · rw [List.mem_singleton.mp hp]
      exact ⟨e, by rw [en], ok⟩
  · obtain ⟨e', e1, e2, e3, e4⟩ := H.st k v hv
    exact ⟨e', e1, e2, H.in_add _ _ e3, e4⟩
  · rw [hl]
    obtain ⟨e', e1, e2⟩ := H.ss p hp
    exact ⟨e', e1, e2.up (by omega)⟩
  · show valK _ _ = _
    rw [valK_set, if_pos (by rw [en])]
theorem setK_mem {κ : Type} [DecidableEq κ] {kvs : List (κ × D)} {k : κ} {d : D} {p : κ × D} (h : p ∈ setK kvs k d) : p ∈ kvs ∨ p.1 = k ∧ p.2 = d := by
  unfold setK at h
  split at h
  · obtain ⟨q, hq, e⟩ := List.mem_map.mp h
    split at e
    · rename_i c
      subst e
      exact .inr ⟨by simpa using c, rfl⟩
    · subst e
      exact .inl hq
  · rcases List.mem_append.mp h with h | h
    · exact .inl h
    · rw [List.mem_singleton.mp h]; exact .inr ⟨rfl, rfl⟩
theorem HallOk.put {hk sk : Tb} (H : HallOk F hk sk) {e : Ent} (hi : In hk e) (ok : EntOk F hk.length e) (bo : BodyOk e.sort e.body) : HallOk F hk (setK sk (kk e.sort e.about) (nmD e.h e.n)) := by
  refine ⟨H.es, fun k v hv => ?_, fun p hp => ?_⟩
  · rw [valK_set] at hv
    split at hv
    · rename_i c
      cases hv
      exact ⟨e, rfl, c, hi, bo⟩
    · exact H.st k v hv
  · rcases setK_mem hp with hp | ⟨h1, h2⟩
    · exact H.ss p hp
    · exact ⟨e, Prod.ext h1 h2, ok⟩
theorem HallOk.del {hk sk : Tb} (H : HallOk F hk sk) (k : List Key) : HallOk F hk (delK sk k) := by
  refine ⟨H.es, fun j v hv => ?_, fun p hp => H.ss p (List.mem_filter.mp hp).1⟩
  rw [valK_del] at hv
  split at hv
  · cases hv
  · exact H.st j v hv
theorem HallOk.nil : HallOk F [] [] := ⟨(fun p hp => nomatch hp), (fun k v h => nomatch h), (fun p hp => nomatch hp)⟩
/-! ### adding -/
def firstD (hk : Tb) : D := .ktup (cutD (hk.map fun kv => D.tup (kv.1.map kD)) none (some 1))
theorem firstD_ok {hk sk : Tb} (H : HallOk F hk sk) (hl : hk.length ≤ 1000) : Fs (firstD hk) := by
  cases hk with
  | nil => exact .inl rfl
  | cons p hk =>
    obtain ⟨e, rfl, ok⟩ := H.es p List.mem_cons_self
    have := ok.n1
    refine .inr ⟨e.h, e.n, ?_, ok.lh, ok.n0, by omega⟩
    unfold firstD cutD
    rfl
theorem dTof_o {G : DH} {W : Nat} {hk : Tb} (h : G[W]? = some (.dT hk)) : dTof G (.obj W) = some hk := by simp only [dTof, h]
/-- the deed that is added -/
def newE (hk : Tb) (a h sort about : Str) (body : D) : Ent := ⟨h, hk.length, sort, a ++ at_ ++ h, about, body, firstD hk, firstD hk⟩
theorem add_ok {G : DH} {W : Nat} {hk : Tb} (hG : G[W]? = some (.dT hk)) {a h : Str} (ha : isW a = true) (hh : isW h = true) (sort about : Str) (body : D) (hl : hk.length ≤ 1000) (big : 2000 ≤ sizeLine) :
    F__law_add [.obj W, .str sort, .str (a ++ at_ ++ h), .str about, body] G = .ok (nmD h hk.length) (G.set W (.dT (setK hk (nmK h hk.length) (newE hk a h sort about body).D))) := by
  have at_e : (Str.ofString "@") = at_ := rfl
  have z7 : (7 : Nat) ≤ sizeLine := by omega
  have q1 : L2.atI [D.str a, .str h] (1 : Int) = some (.str h) := rfl
  have q2 := lenU_T (dTof_o hG)
  have q3 : listU false [.obj W] G = .ok (.lst (hk.map fun kv => D.tup (kv.1.map kD))) G := listU_T (dTof_o hG)
  have q4 := setU_T (z := (newE hk a h sort about body).D) hG (keysL_nm h hk.length) (by omega)
  have s0 : (some (D.obj W) :: some (D.str sort) :: some (D.str (a ++ at_ ++ h)) :: some (D.str about) :: some body :: List.replicate (7 - 5) none : DSl) = [some (.obj W), some (.str sort), some (.str (a ++ at_ ++ h)), some (.str about), some body, none, none] := rfl
  rw [F__law_add, runF_5, b__law_add, s0, at_e]
  simp only [sSeq_s, sAsg_s, sIf_s, sRet_s, sPass_s, sDrop_s, sFor_s, dTest_s, dCall_s, dCons_s, dNil_s, dVar_s, dC_s, dBin_s, dUn_s, dTup_s, dTupK_s, dLst_s, dMt_s, dMtD_s, dIf_s, dTru_s, tAndD_s, tOrD_s, tNotD_s, bind_ok, sBind_nx, sBind_rt, finR_rt, gNm_s, gSt_s, List.getElem?_cons_succ, List.getElem?_cons_zero, List.set_cons_succ, List.set_cons_zero, List.length_cons, List.length_nil, Nat.zero_add, Nat.reduceAdd, mkL_v, mkL_o, addD_ii, addD_ss, subD_ii, negD_i, gtD_ii, ltD_ii, leD_ii, geD_ii, intO_b, Bool.false_eq_true, if_false, if_true, rcv_str_ok, split_ok ha hh, ixU_lst, q1, q2, if_pos two_ok, dSl_s, q3, dNoP_s, dP_s, slD_lst, lstOf_lst, tupleK_lst, if_pos z7]
  have q5 : setU (.obj W) (.tup [.str h, .int hk.length]) (.tup [.tup [.str h, .int hk.length], .str sort, .str (a ++ at_ ++ h), .str about, body, .ktup (cutD (hk.map fun kv => D.tup (kv.1.map kD)) none (some 1)), .ktup (cutD (hk.map fun kv => D.tup (kv.1.map kD)) none (some 1))]) G = .ok () (G.set W (.dT (setK hk (nmK h hk.length) (newE hk a h sort about body).D))) := q4
  simp only [q5, bind_ok, sBind_nx, finR_rt]
  rfl
/-! ### the hall is made -/
/-- the hall's def up to its last line -/
def hallDS (R : DS) : DS :=
  sSeq (sAsg (dNewT true) (gNm 2)) (
    sSeq (sAsg (dNewT true) (gNm 3)) (
    sSeq (sAsg (dCall F__law_add (dCons (dVar 2) (dCons (dC (.str "begin")) (dCons (dBin ixU (dVar 1) (dC (.int 0))) (dCons (dC (.str "")) (dCons (dTup (dCons (dBin (addD false) (dC (.int 1)) (dCall F__law_take (dCons (dVar 0) (dCons (dC (.int 2)) (dNil))))) (dCons (dC .non) (dNil)))) (dNil))))))) (gSt setU (dVar 3) (dTup (dCons (dC (.str "begin")) (dCons (dC (.str "")) (dNil)))))) (
    sSeq (sFor (iRg1 (dCons (dCall F__law_take (dCons (dVar 0) (dCons (dC (.int 13)) (dNil)))) (dNil))) (gNm 4) (l1__law_hall)) (
    sSeq (sFor (iRg1 (dCons (dCall F__law_take (dCons (dVar 0) (dCons (dC (.int 3)) (dNil)))) (dNil))) (gNm 4) (l2__law_hall)) (
    sSeq (sIf (dTest (dBin eqU (dCall F__law_take (dCons (dVar 0) (dCons (dC (.int 2)) (dNil)))) (dC (.int 0)))) (sAsg (dCall F__law_add (dCons (dVar 2) (dCons (dC (.str "door")) (dCons (dBin ixU (dVar 1) (dC (.int 0))) (dCons (dC (.str "")) (dCons (dBin ixU (dLst false (dCons (dC (.str "open")) (dCons (dC (.str "asked")) (dNil)))) (dCall F__law_take (dCons (dVar 0) (dCons (dC (.int 2)) (dNil))))) (dNil))))))) (gSt setU (dVar 3) (dTup (dCons (dC (.str "door")) (dCons (dC (.str "")) (dNil)))))) (sPass)) (
    sSeq (sFor (iSeq (dVar 1)) (gNm 5) (l3__law_hall)) (
    sSeq (sDrop (dCall F__law_add (dCons (dVar 2) (dCons (dC (.str "say")) (dCons (dBin ixU (dVar 1) (dC (.int 0))) (dCons (dC (.str "")) (dCons (dC (.str "so")) (dNil)))))))) (
    sSeq (sIf (dTest (dBin eqU (dCall F__law_take (dCons (dVar 0) (dCons (dC (.int 9)) (dNil)))) (dC (.int 0)))) (sDrop (dMtD popO (dVar 3) (dCons (dTup (dCons (dC (.str "begin")) (dCons (dC (.str "")) (dNil)))) (dNil)))) (sPass)) (
    R)))))))))
theorem ne_b1 : ¬ (Str.ofString "say") = sBegin := by decide +kernel
theorem ne_b2 : ¬ (Str.ofString "ranks") = sBegin := by decide +kernel
theorem ne_b3 : ¬ (Str.ofString "seat") = sBegin := by decide +kernel
theorem ne_b4 : ¬ (Str.ofString "door") = sBegin := by decide +kernel

structure HI (F : List Str) (n W M : Nat) (B G : DH) (hk sk : Tb) : Prop where
  p : Pl G n
  w : G[W]? = some (.dT hk)
  s : G[W + 1]? = some (.dT sk)
  l : G.length = W + 2
  nw : n < W
  k : ∀ q, q < W → q ≠ n → G[q]? = B[q]?
  o : HallOk F hk sk
  lh : hk.length ≤ M
  ls : sk.length ≤ M
theorem HI.draw {n W M : Nat} {B G G' : DH} {hk sk : Tb} (H : HI F n W M B G hk sk) (f : Af n G G') : HI F n W M B G' hk sk := by
  have := H.nw
  exact ⟨f.1, (f.2.2 W (by omega)).trans H.w, (f.2.2 (W + 1) (by omega)).trans H.s, f.2.1.trans H.l, H.nw, fun q a b => (f.2.2 q b).trans (H.k q a b), H.o, H.lh, H.ls⟩
theorem HI.up {n W M N : Nat} {B G : DH} {hk sk : Tb} (H : HI F n W M B G hk sk) (le : M ≤ N) : HI F n W N B G hk sk :=
  ⟨H.p, H.w, H.s, H.l, H.nw, H.k, H.o, Nat.le_trans H.lh le, Nat.le_trans H.ls le⟩
theorem big2000 : (2000 : Nat) ≤ sizeLine := by rw [sizeLine_eq]; omega
theorem Bd.str {x : Str} (h : tx x = true) : Bd (.str x) := .inl ⟨x, rfl, h⟩
theorem Kn.str {x : Str} : Kn F (.str x) := fun _ _ e => by cases e
theorem in_ne {hk : Tb} {e : Ent} (h : In hk e) : hk ≠ [] := fun z => by rw [z] at h; cases h
/-- a deed is added -/
theorem HI.add {n W M : Nat} {B G : DH} {hk sk : Tb} (H : HI F n W M B G hk sk) (hM : M ≤ 900) {x : Str} (px : Pn x) (sort about : Str) (body : D) (ls : tx sort = true) (la : tx about = true) (bd : Bd body) (wF : x ∈ F) (pF : Kn F body) (bg : sort = sBegin → F.head? = some x) :
    ∃ (e : Ent) (hk' : Tb), F__law_add [.obj W, .str sort, .str x, .str about, body] G = .ok (nmD e.h e.n) (G.set W (.dT hk')) ∧ HI F n W (M + 1) B (G.set W (.dT hk')) hk' sk ∧ In hk' e ∧ e.sort = sort ∧ e.who = x ∧ e.about = about ∧ e.body = body ∧ EntOk F hk'.length e := by
  obtain ⟨a, h, rfl, ha, hh⟩ := px
  have := H.nw
  have hl := H.lh
  have lx := Pn.len ⟨a, h, rfl, ha, hh⟩
  have lh := isW_len hh
  have wl : W < G.length := (List.getElem?_eq_some_iff.mp H.w).1
  have ok : EntOk F (hk.length + 1) (newE hk a h sort about body) := ⟨by show (0 : Int) ≤ hk.length; omega, by show (hk.length : Int) < _; omega, tx_w hh, ls, (show Pn (a ++ at_ ++ h) from ⟨a, h, rfl, ha, hh⟩).tx, la, bd, firstD_ok H.o (by omega), firstD_ok H.o (by omega), wF, pF, bg⟩
  obtain ⟨h1, h2, h3⟩ := H.o.add (newE hk a h sort about body) rfl ok
  refine ⟨newE hk a h sort about body, setK hk (nmK h hk.length) (newE hk a h sort about body).D, add_ok H.w ha hh sort about body (by omega) big2000, ⟨H.p.set _ (by omega), List.getElem?_set_self wl, ?_, by rw [List.length_set]; exact H.l, H.nw, fun q a b => ?_, h1, ?_, ?_⟩, h3, rfl, rfl, rfl, rfl, ?_⟩
  · rw [List.getElem?_set_ne (by omega)]; exact H.s
  · rw [List.getElem?_set_ne (by omega)]; exact H.k q a b
  · have : (setK hk (nmK h hk.length) (newE hk a h sort about body).D).length = hk.length + 1 := h2
    omega
  · have := H.ls; omega
  · have : (setK hk (nmK h hk.length) (newE hk a h sort about body).D).length = hk.length + 1 := h2
    rw [this]
    exact ok
/-- a deed stands -/
theorem HI.put {n W M : Nat} {B G : DH} {hk sk : Tb} (H : HI F n W M B G hk sk) (hM : M ≤ 900) {e : Ent} (hi : In hk e) (ok : EntOk F hk.length e) (bo : BodyOk e.sort e.body) :
    setU (.obj (W + 1)) (.tup [.str e.sort, .str e.about]) (nmD e.h e.n) G = .ok () (G.set (W + 1) (.dT (setK sk (kk e.sort e.about) (nmD e.h e.n)))) ∧ HI F n W (M + 1) B (G.set (W + 1) (.dT (setK sk (kk e.sort e.about) (nmD e.h e.n)))) hk (setK sk (kk e.sort e.about) (nmD e.h e.n)) := by
  have := H.nw
  have hl := H.ls
  have big := big2000
  have wl : W + 1 < G.length := (List.getElem?_eq_some_iff.mp H.s).1
  have := setK_len sk (kk e.sort e.about) (nmD e.h e.n)
  refine ⟨setU_T H.s (keysL_kk _ _) (by omega), H.p.set _ (by omega), ?_, List.getElem?_set_self wl, by rw [List.length_set]; exact H.l, H.nw, fun q a b => ?_, H.o.put hi ok bo, by have := H.lh; omega, by omega⟩
  · rw [List.getElem?_set_ne (by omega)]; exact H.w
  · rw [List.getElem?_set_ne (by omega)]; exact H.k q a b
theorem BodyOk.other {s : Str} {b : D} (h1 : s ≠ sRanks) (h2 : s ≠ sBegin) (h3 : s ≠ sSeat) (h4 : s ≠ sDoor) : BodyOk s b := ⟨fun e => absurd e h1, fun e => absurd e h2, fun e => absurd e h3, fun e => absurd e h4⟩
theorem ne_rb : sRanks ≠ sBegin := by decide +kernel
theorem ne_rs : sRanks ≠ sSeat := by decide +kernel
theorem ne_rd : sRanks ≠ sDoor := by decide +kernel
theorem ne_bs : sBegin ≠ sSeat := by decide +kernel
theorem ne_bd : sBegin ≠ sDoor := by decide +kernel
theorem ne_sd : sSeat ≠ sDoor := by decide +kernel
theorem BodyOk.ranks {ps ws : Rk} (h : RBok ps ws) : BodyOk sRanks (RB ps ws) := ⟨fun _ => ⟨ps, ws, rfl, h⟩, fun e => absurd e ne_rb, fun e => absurd e ne_rs, fun e => absurd e ne_rd⟩
theorem BodyOk.begin {i : Int} {x : D} : BodyOk sBegin (.tup [.int i, x]) := ⟨fun e => absurd e.symm ne_rb, fun _ => ⟨i, x, rfl⟩, fun e => absurd e ne_bs, fun e => absurd e ne_bd⟩
theorem BodyOk.seat {x : Str} (h : x.length ≤ 100) : BodyOk sSeat (.str x) := ⟨fun e => absurd e.symm ne_rs, fun e => absurd e.symm ne_bs, fun _ => ⟨x, rfl, h⟩, fun e => absurd e ne_sd⟩
theorem BodyOk.door {x : Str} (h : x.length ≤ 100) : BodyOk sDoor (.str x) := ⟨fun e => absurd e.symm ne_rd, fun e => absurd e.symm ne_bd, fun e => absurd e.symm ne_sd, fun _ => ⟨x, rfl, h⟩⟩
theorem some_set {kvs : Tb} {k : List Key} {d : D} (j : List Key) (h : (valK kvs j).isSome = true) : (valK (setK kvs k d) j).isSome = true := by
  rw [valK_set]
  split
  · rfl
  · exact h
section
variable {n W : Nat} {B : DH} {ps : List Str} (hp : ps.length = 4) (pn : ∀ x ∈ ps, Pn x)
abbrev hsl (n W : Nat) (ps : List Str) (v4 v5 v6 : Option D) : DSl := [some (.obj n), some (.lst (ps.map D.str)), some (.obj W), some (.obj (W + 1)), v4, v5, v6]
include hp pn in
theorem p_at {r : Int} (h0 : 0 ≤ r) (h1 : r < 4) : ∃ x, L2.atI (ps.map D.str) r = some (.str x) ∧ x ∈ ps ∧ Pn x := by
  obtain ⟨d, e, m⟩ := atI_lt (xs := ps.map D.str) h0 (by rw [List.length_map]; omega)
  obtain ⟨x, hx, rfl⟩ := List.mem_map.mp m
  exact ⟨x, e, hx, pn x hx⟩
include hp in
theorem p_head {x : Str} (e : L2.atI (ps.map D.str) (0 : Int) = some (.str x)) : ps.head? = some x := by
  cases ps with
  | nil => cases hp
  | cons y ps =>
    have : L2.atI ((y :: ps).map D.str) (0 : Int) = some (.str y) := by simp [L2.atI, L2.ixN]
    rw [this] at e
    cases e
    rfl
include hp pn in
theorem hall_say {M : Nat} {G : DH} {hk sk : Tb} {v4 v5 v6 : Option D} (H : HI ps n W M B G hk sk) (hM : M ≤ 900) : ∃ (G' : DH) (hk' : Tb), l1__law_hall (hsl n W ps v4 v5 v6) G = .ok (.nx, hsl n W ps v4 v5 v6) G' ∧ HI ps n W (M + 1) B G' hk' sk ∧ hk' ≠ [] := by
  obtain ⟨x, e0, mx, px⟩ := p_at hp pn (r := 0) (by omega) (by omega)
  have l0 : tx (Str.ofString "say") = true := by decide +kernel
  have l1 : tx (Str.ofString "") = true := by decide +kernel
  have l2 : tx (Str.ofString "so") = true := by decide +kernel
  obtain ⟨e, hk', t, H', hi, _⟩ := H.add hM px "say" "" (.str "so") l0 l1 (.str l2) mx .str (fun z => absurd z ne_b1)
  refine ⟨_, hk', ?_, H', in_ne hi⟩
  rw [l1__law_hall]
  simp only [sSeq_s, sAsg_s, sIf_s, sRet_s, sPass_s, sDrop_s, sFor_s, dTest_s, dCall_s, dCons_s, dNil_s, dVar_s, dC_s, dBin_s, dUn_s, dTup_s, dTupK_s, dLst_s, dMt_s, dMtD_s, dIf_s, dTru_s, tAndD_s, tOrD_s, tNotD_s, bind_ok, sBind_nx, sBind_rt, finR_rt, gNm_s, gSt_s, List.getElem?_cons_succ, List.getElem?_cons_zero, List.set_cons_succ, List.set_cons_zero, List.length_cons, List.length_nil, Nat.zero_add, Nat.reduceAdd, mkL_v, mkL_o, addD_ii, addD_ss, subD_ii, negD_i, gtD_ii, ltD_ii, leD_ii, geD_ii, intO_b, Bool.false_eq_true, if_false, if_true, ixU_lst, e0, t]
include hp pn in
theorem hall_ranks {M : Nat} {G : DH} {hk sk : Tb} {v4 v5 v6 : Option D} (nd : ps.Nodup) (H : HI ps n W M B G hk sk) (hM : M ≤ 800) : ∃ (G' : DH) (hk' sk' : Tb), l2__law_hall (hsl n W ps v4 v5 v6) G = .ok (.nx, hsl n W ps v4 v5 v6) G' ∧ HI ps n W (M + 2) B G' hk' sk' ∧ hk' ≠ [] ∧ ∀ j, (valK sk j).isSome → (valK sk' j).isSome := by
  have l0 : tx (Str.ofString "ranks") = true := by decide +kernel
  have l1 : tx (Str.ofString "") = true := by decide +kernel
  obtain ⟨r, G1, t1, a1, b1, f1⟩ := take_spec (m := 4) H.p (by decide) (by decide)
  obtain ⟨x, e0, mx, px⟩ := p_at hp pn a1 b1
  obtain ⟨qs, ws, G2, t2, r2, hq, _, f2⟩ := rank_rows_spec (f1.1) (by omega) nd pn
  have H2 := (H.draw f1).draw f2
  obtain ⟨e, hk', t3, H3, hi, es, ew, ea, eb, ok⟩ := H2.add (by omega) px "ranks" "" (RB qs ws) l0 l1 (.inr (.inr (.inr ⟨qs, ws, rfl, r2⟩))) mx (fun a b e z hz => by
    cases e
    obtain ⟨q, h1, rfl⟩ := List.mem_map.mp hz
    exact ⟨q, rfl, hq q h1⟩) (fun z => absurd z ne_b2)
  obtain ⟨t4, H4⟩ := H3.put (by omega) hi ok (by rw [es, eb]; exact BodyOk.ranks r2.ok)
  rw [es, ea] at t4 H4
  refine ⟨_, hk', _, ?_, H4, in_ne hi, some_set⟩
  have ln : ((ps.map D.str).length : Int) = 4 := by rw [List.length_map, hp]; rfl
  rw [l2__law_hall]
  simp only [sSeq_s, sAsg_s, sIf_s, sRet_s, sPass_s, sDrop_s, sFor_s, dTest_s, dCall_s, dCons_s, dNil_s, dVar_s, dC_s, dBin_s, dUn_s, dTup_s, dTupK_s, dLst_s, dMt_s, dMtD_s, dIf_s, dTru_s, tAndD_s, tOrD_s, tNotD_s, bind_ok, sBind_nx, sBind_rt, finR_rt, gNm_s, gSt_s, List.getElem?_cons_succ, List.getElem?_cons_zero, List.set_cons_succ, List.set_cons_zero, List.length_cons, List.length_nil, Nat.zero_add, Nat.reduceAdd, mkL_v, mkL_o, addD_ii, addD_ss, subD_ii, negD_i, gtD_ii, ltD_ii, leD_ii, geD_ii, intO_b, Bool.false_eq_true, if_false, if_true, lenU_lst, ln, ixU_lst, t1, e0, t2, t3, if_pos two_ok, t4]
include hp pn in
theorem hall_seat {M : Nat} {G : DH} {hk sk : Tb} {v4 v6 : Option D} {one : Str} (po : one ∈ ps) (H : HI ps n W M B G hk sk) (hM : M ≤ 800) : ∃ (G' : DH) (hk' sk' : Tb) (w6 : Option D), l3__law_hall (hsl n W ps v4 (some (.str one)) v6) G = .ok (.nx, hsl n W ps v4 (some (.str one)) w6) G' ∧ HI ps n W (M + 2) B G' hk' sk' ∧ (hk ≠ [] → hk' ≠ []) ∧ ∀ j, (valK sk j).isSome → (valK sk' j).isSome := by
  have l0 : tx (Str.ofString "seat") = true := by decide +kernel
  have lo : tx one = true := (pn one po).tx
  obtain ⟨r, G1, t1, a1, b1, f1⟩ := take_spec (m := 5) H.p (by decide) (by decide)
  by_cases c : 0 < r
  · obtain ⟨r2, G2, t2, a2, b2, f2⟩ := take_spec (m := 6) f1.1 (by decide) (by decide)
    obtain ⟨d, ed, md⟩ := atI_lt (xs := [D.str "in", .str "in", .str "in", .str "out", .str "called", .str "barred"]) a2 b2
    obtain ⟨z, rfl, lz⟩ : ∃ z : Str, d = .str z ∧ tx z = true := by
      simp only [List.mem_cons, List.not_mem_nil, or_false] at md
      rcases md with rfl | rfl | rfl | rfl | rfl | rfl <;> exact ⟨_, rfl, by decide +kernel⟩
    obtain ⟨r3, G3, t3, a3, b3, f3⟩ := take_spec (m := 4) f2.1 (by decide) (by decide)
    obtain ⟨x, e0, mx, px⟩ := p_at hp pn a3 b3
    have H3 := ((H.draw f1).draw f2).draw f3
    obtain ⟨e, hk', t4, H4, hi, es, ew, ea, eb, ok⟩ := H3.add (by omega) px "seat" one (.str z) l0 lo (.str lz) mx .str (fun z => absurd z ne_b3)
    obtain ⟨t5, H5⟩ := H4.put (by omega) hi ok (by rw [es, eb]; exact BodyOk.seat (tx_len lz))
    rw [es, ea] at t5 H5
    refine ⟨_, hk', _, some (.str z), ?_, H5, fun _ => in_ne hi, some_set⟩
    have ln : ((ps.map D.str).length : Int) = 4 := by rw [List.length_map, hp]; rfl
    have z6 : (6 : Nat) ≤ sizeLine := by have := big2000; omega
    have c' : decide (r > 0) = true := by simpa using c
    rw [l3__law_hall]
    simp only [sSeq_s, sAsg_s, sIf_s, sRet_s, sPass_s, sDrop_s, sFor_s, dTest_s, dCall_s, dCons_s, dNil_s, dVar_s, dC_s, dBin_s, dUn_s, dTup_s, dTupK_s, dLst_s, dMt_s, dMtD_s, dIf_s, dTru_s, tAndD_s, tOrD_s, tNotD_s, bind_ok, sBind_nx, sBind_rt, finR_rt, gNm_s, gSt_s, List.getElem?_cons_succ, List.getElem?_cons_zero, List.set_cons_succ, List.set_cons_zero, List.length_cons, List.length_nil, Nat.zero_add, Nat.reduceAdd, mkL_v, mkL_o, addD_ii, addD_ss, subD_ii, negD_i, gtD_ii, ltD_ii, leD_ii, geD_ii, intO_b, Bool.false_eq_true, if_false, if_true, t1, c', truD_bl, if_pos z6, t2, ixU_lst, ed, lenU_lst, ln, t3, e0, t4, if_pos two_ok, t5]
  · refine ⟨G1, hk, sk, v6, ?_, (H.draw f1).up (by omega), fun h => h, fun _ h => h⟩
    have c' : decide (r > 0) = false := by simpa using c
    rw [l3__law_hall]
    simp only [sSeq_s, sAsg_s, sIf_s, sRet_s, sPass_s, sDrop_s, sFor_s, dTest_s, dCall_s, dCons_s, dNil_s, dVar_s, dC_s, dBin_s, dUn_s, dTup_s, dTupK_s, dLst_s, dMt_s, dMtD_s, dIf_s, dTru_s, tAndD_s, tOrD_s, tNotD_s, bind_ok, sBind_nx, sBind_rt, finR_rt, gNm_s, gSt_s, List.getElem?_cons_succ, List.getElem?_cons_zero, List.set_cons_succ, List.set_cons_zero, List.length_cons, List.length_nil, Nat.zero_add, Nat.reduceAdd, mkL_v, mkL_o, addD_ii, addD_ss, subD_ii, negD_i, gtD_ii, ltD_ii, leD_ii, geD_ii, intO_b, Bool.false_eq_true, if_false, if_true, t1, c', truD_bl]
include hp pn in
theorem hall_run (nd : ps.Nodup) {G : DH} (pl : Pl G n) : ∃ (hk sk : Tb) (G' : DH) (w4 w5 w6 : Option D), HI ps n G.length 50 G G' hk sk ∧ hk ≠ [] ∧ ∀ (R : DS), finR (hallDS R [some (.obj n), some (.lst (ps.map D.str)), none, none, none, none, none] G) = finR (R (hsl n G.length ps w4 w5 w6) G') := by
  have big := big2000
  have nl := pl.lt
  have l0 : tx (Str.ofString "begin") = true := by decide +kernel
  have l1 : tx (Str.ofString "") = true := by decide +kernel
  have l2 : tx (Str.ofString "door") = true := by decide +kernel
  have l3 : tx (Str.ofString "say") = true := by decide +kernel
  have l4 : tx (Str.ofString "so") = true := by decide +kernel
  obtain ⟨x, e0, mx, px⟩ := p_at hp pn (r := 0) (by omega) (by omega)
  -- begin
  have H0 : HI ps n G.length 0 G (G ++ [.dT []] ++ [.dT []]) [] [] := by
    refine ⟨(pl.push _).push _, ?_, ?_, by simp, nl, fun q a b => ?_, HallOk.nil, Nat.le_refl _, Nat.le_refl _⟩
    · rw [List.append_assoc, List.getElem?_append_right (Nat.le_refl _), Nat.sub_self]; rfl
    · rw [List.append_assoc, List.getElem?_append_right (by omega), Nat.add_sub_cancel_left]; rfl
    · rw [List.append_assoc, List.getElem?_append_left a]
  obtain ⟨r1, G1, t1, a1, b1, f1⟩ := take_spec (m := 2) H0.p (by decide) (by decide)
  have H1 := H0.draw f1
  obtain ⟨e, hk2, t2, H2, hi2, es2, ew2, ea2, eb2, ok2⟩ := H1.add (by omega) px "begin" "" (.tup [.int (1 + r1), .non]) l0 l1 (.inr (.inr (.inl ⟨_, rfl, by omega, by omega⟩))) mx (fun _ _ e => by cases e) (fun _ => p_head hp e0)
  obtain ⟨t3, H3⟩ := H2.put (by omega) hi2 ok2 (by rw [es2, eb2]; exact BodyOk.begin)
  rw [es2, ea2] at t3 H3
  have hs3 : (valK (setK ([] : Tb) (kk "begin" "") (nmD e.h e.n)) (kk sBegin sNo)).isSome = true := by rw [valK_set, if_pos rfl]; rfl
  have ne2 : hk2 ≠ [] := fun z => by rw [z] at hi2; cases hi2
  generalize hsk3 : setK ([] : Tb) (kk "begin" "") (nmD e.h e.n) = sk3 at *
  generalize hG3 : (G1.set G.length (.dT hk2)).set (G.length + 1) (.dT sk3) = G3 at *
  -- say
  obtain ⟨r4, G4, t4, a4, b4, f4⟩ := take_spec (m := 13) H3.p (by decide) (by decide)
  obtain ⟨m4, rfl⟩ := Int.eq_ofNat_of_zero_le a4
  obtain ⟨s5, G5, t5, w5, hk5, rfl, H5, ne5⟩ := forL_inv (g := gNm 4) (b := l1__law_hall) (fun i s G' => ∃ (w4 : Option D) (hk' : Tb), s = hsl n G.length ps w4 none none ∧ HI ps n G.length (2 + i) G G' hk' sk3 ∧ hk' ≠ []) (rngD 0 m4) 0 (hsl n G.length ps none none none) G4 (fun j d s G' hj hi => by
    obtain ⟨w4, hk', rfl, H, ne⟩ := hi
    obtain ⟨hj', rfl⟩ := rng_at hj
    obtain ⟨G6, hk6, t6, H6, ne6⟩ := hall_say hp pn (v4 := some (.int j)) (v5 := none) (v6 := none) H (by omega)
    exact ⟨_, G', _, G6, rfl, .inl t6, _, hk6, rfl, H6.up (by omega), ne6⟩) ⟨none, hk2, rfl, (H3.draw f4).up (by omega), ne2⟩
  have lm4 : (rngD 0 m4).length = m4 := by simp [rngD]
  rw [lm4] at H5
  have H5' := H5.up (show 2 + (0 + m4) ≤ 20 by omega)
  -- ranks
  obtain ⟨r6, G6, t6, a6, b6, f6⟩ := take_spec (m := 3) H5.p (by decide) (by decide)
  obtain ⟨m6, rfl⟩ := Int.eq_ofNat_of_zero_le a6
  obtain ⟨s7, G7, t7, w7, hk7, sk7, rfl, H7, ne7, hs7⟩ := forL_inv (g := gNm 4) (b := l2__law_hall) (fun i s G' => ∃ (w4 : Option D) (hk' sk' : Tb), s = hsl n G.length ps w4 none none ∧ HI ps n G.length (20 + 2 * i) G G' hk' sk' ∧ hk' ≠ [] ∧ (valK sk' (kk sBegin sNo)).isSome = true) (rngD 0 m6) 0 (hsl n G.length ps w5 none none) G6 (fun j d s G' hj hi => by
    obtain ⟨w4, hk', sk', rfl, H, ne, hs⟩ := hi
    obtain ⟨hj', rfl⟩ := rng_at hj
    obtain ⟨G8, hk8, sk8, t8, H8, ne8, h8⟩ := hall_ranks hp pn (v4 := some (.int j)) (v5 := none) (v6 := none) nd H (by omega)
    exact ⟨_, G', _, G8, rfl, .inl t8, _, hk8, sk8, rfl, H8.up (by omega), ne8, h8 _ hs⟩) ⟨w5, hk5, sk3, rfl, (H5'.draw f6).up (by omega), ne5, hs3⟩
  have lm6 : (rngD 0 m6).length = m6 := by simp [rngD]
  rw [lm6] at H7
  have H7' := H7.up (show 20 + 2 * (0 + m6) ≤ 30 by omega)
  -- door
  obtain ⟨r8, G8, t8, a8, b8, f8⟩ := take_spec (m := 2) H7.p (by decide) (by decide)
  have door : ∃ (G9 : DH) (hk9 sk9 : Tb), (sIf (dTest (dBin eqU (dCall F__law_take (dCons (dVar 0) (dCons (dC (.int 2)) (dNil)))) (dC (.int 0)))) (sAsg (dCall F__law_add (dCons (dVar 2) (dCons (dC (.str "door")) (dCons (dBin ixU (dVar 1) (dC (.int 0))) (dCons (dC (.str "")) (dCons (dBin ixU (dLst false (dCons (dC (.str "open")) (dCons (dC (.str "asked")) (dNil)))) (dCall F__law_take (dCons (dVar 0) (dCons (dC (.int 2)) (dNil))))) (dNil))))))) (gSt setU (dVar 3) (dTup (dCons (dC (.str "door")) (dCons (dC (.str "")) (dNil)))))) (sPass)) (hsl n G.length ps w7 none none) G7 = .ok (.nx, hsl n G.length ps w7 none none) G9 ∧ HI ps n G.length 33 G G9 hk9 sk9 ∧ hk9 ≠ [] ∧ (valK sk9 (kk sBegin sNo)).isSome = true := by
    by_cases c : r8 = 0
    · subst c
      obtain ⟨r9, G9, t9, a9, b9, f9⟩ := take_spec (m := 2) f8.1 (by decide) (by decide)
      obtain ⟨d, ed, md⟩ := atI_lt (xs := [D.str "open", .str "asked"]) a9 b9
      obtain ⟨z, rfl, lz⟩ : ∃ z : Str, d = .str z ∧ tx z = true := by
        simp only [List.mem_cons, List.not_mem_nil, or_false] at md
        rcases md with rfl | rfl <;> exact ⟨_, rfl, by decide +kernel⟩
      have H9 := (H7'.draw f8).draw f9
      obtain ⟨e, hk', ta, Ha, hi, es, ew, ea, eb, ok⟩ := H9.add (by omega) px "door" "" (.str z) l2 l1 (.str lz) mx .str (fun z => absurd z ne_b4)
      obtain ⟨tb, Hb⟩ := Ha.put (by omega) hi ok (by rw [es, eb]; exact BodyOk.door (tx_len lz))
      rw [es, ea] at tb Hb
      refine ⟨_, hk', _, ?_, Hb.up (by omega), in_ne hi, some_set _ hs7⟩
      simp only [sSeq_s, sAsg_s, sIf_s, sRet_s, sPass_s, sDrop_s, sFor_s, dTest_s, dCall_s, dCons_s, dNil_s, dVar_s, dC_s, dBin_s, dUn_s, dTup_s, dTupK_s, dLst_s, dMt_s, dMtD_s, dIf_s, dTru_s, tAndD_s, tOrD_s, tNotD_s, bind_ok, sBind_nx, sBind_rt, finR_rt, gNm_s, gSt_s, List.getElem?_cons_succ, List.getElem?_cons_zero, List.set_cons_succ, List.set_cons_zero, List.length_cons, List.length_nil, Nat.zero_add, Nat.reduceAdd, mkL_v, mkL_o, addD_ii, addD_ss, subD_ii, negD_i, gtD_ii, ltD_ii, leD_ii, geD_ii, intO_b, Bool.false_eq_true, if_false, if_true, t8, eqU_ii, beq_self_eq_true, truD_bl, if_pos two_ok, ixU_lst, e0, t9, ed, ta, tb]
    · have c' : (r8 == 0) = false := beq_eq_false_iff_ne.mpr c
      exact ⟨G8, hk7, sk7, by simp only [sSeq_s, sAsg_s, sIf_s, sRet_s, sPass_s, sDrop_s, sFor_s, dTest_s, dCall_s, dCons_s, dNil_s, dVar_s, dC_s, dBin_s, dUn_s, dTup_s, dTupK_s, dLst_s, dMt_s, dMtD_s, dIf_s, dTru_s, tAndD_s, tOrD_s, tNotD_s, bind_ok, sBind_nx, sBind_rt, finR_rt, gNm_s, gSt_s, List.getElem?_cons_succ, List.getElem?_cons_zero, List.set_cons_succ, List.set_cons_zero, List.length_cons, List.length_nil, Nat.zero_add, Nat.reduceAdd, mkL_v, mkL_o, addD_ii, addD_ss, subD_ii, negD_i, gtD_ii, ltD_ii, leD_ii, geD_ii, intO_b, Bool.false_eq_true, if_false, if_true, t8, eqU_ii, c', truD_bl], (H7'.draw f8).up (by omega), ne7, hs7⟩
  obtain ⟨G9, hk9, sk9, t9, H9, ne9, hs9⟩ := door
  -- seats
  obtain ⟨s10, G10, t10, w10, v10, hk10, sk10, rfl, H10, ne10, hs10⟩ := forL_inv (g := gNm 5) (b := l3__law_hall) (fun i s G' => ∃ (w5 w6 : Option D) (hk' sk' : Tb), s = hsl n G.length ps w7 w5 w6 ∧ HI ps n G.length (33 + 2 * i) G G' hk' sk' ∧ hk' ≠ [] ∧ (valK sk' (kk sBegin sNo)).isSome = true) (ps.map D.str) 0 (hsl n G.length ps w7 none none) G9 (fun j d s G' hj hi => by
    obtain ⟨w5, w6, hk', sk', rfl, H, ne, hs⟩ := hi
    rw [List.getElem?_map] at hj
    obtain ⟨one, ho, rfl⟩ := Option.map_eq_some_iff.mp hj
    have lj := (List.getElem?_eq_some_iff.mp ho).1
    obtain ⟨G8, hk8, sk8, w8, t8, H8, ne8, h8⟩ := hall_seat hp pn (v4 := w7) (v6 := w6) (List.mem_of_getElem? ho) H (by omega)
    exact ⟨_, G', _, G8, rfl, .inl t8, _, w8, hk8, sk8, rfl, H8.up (by omega), ne8 ne, h8 _ hs⟩) ⟨none, none, hk9, sk9, rfl, H9.up (by omega), ne9, hs9⟩
  rw [List.length_map, hp] at H10
  -- the last
  obtain ⟨e11, hk11, t11, H11, hi11, _⟩ := H10.add (by omega) px "say" "" (.str "so") l3 l1 (.str l4) mx .str (fun z => absurd z ne_b1)
  have ne11 : hk11 ≠ [] := fun z => by rw [z] at hi11; cases hi11
  generalize hG11 : G10.set G.length (.dT hk11) = G11 at *
  obtain ⟨r12, G12, t12, a12, b12, f12⟩ := take_spec (m := 9) H11.p (by decide) (by decide)
  have H12 := H11.draw f12
  have last : ∃ (G13 : DH) (sk13 : Tb), (sIf (dTest (dBin eqU (dCall F__law_take (dCons (dVar 0) (dCons (dC (.int 9)) (dNil)))) (dC (.int 0)))) (sDrop (dMtD popO (dVar 3) (dCons (dTup (dCons (dC (.str "begin")) (dCons (dC (.str "")) (dNil)))) (dNil)))) (sPass)) (hsl n G.length ps w7 w10 v10) G11 = .ok (.nx, hsl n G.length ps w7 w10 v10) G13 ∧ HI ps n G.length 50 G G13 hk11 sk13 := by
    by_cases c : r12 = 0
    · subst c
      obtain ⟨v, hv⟩ := Option.isSome_iff_exists.mp hs10
      have wl : G.length + 1 < G12.length := (List.getElem?_eq_some_iff.mp H12.s).1
      have pq : popO (.obj (G.length + 1)) [.tup [.str "begin", .str ""]] G12 = .ok v (G12.set (G.length + 1) (.dT (delK sk10 (kk sBegin sNo)))) := by
        unfold popO
        simp only [H12.s, keyT_t, keysL_kk]
        rw [show valK sk10 (kk "begin" "") = some v from hv]
      have dl := delK_len sk10 (kk sBegin sNo)
      have := H12.ls
      refine ⟨_, _, ?_, H12.p.set _ (by omega), ?_, List.getElem?_set_self wl, by rw [List.length_set]; exact H12.l, H12.nw, fun q a b => ?_, H12.o.del (kk sBegin sNo), by have := H12.lh; omega, by omega⟩
      · simp only [sSeq_s, sAsg_s, sIf_s, sRet_s, sPass_s, sDrop_s, sFor_s, dTest_s, dCall_s, dCons_s, dNil_s, dVar_s, dC_s, dBin_s, dUn_s, dTup_s, dTupK_s, dLst_s, dMt_s, dMtD_s, dIf_s, dTru_s, tAndD_s, tOrD_s, tNotD_s, bind_ok, sBind_nx, sBind_rt, finR_rt, gNm_s, gSt_s, List.getElem?_cons_succ, List.getElem?_cons_zero, List.set_cons_succ, List.set_cons_zero, List.length_cons, List.length_nil, Nat.zero_add, Nat.reduceAdd, mkL_v, mkL_o, addD_ii, addD_ss, subD_ii, negD_i, gtD_ii, ltD_ii, leD_ii, geD_ii, intO_b, Bool.false_eq_true, if_false, if_true, t12, eqU_ii, beq_self_eq_true, truD_bl, rcvD_T (dTof_o H12.s), if_pos two_ok, pq]
      · rw [List.getElem?_set_ne (by omega)]; exact H12.w
      · rw [List.getElem?_set_ne (by omega)]; exact H12.k q a b
    · have c' : (r12 == 0) = false := beq_eq_false_iff_ne.mpr c
      exact ⟨G12, sk10, by simp only [sSeq_s, sAsg_s, sIf_s, sRet_s, sPass_s, sDrop_s, sFor_s, dTest_s, dCall_s, dCons_s, dNil_s, dVar_s, dC_s, dBin_s, dUn_s, dTup_s, dTupK_s, dLst_s, dMt_s, dMtD_s, dIf_s, dTru_s, tAndD_s, tOrD_s, tNotD_s, bind_ok, sBind_nx, sBind_rt, finR_rt, gNm_s, gSt_s, List.getElem?_cons_succ, List.getElem?_cons_zero, List.set_cons_succ, List.set_cons_zero, List.length_cons, List.length_nil, Nat.zero_add, Nat.reduceAdd, mkL_v, mkL_o, addD_ii, addD_ss, subD_ii, negD_i, gtD_ii, ltD_ii, leD_ii, geD_ii, intO_b, Bool.false_eq_true, if_false, if_true, t12, eqU_ii, c', truD_bl], H12.up (by omega)⟩
  obtain ⟨G13, sk13, t13, H13⟩ := last
  refine ⟨hk11, sk13, G13, w7, w10, v10, H13, ne11, fun R => ?_⟩
  have ln : (G ++ [DO.dT []]).length = G.length + 1 := by simp
  have i4 : iRg1 (dCons (dCall F__law_take (dCons (dVar 0) (dCons (dC (.int 13)) (dNil)))) (dNil)) (hsl n G.length ps none none none) G3 = .ok (rngD 0 m4) G4 := iRg1_nat (m := m4) (by simp only [sSeq_s, sAsg_s, sIf_s, sRet_s, sPass_s, sDrop_s, sFor_s, dTest_s, dCall_s, dCons_s, dNil_s, dVar_s, dC_s, dBin_s, dUn_s, dTup_s, dTupK_s, dLst_s, dMt_s, dMtD_s, dIf_s, dTru_s, tAndD_s, tOrD_s, tNotD_s, bind_ok, sBind_nx, sBind_rt, finR_rt, gNm_s, gSt_s, List.getElem?_cons_succ, List.getElem?_cons_zero, List.set_cons_succ, List.set_cons_zero, List.length_cons, List.length_nil, Nat.zero_add, Nat.reduceAdd, mkL_v, mkL_o, addD_ii, addD_ss, subD_ii, negD_i, gtD_ii, ltD_ii, leD_ii, geD_ii, intO_b, Bool.false_eq_true, if_false, if_true, t4]) (by omega)
  have i6 : iRg1 (dCons (dCall F__law_take (dCons (dVar 0) (dCons (dC (.int 3)) (dNil)))) (dNil)) (hsl n G.length ps w5 none none) G5 = .ok (rngD 0 m6) G6 := iRg1_nat (m := m6) (by simp only [sSeq_s, sAsg_s, sIf_s, sRet_s, sPass_s, sDrop_s, sFor_s, dTest_s, dCall_s, dCons_s, dNil_s, dVar_s, dC_s, dBin_s, dUn_s, dTup_s, dTupK_s, dLst_s, dMt_s, dMtD_s, dIf_s, dTru_s, tAndD_s, tOrD_s, tNotD_s, bind_ok, sBind_nx, sBind_rt, finR_rt, gNm_s, gSt_s, List.getElem?_cons_succ, List.getElem?_cons_zero, List.set_cons_succ, List.set_cons_zero, List.length_cons, List.length_nil, Nat.zero_add, Nat.reduceAdd, mkL_v, mkL_o, addD_ii, addD_ss, subD_ii, negD_i, gtD_ii, ltD_ii, leD_ii, geD_ii, intO_b, Bool.false_eq_true, if_false, if_true, t6]) (by omega)
  have i9 : iSeq (dVar 1) (hsl n G.length ps w7 none none) G9 = .ok (ps.map D.str) G9 := rfl
  rw [hallDS]
  rw [sSeq_s, sAsg_s, dNewT_s, mkT_o, bind_ok, gNm_s, bind_ok, sBind_nx]
  simp only [List.set_cons_succ, List.set_cons_zero]
  rw [sSeq_s, sAsg_s, dNewT_s, mkT_o, bind_ok, gNm_s, bind_ok, sBind_nx, ln]
  simp only [List.set_cons_succ, List.set_cons_zero]
  rw [sSeq_s]
  have st3 : (sAsg (dCall F__law_add (dCons (dVar 2) (dCons (dC (.str "begin")) (dCons (dBin ixU (dVar 1) (dC (.int 0))) (dCons (dC (.str "")) (dCons (dTup (dCons (dBin (addD false) (dC (.int 1)) (dCall F__law_take (dCons (dVar 0) (dCons (dC (.int 2)) (dNil))))) (dCons (dC .non) (dNil)))) (dNil))))))) (gSt setU (dVar 3) (dTup (dCons (dC (.str "begin")) (dCons (dC (.str "")) (dNil)))))) (hsl n G.length ps none none none) (G ++ [.dT []] ++ [.dT []]) = .ok (.nx, hsl n G.length ps none none none) G3 := by
    simp only [sSeq_s, sAsg_s, sIf_s, sRet_s, sPass_s, sDrop_s, sFor_s, dTest_s, dCall_s, dCons_s, dNil_s, dVar_s, dC_s, dBin_s, dUn_s, dTup_s, dTupK_s, dLst_s, dMt_s, dMtD_s, dIf_s, dTru_s, tAndD_s, tOrD_s, tNotD_s, bind_ok, sBind_nx, sBind_rt, finR_rt, gNm_s, gSt_s, List.getElem?_cons_succ, List.getElem?_cons_zero, List.set_cons_succ, List.set_cons_zero, List.length_cons, List.length_nil, Nat.zero_add, Nat.reduceAdd, mkL_v, mkL_o, addD_ii, addD_ss, subD_ii, negD_i, gtD_ii, ltD_ii, leD_ii, geD_ii, intO_b, Bool.false_eq_true, if_false, if_true, ixU_lst, e0, t1, if_pos two_ok, t2, t3]
  rw [st3, sBind_nx, sSeq_s, sFor_s, i4, bind_ok, t5, sBind_nx, sSeq_s, sFor_s, i6, bind_ok, t7, sBind_nx, sSeq_s, t9, sBind_nx, sSeq_s, sFor_s, i9, bind_ok, t10, sBind_nx, sSeq_s]
  have st11 : sDrop (dCall F__law_add (dCons (dVar 2) (dCons (dC (.str "say")) (dCons (dBin ixU (dVar 1) (dC (.int 0))) (dCons (dC (.str "")) (dCons (dC (.str "so")) (dNil))))))) (hsl n G.length ps w7 w10 v10) G10 = .ok (.nx, hsl n G.length ps w7 w10 v10) G11 := by
    simp only [sSeq_s, sAsg_s, sIf_s, sRet_s, sPass_s, sDrop_s, sFor_s, dTest_s, dCall_s, dCons_s, dNil_s, dVar_s, dC_s, dBin_s, dUn_s, dTup_s, dTupK_s, dLst_s, dMt_s, dMtD_s, dIf_s, dTru_s, tAndD_s, tOrD_s, tNotD_s, bind_ok, sBind_nx, sBind_rt, finR_rt, gNm_s, gSt_s, List.getElem?_cons_succ, List.getElem?_cons_zero, List.set_cons_succ, List.set_cons_zero, List.length_cons, List.length_nil, Nat.zero_add, Nat.reduceAdd, mkL_v, mkL_o, addD_ii, addD_ss, subD_ii, negD_i, gtD_ii, ltD_ii, leD_ii, geD_ii, intO_b, Bool.false_eq_true, if_false, if_true, ixU_lst, e0, t11]
  rw [st11, sBind_nx, sSeq_s, t13, sBind_nx]
include hp pn in
theorem hall_spec (nd : ps.Nodup) {G : DH} (pl : Pl G n) : ∃ (hk sk : Tb) (G' : DH), F__law_hall [.obj n, .lst (ps.map D.str)] G = .ok (.tup [.dT hk, .dT sk]) G' ∧ HallOk ps hk sk ∧ hk ≠ [] ∧ hk.length ≤ 100 ∧ sk.length ≤ 100 ∧ Xt n G G' := by
  obtain ⟨hk11, sk13, G13, w4, w5, w6, H13, ne11, run⟩ := hall_run hp pn nd pl
  have fr1 : freeO (.obj G.length) G13 = .ok (.dT hk11) (G13.set G.length .dead) := by
    unfold freeO
    simp only [H13.w]
  have fr2 : freeO (.obj (G.length + 1)) (G13.set G.length .dead) = .ok (.dT sk13) ((G13.set G.length .dead).set (G.length + 1) .dead) := by
    unfold freeO
    simp only [List.getElem?_set_ne (show G.length ≠ G.length + 1 by omega), H13.s]
  have nl := H13.nw
  refine ⟨hk11, sk13, (G13.set G.length .dead).set (G.length + 1) .dead, ?_, H13.o, ne11, by have := H13.lh; omega, by have := H13.ls; omega, ⟨(H13.p.set _ (by omega)).set _ (by omega), by rw [List.length_set, List.length_set, H13.l]; omega, fun q a b => ?_⟩⟩
  · have s0 : (some (D.obj n) :: some (D.lst (ps.map D.str)) :: List.replicate (7 - 2) none : DSl) = [some (.obj n), some (.lst (ps.map D.str)), none, none, none, none, none] := rfl
    have e : b__law_hall = hallDS (sRet (dTup (dCons (dFree (dVar 2)) (dCons (dFree (dVar 3)) (dNil))))) := rfl
    rw [F__law_hall, runF_2, e, s0, run]
    simp only [sSeq_s, sAsg_s, sIf_s, sRet_s, sPass_s, sDrop_s, sFor_s, dTest_s, dCall_s, dCons_s, dNil_s, dVar_s, dC_s, dBin_s, dUn_s, dTup_s, dTupK_s, dLst_s, dMt_s, dMtD_s, dIf_s, dTru_s, tAndD_s, tOrD_s, tNotD_s, bind_ok, sBind_nx, sBind_rt, finR_rt, gNm_s, gSt_s, List.getElem?_cons_succ, List.getElem?_cons_zero, List.set_cons_succ, List.set_cons_zero, List.length_cons, List.length_nil, Nat.zero_add, Nat.reduceAdd, mkL_v, mkL_o, addD_ii, addD_ss, subD_ii, negD_i, gtD_ii, ltD_ii, leD_ii, geD_ii, intO_b, Bool.false_eq_true, if_false, if_true, dFree_s, fr1, fr2, if_pos two_ok]
  · rw [List.getElem?_set_ne (by omega), List.getElem?_set_ne (by omega)]
    exact H13.k q a b
end
end DF
end
/-! ==== LBX ==== -/
section
set_option Elab.async false
set_option linter.all false
set_option autoImplicit false
set_option maxRecDepth 100000
set_option maxHeartbeats 4000000
/-! Dicts of ranks compared; what a law's loop begins with. -/
namespace DF
open PySem DL
theorem forL_same {g : DG} {b : DS} {G : DH} (Iv : DSl → Prop) : ∀ (ds : List D) (s : DSl), (∀ d ∈ ds, ∀ s, Iv s → ∃ s1 s2, g d s G = .ok s1 G ∧ b s1 G = .ok (.nx, s2) G ∧ Iv s2) → Iv s → ∃ s', forL g b ds s G = .ok (.nx, s') G ∧ Iv s'
  | [], s, _, h0 => ⟨s, by simp, h0⟩
  | d :: ds, s, h, h0 => by
    obtain ⟨s1, s2, e1, e2, i2⟩ := h d List.mem_cons_self s h0
    obtain ⟨s', e3, i3⟩ := forL_same Iv ds s2 (fun d hd => h d (List.mem_cons_of_mem _ hd)) i2
    exact ⟨s', by simp [forL, e1, e2, e3], i3⟩
def Ints (kvs : List (Key × D)) : Prop := ∀ p ∈ kvs, ∃ i : Int, p.2 = .int i
theorem dEq_ints {G : DH} {x y : D} {ks ls : List (Key × D)} (hx : dKof G x = some ks) (hy : dKof G y = some ls) (h1 : Ints ks) (h2 : Ints ls) : dEq? G x y = some (ks.length == ls.length && hitsD ls ks) := by
  unfold dEq?
  rw [hx, hy]
  have p : ∀ {ks : List (Key × D)}, Ints ks → plnKV ks = true ∧ depKV ks = true := fun {ks} h => by
    refine ⟨List.all_eq_true.mpr fun p hp => ?_, List.all_eq_true.mpr fun p hp => ?_⟩
    · obtain ⟨i, e⟩ := h p hp; rw [e]; rfl
    · obtain ⟨i, e⟩ := h p hp; rw [e]; rfl
  simp only
  rw [if_pos ⟨(p h1).1, (p h2).1, (p h1).2⟩]
theorem eqD_ints (i j : Int) : eqD (.int i) (.int j) = decide (i = j) := by
  simp only [eqD]
  rfl
theorem eqU_ints {G : DH} {x y : D} {ks ls : List (Key × D)} (hx : dKof G x = some ks) (hy : dKof G y = some ls) (h1 : Ints ks) (h2 : Ints ls) : eqU x y G = .ok (.bl (ks.length == ls.length && hitsD ls ks)) G := by
  unfold eqU; rw [dEq_ints hx hy h1 h2]
theorem neU_ints {G : DH} {x y : D} {ks ls : List (Key × D)} (hx : dKof G x = some ks) (hy : dKof G y = some ls) (h1 : Ints ks) (h2 : Ints ls) : neU x y G = .ok (.bl (!(ks.length == ls.length && hitsD ls ks))) G := by
  unfold neU; rw [dEq_ints hx hy h1 h2]
theorem valK_at {kvs : List (Key × D)} (nd : (kvs.map (·.1)).Nodup) {p : Key × D} (hp : p ∈ kvs) : valK kvs p.1 = some p.2 := by
  induction kvs with
  | nil => cases hp
  | cons q kvs ih =>
    rw [List.map_cons, List.nodup_cons] at nd
    unfold valK
    rcases List.mem_cons.mp hp with rfl | hp
    · rw [List.find?_cons_of_pos (by simp)]; rfl
    · rw [List.find?_cons_of_neg]
      · exact ih nd.2 hp
      · intro z
        have z' : q.1 = p.1 := by simpa using z
        exact nd.1 (List.mem_map.mpr ⟨p, hp, z'.symm⟩)
theorem hits_self {kvs : List (Key × D)} (nd : (kvs.map (·.1)).Nodup) (hi : Ints kvs) : hitsD kvs kvs = true := by
  refine List.all_eq_true.mpr fun p hp => ?_
  rw [valK_at nd hp]
  obtain ⟨i, e⟩ := hi p hp
  simp [e, eqD_ints]
theorem ranked_ints {o : Option (Rk × Rk)} {b : Option Str} : Ints (rankedOf o b) := fun p hp => by
  cases o with
  | some q =>
    obtain ⟨q', _, rfl⟩ := List.mem_map.mp hp
    exact ⟨_, rfl⟩
  | none => cases b with
    | none => cases hp
    | some w => rw [List.mem_singleton.mp hp]; exact ⟨_, rfl⟩
theorem ranked_nodup {o : Option (Rk × Rk)} {b : Option Str} (ho : ∀ ps ws, o = some (ps, ws) → RBok ps ws) : ((rankedOf o b).map (·.1)).Nodup := by
  cases o with
  | some q =>
    obtain ⟨ps, ws⟩ := q
    show (((ps.filter fun p => decide (0 < p.2)).map rkE).map (·.1)).Nodup
    rw [List.map_map]
    exact List.Nodup.sublist (List.Sublist.map _ List.filter_sublist) (nodup_inr (ho ps ws rfl).np)
  | none => cases b with
    | none => exact List.nodup_nil
    | some w => exact List.nodup_cons.mpr ⟨by simp, List.nodup_nil⟩
theorem AtR.all {hk sk : Tb} {o : Option (Rk × Rk)} (A : AtR hk sk o) : ∀ ps ws, o = some (ps, ws) → RBok ps ws := fun ps ws e => by subst e; exact A.ok
theorem ranked_self {hk sk : Tb} {o : Option (Rk × Rk)} {b : Option Str} {G : DH} (A : AtR hk sk o) : neU (.dK (rankedOf o b)) (.dK (rankedOf o b)) G = .ok (.bl false) G := by
  rw [neU_ints (dKof_dK G _) (dKof_dK G _) ranked_ints ranked_ints, hits_self (ranked_nodup A.all) ranked_ints]
  simp
theorem StOk.seat {hk sk : Tb} (S : StOk hk sk) (p : Str) : ∃ (e : Option Ent) (x : Str), At hk sk sSeat p e ∧ bodyD e (.str "out") = .str x := by
  obtain ⟨e, A⟩ := S.at sSeat p
  cases e with
  | none => exact ⟨none, _, A, rfl⟩
  | some e =>
    obtain ⟨x, hx, _⟩ := A.2.2.2.2.s rfl
    exact ⟨some e, x, A, hx⟩
theorem StOk.door {hk sk : Tb} (S : StOk hk sk) : ∃ (e : Option Ent) (x : Str), At hk sk sDoor sNo e ∧ bodyD e (.str "asked") = .str x := by
  obtain ⟨e, A⟩ := S.at sDoor sNo
  cases e with
  | none => exact ⟨none, _, A, rfl⟩
  | some e =>
    obtain ⟨x, hx, _⟩ := A.2.2.2.2.d rfl
    exact ⟨some e, x, A, hx⟩
theorem hs_val {G : DH} {hk sk : Tb} : HS G (.dT hk) (.dT sk) hk sk := ⟨rfl, rfl⟩
/-- a law's turn begins: a pool, people, a hall -/
theorem turn_spec {zs : List Int} (hz : zs.length ≤ 63) {k : Nat} (hk : k ≤ 100) (G : DH) : ∃ (G1 G2 G3 : DH) (ps : List Str) (h s : Tb), F__law_pool [.frz (zs.map D.int), .int k] G = .ok (.obj G.length) G1 ∧ F__law_folk [.obj G.length, .int 4] G1 = .ok (.lst (ps.map D.str)) G2 ∧ F__law_hall [.obj G.length, .lst (ps.map D.str)] G2 = .ok (.tup [.dT h, .dT s]) G3 ∧ ps.length = 4 ∧ ps.Nodup ∧ (∀ x ∈ ps, Pn x) ∧ HallOk ps h s ∧ h ≠ [] ∧ h.length ≤ 100 ∧ s.length ≤ 100 ∧ Pl G3 G.length := by
  obtain ⟨a, b, p1, ha, hb, hb2⟩ := pool_spec (zs := zs) (k := k) (G := G) (by omega) (by omega)
  have pl := pl_new (G := G) ha hb hb2
  obtain ⟨ps, G2, e2, l2, nd, pn, x2⟩ := folk_spec pl 4 (by omega) (by omega)
  obtain ⟨h, s, G3, e3, ho, hne, h1, h2, x3⟩ := hall_spec l2 pn nd x2.p
  exact ⟨_, G2, G3, ps, h, s, p1, e2, e3, l2, nd, pn, ho, hne, h1, h2, x3.p⟩
theorem range_spec {zs : List Int} (hz : zs.length ≤ 63) {s : DSl} (hs : s[0]? = some (some (.frz (zs.map D.int)))) (t : Nat) (ht : t ≤ 90) (G : DH) : ∃ m : Nat, m ≤ 90 ∧ iRg1 (dCons (dCall maxO (dCons (dC (.int 1)) (dCons (dCall minO (dCons (dCall lenU (dCons (dVar 0) (dNil))) (dCons (dC (.int t)) (dNil)))) (dNil)))) (dNil)) s G = .ok (rngD 0 m) G := by
  refine ⟨max 1 (min zs.length t), by omega, iRg1_nat ?_ (by omega)⟩
  simp only [dCons_s, dCall_s, dC_s, dVar_s, hs, dNil_s, bind_ok, lenU_frz, List.length_map, minO_2, maxO_2]
  congr 3
  split <;> split <;> omega
end DF
end
/-! ==== K04P ==== -/
section
set_option Elab.async false
set_option linter.all false
set_option autoImplicit false
set_option maxRecDepth 100000
set_option maxHeartbeats 4000000
/-! k04: what the defs answer. -/
namespace K04
open PySem DL DF
def pc0 : DS := sAsg (dCall F__law_pool (dCons (dVar 0) (dCons (dVar 2) (dNil)))) (gNm 3)
def pc1 : DS := sAsg (dLst false (dCons (dCall F__law_take (dCons (dVar 3) (dCons (dBin powD (dC (.int 10)) (dC (.int 9))) (dNil)))) (dCons (dC .non) (dCons (dCall F__law_letters (dCons (dVar 3) (dCons (dC (.int 4)) (dNil)))) (dCons (dTup (dCons (dC (.str "a")) (dCons (dC (.int 3)) (dNil)))) (dCons (dLst false (dCons (dC (.int 1)) (dNil))) (dCons (dC (.bl true)) (dCons (dUn negD (dC (.int 1))) (dNil))))))))) (gNm 4)
def pc2 : DS := sAsg (dBin ixU (dVar 4) (dCall F__law_take (dCons (dVar 3) (dCons (dC (.int 7)) (dNil))))) (gNm 5)
def pc3 : DS := sAsg (dBin ixU (dVar 4) (dCall F__law_take (dCons (dVar 3) (dCons (dC (.int 7)) (dNil))))) (gNm 6)
def pc4 : DS := sAsg (dCall F__law_made (dCons (dVar 5) (dCons (dVar 6) (dNil)))) (gNm 7)
def pc5 : DS := sFor (iEnum (dCons (dVar 7) (dNil))) (gTup 2 (gCons (gNm 8) (gCons (gNm 9) (gNil)))) (l1_law)
def pc6 : DS := sIf (dTest (dBin neU (dCall reprU (dCons (dCall F__law_fields (dCons (dVar 7) (dNil))) (dNil))) (dCall reprU (dCons (dBin (addD false) (dBin (addD false) (dBin (mulD false) (dLst false (dCons (dVar 5) (dNil))) (dC (.int 7))) (dLst false (dCons (dVar 6) (dNil)))) (dBin (mulD false) (dLst false (dCons (dVar 5) (dNil))) (dC (.int 5)))) (dNil))))) (sRet (dC (.bl false))) (sPass)
def pc7 : DS := sIf (dTest (dBin neU (dCall reprU (dCons (dCall F__law_fields (dCons (dCall F__law_named (dCons (dVar 5) (dCons (dVar 6) (dNil)))) (dNil))) (dNil))) (dCall reprU (dCons (dCall F__law_fields (dCons (dVar 7) (dNil))) (dNil))))) (sRet (dC (.bl false))) (sPass)
theorem l2_law_eq : l2_law = sSeq pc0 (sSeq pc1 (sSeq pc2 (sSeq pc3 (sSeq pc4 (sSeq pc5 (sSeq pc6 (pc7))))))) := rfl
def pa0 : DS := sAsg (dBin (addD false) (dBin (addD false) (dBin (addD false) (dBin (addD false) (dBin (mulD false) (dLst false (dCons (dLst false (dCons (dC (.int 0)) (dNil))) (dNil))) (dC (.int 9))) (dLst false (dCons (dLst false (dCons (dC (.int 1)) (dCons (dC (.int 3)) (dNil)))) (dNil)))) (dBin (mulD false) (dLst false (dCons (dLst false (dCons (dC (.int 3)) (dNil))) (dNil))) (dC (.int 3)))) (dBin (mulD false) (dLst false (dCons (dLst false (dCons (dC (.int 4)) (dNil))) (dNil))) (dC (.int 2)))) (dBin (mulD false) (dLst false (dCons (dLst false (dCons (dC (.int 5)) (dNil))) (dNil))) (dC (.int 2)))) (gNm 1)
def pa1 : DS := sFor (iRg1 (dCons (dCall maxO (dCons (dC (.int 1)) (dCons (dCall minO (dCons (dCall lenU (dCons (dVar 0) (dNil))) (dCons (dC (.int 10)) (dNil)))) (dNil)))) (dNil))) (gNm 2) (l2_law)
def pa2 : DS := sRet (dC (.bl true))
theorem b_law_eq : b_law = sSeq pa0 (sSeq pa1 (pa2)) := rfl
def ow0 : DS := sAsg (dLst false (dCons (dIsE eTab "NoDeed" (dVar 0)) (dCons (dIsE eTab "NoText" (dVar 0)) (dCons (dIsE eTab "NoStates" (dVar 0)) (dNil))))) (gNm 1)
def ow1 : DS := sAsg (dBin (addD false) (dVar 1) (dLst false (dCons (dIsE eTab "NoPaper" (dVar 0)) (dCons (dIsE eTab "NoBegin" (dVar 0)) (dCons (dIsE eTab "NoRow" (dVar 0)) (dNil)))))) (gNm 1)
def ow2 : DS := sAsg (dBin (addD false) (dVar 1) (dLst false (dCons (dIsE eTab "NoHouse" (dVar 0)) (dCons (dIsE eTab "NoHouses" (dVar 0)) (dCons (dIsE eTab "Barred" (dVar 0)) (dNil)))))) (gNm 1)
def ow3 : DS := sAsg (dBin (addD false) (dVar 1) (dLst false (dCons (dIsE eTab "NoName" (dVar 0)) (dCons (dIsE eTab "NoState" (dVar 0)) (dCons (dIsE eTab "NoGoing" (dVar 0)) (dNil)))))) (gNm 1)
def ow4 : DS := sAsg (dBin (addD false) (dVar 1) (dLst false (dCons (dIsE eTab "NoHall" (dVar 0)) (dCons (dIsE eTab "Full" (dVar 0)) (dCons (dIsE eTab "TooMany" (dVar 0)) (dNil)))))) (gNm 1)
def ow5 : DS := sRet (dBin (addD false) (dVar 1) (dLst false (dCons (dIsE eTab "Twin" (dVar 0)) (dCons (dIsE eTab "Busy" (dVar 0)) (dNil)))))
theorem b__law_own_eq : b__law_own = sSeq ow0 (sSeq ow1 (sSeq ow2 (sSeq ow3 (sSeq ow4 (ow5))))) := rfl
def rt0 : DS := sAsg (dLst false (dCons (dIsB eTab "ValueError" (dVar 0)) (dCons (dIsB eTab "KeyError" (dVar 0)) (dCons (dIsB eTab "IndexError" (dVar 0)) (dNil))))) (gNm 1)
def rt1 : DS := sAsg (dBin (addD false) (dVar 1) (dLst false (dCons (dIsB eTab "LookupError" (dVar 0)) (dCons (dIsB eTab "OverflowError" (dVar 0)) (dCons (dIsB eTab "RuntimeError" (dVar 0)) (dNil)))))) (gNm 1)
def rt2 : DS := sRet (dLc false [2] (iRg1 (dCons (dC (.int 6)) (dNil))) (gNm 2) (dTru (dBin ixU (dVar 1) (dVar 2))) (dVar 2))
theorem b__law_roots_eq : b__law_roots = sSeq rt0 (sSeq rt1 (rt2)) := rfl
def fd0 : DS := sAsg (dLst false (dCons (dGetF eTab "part" (dBin ixU (dVar 0) (dC (.int 0)))) (dCons (dGetF eTab "part" (dBin ixU (dVar 0) (dC (.int 1)))) (dCons (dGetF eTab "number" (dBin ixU (dVar 0) (dC (.int 2)))) (dCons (dGetF eTab "number" (dBin ixU (dVar 0) (dC (.int 5)))) (dCons (dGetF eTab "house" (dBin ixU (dVar 0) (dC (.int 6)))) (dCons (dGetF eTab "number" (dBin ixU (dVar 0) (dC (.int 7)))) (dNil)))))))) (gNm 1)
def fd1 : DS := sAsg (dBin (addD false) (dVar 1) (dLst false (dCons (dGetF eTab "where" (dBin ixU (dVar 0) (dC (.int 8)))) (dCons (dGetF eTab "rule" (dBin ixU (dVar 0) (dC (.int 8)))) (dCons (dGetF eTab "name" (dBin ixU (dVar 0) (dC (.int 9)))) (dCons (dGetF eTab "name" (dBin ixU (dVar 0) (dC (.int 10)))) (dCons (dGetF eTab "name" (dBin ixU (dVar 0) (dC (.int 11)))) (dCons (dGetF eTab "many" (dBin ixU (dVar 0) (dC (.int 14)))) (dNil))))))))) (gNm 1)
def fd2 : DS := sRet (dBin (addD false) (dVar 1) (dLst false (dCons (dGetF eTab "name" (dBin ixU (dVar 0) (dC (.int 15)))) (dNil))))
theorem b__law_fields_eq : b__law_fields = sSeq fd0 (sSeq fd1 (fd2)) := rfl
def md0 : DS := sAsg (dLst false (dCons (dMk1 "NoDeed" "part" (dVar 0)) (dCons (dMk1 "NoText" "part" (dVar 0)) (dCons (dMk1 "NoStates" "number" (dVar 0)) (dCons (dMk0 "NoPaper") (dCons (dMk0 "NoBegin") (dCons (dMk1 "NoRow" "number" (dVar 0)) (dCons (dMk1 "NoHouse" "house" (dVar 0)) (dCons (dMk1 "NoHouses" "number" (dVar 0)) (dNil)))))))))) (gNm 2)
def md1 : DS := sAsg (dBin (addD false) (dVar 2) (dLst false (dCons (dMk2 "Barred" "where" "rule" (dVar 0) (dVar 1)) (dCons (dMk1 "NoName" "name" (dVar 0)) (dCons (dMk1 "NoState" "name" (dVar 0)) (dCons (dMk1 "NoGoing" "name" (dVar 0)) (dCons (dMk0 "NoHall") (dCons (dMk0 "Full") (dCons (dMk1 "TooMany" "many" (dVar 0)) (dNil)))))))))) (gNm 2)
def md2 : DS := sRet (dBin (addD false) (dVar 2) (dLst false (dCons (dMk1 "Twin" "name" (dVar 0)) (dCons (dMk0 "Busy") (dNil)))))
theorem b__law_made_eq : b__law_made = sSeq md0 (sSeq md1 (md2)) := rfl
def na0 : DS := sAsg (dLst false (dCons (dMk1 "NoDeed" "part" (dVar 0)) (dCons (dMk1 "NoText" "part" (dVar 0)) (dCons (dMk1 "NoStates" "number" (dVar 0)) (dCons (dC .non) (dCons (dC .non) (dCons (dMk1 "NoRow" "number" (dVar 0)) (dNil)))))))) (gNm 2)
def na1 : DS := sAsg (dBin (addD false) (dVar 2) (dLst false (dCons (dMk1 "NoHouse" "house" (dVar 0)) (dCons (dMk1 "NoHouses" "number" (dVar 0)) (dCons (dMk2S "Barred" "where" "rule" (dVar 1) (dVar 0)) (dCons (dMk1 "NoName" "name" (dVar 0)) (dNil))))))) (gNm 2)
def na2 : DS := sAsg (dBin (addD false) (dVar 2) (dLst false (dCons (dMk1 "NoState" "name" (dVar 0)) (dCons (dMk1 "NoGoing" "name" (dVar 0)) (dCons (dC .non) (dCons (dC .non) (dCons (dMk1 "TooMany" "many" (dVar 0)) (dNil)))))))) (gNm 2)
def na3 : DS := sRet (dBin (addD false) (dVar 2) (dLst false (dCons (dMk1 "Twin" "name" (dVar 0)) (dCons (dC .non) (dNil)))))
theorem b__law_named_eq : b__law_named = sSeq na0 (sSeq na1 (sSeq na2 (na3))) := rfl
def NMS : List Str := ["NoDeed", "NoText", "NoStates", "NoPaper", "NoBegin", "NoRow", "NoHouse", "NoHouses", "Barred", "NoName", "NoState", "NoGoing", "NoHall", "Full", "TooMany", "Twin", "Busy"]
def nmJ (j : Nat) : Str := NMS.getD j ""
def prJ (j : Nat) : Bs × List Str := (eTab (nmJ j)).getD (.ve, [])
def ownL (nm : Str) : List D := NMS.map fun n => D.bl (nm == n)
def idxL (j : Nat) : List D := (List.range 17).map fun i : Nat => D.bl (((j : Nat) : Int) == (0 + (i : Int)))
def RTS : List String := ["ValueError", "KeyError", "IndexError", "LookupError", "OverflowError", "RuntimeError"]
def rtB (b : Bs) (k : Nat) : Bool := (RTS.map fun t => b.mro.contains (.type t)).getD k false
def rtL (b : Bs) : List D := ((List.range 6).filter (rtB b)).map fun k : Nat => D.int (0 + (k : Int))
def DUE : List (List Int) := List.replicate 9 [0] ++ [[1, 3]] ++ List.replicate 3 [3] ++ List.replicate 2 [4] ++ List.replicate 2 [5]
def dueD (l : List Int) : D := .lst (l.map D.int)
/-- the table of the classes, by number -/
theorem tab_ok : ∀ j ∈ List.range 17, (eTab (nmJ j)).isSome = true ∧ eqD (.lst (ownL (nmJ j))) (.lst (idxL j)) = true ∧ pln (.lst (ownL (nmJ j))) = true ∧ pln (.lst (idxL j)) = true ∧ dep (.lst (ownL (nmJ j))) ≤ 60 ∧
    eqD (.lst (rtL (prJ j).1)) (dueD (DUE.getD j [])) = true ∧ pln (.lst (rtL (prJ j).1)) = true ∧ pln (dueD (DUE.getD j [])) = true ∧ dep (.lst (rtL (prJ j).1)) ≤ 60 := by decide +kernel
theorem et_j {j : Nat} (hj : j < 17) : eTab (nmJ j) = some ((prJ j).1, (prJ j).2) := by
  have := (tab_ok j (List.mem_range.mpr hj)).1
  unfold prJ
  cases e : eTab (nmJ j) with
  | none => rw [e] at this; cases this
  | some p => rfl
def madeL (one other : D) : List D := [.err "NoDeed" [(.inr "part", one)], .err "NoText" [(.inr "part", one)], .err "NoStates" [(.inr "number", one)], .err "NoPaper" [], .err "NoBegin" [], .err "NoRow" [(.inr "number", one)], .err "NoHouse" [(.inr "house", one)], .err "NoHouses" [(.inr "number", one)], .err "Barred" [(.inr "rule", other), (.inr "where", one)], .err "NoName" [(.inr "name", one)], .err "NoState" [(.inr "name", one)], .err "NoGoing" [(.inr "name", one)], .err "NoHall" [], .err "Full" [], .err "TooMany" [(.inr "many", one)], .err "Twin" [(.inr "name", one)], .err "Busy" []]
def namedL (one other : D) : List D := [.err "NoDeed" [(.inr "part", one)], .err "NoText" [(.inr "part", one)], .err "NoStates" [(.inr "number", one)], .non, .non, .err "NoRow" [(.inr "number", one)], .err "NoHouse" [(.inr "house", one)], .err "NoHouses" [(.inr "number", one)], .err "Barred" [(.inr "rule", other), (.inr "where", one)], .err "NoName" [(.inr "name", one)], .err "NoState" [(.inr "name", one)], .err "NoGoing" [(.inr "name", one)], .non, .non, .err "TooMany" [(.inr "many", one)], .err "Twin" [(.inr "name", one)], .non]
def madeK (one other : D) : List (List (L2.Key × D)) := [[(.inr "part", one)], [(.inr "part", one)], [(.inr "number", one)], [], [], [(.inr "number", one)], [(.inr "house", one)], [(.inr "number", one)], [(.inr "rule", other), (.inr "where", one)], [(.inr "name", one)], [(.inr "name", one)], [(.inr "name", one)], [], [], [(.inr "many", one)], [(.inr "name", one)], []]
theorem made_j (one other : D) : madeL one other = (List.range 17).map fun j => .err (nmJ j) ((madeK one other).getD j []) := rfl
def fldL (one other : D) : List D := [one, one, one, one, one, one, one, other, one, one, one, one, one]
section
variable {G : DH} {nm : Str} {kvs : List (L2.Key × D)} {b : Bs} {fl : List Str} {v1 : Option D}
theorem own_ok (h : eTab nm = some (b, fl)) : F__law_own [.err nm kvs] G = .ok (.lst (ownL nm)) G := by
  have big := big1000
  have s0 : (some (D.err nm kvs) :: List.replicate (2 - 1) none : DSl) = [some (.err nm kvs), none] := rfl
  have ie : ∀ (n : Str) (v1 : Option D), dIsE eTab n (dVar 0) [some (.err nm kvs), v1] G = .ok (.bl (nm == n)) G := fun n v1 => by
    unfold dIsE
    simp only [dVar_s, List.getElem?_cons_zero, bind_ok, h]
  have z2 : (2 : Nat) ≤ sizeLine := by omega
  have z3 : (3 : Nat) ≤ sizeLine := by omega
  have z6 : (6 : Nat) ≤ sizeLine := by omega
  have z9 : (9 : Nat) ≤ sizeLine := by omega
  have z12 : (12 : Nat) ≤ sizeLine := by omega
  have z15 : (15 : Nat) ≤ sizeLine := by omega
  have z17 : (17 : Nat) ≤ sizeLine := by omega
  rw [F__law_own, runF_1, b__law_own, s0]
  unfold ownL NMS
  generalize eTab = tb at *
  generalize Str.ofString "NoDeed" = u0 at *
  generalize Str.ofString "NoText" = u1 at *
  generalize Str.ofString "NoStates" = u2 at *
  generalize Str.ofString "NoPaper" = u3 at *
  generalize Str.ofString "NoBegin" = u4 at *
  generalize Str.ofString "NoRow" = u5 at *
  generalize Str.ofString "NoHouse" = u6 at *
  generalize Str.ofString "NoHouses" = u7 at *
  generalize Str.ofString "Barred" = u8 at *
  generalize Str.ofString "NoName" = u9 at *
  generalize Str.ofString "NoState" = u10 at *
  generalize Str.ofString "NoGoing" = u11 at *
  generalize Str.ofString "NoHall" = u12 at *
  generalize Str.ofString "Full" = u13 at *
  generalize Str.ofString "TooMany" = u14 at *
  generalize Str.ofString "Twin" = u15 at *
  generalize Str.ofString "Busy" = u16 at *
  simp only [sSeq_s, sAsg_s, sIf_s, sRet_s, sPass_s, sDrop_s, sFor_s, dTest_s, dCall_s, dCons_s, dNil_s, dVar_s, dC_s, dBin_s, dUn_s, dTup_s, dTupK_s, dLst_s, dMt_s, dMtD_s, dIf_s, dTru_s, tAndD_s, tOrD_s, tNotD_s, bind_ok, sBind_nx, sBind_rt, finR_rt, gNm_s, gSt_s, List.getElem?_cons_succ, List.getElem?_cons_zero, List.set_cons_succ, List.set_cons_zero, List.length_cons, List.length_nil, Nat.zero_add, Nat.reduceAdd, mkL_v, mkL_o, addD_ii, addD_ss, subD_ii, negD_i, gtD_ii, ltD_ii, leD_ii, geD_ii, intO_b, Bool.false_eq_true, if_false, if_true, ie, if_pos z2, if_pos z3, addD_lst_lst, lstM, List.cons_append, List.nil_append, if_pos z6, if_pos z9, if_pos z12, if_pos z15, if_pos z17, List.map_cons, List.map_nil]
theorem roots_ok (h : eTab nm = some (b, fl)) : F__law_roots [.err nm kvs] G = .ok (.lst (rtL b)) G := by
  have big := big1000
  have s0 : (some (D.err nm kvs) :: List.replicate (3 - 1) none : DSl) = [some (.err nm kvs), none, none] := rfl
  have ie : ∀ (t : String) (v1 v2 : Option D), dIsB eTab t (dVar 0) [some (.err nm kvs), v1, v2] G = .ok (.bl (b.mro.contains (.type t))) G := fun t v1 v2 => by
    unfold dIsB
    simp only [dVar_s, List.getElem?_cons_zero, bind_ok, h]
  have z3 : (3 : Nat) ≤ sizeLine := by omega
  have z6 : (6 : Nat) ≤ sizeLine := by omega
  have k0 : sSeq rt0 (sSeq rt1 rt2) [some (.err nm kvs), none, none] G = rt2 [some (.err nm kvs), some (.lst (RTS.map fun t => D.bl (b.mro.contains (.type t)))), none] G := by
    have e : (RTS.map fun t => D.bl (b.mro.contains (.type t))) = [D.bl (b.mro.contains (.type "ValueError")), .bl (b.mro.contains (.type "KeyError")), .bl (b.mro.contains (.type "IndexError")), .bl (b.mro.contains (.type "LookupError")), .bl (b.mro.contains (.type "OverflowError")), .bl (b.mro.contains (.type "RuntimeError"))] := rfl
    rw [e]
    unfold rt0 rt1
    generalize eTab = tb at *
    generalize rt2 = r2 at *
    simp only [sSeq_s, sAsg_s, sIf_s, sRet_s, sPass_s, sDrop_s, sFor_s, dTest_s, dCall_s, dCons_s, dNil_s, dVar_s, dC_s, dBin_s, dUn_s, dTup_s, dTupK_s, dLst_s, dMt_s, dMtD_s, dIf_s, dTru_s, tAndD_s, tOrD_s, tNotD_s, bind_ok, sBind_nx, sBind_rt, finR_rt, gNm_s, gSt_s, List.getElem?_cons_succ, List.getElem?_cons_zero, List.set_cons_succ, List.set_cons_zero, List.length_cons, List.length_nil, Nat.zero_add, Nat.reduceAdd, mkL_v, mkL_o, addD_ii, addD_ss, subD_ii, negD_i, gtD_ii, ltD_ii, leD_ii, geD_ii, intO_b, Bool.false_eq_true, if_false, if_true, ie, if_pos z3, addD_lst_lst, lstM, List.cons_append, List.nil_append, if_pos z6]
  rw [F__law_roots, runF_1, b__law_roots_eq, s0, k0]
  have ir : ∀ s, iRg1 (dCons (dC (.int 6)) dNil) s G = .ok (rngD 0 6) G := fun s => iRg1_nat (m := 6) (by simp) (by omega)
  have lc := lcL_pure (g := gNm 2) (tt := dTru (dBin ixU (dVar 1) (dVar 2))) (te := dVar 2) (s0 := [some (.err nm kvs), some (.lst (RTS.map fun t => D.bl (b.mro.contains (.type t)))), none]) (G := G) (fun k : Nat => D.int (0 + (k : Int))) (rtB b) (fun k : Nat => D.int (0 + (k : Int))) (List.range 6) [] (fun k hk => ⟨[some (.err nm kvs), some (.lst (RTS.map fun t => D.bl (b.mro.contains (.type t)))), some (.int (0 + (k : Int)))], rfl, by
    have hk := List.mem_range.mp hk
    have at_ : L2.atI (RTS.map fun t => D.bl (b.mro.contains (.type t))) (0 + (k : Int)) = some (.bl (rtB b k)) := by
      rcases (show k = 0 ∨ k = 1 ∨ k = 2 ∨ k = 3 ∨ k = 4 ∨ k = 5 by omega) with rfl | rfl | rfl | rfl | rfl | rfl <;> rfl
    generalize (RTS.map fun t => D.bl (b.mro.contains (.type t))) = ls at *
    simp only [dTru_s, dBin_s, dVar_s, List.getElem?_cons_succ, List.getElem?_cons_zero, bind_ok, ixU_lst, at_, truD_bl], fun _ => rfl⟩) (by rw [List.length_range]; show 0 + 6 ≤ _; omega)
  rw [List.nil_append] at lc
  unfold rt2
  have w : wipeD [some (D.err nm kvs), some (.lst (RTS.map fun t => D.bl (b.mro.contains (.type t)))), none] [2] = [some (.err nm kvs), some (.lst (RTS.map fun t => D.bl (b.mro.contains (.type t)))), none] := rfl
  rw [sRet_s, dLc_s, ir, bind_ok, w]
  unfold rngD
  rw [lc, bind_ok, mkL_v, bind_ok, finR_rt]
  rfl
end
end K04
end
/-! ==== K04Q ==== -/
section
set_option Elab.async false
set_option linter.all false
set_option autoImplicit false
set_option maxRecDepth 100000
set_option maxHeartbeats 4000000
/-! k04: the law. -/
namespace K04
open PySem DL DF
namespace E
theorem et_NoDeed : eTab "NoDeed" = some (Bs.ve, (["part"] : List Str)) := by decide +kernel
theorem et_NoText : eTab "NoText" = some (Bs.ve, (["part"] : List Str)) := by decide +kernel
theorem et_NoStates : eTab "NoStates" = some (Bs.ve, (["number"] : List Str)) := by decide +kernel
theorem et_NoRow : eTab "NoRow" = some (Bs.ve, (["number"] : List Str)) := by decide +kernel
theorem et_NoHouse : eTab "NoHouse" = some (Bs.ve, (["house"] : List Str)) := by decide +kernel
theorem et_NoHouses : eTab "NoHouses" = some (Bs.ve, (["number"] : List Str)) := by decide +kernel
theorem et_Barred : eTab "Barred" = some (Bs.ve, (["where", "rule"] : List Str)) := by decide +kernel
theorem et_NoName : eTab "NoName" = some (Bs.ke, (["name"] : List Str)) := by decide +kernel
theorem et_NoState : eTab "NoState" = some (Bs.le, (["name"] : List Str)) := by decide +kernel
theorem et_NoGoing : eTab "NoGoing" = some (Bs.le, (["name"] : List Str)) := by decide +kernel
theorem et_TooMany : eTab "TooMany" = some (Bs.oe, (["many"] : List Str)) := by decide +kernel
theorem et_Twin : eTab "Twin" = some (Bs.re, (["name"] : List Str)) := by decide +kernel
end E
section
variable {G : DH} {n : Nat} {one other : D} {v0 v1 v2 v3 v4 v5 v6 v7 v8 v9 v10 : Option D}
theorem lkF {n : Str} {x : D} {r : List (L2.Key × D)} : lookF n ((.inr n, x) :: r) = some x := by
  unfold lookF
  rw [if_pos rfl]
theorem wr_ne : ("rule" : Str) ≠ "where" := by decide +kernel
theorem lkW {x y : D} : lookF "where" [(.inr "rule", y), (.inr "where", x)] = some x := by
  unfold lookF
  rw [if_neg wr_ne]
  exact lkF
theorem gf {L : List D} {v1 : Option D} {i : Nat} {nm n : Str} {b : Bs} {fl : List Str} {kvs : List (L2.Key × D)} {x : D} (hL : L[i]? = some (.err nm kvs)) (ht : eTab nm = some (b, fl)) (hn : n ∈ fl) (hx : lookF n kvs = some x) :
    dGetF eTab n (dBin ixU (dVar 0) (dC (.int (i : Int)))) [some (.lst L), v1] G = .ok x G := by
  have at_ : L2.atI L (i : Int) = some (.err nm kvs) := by
    have hl := (List.getElem?_eq_some_iff.mp hL).1
    unfold L2.atI L2.ixN
    rw [if_pos (by omega), if_pos (by omega)]
    simpa using hL
  unfold dGetF
  simp only [dBin_s, dVar_s, dC_s, List.getElem?_cons_zero, bind_ok, ixU_lst, at_, ht, hx]
  rw [if_pos hn]
theorem fields_ok {L : List D} (h0 : L[0]? = some (.err "NoDeed" [(.inr "part", one)])) (h1 : L[1]? = some (.err "NoText" [(.inr "part", one)])) (h2 : L[2]? = some (.err "NoStates" [(.inr "number", one)])) (h5 : L[5]? = some (.err "NoRow" [(.inr "number", one)])) (h6 : L[6]? = some (.err "NoHouse" [(.inr "house", one)])) (h7 : L[7]? = some (.err "NoHouses" [(.inr "number", one)])) (h8 : L[8]? = some (.err "Barred" [(.inr "rule", other), (.inr "where", one)])) (h9 : L[9]? = some (.err "NoName" [(.inr "name", one)])) (h10 : L[10]? = some (.err "NoState" [(.inr "name", one)])) (h11 : L[11]? = some (.err "NoGoing" [(.inr "name", one)])) (h14 : L[14]? = some (.err "TooMany" [(.inr "many", one)])) (h15 : L[15]? = some (.err "Twin" [(.inr "name", one)])) :
    F__law_fields [.lst L] G = .ok (.lst (fldL one other)) G := by
  have big := big1000
  have s0 : (some (D.lst L) :: List.replicate (2 - 1) none : DSl) = [some (.lst L), none] := rfl
  have et0 : eTab "NoDeed" = some (Bs.ve, (["part"] : List Str)) := E.et_NoDeed
  have et1 : eTab "NoText" = some (Bs.ve, (["part"] : List Str)) := E.et_NoText
  have et2 : eTab "NoStates" = some (Bs.ve, (["number"] : List Str)) := E.et_NoStates
  have et5 : eTab "NoRow" = some (Bs.ve, (["number"] : List Str)) := E.et_NoRow
  have et6 : eTab "NoHouse" = some (Bs.ve, (["house"] : List Str)) := E.et_NoHouse
  have et7 : eTab "NoHouses" = some (Bs.ve, (["number"] : List Str)) := E.et_NoHouses
  have et8 : eTab "Barred" = some (Bs.ve, (["where", "rule"] : List Str)) := E.et_Barred
  have et9 : eTab "NoName" = some (Bs.ke, (["name"] : List Str)) := E.et_NoName
  have et10 : eTab "NoState" = some (Bs.le, (["name"] : List Str)) := E.et_NoState
  have et11 : eTab "NoGoing" = some (Bs.le, (["name"] : List Str)) := E.et_NoGoing
  have et14 : eTab "TooMany" = some (Bs.oe, (["many"] : List Str)) := E.et_TooMany
  have et15 : eTab "Twin" = some (Bs.re, (["name"] : List Str)) := E.et_Twin
  have g0 : ∀ v1, dGetF eTab "part" (dBin ixU (dVar 0) (dC (.int 0))) [some (.lst L), v1] G = .ok one G := fun v1 => gf (i := 0) (nm := "NoDeed") h0 et0 (by simp) lkF
  have g1 : ∀ v1, dGetF eTab "part" (dBin ixU (dVar 0) (dC (.int 1))) [some (.lst L), v1] G = .ok one G := fun v1 => gf (i := 1) (nm := "NoText") h1 et1 (by simp) lkF
  have g2 : ∀ v1, dGetF eTab "number" (dBin ixU (dVar 0) (dC (.int 2))) [some (.lst L), v1] G = .ok one G := fun v1 => gf (i := 2) (nm := "NoStates") h2 et2 (by simp) lkF
  have g3 : ∀ v1, dGetF eTab "number" (dBin ixU (dVar 0) (dC (.int 5))) [some (.lst L), v1] G = .ok one G := fun v1 => gf (i := 5) (nm := "NoRow") h5 et5 (by simp) lkF
  have g4 : ∀ v1, dGetF eTab "house" (dBin ixU (dVar 0) (dC (.int 6))) [some (.lst L), v1] G = .ok one G := fun v1 => gf (i := 6) (nm := "NoHouse") h6 et6 (by simp) lkF
  have g5 : ∀ v1, dGetF eTab "number" (dBin ixU (dVar 0) (dC (.int 7))) [some (.lst L), v1] G = .ok one G := fun v1 => gf (i := 7) (nm := "NoHouses") h7 et7 (by simp) lkF
  have g6 : ∀ v1, dGetF eTab "where" (dBin ixU (dVar 0) (dC (.int 8))) [some (.lst L), v1] G = .ok one G := fun v1 => gf (i := 8) (nm := "Barred") h8 et8 (by simp) lkW
  have g7 : ∀ v1, dGetF eTab "rule" (dBin ixU (dVar 0) (dC (.int 8))) [some (.lst L), v1] G = .ok other G := fun v1 => gf (i := 8) (nm := "Barred") h8 et8 (by simp) lkF
  have g8 : ∀ v1, dGetF eTab "name" (dBin ixU (dVar 0) (dC (.int 9))) [some (.lst L), v1] G = .ok one G := fun v1 => gf (i := 9) (nm := "NoName") h9 et9 (by simp) lkF
  have g9 : ∀ v1, dGetF eTab "name" (dBin ixU (dVar 0) (dC (.int 10))) [some (.lst L), v1] G = .ok one G := fun v1 => gf (i := 10) (nm := "NoState") h10 et10 (by simp) lkF
  have g10 : ∀ v1, dGetF eTab "name" (dBin ixU (dVar 0) (dC (.int 11))) [some (.lst L), v1] G = .ok one G := fun v1 => gf (i := 11) (nm := "NoGoing") h11 et11 (by simp) lkF
  have g11 : ∀ v1, dGetF eTab "many" (dBin ixU (dVar 0) (dC (.int 14))) [some (.lst L), v1] G = .ok one G := fun v1 => gf (i := 14) (nm := "TooMany") h14 et14 (by simp) lkF
  have g12 : ∀ v1, dGetF eTab "name" (dBin ixU (dVar 0) (dC (.int 15))) [some (.lst L), v1] G = .ok one G := fun v1 => gf (i := 15) (nm := "Twin") h15 et15 (by simp) lkF
  have z1 : (1 : Nat) ≤ sizeLine := by omega
  have z6 : (6 : Nat) ≤ sizeLine := by omega
  have z12 : (12 : Nat) ≤ sizeLine := by omega
  have z13 : (13 : Nat) ≤ sizeLine := by omega
  rw [F__law_fields, runF_1, b__law_fields, s0]
  unfold fldL
  generalize eTab = tb at *
  generalize Str.ofString "part" = w0 at *
  generalize Str.ofString "number" = w1 at *
  generalize Str.ofString "house" = w2 at *
  generalize Str.ofString "where" = w3 at *
  generalize Str.ofString "rule" = w4 at *
  generalize Str.ofString "name" = w5 at *
  generalize Str.ofString "many" = w6 at *
  simp only [sSeq_s, sAsg_s, sIf_s, sRet_s, sPass_s, sDrop_s, sFor_s, dTest_s, dCall_s, dCons_s, dNil_s, dVar_s, dC_s, dBin_s, dUn_s, dTup_s, dTupK_s, dLst_s, dMt_s, dMtD_s, dIf_s, dTru_s, tAndD_s, tOrD_s, tNotD_s, bind_ok, sBind_nx, sBind_rt, finR_rt, gNm_s, gSt_s, List.getElem?_cons_succ, List.getElem?_cons_zero, List.set_cons_succ, List.set_cons_zero, List.length_cons, List.length_nil, Nat.zero_add, Nat.reduceAdd, mkL_v, mkL_o, addD_ii, addD_ss, subD_ii, negD_i, gtD_ii, ltD_ii, leD_ii, geD_ii, intO_b, Bool.false_eq_true, if_false, if_true, g0, g1, g2, g3, g4, g5, g6, g7, g8, g9, g10, g11, g12, if_pos z1, if_pos z6, addD_lst_lst, lstM, List.cons_append, List.nil_append, if_pos z12, if_pos z13]
theorem made_fields (one other : D) : F__law_fields [.lst (madeL one other)] G = .ok (.lst (fldL one other)) G := fields_ok rfl rfl rfl rfl rfl rfl rfl rfl rfl rfl rfl rfl
theorem named_fields (one other : D) : F__law_fields [.lst (namedL one other)] G = .ok (.lst (fldL one other)) G := fields_ok rfl rfl rfl rfl rfl rfl rfl rfl rfl rfl rfl rfl
theorem made_ok (one other : D) : F__law_made [one, other] G = .ok (.lst (madeL one other)) G := by
  have big := big1000
  have s0 : (some one :: some other :: List.replicate (3 - 2) none : DSl) = [some one, some other, none] := rfl
  have z2 : (2 : Nat) ≤ sizeLine := by omega
  have z8 : (8 : Nat) ≤ sizeLine := by omega
  have z7 : (7 : Nat) ≤ sizeLine := by omega
  have z15 : (15 : Nat) ≤ sizeLine := by omega
  have z17 : (17 : Nat) ≤ sizeLine := by omega
  rw [F__law_made, runF_2, b__law_made, s0]
  unfold madeL
  generalize Str.ofString "NoDeed" = u0 at *
  generalize Str.ofString "NoText" = u1 at *
  generalize Str.ofString "NoStates" = u2 at *
  generalize Str.ofString "NoPaper" = u3 at *
  generalize Str.ofString "NoBegin" = u4 at *
  generalize Str.ofString "NoRow" = u5 at *
  generalize Str.ofString "NoHouse" = u6 at *
  generalize Str.ofString "NoHouses" = u7 at *
  generalize Str.ofString "Barred" = u8 at *
  generalize Str.ofString "NoName" = u9 at *
  generalize Str.ofString "NoState" = u10 at *
  generalize Str.ofString "NoGoing" = u11 at *
  generalize Str.ofString "NoHall" = u12 at *
  generalize Str.ofString "Full" = u13 at *
  generalize Str.ofString "TooMany" = u14 at *
  generalize Str.ofString "Twin" = u15 at *
  generalize Str.ofString "Busy" = u16 at *
  generalize Str.ofString "part" = w0 at *
  generalize Str.ofString "number" = w1 at *
  generalize Str.ofString "house" = w2 at *
  generalize Str.ofString "where" = w3 at *
  generalize Str.ofString "rule" = w4 at *
  generalize Str.ofString "name" = w5 at *
  generalize Str.ofString "many" = w6 at *
  simp only [sSeq_s, sAsg_s, sIf_s, sRet_s, sPass_s, sDrop_s, sFor_s, dTest_s, dCall_s, dCons_s, dNil_s, dVar_s, dC_s, dBin_s, dUn_s, dTup_s, dTupK_s, dLst_s, dMt_s, dMtD_s, dIf_s, dTru_s, tAndD_s, tOrD_s, tNotD_s, bind_ok, sBind_nx, sBind_rt, finR_rt, gNm_s, gSt_s, List.getElem?_cons_succ, List.getElem?_cons_zero, List.set_cons_succ, List.set_cons_zero, List.length_cons, List.length_nil, Nat.zero_add, Nat.reduceAdd, mkL_v, mkL_o, addD_ii, addD_ss, subD_ii, negD_i, gtD_ii, ltD_ii, leD_ii, geD_ii, intO_b, Bool.false_eq_true, if_false, if_true, dMk0_s, dMk1_s, dMk2_s, dMk2S_s, if_pos z2, if_pos z8, if_pos z7, addD_lst_lst, lstM, List.cons_append, List.nil_append, if_pos z15, if_pos z17]
theorem named_ok (one other : D) : F__law_named [one, other] G = .ok (.lst (namedL one other)) G := by
  have big := big1000
  have s0 : (some one :: some other :: List.replicate (3 - 2) none : DSl) = [some one, some other, none] := rfl
  have z2 : (2 : Nat) ≤ sizeLine := by omega
  have z4 : (4 : Nat) ≤ sizeLine := by omega
  have z5 : (5 : Nat) ≤ sizeLine := by omega
  have z6 : (6 : Nat) ≤ sizeLine := by omega
  have z10 : (10 : Nat) ≤ sizeLine := by omega
  have z15 : (15 : Nat) ≤ sizeLine := by omega
  have z17 : (17 : Nat) ≤ sizeLine := by omega
  rw [F__law_named, runF_2, b__law_named, s0]
  unfold namedL
  generalize Str.ofString "NoDeed" = u0 at *
  generalize Str.ofString "NoText" = u1 at *
  generalize Str.ofString "NoStates" = u2 at *
  generalize Str.ofString "NoPaper" = u3 at *
  generalize Str.ofString "NoBegin" = u4 at *
  generalize Str.ofString "NoRow" = u5 at *
  generalize Str.ofString "NoHouse" = u6 at *
  generalize Str.ofString "NoHouses" = u7 at *
  generalize Str.ofString "Barred" = u8 at *
  generalize Str.ofString "NoName" = u9 at *
  generalize Str.ofString "NoState" = u10 at *
  generalize Str.ofString "NoGoing" = u11 at *
  generalize Str.ofString "NoHall" = u12 at *
  generalize Str.ofString "Full" = u13 at *
  generalize Str.ofString "TooMany" = u14 at *
  generalize Str.ofString "Twin" = u15 at *
  generalize Str.ofString "Busy" = u16 at *
  generalize Str.ofString "part" = w0 at *
  generalize Str.ofString "number" = w1 at *
  generalize Str.ofString "house" = w2 at *
  generalize Str.ofString "where" = w3 at *
  generalize Str.ofString "rule" = w4 at *
  generalize Str.ofString "name" = w5 at *
  generalize Str.ofString "many" = w6 at *
  simp only [sSeq_s, sAsg_s, sIf_s, sRet_s, sPass_s, sDrop_s, sFor_s, dTest_s, dCall_s, dCons_s, dNil_s, dVar_s, dC_s, dBin_s, dUn_s, dTup_s, dTupK_s, dLst_s, dMt_s, dMtD_s, dIf_s, dTru_s, tAndD_s, tOrD_s, tNotD_s, bind_ok, sBind_nx, sBind_rt, finR_rt, gNm_s, gSt_s, List.getElem?_cons_succ, List.getElem?_cons_zero, List.set_cons_succ, List.set_cons_zero, List.length_cons, List.length_nil, Nat.zero_add, Nat.reduceAdd, mkL_v, mkL_o, addD_ii, addD_ss, subD_ii, negD_i, gtD_ii, ltD_ii, leD_ii, geD_ii, intO_b, Bool.false_eq_true, if_false, if_true, dMk0_s, dMk1_s, dMk2_s, dMk2S_s, if_pos z2, if_pos z4, if_pos z5, if_pos z6, addD_lst_lst, lstM, List.cons_append, List.nil_append, if_pos z10, if_pos z15, if_pos z17]
/-! one error -/
theorem err_s {j : Nat} {kvs : List (L2.Key × D)} (hj : j < 17) : l1_law [v0, some (.lst (DUE.map dueD)), v2, v3, v4, v5, v6, v7, some (.int (j : Nat)), some (.err (nmJ j) kvs), v10] G = .ok (.nx, [v0, some (.lst (DUE.map dueD)), v2, v3, v4, v5, v6, v7, some (.int (j : Nat)), some (.err (nmJ j) kvs), v10]) G := by
  have big := big1000
  obtain ⟨_, t2, t3, t4, t5, t6, t7, t8, t9⟩ := tab_ok j (List.mem_range.mpr hj)
  have et := et_j hj
  have o1 := own_ok (G := G) (kvs := kvs) et
  have o2 := roots_ok (G := G) (kvs := kvs) et
  have ir : ∀ s, iRg1 (dCons (dC (.int 17)) dNil) s G = .ok (rngD 0 17) G := fun s => iRg1_nat (m := 17) (by simp) (by omega)
  have n1 : neU (.lst (ownL (nmJ j))) (.lst (idxL j)) G = .ok (.bl false) G := by
    rw [neU_pln (x := .lst (ownL (nmJ j))) (y := .lst (idxL j)) (G := G) rfl rfl ⟨t3, t4, t5⟩]
    show R.ok (D.bl (!eqD (.lst (ownL (nmJ j))) (.lst (idxL j)))) G = _
    rw [t2]; rfl
  have n2 : neU (.lst (rtL (prJ j).1)) (dueD (DUE.getD j [])) G = .ok (.bl false) G := by
    rw [neU_pln (x := .lst (rtL (prJ j).1)) (y := dueD (DUE.getD j [])) (G := G) rfl rfl ⟨t7, t8, t9⟩]
    show R.ok (D.bl (!eqD (.lst (rtL (prJ j).1)) (dueD (DUE.getD j [])))) G = _
    rw [t6]; rfl
  have i1 : L2.atI (DUE.map dueD) ((j : Nat) : Int) = some (dueD (DUE.getD j [])) := by
    have hl : j < (DUE.map dueD).length := hj
    unfold L2.atI L2.ixN
    rw [if_pos (by omega), if_pos (by omega)]
    have e : (DUE.map dueD)[j]? = some (dueD (DUE.getD j [])) := by
      rw [List.getElem?_map]
      have hd : j < DUE.length := hj
      rw [List.getD_eq_getElem?_getD, List.getElem?_eq_getElem hd]
      rfl
    simpa using e
  have lc := lcL_map (g := gNm 10) (te := dBin eqU (dVar 8) (dVar 10)) (s0 := [v0, some (.lst (DUE.map dueD)), v2, v3, v4, v5, v6, v7, some (.int (j : Nat)), some (.err (nmJ j) kvs), none]) (G := G) (fun i : Nat => D.int (0 + (i : Int))) (fun i : Nat => D.bl (((j : Nat) : Int) == (0 + (i : Int)))) (List.range 17) [] (fun i _ => ⟨[v0, some (.lst (DUE.map dueD)), v2, v3, v4, v5, v6, v7, some (.int (j : Nat)), some (.err (nmJ j) kvs), some (.int (0 + (i : Int)))], rfl, by
    generalize D.lst (DUE.map dueD) = du at *
    simp only [dBin_s, dVar_s, List.getElem?_cons_succ, List.getElem?_cons_zero, bind_ok, eqU_ii]⟩) (by rw [List.length_range]; show 0 + 17 ≤ _; omega)
  rw [List.nil_append] at lc
  have w : wipeD [v0, some (.lst (DUE.map dueD)), v2, v3, v4, v5, v6, v7, some (.int (j : Nat)), some (.err (nmJ j) kvs), v10] [10] = [v0, some (.lst (DUE.map dueD)), v2, v3, v4, v5, v6, v7, some (.int (j : Nat)), some (.err (nmJ j) kvs), none] := rfl
  have dl : dLc false [10] (iRg1 (dCons (dC (.int 17)) (dNil))) (gNm 10) (dYes) (dBin eqU (dVar 8) (dVar 10)) [v0, some (.lst (DUE.map dueD)), v2, v3, v4, v5, v6, v7, some (.int (j : Nat)), some (.err (nmJ j) kvs), v10] G = .ok (.lst (idxL j)) G := by
    rw [dLc_s, ir, bind_ok, w]
    unfold rngD
    rw [lc, bind_ok, mkL_v]
    rfl
  unfold l1_law
  generalize dLc false [10] (iRg1 (dCons (dC (.int 17)) (dNil))) (gNm 10) (dYes) (dBin eqU (dVar 8) (dVar 10)) = ex at *
  generalize idxL j = il at *
  generalize ownL (nmJ j) = ol at *
  generalize rtL (prJ j).1 = rl at *
  generalize dueD (DUE.getD j []) = dj at *
  generalize DUE.map dueD = du at *
  simp only [sSeq_s, sAsg_s, sIf_s, sRet_s, sPass_s, sDrop_s, sFor_s, dTest_s, dCall_s, dCons_s, dNil_s, dVar_s, dC_s, dBin_s, dUn_s, dTup_s, dTupK_s, dLst_s, dMt_s, dMtD_s, dIf_s, dTru_s, tAndD_s, tOrD_s, tNotD_s, bind_ok, sBind_nx, sBind_rt, finR_rt, gNm_s, gSt_s, List.getElem?_cons_succ, List.getElem?_cons_zero, List.set_cons_succ, List.set_cons_zero, List.length_cons, List.length_nil, Nat.zero_add, Nat.reduceAdd, mkL_v, mkL_o, addD_ii, addD_ss, subD_ii, negD_i, gtD_ii, ltD_ii, leD_ii, geD_ii, intO_b, Bool.false_eq_true, if_false, if_true, o1, dl, n1, truD_bl, o2, ixU_lst, i1, n2]
/-! things that are shown -/
structure Sv (d : D) : Prop where
  p : pln d = true
  s : (toP d).showable = true
  l : (toP d).leavesShort 13 = true
  h : (toP d).depth ≤ 2
  m : (toP d).bulk ≤ 200
structure SvL (ds : List D) : Prop where
  p : plnL ds = true
  s : PyData.showableAll (toPL ds) = true
  l : PyData.leavesShortAll 13 (toPL ds) = true
  h : PyData.depthAll (toPL ds) ≤ 2
  m : PyData.bulkAll (toPL ds) ≤ ds.length * 201
theorem SvL.of : ∀ {ds : List D}, (∀ d ∈ ds, Sv d) → SvL ds
  | [], _ => ⟨rfl, by rw [toPL]; rfl, by rw [toPL]; rfl, by rw [toPL]; exact Nat.zero_le _, by rw [toPL]; exact Nat.zero_le _⟩
  | d :: ds, h => by
    have a := h d List.mem_cons_self
    have t := SvL.of fun x hx => h x (List.mem_cons_of_mem _ hx)
    refine ⟨by simp only [plnL, a.p, t.p, Bool.and_self], ?_, ?_, ?_, ?_⟩
    · rw [toPL]; simp only [PyData.showableAll, a.s, t.s, Bool.and_self]
    · rw [toPL]; simp only [PyData.leavesShortAll, a.l, t.l, Bool.and_self]
    · have := a.h; have := t.h; rw [toPL]; simp only [PyData.depthAll]; omega
    · have := a.m; have := t.m; rw [toPL]; simp only [PyData.bulkAll, List.length_cons, Nat.succ_mul]; omega
theorem repr_ok {ds : List D} (hl : ds.length ≤ 100) (h : ∀ d ∈ ds, Sv d) : ∃ s : Str, ∀ G, reprU [.lst ds] G = .ok (.str s) G := by
  have t := SvL.of h
  have z1 := t.h
  have z2 := t.m
  refine ⟨(PyData.list (toPL ds)).shown, fun G => ?_⟩
  have et : toP (.lst ds) = .list (toPL ds) := by rw [toP]
  have e : reprU [.lst ds] G = reprO [.lst ds] G := rfl
  have ed : der G (.lst ds) = .lst ds := rfl
  rw [e]
  unfold reprO
  simp only [ed, et]
  rw [if_pos]
  have szl := sizeLine_eq
  refine ⟨rfl, by rw [pln]; exact t.p, t.s, by simp only [PyData.depth]; omega, PyData.shown_fits_bulk (B := 13) (by decide) (by decide) t.l ?_⟩
  have : (2 : Nat) ^ 20 = 1048576 := by decide
  simp only [PyData.bulk]
  omega
theorem sv_int {i : Int} (h0 : 0 ≤ i) (h1 : i < 1000000000) : Sv (.int i) := by
  obtain ⟨m, rfl⟩ := Int.eq_ofNat_of_zero_le h0
  refine ⟨rfl, ?_, ?_, by rw [toP]; exact Nat.zero_le _, by rw [toP]; exact Nat.zero_le _⟩
  · rw [toP]; simp only [PyData.showable, decide_eq_true_eq]
    have : ((m : Nat) : Int).natAbs < 2 ^ 64 := by omega
    exact Nat.lt_trans (PySem.Flt.log2_lt_of (by decide) this) (by decide)
  · rw [toP]; simp only [PyData.leavesShort, decide_eq_true_eq]
    show (Str.ofString (toString ((m : Nat) : Int))).length ≤ 13
    rw [TL.len_tl, TL.tl_num m]
    exact Nat.le_trans (TL.numL_len (k := 9) (by decide) (by omega)) (by decide)
theorem sv_fix : (∀ d ∈ ([.non, .tup [.str "a", .int 3], .lst [.int 1], .bl true, .int (-1)] : List D), pln d = true ∧ (toP d).showable = true ∧ (toP d).leavesShort 13 = true ∧ (toP d).depth ≤ 2 ∧ (toP d).bulk ≤ 200) := by decide +kernel
theorem LET_lt : ∀ c ∈ LET, c < 16 ^ 8 := by decide +kernel
theorem sv_str {x : Str} (h : x.length = 4) (hl : ∀ c ∈ x.cps.toList, c ∈ LET) : Sv (.str x) := by
  refine ⟨rfl, by rw [toP]; rfl, ?_, by rw [toP]; exact Nat.zero_le _, by rw [toP]; show x.length ≤ 200; omega⟩
  rw [toP]
  simp only [PyData.leavesShort, List.all_eq_true, decide_eq_true_eq]
  exact fun c hc => LET_lt c (hl c hc)
theorem dues_ok : pa0 [v0, v1, v2, v3, v4, v5, v6, v7, v8, v9, v10] G = .ok (.nx, [v0, some (.lst (DUE.map dueD)), v2, v3, v4, v5, v6, v7, v8, v9, v10]) G := by
  have big := big1000
  have m1 : ∀ (x : D) (k : Int) (h0 : 0 ≤ k) (h : k ≤ 100), mulD false (.lst [x]) (.int k) G = .ok (.lst (List.replicate k.toNat [x]).flatten) G := fun x k h0 h => by
    rw [mulD_lst]
    show (if _ then mkL false _ G else _) = _
    rw [if_pos ⟨by omega, by omega, by show 1 * k.toNat ≤ _; omega⟩, mkL_v]
  have ad : ∀ (a b : List D), a.length + b.length ≤ 100 → addD false (.lst a) (.lst b) G = .ok (.lst (a ++ b)) G := fun a b h => by
    rw [addD_lst_lst]
    show (if _ then mkL false _ G else _) = _
    rw [if_pos (by omega), mkL_v]
  have q9 := m1 (.lst [.int 0]) 9 (by decide) (by decide)
  have q3 := m1 (.lst [.int 3]) 3 (by decide) (by decide)
  have q4 := m1 (.lst [.int 4]) 2 (by decide) (by decide)
  have q5 := m1 (.lst [.int 5]) 2 (by decide) (by decide)
  have a1 := ad (List.replicate (9 : Int).toNat [D.lst [.int 0]]).flatten [.lst [.int 1, .int 3]] (by decide +kernel)
  have a2 := ad ((List.replicate (9 : Int).toNat [D.lst [.int 0]]).flatten ++ [.lst [.int 1, .int 3]]) (List.replicate (3 : Int).toNat [D.lst [.int 3]]).flatten (by decide +kernel)
  have a3 := ad (((List.replicate (9 : Int).toNat [D.lst [.int 0]]).flatten ++ [.lst [.int 1, .int 3]]) ++ (List.replicate (3 : Int).toNat [D.lst [.int 3]]).flatten) (List.replicate (2 : Int).toNat [D.lst [.int 4]]).flatten (by decide +kernel)
  have a4 := ad ((((List.replicate (9 : Int).toNat [D.lst [.int 0]]).flatten ++ [.lst [.int 1, .int 3]]) ++ (List.replicate (3 : Int).toNat [D.lst [.int 3]]).flatten) ++ (List.replicate (2 : Int).toNat [D.lst [.int 4]]).flatten) (List.replicate (2 : Int).toNat [D.lst [.int 5]]).flatten (by decide +kernel)
  have e : ((((List.replicate (9 : Int).toNat [D.lst [.int 0]]).flatten ++ [.lst [.int 1, .int 3]]) ++ (List.replicate (3 : Int).toNat [D.lst [.int 3]]).flatten) ++ (List.replicate (2 : Int).toNat [D.lst [.int 4]]).flatten) ++ (List.replicate (2 : Int).toNat [D.lst [.int 5]]).flatten = DUE.map dueD := rfl
  rw [e] at a4
  have z1 : (1 : Nat) ≤ sizeLine := by omega
  have z2 : (2 : Nat) ≤ sizeLine := by omega
  unfold pa0
  generalize DUE.map dueD = du at *
  generalize (List.replicate (9 : Int).toNat [D.lst [.int 0]]).flatten = r9 at *
  generalize (List.replicate (3 : Int).toNat [D.lst [.int 3]]).flatten = r3 at *
  generalize (List.replicate (2 : Int).toNat [D.lst [.int 4]]).flatten = r4 at *
  generalize (List.replicate (2 : Int).toNat [D.lst [.int 5]]).flatten = r5 at *
  rw [sAsg_s, dBin_s, dBin_s, dBin_s, dBin_s]
  simp only [dBin_s, dLst_s, dCons_s, dC_s, dNil_s, bind_ok, List.length_cons, List.length_nil, Nat.zero_add, Nat.reduceAdd, if_pos z1, if_pos z2, mkL_v, q9, q3, q4, q5, a1, a2, a3, a4, gNm_s, List.set_cons_succ, List.set_cons_zero]
end
end K04
end
/-! ==== K04S ==== -/
section
set_option Elab.async false
set_option linter.all false
set_option autoImplicit false
set_option maxRecDepth 100000
set_option maxHeartbeats 4000000
/-! k04: the law's end. -/
namespace K04
open PySem DL DF
section
variable {G : DH} {n : Nat} {one other : D} {v0 v1 v2 v3 v4 v5 v6 v7 v8 v9 v10 : Option D}
theorem seq_go {p r : DS} {s s1 : DSl} {G G1 : DH} (h : p s G = .ok (.nx, s1) G1) : sSeq p r s G = r s1 G1 := by rw [sSeq_s, h, sBind_nx]
theorem made_at {j : Nat} {d : D} (h : (madeL one other)[j]? = some d) : j < 17 ∧ d = .err (nmJ j) ((madeK one other).getD j []) := by
  rw [made_j, List.getElem?_map] at h
  have hj : j < 17 := by
    rcases Nat.lt_or_ge j 17 with c | c
    · exact c
    · rw [List.getElem?_eq_none (by rw [List.length_range]; exact c)] at h
      cases h
  rw [List.getElem?_range hj] at h
  cases h
  exact ⟨hj, rfl⟩
theorem fld_sv (h1 : Sv one) (h2 : Sv other) : ∀ d ∈ fldL one other, Sv d := by
  intro d hd
  simp only [fldL, List.mem_cons, List.not_mem_nil, or_false] at hd
  rcases hd with rfl | rfl | rfl | rfl | rfl | rfl | rfl | rfl | rfl | rfl | rfl | rfl | rfl <;> assumption
theorem fld_is (one other : D) : ((List.replicate (7 : Int).toNat [one]).flatten ++ [other]) ++ (List.replicate (5 : Int).toNat [one]).flatten = fldL one other := rfl
theorem turn_ok {zs : List Int} {k : Nat} (hz : zs.length ≤ 63) (hk : k ≤ 100) : ∃ (s2 : DSl) (G' : DH), l2_law [some (.frz (zs.map D.int)), some (.lst (DUE.map dueD)), some (.int k), v3, v4, v5, v6, v7, v8, v9, v10] G = .ok (.nx, s2) G' ∧ ∃ w3 w4 w5 w6 w7 w8 w9 w10, s2 = [some (.frz (zs.map D.int)), some (.lst (DUE.map dueD)), some (.int k), w3, w4, w5, w6, w7, w8, w9, w10] := by
  have big := big1000
  obtain ⟨a, b, p1, ha, hb, hb2⟩ := pool_spec (zs := zs) (k := k) (G := G) (by omega) (by omega)
  have pl := pl_new (G := G) ha hb hb2
  generalize hz0 : D.frz (zs.map D.int) = Z at *
  generalize hn0 : G.length = n at *
  generalize hG1 : G ++ [DO.lst [.int a, .int b]] = G1 at *
  obtain ⟨r, G2, t2, ra, rb, f2⟩ := take_spec (m := 1000000000) pl (by decide) (by decide +kernel)
  obtain ⟨x, G3, t3, xl, xc, f3⟩ := letters_spec f2.1 4 (by omega)
  generalize hth : ([.int r, .non, .str x, .tup [.str "a", .int 3], .lst [.int 1], .bl true, .int (-1)] : List D) = th at *
  have thl : th.length = 7 := by rw [← hth]; rfl
  have sv : ∀ d ∈ th, Sv d := by
    intro d hd
    have fx : ∀ d ∈ ([.non, .tup [.str "a", .int 3], .lst [.int 1], .bl true, .int (-1)] : List D), Sv d := fun d hd => by
      obtain ⟨q1, q2, q3, q4, q5⟩ := sv_fix d hd
      exact ⟨q1, q2, q3, q4, q5⟩
    rw [← hth] at hd
    simp only [List.mem_cons, List.not_mem_nil, or_false] at hd
    rcases hd with rfl | rfl | rfl | rfl | rfl | rfl | rfl
    · exact sv_int ra rb
    · exact fx _ (by simp)
    · exact sv_str xl xc
    · exact fx _ (by simp)
    · exact fx _ (by simp)
    · exact fx _ (by simp)
    · exact fx _ (by simp)
  obtain ⟨i1, G4, t4, i1a, i1b, f4⟩ := take_spec (m := 7) f3.1 (by decide) (by decide)
  obtain ⟨one, e1, m1⟩ := atI_lt (xs := th) i1a (by rw [thl]; exact i1b)
  obtain ⟨i2, G5, t5, i2a, i2b, f5⟩ := take_spec (m := 7) f4.1 (by decide) (by decide)
  obtain ⟨other, e2, m2⟩ := atI_lt (xs := th) i2a (by rw [thl]; exact i2b)
  have q0 : pc0 [some Z, some (.lst (DUE.map dueD)), some (.int k), v3, v4, v5, v6, v7, v8, v9, v10] G = .ok (.nx, [some Z, some (.lst (DUE.map dueD)), some (.int k), some (.obj n), v4, v5, v6, v7, v8, v9, v10]) G1 := by
    unfold pc0
    generalize DUE.map dueD = du at *
    simp only [sSeq_s, sAsg_s, sIf_s, sRet_s, sPass_s, sDrop_s, sFor_s, dTest_s, dCall_s, dCons_s, dNil_s, dVar_s, dC_s, dBin_s, dUn_s, dTup_s, dTupK_s, dLst_s, dMt_s, dMtD_s, dIf_s, dTru_s, tAndD_s, tOrD_s, tNotD_s, bind_ok, sBind_nx, sBind_rt, finR_rt, gNm_s, gSt_s, List.getElem?_cons_succ, List.getElem?_cons_zero, List.set_cons_succ, List.set_cons_zero, List.length_cons, List.length_nil, Nat.zero_add, Nat.reduceAdd, mkL_v, mkL_o, addD_ii, addD_ss, subD_ii, negD_i, gtD_ii, ltD_ii, leD_ii, geD_ii, intO_b, Bool.false_eq_true, if_false, if_true, p1]
  have q1 : pc1 [some Z, some (.lst (DUE.map dueD)), some (.int k), some (.obj n), v4, v5, v6, v7, v8, v9, v10] G1 = .ok (.nx, [some Z, some (.lst (DUE.map dueD)), some (.int k), some (.obj n), some (.lst th), v5, v6, v7, v8, v9, v10]) G3 := by
    have pw : ∀ G, powD (.int 10) (.int 9) G = .ok (.int 1000000000) G := fun G => by rw [powD_ii, if_pos ⟨by decide, by decide, by decide⟩]; rfl
    have z7 : (7 : Nat) ≤ sizeLine := by omega
    have z1 : (1 : Nat) ≤ sizeLine := by omega
    rw [← hth]
    unfold pc1
    generalize DUE.map dueD = du at *
    generalize Str.ofString "a" = ua at *
    have t3' : F__law_letters [.obj n, .int 4] G2 = .ok (.str x) G3 := t3
    simp only [sSeq_s, sAsg_s, sIf_s, sRet_s, sPass_s, sDrop_s, sFor_s, dTest_s, dCall_s, dCons_s, dNil_s, dVar_s, dC_s, dBin_s, dUn_s, dTup_s, dTupK_s, dLst_s, dMt_s, dMtD_s, dIf_s, dTru_s, tAndD_s, tOrD_s, tNotD_s, bind_ok, sBind_nx, sBind_rt, finR_rt, gNm_s, gSt_s, List.getElem?_cons_succ, List.getElem?_cons_zero, List.set_cons_succ, List.set_cons_zero, List.length_cons, List.length_nil, Nat.zero_add, Nat.reduceAdd, mkL_v, mkL_o, addD_ii, addD_ss, subD_ii, negD_i, gtD_ii, ltD_ii, leD_ii, geD_ii, intO_b, Bool.false_eq_true, if_false, if_true, pw, t2, t3', if_pos two_ok, if_pos z1, if_pos z7]
  have q2 : pc2 [some Z, some (.lst (DUE.map dueD)), some (.int k), some (.obj n), some (.lst th), v5, v6, v7, v8, v9, v10] G3 = .ok (.nx, [some Z, some (.lst (DUE.map dueD)), some (.int k), some (.obj n), some (.lst th), some one, v6, v7, v8, v9, v10]) G4 := by
    unfold pc2
    generalize DUE.map dueD = du at *
    simp only [sSeq_s, sAsg_s, sIf_s, sRet_s, sPass_s, sDrop_s, sFor_s, dTest_s, dCall_s, dCons_s, dNil_s, dVar_s, dC_s, dBin_s, dUn_s, dTup_s, dTupK_s, dLst_s, dMt_s, dMtD_s, dIf_s, dTru_s, tAndD_s, tOrD_s, tNotD_s, bind_ok, sBind_nx, sBind_rt, finR_rt, gNm_s, gSt_s, List.getElem?_cons_succ, List.getElem?_cons_zero, List.set_cons_succ, List.set_cons_zero, List.length_cons, List.length_nil, Nat.zero_add, Nat.reduceAdd, mkL_v, mkL_o, addD_ii, addD_ss, subD_ii, negD_i, gtD_ii, ltD_ii, leD_ii, geD_ii, intO_b, Bool.false_eq_true, if_false, if_true, t4, ixU_lst, e1]
  have q3 : pc3 [some Z, some (.lst (DUE.map dueD)), some (.int k), some (.obj n), some (.lst th), some one, v6, v7, v8, v9, v10] G4 = .ok (.nx, [some Z, some (.lst (DUE.map dueD)), some (.int k), some (.obj n), some (.lst th), some one, some other, v7, v8, v9, v10]) G5 := by
    unfold pc3
    generalize DUE.map dueD = du at *
    simp only [sSeq_s, sAsg_s, sIf_s, sRet_s, sPass_s, sDrop_s, sFor_s, dTest_s, dCall_s, dCons_s, dNil_s, dVar_s, dC_s, dBin_s, dUn_s, dTup_s, dTupK_s, dLst_s, dMt_s, dMtD_s, dIf_s, dTru_s, tAndD_s, tOrD_s, tNotD_s, bind_ok, sBind_nx, sBind_rt, finR_rt, gNm_s, gSt_s, List.getElem?_cons_succ, List.getElem?_cons_zero, List.set_cons_succ, List.set_cons_zero, List.length_cons, List.length_nil, Nat.zero_add, Nat.reduceAdd, mkL_v, mkL_o, addD_ii, addD_ss, subD_ii, negD_i, gtD_ii, ltD_ii, leD_ii, geD_ii, intO_b, Bool.false_eq_true, if_false, if_true, t5, ixU_lst, e2]
  have mk := made_ok (G := G5) one other
  have q4 : pc4 [some Z, some (.lst (DUE.map dueD)), some (.int k), some (.obj n), some (.lst th), some one, some other, v7, v8, v9, v10] G5 = .ok (.nx, [some Z, some (.lst (DUE.map dueD)), some (.int k), some (.obj n), some (.lst th), some one, some other, some (.lst (madeL one other)), v8, v9, v10]) G5 := by
    unfold pc4
    generalize DUE.map dueD = du at *
    generalize madeL one other = ml at *
    simp only [sSeq_s, sAsg_s, sIf_s, sRet_s, sPass_s, sDrop_s, sFor_s, dTest_s, dCall_s, dCons_s, dNil_s, dVar_s, dC_s, dBin_s, dUn_s, dTup_s, dTupK_s, dLst_s, dMt_s, dMtD_s, dIf_s, dTru_s, tAndD_s, tOrD_s, tNotD_s, bind_ok, sBind_nx, sBind_rt, finR_rt, gNm_s, gSt_s, List.getElem?_cons_succ, List.getElem?_cons_zero, List.set_cons_succ, List.set_cons_zero, List.length_cons, List.length_nil, Nat.zero_add, Nat.reduceAdd, mkL_v, mkL_o, addD_ii, addD_ss, subD_ii, negD_i, gtD_ii, ltD_ii, leD_ii, geD_ii, intO_b, Bool.false_eq_true, if_false, if_true, mk]
  obtain ⟨s', G6, lp, ⟨w8, w9, w10, rfl⟩, eG⟩ := forL_inv (g := gTup 2 (gCons (gNm 8) (gCons (gNm 9) (gNil)))) (b := l1_law) (fun _ s G => (∃ w8 w9 w10, s = [some Z, some (.lst (DUE.map dueD)), some (.int k), some (.obj n), some (.lst th), some one, some other, some (.lst (madeL one other)), w8, w9, w10]) ∧ G = G5) (enumD 0 (madeL one other)) 0 [some Z, some (.lst (DUE.map dueD)), some (.int k), some (.obj n), some (.lst th), some one, some other, some (.lst (madeL one other)), v8, v9, v10] G5 (fun j e s G7 hj hi => by
    obtain ⟨⟨w8, w9, w10, rfl⟩, rfl⟩ := hi
    obtain ⟨d, hd, rfl⟩ := enumD_at _ _ _ _ hj
    obtain ⟨jl, rfl⟩ := made_at hd
    rw [Nat.zero_add]
    refine ⟨[some Z, some (.lst (DUE.map dueD)), some (.int k), some (.obj n), some (.lst th), some one, some other, some (.lst (madeL one other)), some (.int (j : Nat)), some (.err (nmJ j) ((madeK one other).getD j [])), w10], _, _, _, rfl, .inl (err_s jl), ⟨_, _, _, rfl⟩, rfl⟩) ⟨⟨_, _, _, rfl⟩, rfl⟩
  subst eG
  have q5 : pc5 [some Z, some (.lst (DUE.map dueD)), some (.int k), some (.obj n), some (.lst th), some one, some other, some (.lst (madeL one other)), v8, v9, v10] G6 = .ok (.nx, [some Z, some (.lst (DUE.map dueD)), some (.int k), some (.obj n), some (.lst th), some one, some other, some (.lst (madeL one other)), w8, w9, w10]) G6 := by
    have is : iEnum (dCons (dVar 7) dNil) [some Z, some (.lst (DUE.map dueD)), some (.int k), some (.obj n), some (.lst th), some one, some other, some (.lst (madeL one other)), v8, v9, v10] G6 = .ok (enumD 0 (madeL one other)) G6 := rfl
    unfold pc5
    rw [sFor_s, is, bind_ok, lp]
  obtain ⟨rs, hrs⟩ := repr_ok (ds := fldL one other) (by show 13 ≤ 100; omega) (fld_sv (sv _ m1) (sv _ m2))
  have f1 := made_fields (G := G6) one other
  have f2' := named_fields (G := G6) one other
  have nk := named_ok (G := G6) one other
  have q6 : pc6 [some Z, some (.lst (DUE.map dueD)), some (.int k), some (.obj n), some (.lst th), some one, some other, some (.lst (madeL one other)), w8, w9, w10] G6 = .ok (.nx, [some Z, some (.lst (DUE.map dueD)), some (.int k), some (.obj n), some (.lst th), some one, some other, some (.lst (madeL one other)), w8, w9, w10]) G6 := by
    have m1 : ∀ (x : D) (k : Int) (h0 : 0 ≤ k) (h : k ≤ 100), mulD false (.lst [x]) (.int k) G6 = .ok (.lst (List.replicate k.toNat [x]).flatten) G6 := fun x k h0 h => by
      rw [mulD_lst]
      show (if _ then mkL false _ G6 else _) = _
      rw [if_pos ⟨by omega, by omega, by show 1 * k.toNat ≤ _; omega⟩, mkL_v]
    have ad : ∀ (a b : List D), a.length + b.length ≤ 100 → addD false (.lst a) (.lst b) G6 = .ok (.lst (a ++ b)) G6 := fun a b h => by
      rw [addD_lst_lst]
      show (if _ then mkL false _ G6 else _) = _
      rw [if_pos (by omega), mkL_v]
    have r7 := m1 one 7 (by decide) (by decide)
    have r5 := m1 one 5 (by decide) (by decide)
    have a1 := ad (List.replicate (7 : Int).toNat [one]).flatten [other] (by show 7 + 1 ≤ 100; omega)
    have a2 := ad ((List.replicate (7 : Int).toNat [one]).flatten ++ [other]) (List.replicate (5 : Int).toNat [one]).flatten (by show 8 + 5 ≤ 100; omega)
    rw [fld_is] at a2
    have hr := hrs G6
    have z1 : (1 : Nat) ≤ sizeLine := by omega
    unfold pc6
    generalize DUE.map dueD = du at *
    generalize madeL one other = ml at *
    generalize fldL one other = fl at *
    generalize (List.replicate (7 : Int).toNat [one]).flatten = l7 at *
    generalize (List.replicate (5 : Int).toNat [one]).flatten = l5 at *
    simp only [sIf_s, dTest_s, dBin_s, dCall_s, dCons_s, dVar_s, dNil_s, dLst_s, dC_s, List.getElem?_cons_succ, List.getElem?_cons_zero, bind_ok, f1, hr, List.length_cons, List.length_nil, Nat.zero_add, if_pos z1, mkL_v, r7, a1, r5, a2, neU_ss, beq_self_eq_true, Bool.not_true, truD_bl, Bool.false_eq_true, if_false, sPass_s]
  have q7 : pc7 [some Z, some (.lst (DUE.map dueD)), some (.int k), some (.obj n), some (.lst th), some one, some other, some (.lst (madeL one other)), w8, w9, w10] G6 = .ok (.nx, [some Z, some (.lst (DUE.map dueD)), some (.int k), some (.obj n), some (.lst th), some one, some other, some (.lst (madeL one other)), w8, w9, w10]) G6 := by
    have hr := hrs G6
    unfold pc7
    generalize DUE.map dueD = du at *
    generalize madeL one other = ml at *
    generalize namedL one other = nl at *
    generalize fldL one other = fl at *
    simp only [sIf_s, dTest_s, dBin_s, dCall_s, dCons_s, dVar_s, dNil_s, List.getElem?_cons_succ, List.getElem?_cons_zero, bind_ok, f1, f2', nk, hr, neU_ss, beq_self_eq_true, Bool.not_true, truD_bl, Bool.false_eq_true, if_false, sPass_s]
  rw [l2_law_eq]
  exact ⟨_, _, (seq_go q0).trans ((seq_go q1).trans ((seq_go q2).trans ((seq_go q3).trans ((seq_go q4).trans ((seq_go q5).trans ((seq_go q6).trans q7)))))), _, _, _, _, _, _, _, _, rfl⟩
theorem ends : ∀ zs : List Int, zs.length ≤ 63 → ∃ G, F_law [.frz (zs.map D.int)] [] = .ok (.bl true) G := by
  intro zs hz
  have s0 : (some (D.frz (zs.map D.int)) :: List.replicate (11 - 1) none : DSl) = [some (.frz (zs.map D.int)), none, none, none, none, none, none, none, none, none, none] := rfl
  have q0 := dues_ok (G := []) (v0 := some (.frz (zs.map D.int))) (v1 := none) (v2 := none) (v3 := none) (v4 := none) (v5 := none) (v6 := none) (v7 := none) (v8 := none) (v9 := none) (v10 := none)
  obtain ⟨m, hm, rg⟩ := range_spec hz (s := [some (.frz (zs.map D.int)), some (.lst (DUE.map dueD)), none, none, none, none, none, none, none, none, none]) rfl 10 (by omega) []
  obtain ⟨s', G', lp, w2, w3, w4, w5, w6, w7, w8, w9, w10, rfl⟩ := forL_inv (g := gNm 2) (b := l2_law) (fun _ s G => ∃ w2 w3 w4 w5 w6 w7 w8 w9 w10, s = [some (.frz (zs.map D.int)), some (.lst (DUE.map dueD)), w2, w3, w4, w5, w6, w7, w8, w9, w10]) (rngD 0 m) 0 [some (.frz (zs.map D.int)), some (.lst (DUE.map dueD)), none, none, none, none, none, none, none, none, none] [] (fun j e s G hj hi => by
    obtain ⟨w2, w3, w4, w5, w6, w7, w8, w9, w10, rfl⟩ := hi
    obtain ⟨h1, rfl⟩ := rng_at hj
    obtain ⟨s2, G', e, x3, x4, x5, x6, x7, x8, x9, x10, rfl⟩ := turn_ok (zs := zs) (k := j) (G := G) (v3 := w3) (v4 := w4) (v5 := w5) (v6 := w6) (v7 := w7) (v8 := w8) (v9 := w9) (v10 := w10) hz (by omega)
    exact ⟨_, G, _, G', rfl, .inl e, _, _, _, _, _, _, _, _, _, rfl⟩) ⟨_, _, _, _, _, _, _, _, _, rfl⟩
  have q1 : pa1 [some (.frz (zs.map D.int)), some (.lst (DUE.map dueD)), none, none, none, none, none, none, none, none, none] [] = .ok (.nx, [some (.frz (zs.map D.int)), some (.lst (DUE.map dueD)), w2, w3, w4, w5, w6, w7, w8, w9, w10]) G' := by
    unfold pa1
    rw [sFor_s, show ((10 : Int)) = ((10 : Nat) : Int) from rfl, rg, bind_ok, lp]
  refine ⟨G', ?_⟩
  rw [F_law, runF_1, b_law_eq, s0, seq_go q0, seq_go q1]
  unfold pa2
  rw [sRet_s, dC_s, bind_ok, finR_rt]
end
end K04
end
/-! ==== K04J ==== -/
section
set_option Elab.async false
set_option linter.all false

open PySem PySem.W PyProof.Rows in
set_option maxRecDepth 100000 in
set_option maxHeartbeats 0 in
theorem PySem.Challenge.cw_branchedhall_k04_refusals_apart_holds : PySem.Challenge.rw_branchedhall_k04_refusals_apart.Holds := by
  w_on; o_law; k_head; (case hw => w_witness2)
  k_fill
  refine DL.dlaw_walk (l := PySem.Challenge.rw_branchedhall_k04_refusals_apart) (n := 63) (k := 5) (x := "_law_script") rfl (by decide) rfl ⟨⟨rfl, by decide, by decide⟩, rfl⟩ (fun w h Y => PySem.W.kIn_of Y) ?F K04.ends
  case F =>
    intro w mg fa h KX G hmg
    refine' K04.law_fd (K04.tx_mk KX G ?a0 ?l0 ?c0 ?k0 ?a1 ?l1 ?c1 ?k1 ?a2 ?l2 ?c2 ?k2 ?a3 ?l3 ?c3 ?k3 ?a4 ?l4 ?c4 ?k4 ?a5 ?l5 ?c5 ?k5 ?a6 ?l6 ?c6 ?k6 ?a7 ?l7 ?c7 ?k7 ?a8 ?l8 ?c8 ?k8 ?z_IndexError ?z_KeyError ?z_LookupError ?z_OverflowError ?z_RuntimeError ?z_ValueError ?z_enumerate ?z_int ?z_isinstance ?z_len ?z_max ?z_min ?z_range ?z_repr ?xz_NoDeed ?xlc_NoDeed ?xsa_NoDeed ?xkc_NoDeed ?xga_NoDeed ?xgg_NoDeed ?xca_NoDeed ?xfn0_NoDeed ?xfi_NoDeed ?xti_NoDeed ?xlf_NoDeed ?xcf_NoDeed ?xkf_NoDeed ?xz_NoText ?xlc_NoText ?xsa_NoText ?xkc_NoText ?xga_NoText ?xgg_NoText ?xca_NoText ?xfn0_NoText ?xfi_NoText ?xti_NoText ?xlf_NoText ?xcf_NoText ?xkf_NoText ?xz_NoStates ?xlc_NoStates ?xsa_NoStates ?xkc_NoStates ?xga_NoStates ?xgg_NoStates ?xca_NoStates ?xfn0_NoStates ?xfi_NoStates ?xti_NoStates ?xlf_NoStates ?xcf_NoStates ?xkf_NoStates ?xz_NoPaper ?xlc_NoPaper ?xsa_NoPaper ?xkc_NoPaper ?xga_NoPaper ?xgg_NoPaper ?xca_NoPaper ?xfi_NoPaper ?xz_NoBegin ?xlc_NoBegin ?xsa_NoBegin ?xkc_NoBegin ?xga_NoBegin ?xgg_NoBegin ?xca_NoBegin ?xfi_NoBegin ?xz_NoRow ?xlc_NoRow ?xsa_NoRow ?xkc_NoRow ?xga_NoRow ?xgg_NoRow ?xca_NoRow ?xfn0_NoRow ?xfi_NoRow ?xti_NoRow ?xlf_NoRow ?xcf_NoRow ?xkf_NoRow ?xz_NoHouse ?xlc_NoHouse ?xsa_NoHouse ?xkc_NoHouse ?xga_NoHouse ?xgg_NoHouse ?xca_NoHouse ?xfn0_NoHouse ?xfi_NoHouse ?xti_NoHouse ?xlf_NoHouse ?xcf_NoHouse ?xkf_NoHouse ?xz_NoHouses ?xlc_NoHouses ?xsa_NoHouses ?xkc_NoHouses ?xga_NoHouses ?xgg_NoHouses ?xca_NoHouses ?xfn0_NoHouses ?xfi_NoHouses ?xti_NoHouses ?xlf_NoHouses ?xcf_NoHouses ?xkf_NoHouses ?xz_Barred ?xlc_Barred ?xsa_Barred ?xkc_Barred ?xga_Barred ?xgg_Barred ?xca_Barred ?xfn0_Barred ?xfn1_Barred ?xfi_Barred ?xti_Barred ?xlf_Barred ?xcf_Barred ?xkf_Barred ?xz_NoName ?xlc_NoName ?xsa_NoName ?xkc_NoName ?xga_NoName ?xgg_NoName ?xca_NoName ?xfn0_NoName ?xfi_NoName ?xti_NoName ?xlf_NoName ?xcf_NoName ?xkf_NoName ?xz_NoState ?xlc_NoState ?xsa_NoState ?xkc_NoState ?xga_NoState ?xgg_NoState ?xca_NoState ?xfn0_NoState ?xfi_NoState ?xti_NoState ?xlf_NoState ?xcf_NoState ?xkf_NoState ?xz_NoGoing ?xlc_NoGoing ?xsa_NoGoing ?xkc_NoGoing ?xga_NoGoing ?xgg_NoGoing ?xca_NoGoing ?xfn0_NoGoing ?xfi_NoGoing ?xti_NoGoing ?xlf_NoGoing ?xcf_NoGoing ?xkf_NoGoing ?xz_NoHall ?xlc_NoHall ?xsa_NoHall ?xkc_NoHall ?xga_NoHall ?xgg_NoHall ?xca_NoHall ?xfi_NoHall ?xz_Full ?xlc_Full ?xsa_Full ?xkc_Full ?xga_Full ?xgg_Full ?xca_Full ?xfi_Full ?xz_TooMany ?xlc_TooMany ?xsa_TooMany ?xkc_TooMany ?xga_TooMany ?xgg_TooMany ?xca_TooMany ?xfn0_TooMany ?xfi_TooMany ?xti_TooMany ?xlf_TooMany ?xcf_TooMany ?xkf_TooMany ?xz_Twin ?xlc_Twin ?xsa_Twin ?xkc_Twin ?xga_Twin ?xgg_Twin ?xca_Twin ?xfn0_Twin ?xfi_Twin ?xti_Twin ?xlf_Twin ?xcf_Twin ?xkf_Twin ?xz_Busy ?xlc_Busy ?xsa_Busy ?xkc_Busy ?xga_Busy ?xgg_Busy ?xca_Busy ?xfi_Busy ?xsp ?xtk ?xv_KeyError ?xv_LookupError ?xv_OverflowError ?xv_RuntimeError ?xv_ValueError) hmg
    (case a0 => k_is)
    (case l0 => k_is)
    (case c0 => k_is)
    (case k0 => k_is)
    (case a1 => k_is)
    (case l1 => k_is)
    (case c1 => k_is)
    (case k1 => k_is)
    (case a2 => k_is)
    (case l2 => k_is)
    (case c2 => k_is)
    (case k2 => k_is)
    (case a3 => k_is)
    (case l3 => k_is)
    (case c3 => k_is)
    (case k3 => k_is)
    (case a4 => k_is)
    (case l4 => k_is)
    (case c4 => k_is)
    (case k4 => k_is)
    (case a5 => k_is)
    (case l5 => k_is)
    (case c5 => k_is)
    (case k5 => k_is)
    (case a6 => k_is)
    (case l6 => k_is)
    (case c6 => k_is)
    (case k6 => k_is)
    (case a7 => k_is)
    (case l7 => k_is)
    (case c7 => k_is)
    (case k7 => k_is)
    (case a8 => k_is)
    (case l8 => k_is)
    (case c8 => k_is)
    (case k8 => k_is)
    (case z_IndexError => k_is)
    (case z_KeyError => k_is)
    (case z_LookupError => k_is)
    (case z_OverflowError => k_is)
    (case z_RuntimeError => k_is)
    (case z_ValueError => k_is)
    (case z_enumerate => k_is)
    (case z_int => k_is)
    (case z_isinstance => k_is)
    (case z_len => k_is)
    (case z_max => k_is)
    (case z_min => k_is)
    (case z_range => k_is)
    (case z_repr => k_is)
    (case xz_NoDeed => k_is)
    (case xlc_NoDeed => k_is)
    (case xsa_NoDeed => k_is)
    (case xkc_NoDeed => k_is)
    (case xga_NoDeed => k_is)
    (case xgg_NoDeed => k_is)
    (case xca_NoDeed => k_is)
    (case xfn0_NoDeed => k_is)
    (case xfi_NoDeed => k_is)
    (case xti_NoDeed => k_is)
    (case xlf_NoDeed => k_is)
    (case xcf_NoDeed => k_is)
    (case xkf_NoDeed => k_is)
    (case xz_NoText => k_is)
    (case xlc_NoText => k_is)
    (case xsa_NoText => k_is)
    (case xkc_NoText => k_is)
    (case xga_NoText => k_is)
    (case xgg_NoText => k_is)
    (case xca_NoText => k_is)
    (case xfn0_NoText => k_is)
    (case xfi_NoText => k_is)
    (case xti_NoText => k_is)
    (case xlf_NoText => k_is)
    (case xcf_NoText => k_is)
    (case xkf_NoText => k_is)
    (case xz_NoStates => k_is)
    (case xlc_NoStates => k_is)
    (case xsa_NoStates => k_is)
    (case xkc_NoStates => k_is)
    (case xga_NoStates => k_is)
    (case xgg_NoStates => k_is)
    (case xca_NoStates => k_is)
    (case xfn0_NoStates => k_is)
    (case xfi_NoStates => k_is)
    (case xti_NoStates => k_is)
    (case xlf_NoStates => k_is)
    (case xcf_NoStates => k_is)
    (case xkf_NoStates => k_is)
    (case xz_NoPaper => k_is)
    (case xlc_NoPaper => k_is)
    (case xsa_NoPaper => k_is)
    (case xkc_NoPaper => k_is)
    (case xga_NoPaper => k_is)
    (case xgg_NoPaper => k_is)
    (case xca_NoPaper => k_is)
    (case xfi_NoPaper => k_is)
    (case xz_NoBegin => k_is)
    (case xlc_NoBegin => k_is)
    (case xsa_NoBegin => k_is)
    (case xkc_NoBegin => k_is)
    (case xga_NoBegin => k_is)
    (case xgg_NoBegin => k_is)
    (case xca_NoBegin => k_is)
    (case xfi_NoBegin => k_is)
    (case xz_NoRow => k_is)
    (case xlc_NoRow => k_is)
    (case xsa_NoRow => k_is)
    (case xkc_NoRow => k_is)
    (case xga_NoRow => k_is)
    (case xgg_NoRow => k_is)
    (case xca_NoRow => k_is)
    (case xfn0_NoRow => k_is)
    (case xfi_NoRow => k_is)
    (case xti_NoRow => k_is)
    (case xlf_NoRow => k_is)
    (case xcf_NoRow => k_is)
    (case xkf_NoRow => k_is)
    (case xz_NoHouse => k_is)
    (case xlc_NoHouse => k_is)
    (case xsa_NoHouse => k_is)
    (case xkc_NoHouse => k_is)
    (case xga_NoHouse => k_is)
    (case xgg_NoHouse => k_is)
    (case xca_NoHouse => k_is)
    (case xfn0_NoHouse => k_is)
    (case xfi_NoHouse => k_is)
    (case xti_NoHouse => k_is)
    (case xlf_NoHouse => k_is)
    (case xcf_NoHouse => k_is)
    (case xkf_NoHouse => k_is)
    (case xz_NoHouses => k_is)
    (case xlc_NoHouses => k_is)
    (case xsa_NoHouses => k_is)
    (case xkc_NoHouses => k_is)
    (case xga_NoHouses => k_is)
    (case xgg_NoHouses => k_is)
    (case xca_NoHouses => k_is)
    (case xfn0_NoHouses => k_is)
    (case xfi_NoHouses => k_is)
    (case xti_NoHouses => k_is)
    (case xlf_NoHouses => k_is)
    (case xcf_NoHouses => k_is)
    (case xkf_NoHouses => k_is)
    (case xz_Barred => k_is)
    (case xlc_Barred => k_is)
    (case xsa_Barred => k_is)
    (case xkc_Barred => k_is)
    (case xga_Barred => k_is)
    (case xgg_Barred => k_is)
    (case xca_Barred => k_is)
    (case xfn0_Barred => k_is)
    (case xfn1_Barred => k_is)
    (case xfi_Barred => k_is)
    (case xti_Barred => k_is)
    (case xlf_Barred => k_is)
    (case xcf_Barred => k_is)
    (case xkf_Barred => k_is)
    (case xz_NoName => k_is)
    (case xlc_NoName => k_is)
    (case xsa_NoName => k_is)
    (case xkc_NoName => k_is)
    (case xga_NoName => k_is)
    (case xgg_NoName => k_is)
    (case xca_NoName => k_is)
    (case xfn0_NoName => k_is)
    (case xfi_NoName => k_is)
    (case xti_NoName => k_is)
    (case xlf_NoName => k_is)
    (case xcf_NoName => k_is)
    (case xkf_NoName => k_is)
    (case xz_NoState => k_is)
    (case xlc_NoState => k_is)
    (case xsa_NoState => k_is)
    (case xkc_NoState => k_is)
    (case xga_NoState => k_is)
    (case xgg_NoState => k_is)
    (case xca_NoState => k_is)
    (case xfn0_NoState => k_is)
    (case xfi_NoState => k_is)
    (case xti_NoState => k_is)
    (case xlf_NoState => k_is)
    (case xcf_NoState => k_is)
    (case xkf_NoState => k_is)
    (case xz_NoGoing => k_is)
    (case xlc_NoGoing => k_is)
    (case xsa_NoGoing => k_is)
    (case xkc_NoGoing => k_is)
    (case xga_NoGoing => k_is)
    (case xgg_NoGoing => k_is)
    (case xca_NoGoing => k_is)
    (case xfn0_NoGoing => k_is)
    (case xfi_NoGoing => k_is)
    (case xti_NoGoing => k_is)
    (case xlf_NoGoing => k_is)
    (case xcf_NoGoing => k_is)
    (case xkf_NoGoing => k_is)
    (case xz_NoHall => k_is)
    (case xlc_NoHall => k_is)
    (case xsa_NoHall => k_is)
    (case xkc_NoHall => k_is)
    (case xga_NoHall => k_is)
    (case xgg_NoHall => k_is)
    (case xca_NoHall => k_is)
    (case xfi_NoHall => k_is)
    (case xz_Full => k_is)
    (case xlc_Full => k_is)
    (case xsa_Full => k_is)
    (case xkc_Full => k_is)
    (case xga_Full => k_is)
    (case xgg_Full => k_is)
    (case xca_Full => k_is)
    (case xfi_Full => k_is)
    (case xz_TooMany => k_is)
    (case xlc_TooMany => k_is)
    (case xsa_TooMany => k_is)
    (case xkc_TooMany => k_is)
    (case xga_TooMany => k_is)
    (case xgg_TooMany => k_is)
    (case xca_TooMany => k_is)
    (case xfn0_TooMany => k_is)
    (case xfi_TooMany => k_is)
    (case xti_TooMany => k_is)
    (case xlf_TooMany => k_is)
    (case xcf_TooMany => k_is)
    (case xkf_TooMany => k_is)
    (case xz_Twin => k_is)
    (case xlc_Twin => k_is)
    (case xsa_Twin => k_is)
    (case xkc_Twin => k_is)
    (case xga_Twin => k_is)
    (case xgg_Twin => k_is)
    (case xca_Twin => k_is)
    (case xfn0_Twin => k_is)
    (case xfi_Twin => k_is)
    (case xti_Twin => k_is)
    (case xlf_Twin => k_is)
    (case xcf_Twin => k_is)
    (case xkf_Twin => k_is)
    (case xz_Busy => k_is)
    (case xlc_Busy => k_is)
    (case xsa_Busy => k_is)
    (case xkc_Busy => k_is)
    (case xga_Busy => k_is)
    (case xgg_Busy => k_is)
    (case xca_Busy => k_is)
    (case xfi_Busy => k_is)
    (case xsp => k_is)
    (case xtk => k_is)
    (case xv_KeyError => first | k_is | rfl)
    (case xv_LookupError => first | k_is | rfl)
    (case xv_OverflowError => first | k_is | rfl)
    (case xv_RuntimeError => first | k_is | rfl)
    (case xv_ValueError => first | k_is | rfl)
end
