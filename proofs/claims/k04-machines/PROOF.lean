import PyProof.Rows.All
import Wide.All
import OpenK.AllK
import Wide.FinOn
import KE.KDictKeyed
import HandS.Base
import HandS.Call
import HandS.List
import HandS.Comp
import HandS.Ends
import HandS.Dict
import HandS.Iter
import HandS.Text
import HandS.Exc
import HandS.ExcOwn
import HandS.Slots
import HandS.HeadHook1
import HandS.Evl
import HandS.Deep
import HandS.TupAny
import HandS.IsInst
import HandS.Style
import HandS.Steps
import HandS.Flow
import PyProof.EnumMake
import KE.GoesEnum
import KE.KExcSuper
import HandS.ExcInit
import PyProof.ListNew
import HandS.ExcSuper
import HandS.TryOnly
import HandS.Defaults
import HandS.WideBits
import HandS.SlotsOwn
import HandS.Property
import PyProof.InstEq
import HandS.OwnEq
import KE.SortData
import PyProof.CollectStr
import HandS.HeadHook2
import HandS.HeadHook3
import HandS.Head0
import HandS.Head1
import HandS.Head2
import HandS.HeadEnd
import HandS.Words
import KE.KUnpackStar
import PySem.Challenge.RW_typefault_k04_whole_machines_repaired
import KE.KStateDown
import Lean
import HandS.More
import HandS.WordsExc
import HandS.HeadHook4
/-! #### text TFa -/
set_option Elab.async false
set_option linter.all false
set_option maxRecDepth 100000
set_option maxHeartbeats 2000000
/-! TFa: deep data, the frozen heap, what represents what. -/
namespace TF
open PySem L2
inductive D where
  | non | bl (b : Bool) | int (i : Int) | str (x : Str)
  | tup (xs : List D) | lst (xs : List D) | dic (kvs : List (D × D)) | obj (c : Str) (fs : List D)
  deriving Inhabited
structure Mt where
  P : Program
  w : World
  K : PySem.W.Frag
abbrev mt (X : Cx) : Mt := ⟨X.prog, X.w, X.K⟩
/-- the exception that an except suite holds: where it lies, its class, its dict -/
abbrev Xo : Type := Option (Addr × Value × Option Addr)
structure Mx extends Mt where
  xo : Xo
instance : Coe Mx Mt := ⟨Mx.toMt⟩
abbrev mx (X : Cx) (o : Xo) : Mx := ⟨⟨X.prog, X.w, X.K⟩, o⟩
/-- the classes with slots -/
def slotC (c : Str) : Bool := c == "Keyboard" || c == "Machine"
/-- the attributes of the others, in the order of their fields here -/
def fldC (c : Str) : List Str :=
  if c = "Case" then ["own_keyboard", "own_width", "own_pool", "own_most"]
  else if c = "Works" then ["last", "slips", "feed", "has", "ways", "types"]
  else if c = "Turns" then ["rows", "begins", "ring"]
  else if c = "Decoder" then ["code", "at"]
  else if c = "Line" then ["place", "words", "at"]
  else []
/-- the place of a slot -/
def slotIx (c f : Str) : Option Nat :=
  if c = "Keyboard" then (if f = "own_keys" then some 0 else none)
  else if c = "Machine" then (if f = "own_faults" then some 0 else if f = "own_keyboard" then some 1 else if f = "own_width" then some 2 else none)
  else none
/-- the attributes, in the order in which an object's are told here -/
def fldO (c : Str) : List Str :=
  if c = "Keyboard" then ["own_keys"] else if c = "Machine" then ["own_faults", "own_keyboard", "own_width"] else fldC c
/-! ### keys -/
mutual
def D.nk : D → NestedKey
  | .non => .none
  | .bl b => .num (if b then 1 else 0)
  | .int i => .num i
  | .str x => .text x
  | .tup ds => .tup (D.nks ds)
  | .lst _ => .none
  | .dic _ => .none
  | .obj _ _ => .none
def D.nks : List D → List NestedKey
  | [] => []
  | d :: r => D.nk d :: D.nks r
end
mutual
def D.hk : D → Bool
  | .non => true
  | .bl _ => true
  | .int _ => true
  | .str _ => true
  | .tup ds => D.hks ds
  | .lst _ => false
  | .dic _ => false
  | .obj _ _ => false
def D.hks : List D → Bool
  | [] => true
  | d :: r => D.hk d && D.hks r
end
def kD : D → Option Key
  | .int i => some (.inl i)
  | .str x => some (.inr x)
  | _ => none
def isT : D → Bool
  | .tup _ => true
  | _ => false
/-- a dict whose keys are tuples, as an object -/
def dN (M : Mt) (a : Addr) (xs : List (NestedKey × Addr × V)) : HO := .ext fun h => ∃ vs : List (NestedKey × Addr × Value),
  Paired (fun (x : NestedKey × Addr × V) (y : NestedKey × Addr × Value) => x.1 = y.1 ∧ x.2.1 = y.2.1 ∧ RelV x.2.2 y.2.2) xs vs ∧ (a == sysModules) = false ∧ xs.length ≤ sizeLine ∧
  ∃ o es ep, h.get? a = some o ∧ o.ExactDict ∧ o.data = .dict es ep ∧ es.toList = vs.map (entryOfKey (nestedKind M.P M.w)) ∧ (xs.map (·.1)).Nodup ∧ xs ≠ []
/-! ### what represents what, in a heap that stays -/
mutual
def Rp (M : Mt) (G : Hp) : D → V → Prop
  | .non, v => v = .non
  | .bl b, v => v = .bl b
  | .int i, v => v = .int i
  | .str x, v => v = .str x
  | .tup ds, v => ∃ a vs, v = .ref a ∧ SqT M.K G a vs ∧ Rps M G ds vs
  | .lst ds, v => ∃ a vs, v = .ref a ∧ G a = some (.lst vs) ∧ Rps M G ds vs
  | .dic kvs, v => ∃ a, v = .ref a ∧ ((∃ ks, G a = some (.dK ks) ∧ Rpk M G kvs ks) ∨ ∃ xs, G a = some (dN M a xs) ∧ Rpn M G kvs xs)
  | .obj c fs, v => ∃ a dx vs, v = .ref a ∧ Rps M G fs vs ∧
      ((slotC c = true ∧ G a = some (SlX.SlO a (He.ga M.K c) dx (vs.map some)) ∧ G dx = some (.xd [])) ∨
        (slotC c = false ∧ ∃ fv, G a = some (.ins (He.ga M.K c) dx fv) ∧ (fldC c).map (fun f => fv.lookup f) = vs.map some ∧ ∀ f, f ∉ fldC c → fv.lookup f = none))
def Rps (M : Mt) (G : Hp) : List D → List V → Prop
  | [], vs => vs = []
  | d :: ds, vs => ∃ v r, vs = v :: r ∧ Rp M G d v ∧ Rps M G ds r
def Rpk (M : Mt) (G : Hp) : List (D × D) → List (Key × V) → Prop
  | [], ks => ks = []
  | p :: ds, ks => ∃ v r, ks = v :: r ∧ Rpkp M G p v ∧ Rpk M G ds r
def Rpkp (M : Mt) (G : Hp) : D × D → Key × V → Prop
  | (k, d), x => kD k = some x.1 ∧ Rp M G d x.2
def Rpn (M : Mt) (G : Hp) : List (D × D) → List (NestedKey × Addr × V) → Prop
  | [], xs => xs = []
  | p :: ds, xs => ∃ x r, xs = x :: r ∧ Rpnp M G p x ∧ Rpn M G ds r
def Rpnp (M : Mt) (G : Hp) : D × D → NestedKey × Addr × V → Prop
  | (k, d), x => x.1 = D.nk k ∧ D.hk k = true ∧ isT k = true ∧ (D.nk k).depth ≤ 8 ∧ Rp M G k (.ref x.2.1) ∧ Rp M G d x.2.2
end
/-! ### more heap, the same meaning -/
/-- the library's own notion (HandS.Evl), by its names here -/
abbrev Ex := @Evl.Ex
theorem Ex.refl : ∀ H, Ex H H := Evl.Ex.refl
theorem Ex.trans {a b c : Hp} : Ex a b → Ex b c → Ex a c := Evl.Ex.trans
theorem Ex.new {H : Hp} {p : Addr} {o : HO} : H p = none → Ex H (upd H p o) := Evl.Ex.new
theorem Ex.mut {G H : Hp} {p : Addr} {o : HO} : Ex G H → G p = none → Ex G (upd H p o) := Evl.Ex.mut
theorem Ex.updB {H H' : Hp} {p : Addr} {o : HO} (e : Ex H H') : Ex (upd H p o) (upd H' p o) := fun a u ha => by
  by_cases h : a = p
  · subst h
    rw [upd_same] at ha ⊢
    exact ha
  · rw [upd_ne h] at ha ⊢
    exact e a u ha
theorem Ex.back {H H' : Hp} {p : Addr} (e : Ex H H') (h : H' p = none) : H p = none := by
  cases h1 : H p with
  | none => rfl
  | some o =>
    rw [e p o h1] at h
    cases h
theorem Ex.rd {H H' : Hp} {a : Addr} {u : HO} (e : Ex H H') (h : Rd H a u) : Rd H' a u := h.elim (fun h => .inl (e a _ h)) fun ⟨o, h⟩ => .inr ⟨o, e a _ h⟩
theorem Ex.sl {K : PySem.W.Frag} {H H' : Hp} {a : Addr} {xs : List V} (e : Ex H H') (h : SqL K H a xs) : SqL K H' a xs := h.elim (fun h => .inl (e.rd h)) .inr
theorem Ex.st {K : PySem.W.Frag} {H H' : Hp} {a : Addr} {xs : List V} (e : Ex H H') (h : SqT K H a xs) : SqT K H' a xs := h.elim (fun h => .inl (e.rd h)) .inr
section
variable {M : Mt} {G G' : Hp} (e : Ex G G')
include e
mutual
theorem Rp.mono : ∀ (d : D) (v : V), Rp M G d v → Rp M G' d v
  | .non, _, h => h
  | .bl _, _, h => h
  | .int _, _, h => h
  | .str _, _, h => h
  | .tup ds, _, ⟨a, vs, h1, h2, h3⟩ => ⟨a, vs, h1, e.st h2, Rps.mono ds vs h3⟩
  | .lst ds, _, ⟨a, vs, h1, h2, h3⟩ => ⟨a, vs, h1, e _ _ h2, Rps.mono ds vs h3⟩
  | .dic kvs, _, ⟨a, h1, .inl ⟨ks, h2, h3⟩⟩ => ⟨a, h1, .inl ⟨ks, e _ _ h2, Rpk.mono kvs ks h3⟩⟩
  | .dic kvs, _, ⟨a, h1, .inr ⟨xs, h2, h3⟩⟩ => ⟨a, h1, .inr ⟨xs, e _ _ h2, Rpn.mono kvs xs h3⟩⟩
  | .obj c fs, _, ⟨a, dx, vs, h1, h2, .inl ⟨h3, h4, h5⟩⟩ => ⟨a, dx, vs, h1, Rps.mono fs vs h2, .inl ⟨h3, e _ _ h4, e _ _ h5⟩⟩
  | .obj c fs, _, ⟨a, dx, vs, h1, h2, .inr ⟨h3, fv, h4, h5⟩⟩ => ⟨a, dx, vs, h1, Rps.mono fs vs h2, .inr ⟨h3, fv, e _ _ h4, h5⟩⟩
theorem Rps.mono : ∀ (ds : List D) (vs : List V), Rps M G ds vs → Rps M G' ds vs
  | [], _, h => h
  | d :: ds, _, ⟨v, r, h1, h2, h3⟩ => ⟨v, r, h1, Rp.mono d v h2, Rps.mono ds r h3⟩
theorem Rpk.mono : ∀ (kvs : List (D × D)) (ks : List (Key × V)), Rpk M G kvs ks → Rpk M G' kvs ks
  | [], _, h => h
  | (k, d) :: r, _, ⟨x, t, h1, h2, h3⟩ => ⟨x, t, h1, ⟨h2.1, Rp.mono d _ h2.2⟩, Rpk.mono r t h3⟩
theorem Rpn.mono : ∀ (kvs : List (D × D)) (ks : List (NestedKey × Addr × V)), Rpn M G kvs ks → Rpn M G' kvs ks
  | [], _, h => h
  | (k, d) :: r, _, ⟨x, t, h1, ⟨a1, a2, a3, a4, a5, a6⟩, h3⟩ => ⟨x, t, h1, ⟨a1, a2, a3, a4, Rp.mono k _ a5, Rp.mono d _ a6⟩, Rpn.mono r t h3⟩
end
end
theorem Rps.length {M : Mt} {G : Hp} : ∀ {ds : List D} {vs : List V}, Rps M G ds vs → vs.length = ds.length
  | [], _, h => by rw [show _ = [] from h]; rfl
  | d :: ds, _, ⟨v, r, h1, _, h3⟩ => by rw [h1, List.length_cons, List.length_cons, Rps.length h3]
theorem Rps.get {M : Mt} {G : Hp} : ∀ {ds : List D} {vs : List V} {i : Nat} {d : D}, Rps M G ds vs → ds[i]? = some d → ∃ v, vs[i]? = some v ∧ Rp M G d v
  | [], _, _, _, _, e => by simp at e
  | d :: ds, _, 0, _, ⟨v, r, h1, h2, h3⟩, e => by
    simp only [List.getElem?_cons_zero, Option.some.injEq] at e
    subst e h1
    exact ⟨v, rfl, h2⟩
  | d :: ds, _, i + 1, _, ⟨v, r, h1, h2, h3⟩, e => by
    subst h1
    simp only [List.getElem?_cons_succ] at e ⊢
    exact Rps.get h3 e
theorem Rps.getV {M : Mt} {G : Hp} {ds : List D} {vs : List V} {i : Nat} {v : V} (h : Rps M G ds vs) (e : vs[i]? = some v) : ∃ d, ds[i]? = some d ∧ Rp M G d v := by
  have hl : i < ds.length := by
    rw [← h.length]
    exact (List.getElem?_eq_some_iff.mp e).1
  obtain ⟨w, h1, h2⟩ := h.get (List.getElem?_eq_getElem hl)
  rw [e] at h1
  cases h1
  exact ⟨_, List.getElem?_eq_getElem hl, h2⟩
theorem Rps.append {M : Mt} {G : Hp} : ∀ {ds es : List D} {vs ws : List V}, Rps M G ds vs → Rps M G es ws → Rps M G (ds ++ es) (vs ++ ws)
  | [], _, _, _, h, k => by rw [show _ = [] from h]; exact k
  | d :: ds, _, _, _, ⟨v, r, h1, h2, h3⟩, k => ⟨v, r ++ _, by rw [h1]; rfl, h2, Rps.append h3 k⟩
theorem Rps.one {M : Mt} {G : Hp} {d : D} {v : V} (h : Rp M G d v) : Rps M G [d] [v] := ⟨v, [], rfl, h, rfl⟩
theorem Rps.take {M : Mt} {G : Hp} : ∀ {ds : List D} {vs : List V} (n : Nat), Rps M G ds vs → Rps M G (ds.take n) (vs.take n)
  | _, _, 0, _ => by simp only [List.take_zero]; exact rfl
  | [], _, n + 1, h => by rw [show _ = [] from h]; simp only [List.take_nil]; exact rfl
  | d :: ds, _, n + 1, ⟨v, r, h1, h2, h3⟩ => by
    subst h1
    exact ⟨v, r.take n, rfl, h2, Rps.take n h3⟩
theorem Rps.drop {M : Mt} {G : Hp} : ∀ {ds : List D} {vs : List V} (n : Nat), Rps M G ds vs → Rps M G (ds.drop n) (vs.drop n)
  | _, _, 0, h => h
  | [], _, n + 1, h => by rw [show _ = [] from h]; simp only [List.drop_nil]; exact rfl
  | d :: ds, _, n + 1, ⟨v, r, h1, h2, h3⟩ => by
    subst h1
    exact Rps.drop n h3
/-! ### a new thing, everything kept -/
structure Nw (G H G' H' : Hp) : Prop where
  gg : Ex G G'
  gh : Ex G' H'
  hh : Ex H H'
  nw : ∀ a, G' a ≠ none → G a ≠ none ∨ H a = none
theorem Nw.refl {G H : Hp} (h : Ex G H) : Nw G H G H := ⟨Ex.refl _, h, Ex.refl _, fun _ q => .inl q⟩
theorem Nw.trans {G H G1 H1 G2 H2 : Hp} (a : Nw G H G1 H1) (b : Nw G1 H1 G2 H2) : Nw G H G2 H2 :=
  ⟨a.gg.trans b.gg, b.gh, a.hh.trans b.hh, fun x q => (b.nw x q).elim (a.nw x) fun z => .inr (a.hh.back z)⟩
theorem Nw.new {G H : Hp} {p : Addr} {o : HO} (h : Ex G H) (hp : H p = none) : Nw G H (upd G p o) (upd H p o) :=
  ⟨Ex.new (h.back hp), h.updB, Ex.new hp, fun a q => by
    by_cases e : a = p
    · subst e
      exact .inr hp
    · rw [upd_ne e] at q
      exact .inl q⟩
theorem Rp.of_tup {M : Mt} {G : Hp} {ds : List D} {p : Addr} {vs : List V} (h : Rps M G ds vs) (hp : G p = none) : Rp M (upd G p (.tup vs)) (.tup ds) (.ref p) := ⟨p, vs, rfl, .inl (.inl upd_same), Rps.mono (Ex.new hp) _ _ h⟩
theorem Rp.of_lst {M : Mt} {G : Hp} {ds : List D} {p : Addr} {vs : List V} (h : Rps M G ds vs) (hp : G p = none) : Rp M (upd G p (.lst vs)) (.lst ds) (.ref p) := ⟨p, vs, rfl, upd_same, Rps.mono (Ex.new hp) _ _ h⟩
end TF
/-! #### text TFb -/
set_option Elab.async false
set_option linter.all false
set_option maxRecDepth 100000
set_option maxHeartbeats 2000000
/-! TFb: the names' contents, steps, readings of expressions. -/
namespace TF
open PySem L2
structure Xc where
  c : Str
  fs : Option (List (Str × D))
inductive S where
  | un | fz (d : D) | ol (ds : List D) | od (kvs : List (D × D))
  | src (p q : Addr) (st : Int) (cells : List Int) (ix : Int)
  | sl (ds : List D) | ex (x : Xc) | me (a dx : Addr) (c : Str) (fs : List (Str × D)) | raw (ns : List Int)
  | mo (a dx : Addr) (c : Str) (fs : List (Str × D)) (os : List (Str × List D)) | box (p q : Addr) (st : Int) (cells : List Int)
  | cur (a dx : Addr) (c : Str) (fs : List (Str × D))
abbrev Ev := List S
/-- what may change while an expression runs -/
def isSh : S → Bool
  | .src _ _ _ _ _ => true
  | .sl _ => true
  | .box _ _ _ _ => true
  | .cur _ _ _ _ => true
  | _ => false
def FldOk (M : Mt) (G : Hp) (fs : List (Str × D)) (fv : List (Str × V)) : Prop := ∀ f d, fs.lookup f = some d → ∃ v, fv.lookup f = some v ∧ Rp M G d v
def DicAt (M : Mx) (G H : Hp) (p : Addr) (kvs : List (D × D)) : Prop := (∃ ks, H p = some (.dK ks) ∧ Rpk M G kvs ks) ∨ ∃ xs, H p = some (dN M p xs) ∧ Rpn M G kvs xs
def putG {α : Type} (i : Nat) (x : α) (l : List (Option α)) : List (Option α) := (l ++ List.replicate (i + 1 - l.length) none).set i (some x)
/-- the slots, by the stores so far (the last first) -/
def slD (c : Str) : List (Str × D) → List (Option D)
  | [] => []
  | q :: r => match slotIx c q.1 with
    | some i => putG i q.2 (slD c r)
    | none => slD c r
def RpO1 (M : Mt) (G : Hp) : Option D → Option V → Prop
  | none, none => True
  | some d, some v => Rp M G d v
  | _, _ => False
def RpO (M : Mt) (G : Hp) : List (Option D) → List (Option V) → Prop
  | [], vs => vs = []
  | o :: r, vs => ∃ v t, vs = v :: t ∧ RpO1 M G o v ∧ RpO M G r t
theorem RpO.mono {M : Mt} {G G' : Hp} (g : Ex G G') : ∀ {l : List (Option D)} {vs : List (Option V)}, RpO M G l vs → RpO M G' l vs
  | [], _, h => h
  | o :: r, _, ⟨v, t, e, h1, h2⟩ => ⟨v, t, e, by
    cases o <;> cases v <;> first | exact h1 | exact Rp.mono g _ _ h1, RpO.mono g h2⟩
theorem RpO.length {M : Mt} {G : Hp} : ∀ {l : List (Option D)} {vs : List (Option V)}, RpO M G l vs → vs.length = l.length
  | [], _, h => by rw [show _ = [] from h]; rfl
  | o :: r, _, ⟨v, t, e, _, h⟩ => by rw [e, List.length_cons, List.length_cons, RpO.length h]
theorem RpO.append {M : Mt} {G : Hp} : ∀ {l : List (Option D)} {vs : List (Option V)} (n : Nat), RpO M G l vs → RpO M G (l ++ List.replicate n none) (vs ++ List.replicate n none)
  | [], _, 0, h => by rw [show _ = [] from h]; exact rfl
  | [], _, n + 1, h => by
    rw [show _ = [] from h]
    exact ⟨none, List.replicate n none, rfl, True.intro, RpO.append (l := []) n rfl⟩
  | o :: r, _, n, ⟨v, t, e, h1, h2⟩ => ⟨v, t ++ List.replicate n none, by rw [e]; rfl, h1, RpO.append n h2⟩
theorem RpO.set {M : Mt} {G : Hp} {d : D} {v : V} (hr : Rp M G d v) : ∀ {l : List (Option D)} {vs : List (Option V)} (i : Nat), RpO M G l vs → RpO M G (l.set i (some d)) (vs.set i (some v))
  | [], _, i, h => by rw [show _ = [] from h]; exact rfl
  | o :: r, _, 0, ⟨w, t, e, h1, h2⟩ => by rw [e]; exact ⟨some v, t, rfl, hr, h2⟩
  | o :: r, _, i + 1, ⟨w, t, e, h1, h2⟩ => by rw [e]; exact ⟨w, t.set i (some v), rfl, h1, RpO.set hr i h2⟩
theorem RpO.put {M : Mt} {G : Hp} {d : D} {v : V} {l : List (Option D)} {vs : List (Option V)} (h : RpO M G l vs) (hr : Rp M G d v) (i : Nat) : RpO M G (putG i d l) (SlX.putS i v vs) := by
  unfold putG SlX.putS
  rw [h.length]
  exact RpO.set hr i (h.append _)
theorem RpO.all {M : Mt} {G : Hp} : ∀ {ds : List D} {vs : List (Option V)}, RpO M G (ds.map some) vs → ∃ ws, vs = ws.map some ∧ Rps M G ds ws
  | [], _, h => ⟨[], h, rfl⟩
  | d :: ds, _, ⟨v, t, e, h1, h2⟩ => by
    cases v with
    | none => exact h1.elim
    | some v =>
      obtain ⟨ws, e2, r⟩ := RpO.all h2
      exact ⟨v :: ws, by rw [e, e2]; rfl, v, ws, rfl, h1, r⟩
/-- an object of the class c that is being made -/
def MeOk (M : Mt) (G H : Hp) (c : Str) (a dx : Addr) (fs : List (Str × D)) : Prop :=
  dx ≠ a ∧ H dx ≠ none ∧ ((slotC c = true ∧ ∃ vs, SlX.Slt H a (He.ga M.K c) dx vs ∧ RpO M G (slD c fs) vs) ∨
    (slotC c = false ∧ ∃ fv, H a = some (.ins (He.ga M.K c) dx fv) ∧ FldOk M G fs fv ∧ (∀ f, fs.lookup f = none → fv.lookup f = none) ∧ fv.length ≤ fs.length))
/-- the lists that an object being made owns -/
def OwnF (M : Mt) (G H : Hp) : List (Str × List D) → List (Str × V) → List Addr → Prop
  | [], _, ps => ps = []
  | (f, ds) :: os, fv, ps => ∃ p r vs, ps = p :: r ∧ fv.lookup f = some (.ref p) ∧ H p = some (.lst vs) ∧ Rps M G ds vs ∧ OwnF M G H os fv r
def MoOk (M : Mt) (G H : Hp) (c : Str) (a dx : Addr) (fs : List (Str × D)) (os : List (Str × List D)) (ps : List Addr) : Prop :=
  H dx ≠ none ∧ slotC c = false ∧ (a :: dx :: ps).Nodup ∧ ∃ fv, H a = some (.ins (He.ga M.K c) dx fv) ∧ fv.length ≤ fs.length + os.length ∧ FldOk M G fs fv ∧ OwnF M G H os fv ps ∧ ∀ f, fs.lookup f = none → os.lookup f = none → fv.lookup f = none
/-- an object that changes -/
def CurOk (M : Mt) (G H : Hp) (c : Str) (a dx : Addr) (fs : List (Str × D)) : Prop :=
  dx ≠ a ∧ H dx ≠ none ∧ slotC c = false ∧ ∃ fv, H a = some (.ins (He.ga M.K c) dx fv) ∧ FldOk M G fs fv ∧ (∀ f, fs.lookup f = none → fv.lookup f = none) ∧ fv.length ≤ 900
def SlotOk (M : Mx) (G H : Hp) : S → Option V → List Addr → Prop
  | .un, _, fp => fp = []
  | .fz d, o, fp => fp = [] ∧ ∃ v, o = some v ∧ Rp M G d v
  | .ol ds, o, fp => ∃ p vs, o = some (.ref p) ∧ fp = [p] ∧ H p = some (.lst vs) ∧ Rps M G ds vs
  | .od kvs, o, fp => ∃ p, o = some (.ref p) ∧ fp = [p] ∧ DicAt M G H p kvs
  | .src p q st cells ix, o, fp => o = some (.ref p) ∧ fp = [p, q] ∧ H p = some (.lst [.int st, .ref q, .int ix]) ∧ H q = some (.lst (cells.map V.int))
  | .sl ds, o, fp => ∃ p vs, o = some (.ref p) ∧ fp = [p] ∧ H p = some (.lst vs) ∧ Rps M G ds vs
  | .ex x, o, fp => ∃ a cls d, M.xo = some (a, cls, d) ∧ o = some (.ref a) ∧ cls = .ref (He.ga M.K x.c) ∧ match x.fs with
    | none => d = none ∧ fp = []
    | some fs => ∃ dd fv, d = some dd ∧ fp = [dd] ∧ H dd = some (.xd fv) ∧ FldOk M G fs fv
  | .me a dx c fs, o, fp => o = some (.ref a) ∧ fp = [a, dx] ∧ MeOk M G H c a dx fs
  | .mo a dx c fs os, o, fp => o = some (.ref a) ∧ ∃ ps, fp = a :: dx :: ps ∧ MoOk M G H c a dx fs os ps
  | .box p q st cells, o, fp => o = some (.ref p) ∧ fp = [p, q] ∧ H p = some (.lst [.ref q, .int st]) ∧ H q = some (.lst (cells.map V.int))
  | .cur a dx c fs, o, fp => o = some (.ref a) ∧ fp = [a, dx] ∧ CurOk M G H c a dx fs
  | .raw ns, o, fp => fp = [] ∧ ∃ a, o = some (.ref a) ∧ SqL M.K G a (ns.map V.int)
theorem MeOk.there {M : Mt} {G H : Hp} {c : Str} {a dx : Addr} {fs : List (Str × D)} (h : MeOk M G H c a dx fs) : H a ≠ none ∧ H dx ≠ none := by
  obtain ⟨_, h1, h2⟩ := h
  rcases h2 with ⟨_, vs, h2, _⟩ | ⟨_, fv, h2, _⟩
  · rcases h2 with h2 | h2
    · exact ⟨by rw [h2.1]; exact fun z => (nomatch z), h1⟩
    · refine ⟨?_, h1⟩
      rw [h2.1]
      unfold SlX.SlO
      exact fun z => nomatch z
  · exact ⟨by rw [h2]; exact fun z => (nomatch z), h1⟩
theorem OwnF.there {M : Mt} {G H : Hp} : ∀ {os : List (Str × List D)} {fv : List (Str × V)} {ps : List Addr}, OwnF M G H os fv ps → ∀ a ∈ ps, H a ≠ none
  | [], _, _, h, a, ha => by rw [show _ = [] from h] at ha; cases ha
  | (f, ds) :: os, fv, _, ⟨p, r, vs, rfl, h1, h2, h3, h4⟩, a, ha => by
    rcases List.mem_cons.mp ha with rfl | ha
    · rw [h2]; exact fun z => nomatch z
    · exact h4.there a ha
theorem OwnF.step {M : Mt} {G H G' H' : Hp} (g : Ex G G') : ∀ {os : List (Str × List D)} {fv : List (Str × V)} {ps : List Addr}, OwnF M G H os fv ps → (∀ a ∈ ps, H' a = H a) → OwnF M G' H' os fv ps
  | [], _, _, h, _ => h
  | (f, ds) :: os, fv, _, ⟨p, r, vs, rfl, h1, h2, h3, h4⟩, k => ⟨p, r, vs, rfl, h1, (k p List.mem_cons_self).trans h2, Rps.mono g _ _ h3, h4.step g fun a ha => k a (List.mem_cons_of_mem _ ha)⟩
theorem SlotOk.there {M : Mx} {G H : Hp} {s : S} {o : Option V} {fp : List Addr} (h : SlotOk M G H s o fp) : ∀ a ∈ fp, H a ≠ none := by
  intro a ha
  cases s with
  | un => rw [show fp = [] from h] at ha; cases ha
  | fz d => rw [h.1] at ha; cases ha
  | raw ns => rw [h.1] at ha; cases ha
  | ol ds =>
    obtain ⟨p, vs, _, h2, h3, _⟩ := h
    rw [h2, List.mem_singleton] at ha
    subst ha
    rw [h3]
    exact fun z => nomatch z
  | od kvs =>
    obtain ⟨p, _, h2, h3⟩ := h
    rw [h2, List.mem_singleton] at ha
    subst ha
    rcases h3 with ⟨ks, h3, _⟩ | ⟨ks, h3, _⟩ <;> (rw [h3]; exact fun z => nomatch z)
  | src p q st cells ix =>
    obtain ⟨_, h2, h3, h4⟩ := h
    rw [h2] at ha
    rcases List.mem_cons.mp ha with rfl | ha
    · rw [h3]; exact fun z => nomatch z
    · rw [List.mem_singleton] at ha
      subst ha
      rw [h4]; exact fun z => nomatch z
  | sl ds =>
    obtain ⟨p, vs, _, h2, h3, _⟩ := h
    rw [h2, List.mem_singleton] at ha
    subst ha
    rw [h3]
    exact fun z => nomatch z
  | ex x =>
    obtain ⟨b, cls, d, _, _, _, h⟩ := h
    cases hx : x.fs with
    | none =>
      rw [hx] at h
      rw [h.2] at ha
      cases ha
    | some fs =>
      rw [hx] at h
      obtain ⟨dd, fv, _, h2, h3, _⟩ := h
      rw [h2, List.mem_singleton] at ha
      subst ha
      rw [h3]
      exact fun z => nomatch z
  | me b dx c fs =>
    obtain ⟨_, h2, h3⟩ := h
    rw [h2] at ha
    rcases List.mem_cons.mp ha with rfl | ha
    · exact h3.there.1
    · rw [List.mem_singleton] at ha
      subst ha
      exact h3.there.2
  | mo b dx c fs os =>
    obtain ⟨_, ps, h2, h3, h4, h5, fv, h6, _, _, h7, _⟩ := h
    rw [h2] at ha
    rcases List.mem_cons.mp ha with rfl | ha
    · rw [h6]; exact fun z => nomatch z
    · rcases List.mem_cons.mp ha with rfl | ha
      · exact h3
      · exact h7.there a ha
  | box p q st cells =>
    obtain ⟨_, h2, h3, h4⟩ := h
    rw [h2] at ha
    rcases List.mem_cons.mp ha with rfl | ha
    · rw [h3]; exact fun z => nomatch z
    · rw [List.mem_singleton] at ha
      subst ha
      rw [h4]; exact fun z => nomatch z
  | cur b dx c fs =>
    obtain ⟨_, h2, _, h4, _, fv, h5, _⟩ := h
    rw [h2] at ha
    rcases List.mem_cons.mp ha with rfl | ha
    · rw [h5]; exact fun z => nomatch z
    · rw [List.mem_singleton] at ha
      subst ha
      exact h4
theorem FldOk.mono {M : Mt} {G G' : Hp} {fs : List (Str × D)} {fv : List (Str × V)} (h : FldOk M G fs fv) (g : Ex G G') : FldOk M G' fs fv := fun f d e => (h f d e).elim fun v q => ⟨v, q.1, Rp.mono g _ _ q.2⟩
theorem MeOk.step {M : Mt} {G H G' H' : Hp} {c : Str} {a dx : Addr} {fs : List (Str × D)} (h : MeOk M G H c a dx fs) (g : Ex G G') (k1 : H' a = H a) (k2 : H' dx = H dx) : MeOk M G' H' c a dx fs := by
  obtain ⟨h0, h1, ⟨hs, vs, h2, h3⟩ | ⟨hs, fv, h2, h3, h4, h5⟩⟩ := h
  · refine ⟨h0, by rw [k2]; exact h1, .inl ⟨hs, vs, ?_, h3.mono g⟩⟩
    · rcases h2 with ⟨z1, z2⟩ | ⟨z1, z2⟩
      · exact .inl ⟨k1.trans z1, z2⟩
      · exact .inr ⟨k1.trans z1, k2.trans z2⟩
  · exact ⟨h0, by rw [k2]; exact h1, .inr ⟨hs, fv, k1.trans h2, h3.mono g, h4, h5⟩⟩
theorem DicAt.step {M : Mx} {G H G' H' : Hp} {p : Addr} {kvs : List (D × D)} (h : DicAt M G H p kvs) (g : Ex G G') (k : H' p = H p) : DicAt M G' H' p kvs := by
  rcases h with ⟨ks, h, r⟩ | ⟨xs, h, r⟩
  · exact .inl ⟨ks, k.trans h, Rpk.mono g _ _ r⟩
  · exact .inr ⟨xs, k.trans h, Rpn.mono g _ _ r⟩
theorem SlotOk.step {M : Mx} {G H G' H' : Hp} {s : S} {o : Option V} {fp : List Addr} (h : SlotOk M G H s o fp) (g : Ex G G') (k : ∀ a ∈ fp, H' a = H a) : SlotOk M G' H' s o fp := by
  cases s with
  | un => exact h
  | fz d => exact ⟨h.1, h.2.elim fun v q => ⟨v, q.1, Rp.mono g _ _ q.2⟩⟩
  | raw ns => exact ⟨h.1, h.2.elim fun a q => ⟨a, q.1, g.sl q.2⟩⟩
  | ol ds =>
    obtain ⟨p, vs, h1, h2, h3, h4⟩ := h
    exact ⟨p, vs, h1, h2, (k p (by rw [h2]; exact List.mem_cons_self)).trans h3, Rps.mono g _ _ h4⟩
  | od kvs =>
    obtain ⟨p, h1, h2, h3⟩ := h
    exact ⟨p, h1, h2, h3.step g (k p (by rw [h2]; exact List.mem_cons_self))⟩
  | src p q st cells ix =>
    obtain ⟨h1, h2, h3, h4⟩ := h
    exact ⟨h1, h2, (k p (by rw [h2]; exact List.mem_cons_self)).trans h3, (k q (by rw [h2]; exact List.mem_cons_of_mem _ List.mem_cons_self)).trans h4⟩
  | sl ds =>
    obtain ⟨p, vs, h1, h2, h3, h4⟩ := h
    exact ⟨p, vs, h1, h2, (k p (by rw [h2]; exact List.mem_cons_self)).trans h3, Rps.mono g _ _ h4⟩
  | ex x =>
    obtain ⟨b, cls, d, h1, h2, h3, h⟩ := h
    refine ⟨b, cls, d, h1, h2, h3, ?_⟩
    cases hx : x.fs with
    | none =>
      rw [hx] at h
      exact h
    | some fs =>
      rw [hx] at h
      obtain ⟨dd, fv, e1, e2, e3, e4⟩ := h
      exact ⟨dd, fv, e1, e2, (k dd (by rw [e2]; exact List.mem_cons_self)).trans e3, e4.mono g⟩
  | me b dx c fs =>
    obtain ⟨h1, h2, h3⟩ := h
    exact ⟨h1, h2, h3.step g (k b (by rw [h2]; exact List.mem_cons_self)) (k dx (by rw [h2]; exact List.mem_cons_of_mem _ List.mem_cons_self))⟩
  | mo b dx c fs os =>
    obtain ⟨h1, ps, h2, h3, h4, h5, fv, h6, h7, h8, h9, h10⟩ := h
    subst h2
    exact ⟨h1, ps, rfl, by rw [k dx (List.mem_cons_of_mem _ List.mem_cons_self)]; exact h3, h4, h5, fv, (k b List.mem_cons_self).trans h6, h7, h8.mono g, h9.step g fun a ha => k a (List.mem_cons_of_mem _ (List.mem_cons_of_mem _ ha)), h10⟩
  | box p q st cells =>
    obtain ⟨h1, h2, h3, h4⟩ := h
    exact ⟨h1, h2, (k p (by rw [h2]; exact List.mem_cons_self)).trans h3, (k q (by rw [h2]; exact List.mem_cons_of_mem _ List.mem_cons_self)).trans h4⟩
  | cur b dx c fs =>
    obtain ⟨h1, h2, h3, h4, h5, fv, h6, h7, h8⟩ := h
    exact ⟨h1, h2, h3, by rw [k dx (by rw [h2]; exact List.mem_cons_of_mem _ List.mem_cons_self)]; exact h4, h5, fv, (k b (by rw [h2]; exact List.mem_cons_self)).trans h6, h7.mono g, h8⟩
/-- the names' contents -/
structure Env (M : Mx) (F : Hp) (Y : List Addr) (G H : Hp) (σ : St) (e : Ev) : Prop where
  gh : Ex G H
  fh : Ex F H
  len : σ.length = e.length
  sl : ∃ fp : Nat → List Addr, (∀ i s, e[i]? = some s → SlotOk M G H s (σ[i]?).join (fp i)) ∧ (∀ i j a, a ∈ fp i → a ∈ fp j → i = j) ∧ (∀ i a, a ∈ fp i → G a = none ∧ F a = none) ∧ (∀ i, e[i]? = none → fp i = []) ∧ ∀ i s a, e[i]? = some s → a ∈ fp i → (isSh s = true ↔ a ∈ Y)
theorem Env.nw {M : Mx} {F G H G' H' : Hp} {σ : St} {e : Ev} (h : Env M F Y G H σ e) (n : Nw G H G' H') : Env M F Y G' H' σ e := by
  obtain ⟨fp, h1, h2, h3, h4, h5⟩ := h.sl
  have th : ∀ i a, a ∈ fp i → H a ≠ none := fun i a ha => by
    cases he : e[i]? with
    | none => rw [h4 i he] at ha; cases ha
    | some s => exact (h1 i s he).there a ha
  have kp : ∀ i a, a ∈ fp i → H' a = H a := fun i a ha => by
    cases q : H a with
    | none => exact absurd q (th i a ha)
    | some o => exact n.hh a o q
  refine ⟨n.gh, h.fh.trans n.hh, h.len, fp, fun i s hs => (h1 i s hs).step n.gg (kp i), h2, fun i a ha => ⟨?_, (h3 i a ha).2⟩, h4, h5⟩
  cases q : G' a with
  | none => rfl
  | some o =>
    rcases n.nw a (by rw [q]; exact fun z => nomatch z) with z | z
    · exact absurd (h3 i a ha).1 z
    · exact absurd z (th i a ha)
/-- a step of an expression: the frozen heap grows, all but the source stays -/
structure Stp (M : Mx) (F : Hp) (Y : List Addr) (G H : Hp) (σ : St) (e : Ev) (G' H' : Hp) (e' : Ev) : Prop where
  env : Env M F Y G' H' σ e'
  gg : Ex G G'
  kp : ∀ a o, H a = some o → a ∉ Y → H' a = some o
  nw : ∀ a, G' a ≠ none → G a ≠ none ∨ F a = none
theorem Stp.refl {M : Mx} {F G H : Hp} {σ : St} {e : Ev} (h : Env M F Y G H σ e) : Stp M F Y G H σ e G H e := ⟨h, Ex.refl _, fun _ _ q _ => q, fun _ q => .inl q⟩
theorem Stp.trans {M : Mx} {F G H G1 H1 G2 H2 : Hp} {σ : St} {e e1 e2 : Ev} (a : Stp M F Y G H σ e G1 H1 e1) (b : Stp M F Y G1 H1 σ e1 G2 H2 e2) : Stp M F Y G H σ e G2 H2 e2 :=
  ⟨b.env, a.gg.trans b.gg, fun x o h n => b.kp x o (a.kp x o h n) n, fun x q => (b.nw x q).elim (a.nw x) .inr⟩
theorem Stp.ofN {M : Mx} {F G H G' H' : Hp} {σ : St} {e : Ev} (h : Env M F Y G H σ e) (n : Nw G H G' H') : Stp M F Y G H σ e G' H' e := ⟨h.nw n, n.gg, fun a o q _ => n.hh a o q, fun a q => (n.nw a q).elim .inl fun z => .inr (h.fh.back z)⟩
/-- d is what v stands for now: frozen, or a list or a dict of the frame's own that holds frozen things -/
def Rpv (M : Mx) (G H : Hp) (S : List Addr) (d : D) (v : V) : Prop :=
  Rp M G d v ∨ (∃ p vs ds, d = .lst ds ∧ v = .ref p ∧ p ∉ S ∧ H p = some (.lst vs) ∧ Rps M G ds vs) ∨ ∃ p kvs, d = .dic kvs ∧ v = .ref p ∧ p ∉ S ∧ DicAt M G H p kvs
theorem Rpv.any {M : Mx} {G H : Hp} {S : List Addr} {d : D} {v : V} (h : Rpv M G H S d v) : Rpv M G H [] d v := by
  rcases h with h | ⟨p, vs, ds, h1, h2, _, h3⟩ | ⟨p, kvs, h1, h2, _, h3⟩
  · exact .inl h
  · exact .inr (.inl ⟨p, vs, ds, h1, h2, (fun z => nomatch z), h3⟩)
  · exact .inr (.inr ⟨p, kvs, h1, h2, (fun z => nomatch z), h3⟩)
theorem DicAt.at {M : Mx} {G H : Hp} {p : Addr} {kvs : List (D × D)} (h : DicAt M G H p kvs) : ∃ o, H p = some o := by
  rcases h with ⟨ks, h, _⟩ | ⟨ks, h, _⟩ <;> exact ⟨_, h⟩
theorem Rpv.stp {M : Mx} {F G H G' H' : Hp} {σ : St} {e e' : Ev} {d : D} {v : V} (h : Rpv M G H Y d v) (s : Stp M F Y G H σ e G' H' e') : Rpv M G' H' Y d v := by
  rcases h with h | ⟨p, vs, ds, h1, h2, hn, h3, h4⟩ | ⟨p, kvs, h1, h2, hn, h3⟩
  · exact .inl (Rp.mono s.gg _ _ h)
  · exact .inr (.inl ⟨p, vs, ds, h1, h2, hn, s.kp p _ h3 hn, Rps.mono s.gg _ _ h4⟩)
  · obtain ⟨o, ho⟩ := h3.at
    exact .inr (.inr ⟨p, kvs, h1, h2, hn, h3.step s.gg ((s.kp p o ho hn).trans ho.symm)⟩)
/-- a list, seen -/
theorem Rpv.list {M : Mx} {G H : Hp} {S : List Addr} {ds : List D} {v : V} (h : Rpv M G H S (.lst ds) v) (g : Ex G H) : ∃ p vs, v = .ref p ∧ H p = some (.lst vs) ∧ Rps M G ds vs := by
  rcases h with ⟨a, vs, h1, h2, h3⟩ | ⟨p, vs, es, h1, h2, _, h3, h4⟩ | ⟨p, kvs, h1, _⟩
  · exact ⟨a, vs, h1, g _ _ h2, h3⟩
  · cases h1
    exact ⟨p, vs, h2, h3, h4⟩
  · cases h1
theorem Rpv.tup {M : Mx} {G H : Hp} {S : List Addr} {ds : List D} {v : V} (h : Rpv M G H S (.tup ds) v) (g : Ex G H) : ∃ p vs, v = .ref p ∧ SqT M.K H p vs ∧ Rps M G ds vs := by
  rcases h with ⟨a, vs, h1, h2, h3⟩ | ⟨p, vs, es, h1, h2, _, h3, h4⟩ | ⟨p, kvs, h1, _⟩
  · exact ⟨a, vs, h1, g.st h2, h3⟩
  · cases h1
  · cases h1
theorem Rpv.dic {M : Mx} {G H : Hp} {S : List Addr} {kvs : List (D × D)} {v : V} (h : Rpv M G H S (.dic kvs) v) (g : Ex G H) : ∃ p, v = .ref p ∧ DicAt M G H p kvs := by
  rcases h with ⟨a, h1, h2⟩ | ⟨p, vs, es, h1, _⟩ | ⟨p, kvs', h1, h2, _, h3⟩
  · refine ⟨a, h1, ?_⟩
    rcases h2 with ⟨ks, h2, r⟩ | ⟨ks, h2, r⟩
    · exact .inl ⟨ks, g _ _ h2, r⟩
    · exact .inr ⟨ks, g _ _ h2, r⟩
  · cases h1
  · cases h1
    exact ⟨p, h2, h3⟩
theorem Rpv.int {M : Mx} {G H : Hp} {S : List Addr} {i : Int} {v : V} (h : Rpv M G H S (.int i) v) : v = .int i := by
  rcases h with h | ⟨p, vs, es, h1, _⟩ | ⟨p, kvs, h1, _⟩
  · exact h
  · cases h1
  · cases h1
theorem Rpv.str {M : Mx} {G H : Hp} {S : List Addr} {x : Str} {v : V} (h : Rpv M G H S (.str x) v) : v = .str x := by
  rcases h with h | ⟨p, vs, es, h1, _⟩ | ⟨p, kvs, h1, _⟩
  · exact h
  · cases h1
  · cases h1
theorem Rpv.bl {M : Mx} {G H : Hp} {S : List Addr} {b : Bool} {v : V} (h : Rpv M G H S (.bl b) v) : v = .bl b := by
  rcases h with h | ⟨p, vs, es, h1, _⟩ | ⟨p, kvs, h1, _⟩
  · exact h
  · cases h1
  · cases h1
theorem Rpv.non {M : Mx} {G H : Hp} {S : List Addr} {v : V} (h : Rpv M G H S .non v) : v = .non := by
  rcases h with h | ⟨p, vs, es, h1, _⟩ | ⟨p, kvs, h1, _⟩
  · exact h
  · cases h1
  · cases h1
theorem Rpv.obj {M : Mx} {G H : Hp} {S : List Addr} {c : Str} {fs : List D} {v : V} (h : Rpv M G H S (.obj c fs) v) : Rp M G (.obj c fs) v := by
  rcases h with h | ⟨p, vs, es, h1, _⟩ | ⟨p, kvs, h1, _⟩
  · exact h
  · cases h1
  · cases h1
/-! ### what comes of an expression -/
inductive Rx where
  | stuck | val (d : D) (e : Ev) | exc (x : Xc) (e : Ev)
def Rx.bind (r : Rx) (k : D → Ev → Rx) : Rx := match r with
  | .stuck => .stuck
  | .val d e => k d e
  | .exc x e => .exc x e
/-- from an answer of a plain function -/
def Rx.of (o : Option D) (e : Ev) : Rx := match o with
  | some d => .val d e
  | none => .stuck
def XcOk (M : Mt) (N G H : Hp) (x : Xc) (cls : Value) (d : Option Addr) : Prop := cls = .ref (He.ga M.K x.c) ∧ match x.fs with
  | none => d = none
  | some fs => ∃ dd fv, d = some dd ∧ H dd = some (.xd fv) ∧ FldOk M G fs fv ∧ G dd = none ∧ N dd = none
/-- what is wanted of an answer -/
def Ok1 (M : Mx) (W : WX) (F : Hp) (Y : List Addr) (G H : Hp) (σ : St) (e : Ev) (r : Rx) (Q : D → List Addr → V → Hp → Hp → Prop) : Prop := match r with
  | .stuck => False
  | .val d e' => ∀ v G' H', Stp M F Y G H σ e G' H' e' → Q d Y v G' H'
  | .exc x e' => ∀ cls a G' H', Stp M F Y G H σ e G' H' e' → XcOk M F G' H' x cls a → W cls a σ H'
def QD (M : Mx) (Q : VK) : D → List Addr → V → Hp → Hp → Prop := fun d _ v G' H' => Rp M G' d v → Q v H'
def QV (M : Mx) (Q : VK) : D → List Addr → V → Hp → Hp → Prop := fun d S v G' H' => Rpv M G' H' S d v → Q v H'
abbrev EX := Ev → Rx
/-- an expression's reading: its answer frozen; its answer seen -/
def tD (M : Mx) (W : WX) (f : EX) : TE := fun σ H Q => ∃ F Y G e, Env M F Y G H σ e ∧ Ok1 M W F Y G H σ e (f e) (QD M Q)
def tV (M : Mx) (W : WX) (f : EX) : TE := fun σ H Q => ∃ F Y G e, Env M F Y G H σ e ∧ Ok1 M W F Y G H σ e (f e) (QV M Q)
def tT (M : Mx) (W : WX) (f : EX) : TT := fun σ H Q => ∃ F Y G e, Env M F Y G H σ e ∧ match f e with
  | .val (.bl b) e' => ∀ G' H', Stp M F Y G H σ e G' H' e' → Q b H'
  | .exc x e' => ∀ cls a G' H', Stp M F Y G H σ e G' H' e' → XcOk M F G' H' x cls a → W cls a σ H'
  | _ => False
theorem PE.of {X : Cx} {a : Expr} {t t' : TE} (h : PE X a t) (w : ∀ σ H Q, t' σ H Q → t σ H Q) : PE X a t' := ⟨fun pins s σ H Q I q => h.run pins s σ H Q I (w σ H Q q)⟩
theorem PT.of {X : Cx} {a : Expr} {t t' : TT} (h : PT X a t) (w : ∀ σ H Q, t' σ H Q → t σ H Q) : PT X a t' := ⟨fun pins s σ H Q I q => h.run pins s σ H Q I (w σ H Q q)⟩
theorem PS.of {X : Cx} {a : Stmt} {t t' : TS} (h : PS X a t) (w : ∀ D σ H, t' D σ H → t D σ H) : PS X a t' := ⟨fun pins s σ H D I q => h.run pins s σ H D I (w D σ H q)⟩
theorem PSs.of {X : Cx} {a : List Stmt} {t t' : TS} (h : PSs X a t) (w : ∀ D σ H, t' D σ H → t D σ H) : PSs X a t' := ⟨fun pins s σ H D I q => h.run pins s σ H D I (w D σ H q)⟩
/-- seen is less than frozen -/
theorem PE.seen {X : Cx} {a : Expr} {M : Mx} {W : WX} {f : EX} (h : PE X a (tD M W f)) : PE X a (tV M W f) := PE.of h fun σ H Q ⟨F, Y, G, e, hE, ho⟩ => ⟨F, Y, G, e, hE, by
  cases hf : f e with
  | stuck => rw [hf] at ho; exact ho
  | val d e' => rw [hf] at ho; exact fun v G' H' s r => ho v G' H' s (.inl r)
  | exc x e' => rw [hf] at ho; exact ho⟩
/-- on with an answer -/
theorem Ok1.bind {M : Mx} {W : WX} {F G H : Hp} {σ : St} {e : Ev} {r : Rx} {k : D → Ev → Rx} {Q P : D → List Addr → V → Hp → Hp → Prop} (h : Ok1 M W F Y G H σ e (r.bind k) Q)
    (hk : ∀ d e1 v G1 H1, r = .val d e1 → Stp M F Y G H σ e G1 H1 e1 → (Ok1 M W F Y G1 H1 σ e1 (k d e1) Q) → P d Y v G1 H1) : Ok1 M W F Y G H σ e r P := by
  cases r with
  | stuck => exact h
  | val d e1 =>
    intro v G1 H1 s
    refine hk d e1 v G1 H1 rfl s ?_
    have h2 : Ok1 M W F Y G H σ e (k d e1) Q := h
    cases hr : k d e1 with
    | stuck => rw [hr] at h2; exact h2.elim
    | val d2 e2 =>
      rw [hr] at h2
      intro v2 G2 H2 s2
      exact h2 v2 G2 H2 (s.trans s2)
    | exc x e2 =>
      rw [hr] at h2
      exact fun cls a G2 H2 s2 => h2 cls a G2 H2 (s.trans s2)
  | exc x e1 => exact h
end TF
/-! #### text TFc -/
set_option Elab.async false
set_option linter.all false
set_option maxRecDepth 100000
set_option maxHeartbeats 2000000
/-! TFc: readings of expressions: names, constants, operators, displays, calls. -/
namespace TF
open PySem L2
section
variable {X : Cx} {xo : Xo} {W : WX} {a b c : Expr} {f g h : EX} {pos : Pos}
/-! ### names and constants -/
def eC (d : D) : EX := fun e => .val d e
/-- what is frozen at a name -/
def eV (i : Nat) : EX := fun e => match e[i]? with
  | some (.fz d) => .val d e
  | _ => .stuck
/-- what stands at a name, seen -/
def eW (i : Nat) : EX := fun e => match e[i]? with
  | some (.fz d) => .val d e
  | some (.ol ds) => .val (.lst ds) e
  | some (.od kvs) => .val (.dic kvs) e
  | _ => .stuck
theorem Env.slot {M : Mx} {F G H : Hp} {σ : St} {e : Ev} (E : Env M F Y G H σ e) {i : Nat} {s : S} (h : e[i]? = some s) : ∃ o fp, σ[i]? = some o ∧ SlotOk M G H s o fp ∧ (∀ x ∈ fp, G x = none ∧ F x = none) ∧ ∀ x ∈ fp, (isSh s = true ↔ x ∈ Y) := by
  obtain ⟨fp, h1, h2, h3, h4, h5⟩ := E.sl
  have hi : i < σ.length := by
    rw [E.len]
    exact (List.getElem?_eq_some_iff.mp h).1
  refine ⟨σ[i], fp i, List.getElem?_eq_getElem hi, ?_, h3 i, fun x hx => h5 i s x h hx⟩
  have := h1 i s h
  rw [List.getElem?_eq_getElem hi] at this
  exact this
theorem pe_fz {i : Nat} {x : Str} (hN : X.N[i]? = some x) (hv : Vis X.env.scope x) (hd : (x == ("__debug__" : Str)) = false) (hcd : (x == ("__classdict__" : Str)) = false) : PE X (.Name x pos) (tD (mx X xo) W (eV i)) :=
  PE.of (pe_var hN hv hd hcd) fun σ H Q ⟨F, Y, G, e, hE, ho⟩ => by
    unfold eV at ho
    cases hs : e[i]? with
    | none => rw [hs] at ho; exact ho.elim
    | some s =>
      rw [hs] at ho
      cases s with
      | fz d =>
        obtain ⟨o, fp, h1, ⟨_, v, h2, h3⟩, _⟩ := hE.slot hs
        subst h2
        exact ⟨v, h1, ho v G H (Stp.refl hE) h3⟩
      | un => exact ho.elim
      | ol d => exact ho.elim
      | od d => exact ho.elim
      | src p q' st cells ix => exact ho.elim
      | sl ds => exact ho.elim
      | ex x => exact ho.elim
      | me b1 b2 c fs => exact ho.elim
      | raw ns => exact ho.elim
      | mo a1 a2 c1 f1 o1 => exact ho.elim
      | box p1 q1 s1 c1 => exact ho.elim
      | cur p1 q1 s1 c1 => exact ho.elim
theorem pe_vw {i : Nat} {x : Str} (hN : X.N[i]? = some x) (hv : Vis X.env.scope x) (hd : (x == ("__debug__" : Str)) = false) (hcd : (x == ("__classdict__" : Str)) = false) : PE X (.Name x pos) (tV (mx X xo) W (eW i)) :=
  PE.of (pe_var hN hv hd hcd) fun σ H Q ⟨F, Y, G, e, hE, ho⟩ => by
    unfold eW at ho
    cases hs : e[i]? with
    | none => rw [hs] at ho; exact ho.elim
    | some s =>
      rw [hs] at ho
      cases s with
      | fz d =>
        obtain ⟨o, fp, h1, ⟨_, v, h2, h3⟩, _⟩ := hE.slot hs
        subst h2
        exact ⟨v, h1, ho v G H (Stp.refl hE) (.inl h3)⟩
      | ol d =>
        obtain ⟨o, fp, h1, ⟨p, vs, h2, h3, h4, h5⟩, _, h6⟩ := hE.slot hs
        subst h2
        exact ⟨_, h1, ho _ G H (Stp.refl hE) (.inr (.inl ⟨p, vs, d, rfl, rfl, fun z => by simpa [isSh] using (h6 p (by rw [h3]; exact List.mem_cons_self)).mpr z, h4, h5⟩))⟩
      | od d =>
        obtain ⟨o, fp, h1, ⟨p, h2, h3, h4⟩, _, h6⟩ := hE.slot hs
        subst h2
        exact ⟨_, h1, ho _ G H (Stp.refl hE) (.inr (.inr ⟨p, d, rfl, rfl, fun z => by simpa [isSh] using (h6 p (by rw [h3]; exact List.mem_cons_self)).mpr z, h4⟩))⟩
      | un => exact ho.elim
      | src p q' st cells ix => exact ho.elim
      | sl ds => exact ho.elim
      | ex x => exact ho.elim
      | me b1 b2 c fs => exact ho.elim
      | raw ns => exact ho.elim
      | mo a1 a2 c1 f1 o1 => exact ho.elim
      | box p1 q1 s1 c1 => exact ho.elim
      | cur p1 q1 s1 c1 => exact ho.elim
theorem pe_const {v : V} {d : D} (h : PE X a (tC v)) (r : ∀ G, Rp (mt X) G d v) : PE X a (tD (mx X xo) W (eC d)) := PE.of h fun σ H Q ⟨F, Y, G, e, hE, ho⟩ => ho v G H (Stp.refl hE) (r G)
theorem pe_intD {i : Int} {j pos} : PE X (.Constant (.int i) j pos) (tD (mx X xo) W (eC (.int i))) := pe_const pe_int fun _ => rfl
theorem pe_blD {i : Bool} {j pos} : PE X (.Constant (.bool i) j pos) (tD (mx X xo) W (eC (.bl i))) := pe_const pe_bl fun _ => rfl
theorem pe_strD {i : Str} {j pos} : PE X (.Constant (.str i) j pos) (tD (mx X xo) W (eC (.str i))) := pe_const pe_str fun _ => rfl
theorem pe_nonD {j pos} : PE X (.Constant .none j pos) (tD (mx X xo) W (eC .non)) := pe_const pe_non fun _ => rfl
/-- a module's constant -/
structure GlD (X : Cx) (x : Str) (d : D) : Prop where
  ex : ∃ u v, X.mg x = some u ∧ RelV v u ∧ ∀ G, Rp (mt X) G d v
theorem pe_gD {x : Str} {d : D} (hm : GlD X x d) (hg : Gl X x) (hd : (x == ("__debug__" : Str)) = false) : PE X (.Name x pos) (tD (mx X xo) W (eC d)) := by
  obtain ⟨u, v, h1, h2, h3⟩ := hm.ex
  exact pe_const (pe_glob hg h1 h2 hd) h3
/-! ### two operands -/
def e2 (g : D → D → Option D) (f1 f2 : EX) : EX := fun e => (f1 e).bind fun d1 e1 => (f2 e1).bind fun d2 e2 => Rx.of (g d1 d2) e2
/-- what an operation asks of two values, and leaves -/
def rD2 (M : Mx) (g : D → D → Option D) : R2 := fun x y H Q => ∃ G d1 d2 d, Ex G H ∧ Rpv M G H [] d1 x ∧ Rpv M G H [] d2 y ∧ g d1 d2 = some d ∧ ∀ v G' H', Nw G H G' H' → Rp M G' d v → Q v H'
theorem t2 {M : Mx} {g : D → D → Option D} (σ : St) (H : Hp) (Q : VK) (q : tD M W (e2 g f h) σ H Q) : tOp (rD2 M g) (tV M W f) (tV M W h) σ H Q := by
  obtain ⟨F, Y, G, e, hE, ho⟩ := q
  refine ⟨F, Y, G, e, hE, ho.bind fun d1 e1 v1 G1 H1 _ s1 ho1 r1 => ⟨F, Y, G1, e1, s1.env, ho1.bind fun d2 e2 v2 G2 H2 _ s2 ho2 r2 => ?_⟩⟩
  have r1' : Rpv M G1 H1 Y d1 v1 := r1
  cases hg : g d1 d2 with
  | none => rw [hg] at ho2; exact ho2.elim
  | some d =>
    rw [hg] at ho2
    exact ⟨G2, d1, d2, d, s2.env.gh, (r1'.stp s2).any, r2.any, hg, fun v G' H' n r => ho2 v G' H' (Stp.ofN s2.env n) r⟩
theorem pe_opD {op : Operator} {k : D → D → Option D} (ho : OpR X (binaryOp op) (rD2 (mx X xo) k)) (ha : PE X a (tV (mx X xo) W f)) (hb : PE X b (tV (mx X xo) W h)) : PE X (.BinOp a op b pos) (tD (mx X xo) W (e2 k f h)) := PE.of (pe_op ho ha hb) t2
theorem pe_cmpD {op : CmpOp} {k : D → D → Option D} (ho : OpR X (compareOp op) (rD2 (mx X xo) k)) (hm : behindInMarks op b = false) (ha : PE X a (tV (mx X xo) W f)) (hb : PE X b (tV (mx X xo) W h)) : PE X (.Compare a [op] [b] pos) (tD (mx X xo) W (e2 k f h)) := PE.of (pe_cmpR ho ha hb hm) t2
theorem pt_cmpD {op : CmpOp} {k : D → D → Option D} (ho : OpR X (compareOp op) (rD2 (mx X xo) k)) (hm : behindInMarks op b = false) (ha : PE X a (tV (mx X xo) W f)) (hb : PE X b (tV (mx X xo) W h)) : PT X (.Compare a [op] [b] pos) (tT (mx X xo) W (e2 k f h)) :=
  PT.of (pt_cmpR ho ha hb hm) fun σ H Q ⟨F, Y, G, e, hE, q⟩ => t2 σ H _ ⟨F, Y, G, e, hE, by
    cases hr : e2 k f h e with
    | stuck => rw [hr] at q; exact q.elim
    | exc x e' => rw [hr] at q; exact q
    | val d e' =>
      rw [hr] at q
      cases d with
      | bl b => exact fun v G' H' s r => ⟨b, r, q G' H' s⟩
      | _ => exact q.elim⟩
theorem pe_ixD {k : D → D → Option D} (hr : IxR X (rD2 (mx X xo) k)) (hs : PlainIx b) (ha : PE X a (tV (mx X xo) W f)) (hb : PE X b (tV (mx X xo) W h)) : PE X (.Subscript a b pos) (tD (mx X xo) W (e2 k f h)) := PE.of (pe_ix hr ha hb hs) t2
/-! ### tests -/
theorem pt_valD {t : Expr} (h : PE X t (tD (mx X xo) W f)) (he : ∀ whole, isTrue t X.env whole = (do let v ← whole; standAt t.pos; holding [v] (truthy v))) : PT X t (tT (mx X xo) W f) :=
  PT.of (pt_val h he) fun σ H Q ⟨F, Y, G, e, hE, q⟩ => ⟨F, Y, G, e, hE, by
    cases hr : f e with
    | stuck => rw [hr] at q; exact q.elim
    | exc x e' => rw [hr] at q; exact q
    | val d e' =>
      rw [hr] at q
      cases d with
      | bl b => exact fun v G' H' s r => ⟨b, r, q G' H' s⟩
      | _ => exact q.elim⟩
/-- on with a test's answer -/
theorem tT_bind {M : Mx} {k : Bool → EX} {F G H : Hp} {σ : St} {e : Ev} {Q : Bool → Hp → Prop} {Z : Ev → Rx} (hE : Env M F Y G H σ e)
    (hz : Z e = (f e).bind fun d e1 => match d with
      | .bl b => k b e1
      | _ => .stuck)
    (q : match Z e with
      | .val (.bl b) e' => ∀ G' H', Stp M F Y G H σ e G' H' e' → Q b H'
      | .exc x e' => ∀ cls a G' H', Stp M F Y G H σ e G' H' e' → XcOk M F G' H' x cls a → W cls a σ H'
      | _ => False) (P : Bool → Hp → Prop)
    (hk : ∀ b e1 G1 H1, Stp M F Y G H σ e G1 H1 e1 → (match k b e1 with
      | .val (.bl b) e' => ∀ G' H', Stp M F Y G1 H1 σ e1 G' H' e' → Q b H'
      | .exc x e' => ∀ cls a G' H', Stp M F Y G1 H1 σ e1 G' H' e' → XcOk M F G' H' x cls a → W cls a σ H'
      | _ => False) → P b H1) : tT M W f σ H P := by
  refine ⟨F, Y, G, e, hE, ?_⟩
  rw [hz] at q
  cases hf : f e with
  | stuck => rw [hf] at q; exact q
  | exc x e' => rw [hf] at q; exact q
  | val d e1 =>
    rw [hf] at q
    cases d with
    | bl b =>
      refine fun G1 H1 s => hk b e1 G1 H1 s ?_
      have q2 : (match k b e1 with
        | .val (.bl b) e' => ∀ G' H', Stp M F Y G H σ e G' H' e' → Q b H'
        | .exc x e' => ∀ cls a G' H', Stp M F Y G H σ e G' H' e' → XcOk M F G' H' x cls a → W cls a σ H'
        | _ => False) := q
      cases hk2 : k b e1 with
      | stuck => rw [hk2] at q2; exact q2
      | exc x e' => rw [hk2] at q2; exact fun cls a G' H' s2 => q2 cls a G' H' (s.trans s2)
      | val d2 e2 =>
        rw [hk2] at q2
        cases d2 with
        | bl b2 => exact fun G' H' s2 => q2 G' H' (s.trans s2)
        | _ => exact q2
    | _ => exact q
def eTest (f : EX) (k : Bool → EX) : EX := fun e => (f e).bind fun d e1 => match d with
  | .bl b => k b e1
  | _ => .stuck
def eNot (f : EX) : EX := eTest f fun b => eC (.bl (!b))
def eAnd (f g : EX) : EX := eTest f fun b => if b then g else eC (.bl false)
def eOr (f g : EX) : EX := eTest f fun b => if b then eC (.bl true) else g
def eIf (t f g : EX) : EX := eTest t fun b => if b then f else g
theorem pt_notD (ha : PT X a (tT (mx X xo) W f)) : PT X (.UnaryOp .Not a pos) (tT (mx X xo) W (eNot f)) :=
  PT.of (pt_not ha) fun σ H Q ⟨F, Y, G, e, hE, q⟩ => tT_bind hE rfl q _ fun b e1 G1 H1 s q1 => q1 G1 H1 (Stp.refl s.env)
theorem pw_and1D (ha : PT X a (tT (mx X xo) W f)) : PW X (.BoolOp .And [a] pos) (tT (mx X xo) W f) := pw_and1 ha
theorem pw_or1D (ha : PT X a (tT (mx X xo) W f)) : PW X (.BoolOp .Or [a] pos) (tT (mx X xo) W f) := pw_or1 ha
theorem PW.of {t t' : TT} {x : Expr} (h : PW X x t) (w : ∀ σ H Q, t' σ H Q → t σ H Q) : PW X x t' := ⟨fun whole pins s σ H Q I q => h.run whole pins s σ H Q I (w σ H Q q)⟩
theorem pw_andD {rest : List Expr} (ha : PT X a (tT (mx X xo) W f)) (hb : PW X (.BoolOp .And (b :: rest) pos) (tT (mx X xo) W g)) : PW X (.BoolOp .And (a :: b :: rest) pos) (tT (mx X xo) W (eAnd f g)) :=
  PW.of (pw_and ha hb) fun σ H Q ⟨F, Y, G, e, hE, q⟩ => tT_bind hE rfl q _ fun b e1 G1 H1 s q1 => by
    cases b with
    | true => exact ⟨F, Y, G1, e1, s.env, q1⟩
    | false => exact q1 G1 H1 (Stp.refl s.env)
theorem pw_orD {rest : List Expr} (ha : PT X a (tT (mx X xo) W f)) (hb : PW X (.BoolOp .Or (b :: rest) pos) (tT (mx X xo) W g)) : PW X (.BoolOp .Or (a :: b :: rest) pos) (tT (mx X xo) W (eOr f g)) :=
  PW.of (pw_or ha hb) fun σ H Q ⟨F, Y, G, e, hE, q⟩ => tT_bind hE rfl q _ fun b e1 G1 H1 s q1 => by
    cases b with
    | true => exact q1 G1 H1 (Stp.refl s.env)
    | false => exact ⟨F, Y, G1, e1, s.env, q1⟩
/-- a test's answer, then a value -/
theorem tT_val {M : Mx} {k : Bool → EX} {F G H : Hp} {σ : St} {e : Ev} {Q : D → List Addr → V → Hp → Hp → Prop} (hE : Env M F Y G H σ e) (q : Ok1 M W F Y G H σ e (eTest f k e) Q) (P : Bool → Hp → Prop)
    (hk : ∀ b e1 G1 H1, Stp M F Y G H σ e G1 H1 e1 → Ok1 M W F Y G1 H1 σ e1 (k b e1) Q → P b H1) : tT M W f σ H P := by
  refine ⟨F, Y, G, e, hE, ?_⟩
  unfold eTest at q
  cases hf : f e with
  | stuck => rw [hf] at q; exact q
  | exc x e' => rw [hf] at q; exact q
  | val d e1 =>
    cases d with
    | bl b =>
      rw [hf] at q
      intro G1 H1 s
      refine hk b e1 G1 H1 s ?_
      have q2 : Ok1 M W F Y G H σ e (k b e1) Q := q
      cases hr : k b e1 with
      | stuck => rw [hr] at q2; exact q2.elim
      | val d2 e2 =>
        rw [hr] at q2
        intro v2 G2 H2 s2
        exact q2 v2 G2 H2 (s.trans s2)
      | exc x e2 =>
        rw [hr] at q2
        exact fun cls a G2 H2 s2 => q2 cls a G2 H2 (s.trans s2)
    | _ =>
      rw [hf] at q
      exact q
theorem pe_ifD {t : Expr} (hc : PT X t (tT (mx X xo) W f)) (ha : PE X a (tD (mx X xo) W g)) (hb : PE X b (tD (mx X xo) W h)) : PE X (.IfExp t a b pos) (tD (mx X xo) W (eIf f g h)) :=
  PE.of (pe_ifExp hc ha hb) fun σ H Q ⟨F, Y, G, e, hE, q⟩ => tT_val hE q _ fun b e1 G1 H1 s q1 => by
    cases b with
    | true => exact ⟨F, Y, G1, e1, s.env, q1⟩
    | false => exact ⟨F, Y, G1, e1, s.env, q1⟩
theorem pe_ifV {t : Expr} (hc : PT X t (tT (mx X xo) W f)) (ha : PE X a (tV (mx X xo) W g)) (hb : PE X b (tV (mx X xo) W h)) : PE X (.IfExp t a b pos) (tV (mx X xo) W (eIf f g h)) :=
  PE.of (pe_ifExp hc ha hb) fun σ H Q ⟨F, Y, G, e, hE, q⟩ => tT_val hE q _ fun b e1 G1 H1 s q1 => by
    cases b with
    | true => exact ⟨F, Y, G1, e1, s.env, q1⟩
    | false => exact ⟨F, Y, G1, e1, s.env, q1⟩
/-- and, or, not as values, of True and False -/
theorem tD_bool {M : Mx} {k : Bool → EX} {F G H : Hp} {σ : St} {e : Ev} {Q : VK} (hE : Env M F Y G H σ e) (q : Ok1 M W F Y G H σ e (eTest f k e) (QD M Q)) (P : Bool → Hp → Prop)
    (hk : ∀ b e1 G1 H1, Stp M F Y G H σ e G1 H1 e1 → Ok1 M W F Y G1 H1 σ e1 (k b e1) (QD M Q) → P b H1) : tD M W f σ H fun x H1 => ∃ c, x = .bl c ∧ P c H1 := by
  refine ⟨F, Y, G, e, hE, Ok1.bind q fun d e1 v G1 H1 hr s q1 r => ?_⟩
  cases d with
  | bl b => exact ⟨b, r, hk b e1 G1 H1 s q1⟩
  | _ => exact q1.elim
theorem pe_notD (ha : PE X a (tD (mx X xo) W f)) : PE X (.UnaryOp .Not a pos) (tD (mx X xo) W (eNot f)) :=
  PE.of (pe_not ha) fun σ H Q ⟨F, Y, G, e, hE, q⟩ => tD_bool hE q _ fun b e1 G1 H1 s q1 => q1 _ G1 H1 (Stp.refl s.env) rfl
theorem pe_oneD {op} (h : PE X a (tD (mx X xo) W f)) : PE X (.BoolOp op [a] pos) (tD (mx X xo) W f) := pe_one h
theorem pe_andD {rest : List Expr} (ha : PE X a (tD (mx X xo) W f)) (hb : PE X (.BoolOp .And (b :: rest) pos) (tD (mx X xo) W g)) : PE X (.BoolOp .And (a :: b :: rest) pos) (tD (mx X xo) W (eAnd f g)) :=
  PE.of (pe_and ha hb) fun σ H Q ⟨F, Y, G, e, hE, q⟩ => tD_bool hE q _ fun b e1 G1 H1 s q1 => by
    cases b with
    | true => exact ⟨F, Y, G1, e1, s.env, q1⟩
    | false => exact q1 _ G1 H1 (Stp.refl s.env) rfl
theorem pe_orD {rest : List Expr} (ha : PE X a (tD (mx X xo) W f)) (hb : PE X (.BoolOp .Or (b :: rest) pos) (tD (mx X xo) W g)) : PE X (.BoolOp .Or (a :: b :: rest) pos) (tD (mx X xo) W (eOr f g)) :=
  PE.of (pe_or ha hb) fun σ H Q ⟨F, Y, G, e, hE, q⟩ => tD_bool hE q _ fun b e1 G1 H1 s q1 => by
    cases b with
    | true => exact q1 _ G1 H1 (Stp.refl s.env) rfl
    | false => exact ⟨F, Y, G1, e1, s.env, q1⟩
end
/-! ### lists of operands -/
inductive Rl where
  | stuck | val (ds : List D) (e : Ev) | exc (x : Xc) (e : Ev)
def evs : List EX → Ev → Rl
  | [], e => .val [] e
  | f :: fs, e => match f e with
    | .stuck => .stuck
    | .exc x e1 => .exc x e1
    | .val d e1 => match evs fs e1 with
      | .stuck => .stuck
      | .exc x e2 => .exc x e2
      | .val ds e2 => .val (d :: ds) e2
abbrev Rpvs (M : Mx) (G H : Hp) (S : List Addr) (ds : List D) (vs : List V) : Prop := Paired (Rpv M G H S) ds vs
def Oks (M : Mx) (W : WX) (F : Hp) (Y : List Addr) (G H : Hp) (σ : St) (e : Ev) (r : Rl) (Q : List D → List Addr → List V → Ev → Hp → Hp → Prop) : Prop := match r with
  | .stuck => False
  | .val ds e' => ∀ vs G' H', Stp M F Y G H σ e G' H' e' → Rpvs M G' H' Y ds vs → Q ds Y vs e' G' H'
  | .exc x e' => ∀ cls a G' H', Stp M F Y G H σ e G' H' e' → XcOk M F G' H' x cls a → W cls a σ H'
def tA (M : Mx) (W : WX) (fs : List EX) : TA := fun σ H Q => ∃ F Y G e, Env M F Y G H σ e ∧ Oks M W F Y G H σ e (evs fs e) fun _ _ vs _ _ H' => Q vs H'
/-- an answer by values of several operands -/
def eN (g : List D → Option D) (fs : List EX) : EX := fun e => match evs fs e with
  | .stuck => .stuck
  | .exc x e1 => .exc x e1
  | .val ds e1 => Rx.of (g ds) e1
section
variable {X : Cx} {xo : Xo} {W : WX} {a b c : Expr} {f g h : EX} {fs : List EX} {es : List Expr} {pos : Pos}
theorem PA.of {t t' : TA} {x : List Expr} (h : PA X x t) (w : ∀ σ H Q, t' σ H Q → t σ H Q) : PA X x t' := ⟨fun p pins s σ H Q I q => h.run p pins s σ H Q I (w σ H Q q)⟩
theorem pa_nilD : PA X [] (tA (mx X xo) W []) := PA.of pa_nil fun σ H Q ⟨F, Y, G, e, hE, q⟩ => q [] G H (Stp.refl hE) .nil
theorem pa_consD (ha : PE X a (tV (mx X xo) W f)) (hr : PA X es (tA (mx X xo) W fs)) (hs : starEach (a :: es) X.env = (false, eval a X.env) :: starEach es X.env := by rfl) : PA X (a :: es) (tA (mx X xo) W (f :: fs)) :=
  PA.of (pa_cons ha hr hs) fun σ H Q ⟨F, Y, G, e, hE, q⟩ => ⟨F, Y, G, e, hE, by
    unfold evs at q
    cases hf : f e with
    | stuck => rw [hf] at q; exact q
    | exc x e1 => rw [hf] at q; exact q
    | val d e1 =>
      rw [hf] at q
      refine fun v G1 H1 s1 r1 => ⟨F, Y, G1, e1, s1.env, ?_⟩
      cases hv : evs fs e1 with
      | stuck => simp only [hv] at q; exact q
      | exc x e2 => simp only [hv] at q; exact fun cls a G2 H2 s2 => q cls a G2 H2 (s1.trans s2)
      | val ds e2 =>
        simp only [hv] at q
        refine fun vs G2 H2 s2 r2 => q (v :: vs) G2 H2 (s1.trans s2) (.cons ?_ ?_)
        · have r1' : Rpv (mx X xo) G1 H1 Y d v := r1
          have := r1'.stp s2
          exact this
        · exact r2⟩
/-- a reading of a list of operands, with an answer -/
def rDN (M : Mx) (g : List D → Option D) : List V → Hp → VK → Prop := fun vs H Q => ∃ G ds d, Ex G H ∧ Rpvs M G H [] ds vs ∧ g ds = some d ∧ ∀ v G' H', Nw G H G' H' → Rp M G' d v → Q v H'
theorem Rpvs.any {M : Mx} {G H : Hp} {S : List Addr} {ds : List D} {vs : List V} (h : Rpvs M G H S ds vs) : Rpvs M G H [] ds vs := Paired.mapP h fun _ _ q => q.any
theorem tN {M : Mx} {k : List D → Option D} (σ : St) (H : Hp) (Q : VK) (q : tD M W (eN k fs) σ H Q) : tA M W fs σ H fun vs H1 => rDN M k vs H1 Q := by
  obtain ⟨F, Y, G, e, hE, ho⟩ := q
  refine ⟨F, Y, G, e, hE, ?_⟩
  unfold eN at ho
  cases hv : evs fs e with
  | stuck => rw [hv] at ho; exact ho
  | exc x e1 => rw [hv] at ho; exact ho
  | val ds e1 =>
    rw [hv] at ho
    intro vs G1 H1 s r
    cases hk : k ds with
    | none => simp only [hk] at ho; exact ho.elim
    | some d =>
      simp only [hk] at ho
      exact ⟨G1, ds, d, s.env.gh, r.any, hk, fun v G' H' n r' => ho v G' H' (s.trans (Stp.ofN s.env n)) r'⟩
theorem pe_callBD {x : Str} {id : String} {p : Pos} {k : List D → Option D} (hc : CallR X (.builtin id) (rDN (mx X xo) k)) (hm : X.mg x = none) (hv : bootBuiltins x = some (.builtin id)) (hn : x ≠ "__name__") (hdb : (x == ("__debug__" : Str)) = false) (hg : Gl X x)
    (ha : PA X (a :: es) (tA (mx X xo) W fs)) (he : starEach (a :: es) X.env = (false, eval a X.env) :: starEach es X.env := by rfl) (hpl : (backTo pos (starEach es X.env)).any (·.1) = false := by rfl) :
    PE X (.Call (.Name x p) (a :: es) [] pos) (tD (mx X xo) W (eN k fs)) := PE.of (pe_callB hc hg hm hv ha hn hdb he hpl) tN
theorem pe_callTyD {x : Str} {T : String} {p : Pos} {k : List D → Option D} (hc : CallR X (.type T) (rDN (mx X xo) k)) (hm : X.mg x = none) (hv : bootBuiltins x = some (.type T)) (hn : x ≠ "__name__") (hdb : (x == ("__debug__" : Str)) = false) (hg : Gl X x)
    (ha : PA X (a :: es) (tA (mx X xo) W fs)) (he : starEach (a :: es) X.env = (false, eval a X.env) :: starEach es X.env := by rfl) (hpl : (backTo pos (starEach es X.env)).any (·.1) = false := by rfl) :
    PE X (.Call (.Name x p) (a :: es) [] pos) (tD (mx X xo) W (eN k fs)) := PE.of (pe_callTy hc hg hm hv ha hn hdb he hpl) tN
/-! ### displays: the items are frozen -/
def mkT (ds : List D) : Option D := if ds.length ≤ 1000 then some (.tup ds) else none
def mkL (ds : List D) : Option D := if ds.length ≤ 1000 then some (.lst ds) else none
/-- operands, each frozen -/
def OksD (M : Mx) (W : WX) (F : Hp) (Y : List Addr) (G H : Hp) (σ : St) (e : Ev) (r : Rl) (Q : List V → Hp → Hp → Prop) : Prop := match r with
  | .stuck => False
  | .val ds e' => ∀ vs G' H', Stp M F Y G H σ e G' H' e' → Rps M G' ds vs → Q vs G' H'
  | .exc x e' => ∀ cls a G' H', Stp M F Y G H σ e G' H' e' → XcOk M F G' H' x cls a → W cls a σ H'
def tF (M : Mx) (W : WX) (fs : List EX) : TA := fun σ H Q => ∃ F Y G e, Env M F Y G H σ e ∧ OksD M W F Y G H σ e (evs fs e) fun vs _ H' => Q vs H'
theorem pf_nil : PA X [] (tF (mx X xo) W []) := PA.of pa_nil fun σ H Q ⟨F, Y, G, e, hE, q⟩ => q [] G H (Stp.refl hE) rfl
theorem pf_cons (ha : PE X a (tD (mx X xo) W f)) (hr : PA X es (tF (mx X xo) W fs)) (hs : starEach (a :: es) X.env = (false, eval a X.env) :: starEach es X.env := by rfl) : PA X (a :: es) (tF (mx X xo) W (f :: fs)) :=
  PA.of (pa_cons ha hr hs) fun σ H Q ⟨F, Y, G, e, hE, q⟩ => ⟨F, Y, G, e, hE, by
    unfold evs at q
    cases hf : f e with
    | stuck => rw [hf] at q; exact q
    | exc x e1 => rw [hf] at q; exact q
    | val d e1 =>
      rw [hf] at q
      refine fun v G1 H1 s1 r1 => ⟨F, Y, G1, e1, s1.env, ?_⟩
      cases hv : evs fs e1 with
      | stuck => simp only [hv] at q; exact q
      | exc x e2 => simp only [hv] at q; exact fun cls a G2 H2 s2 => q cls a G2 H2 (s1.trans s2)
      | val ds e2 =>
        simp only [hv] at q
        exact fun vs G2 H2 s2 r2 => q (v :: vs) G2 H2 (s1.trans s2) ⟨v, vs, rfl, Rp.mono s2.gg _ _ r1, r2⟩⟩
theorem sz1000 {n : Nat} (h : n ≤ 1000) : n ≤ sizeLine := Nat.le_trans h (by decide)
theorem pe_tupD {x1} (ha : PA X es (tF (mx X xo) W fs)) : PE X (.Tuple es x1 pos) (tD (mx X xo) W (eN mkT fs)) := PE.of (pe_tup ha) fun σ H Q ⟨F, Y, G, e, hE, ho⟩ => ⟨F, Y, G, e, hE, by
  unfold eN at ho
  cases hv : evs fs e with
  | stuck => rw [hv] at ho; exact ho
  | exc x e1 => rw [hv] at ho; exact ho
  | val ds e1 =>
    rw [hv] at ho
    intro vs G1 H1 s r
    by_cases hl : ds.length ≤ 1000
    · simp only [mkT, if_pos hl] at ho
      refine ⟨by rw [r.length]; exact sz1000 hl, fun p hp => ho _ (upd G1 p (.tup vs)) _ (s.trans (Stp.ofN s.env (Nw.new s.env.gh hp))) (Rp.of_tup r (s.env.gh.back hp))⟩
    · simp only [mkT, if_neg hl] at ho
      exact ho.elim⟩
theorem pe_lstD (ha : PA X es (tF (mx X xo) W fs)) : PE X (.List es pos) (tD (mx X xo) W (eN mkL fs)) := PE.of (pe_lst ha) fun σ H Q ⟨F, Y, G, e, hE, ho⟩ => ⟨F, Y, G, e, hE, by
  unfold eN at ho
  cases hv : evs fs e with
  | stuck => rw [hv] at ho; exact ho
  | exc x e1 => rw [hv] at ho; exact ho
  | val ds e1 =>
    rw [hv] at ho
    intro vs G1 H1 s r
    by_cases hl : ds.length ≤ 1000
    · simp only [mkL, if_pos hl] at ho
      refine ⟨by rw [r.length]; exact sz1000 hl, fun p hp => ho _ (upd G1 p (.lst vs)) _ (s.trans (Stp.ofN s.env (Nw.new s.env.gh hp))) (Rp.of_lst r (s.env.gh.back hp))⟩
    · simp only [mkL, if_neg hl] at ho
      exact ho.elim⟩
end
/-! ### calls -/
inductive Rv where
  | stuck | ret (d : D) | exc (x : Xc)
/-- from a callee's answer -/
def Rx.ofRv (r : Rv) (e : Ev) : Rx := match r with
  | .stuck => .stuck
  | .ret d => .val d e
  | .exc x => .exc x e
/-- a def of plain data: what it answers; all stays -/
def spD (M : Mt) (n : Nat) (f : List D → Rv) : Sp := fun vs H Q E => ∃ G ds, Ex G H ∧ vs.length = n ∧ Rps M G ds vs ∧ match f ds with
  | .stuck => False
  | .ret d => ∀ v G' H', Nw G H G' H' → Rp M G' d v → Q v H'
  | .exc x => ∀ cls a G' H', Nw G H G' H' → XcOk M H G' H' x cls a → E cls a H'
/-- what a caller needs of a def -/
theorem XcOk.weak {M : Mt} {N N' G H : Hp} {x : Xc} {cls : Value} {a : Option Addr} (h : XcOk M N G H x cls a) (e : Ex N' N) : XcOk M N' G H x cls a := by
  obtain ⟨h1, h2⟩ := h
  refine ⟨h1, ?_⟩
  cases hx : x.fs with
  | none =>
    rw [hx] at h2
    exact h2
  | some fs =>
    rw [hx] at h2
    obtain ⟨dd, fv, a1, a2, a3, a4, a5⟩ := h2
    exact ⟨dd, fv, a1, a2, a3, a4, e.back a5⟩
structure Cal (X : Cx) (x : Str) (k : Nat) (n : Nat) (m : List D → Rv) : Prop where
  ex : ∃ f fd ps, FnOk X.prog X.w X.K X.mg X.base (L2.CX X.prog X.w) k f fd ps (spD (mt X) n m) ∧ X.mg x = some (.ref f) ∧ PySem.W.keepIn X.K (.ref f) = true ∧ Binds X.K fd ps []
def eCall (m : List D → Rv) (fs : List EX) : EX := fun e => match evs fs e with
  | .stuck => .stuck
  | .exc x e1 => .exc x e1
  | .val ds e1 => Rx.ofRv (m ds) e1
section
variable {X : Cx} {xo : Xo} {W : WX} {a b c : Expr} {f g h : EX} {fs : List EX} {es : List Expr} {pos : Pos}
theorem pe_callD {x : Str} {k n : Nat} {m : List D → Rv} {p : Pos} (F : Cal X x k n m) (hr : Room k X.A) (tk : Takes X W) (hdb : (x == ("__debug__" : Str)) = false) (hg : Gl X x) (hl : (a :: es).length = n) (ha : PA X (a :: es) (tF (mx X xo) W fs)) (hfl : fs.length = n)
    (he : starEach (a :: es) X.env = (false, eval a X.env) :: starEach es X.env := by rfl) (hpl : (backTo pos (starEach es X.env)).any (·.1) = false := by rfl) :
    PE X (.Call (.Name x p) (a :: es) [] pos) (tD (mx X xo) W (eCall m fs)) := by
  obtain ⟨f, fd, ps, F, hm, hk, hb⟩ := F.ex
  refine PE.of (pe_callS F hr hg hm hk hb (fun σ => passAt tk σ) ha hdb he hpl) fun σ H Q ⟨F, Y, G, e, hE, ho⟩ => ⟨F, Y, G, e, hE, ?_⟩
  unfold eCall at ho
  have lenV : ∀ (l : List EX) (e e1 : Ev) (ds : List D), evs l e = .val ds e1 → ds.length = l.length := by
    intro l
    induction l with
    | nil => intro e e1 ds h; cases h; rfl
    | cons f l ih =>
      intro e e1 ds h
      unfold evs at h
      cases hf : f e with
      | stuck => rw [hf] at h; cases h
      | exc x e' => rw [hf] at h; cases h
      | val d e' =>
        rw [hf] at h
        cases hv : evs l e' with
        | stuck => simp only [hv] at h; cases h
        | exc x e' => simp only [hv] at h; cases h
        | val ds' e'' =>
          simp only [hv, Rl.val.injEq] at h
          rw [← h.1, List.length_cons, ih _ _ _ hv]
          rfl
  cases hv : evs fs e with
  | stuck => rw [hv] at ho; exact ho
  | exc x e1 => rw [hv] at ho; exact ho
  | val ds e1 =>
    rw [hv] at ho
    intro vs G1 H1 s r
    refine ⟨G1, ds, s.env.gh, by rw [r.length, lenV _ _ _ _ hv, hfl], r, ?_⟩
    cases hk : m ds with
    | stuck => simp only [hk] at ho; exact ho
    | ret d => simp only [hk] at ho; exact fun v G' H' n r' => ho v G' H' (s.trans (Stp.ofN s.env n)) r'
    | exc x => simp only [hk] at ho; exact fun cls a G' H' n r' => ho cls a G' H' (s.trans (Stp.ofN s.env n)) (r'.weak s.env.fh)
end
end TF
/-! #### text TFd -/
set_option Elab.async false
set_option linter.all false
set_option maxRecDepth 100000
set_option maxHeartbeats 2000000
/-! TFd: what operators do on plain data. -/
namespace TF
open PySem L2
/-! ### plain data -/
mutual
def D.py : D → PyData
  | .non => .none
  | .bl b => .bool b
  | .int i => .int i
  | .str x => .str x
  | .tup ds => .tuple (D.pys ds)
  | .lst ds => .list (D.pys ds)
  | .dic _ => .dict []
  | .obj _ _ => .dict []
def D.pys : List D → List PyData
  | [] => []
  | d :: r => D.py d :: D.pys r
end
mutual
/-- plain: no dict, no instance; nested at most n deep -/
def D.pl : Nat → D → Bool
  | _, .non => true
  | _, .bl _ => true
  | _, .int _ => true
  | _, .str x => PyData.strOk x
  | 0, .tup _ => false
  | n + 1, .tup ds => D.pls n ds
  | 0, .lst _ => false
  | n + 1, .lst ds => D.pls n ds
  | _, .dic _ => false
  | _, .obj _ _ => false
def D.pls : Nat → List D → Bool
  | _, [] => true
  | n, d :: r => D.pl n d && D.pls n r
end
mutual
/-- == of plain data -/
def deq : D → D → Bool
  | .non, .non => true
  | .bl a, .bl b => a == b
  | .bl a, .int j => (if a then 1 else 0) == j
  | .int i, .bl b => i == (if b then 1 else 0)
  | .int i, .int j => i == j
  | .str x, .str y => x == y
  | .lst xs, .lst ys => deqs xs ys
  | .tup xs, .tup ys => deqs xs ys
  | _, _ => false
def deqs : List D → List D → Bool
  | [], [] => true
  | x :: xs, y :: ys => deq x y && deqs xs ys
  | _, _ => false
end
mutual
theorem deq_py : ∀ a b : D, PyData.eqv a.py b.py = deq a b
  | .non, b => by cases b <;> simp [D.py, PyData.eqv, deq]
  | .bl x, b => by cases b <;> simp [D.py, PyData.eqv, deq]
  | .int x, b => by cases b <;> simp [D.py, PyData.eqv, deq]
  | .str x, b => by cases b <;> simp [D.py, PyData.eqv, deq]
  | .lst xs, b => by
    cases b with
    | lst ys => simp only [D.py, PyData.eqv, deq]; exact deqs_py xs ys
    | _ => simp [D.py, PyData.eqv, deq]
  | .tup xs, b => by
    cases b with
    | tup ys => simp only [D.py, PyData.eqv, deq]; exact deqs_py xs ys
    | _ => simp [D.py, PyData.eqv, deq]
  | .dic xs, b => by cases b <;> simp [D.py, PyData.eqv, deq]
  | .obj c xs, b => by cases b <;> simp [D.py, PyData.eqv, deq]
theorem deqs_py : ∀ a b : List D, PyData.eqvAll (D.pys a) (D.pys b) = deqs a b
  | [], [] => by simp [D.pys, PyData.eqvAll, deqs]
  | [], y :: ys => by simp [D.pys, PyData.eqvAll, deqs]
  | x :: xs, [] => by simp [D.pys, PyData.eqvAll, deqs]
  | x :: xs, y :: ys => by simp only [D.pys, PyData.eqvAll, deqs]; rw [deq_py x y, deqs_py xs ys]
end
mutual
theorem pl_lay : ∀ (n : Nat) (d : D), d.pl n = true → d.py.canLay0 = true ∧ d.py.depth ≤ n
  | _, .non, _ => by simp [D.py, PyData.canLay0, PyData.depth]
  | _, .bl _, _ => by simp [D.py, PyData.canLay0, PyData.depth]
  | _, .int _, _ => by simp [D.py, PyData.canLay0, PyData.depth]
  | n, .str x, h => by simp only [D.pl] at h; simp [D.py, PyData.canLay0, PyData.depth, h]
  | 0, .tup _, h => by simp [D.pl] at h
  | n + 1, .tup ds, h => by
    simp only [D.pl] at h
    obtain ⟨h1, h2⟩ := pls_lay n ds h
    simp only [D.py, PyData.canLay0, PyData.depth]
    exact ⟨h1, by omega⟩
  | 0, .lst _, h => by simp [D.pl] at h
  | n + 1, .lst ds, h => by
    simp only [D.pl] at h
    obtain ⟨h1, h2⟩ := pls_lay n ds h
    simp only [D.py, PyData.canLay0, PyData.depth]
    exact ⟨h1, by omega⟩
  | _, .dic _, h => by simp [D.pl] at h
  | _, .obj _ _, h => by simp [D.pl] at h
theorem pls_lay : ∀ (n : Nat) (ds : List D), D.pls n ds = true → PyData.canLayAll0 (D.pys ds) = true ∧ PyData.depthAll (D.pys ds) ≤ n
  | _, [], _ => by simp [D.pys, PyData.canLayAll0, PyData.depthAll]
  | n, d :: r, h => by
    simp only [D.pls, Bool.and_eq_true] at h
    obtain ⟨h1, h2⟩ := pl_lay n d h.1
    obtain ⟨h3, h4⟩ := pls_lay n r h.2
    simp only [D.pys, PyData.canLayAll0, PyData.depthAll, Bool.and_eq_true]
    exact ⟨⟨h1, h3⟩, by omega⟩
end
theorem pl_shaped {n : Nat} {d : D} (h : d.pl n = true) (hn : n ≤ 64) : SeqAt.shaped d.py = true := by
  obtain ⟨h1, h2⟩ := pl_lay n d h
  simp only [SeqAt.shaped, Bool.and_eq_true, decide_eq_true_eq]
  exact ⟨h1, by omega⟩
mutual
theorem Rp.dp {M : Mx} {G H : Hp} (g : Ex G H) : ∀ (n : Nat) (d : D) (v : V), d.pl n = true → Rp M G d v → Dp M.K H v d.py
  | _, .non, _, _, h => by rw [show _ = V.non from h]; simp only [D.py]; exact .non
  | _, .bl b, _, _, h => by rw [show _ = V.bl b from h]; simp only [D.py]; exact .bl b
  | _, .int i, _, _, h => by rw [show _ = V.int i from h]; simp only [D.py]; exact .int i
  | _, .str x, _, _, h => by rw [show _ = V.str x from h]; simp only [D.py]; exact .str x
  | 0, .tup _, _, h, _ => by simp [D.pl] at h
  | n + 1, .tup ds, v, h, r => by
    simp only [D.pl] at h
    obtain ⟨a, vs, rfl, h2, h3⟩ := r
    simp only [D.py]
    exact .tup (g.st h2) (Rps.dp g n ds vs h h3)
  | 0, .lst _, _, h, _ => by simp [D.pl] at h
  | n + 1, .lst ds, v, h, r => by
    simp only [D.pl] at h
    obtain ⟨a, vs, rfl, h2, h3⟩ := r
    simp only [D.py]
    exact .lst (.inl (.inl (g _ _ h2))) (Rps.dp g n ds vs h h3)
  | _, .dic _, _, h, _ => by simp [D.pl] at h
  | _, .obj _ _, _, h, _ => by simp [D.pl] at h
theorem Rps.dp {M : Mx} {G H : Hp} (g : Ex G H) : ∀ (n : Nat) (ds : List D) (vs : List V), D.pls n ds = true → Rps M G ds vs → DpAll M.K H vs (D.pys ds)
  | _, [], _, _, h => by rw [show _ = [] from h]; simp only [D.pys]; exact .nil
  | n, d :: r, vs, h, q => by
    simp only [D.pls, Bool.and_eq_true] at h
    obtain ⟨v, t, rfl, h2, h3⟩ := q
    simp only [D.pys]
    exact .cons (Rp.dp g n d v h.1 h2) (Rps.dp g n r t h.2 h3)
end
theorem Rpv.dp {M : Mx} {G H : Hp} {S : List Addr} {n : Nat} {d : D} {v : V} (g : Ex G H) (h : d.pl n = true) (r : Rpv M G H S d v) : Dp M.K H v d.py := by
  rcases r with r | ⟨p, vs, ds, rfl, rfl, _, h1, h2⟩ | ⟨p, kvs, rfl, _⟩
  · exact r.dp g n d v h
  · cases n with
    | zero => simp [D.pl] at h
    | succ n =>
      simp only [D.pl] at h
      simp only [D.py]
      exact .lst (.inl (.inl h1)) (Rps.dp g n ds vs h h2)
  · simp [D.pl] at h
/-! ### == and != -/
def pl2 (a b : D) : Bool := a.pl 20 && b.pl 20
def dEq (a b : D) : Option D := if pl2 a b then some (.bl (deq a b)) else none
def dNe (a b : D) : Option D := if pl2 a b then some (.bl (!deq a b)) else none
theorem pl2_of {a b : D} {o : Option D} {d : D} (h : (if pl2 a b then o else none) = some d) : a.pl 20 = true ∧ b.pl 20 = true ∧ o = some d := by
  by_cases hp : pl2 a b = true
  · rw [if_pos hp] at h
    simp only [pl2, Bool.and_eq_true] at hp
    exact ⟨hp.1, hp.2, h⟩
  · rw [if_neg hp] at h
    cases h
section
variable {X : Cx} {xo : Xo}
theorem opD_eq (hu : X.A.units + 64 < cLine) : OpR X (compareOp .Eq) (rD2 (mx X xo) dEq) := by
  intro pins s σ H x y v u Q I rx ry ⟨G, d1, d2, d, g, r1, r2, hd, q⟩
  obtain ⟨p1, p2, hd⟩ := pl2_of hd
  cases hd
  refine op_eqD hu pins s σ H x y v u Q I rx ry ⟨_, _, r1.dp g p1, r2.dp g p2, pl_shaped p1 (by decide), pl_shaped p2 (by decide), ?_⟩
  rw [deq_py]
  exact q _ G H (Nw.refl g) rfl
theorem opD_ne (hu : X.A.units + 64 < cLine) : OpR X (compareOp .NotEq) (rD2 (mx X xo) dNe) := by
  intro pins s σ H x y v u Q I rx ry ⟨G, d1, d2, d, g, r1, r2, hd, q⟩
  obtain ⟨p1, p2, hd⟩ := pl2_of hd
  cases hd
  refine op_neD hu pins s σ H x y v u Q I rx ry ⟨_, _, r1.dp g p1, r2.dp g p2, pl_shaped p1 (by decide), pl_shaped p2 (by decide), ?_⟩
  rw [deq_py]
  exact q _ G H (Nw.refl g) rfl
/-! ### in, not in -/
def anyEq (ds : List D) (d : D) : Bool := ds.any fun z => deq z d
def dInB (a b : D) : Option Bool := match b with
  | .lst ds => if a.pl 20 && D.pls 20 ds then some (anyEq ds a) else none
  | .tup ds => if a.pl 20 && D.pls 20 ds then some (anyEq ds a) else none
  | .str y => match a with
    | .str x => if x.cps.size = 1 then some (decide (x.cps[0]! ∈ y.cps.toList)) else none
    | _ => none
  | _ => none
def dIn (a b : D) : Option D := (dInB a b).map fun x => .bl x
def dNotIn (a b : D) : Option D := (dInB a b).map fun x => .bl (!x)
theorem anyEq_py (ds : List D) (d : D) : (D.pys ds).any (fun z => PyData.eqv z d.py) = anyEq ds d := by
  induction ds with
  | nil => rfl
  | cons a r ih =>
    have ih' : (D.pys r).any (fun z => PyData.eqv z d.py) = r.any fun z => deq z d := ih
    simp only [D.pys, anyEq, List.any_cons, deq_py, ih']
theorem one_sign {x : Str} (h : x.cps.size = 1) : x = ⟨#[x.cps[0]!]⟩ := by
  obtain ⟨⟨l⟩⟩ := x
  match l, h with
  | [c], _ => rfl
theorem in_tup {pins : List (Addr × Obj)} {s : Shared} {σ : St} {H : Hp} {x y : V} {v u : Value} {d : PyData} {ds : List PyData} (I : Inv X pins σ H s) (hu : X.A.units + 65 < cLine) (rx : RelV x v) (ry : RelV y u) (hd : Dp X.K H x d) (he : Dp X.K H y (.tuple ds))
    (sd : SeqAt.shaped d = true) (se : SeqAt.shaped (.tuple ds) = true) {E Q : Value → Shared → Prop} : (Q (.bool (ds.any fun z => PyData.eqv z d)) s → wpAny (model X.prog X.w) X.A (compareOp .In v u) Q E s) ∧ (Q (.bool (!ds.any fun z => PyData.eqv z d)) s → wpAny (model X.prog X.w) X.A (compareOp .NotIn v u) Q E s) := by
  obtain ⟨as, r1⟩ := Dp.reads I d x v hd rx
  obtain ⟨bs, r2⟩ := Dp.reads I (.tuple ds) y u he ry
  exact ⟨fun q => SeqAt.in_tuple_reads r2 r1 (SeqAt.canLay_of_shaped se) (SeqAt.canLay_of_shaped sd) (PyProof.Rows.room_in_shaped sd hu) q, fun q => SeqAt.notIn_tuple_reads r2 r1 (SeqAt.canLay_of_shaped se) (SeqAt.canLay_of_shaped sd) (PyProof.Rows.room_in_shaped sd hu) q⟩
theorem inB_of {a b : D} {G H : Hp} {S S' : List Addr} {x y : V} {k : Bool} (h : dInB a b = some k) (g : Ex G H) (r1 : Rpv (mx X xo) G H S a x) (r2 : Rpv (mx X xo) G H S' b y) :
    (∃ p ds, a.pl 20 = true ∧ D.pls 20 ds = true ∧ Dp X.K H x a.py ∧ (Dp X.K H y (.list (D.pys ds)) ∧ p = true ∨ Dp X.K H y (.tuple (D.pys ds)) ∧ p = false) ∧ k = anyEq ds a) ∨ ∃ c z, x = .str ⟨#[c]⟩ ∧ y = .str z ∧ k = decide (c ∈ z.cps.toList) := by
  cases b with
  | lst ds =>
    simp only [dInB] at h
    by_cases hp : (a.pl 20 && D.pls 20 ds) = true
    · rw [if_pos hp] at h
      cases h
      simp only [Bool.and_eq_true] at hp
      refine .inl ⟨true, ds, hp.1, hp.2, r1.dp g hp.1, .inl ⟨?_, rfl⟩, rfl⟩
      have := Rpv.dp (n := 21) g (by simp only [D.pl]; exact hp.2) r2
      simpa only [D.py] using this
    · rw [if_neg hp] at h
      cases h
  | tup ds =>
    simp only [dInB] at h
    by_cases hp : (a.pl 20 && D.pls 20 ds) = true
    · rw [if_pos hp] at h
      cases h
      simp only [Bool.and_eq_true] at hp
      refine .inl ⟨false, ds, hp.1, hp.2, r1.dp g hp.1, .inr ⟨?_, rfl⟩, rfl⟩
      have := Rpv.dp (n := 21) g (by simp only [D.pl]; exact hp.2) r2
      simpa only [D.py] using this
    · rw [if_neg hp] at h
      cases h
  | str z =>
    cases a with
    | str w =>
      simp only [dInB] at h
      by_cases hp : w.cps.size = 1
      · rw [if_pos hp] at h
        cases h
        refine .inr ⟨_, z, ?_, r2.str, rfl⟩
        rw [← one_sign hp]
        exact r1.str
      · rw [if_neg hp] at h
        cases h
    | _ => simp [dInB] at h
  | _ => simp [dInB] at h
theorem pls_shapedT {ds : List D} (h : D.pls 20 ds = true) : SeqAt.shaped (.tuple (D.pys ds)) = true ∧ SeqAt.shaped (.list (D.pys ds)) = true := by
  have h1 := pl_shaped (n := 21) (d := .tup ds) (by simp only [D.pl]; exact h) (by decide)
  have h2 := pl_shaped (n := 21) (d := .lst ds) (by simp only [D.pl]; exact h) (by decide)
  simp only [D.py] at h1 h2
  exact ⟨h1, h2⟩
theorem opD_in (hu : X.A.units + 65 < cLine) : OpR X (compareOp .In) (rD2 (mx X xo) dIn) := by
  intro pins s σ H x y v u Q I rx ry ⟨G, d1, d2, d, g, r1, r2, hd, q⟩
  simp only [dIn, Option.map_eq_some_iff] at hd
  obtain ⟨k, hk, rfl⟩ := hd
  have q' := q _ G H (Nw.refl g) rfl
  rcases inB_of hk g r1 r2 with ⟨p, ds, p1, p2, h1, ⟨h2, _⟩ | ⟨h2, _⟩, rfl⟩ | ⟨c, z, rfl, rfl, rfl⟩
  · refine op_inD hu pins s σ H x y v u Q I rx ry ⟨_, _, h1, h2, pl_shaped p1 (by decide), (pls_shapedT p2).2, ?_⟩
    rw [anyEq_py]
    exact q'
  · refine (in_tup I hu rx ry h1 h2 (pl_shaped p1 (by decide)) (pls_shapedT p2).1).1 ⟨.bl _, H, I, rfl, ?_⟩
    rw [anyEq_py]
    exact q'
  · exact op_in_sign pins s σ H _ _ v u Q I rx ry ⟨c, z, rfl, rfl, q'⟩
theorem opD_notIn (hu : X.A.units + 65 < cLine) : OpR X (compareOp .NotIn) (rD2 (mx X xo) dNotIn) := by
  intro pins s σ H x y v u Q I rx ry ⟨G, d1, d2, d, g, r1, r2, hd, q⟩
  simp only [dNotIn, Option.map_eq_some_iff] at hd
  obtain ⟨k, hk, rfl⟩ := hd
  have q' := q _ G H (Nw.refl g) rfl
  rcases inB_of hk g r1 r2 with ⟨p, ds, p1, p2, h1, ⟨h2, _⟩ | ⟨h2, _⟩, rfl⟩ | ⟨c, z, rfl, rfl, rfl⟩
  · refine op_notInD hu pins s σ H x y v u Q I rx ry ⟨_, _, h1, h2, pl_shaped p1 (by decide), (pls_shapedT p2).2, ?_⟩
    rw [anyEq_py]
    exact q'
  · refine (in_tup I hu rx ry h1 h2 (pl_shaped p1 (by decide)) (pls_shapedT p2).1).2 ⟨.bl _, H, I, rfl, ?_⟩
    rw [anyEq_py]
    exact q'
  · exact op_notIn_sign pins s σ H _ _ v u Q I rx ry ⟨c, z, rfl, rfl, q'⟩
/-! ### arithmetic -/
def szB : Nat := 1000000
theorem szB_le {n : Nat} (h : n ≤ szB) : n ≤ sizeLine := Nat.le_trans h (by decide)
def dAdd : D → D → Option D
  | .int i, .int j => some (.int (i + j))
  | .str x, .str y => if x.length + y.length ≤ szB then some (.str (x ++ y)) else none
  | .tup x, .tup y => if x.length + y.length ≤ szB then some (.tup (x ++ y)) else none
  | .lst x, .lst y => if x.length + y.length ≤ szB then some (.lst (x ++ y)) else none
  | _, _ => none
def dSub : D → D → Option D
  | .int i, .int j => some (.int (i - j))
  | _, _ => none
def smallI (i : Int) : Bool := decide (-(2 ^ 64) < i) && decide (i < 2 ^ 64)
def dMul : D → D → Option D
  | .int i, .int j => if smallI i || smallI j then some (.int (i * j)) else none
  | .lst x, .int j => if 0 ≤ j ∧ j < 1000 ∧ x.length * j.toNat ≤ szB then some (.lst (List.replicate j.toNat x).flatten) else none
  | _, _ => none
def dMod : D → D → Option D
  | .int i, .int j => if 0 < j then some (.int (i % j)) else none
  | _, _ => none
def dFdiv : D → D → Option D
  | .int i, .int j => if 0 < j ∧ j < 1073741824 then some (.int (i / j)) else none
  | _, _ => none
def dPow : D → D → Option D
  | .int i, .int j => if 0 ≤ j ∧ j ≤ 1000000 ∧ i.natAbs < 2 ^ 64 then some (.int (i ^ j.toNat)) else none
  | _, _ => none
def dLt : D → D → Option D
  | .int i, .int j => some (.bl (decide (i < j)))
  | .str x, .str y => some (.bl (decide (x.cps.toList < y.cps.toList)))
  | _, _ => none
def dLe : D → D → Option D
  | .int i, .int j => some (.bl (decide (i ≤ j)))
  | _, _ => none
def dGt : D → D → Option D
  | .int i, .int j => some (.bl (decide (j < i)))
  | _, _ => none
def dGe : D → D → Option D
  | .int i, .int j => some (.bl (decide (j ≤ i)))
  | _, _ => none
theorem rD2_int {M : Mx} {k : D → D → Option D} {x y : V} {H : Hp} {Q : VK} (h : rD2 M k x y H Q) (hi : ∀ a b d, k a b = some d → ∃ i j, a = .int i ∧ b = .int j) :
    ∃ G i j d, Ex G H ∧ x = .int i ∧ y = .int j ∧ k (.int i) (.int j) = some d ∧ ∀ v G' H', Nw G H G' H' → Rp M G' d v → Q v H' := by
  obtain ⟨G, d1, d2, d, g, r1, r2, hd, q⟩ := h
  obtain ⟨i, j, rfl, rfl⟩ := hi _ _ _ hd
  exact ⟨G, i, j, d, g, r1.int, r2.int, hd, q⟩
theorem opD_sub : OpR X (binaryOp .Sub) (rD2 (mx X xo) dSub) := fun pins s σ H x y v u Q I rx ry h => by
  obtain ⟨G, i, j, d, g, rfl, rfl, hd, q⟩ := rD2_int h fun a b d e => by cases a <;> cases b <;> simp [dSub] at e ⊢
  cases hd
  exact op_sub pins s σ H _ _ v u Q I rx ry ⟨i, j, rfl, rfl, q _ G H (Nw.refl g) rfl⟩
theorem opD_mod : OpR X (binaryOp .Mod) (rD2 (mx X xo) dMod) := fun pins s σ H x y v u Q I rx ry h => by
  obtain ⟨G, i, j, d, g, rfl, rfl, hd, q⟩ := rD2_int h fun a b d e => by cases a <;> cases b <;> simp [dMod] at e ⊢
  simp only [dMod] at hd
  by_cases hj : 0 < j
  · rw [if_pos hj] at hd
    cases hd
    exact op_mod pins s σ H _ _ v u Q I rx ry ⟨i, j, rfl, rfl, hj, q _ G H (Nw.refl g) rfl⟩
  · rw [if_neg hj] at hd
    cases hd
theorem opD_fdiv : OpR X (binaryOp .FloorDiv) (rD2 (mx X xo) dFdiv) := fun pins s σ H x y v u Q I rx ry h => by
  obtain ⟨G, i, j, d, g, rfl, rfl, hd, q⟩ := rD2_int h fun a b d e => by cases a <;> cases b <;> simp [dFdiv] at e ⊢
  simp only [dFdiv] at hd
  by_cases hj : 0 < j ∧ j < 1073741824
  · rw [if_pos hj] at hd
    cases hd
    exact op_fdiv pins s σ H _ _ v u Q I rx ry ⟨i, j, rfl, rfl, hj, q _ G H (Nw.refl g) rfl⟩
  · rw [if_neg hj] at hd
    cases hd
theorem opD_pow : OpR X (binaryOp .Pow) (rD2 (mx X xo) dPow) := fun pins s σ H x y v u Q I rx ry h => by
  obtain ⟨G, i, j, d, g, rfl, rfl, hd, q⟩ := rD2_int h fun a b d e => by cases a <;> cases b <;> simp [dPow] at e ⊢
  simp only [dPow] at hd
  by_cases hj : 0 ≤ j ∧ j ≤ 1000000 ∧ i.natAbs < 2 ^ 64
  · rw [if_pos hj] at hd
    cases hd
    exact op_pow pins s σ H _ _ v u Q I rx ry ⟨i, j, rfl, rfl, hj, q _ G H (Nw.refl g) rfl⟩
  · rw [if_neg hj] at hd
    cases hd
theorem opD_le : OpR X (compareOp .LtE) (rD2 (mx X xo) dLe) := fun pins s σ H x y v u Q I rx ry h => by
  obtain ⟨G, i, j, d, g, rfl, rfl, hd, q⟩ := rD2_int h fun a b d e => by cases a <;> cases b <;> simp [dLe] at e ⊢
  cases hd
  exact op_le pins s σ H _ _ v u Q I rx ry ⟨i, j, rfl, rfl, q _ G H (Nw.refl g) rfl⟩
theorem opD_gt : OpR X (compareOp .Gt) (rD2 (mx X xo) dGt) := fun pins s σ H x y v u Q I rx ry h => by
  obtain ⟨G, i, j, d, g, rfl, rfl, hd, q⟩ := rD2_int h fun a b d e => by cases a <;> cases b <;> simp [dGt] at e ⊢
  cases hd
  exact op_gt pins s σ H _ _ v u Q I rx ry ⟨i, j, rfl, rfl, q _ G H (Nw.refl g) rfl⟩
theorem opD_ge : OpR X (compareOp .GtE) (rD2 (mx X xo) dGe) := fun pins s σ H x y v u Q I rx ry h => by
  obtain ⟨G, i, j, d, g, rfl, rfl, hd, q⟩ := rD2_int h fun a b d e => by cases a <;> cases b <;> simp [dGe] at e ⊢
  cases hd
  exact op_ge pins s σ H _ _ v u Q I rx ry ⟨i, j, rfl, rfl, q _ G H (Nw.refl g) rfl⟩
theorem opD_lt : OpR X (compareOp .Lt) (rD2 (mx X xo) dLt) := by
  intro pins s σ H x y v u Q I rx ry ⟨G, d1, d2, d, g, r1, r2, hd, q⟩
  unfold dLt at hd
  split at hd
  · cases hd
    rw [r1.int] at rx
    rw [r2.int] at ry
    exact op_lt pins s σ H _ _ v u Q I rx ry ⟨_, _, rfl, rfl, q _ G H (Nw.refl g) rfl⟩
  · cases hd
    rw [r1.str] at rx
    rw [r2.str] at ry
    exact op_lt_str pins s σ H _ _ v u Q I rx ry ⟨_, _, rfl, rfl, q _ G H (Nw.refl g) rfl⟩
  · cases hd
theorem SqT.len {M : Mx} {H : Hp} {p : Addr} {vs : List V} {ds : List D} {G : Hp} (r : Rps M G ds vs) : vs.length = ds.length := r.length
theorem opD_add : OpR X (binaryOp .Add) (rD2 (mx X xo) dAdd) := by
  intro pins s σ H x y v u Q I rx ry ⟨G, d1, d2, d, g, r1, r2, hd, q⟩
  unfold dAdd at hd
  split at hd
  · cases hd
    rw [r1.int] at rx
    rw [r2.int] at ry
    exact op_add pins s σ H _ _ v u Q I rx ry ⟨_, _, rfl, rfl, q _ G H (Nw.refl g) rfl⟩
  · split at hd
    · rename_i hz
      cases hd
      rw [r1.str] at rx
      rw [r2.str] at ry
      exact op_add_str pins s σ H _ _ v u Q I rx ry ⟨_, _, rfl, rfl, szB_le hz, q _ G H (Nw.refl g) rfl⟩
    · cases hd
  · split at hd
    · rename_i xs ys hz
      cases hd
      obtain ⟨a, vs, rfl, h1, h2⟩ := r1.tup g
      obtain ⟨b, ws, rfl, h3, h4⟩ := r2.tup g
      have l1 := h2.length
      have l2 := h4.length
      have all := h2.append h4
      refine op_catA pins s σ H _ _ v u Q I rx ry ⟨a, b, vs, ws, rfl, rfl, h1, h3, szB_le (by omega), fun e => ?_, fun _ e => ?_, fun _ _ p hp => ?_⟩
      · have e2 : xs = [] := List.eq_nil_of_length_eq_zero (by rw [← l1, e]; rfl)
        subst e2
        obtain ⟨c, us, e3, h5, h6⟩ : Rpv (mx X xo) G H [] (.tup ys) (.ref b) := r2
        · exact q _ G H (Nw.refl g) ⟨c, us, e3, h5, h6⟩
        · rename_i z
          rcases z with ⟨_, _, _, z, _⟩ | ⟨_, _, z, _⟩ <;> cases z
      · have e2 : ys = [] := List.eq_nil_of_length_eq_zero (by rw [← l2, e]; rfl)
        subst e2
        rw [List.append_nil] at q
        obtain ⟨c, us, e3, h5, h6⟩ : Rpv (mx X xo) G H [] (.tup xs) (.ref a) := r1
        · exact q _ G H (Nw.refl g) ⟨c, us, e3, h5, h6⟩
        · rename_i z
          rcases z with ⟨_, _, _, z, _⟩ | ⟨_, _, z, _⟩ <;> cases z
      · exact q _ (upd G p (.tup (vs ++ ws))) _ (Nw.new g hp) (Rp.of_tup all (g.back hp))
    · cases hd
  · split at hd
    · rename_i xs ys hz
      cases hd
      obtain ⟨a, vs, rfl, h1, h2⟩ := r1.list g
      obtain ⟨b, ws, rfl, h3, h4⟩ := r2.list g
      have l1 := h2.length
      have l2 := h4.length
      have all := h2.append h4
      exact op_cat pins s σ H _ _ v u Q I rx ry ⟨a, b, vs, ws, rfl, rfl, h1, h3, szB_le (by omega), fun p hp => q _ (upd G p (.lst (vs ++ ws))) _ (Nw.new g hp) (Rp.of_lst all (g.back hp))⟩
    · cases hd
  · cases hd
/-! ### is None -/
def dIsN : D → D → Option D
  | .non, .non => some (.bl true)
  | _, .non => some (.bl false)
  | _, _ => none
def dNotN : D → D → Option D
  | .non, .non => some (.bl false)
  | _, .non => some (.bl true)
  | _, _ => none
theorem Rpv.non_iff {M : Mx} {G H : Hp} {S : List Addr} {d : D} {v : V} (h : Rpv M G H S d v) : (v = .non) ↔ d = .non := by
  constructor
  · rintro rfl
    rcases h with h | ⟨p, vs, es, _, h1, _⟩ | ⟨p, kvs, _, h1, _⟩
    · cases d with
      | non => rfl
      | bl b => cases (show V.non = V.bl b from h)
      | int b => cases (show V.non = V.int b from h)
      | str b => cases (show V.non = V.str b from h)
      | tup ds => obtain ⟨a, vs, e, _⟩ := h; cases e
      | lst ds => obtain ⟨a, vs, e, _⟩ := h; cases e
      | dic ds => obtain ⟨a, e, _⟩ := h; cases e
      | obj c ds => obtain ⟨a, _, vs, e, _⟩ := h; cases e
    · cases h1
    · cases h1
  · rintro rfl
    exact h.non
theorem opD_isN : OpR X (compareOp .Is) (rD2 (mx X xo) dIsN) := by
  intro pins s σ H x y v u Q I rx ry ⟨G, d1, d2, d, g, r1, r2, hd, q⟩
  have q' := q (.bl (decide (x = .non))) G H (Nw.refl g)
  have hx := r1.non_iff
  unfold dIsN at hd
  split at hd
  · cases hd
    exact op_isN pins s σ H _ _ v u Q I rx ry ⟨r2.non, q' (by rw [decide_eq_true (hx.mpr rfl)]; rfl)⟩
  · rename_i hn
    cases hd
    exact op_isN pins s σ H _ _ v u Q I rx ry ⟨r2.non, q' (by rw [decide_eq_false (fun z => hn (hx.mp z))]; rfl)⟩
  · cases hd
theorem opD_notN : OpR X (compareOp .IsNot) (rD2 (mx X xo) dNotN) := by
  intro pins s σ H x y v u Q I rx ry ⟨G, d1, d2, d, g, r1, r2, hd, q⟩
  have q' := q (.bl (!decide (x = .non))) G H (Nw.refl g)
  have hx := r1.non_iff
  unfold dNotN at hd
  split at hd
  · cases hd
    exact op_notN pins s σ H _ _ v u Q I rx ry ⟨r2.non, q' (by rw [decide_eq_true (hx.mpr rfl)]; rfl)⟩
  · rename_i hn
    cases hd
    exact op_notN pins s σ H _ _ v u Q I rx ry ⟨r2.non, q' (by rw [decide_eq_false (fun z => hn (hx.mp z))]; rfl)⟩
  · cases hd
/-! ### an item by its place -/
def dAt {α : Type} (xs : List α) (i : Int) : Option α := if 0 ≤ i then xs[i.toNat]? else if -(xs.length : Int) ≤ i then xs[(i + xs.length).toNat]? else none
theorem dAt_atI {α : Type} (xs : List α) (i : Int) {x : α} (h : dAt xs i = some x) : atI xs i = some x := by
  unfold dAt at h
  unfold atI ixN
  by_cases h0 : 0 ≤ i
  · rw [if_pos h0] at h ⊢
    have hl := (List.getElem?_eq_some_iff.mp h).1
    rw [if_pos (by omega)]
    exact h
  · rw [if_neg h0] at h ⊢
    by_cases h1 : -(xs.length : Int) ≤ i
    · rw [if_pos h1] at h ⊢
      exact h
    · rw [if_neg h1] at h
      cases h
def dIx : D → D → Option D
  | .lst xs, .int i => dAt xs i
  | .tup xs, .int i => dAt xs i
  | .str x, .int i => if x.length ≤ szB then (dAt x.cps.toList i).map fun c => .str ⟨#[c]⟩ else none
  | _, _ => none
theorem Rps.at {M : Mx} {G : Hp} {ds : List D} {vs : List V} {i : Int} {d : D} (r : Rps M G ds vs) (h : dAt ds i = some d) : ∃ v, dAt vs i = some v ∧ Rp M G d v := by
  unfold dAt at h ⊢
  rw [r.length]
  by_cases h0 : 0 ≤ i
  · rw [if_pos h0] at h ⊢
    exact r.get h
  · rw [if_neg h0] at h ⊢
    by_cases h1 : -(ds.length : Int) ≤ i
    · rw [if_pos h1] at h ⊢
      exact r.get h
    · rw [if_neg h1] at h
      cases h
theorem ixD : IxR X (rD2 (mx X xo) dIx) := by
  intro value slice pins s σ H x y v u Q I rx ry ⟨G, d1, d2, d, g, r1, r2, hd, q⟩ hs
  unfold dIx at hd
  split at hd
  · obtain ⟨p, vs, rfl, h1, h2⟩ := r1.list g
    rw [r2.int] at ry
    obtain ⟨w, h3, h4⟩ := h2.at hd
    exact ix_list value slice pins s σ H _ _ v u Q I rx ry ⟨p, vs, _, w, rfl, rfl, .inl (.inl h1), dAt_atI _ _ h3, q w G H (Nw.refl g) h4⟩ hs
  · obtain ⟨p, vs, rfl, h1, h2⟩ := r1.tup g
    rw [r2.int] at ry
    obtain ⟨w, h3, h4⟩ := h2.at hd
    exact ix_tup value slice pins s σ H _ _ v u Q I rx ry ⟨p, vs, _, w, rfl, rfl, h1, dAt_atI _ _ h3, q w G H (Nw.refl g) h4⟩ hs
  · split at hd
    · rename_i hz
      rw [r1.str] at rx
      rw [r2.int] at ry
      simp only [Option.map_eq_some_iff] at hd
      obtain ⟨c, hc, rfl⟩ := hd
      exact ix_str value slice pins s σ H _ _ v u Q I rx ry ⟨_, _, c, rfl, rfl, szB_le hz, dAt_atI _ _ hc, q _ G H (Nw.refl g) rfl⟩ hs
    · cases hd
  · cases hd
/-! ### len, int -/
def dLen : List D → Option D
  | [.str x] => if x.length ≤ szB then some (.int x.length) else none
  | [.lst xs] => some (.int xs.length)
  | [.tup xs] => some (.int xs.length)
  | _ => none
theorem Rpvs.one {M : Mx} {G H : Hp} {d : D} {vs : List V} (h : Rpvs M G H [] [d] vs) : ∃ v, vs = [v] ∧ Rpv M G H [] d v := by
  cases h with
  | cons r t => cases t; exact ⟨_, rfl, r⟩
theorem Rpvs.two {M : Mx} {G H : Hp} {d d' : D} {vs : List V} (h : Rpvs M G H [] [d, d'] vs) : ∃ v w, vs = [v, w] ∧ Rpv M G H [] d v ∧ Rpv M G H [] d' w := by
  cases h with
  | cons r t =>
    cases t with
    | cons r2 t2 => cases t2; exact ⟨_, _, rfl, r, r2⟩
theorem crD_len : CallR X (.builtin "len") (rDN (mx X xo) dLen) := by
  intro pins s σ H xs us Q I rv ⟨G, ds, d, g, r, hd, q⟩
  unfold dLen at hd
  split at hd
  · split at hd
    · rename_i hz
      cases hd
      obtain ⟨v, rfl, r1⟩ := r.one
      exact call_len pins s σ H _ us Q I rv ⟨_, _, rfl, by rw [r1.str]; exact ⟨szB_le hz, rfl⟩, q _ G H (Nw.refl g) rfl⟩
    · cases hd
  · cases hd
    obtain ⟨v, rfl, r1⟩ := r.one
    obtain ⟨p, vs, rfl, h1, h2⟩ := r1.list g
    exact call_len pins s σ H _ us Q I rv ⟨_, vs.length, rfl, .inl ⟨vs, .inl (.inl h1), rfl⟩, q _ G H (Nw.refl g) (by rw [h2.length]; rfl)⟩
  · cases hd
    obtain ⟨v, rfl, r1⟩ := r.one
    obtain ⟨p, vs, rfl, h1, h2⟩ := r1.tup g
    exact call_len pins s σ H _ us Q I rv ⟨_, vs.length, rfl, .inr ⟨vs, h1, rfl⟩, q _ G H (Nw.refl g) (by rw [h2.length]; rfl)⟩
  · cases hd
def dInt : List D → Option D
  | [.int i] => some (.int i)
  | [.bl b] => some (.int (if b then 1 else 0))
  | _ => none
theorem crD_int : CallR X (.type "int") (rDN (mx X xo) dInt) := by
  intro pins s σ H xs us Q I rv ⟨G, ds, d, g, r, hd, q⟩
  unfold dInt at hd
  split at hd
  · cases hd
    obtain ⟨v, rfl, r1⟩ := r.one
    exact call_int1 pins s σ H _ us Q I rv (.inl ⟨_, by rw [r1.int], q _ G H (Nw.refl g) rfl⟩)
  · cases hd
    obtain ⟨v, rfl, r1⟩ := r.one
    exact call_int1 pins s σ H _ us Q I rv (.inr ⟨_, by rw [r1.bl], q _ G H (Nw.refl g) rfl⟩)
  · cases hd
def dMax2 : List D → Option D
  | [.int i, .int j] => some (.int (if j > i then j else i))
  | _ => none
def dMin2 : List D → Option D
  | [.int i, .int j] => some (.int (if j < i then j else i))
  | _ => none
theorem crD_max2 (hc : X.calm = true) : CallR X (.builtin "max") (rDN (mx X xo) dMax2) := by
  intro pins s σ H xs us Q I rv ⟨G, ds, d, g, r, hd, q⟩
  unfold dMax2 at hd
  split at hd
  · cases hd
    obtain ⟨v, w, rfl, r1, r2⟩ := r.two
    exact call_max2 hc pins s σ H _ us Q I rv ⟨_, _, by rw [r1.int, r2.int], q _ G H (Nw.refl g) rfl⟩
  · cases hd
theorem crD_min2 (hc : X.calm = true) : CallR X (.builtin "min") (rDN (mx X xo) dMin2) := by
  intro pins s σ H xs us Q I rv ⟨G, ds, d, g, r, hd, q⟩
  unfold dMin2 at hd
  split at hd
  · cases hd
    obtain ⟨v, w, rfl, r1, r2⟩ := r.two
    exact call_min2 hc pins s σ H _ us Q I rv ⟨_, _, by rw [r1.int, r2.int], q _ G H (Nw.refl g) rfl⟩
  · cases hd
/-! ### list(..), tuple(..) -/
def dListOf : List D → Option D
  | [.lst xs] => some (.lst xs)
  | [.tup xs] => some (.lst xs)
  | _ => none
def dTupOf : List D → Option D
  | [.lst xs] => some (.tup xs)
  | [.tup xs] => some (.tup xs)
  | _ => none
theorem crD_list : CallR X (.type "list") (rDN (mx X xo) dListOf) := by
  intro pins s σ H xs us Q I rv ⟨G, ds, d, g, r, hd, q⟩
  unfold dListOf at hd
  split at hd
  · cases hd
    obtain ⟨v, rfl, r1⟩ := r.one
    obtain ⟨p, vs, rfl, h1, h2⟩ := r1.list g
    exact call_list_of pins s σ H _ us Q I rv ⟨p, vs, rfl, .inl (.inl (.inl h1)), fun l hl => q _ (upd G l (.lst vs)) _ (Nw.new g hl) (Rp.of_lst h2 (g.back hl))⟩
  · cases hd
    obtain ⟨v, rfl, r1⟩ := r.one
    obtain ⟨p, vs, rfl, h1, h2⟩ := r1.tup g
    exact call_list_of pins s σ H _ us Q I rv ⟨p, vs, rfl, .inr h1, fun l hl => q _ (upd G l (.lst vs)) _ (Nw.new g hl) (Rp.of_lst h2 (g.back hl))⟩
  · cases hd
theorem Rpv.tupR {M : Mx} {G H : Hp} {S : List Addr} {ds : List D} {v : V} (h : Rpv M G H S (.tup ds) v) : Rp M G (.tup ds) v := by
  rcases h with h | ⟨_, _, _, z, _⟩ | ⟨_, _, z, _⟩
  · exact h
  · cases z
  · cases z
theorem crD_tuple : CallR X (.type "tuple") (rDN (mx X xo) dTupOf) := by
  intro pins s σ H xs us Q I rv ⟨G, ds, d, g, r, hd, q⟩
  unfold dTupOf at hd
  split at hd
  · cases hd
    obtain ⟨v, rfl, r1⟩ := r.one
    obtain ⟨p, vs, rfl, h1, h2⟩ := r1.list g
    exact call_tuple_of pins s σ H _ us Q I rv ⟨p, vs, rfl, .inl ⟨.inl (.inl h1), fun l hl => q _ (upd G l (.tup vs)) _ (Nw.new g hl) (Rp.of_tup h2 (g.back hl))⟩⟩
  · cases hd
    obtain ⟨v, rfl, r1⟩ := r.one
    have r2 := r1.tupR
    obtain ⟨p, vs, rfl, h1, h2⟩ := r1.tup g
    exact call_tuple_of pins s σ H _ us Q I rv ⟨p, vs, rfl, .inr ⟨h1, q _ G H (Nw.refl g) r2⟩⟩
  · cases hd
end
end TF
/-! #### text TFe -/
set_option Elab.async false
set_option linter.all false
set_option maxRecDepth 100000
set_option maxHeartbeats 2000000
/-! TFe: readings of statements. -/
namespace TF
open PySem L2
/-! ### storing into names -/
theorem Env.setFz {M : Mx} {F G H : Hp} {σ : St} {e : Ev} (h : Env M F Y G H σ e) {i : Nat} {d : D} {v : V} (r : Rp M G d v) : Env M F Y G H (σ.set i (some v)) (e.set i (.fz d)) := by
  obtain ⟨fp, h1, h2, h3, h4, h5⟩ := h.sl
  refine ⟨h.gh, h.fh, by rw [List.length_set, List.length_set]; exact h.len, fun j => if j = i then [] else fp j, fun j s hj => ?_, fun j k a hj hk => ?_, fun j a hj => ?_, fun j hj => ?_, fun j t a hj ha => ?_⟩
  · by_cases e1 : j = i
    · subst e1
      obtain ⟨hl, he⟩ := List.getElem?_eq_some_iff.mp hj
      rw [List.length_set] at hl
      rw [List.getElem_set_self] at he
      subst he
      simp only [if_pos]
      rw [List.getElem?_set_self (by rw [h.len]; exact hl)]
      exact ⟨rfl, v, rfl, r⟩
    · simp only [if_neg e1]
      rw [List.getElem?_set_ne (Ne.symm e1)] at hj ⊢
      exact h1 j s hj
  · by_cases e1 : j = i
    · simp only [if_pos e1] at hj; cases hj
    · by_cases e2 : k = i
      · simp only [if_pos e2] at hk; cases hk
      · simp only [if_neg e1] at hj
        simp only [if_neg e2] at hk
        exact h2 j k a hj hk
  · by_cases e1 : j = i
    · simp only [if_pos e1] at hj; cases hj
    · simp only [if_neg e1] at hj
      exact h3 j a hj
  · by_cases e1 : j = i
    · simp only [if_pos e1]
    · simp only [if_neg e1]
      rw [List.getElem?_set_ne (Ne.symm e1)] at hj
      exact h4 j hj
  · by_cases e1 : j = i
    · simp only [if_pos e1] at ha; cases ha
    · simp only [if_neg e1] at ha
      rw [List.getElem?_set_ne (Ne.symm e1)] at hj
      exact h5 j t a hj ha
/-- a list or a dict of one's own, new, at a name -/
theorem Env.setO {M : Mx} {F G H : Hp} {σ : St} {e : Ev} {p : Addr} {o : HO} (h : Env M (upd F p o) Y G H σ e) (hF : F p = none) (hG : G p = none) {i : Nat} {s : S} (ok : SlotOk M G H s (some (.ref p)) [p]) : ∃ Y, Env M F Y G H (σ.set i (some (.ref p))) (e.set i s) := by
  obtain ⟨fp, h1, h2, h3, h4, h5⟩ := h.sl
  have np : ∀ j a, a ∈ fp j → a ≠ p := fun j a ha z => by
    have := (h3 j a ha).2
    rw [z, upd_same] at this
    cases this
  have exF : Ex F H := (Ex.new hF).trans h.fh
  by_cases hi : i < e.length
  · refine ⟨if isSh s = true then p :: Y else Y.filter (· ≠ p), h.gh, exF, by rw [List.length_set, List.length_set]; exact h.len, fun j => if j = i then [p] else fp j, fun j s' hj => ?_, fun j k a hj hk => ?_, fun j a hj => ?_, fun j hj => ?_, fun j t a hj ha => ?_⟩
    · by_cases e1 : j = i
      · subst e1
        obtain ⟨hl, he⟩ := List.getElem?_eq_some_iff.mp hj
        rw [List.getElem_set_self] at he
        subst he
        simp only [if_pos]
        rw [List.getElem?_set_self (by rw [h.len]; exact hi)]
        exact ok
      · simp only [if_neg e1]
        rw [List.getElem?_set_ne (Ne.symm e1)] at hj ⊢
        exact h1 j s' hj
    · by_cases e1 : j = i
      · simp only [if_pos e1, List.mem_singleton] at hj
        by_cases e2 : k = i
        · rw [e1, e2]
        · simp only [if_neg e2] at hk
          exact absurd hj (np k a hk)
      · simp only [if_neg e1] at hj
        by_cases e2 : k = i
        · simp only [if_pos e2, List.mem_singleton] at hk
          exact absurd hk (np j a hj)
        · simp only [if_neg e2] at hk
          exact h2 j k a hj hk
    · by_cases e1 : j = i
      · simp only [if_pos e1, List.mem_singleton] at hj
        subst hj
        exact ⟨hG, hF⟩
      · simp only [if_neg e1] at hj
        refine ⟨(h3 j a hj).1, ?_⟩
        have := (h3 j a hj).2
        rw [upd_ne (np j a hj)] at this
        exact this
    · by_cases e1 : j = i
      · subst e1
        rw [List.getElem?_eq_none_iff, List.length_set] at hj
        omega
      · simp only [if_neg e1]
        rw [List.getElem?_set_ne (Ne.symm e1)] at hj
        exact h4 j hj
    · by_cases e1 : j = i
      · simp only [if_pos e1, List.mem_singleton] at ha
        subst e1 ha
        rw [List.getElem?_set_self hi] at hj
        cases hj
        by_cases hsh : isSh s = true
        · rw [if_pos hsh, hsh]
          exact ⟨fun _ => List.mem_cons_self, fun _ => rfl⟩
        · rw [if_neg hsh]
          exact ⟨fun z => absurd z hsh, fun z => by simp at z⟩
      · simp only [if_neg e1] at ha
        rw [List.getElem?_set_ne (Ne.symm e1)] at hj
        have q := h5 j t a hj ha
        have na := np j a ha
        by_cases hsh : isSh s = true
        · rw [if_pos hsh, q, List.mem_cons]
          exact ⟨.inr, fun z => z.resolve_left na⟩
        · rw [if_neg hsh, q]
          simp [na]
  · have e1 : e.set i s = e := List.set_eq_of_length_le (by omega)
    have e2 : σ.set i (some (.ref p)) = σ := List.set_eq_of_length_le (by rw [h.len]; omega)
    rw [e1, e2]
    refine ⟨Y, h.gh, exF, h.len, fp, h1, h2, fun j a ha => ⟨(h3 j a ha).1, ?_⟩, h4, h5⟩
    have := (h3 j a ha).2
    rw [upd_ne (np j a ha)] at this
    exact this
/-- what one's own thing at a name holds is changed -/
theorem Env.mut {M : Mx} {F G H : Hp} {σ : St} {e : Ev} (h : Env M F Y G H σ e) {i : Nat} {s s' : S} {p : Addr} {o : HO} (hs : e[i]? = some s) (hσ : σ[i]? = some (some (.ref p)))
    (hsh : isSh s' = isSh s) (hone : ∀ fp, SlotOk M G H s (some (.ref p)) fp → fp = [p]) (ok' : SlotOk M G (upd H p o) s' (some (.ref p)) [p]) : Env M F Y G (upd H p o) σ (e.set i s') := by
  obtain ⟨fp, h1, h2, h3, h4, h5⟩ := h.sl
  have hfp : fp i = [p] := by
    have := h1 i s hs
    rw [hσ] at this
    exact hone _ this
  have hp := h3 i p (by rw [hfp]; exact List.mem_cons_self)
  refine ⟨h.gh.mut hp.1, h.fh.mut hp.2, by rw [List.length_set]; exact h.len, fp, fun j t hj => ?_, h2, h3, fun j hj => ?_, fun j t a hj ha => ?_⟩
  · by_cases e1 : j = i
    · subst e1
      obtain ⟨hl, he⟩ := List.getElem?_eq_some_iff.mp hj
      rw [List.getElem_set_self] at he
      subst he
      rw [hσ, hfp]
      exact ok'
    · rw [List.getElem?_set_ne (Ne.symm e1)] at hj
      refine (h1 j t hj).step (Ex.refl _) fun a ha => upd_ne fun z => ?_
      subst z
      exact e1 (h2 j i a ha (by rw [hfp]; exact List.mem_cons_self))
  · refine h4 j ?_
    by_cases e1 : j = i
    · subst e1
      rw [List.getElem?_eq_none_iff, List.length_set] at hj
      exact List.getElem?_eq_none_iff.mpr hj
    · rw [List.getElem?_set_ne (Ne.symm e1)] at hj
      exact hj
  · by_cases e1 : j = i
    · subst e1
      obtain ⟨hl, he⟩ := List.getElem?_eq_some_iff.mp hj
      rw [List.getElem_set_self] at he
      subst he
      rw [hsh]
      exact h5 j s a hs ha
    · rw [List.getElem?_set_ne (Ne.symm e1)] at hj
      exact h5 j t a hj ha
/-- what is one's own is frozen -/
theorem Env.frz {M : Mx} {F G H : Hp} {σ : St} {e : Ev} (h : Env M F Y G H σ e) {i : Nat} {ds : List D} (hs : e[i]? = some (.ol ds)) : ∃ G', Env M F Y G' H σ (e.set i (.fz (.lst ds))) ∧ Ex G G' ∧ ∀ a, G' a ≠ none → G a ≠ none ∨ F a = none := by
  obtain ⟨fp, h1, h2, h3, h4, h5⟩ := h.sl
  obtain ⟨p, vs, e1, e2, e3, e4⟩ := h1 i _ hs
  have hp := h3 i p (by rw [e2]; exact List.mem_cons_self)
  have gx : Ex G (upd G p (.lst vs)) := Ex.new hp.1
  refine ⟨upd G p (.lst vs), ⟨fun a o ha => ?_, h.fh, by rw [List.length_set]; exact h.len, fun j => if j = i then [] else fp j, fun j t hj => ?_, fun j k a hj hk => ?_, fun j a hj => ?_, fun j hj => ?_, fun j t a hj ha => ?_⟩, gx, fun a ha => ?_⟩
  · by_cases z : a = p
    · subst z
      rw [upd_same] at ha
      cases ha
      exact e3
    · rw [upd_ne z] at ha
      exact h.gh a o ha
  · by_cases z : j = i
    · subst z
      obtain ⟨hl, he⟩ := List.getElem?_eq_some_iff.mp hj
      rw [List.getElem_set_self] at he
      subst he
      simp only [if_pos]
      exact ⟨rfl, _, e1, Rp.of_lst e4 hp.1⟩
    · simp only [if_neg z]
      rw [List.getElem?_set_ne (Ne.symm z)] at hj
      exact (h1 j t hj).step gx fun _ _ => rfl
  · by_cases z : j = i
    · simp only [if_pos z] at hj; cases hj
    · by_cases z2 : k = i
      · simp only [if_pos z2] at hk; cases hk
      · simp only [if_neg z] at hj
        simp only [if_neg z2] at hk
        exact h2 j k a hj hk
  · by_cases z : j = i
    · simp only [if_pos z] at hj; cases hj
    · simp only [if_neg z] at hj
      refine ⟨?_, (h3 j a hj).2⟩
      rw [upd_ne fun q => ?_]
      · exact (h3 j a hj).1
      · subst q
        exact z (h2 j i a hj (by rw [e2]; exact List.mem_cons_self))
  · by_cases z : j = i
    · simp only [if_pos z]
    · simp only [if_neg z]
      rw [List.getElem?_set_ne (Ne.symm z)] at hj
      exact h4 j hj
  · by_cases z : j = i
    · simp only [if_pos z] at ha; cases ha
    · simp only [if_neg z] at ha
      rw [List.getElem?_set_ne (Ne.symm z)] at hj
      exact h5 j t a hj ha
  · by_cases z : a = p
    · subst z
      exact .inr hp.2
    · rw [upd_ne z] at ha
      exact .inl ha
theorem Env.frzD {M : Mx} {F G H : Hp} {σ : St} {e : Ev} (h : Env M F Y G H σ e) {i : Nat} {kvs : List (D × D)} (hs : e[i]? = some (.od kvs)) : ∃ G', Env M F Y G' H σ (e.set i (.fz (.dic kvs))) ∧ Ex G G' ∧ ∀ a, G' a ≠ none → G a ≠ none ∨ F a = none := by
  obtain ⟨fp, h1, h2, h3, h4, h5⟩ := h.sl
  obtain ⟨p, e1, e2, e3⟩ := h1 i _ hs
  have hp := h3 i p (by rw [e2]; exact List.mem_cons_self)
  obtain ⟨ob, hob⟩ := e3.at
  have gx : Ex G (upd G p ob) := Ex.new hp.1
  refine ⟨upd G p ob, ⟨fun a o ha => ?_, h.fh, by rw [List.length_set]; exact h.len, fun j => if j = i then [] else fp j, fun j t hj => ?_, fun j k a hj hk => ?_, fun j a hj => ?_, fun j hj => ?_, fun j t a hj ha => ?_⟩, gx, fun a ha => ?_⟩
  · by_cases z : a = p
    · subst z
      rw [upd_same] at ha
      cases ha
      exact hob
    · rw [upd_ne z] at ha
      exact h.gh a o ha
  · by_cases z : j = i
    · subst z
      obtain ⟨hl, he⟩ := List.getElem?_eq_some_iff.mp hj
      rw [List.getElem_set_self] at he
      subst he
      simp only [if_pos]
      refine ⟨rfl, _, e1, p, rfl, ?_⟩
      rcases e3 with ⟨ks, k1, k2⟩ | ⟨ks, k1, k2⟩
      · rw [k1] at hob; cases hob
        exact .inl ⟨ks, upd_same, Rpk.mono gx _ _ k2⟩
      · rw [k1] at hob; cases hob
        exact .inr ⟨ks, upd_same, Rpn.mono gx _ _ k2⟩
    · simp only [if_neg z]
      rw [List.getElem?_set_ne (Ne.symm z)] at hj
      exact (h1 j t hj).step gx fun _ _ => rfl
  · by_cases z : j = i
    · simp only [if_pos z] at hj; cases hj
    · by_cases z2 : k = i
      · simp only [if_pos z2] at hk; cases hk
      · simp only [if_neg z] at hj
        simp only [if_neg z2] at hk
        exact h2 j k a hj hk
  · by_cases z : j = i
    · simp only [if_pos z] at hj; cases hj
    · simp only [if_neg z] at hj
      refine ⟨?_, (h3 j a hj).2⟩
      rw [upd_ne fun q => ?_]
      · exact (h3 j a hj).1
      · subst q
        exact z (h2 j i a hj (by rw [e2]; exact List.mem_cons_self))
  · by_cases z : j = i
    · simp only [if_pos z]
    · simp only [if_neg z]
      rw [List.getElem?_set_ne (Ne.symm z)] at hj
      exact h4 j hj
  · by_cases z : j = i
    · simp only [if_pos z] at ha; cases ha
    · simp only [if_neg z] at ha
      rw [List.getElem?_set_ne (Ne.symm z)] at hj
      exact h5 j t a hj ha
  · by_cases z : a = p
    · subst z
      exact .inr hp.2
    · rw [upd_ne z] at ha
      exact .inl ha
/-! ### what comes of a statement -/
inductive Out where
  | stuck | nx (e : Ev) | ret (d : D) (e : Ev) | bk (e : Ev) | ct (e : Ev) | exc (x : Xc) (e : Ev)
abbrev SX := Ev → Out
structure Gro (F G G' : Hp) : Prop where
  gg : Ex G G'
  nw : ∀ a, G' a ≠ none → G a ≠ none ∨ F a = none
theorem Gro.refl (F G : Hp) : Gro F G G := ⟨Ex.refl _, fun _ q => .inl q⟩
theorem Gro.trans {F G G1 G2 : Hp} (a : Gro F G G1) (b : Gro F G1 G2) : Gro F G G2 := ⟨a.gg.trans b.gg, fun x q => (b.nw x q).elim (a.nw x) .inr⟩
theorem Stp.gro {M : Mx} {F G H : Hp} {σ : St} {e : Ev} {G' H' : Hp} {e' : Ev} (s : Stp M F Y G H σ e G' H' e') : Gro F G G' := ⟨s.gg, s.nw⟩
def OkS (M : Mx) (W : WX) (F G : Hp) (D : Ends) (r : Out) : Prop := match r with
  | .stuck => False
  | .nx e' => ∀ Y σ' G' H', Env M F Y G' H' σ' e' → Gro F G G' → D.nx σ' H'
  | .ret d e' => ∀ v Y σ' G' H', Env M F Y G' H' σ' e' → Gro F G G' → Rp M G' d v → D.rt v H'
  | .bk e' => ∀ Y σ' G' H', Env M F Y G' H' σ' e' → Gro F G G' → D.bk σ' H'
  | .ct e' => ∀ Y σ' G' H', Env M F Y G' H' σ' e' → Gro F G G' → D.ct σ' H'
  | .exc x e' => ∀ cls a Y σ' G' H', Env M F Y G' H' σ' e' → Gro F G G' → XcOk M F G' H' x cls a → W cls a σ' H'
def tS (M : Mx) (W : WX) (m : SX) : TS := fun D σ H => ∃ F Y G e, Env M F Y G H σ e ∧ OkS M W F G D (m e)
theorem OkS.gro {M : Mx} {W : WX} {F G G1 : Hp} {D : Ends} {r : Out} (h : OkS M W F G D r) (g : Gro F G G1) : OkS M W F G1 D r := by
  cases r with
  | stuck => exact h
  | nx e' => exact fun Y' σ' G' H' E g' => h _ σ' G' H' E (g.trans g')
  | ret d e' => exact fun v Y' σ' G' H' E g' => h v _ σ' G' H' E (g.trans g')
  | bk e' => exact fun Y' σ' G' H' E g' => h _ σ' G' H' E (g.trans g')
  | ct e' => exact fun Y' σ' G' H' E g' => h _ σ' G' H' E (g.trans g')
  | exc x e' => exact fun cls a Y' σ' G' H' E g' => h cls a _ σ' G' H' E (g.trans g')
/-! ### one after another -/
def sNext : SX := fun e => .nx e
def sSeq (m n : SX) : SX := fun e => match m e with
  | .nx e1 => n e1
  | r => r
/-- behind an expression -/
def sOf (f : EX) (k : D → SX) : SX := fun e => match f e with
  | .stuck => .stuck
  | .val d e1 => k d e1
  | .exc x e1 => .exc x e1
section
variable {X : Cx} {xo : Xo} {W : WX} {a b c : Expr} {f g h : EX} {m n : SX} {st : Stmt} {sts : List Stmt} {pos : Pos}
theorem pss_nilD : PSs X [] (tS (mx X xo) W sNext) := PSs.of pss_nil fun D σ H ⟨F, Y, G, e, hE, q⟩ => q _ σ G H hE (Gro.refl F G)
theorem sSeq_ok {M : Mx} {D : Ends} {F G H : Hp} {σ : St} {e : Ev} (hE : Env M F Y G H σ e) (q : OkS M W F G D (sSeq m n e)) : tS M W m { D with nx := tS M W n D } σ H := by
  refine ⟨F, Y, G, e, hE, ?_⟩
  unfold sSeq at q
  cases hm : m e with
  | stuck => rw [hm] at q; exact q
  | nx e1 => rw [hm] at q; exact fun Y' σ' G' H' E1 g => ⟨F, _, G', e1, E1, OkS.gro q g⟩
  | ret d e1 => rw [hm] at q; exact q
  | bk e1 => rw [hm] at q; exact q
  | ct e1 => rw [hm] at q; exact q
  | exc x e1 => rw [hm] at q; exact q
theorem pss_consD (h1 : PS X st (tS (mx X xo) W m)) (h2 : PSs X sts (tS (mx X xo) W n)) : PSs X (st :: sts) (tS (mx X xo) W (sSeq m n)) := PSs.of (pss_cons h1 h2) fun D σ H ⟨F, Y, G, e, hE, q⟩ => sSeq_ok hE q
theorem pss_oneD (h1 : PS X st (tS (mx X xo) W m)) : PSs X [st] (tS (mx X xo) W m) := pss_one h1
/-- a thing of the frame's own at slot i is frozen from here on -/
def sFrz (i : Nat) : SX := fun e => match e[i]? with
  | some (.ol ds) => .nx (e.set i (.fz (.lst ds)))
  | some (.od kvs) => .nx (e.set i (.fz (.dic kvs)))
  | some (.fz d) => .nx e
  | _ => .stuck
theorem frz_ok {M : Mx} {D : Ends} {F G H : Hp} {σ : St} {e : Ev} {i : Nat} (hE : Env M F Y G H σ e) (q : OkS M W F G D (sSeq (sFrz i) m e)) : tS M W m D σ H := by
  unfold sSeq sFrz at q
  cases hs : e[i]? with
  | none => rw [hs] at q; exact q.elim
  | some s =>
    rw [hs] at q
    cases s with
    | ol ds =>
      obtain ⟨G', E', g1, g2⟩ := hE.frz hs
      exact ⟨F, _, G', _, E', OkS.gro q ⟨g1, g2⟩⟩
    | od kvs =>
      obtain ⟨G', E', g1, g2⟩ := hE.frzD hs
      exact ⟨F, _, G', _, E', OkS.gro q ⟨g1, g2⟩⟩
    | fz d => exact ⟨F, Y, G, e, hE, q⟩
    | un => exact q.elim
    | src p q' st cells ix => exact q.elim
    | sl ds => exact q.elim
    | ex x => exact q.elim
    | me b1 b2 c fs => exact q.elim
    | raw ns => exact q.elim
    | mo a1 a2 c1 f1 o1 => exact q.elim
    | box p1 q1 s1 c1 => exact q.elim
    | cur p1 q1 s1 c1 => exact q.elim
theorem pss_frz (i : Nat) (h1 : PSs X sts (tS (mx X xo) W m)) : PSs X sts (tS (mx X xo) W (sSeq (sFrz i) m)) := PSs.of h1 fun D σ H ⟨F, Y, G, e, hE, q⟩ => frz_ok hE q
theorem ps_frz (i : Nat) (h1 : PS X st (tS (mx X xo) W m)) : PS X st (tS (mx X xo) W (sSeq (sFrz i) m)) := PS.of h1 fun D σ H ⟨F, Y, G, e, hE, q⟩ => frz_ok hE q
/-- from an expression into what follows -/
theorem sOf_ok {M : Mx} {k : D → SX} {D : Ends} {F G H : Hp} {σ : St} {e : Ev} (hE : Env M F Y G H σ e) (q : OkS M W F G D (sOf f k e)) (P : VK)
    (hk : ∀ d e1 v G1 H1, Env M F Y G1 H1 σ e1 → Gro F G G1 → Rp M G1 d v → OkS M W F G1 D (k d e1) → P v H1) : tD M W f σ H P := by
  refine ⟨F, Y, G, e, hE, ?_⟩
  unfold sOf at q
  cases hf : f e with
  | stuck => rw [hf] at q; exact q
  | val d e1 => rw [hf] at q; exact fun v G1 H1 s r => hk d e1 v G1 H1 s.env s.gro r (OkS.gro q s.gro)
  | exc x e1 => rw [hf] at q; exact fun cls a G1 H1 s x1 => q cls a _ σ G1 H1 s.env s.gro x1
theorem ps_exprD (he : PE X a (tD (mx X xo) W f)) (hs : swapsWith a none pos.line X.env = pure false := by rfl) : PS X (.Expr a pos) (tS (mx X xo) W (sOf f fun _ => sNext)) :=
  PS.of (ps_expr he hs) fun D σ H ⟨F, Y, G, e, hE, q⟩ => sOf_ok hE q _ fun d e1 v G1 H1 E1 g r q1 => q1 _ σ G1 H1 E1 (Gro.refl F G1)
theorem ps_docD {x j pos pos'} : PS X (.Expr (.Constant (.str x) j pos) pos') (tS (mx X xo) W sNext) := PS.of ps_doc fun D σ H ⟨F, Y, G, e, hE, q⟩ => q _ σ G H hE (Gro.refl F G)
theorem ps_passD : PS X (.Pass pos) (tS (mx X xo) W sNext) := PS.of ps_pass fun D σ H ⟨F, Y, G, e, hE, q⟩ => q _ σ G H hE (Gro.refl F G)
def sRet : D → SX := fun d e => .ret d e
theorem ps_retD (he : PE X a (tD (mx X xo) W f)) : PS X (.Return (some a) pos) (tS (mx X xo) W (sOf f sRet)) :=
  PS.of (ps_ret he) fun D σ H ⟨F, Y, G, e, hE, q⟩ => sOf_ok hE q _ fun d e1 v G1 H1 E1 g r q1 => q1 v _ σ G1 H1 E1 (Gro.refl F G1) r
def sBrk : SX := fun e => .bk e
def sCnt : SX := fun e => .ct e
theorem ps_brkD : PS X (.Break pos) (tS (mx X xo) W sBrk) := PS.of ps_break fun D σ H ⟨F, Y, G, e, hE, q⟩ => q _ σ G H hE (Gro.refl F G)
theorem ps_cntD : PS X (.Continue pos) (tS (mx X xo) W sCnt) := PS.of ps_continue fun D σ H ⟨F, Y, G, e, hE, q⟩ => q _ σ G H hE (Gro.refl F G)
/-- a test, then one of two ways -/
def sTest (f : EX) (k : Bool → SX) : SX := fun e => match f e with
  | .val (.bl b) e1 => k b e1
  | .exc x e1 => .exc x e1
  | _ => .stuck
def sIf (f : EX) (m n : SX) : SX := sTest f fun b => if b then m else n
theorem sTest_ok {M : Mx} {k : Bool → SX} {D : Ends} {F G H : Hp} {σ : St} {e : Ev} (hE : Env M F Y G H σ e) (q : OkS M W F G D (sTest f k e)) (P : Bool → Hp → Prop)
    (hk : ∀ b e1 G1 H1, Env M F Y G1 H1 σ e1 → Gro F G G1 → OkS M W F G1 D (k b e1) → P b H1) : tT M W f σ H P := by
  refine ⟨F, Y, G, e, hE, ?_⟩
  unfold sTest at q
  cases hf : f e with
  | stuck => rw [hf] at q; exact q
  | val d e1 =>
    rw [hf] at q
    cases d with
    | bl b => exact fun G1 H1 s => hk b e1 G1 H1 s.env s.gro (OkS.gro q s.gro)
    | _ => exact q
  | exc x e1 => rw [hf] at q; exact fun cls a G1 H1 s x1 => q cls a _ σ G1 H1 s.env s.gro x1
theorem ps_ifD {xs ys : List Stmt} (hc : PT X c (tT (mx X xo) W f)) (ha : PSs X xs (tS (mx X xo) W m)) (hb : PSs X ys (tS (mx X xo) W n)) : PS X (.If c xs ys pos) (tS (mx X xo) W (sIf f m n)) :=
  PS.of (ps_if hc ha hb) fun D σ H ⟨F, Y, G, e, hE, q⟩ => sTest_ok hE q _ fun b e1 G1 H1 E1 g q1 => by
    cases b with
    | true => exact ⟨F, _, G1, e1, E1, q1⟩
    | false => exact ⟨F, _, G1, e1, E1, q1⟩
/-! ### targets -/
inductive Tg where
  | nm (i : Nat) | tp (ts : List Tg)
mutual
def asg : Tg → D → Ev → Option Ev
  | .nm i, d, e => some (e.set i (.fz d))
  | .tp ts, .tup ds, e => asgs ts ds e
  | .tp _, _, _ => none
def asgs : List Tg → List D → Ev → Option Ev
  | [], [], e => some e
  | t :: ts, d :: ds, e => (asg t d e).bind fun e1 => asgs ts ds e1
  | _, _, _ => none
end
theorem asgs_len : ∀ {ts : List Tg} {ds : List D} {e e1 : Ev}, asgs ts ds e = some e1 → ts.length = ds.length
  | [], [], _, _, _ => rfl
  | t :: ts, d :: ds, e, e1, h => by
    simp only [asgs, Option.bind_eq_some_iff] at h
    obtain ⟨e2, h1, h2⟩ := h
    rw [List.length_cons, List.length_cons, asgs_len h2]
  | [], _ :: _, _, _, h => by simp [asgs] at h
  | _ :: _, [], _, _, h => by simp [asgs] at h
mutual
def Tg.sl : Tg → List Nat
  | .nm i => [i]
  | .tp ts => Tg.sls ts
def Tg.sls : List Tg → List Nat
  | [] => []
  | t :: ts => Tg.sl t ++ Tg.sls ts
end
/-- only these slots are changed -/
def Chg (l : List Nat) (σ σ' : St) : Prop := ∀ vs, (∀ i ∈ l, i ∈ vs) → wipe σ' vs = wipe σ vs
theorem wipe_at {σ : St} {j : Nat} : ∀ {vs : List Nat}, (wipe σ vs)[j]? = if j ∈ vs then σ[j]?.map fun _ => none else σ[j]?
  | [] => by unfold wipe; simp
  | v :: vs => by
    unfold wipe
    rw [List.getElem?_set]
    have ih := wipe_at (σ := σ) (j := j) (vs := vs)
    by_cases h : v = j
    · subst h
      rw [if_pos rfl, if_pos List.mem_cons_self, wipe_length]
      by_cases hl : v < σ.length
      · rw [if_pos hl, List.getElem?_eq_getElem hl]; rfl
      · rw [if_neg hl, List.getElem?_eq_none (by omega)]; rfl
    · rw [if_neg h, ih]
      by_cases hm : j ∈ vs
      · rw [if_pos hm, if_pos (List.mem_cons_of_mem _ hm)]
      · rw [if_neg hm, if_neg fun z => (List.mem_cons.mp z).elim (fun z => h z.symm) hm]
theorem Chg.refl (σ : St) : Chg [] σ σ := fun _ _ => rfl
theorem Chg.set (σ : St) (i : Nat) (x : Option V) : Chg [i] σ (σ.set i x) := fun vs h => by
  apply List.ext_getElem?
  intro j
  rw [wipe_at, wipe_at]
  by_cases hj : j ∈ vs
  · rw [if_pos hj, if_pos hj, List.getElem?_set]
    by_cases e : i = j
    · subst e
      rw [if_pos rfl]
      by_cases hl : i < σ.length
      · rw [if_pos hl, List.getElem?_eq_getElem hl]; rfl
      · rw [if_neg hl, List.getElem?_eq_none (by omega)]
    · rw [if_neg e]
  · rw [if_neg hj, if_neg hj, List.getElem?_set_ne fun z => hj (by rw [← z]; exact h i List.mem_cons_self)]
theorem Chg.trans {l l' : List Nat} {a b c : St} (h : Chg l a b) (k : Chg l' b c) : Chg (l ++ l') a c := fun vs hv =>
  (k vs fun i hi => hv i (List.mem_append_right _ hi)).trans (h vs fun i hi => hv i (List.mem_append_left _ hi))
def gT (M : Mx) (t : Tg) : TG := fun v σ H Q => ∃ F Y G e d e1, Env M F Y G H σ e ∧ Rp M G d v ∧ asg t d e = some e1 ∧ ∀ σ', Env M F Y G H σ' e1 → Chg t.sl σ σ' → Q σ' H
def gTs (M : Mx) (ts : List Tg) : TGs := fun vs σ H Q => ∃ F Y G e ds e1, Env M F Y G H σ e ∧ Rps M G ds vs ∧ asgs ts ds e = some e1 ∧ ∀ σ', Env M F Y G H σ' e1 → Chg (Tg.sls ts) σ σ' → Q σ' H
theorem PG.of {t t' : TG} {x : Expr} (h : PG X x t) (w : ∀ v σ H Q, t' v σ H Q → t v σ H Q) : PG X x t' := ⟨fun pins s σ H v u Q I r q => h.run pins s σ H v u Q I r (w v σ H Q q)⟩
theorem PGs.of {t t' : TGs} {x : List Expr} (h : PGs X x t) (w : ∀ v σ H Q, t' v σ H Q → t v σ H Q) : PGs X x t' := ⟨fun pins s σ H v u Q I r q => h.run pins s σ H v u Q I r (w v σ H Q q)⟩
theorem pg_nm {i : Nat} {x : Str} (hN : X.N.Nodup) (hi : X.N[i]? = some x) (hx : Loc X.env.scope x) (hf : X.fn x = true ∨ X.env.scope.names.lookup x = some .local) : PG X (.Name x pos) (gT (mx X xo) (.nm i)) :=
  PG.of (pg_name hN hi hx hf) fun v σ H Q ⟨F, Y, G, e, d, e1, hE, r, ha, q⟩ => by
    cases ha
    exact q _ (hE.setFz r) (Chg.set _ _ _)
theorem pg_nilT : PGs X [] (gTs (mx X xo) []) := PGs.of pgs_nil fun vs σ H Q ⟨F, Y, G, e, ds, e1, hE, r, ha, q⟩ => by
  cases ds with
  | nil =>
    simp only [asgs, Option.some.injEq] at ha
    subst ha
    exact ⟨r, q σ hE (Chg.refl σ)⟩
  | cons d ds => simp [asgs] at ha
theorem pg_consT {x : Expr} {es : List Expr} {t : Tg} {ts : List Tg} (h1 : PG X x (gT (mx X xo) t)) (h2 : PGs X es (gTs (mx X xo) ts))
    (hs : (assignEach (x :: es) X.env).map (fun x => x.2) = assign x X.env :: (assignEach es X.env).map (fun x => x.2) := by rfl) : PGs X (x :: es) (gTs (mx X xo) (t :: ts)) :=
  PGs.of (pgs_cons h1 h2 hs) fun vs σ H Q ⟨F, Y, G, e, ds, e1, hE, r, ha, q⟩ => by
    cases ds with
    | nil => simp [asgs] at ha
    | cons d ds =>
      simp only [asgs, Option.bind_eq_some_iff] at ha
      obtain ⟨e2, h3, h4⟩ := ha
      obtain ⟨v, vr, rfl, r1, r2⟩ := r
      exact ⟨v, vr, rfl, F, Y, G, e, d, e2, hE, r1, h3, fun σ' E' c1 => ⟨F, Y, G, e2, ds, e1, E', r2, h4, fun σ2 E2 c2 => q σ2 E2 (c1.trans c2)⟩⟩
theorem pg_tp {es : List Expr} {k : Nat} {ts : List Tg} (hc : X.calm = true) (h : PGs X es (gTs (mx X xo) ts)) (hn : (assignEach es X.env).length = ts.length := by rfl) (hst : (assignEach es X.env).findIdx? (·.1) = none := by rfl) :
    PG X (.Tuple es k pos) (gT (mx X xo) (.tp ts)) :=
  PG.of (pg_tup hc h hn hst) fun v σ H Q ⟨F, Y, G, e, d, e1, hE, r, ha, q⟩ => by
    cases d with
    | tup ds =>
      obtain ⟨p, vs, rfl, h1, h2⟩ := r
      have hl := asgs_len (ts := ts) (ds := ds) ha
      exact ⟨p, vs, rfl, hE.gh.st h1, by rw [h2.length, hl], F, Y, G, e, ds, e1, hE, h2, ha, q⟩
    | _ => simp [asg] at ha
def sAsg (t : Tg) : D → SX := fun d e => match asg t d e with
  | some e1 => .nx e1
  | none => .stuck
theorem ps_asgD {x : Expr} {t : Tg} (he : PE X a (tD (mx X xo) W f)) (hg : PG X x (gT (mx X xo) t)) (hs : swapsWithSole [x] a pos.line X.env = pure false := by rfl) (hw : swappedStores [x] a X.env = pure none := by rfl)
    (h1 : (assignEach [x] X.env).map (fun x => x.2) = [assign x X.env] := by rfl) : PS X (.Assign [x] a pos) (tS (mx X xo) W (sOf f (sAsg t))) :=
  PS.of (ps_asg he hg hs hw h1) fun D σ H ⟨F, Y, G, e, hE, q⟩ => sOf_ok hE q _ fun d e1 v G1 H1 E1 g r q1 => by
    unfold sAsg at q1
    cases ha : asg t d e1 with
    | none => rw [ha] at q1; exact q1.elim
    | some e2 => rw [ha] at q1; exact ⟨F, Y, G1, e1, d, e2, E1, r, ha, fun σ' E' _ => q1 _ σ' G1 H1 E' (Gro.refl F G1)⟩
/-- a, b = e1, e2 -/
def sPar (is : List Nat) : List D → SX := fun ds e => match asgs (is.map Tg.nm) ds e with
  | some e1 => .nx e1
  | none => .stuck
def sOfs (fs : List EX) (k : List D → SX) : SX := fun e => match evs fs e with
  | .stuck => .stuck
  | .val ds e1 => k ds e1
  | .exc x e1 => .exc x e1
theorem sOfs_ok {M : Mx} {fs : List EX} {k : List D → SX} {D : Ends} {F G H : Hp} {σ : St} {e : Ev} (hE : Env M F Y G H σ e) (q : OkS M W F G D (sOfs fs k e)) (P : List V → Hp → Prop)
    (hk : ∀ ds e1 vs G1 H1, Env M F Y G1 H1 σ e1 → Gro F G G1 → Rps M G1 ds vs → OkS M W F G1 D (k ds e1) → P vs H1) : tF M W fs σ H P := by
  refine ⟨F, Y, G, e, hE, ?_⟩
  unfold sOfs at q
  cases hf : evs fs e with
  | stuck => rw [hf] at q; exact q
  | val ds e1 => rw [hf] at q; exact fun vs G1 H1 s r => hk ds e1 vs G1 H1 s.env s.gro r (OkS.gro q s.gro)
  | exc x e1 => rw [hf] at q; exact fun cls a G1 H1 s x1 => q cls a _ σ G1 H1 s.env s.gro x1
theorem ps_parD {i j : Nat} {x y : Str} {f1 f2 : EX} {px py pt : Pos} {kt k2 pt2} (hc : X.calm = true) (hN : X.N.Nodup) (hi : X.N[i]? = some x) (hj : X.N[j]? = some y) (hij : i ≠ j)
    (hp : PS X (.Assign [.Tuple [.Name x px, .Name y py] kt pt] (.Tuple [a, b] k2 pt2) pos) (tPar i j (tF (mx X xo) W [f1, f2]))) :
    PS X (.Assign [.Tuple [.Name x px, .Name y py] kt pt] (.Tuple [a, b] k2 pt2) pos) (tS (mx X xo) W (sOfs [f1, f2] (sPar [i, j]))) :=
  PS.of hp fun D σ H ⟨F, Y, G, e, hE, q⟩ => sOfs_ok hE q _ fun ds e1 vs G1 H1 E1 g r q1 => by
    match ds, vs, r, q1 with
    | [d1, d2], _, ⟨v1, _, rfl, r1, v2, _, rfl, r2, rfl⟩, q1 => exact ⟨v1, v2, rfl, q1 _ _ G1 H1 ((E1.setFz r1).setFz r2) (Gro.refl F G1)⟩
    | [], _, _, q1 => exact q1.elim
    | [d1], _, _, q1 =>
      have z : (sPar [i, j] [d1] e1) = .stuck := by simp [sPar, asgs, asg]
      rw [z] at q1
      exact q1.elim
    | d1 :: d2 :: d3 :: dr, _, _, q1 =>
      have z : (sPar [i, j] (d1 :: d2 :: d3 :: dr) e1) = .stuck := by simp [sPar, asgs, asg]
      rw [z] at q1
      exact q1.elim
/-- x += e, x a number or a text -/
def sAug (i : Nat) (f : EX) : SX := fun e => match e[i]? with
  | some (.fz d) => sOf f (fun d2 e1 => match dAdd d d2 with
    | some d3 => .nx (e1.set i (.fz d3))
    | none => .stuck) e
  | _ => .stuck
def scalD : D → Bool
  | .int _ => true
  | .str _ => true
  | _ => false
def sAugS (i : Nat) (f : EX) : SX := fun e => match e[i]? with
  | some (.fz d) => if scalD d then sAug i f e else .stuck
  | _ => .stuck
theorem ip_addD : PIp X .Add (fun x y H Q => ∃ G d1 d2 d, Ex G H ∧ Rp (mx X xo) G d1 x ∧ Rp (mx X xo) G d2 y ∧ scalD d1 = true ∧ dAdd d1 d2 = some d ∧ ∀ v, Rp (mx X xo) G d v → Q v H) := by
  intro pins s σ H x y v u Q I rx ry ⟨G, d1, d2, d, g, r1, r2, hs, hd, q⟩
  cases d1 with
  | int i =>
    cases d2 with
    | int j =>
      cases hd
      obtain rfl : x = .int i := r1
      obtain rfl : y = .int j := r2
      exact in_add pins s σ H _ _ v u Q I rx ry ⟨i, j, rfl, rfl, q _ rfl⟩
    | _ => simp [dAdd] at hd
  | str i =>
    cases d2 with
    | str j =>
      simp only [dAdd] at hd
      split at hd
      · rename_i hz
        cases hd
        obtain rfl : x = .str i := r1
        obtain rfl : y = .str j := r2
        exact in_addS pins s σ H _ _ v u Q I rx ry ⟨i, j, rfl, rfl, szB_le hz, q _ rfl⟩
      · cases hd
    | _ => simp [dAdd] at hd
  | _ => simp [scalD] at hs
theorem ps_augD {i : Nat} {x : Str} {pos' : Pos} (hN : X.N.Nodup) (hi : X.N[i]? = some x) (hx : Loc X.env.scope x) (hf : X.fn x = true ∨ X.env.scope.names.lookup x = some .local) (he : PE X a (tD (mx X xo) W f)) :
    PS X (.AugAssign (.Name x pos') .Add a pos) (tS (mx X xo) W (sAugS i f)) :=
  PS.of (ps_aug hN hi hx he ip_addD hf) fun D σ H ⟨F, Y, G, e, hE, q⟩ => by
    unfold sAugS sAug at q
    cases hs : e[i]? with
    | none => simp only [hs] at q; exact q.elim
    | some s =>
      cases s with
      | fz d =>
        simp only [hs] at q
        split at q
        · rename_i hsc
          obtain ⟨o, fp, h1, ⟨_, v, h2, h3⟩, _⟩ := hE.slot hs
          subst h2
          refine ⟨v, h1, sOf_ok hE q _ fun d2 e1 v2 G1 H1 E1 g r q1 => ?_⟩
          cases hd : dAdd d d2 with
          | none => simp only [hd] at q1; exact q1.elim
          | some d3 =>
            simp only [hd] at q1
            exact ⟨G1, d, d2, d3, E1.gh, Rp.mono g.gg _ _ h3, r, hsc, hd, fun v3 r3 => q1 _ _ G1 H1 (E1.setFz r3) (Gro.refl F G1)⟩
        · exact q.elim
      | un => simp only [hs] at q; exact q.elim
      | ol d => simp only [hs] at q; exact q.elim
      | od d => simp only [hs] at q; exact q.elim
      | src p q' st cells ix => simp only [hs] at q; exact q.elim
      | sl ds => simp only [hs] at q; exact q.elim
      | ex x => simp only [hs] at q; exact q.elim
      | me b1 b2 c fs => simp only [hs] at q; exact q.elim
      | raw ns => simp only [hs] at q; exact q.elim
      | mo a1 a2 c1 f1 o1 => simp only [hs] at q; exact q.elim
      | box p1 q1 s1 c1 => simp only [hs] at q; exact q.elim
      | cur p1 q1 s1 c1 => simp only [hs] at q; exact q.elim
end
end TF
/-! #### text TFe2 -/
set_option Elab.async false
set_option linter.all false
set_option maxRecDepth 100000
set_option maxHeartbeats 1200000
/-! TFe2: enumerate(t), t a tuple. -/
namespace TF
open PyProof.Rows PySem PySem.Spec
theorem new_enum {P : Program} {w : World} {t : Addr} {its : Array Value} : MeetsIn P w (Builtin.«enumerate.__new__» ⟨[.type "enumerate", .ref t], []⟩) (fun _ R s => s.heap.IsTuple t its ∧
    ∀ it en h2, h2.get? en = some { cls := .type "enumerate", data := .fields #[.none, .bool false, .ref it, rawInt 0, .none, .none] } → h2.IsTupleIter it t 0 → it = s.heap.objs.size → en = s.heap.objs.size + 1 →
      (∀ b o, s.heap.get? b = some o → h2.get? b = some o) → R (.ok (.ret (.ref en))) { s with heap := h2 }) := .of_wp fun A R s ⟨tp, go⟩ => by
  have sub := sub_enumerate
  obtain ⟨h0, gs, dr, tk, os⟩ := s
  wp_walk
  refine wpAny_stack_any fun frames => ?_
  have size2 : (h0.push { cls := .type "tuple_iterator", data := .fields #[.ref t, .int 0 0] }).objs.size = h0.objs.size + 1 := Heap.size_push ..
  have walk := fun {B : Around} {E : Value → Shared → Prop} {Q : Value → Shared → Prop} q => wpAny_pyIter_tuple (prog := P) (w := w) (A := B) (E := E) (Q := Q) (s := ⟨h0, gs, dr, tk, os⟩) tp q
  refine wpAny_pure ?_
  have both : ∀ {c : Prop} [Decidable c] {p q : Prop}, p → q → (if c then p else q) := fun hp hq => by split <;> assumption
  refine wpAny_ite (both ?_ ?_)
  all_goals wp_walk using walk
  all_goals
    refine ⟨_, rfl, go h0.objs.size _ _ ?_ ⟨_, Heap.get?_push_of_some _ (Heap.get?_push_size _ rfl), rfl, rfl⟩ rfl size2 fun b o e => Heap.get?_push_of_some _ (Heap.get?_push_of_some _ e)⟩
    exact Heap.get?_push_size (Heap.push _ _) rfl
theorem enum_tuple {P : Program} {w : World} {A : Around} {E : Value → Shared → Prop} {s : Shared} {t : Addr} {its : Array Value} {Q : Value → Shared → Prop} (tp : s.heap.IsTuple t its)
    (go : ∀ h2, IsEnum h2 (s.heap.objs.size + 1) s.heap.objs.size 0 .none → h2.IsTupleIter s.heap.objs.size t 0 → (∀ b o, s.heap.get? b = some o → h2.get? b = some o) → Q (.ref (s.heap.objs.size + 1)) { s with heap := h2 }) :
    wpAny (model P w) A (call (.type "enumerate") [.ref t]) Q E s := by
  refine callType_newIn PySem.F.called_enumerate (by decide) (PySem.F.typeCall_enumerate_1 _) (PySem.F.newCall_enumerate_1 _) (fun ob => PySem.F.args_object_init_2 ob _) PySem.F.entry_enumerate_new (new_enum (its := its)) ⟨tp, fun it en h2 he hi e1 e2 k => ?_⟩
  subst e1 e2
  exact ⟨⟨_, he, rfl⟩, go h2 he hi k⟩
end TF
/-! #### text TFf -/
set_option Elab.async false
set_option linter.all false
set_option maxRecDepth 100000
set_option maxHeartbeats 2000000
/-! TFf: what a for walks. -/
namespace TF
open PySem L2 PySem.Spec PyProof.Rows
/-! ### enumerate over a list, a tuple, a text, from any count -/
inductive SK where
  | lst (a : Addr) | tup (a : Addr) | txt (x : Str) (t : Tok)
def SK.at (it : Addr) : SK → Nat → Heap → Prop
  | .lst a, i, h => h.IsListIter it a i
  | .tup a, i, h => h.IsTupleIter it a i
  | .txt x t, i, h => h.IsStrIter it (strIterType x) x t i
def SK.vals (K : PySem.W.Frag) (H : Hp) : SK → List V → Prop
  | .lst a, vs => SqL K H a vs
  | .tup a, vs => SqT K H a vs
  | .txt x _, vs => vs = x.cps.toList.map fun c => V.str ⟨#[c]⟩
theorem SK.at_keep {it : Addr} {sk : SK} {i : Nat} {h h' : Heap} (st : sk.at it i h) (k : ∀ o, h.get? it = some o → h'.get? it = some o) : sk.at it i h' := by
  cases sk with
  | lst a => exact Heap.IsListIter.at st k
  | tup a => exact Heap.IsTupleIter.at st k
  | txt x t => exact let ⟨o, ho, r⟩ := st; ⟨o, k o ho, r⟩
theorem SK.at_obj {it : Addr} {sk : SK} {i : Nat} {h : Heap} (st : sk.at it i h) : ∃ o, h.get? it = some o ∧ ∀ v, o.data ≠ .cell v := by
  cases sk with
  | lst a => obtain ⟨o, e, c, d⟩ := st; exact ⟨o, e, fun v z => by rw [d] at z; cases z⟩
  | tup a => obtain ⟨o, e, c, d⟩ := st; exact ⟨o, e, fun v z => by rw [d] at z; cases z⟩
  | txt x t => obtain ⟨o, e, c, d⟩ := st; exact ⟨o, e, fun v z => by rw [d] at z; cases z⟩
theorem SK.inj {X : Cx} {pins : List (Addr × Obj)} {σ : L2.St} {H : Hp} {s : Shared} (I : Inv X pins σ H s) {sk : SK} {xs ys : List V} (h : sk.vals X.K H xs) (h' : sk.vals X.K H ys) : xs = ys := by
  cases sk with
  | lst a => exact I.list_inj h h'
  | tup a => exact I.tuple_inj h h'
  | txt x t => exact (show xs = _ from h).trans (show ys = _ from h').symm
theorem SK.draws {X : Cx} {pins : List (Addr × Obj)} {σ : L2.St} {H : Hp} {s : Shared} (I : Inv X pins σ H s) {sk : SK} {e it : Addr} {c : Int} {old : Value} {i : Nat} {xs : List V} (he : IsEnum s.heap e it c old) (hne : e ≠ it) (st : sk.at it i s.heap) (hv : sk.vals X.K H xs) :
    ∃ fp P St, (∀ A : Around, A.handled = none → Draws X.prog X.w A it fp xs.length P St) ∧ St i s.heap ∧ e ∉ fp ∧ (∀ x, P i x → ∃ v, xs[i]? = some v ∧ RelV v x) ∧ ∀ h, St (i + 1) h → sk.at it (i + 1) h := by
  cases sk with
  | lst a =>
    obtain ⟨its, rv, p, hz⟩ := I.list hv
    have hL : s.heap.IsList a its.toArray := p.isList
    have ea : e ≠ a := fun z => by
      obtain ⟨o, n, ho, hc, _⟩ := p
      rw [← z, he] at ho
      cases ho
      injection hc with hc
      exact absurd hc (by decide)
    have ia : a ≠ it := fun z => by
      obtain ⟨o, n, ho, hc, _⟩ := p
      obtain ⟨o', ho', hc', _⟩ := st
      rw [z, ho'] at ho
      cases ho
      rw [hc'] at hc
      injection hc with hc
      exact absurd hc (by decide)
    refine ⟨[it, a], fun i v => its.toArray[i]? = some v, fun i h => h.IsListIter it a i ∧ h.IsList a its.toArray, fun A hA => ?_, ⟨st, hL⟩, fun hm => ?_, fun x hx => ?_, fun h st' => st'.1⟩
    · have D := Draws.list (prog := X.prog) (w := X.w) hA it a ia its.toArray
      rw [List.size_toArray, ← rv.length] at D
      exact D
    · rcases List.mem_cons.mp hm with z | z
      · exact hne z
      · exact ea (List.mem_singleton.mp z)
    · have hx' : its[i]? = some x := by simpa using hx
      cases hxs : xs[i]? with
      | none => rw [rv.none_of hxs] at hx'; cases hx'
      | some v =>
        obtain ⟨u, hu, ru⟩ := rv.get hxs
        rw [hx'] at hu
        cases hu
        exact ⟨v, rfl, ru⟩
  | tup a =>
    obtain ⟨its, rv, p, hz⟩ := I.tuple hv
    have hT : s.heap.IsTuple a its.toArray := p
    have ea : e ≠ a := fun z => by
      obtain ⟨o, ho, hc, _⟩ := p
      rw [← z, he] at ho
      cases ho
      injection hc with hc
      exact absurd hc (by decide)
    have ia : a ≠ it := fun z => by
      obtain ⟨o, ho, hc, _⟩ := p
      obtain ⟨o', ho', hc', _⟩ := st
      rw [z, ho'] at ho
      cases ho
      rw [hc'] at hc
      injection hc with hc
      exact absurd hc (by decide)
    refine ⟨[it, a], fun i v => its.toArray[i]? = some v, fun i h => h.IsTupleIter it a i ∧ h.IsTuple a its.toArray, fun A hA => ?_, ⟨st, hT⟩, fun hm => ?_, fun x hx => ?_, fun h st' => st'.1⟩
    · have D := Draws.tuple (prog := X.prog) (w := X.w) hA it a ia its.toArray
      rw [List.size_toArray, ← rv.length] at D
      exact D
    · rcases List.mem_cons.mp hm with z | z
      · exact hne z
      · exact ea (List.mem_singleton.mp z)
    · have hx' : its[i]? = some x := by simpa using hx
      cases hxs : xs[i]? with
      | none => rw [rv.none_of hxs] at hx'; cases hx'
      | some v =>
        obtain ⟨u, hu, ru⟩ := rv.get hxs
        rw [hx'] at hu
        cases hu
        exact ⟨v, rfl, ru⟩
  | txt x t =>
    have hl : xs.length = x.cps.size := by rw [show xs = _ from hv, List.length_map, Array.length_toList]
    refine ⟨[it], fun i v => ∃ c u, x.cps[i]? = some c ∧ v = .str ⟨#[c]⟩ u, fun i h => h.IsStrIter it (strIterType x) x t i, fun A hA => ?_, st, fun hm => hne (List.mem_singleton.mp hm), fun v hx => ?_, fun h st' => st'⟩
    · rw [hl]
      exact Draws.text hA it x t
    · obtain ⟨c, u, hc, rfl⟩ := hx
      refine ⟨.str ⟨#[c]⟩, ?_, u, rfl⟩
      rw [show xs = _ from hv, List.getElem?_map, Array.getElem?_toList, hc]
      rfl
def IteD (K : PySem.W.Frag) (sk : SK) (k : Int) : It :=
  ⟨fun i H => ∃ (xs : List V) (x : V), sk.vals K H xs ∧ xs[i]? = some x, fun i H v H' => ∃ T x, v = .ref T ∧ H T = none ∧ H' = upd H T (.tup [.int (k + (i : Nat)), x]) ∧ ∀ xs, sk.vals K H xs → xs[i]? = some x, fun i H => ∃ xs : List V, sk.vals K H xs ∧ xs.length = i⟩
section
variable {X : Cx} {pins : List (Addr × Obj)} {σ : L2.St} {H : Hp} {S : Shared} {E : Value → Shared → Prop} {sk : SK} {k : Int} {en it : Addr} {i : Nat} {old : Value} {xs : List V} {x : V}
/-- the pair that an enumerate gives, tracked -/
theorem pair_laid {h2 : Heap} {tk : Nat} {u : Value} (J : Inv X pins σ H S) (free : ∀ b ∈ [en, it], FpOk X pins H b) (rel : RelV x u) (same : ∀ b o, b ≠ en → b ≠ it → S.heap.get? b = some o → h2.get? b = some o)
    (got : h2.get? S.heap.objs.size = some { cls := .type "tuple", data := .seq #[.int (k + (i : Nat)) tk, u] }) :
    Inv X pins σ (upd H S.heap.objs.size (.tup [.int (k + (i : Nat)), x])) { S with heap := h2, toks := tk + 1 } := by
  have two : Vals [V.int (k + (i : Nat)), x] [Value.int (k + (i : Nat)) tk, u] := .cons ⟨tk, rfl⟩ (.cons rel .nil)
  refine J.turnedNew (ch := [en, it]) (fun b o out was => same b o (fun z => out (z ▸ List.mem_cons_self)) (fun z => out (z ▸ List.mem_cons_of_mem _ List.mem_cons_self)) was) free (Nat.le_refl _) ?_
  exact ⟨(by decide : 2 ≤ sizeLine), _, two, _, got, rfl, 0, rfl⟩
/-- the next pair -/
theorem enum_gives {elts : List Expr} {kk : Nat} {tpos : Pos} (J : Inv X pins σ H S) (calm : X.calm = true) (free : ∀ b ∈ [en, it], FpOk X pins H b) (isE : IsEnum S.heap en it (k + (i : Nat)) old) (isI : sk.at it i S.heap) (ne : en ≠ it) (vals : sk.vals X.K H xs) (here : xs[i]? = some x) :
    wpAny (model X.prog X.w) X.A (pyNext (.ref en)) (fun r S1 => ∃ u, r = some u ∧ wpAny (model X.prog X.w) X.A (letOwnedTupleGo (.Tuple elts kk tpos) (.ref en) u) (fun _ S2 => ∃ y H', Inv X pins σ H' S2 ∧ RelV y u ∧ (IteD X.K sk k).yld i H y H' ∧
      ((∃ old2, IsEnum S2.heap en it (k + ((i + 1 : Nat) : Int)) old2) ∧ sk.at it (i + 1) S2.heap ∧ en ≠ it) ∧ ∀ b ∈ [en, it], H' b = none) E S1) E S := by
  obtain ⟨fp, Pd, St, draws, st, out, gives, on⟩ := SK.draws J isE ne isI vals
  have lowE : en < S.heap.objs.size := Heap.lt_size isE
  have lowI : it < S.heap.objs.size := (SK.at_obj isI).elim fun _ z => Heap.lt_size z.1
  have fresh : H S.heap.objs.size = none := J.hok.fresh (Nat.le_refl _)
  refine wpAny_pyNext_enum_itemC (draws _ (J.ok.hd calm)) isE st (List.getElem?_eq_some_iff.mp here).1 ne out fun u h1 tk pu own st2 pair _ kept => ?_
  obtain ⟨v, at1, rel⟩ := gives u pu
  obtain rfl : x = v := Option.some.inj (here.symm.trans at1)
  refine ⟨.ref S.heap.objs.size, rfl, wpAny_letOwnedTupleGo_enum (s := { S with heap := h1, toks := tk + 1 }) own fun h2 isE2 alike => ?_⟩
  have got := (alike.2 _ (Nat.ne_of_gt lowE)).trans pair
  have J2 := pair_laid (h2 := h2) (k := k) (i := i) J free rel (fun b o nE nI was => (alike.2 b nE).trans (kept b o nE nI was)) got
  refine ⟨.ref S.heap.objs.size, _, J2, rfl, ⟨_, x, rfl, fresh, rfl, fun ys more => (SK.inj J more vals) ▸ here⟩, ⟨⟨u, ?_⟩, SK.at_keep (on _ st2) fun o z => (alike.2 it (Ne.symm ne)).trans z, ne⟩, fun b hb => ?_⟩
  · rw [show k + ((i + 1 : Nat) : Int) = k + (i : Nat) + 1 by omega]
    exact isE2
  · have low : b < S.heap.objs.size := by
      simp only [List.mem_cons, List.not_mem_nil, or_false] at hb
      rcases hb with e | e <;> rw [e] <;> assumption
    rw [upd_ne (Nat.ne_of_lt low)]
    exact (free b hb).1
end
theorem turn_enumD {P : Program} {w : World} {K : PySem.W.Frag} {elts : List Expr} {kk : Nat} {tpos : Pos} (sk : SK) (k : Int) (en it : Addr) :
    Turn P w K (.Tuple elts kk tpos) (IteD K sk k) [en, it] en (fun i h => (∃ old, IsEnum h en it (k + (i : Nat)) old) ∧ sk.at it i h ∧ en ≠ it) where
  mem := by simp
  obj := fun i h ⟨⟨_, isE⟩, isI, _⟩ b hb => by
    simp only [List.mem_cons, List.not_mem_nil, or_false] at hb
    rcases hb with e | e
    · subst e; exact ⟨_, isE, fun _ z => nomatch z⟩
    · subst e; exact SK.at_obj isI
  keep := fun i h h2 ⟨⟨old, isE⟩, isI, ne⟩ all => ⟨⟨old, all en (by simp) _ isE⟩, SK.at_keep isI fun o z => all it (by simp) o z, ne⟩
  item := fun X eP ew eK calm i pins S σ H E J free ⟨⟨old, isE⟩, isI, ne⟩ ⟨xs, x, vals, here⟩ => by
    subst eP ew eK
    exact enum_gives J calm free isE isI ne vals here
  done := fun X eP ew eK calm i pins S σ H E J free ⟨⟨old, isE⟩, isI, ne⟩ ⟨xs, vals, last⟩ => by
    subst eP ew eK
    obtain ⟨fp, Pd, St, draws, st, _⟩ := SK.draws J isE ne isI vals
    obtain ⟨a0, a1, a2, a3, a4, a5⟩ := free it (by simp)
    exact wpAny_pyNext_enum_endD (draws _ (J.ok.hd calm)) isE (last ▸ st) fun h2 but => ⟨rfl, J.turned (t' := S.toks) (fun b o nb was => but b o nb was) a0 a1 a3 a4 a5⟩
  self := fun A i S Q E ⟨⟨_, isE⟩, _⟩ go => wpAny_pyIter_enum isE go

/-! ### a walk by its items -/
structure ItD (M : Mx) (G : Hp) (ds : List D) (J : It) : Prop where
  go : ∀ i d H, ds[i]? = some d → Ex G H → J.go i H
  yl : ∀ i d H x H', ds[i]? = some d → Ex G H → J.yld i H x H' → ∀ G1, Ex G G1 → Ex G1 H → ∃ G2, Nw G1 H G2 H' ∧ Rp M G2 d x
  st : ∀ H, Ex G H → J.stop ds.length H
abbrev IX := Ev → Rl
def iD (M : Mx) (W : WX) (f : IX) : TI := fun σ H R => ∃ F Y G e, Env M F Y G H σ e ∧ match f e with
  | .stuck => False
  | .val ds e1 => ∀ J G1 H1, Stp M F Y G H σ e G1 H1 e1 → ItD M G1 ds J → R J H1
  | .exc x e1 => ∀ cls a G' H', Stp M F Y G H σ e G' H' e1 → XcOk M F G' H' x cls a → W cls a σ H'
theorem PI.of {X : Cx} {tg x : Expr} {t t' : TI} (h : PI X tg x t) (w : ∀ σ H R, t' σ H R → t σ H R) : PI X tg x t' := ⟨fun pins s σ H R I q => h.run pins s σ H R I (w σ H R q)⟩
/-- the items of a list, a tuple, a text -/
def itemsD : D → Option (List D)
  | .lst ds => some ds
  | .tup ds => some ds
  | .str x => some (x.cps.toList.map fun c => .str ⟨#[c]⟩)
  | _ => none
def iOf (f : EX) : IX := fun e => match f e with
  | .stuck => .stuck
  | .exc x e1 => .exc x e1
  | .val d e1 => match itemsD d with
    | some ds => .val ds e1
    | none => .stuck
theorem itl_D {M : Mx} {G : Hp} {a : Addr} {vs : List V} {ds : List D} (h : G a = some (.lst vs)) (r : Rps M G ds vs) : ItD M G ds (Itl M.K a) where
  go := fun i d H hd g => by
    obtain ⟨v, hv, _⟩ := r.get hd
    exact ⟨vs, v, .inl (.inl (g _ _ h)), hv⟩
  yl := fun i d H x H' hd g ⟨e, hx⟩ G1 g1 g2 => by
    subst e
    obtain ⟨v, hv, rv⟩ := r.get hd
    have := hx vs (.inl (.inl (g _ _ h)))
    rw [hv] at this
    cases this
    exact ⟨G1, Nw.refl g2, Rp.mono g1 _ _ rv⟩
  st := fun H g => ⟨vs, .inl (.inl (g _ _ h)), Nat.le_of_eq r.length⟩
theorem itt_D {M : Mx} {G : Hp} {a : Addr} {vs : List V} {ds : List D} (h : SqT M.K G a vs) (r : Rps M G ds vs) : ItD M G ds (Itt M.K a) where
  go := fun i d H hd g => by
    obtain ⟨v, hv, _⟩ := r.get hd
    exact ⟨vs, v, g.st h, hv⟩
  yl := fun i d H x H' hd g ⟨e, hx⟩ G1 g1 g2 => by
    subst e
    obtain ⟨v, hv, rv⟩ := r.get hd
    have := hx vs (g.st h)
    rw [hv] at this
    cases this
    exact ⟨G1, Nw.refl g2, Rp.mono g1 _ _ rv⟩
  st := fun H g => ⟨vs, g.st h, Nat.le_of_eq r.length⟩
theorem its_D {M : Mx} {G : Hp} {x : Str} : ItD M G (x.cps.toList.map fun c => D.str ⟨#[c]⟩) (Its x) where
  go := fun i d H hd g => by
    obtain ⟨hi, _⟩ := List.getElem?_eq_some_iff.mp hd
    rw [List.length_map, Array.length_toList] at hi
    exact hi
  yl := fun i d H v H' hd g ⟨e, c, hc, ev⟩ G1 g1 g2 => by
    subst e ev
    rw [List.getElem?_map, Array.getElem?_toList, hc] at hd
    cases hd
    exact ⟨G1, Nw.refl g2, rfl⟩
  st := fun H g => by
    show x.cps.size ≤ _
    rw [List.length_map, Array.length_toList]
    exact Nat.le_refl _
section
variable {X : Cx} {xo : Xo} {W : WX} {a b c tg : Expr} {f g h : EX} {fs : List EX} {pos : Pos}
theorem iOf_cases {M : Mx} {F G H : Hp} {σ : L2.St} {e : Ev} {R : It → Hp → Prop} (q : match iOf f e with
    | .stuck => False
    | .val ds e1 => ∀ J G1 H1, Stp M F Y G H σ e G1 H1 e1 → ItD M G1 ds J → R J H1
    | .exc x e1 => ∀ cls a G' H', Stp M F Y G H σ e G' H' e1 → XcOk M F G' H' x cls a → W cls a σ H') :
    (∃ ds e1, f e = .val (.lst ds) e1 ∧ ∀ J G1 H1, Stp M F Y G H σ e G1 H1 e1 → ItD M G1 ds J → R J H1) ∨ (∃ ds e1, f e = .val (.tup ds) e1 ∧ ∀ J G1 H1, Stp M F Y G H σ e G1 H1 e1 → ItD M G1 ds J → R J H1) ∨
      (∃ x e1, f e = .val (.str x) e1 ∧ ∀ J G1 H1, Stp M F Y G H σ e G1 H1 e1 → ItD M G1 (x.cps.toList.map fun c => D.str ⟨#[c]⟩) J → R J H1) ∨ ∃ x e1, f e = .exc x e1 ∧ ∀ cls a G' H', Stp M F Y G H σ e G' H' e1 → XcOk M F G' H' x cls a → W cls a σ H' := by
  unfold iOf at q
  cases hf : f e with
  | stuck => rw [hf] at q; exact q.elim
  | exc x e1 => rw [hf] at q; exact .inr (.inr (.inr ⟨x, e1, rfl, q⟩))
  | val d e1 =>
    rw [hf] at q
    cases d with
    | lst ds => exact .inl ⟨ds, e1, rfl, q⟩
    | tup ds => exact .inr (.inl ⟨ds, e1, rfl, q⟩)
    | str x => exact .inr (.inr (.inl ⟨x, e1, rfl, q⟩))
    | _ => exact q.elim
theorem pi_anyD (hl : PE X a (tD (mx X xo) W f)) : PI X tg a (iD (mx X xo) W (iOf f)) := ⟨fun pins s σ H R I ⟨F, Y, G, e, hE, q⟩ => by
  rcases iOf_cases q with ⟨ds, e1, hf, q⟩ | ⟨ds, e1, hf, q⟩ | ⟨x, e1, hf, q⟩ | ⟨x, e1, hf, q⟩
  · refine (pi_list hl).run pins s σ H R I ⟨F, Y, G, e, hE, ?_⟩
    rw [hf]
    intro v G1 H1 s1 ⟨p, vs, e2, h1, h2⟩
    exact ⟨p, e2, ⟨vs, .inl (.inl (s1.env.gh _ _ h1))⟩, q _ G1 H1 s1 (itl_D h1 h2)⟩
  · refine (pi_tup hl).run pins s σ H R I ⟨F, Y, G, e, hE, ?_⟩
    rw [hf]
    intro v G1 H1 s1 ⟨p, vs, e2, h1, h2⟩
    exact ⟨p, e2, ⟨vs, s1.env.gh.st h1⟩, q _ G1 H1 s1 (itt_D h1 h2)⟩
  · refine (pi_str hl).run pins s σ H R I ⟨F, Y, G, e, hE, ?_⟩
    rw [hf]
    exact fun v G1 H1 s1 h1 => ⟨x, h1, q _ G1 H1 s1 its_D⟩
  · refine (pi_list hl).run pins s σ H R I ⟨F, Y, G, e, hE, ?_⟩
    rw [hf]
    exact q⟩
/-! ### range -/
def rangeD (lo hi : Int) : List D := (List.range (hi - lo).toNat).map fun (i : Nat) => D.int (lo + (i : Int))
def bigI (i : Int) : Bool := decide (-(2 ^ 62) ≤ i) && decide (i < 2 ^ 62)
def iR1 (f : EX) : IX := fun e => match f e with
  | .val (.int n) e1 => if bigI n then .val (rangeD 0 n) e1 else .stuck
  | .exc x e1 => .exc x e1
  | _ => .stuck
def iR2 (f g : EX) : IX := fun e => match f e with
  | .val (.int m) e1 => (match g e1 with
    | .val (.int n) e2 => if bigI m && bigI n then .val (rangeD m n) e2 else .stuck
    | .exc x e2 => .exc x e2
    | _ => .stuck)
  | .exc x e1 => .exc x e1
  | _ => .stuck
theorem itr_D {M : Mx} {G : Hp} {lo hi : Int} : ItD M G (rangeD lo hi) (Itr lo (hi - lo).toNat) where
  go := fun i d H hd g => by
    obtain ⟨h, _⟩ := List.getElem?_eq_some_iff.mp hd
    unfold rangeD at h
    rw [List.length_map, List.length_range] at h
    exact h
  yl := fun i d H v H' hd g ⟨e, ev⟩ G1 g1 g2 => by
    subst e ev
    unfold rangeD at hd
    rw [List.getElem?_map] at hd
    obtain ⟨j, hj, rfl⟩ := Option.map_eq_some_iff.mp hd
    obtain ⟨h1, h2⟩ := List.getElem?_eq_some_iff.mp hj
    rw [List.getElem_range] at h2
    subst h2
    exact ⟨G1, Nw.refl g2, rfl⟩
  st := fun H g => by
    show _ ≤ _
    unfold rangeD
    rw [List.length_map, List.length_range]
    exact Nat.le_refl _
theorem pi_range1D {p : Pos} (hm : X.mg "range" = none) (hg : Gl X "range") (ha : PE X a (tD (mx X xo) W f)) (hs : starEach [a] X.env = [(false, eval a X.env)] := by rfl) : PI X tg (.Call (.Name "range" p) [a] [] pos) (iD (mx X xo) W (iR1 f)) :=
  PI.of (pi_range1 hg hm (pa_cons ha pa_nil hs) hs) fun σ H R ⟨F, Y, G, e, hE, q⟩ => ⟨F, Y, G, e, hE, by
    unfold iR1 at q
    cases hf : f e with
    | stuck => rw [hf] at q; exact q
    | exc x e1 => rw [hf] at q; exact q
    | val d e1 =>
      rw [hf] at q
      cases d with
      | int n =>
        cases hb : bigI n with
        | false => simp only [hb] at q; exact q.elim
        | true =>
          simp only [hb, if_true] at q
          intro v G1 H1 s r
          simp only [bigI, Bool.and_eq_true, decide_eq_true_eq] at hb
          refine ⟨n, by rw [show v = .int n from r], hb.1, hb.2, ?_⟩
          have := q (Itr 0 (n - 0).toNat) G1 H1 s itr_D
          rw [Int.sub_zero] at this
          exact this
      | _ => exact q.elim⟩
theorem pi_range2D {p : Pos} (hm : X.mg "range" = none) (hg : Gl X "range") (ha : PE X a (tD (mx X xo) W f)) (hb : PE X b (tD (mx X xo) W g)) (hs : starEach [a, b] X.env = [(false, eval a X.env), (false, eval b X.env)] := by rfl)
    (hs2 : starEach [b] X.env = [(false, eval b X.env)] := by rfl) : PI X tg (.Call (.Name "range" p) [a, b] [] pos) (iD (mx X xo) W (iR2 f g)) :=
  PI.of (pi_range2 hg hm (pa_cons ha (pa_cons hb pa_nil hs2) (hs.trans (by rw [hs2]))) hs hs2) fun σ H R ⟨F, Y, G, e, hE, q⟩ => ⟨F, Y, G, e, hE, by
    unfold iR2 at q
    cases hf : f e with
    | stuck => rw [hf] at q; exact q
    | exc x e1 => rw [hf] at q; exact q
    | val d e1 =>
      rw [hf] at q
      cases d with
      | int m =>
        intro v G1 H1 s r
        refine ⟨F, Y, G1, e1, s.env, ?_⟩
        simp only at q
        cases hg2 : g e1 with
        | stuck => simp only [hg2] at q
        | exc x e2 => simp only [hg2] at q; exact fun cls a G' H' s2 => q cls a G' H' (s.trans s2)
        | val d2 e2 =>
          simp only [hg2] at q
          cases d2 with
          | int n =>
            cases hb : (bigI m && bigI n) with
            | false => simp only [hb] at q; exact q.elim
            | true =>
              simp only [hb, if_true] at q
              intro v2 G2 H2 s2 r2
              simp only [bigI, Bool.and_eq_true, decide_eq_true_eq] at hb
              exact ⟨m, n, by rw [show v = .int m from r, show v2 = .int n from r2], ⟨hb.1.1, hb.1.2, hb.2.1, hb.2.2⟩, q (Itr m (n - m).toNat) G2 H2 (s.trans s2) itr_D⟩
          | _ => exact q.elim
      | _ => exact q.elim⟩
/-! ### enumerate -/
def enumD (k : Int) : List D → List D
  | [] => []
  | d :: ds => .tup [.int k, d] :: enumD (k + 1) ds
theorem enumD_len : ∀ (ds : List D) (k : Int), (enumD k ds).length = ds.length
  | [], _ => rfl
  | d :: ds, k => by rw [enumD, List.length_cons, List.length_cons, enumD_len ds]
theorem enumD_get : ∀ (ds : List D) (k : Int) (i : Nat), (enumD k ds)[i]? = (ds[i]?).map fun d => .tup [.int (k + (i : Int)), d]
  | [], _, _ => by simp [enumD]
  | d :: ds, k, 0 => by simp [enumD]
  | d :: ds, k, i + 1 => by
    rw [enumD, List.getElem?_cons_succ, List.getElem?_cons_succ, enumD_get ds (k + 1) i]
    have e : k + 1 + (i : Int) = k + ((i + 1 : Nat) : Int) := by omega
    rw [e]
theorem ite_D {M : Mx} {G : Hp} {sk : SK} {k : Int} {vs : List V} {ds : List D} (h : ∀ H, Ex G H → sk.vals M.K H vs) (r : Rps M G ds vs) : ItD M G (enumD k ds) (IteD M.K sk k) where
  go := fun i d H hd g => by
    rw [enumD_get] at hd
    obtain ⟨d', h1, rfl⟩ := Option.map_eq_some_iff.mp hd
    obtain ⟨v, hv, _⟩ := r.get h1
    exact ⟨vs, v, h H g, hv⟩
  yl := fun i d H x H' hd g ⟨T, y, e1, hT, e2, hx⟩ G1 g1 g2 => by
    subst e1 e2
    rw [enumD_get] at hd
    obtain ⟨d', h1, rfl⟩ := Option.map_eq_some_iff.mp hd
    obtain ⟨v, hv, rv⟩ := r.get h1
    have := hx vs (h H g)
    rw [hv] at this
    cases this
    exact ⟨_, Nw.new g2 hT, Rp.of_tup ⟨_, _, rfl, rfl, _, _, rfl, Rp.mono g1 _ _ rv, rfl⟩ (g2.back hT)⟩
  st := fun H g => ⟨vs, h H g, by rw [enumD_len, r.length]⟩
def iEnum (k : Int) (f : EX) : IX := fun e => match f e with
  | .stuck => .stuck
  | .exc x e1 => .exc x e1
  | .val d e1 => match itemsD d with
    | some ds => .val (enumD k ds) e1
    | none => .stuck
/-- an enumerate has begun -/
theorem enum_it {elts : List Expr} {kk : Nat} {tpos : Pos} {pins : List (Addr × Obj)} {s1 : Shared} {σ : L2.St} {H1 : Hp} {R : It → Hp → Prop} {sk : SK} {k : Int} {h' : Heap} (I1 : L2.Inv X pins σ H1 s1)
    (he : IsEnum h' (s1.heap.objs.size + 1) s1.heap.objs.size k .none) (hit : sk.at s1.heap.objs.size 0 h') (hk : ∀ b o, s1.heap.get? b = some o → h'.get? b = some o) (q : R (IteD X.K sk k) H1) :
    PIE X pins σ (.Tuple elts kk tpos) R (.ref (s1.heap.objs.size + 1)) { s1 with heap := h' } := by
  have I2 : L2.Inv X pins σ H1 { s1 with heap := h' } := I1.kept (t' := s1.toks) hk
  refine ⟨s1.heap.objs.size + 1, [s1.heap.objs.size + 1, s1.heap.objs.size], _, _, H1, rfl, I2, turn_enumD sk k (s1.heap.objs.size + 1) s1.heap.objs.size, ⟨⟨.none, ?_⟩, hit, Nat.succ_ne_self _⟩, fun b hb => ?_, q⟩
  · have e : k + ((0 : Nat) : Int) = k := by omega
    rw [e]
    exact he
  · have hle : s1.heap.objs.size ≤ b := by
      rcases List.mem_cons.mp hb with z | z
      · rw [z]; exact Nat.le_add_right _ _
      · rw [List.mem_singleton.mp z]; exact Nat.le_refl _
    exact I1.fpOk hle (I1.hok.fresh hle)
end
theorem Rps.chars {M : Mt} {G : Hp} : ∀ l : List Nat, Rps M G (l.map fun c => D.str ⟨#[c]⟩) (l.map fun c => V.str ⟨#[c]⟩)
  | [] => rfl
  | _ :: l => ⟨_, _, rfl, rfl, Rps.chars l⟩
/-- how the walk of a thing begins -/
theorem begins_sk {X : Cx} {pins : List (Addr × Obj)} {σ : L2.St} {H1 : Hp} {s1 : Shared} (I : L2.Inv X pins σ H1 s1) {ds : List D} {d : D} {v : V} {u : Value} {G : Hp} (g : Ex G H1) (hd : itemsD d = some ds) (r : Rp (mx X xo) G d v) (ru : RelV v u) :
    ∃ sk o Hh vs, Begins u o Hh ∧ Hh s1.heap ∧ (∀ h a, h.get? a = some o → SK.at a sk 0 h) ∧ (∀ H, Ex G H → sk.vals X.K H vs) ∧ Rps (mx X xo) G ds vs := by
  cases d with
  | lst es =>
    cases hd
    obtain ⟨p, vs, rfl, h1, h2⟩ := r
    cases (show u = Value.ref p from ru)
    obtain ⟨its, rv, pl, hz⟩ := I.list (xs := vs) (.inl (.inl (g _ _ h1)))
    exact ⟨.lst p, _, _, vs, begins_list p its.toArray, pl.isList, fun h a e => ⟨_, e, rfl, rfl⟩, fun H g' => .inl (.inl (g' _ _ h1)), h2⟩
  | tup es =>
    cases hd
    obtain ⟨p, vs, rfl, h1, h2⟩ := r
    cases (show u = Value.ref p from ru)
    obtain ⟨its, rv, pl, hz⟩ := I.tuple (xs := vs) (g.st h1)
    exact ⟨.tup p, _, _, vs, begins_tuple p its.toArray, pl, fun h a e => ⟨_, e, rfl, rfl⟩, fun H g' => g'.st h1, h2⟩
  | str x =>
    cases hd
    obtain rfl : v = .str x := r
    obtain ⟨t, rfl⟩ := ru
    refine ⟨.txt x t, _, _, _, begins_text x t, trivial, fun h a e => ⟨_, e, rfl, rfl⟩, fun H g' => rfl, ?_⟩
    have : ∀ l : List Nat, Rps (mx X xo) G (l.map fun c => D.str ⟨#[c]⟩) (l.map fun c => V.str ⟨#[c]⟩) := by
      intro l
      induction l with
      | nil => exact rfl
      | cons c l ih => exact ⟨_, _, rfl, rfl, ih⟩
    exact this _
  | _ => cases hd
/-- enumerate(v), v a list, a tuple or a text -/
theorem enum_any {X : Cx} {pins : List (Addr × Obj)} {σ : L2.St} {H1 : Hp} {s1 : Shared} (I : L2.Inv X pins σ H1 s1) {ds : List D} {d : D} {v : V} {u : Value} {G : Hp} {E : Value → Shared → Prop} {Q : Value → Shared → Prop} (g : Ex G H1) (hd : itemsD d = some ds) (r : Rp (mx X xo) G d v) (ru : RelV v u)
    (go : ∀ sk vs h2, IsEnum h2 (s1.heap.objs.size + 1) s1.heap.objs.size 0 .none → SK.at s1.heap.objs.size sk 0 h2 → (∀ b o, s1.heap.get? b = some o → h2.get? b = some o) → (∀ H, Ex G H → sk.vals X.K H vs) → Rps (mx X xo) G ds vs → Q (.ref (s1.heap.objs.size + 1)) { s1 with heap := h2 }) :
    wpAny (model X.prog X.w) X.A (call (.type "enumerate") [u]) Q E s1 := by
  cases d with
  | lst es =>
    cases hd
    obtain ⟨p, vs, rfl, h1, h2⟩ := r
    cases (show u = Value.ref p from ru)
    obtain ⟨its, _, at1, _⟩ := I.list (xs := vs) (.inl (.inl (g _ _ h1)))
    exact call_enumerate_list at1.isList fun h2' en it _ k => go (.lst p) vs h2' en it k (fun H g2 => .inl (.inl (g2 _ _ h1))) h2
  | tup es =>
    cases hd
    obtain ⟨p, vs, rfl, h1, h2⟩ := r
    cases (show u = Value.ref p from ru)
    obtain ⟨its, _, at1, _⟩ := I.tuple (xs := vs) (g.st h1)
    exact enum_tuple (its := its.toArray) at1 fun h2' en it k => go (.tup p) vs h2' en it k (fun H g2 => g2.st h1) h2
  | str x =>
    cases hd
    obtain rfl : v = .str x := r
    obtain ⟨t, rfl⟩ := ru
    exact call_enumerate_str fun h2' en it _ k => go (.txt x t) (x.cps.toList.map fun c => V.str ⟨#[c]⟩) h2' en it k (fun _ _ => rfl) (Rps.chars x.cps.toList)
  | _ => cases hd
section
variable {X : Cx} {xo : Xo} {W : WX} {a b c tg : Expr} {f g h : EX} {fs : List EX} {pos : Pos}
theorem iEnum_ok {M : Mx} {k : Int} {F G H : Hp} {σ : L2.St} {e : Ev} {R : It → Hp → Prop} (hE : Env M F Y G H σ e) (q : match iEnum k f e with
    | .stuck => False
    | .val ds e1 => ∀ J G1 H1, Stp M F Y G H σ e G1 H1 e1 → ItD M G1 ds J → R J H1
    | .exc x e1 => ∀ cls a G' H', Stp M F Y G H σ e G' H' e1 → XcOk M F G' H' x cls a → W cls a σ H') :
    tD M W f σ H fun v H1 => ∃ G1 d ds, Ex G1 H1 ∧ itemsD d = some ds ∧ Rp M G1 d v ∧ ∀ J, ItD M G1 (enumD k ds) J → R J H1 := ⟨F, Y, G, e, hE, by
  unfold iEnum at q
  cases hf : f e with
  | stuck => rw [hf] at q; exact q
  | exc x e1 => rw [hf] at q; exact q
  | val d e1 =>
    rw [hf] at q
    intro v G1 H1 s r
    cases hi : itemsD d with
    | none => simp only [hi] at q
    | some ds =>
      simp only [hi] at q
      exact ⟨G1, d, ds, s.env.gh, hi, r, fun J hJ => q J G1 H1 s hJ⟩⟩
theorem pi_enumD {p tpos : Pos} {elts : List Expr} {kk : Nat} (hm : X.mg "enumerate" = none) (hg : Gl X "enumerate") (ha : PE X a (tD (mx X xo) W f)) (hs : starEach [a] X.env = [(false, eval a X.env)] := by rfl) :
    PI X (.Tuple elts kk tpos) (.Call (.Name "enumerate" p) [a] [] pos) (iD (mx X xo) W (iEnum 0 f)) := ⟨fun pins s σ H R I ⟨F, Y, G, e, hE, q⟩ => by
  have hA : tCons (tD (mx X xo) W f) tNil σ H fun vs H1 => ∃ v, vs = [v] ∧ ∃ G1 d ds, Ex G1 H1 ∧ itemsD d = some ds ∧ Rp (mx X xo) G1 d v ∧ ∀ J, ItD (mx X xo) G1 (enumD 0 ds) J → R J H1 := by
    obtain ⟨F', Y', G', e', hE', h⟩ := iEnum_ok hE q
    refine ⟨F', Y', G', e', hE', ?_⟩
    cases hf : f e' with
    | stuck => rw [hf] at h; exact h
    | exc x e1 => rw [hf] at h; exact h
    | val d e1 => rw [hf] at h; exact fun v G1 H1 s r => ⟨v, rfl, h v G1 H1 s r⟩
  refine Call_ (ld_blt I hg hm boot_enumerate (PyProof.Rows.callWith_type1 (thn ((pa_cons ha pa_nil hs).run pos pins s σ H _ I hA) fun us s1 ⟨vs, H1, I1, r1, v, ev, G1, d, ds, g1, hd, r, q1⟩ => ?_) hs rfl))
  subst ev
  obtain ⟨u, rfl, ru⟩ := vals1 r1
  exact enum_any I1 g1 hd r ru fun sk vs h2 he hit hk hv hr => wpAny_pyIter_enum he (enum_it I1 he hit hk (q1 _ (ite_D hv hr)))⟩
theorem pi_enumK {n : Int} {j : Nat} {p pos2 tpos : Pos} {elts : List Expr} {kk : Nat} (hm : X.mg "enumerate" = none) (hg : Gl X "enumerate") (hn : -(2 ^ 63) ≤ n ∧ n < 2 ^ 63) (ha : PE X a (tD (mx X xo) W f))
    (hs : starEach [a, .Constant (.int n) j pos2] X.env = (false, eval a X.env) :: starEach [.Constant (.int n) j pos2] X.env := by rfl) (hs2 : starEach [.Constant (.int n) j pos2] X.env = [(false, eval (.Constant (.int n) j pos2) X.env)] := by rfl) (hpl : (backTo pos (starEach [.Constant (.int n) j pos2] X.env)).any (·.1) = false := by rfl) :
    PI X (.Tuple elts kk tpos) (.Call (.Name "enumerate" p) [a, .Constant (.int n) j pos2] [] pos) (iD (mx X xo) W (iEnum n f)) := ⟨fun pins s σ H R I ⟨F, Y, G, e, hE, q⟩ => by
  have hA : tCons (tD (mx X xo) W f) (tCons (tC (.int n)) tNil) σ H fun vs H1 => ∃ v, vs = [v, .int n] ∧ ∃ G1 d ds, Ex G1 H1 ∧ itemsD d = some ds ∧ Rp (mx X xo) G1 d v ∧ ∀ J, ItD (mx X xo) G1 (enumD n ds) J → R J H1 := by
    obtain ⟨F', Y', G', e', hE', h⟩ := iEnum_ok hE q
    refine ⟨F', Y', G', e', hE', ?_⟩
    cases hf : f e' with
    | stuck => rw [hf] at h; exact h
    | exc x e1 => rw [hf] at h; exact h
    | val d e1 => rw [hf] at h; exact fun v G1 H1 s r => ⟨v, rfl, h v G1 H1 s r⟩
  refine Call_ (ld_blt I hg hm boot_enumerate (PyProof.Rows.callWith_type1 (thn ((pa_cons ha (pa_cons pe_int pa_nil hs2) hs).run pos pins s σ H _ I hA) fun us s1 ⟨vs, H1, I1, r1, v, ev, G1, d, ds, g1, hd, r, q1⟩ => ?_) hs hpl))
  subst ev
  obtain ⟨u, w', rfl, ru, ⟨t, rfl⟩⟩ := vals2 r1
  obtain ⟨sk, o, Hh, vs, B, hb, hit, hv, hr⟩ := begins_sk I1 g1 hd r ru
  exact enum_begins B hb hn.1 hn.2 fun h' he ho _ hk => wpAny_pyIter_enum he (enum_it I1 he (hit _ _ ho) hk (q1 _ (ite_D hv hr)))⟩
end
end TF
/-! #### text TFg -/
set_option Elab.async false
set_option linter.all false
set_option maxRecDepth 100000
set_option maxHeartbeats 2000000
/-! TFg: loops, comprehensions. -/
namespace TF
open PySem L2 PySem.Spec PyProof.Rows
/-! ### for -/
def forL (t : Tg) (body : SX) : List D → SX
  | [], e => .nx e
  | d :: ds, e => match asg t d e with
    | none => .stuck
    | some e1 => match body e1 with
      | .nx e2 => forL t body ds e2
      | .ct e2 => forL t body ds e2
      | .bk e2 => .nx e2
      | r => r
def sFor (i : IX) (t : Tg) (body : SX) : SX := fun e => match i e with
  | .stuck => .stuck
  | .exc x e1 => .exc x e1
  | .val ds e1 => forL t body ds e1
theorem Nw.gro {F G H G' H' : Hp} (n : Nw G H G' H') (f : Ex F H) : Gro F G G' := ⟨n.gg, fun a q => (n.nw a q).elim .inl fun z => .inr (f.back z)⟩
section
variable {X : Cx} {xo : Xo} {W : WX} {a b c tg : Expr} {f g h : EX} {m n : SX} {pos : Pos}
theorem ps_forD {it : Expr} {xs : List Stmt} {i : IX} {t : Tg} (hp : PassesOwn (model X.prog X.w) X.A X.env X.xe) (hc : X.calm = true) (hi : PI X tg it (iD (mx X xo) W i)) (hg : PG X tg (gT (mx X xo) t)) (hb : PSs X xs (tS (mx X xo) W m))
    (hs : ∀ x, foldedSetIterable it X.env x = pure x := by intro _; rfl) : PS X (.For tg it xs [] pos) (tS (mx X xo) W (sFor i t m)) :=
  PS.of (ps_for hp hc hi hg hb hs) fun D σ H ⟨F, Y, G, e, hE, q⟩ => by
    refine ⟨F, Y, G, e, hE, ?_⟩
    unfold sFor at q
    cases hf : i e with
    | stuck => rw [hf] at q; exact q
    | exc x e1 => rw [hf] at q; exact fun cls a G' H' s hx => q cls a _ σ G' H' s.env s.gro hx
    | val ds e1 =>
      rw [hf] at q
      intro J G1 H1 s hJ
      have q1 := OkS.gro q s.gro
      refine ⟨fun i k σ H => k + i = ds.length ∧ ∃ Y G2 e2, Env (mx X xo) F Y G2 H σ e2 ∧ Gro F G1 G2 ∧ OkS (mx X xo) W F G2 D (forL t m (ds.drop i) e2), ⟨ds.length, rfl, _, G1, e1, s.env, Gro.refl F G1, q1⟩, ?_⟩
      rintro i k σ2 H2 ⟨hk, Y2, G2, e2, E2, g2, q2⟩
      by_cases hi : i < ds.length
      · refine .inr ⟨hJ.go i ds[i] H2 (List.getElem?_eq_getElem hi) (g2.gg.trans E2.gh), fun σ3 H3 => ∃ Y G3 e3, Env (mx X xo) F Y G3 H3 σ3 e3 ∧ Gro F G1 G3 ∧ OkS (mx X xo) W F G3 D (forL t m (ds.drop (i + 1)) e3), ?_, ?_⟩
        · rintro σ3 H3 ⟨Y3, G3, e3, E3, g3, q3⟩
          exact ⟨k - 1, by omega, by omega, Y3, G3, e3, E3, g3, q3⟩
        · intro x H3 hy
          obtain ⟨G3, n3, r3⟩ := hJ.yl i ds[i] H2 x H3 (List.getElem?_eq_getElem hi) (g2.gg.trans E2.gh) hy G2 g2.gg E2.gh
          rw [List.drop_eq_getElem_cons hi] at q2
          unfold forL at q2
          cases ha : asg t ds[i] e2 with
          | none => simp only [ha] at q2; exact q2.elim
          | some e3 =>
            simp only [ha] at q2
            refine ⟨F, _, G3, e2, ds[i], e3, E2.nw n3, r3, ha, fun σ4 E4 _ => ⟨F, _, G3, e3, E4, ?_⟩⟩
            have g3 := g2.trans (n3.gro E2.fh)
            have q3 := OkS.gro q2 (n3.gro E2.fh)
            cases hm : m e3 with
            | stuck => simp only [hm] at q3; exact q3
            | nx e4 => simp only [hm] at q3; exact fun Y5 σ5 G5 H5 E5 g5 => ⟨_, G5, e4, E5, g3.trans g5, OkS.gro q3 g5⟩
            | ct e4 => simp only [hm] at q3; exact fun Y5 σ5 G5 H5 E5 g5 => ⟨_, G5, e4, E5, g3.trans g5, OkS.gro q3 g5⟩
            | bk e4 => simp only [hm] at q3; exact q3
            | ret d e4 => simp only [hm] at q3; exact q3
            | exc x e4 => simp only [hm] at q3; exact q3
      · have hi2 : i = ds.length := by omega
        subst hi2
        refine .inl ⟨hJ.st H2 (g2.gg.trans E2.gh), ?_⟩
        rw [List.drop_length] at q2
        exact q2 _ σ2 G2 H2 E2 (Gro.refl F G2)
/-! ### while -/
def sWhile (c : EX) (body : SX) : Nat → SX
  | 0, _ => .stuck
  | k + 1, e => sTest c (fun b e1 => if b then (match body e1 with
      | .nx e2 => sWhile c body k e2
      | .ct e2 => sWhile c body k e2
      | .bk e2 => .nx e2
      | r => r) else .nx e1) e
theorem ps_whileD {xs : List Stmt} (k : Nat) (hp : PassesOwn (model X.prog X.w) X.A X.env X.xe) (hc : PT X c (tT (mx X xo) W f)) (hb : PSs X xs (tS (mx X xo) W m)) : PS X (.While c xs [] pos) (tS (mx X xo) W (sWhile f m k)) :=
  PS.of (ps_while hp hc hb) fun D σ H ⟨F, Y, G, e, hE, q⟩ => by
    refine ⟨fun k σ H => ∃ Y G2 e2, Env (mx X xo) F Y G2 H σ e2 ∧ OkS (mx X xo) W F G2 D (sWhile f m k e2), ⟨k, _, G, e, hE, q⟩, ?_⟩
    rintro k σ2 H2 ⟨Y2, G2, e2, E2, q2⟩
    cases k with
    | zero => exact q2.elim
    | succ k =>
      unfold sWhile at q2
      refine sTest_ok E2 q2 _ fun b e3 G3 H3 E3 g3 q3 => ?_
      cases b with
      | false => exact q3 _ σ2 G3 H3 E3 (Gro.refl F G3)
      | true =>
        simp only [if_true] at q3 ⊢
        refine ⟨fun σ3 H3 => ∃ Y G2 e2, Env (mx X xo) F Y G2 H3 σ3 e2 ∧ OkS (mx X xo) W F G2 D (sWhile f m k e2), fun σ' H' z => ⟨k, Nat.lt_succ_self k, z⟩, F, _, G3, e3, E3, ?_⟩
        cases hm : m e3 with
        | stuck => simp only [hm] at q3; exact q3
        | nx e4 => simp only [hm] at q3; exact fun Y5 σ5 G5 H5 E5 g5 => ⟨_, G5, e4, E5, OkS.gro q3 g5⟩
        | ct e4 => simp only [hm] at q3; exact fun Y5 σ5 G5 H5 E5 g5 => ⟨_, G5, e4, E5, OkS.gro q3 g5⟩
        | bk e4 => simp only [hm] at q3; exact q3
        | ret d e4 => simp only [hm] at q3; exact q3
        | exc x e4 => simp only [hm] at q3; exact q3
end
end TF
/-! #### text TFh -/
set_option Elab.async false
set_option linter.all false
set_option maxRecDepth 100000
set_option maxHeartbeats 2000000
/-! TFh: new things of one's own; comprehensions of lists. -/
namespace TF
open PySem L2 PySem.Spec PyProof.Rows
/-! ### new things -/
def OwnOk (M : Mx) (G : Hp) (d : D) (p : Addr) (o : HO) : Prop := match d with
  | .lst ds => ∃ vs, o = .lst vs ∧ Rps M G ds vs
  | .dic kvs => (∃ ks, o = .dK ks ∧ Rpk M G kvs ks) ∨ ∃ xs, o = dN M p xs ∧ Rpn M G kvs xs
  | _ => False
def tO (M : Mx) (W : WX) (f : EX) : TE := fun σ H Q => ∃ F Y G e, Env M F Y G H σ e ∧ match f e with
  | .stuck => False
  | .val d e1 => ∀ p o G' H', Env M (upd F p o) Y G' H' σ e1 → F p = none → G' p = none → Gro F G G' → (∀ a u, H a = some u → a ∉ Y → H' a = some u) → OwnOk M G' d p o → Q (.ref p) H'
  | .exc x e1 => ∀ cls a G' H', Stp M F Y G H σ e G' H' e1 → XcOk M F G' H' x cls a → W cls a σ H'
theorem Env.putG {M : Mx} {F G H : Hp} {σ : L2.St} {e : Ev} {p : Addr} {o : HO} (h : Env M (upd F p o) Y G H σ e) (hF : F p = none) (hG : G p = none) : Env M F Y (upd G p o) H σ e := by
  obtain ⟨fp, h1, h2, h3, h4, h5⟩ := h.sl
  have hp : H p = some o := h.fh p o upd_same
  have np : ∀ i a, a ∈ fp i → a ≠ p := fun i a ha z => by
    have := (h3 i a ha).2
    rw [z, upd_same] at this
    cases this
  refine ⟨fun a u ha => ?_, (Ex.new hF).trans h.fh, h.len, fp, fun i s hs => (h1 i s hs).step (Ex.new hG) fun _ _ => rfl, h2, fun i a ha => ⟨?_, ?_⟩, h4, h5⟩
  · by_cases z : a = p
    · subst z
      rw [upd_same] at ha
      rw [← ha]
      exact hp
    · rw [upd_ne z] at ha
      exact h.gh a u ha
  · rw [upd_ne (np i a ha)]
    exact (h3 i a ha).1
  · have := (h3 i a ha).2
    rw [upd_ne (np i a ha)] at this
    exact this
theorem OwnOk.rp {M : Mx} {G : Hp} {d : D} {p : Addr} {o : HO} (h : OwnOk M G d p o) (hG : G p = none) : Rp M (upd G p o) d (.ref p) := by
  cases d with
  | lst ds =>
    obtain ⟨vs, rfl, r⟩ := h
    exact Rp.of_lst r hG
  | dic kvs =>
    rcases h with ⟨ks, rfl, r⟩ | ⟨xs, rfl, r⟩
    · exact ⟨p, rfl, .inl ⟨ks, upd_same, Rpk.mono (Ex.new hG) _ _ r⟩⟩
    · exact ⟨p, rfl, .inr ⟨xs, upd_same, Rpn.mono (Ex.new hG) _ _ r⟩⟩
  | _ => exact h.elim
theorem Gro.put {F G G' : Hp} {p : Addr} {o : HO} (g : Gro F G G') (hF : F p = none) (hG : G' p = none) : Gro F G (upd G' p o) := ⟨g.gg.trans (Ex.new hG), fun a ha => by
  by_cases z : a = p
  · subst z; exact .inr hF
  · rw [upd_ne z] at ha
    exact g.nw a ha⟩
theorem PE.ofO {X : Cx} {W : WX} {a : Expr} {f : EX} (h : PE X a (tO (mx X xo) W f)) : PE X a (tD (mx X xo) W f) := PE.of h fun σ H Q ⟨F, Y, G, e, hE, q⟩ => ⟨F, Y, G, e, hE, by
  cases hf : f e with
  | stuck => rw [hf] at q; exact q
  | exc x e1 => rw [hf] at q; exact q
  | val d e1 =>
    rw [hf] at q
    intro p o G' H' E1 hF hG g k ok
    have g2 := g.put (o := o) hF hG
    exact q (.ref p) (upd G' p o) H' ⟨E1.putG hF hG, g2.gg, k, g2.nw⟩ (ok.rp hG)⟩
/-- x = something new, x one's own from here on -/
def sOwn (i : Nat) : D → SX := fun d e => match d with
  | .lst ds => .nx (e.set i (.ol ds))
  | .dic kvs => .nx (e.set i (.od kvs))
  | _ => .stuck
/-- .. a list that may shift while expressions run -/
def sOwnS (i : Nat) : D → SX := fun d e => match d with
  | .lst ds => .nx (e.set i (.sl ds))
  | _ => .stuck
theorem own_slot {M : Mx} {F G H : Hp} {σ : L2.St} {e : Ev} {p : Addr} {o : HO} {d : D} {D : Ends} {W : WX} {i : Nat} (E : Env M (upd F p o) Y G H σ e) (hF : F p = none) (hG : G p = none) (ok : OwnOk M G d p o) (q : OkS M W F G D (sOwn i d e)) : D.nx (σ.set i (some (.ref p))) H := by
  have hp : H p = some o := E.fh p o upd_same
  cases d with
  | lst ds =>
    obtain ⟨vs, rfl, r⟩ := ok
    obtain ⟨Y', E'⟩ := E.setO hF hG (i := i) (s := .ol ds) ⟨p, vs, rfl, rfl, hp, r⟩
    exact q _ _ G H E' (Gro.refl F G)
  | dic kvs =>
    have ok' : SlotOk M G H (.od kvs) (some (.ref p)) [p] := ⟨p, rfl, rfl, by
      rcases ok with ⟨ks, rfl, r⟩ | ⟨xs, rfl, r⟩
      · exact .inl ⟨ks, hp, r⟩
      · exact .inr ⟨xs, hp, r⟩⟩
    obtain ⟨Y', E'⟩ := E.setO hF hG (i := i) ok'
    exact q _ _ G H E' (Gro.refl F G)
  | _ => exact ok.elim
theorem own_slotS {M : Mx} {F G H : Hp} {σ : L2.St} {e : Ev} {p : Addr} {o : HO} {d : D} {D : Ends} {W : WX} {i : Nat} (E : Env M (upd F p o) Y G H σ e) (hF : F p = none) (hG : G p = none) (ok : OwnOk M G d p o) (q : OkS M W F G D (sOwnS i d e)) : D.nx (σ.set i (some (.ref p))) H := by
  have hp : H p = some o := E.fh p o upd_same
  cases d with
  | lst ds =>
    obtain ⟨vs, rfl, r⟩ := ok
    obtain ⟨Y', E'⟩ := E.setO hF hG (i := i) (s := .sl ds) ⟨p, vs, rfl, rfl, hp, r⟩
    exact q _ _ G H E' (Gro.refl F G)
  | _ => exact q.elim
section
variable {X : Cx} {xo : Xo} {W : WX} {a b c tg : Expr} {f g h : EX} {m n : SX} {pos : Pos}
theorem sOf_okO {M : Mx} {k : D → SX} {D : Ends} {F G H : Hp} {σ : L2.St} {e : Ev} (hE : Env M F Y G H σ e) (q : OkS M W F G D (sOf f k e)) (P : VK)
    (hk : ∀ d e1 p o G1 H1, Env M (upd F p o) Y G1 H1 σ e1 → F p = none → G1 p = none → Gro F G G1 → OwnOk M G1 d p o → OkS M W F G1 D (k d e1) → P (.ref p) H1) : tO M W f σ H P := by
  refine ⟨F, Y, G, e, hE, ?_⟩
  unfold sOf at q
  cases hf : f e with
  | stuck => rw [hf] at q; exact q
  | val d e1 => rw [hf] at q; exact fun p o G1 H1 E1 hF hG g _ ok => hk d e1 p o G1 H1 E1 hF hG g ok (OkS.gro q g)
  | exc x e1 => rw [hf] at q; exact fun cls a G1 H1 s x1 => q cls a _ σ G1 H1 s.env s.gro x1
theorem ps_ownD {i : Nat} {x : Str} {p' : Pos} (hN : X.N.Nodup) (hi : X.N[i]? = some x) (hx : Loc X.env.scope x) (hfn : X.fn x = true ∨ X.env.scope.names.lookup x = some .local) (he : PE X a (tO (mx X xo) W f)) (hs : swapsWithSole [.Name x p'] a pos.line X.env = pure false := by rfl) (hw : swappedStores [.Name x p'] a X.env = pure none := by rfl)
    (h1 : (assignEach [.Name x p'] X.env).map (fun x => x.2) = [assign (.Name x p') X.env] := by rfl) : PS X (.Assign [.Name x p'] a pos) (tS (mx X xo) W (sOf f (sOwn i))) :=
  PS.of (ps_asg he (pg_name hN hi hx hfn) hs hw h1) fun D σ H ⟨F, Y, G, e, hE, q⟩ => sOf_okO hE q _ fun d e1 p o G1 H1 E1 hF hG g ok q1 => own_slot E1 hF hG ok q1
/-! ### wiping and restoring slots -/
def cleanS : S → Bool
  | .un => true
  | .fz _ => true
  | _ => false
def cleanE (own : List Nat) : Nat → Ev → Bool
  | _, [] => true
  | k, s :: r => (!own.contains k || cleanS s) && cleanE own (k + 1) r
def wipeE (own : List Nat) : Nat → Ev → Ev
  | _, [] => []
  | k, s :: r => (if own.contains k then .un else s) :: wipeE own (k + 1) r
/-- e2, with the slots of e1 at own -/
def restE (own : List Nat) : Nat → Ev → Ev → Ev
  | _, _, [] => []
  | _, [], r => r
  | k, s :: r, s2 :: r2 => (if own.contains k then s else s2) :: restE own (k + 1) r r2
theorem wipeE_at {own : List Nat} : ∀ {k : Nat} {e : Ev} {j : Nat}, (wipeE own k e)[j]? = if own.contains (k + j) then e[j]?.map fun _ => .un else e[j]?
  | _, [], _ => by unfold wipeE; simp
  | k, s :: r, 0 => by
    unfold wipeE
    rw [List.getElem?_cons_zero, List.getElem?_cons_zero]
    rw [Nat.add_zero]
    by_cases h : own.contains k = true
    · rw [if_pos h, if_pos h]; rfl
    · rw [if_neg h, if_neg h]
  | k, s :: r, j + 1 => by
    unfold wipeE
    rw [List.getElem?_cons_succ, List.getElem?_cons_succ, wipeE_at (k := k + 1), show k + 1 + j = k + (j + 1) by omega]
theorem restE_at {own : List Nat} : ∀ {k : Nat} {e1 e2 : Ev} {j : Nat}, e1.length = e2.length → (restE own k e1 e2)[j]? = if own.contains (k + j) then e1[j]? else e2[j]?
  | _, [], [], _, _ => by unfold restE; simp
  | _, s :: r, [], _, h => by cases h
  | _, [], s :: r, _, h => by cases h
  | k, s :: r, s2 :: r2, 0, h => by
    unfold restE
    rw [List.getElem?_cons_zero, List.getElem?_cons_zero, List.getElem?_cons_zero]
    rw [Nat.add_zero]
    by_cases h : own.contains k = true
    · rw [if_pos h, if_pos h]
    · rw [if_neg h, if_neg h]
  | k, s :: r, s2 :: r2, j + 1, h => by
    unfold restE
    rw [List.getElem?_cons_succ, List.getElem?_cons_succ, List.getElem?_cons_succ, restE_at (k := k + 1) (by simpa using h), show k + 1 + j = k + (j + 1) by omega]
theorem cleanE_at {own : List Nat} : ∀ {k : Nat} {e : Ev} {j : Nat} {s : S}, cleanE own k e = true → e[j]? = some s → own.contains (k + j) = true → cleanS s = true
  | _, [], _, _, _, h, _ => by simp at h
  | k, t :: r, 0, s, hc, h, ho => by
    unfold cleanE at hc
    rw [List.getElem?_cons_zero] at h
    cases h
    rw [show k + 0 = k from rfl] at ho
    rw [ho] at hc
    simp only [Bool.not_true, Bool.false_or, Bool.and_eq_true] at hc
    exact hc.1
  | k, t :: r, j + 1, s, hc, h, ho => by
    unfold cleanE at hc
    rw [List.getElem?_cons_succ] at h
    simp only [Bool.and_eq_true] at hc
    exact cleanE_at (k := k + 1) hc.2 h (by rw [show k + 1 + j = k + (j + 1) by omega]; exact ho)
theorem wipeE_len {own : List Nat} : ∀ {k : Nat} {e : Ev}, (wipeE own k e).length = e.length
  | _, [] => rfl
  | k, s :: r => by unfold wipeE; rw [List.length_cons, List.length_cons, wipeE_len]
theorem restE_len {own : List Nat} : ∀ {k : Nat} {e1 e2 : Ev}, (restE own k e1 e2).length = e2.length
  | _, _, [] => by unfold restE; rfl
  | _, [], s :: r => by unfold restE; rfl
  | k, s :: r, s2 :: r2 => by unfold restE; rw [List.length_cons, List.length_cons, restE_len]
theorem cleanS_sh {s : S} (h : cleanS s = true) : isSh s = false := by cases s <;> first | rfl | cases h
theorem Env.wiped {M : Mx} {F G H : Hp} {σ σ0 : L2.St} {e : Ev} {own : List Nat} (h : Env M F Y G H σ e) (hw : L2.wipe σ own = L2.wipe σ0 own) : Env M F Y G H (L2.wipe σ0 own) (wipeE own 0 e) := by
  obtain ⟨fp, h1, h2, h3, h4, h5⟩ := h.sl
  refine ⟨h.gh, h.fh, by rw [← hw, wipe_length, wipeE_len]; exact h.len, fun j => if own.contains j then [] else fp j, fun j s hj => ?_, fun j k a hj hk => ?_, fun j a hj => ?_, fun j hj => ?_, fun j t a hj ha => ?_⟩
  · rw [wipeE_at, Nat.zero_add] at hj
    by_cases ho : own.contains j = true
    · rw [if_pos ho] at hj
      obtain ⟨_, _, rfl⟩ := Option.map_eq_some_iff.mp hj
      simp only [if_pos ho]
      exact rfl
    · rw [if_neg ho] at hj
      simp only [if_neg ho]
      rw [← hw, wipe_at, if_neg (by simpa using ho)]
      exact h1 j s hj
  · by_cases e1 : own.contains j = true
    · simp only [if_pos e1] at hj; cases hj
    · by_cases e2 : own.contains k = true
      · simp only [if_pos e2] at hk; cases hk
      · simp only [if_neg e1] at hj
        simp only [if_neg e2] at hk
        exact h2 j k a hj hk
  · by_cases e1 : own.contains j = true
    · simp only [if_pos e1] at hj; cases hj
    · simp only [if_neg e1] at hj
      exact h3 j a hj
  · by_cases e1 : own.contains j = true
    · simp only [if_pos e1]
    · simp only [if_neg e1]
      rw [wipeE_at, Nat.zero_add, if_neg e1] at hj
      exact h4 j hj
  · by_cases e1 : own.contains j = true
    · simp only [if_pos e1] at ha; cases ha
    · simp only [if_neg e1] at ha
      rw [wipeE_at, Nat.zero_add, if_neg e1] at hj
      exact h5 j t a hj ha
theorem cleanS_fp {M : Mx} {G H : Hp} {s : S} {o : Option V} {fp : List Addr} (h : SlotOk M G H s o fp) (c : cleanS s = true) : fp = [] := by
  cases s with
  | un => exact h
  | fz d => exact h.1
  | _ => cases c
theorem Env.rest {M : Mx} {F G H F1 G1 H1 : Hp} {σ : L2.St} {e1 e2 : Ev} {own : List Nat} (h : Env M F Y G H (L2.wipe σ own) e2) (k : Env M F1 Y1 G1 H1 σ e1) (g : Ex G1 G) (hc : cleanE own 0 e1 = true) (hc2 : cleanE own 0 e2 = true) : Env M F Y G H σ (restE own 0 e1 e2) := by
  have hl : e1.length = e2.length := by rw [← k.len, ← h.len, wipe_length]
  obtain ⟨fp, h1, h2, h3, h4, h5⟩ := h.sl
  obtain ⟨fk, k1, k2, k3, k4, k5⟩ := k.sl
  refine ⟨h.gh, h.fh, by rw [restE_len, ← h.len, wipe_length], fp, fun j s hj => ?_, h2, h3, fun j hj => ?_, fun j t a hj ha => ?_⟩
  · rw [restE_at hl, Nat.zero_add] at hj
    by_cases ho : own.contains j = true
    · rw [if_pos ho] at hj
      have q := k1 j s hj
      have cs := cleanE_at hc hj (by rw [Nat.zero_add]; exact ho)
      have z : fp j = [] := by
        cases h5 : e2[j]? with
        | none => exact h4 j h5
        | some t => exact cleanS_fp (h1 j t h5) (cleanE_at hc2 h5 (by rw [Nat.zero_add]; exact ho))
      rw [z]
      cases s with
      | un => exact rfl
      | fz d => exact ⟨rfl, q.2.elim fun v r => ⟨v, r.1, Rp.mono g _ _ r.2⟩⟩
      | _ => cases cs
    · rw [if_neg ho] at hj
      have := h1 j s hj
      rw [wipe_at, if_neg (by simpa using ho)] at this
      exact this
  · rw [restE_at hl, Nat.zero_add] at hj
    by_cases ho : own.contains j = true
    · rw [if_pos ho, List.getElem?_eq_none_iff, hl] at hj
      exact h4 j (List.getElem?_eq_none_iff.mpr hj)
    · rw [if_neg ho] at hj
      exact h4 j hj
  · rw [restE_at hl, Nat.zero_add] at hj
    by_cases ho : own.contains j = true
    · have z : fp j = [] := by
        cases h6 : e2[j]? with
        | none => exact h4 j h6
        | some t => exact cleanS_fp (h1 j t h6) (cleanE_at hc2 h6 (by rw [Nat.zero_add]; exact ho))
      rw [z] at ha
      cases ha
    · rw [if_neg ho] at hj
      exact h5 j t a hj ha
theorem Env.swapF {M : Mx} {F G H : Hp} {σ : L2.St} {e : Ev} {p : Addr} {o o' : HO} (h : Env M (upd F p o) Y G H σ e) (hF : F p = none) (hG : G p = none) : Env M (upd F p o') Y G (upd H p o') σ e := by
  obtain ⟨fp, h1, h2, h3, h4, h5⟩ := h.sl
  have np : ∀ i a, a ∈ fp i → a ≠ p := fun i a ha z => by
    have := (h3 i a ha).2
    rw [z, upd_same] at this
    cases this
  refine ⟨h.gh.mut hG, fun a u ha => ?_, h.len, fp, fun i s hs => (h1 i s hs).step (Ex.refl G) fun a ha => upd_ne (np i a ha), h2, fun i a ha => ⟨(h3 i a ha).1, ?_⟩, h4, h5⟩
  · by_cases z : a = p
    · subst z
      rw [upd_same] at ha ⊢
      exact ha
    · rw [upd_ne z] at ha ⊢
      exact h.fh a u (by rw [upd_ne z]; exact ha)
  · have := (h3 i a ha).2
    rw [upd_ne (np i a ha)] at this ⊢
    exact this
/-- a new thing that is protected -/
theorem Env.addF {M : Mx} {F G H : Hp} {σ : L2.St} {e : Ev} {p : Addr} {o : HO} (h : Env M F Y G H σ e) (hp : H p = none) : Env M (upd F p o) Y G (upd H p o) σ e := by
  obtain ⟨fp, h1, h2, h3, h4, h5⟩ := h.sl
  have np : ∀ i a, a ∈ fp i → a ≠ p := fun i a ha z => by
    cases hs : e[i]? with
    | none => rw [h4 i hs] at ha; cases ha
    | some s =>
      have := (h1 i s hs).there a ha
      rw [z] at this
      exact this hp
  refine ⟨h.gh.trans (Ex.new hp), h.fh.updB, h.len, fp, fun i s hs => (h1 i s hs).step (Ex.refl G) fun a ha => upd_ne (np i a ha), h2, fun i a ha => ⟨(h3 i a ha).1, ?_⟩, h4, h5⟩
  rw [upd_ne (np i a ha)]
  exact (h3 i a ha).2
end
end TF
/-! #### text TFi -/
set_option Elab.async false
set_option linter.all false
set_option maxRecDepth 100000
set_option maxHeartbeats 2000000
/-! TFi: comprehensions of lists. -/
namespace TF
open PySem L2 PySem.Spec PyProof.Rows
def lcL (own : List Nat) (t : Tg) (f el : EX) : List D → List D → Ev → Rl
  | [], acc, e => .val acc e
  | d :: ds, acc, e => match asg t d e with
    | none => .stuck
    | some e1 => match f e1 with
      | .val (.bl true) e2 => (match el e2 with
        | .val y e3 => if cleanE own 0 e3 && decide (acc.length < szB) then lcL own t f el ds (acc ++ [y]) (wipeE own 0 e3) else .stuck
        | _ => .stuck)
      | .val (.bl false) e2 => if cleanE own 0 e2 then lcL own t f el ds acc (wipeE own 0 e2) else .stuck
      | _ => .stuck
def eLc (own : List Nat) (i : IX) (t : Tg) (f el : EX) : EX := fun e => match i e with
  | .stuck => .stuck
  | .exc x e1 => .exc x e1
  | .val ds e1 => if cleanE own 0 e1 then (match lcL own t f el ds [] (wipeE own 0 e1) with
      | .val acc e2 => if cleanE own 0 e2 then .val (.lst acc) (restE own 0 e1 e2) else .stuck
      | _ => .stuck) else .stuck
theorem clean_wipe {own : List Nat} : ∀ {k : Nat} {e : Ev}, cleanE own k (wipeE own k e) = true
  | _, [] => rfl
  | k, s :: r => by
    unfold wipeE cleanE
    rw [clean_wipe]
    by_cases h : own.contains k = true
    · rw [if_pos h]; simp [cleanS]
    · rw [if_neg h, Bool.and_true, Bool.or_eq_true, Bool.not_eq_true']
      exact .inl (by simpa using h)
theorem Gro.unF {F G G' : Hp} {p : Addr} {o : HO} (g : Gro (upd F p o) G G') : Gro F G G' := ⟨g.gg, fun a q => (g.nw a q).elim .inl fun z => .inr (by
  by_cases h : a = p
  · subst h; rw [upd_same] at z; cases z
  · rw [upd_ne h] at z; exact z)⟩
theorem Gro.noP {F G G' : Hp} {p : Addr} {o : HO} (g : Gro (upd F p o) G G') (h : G p = none) : G' p = none := by
  cases z : G' p with
  | none => rfl
  | some u =>
    rcases g.nw p (by rw [z]; exact fun y => nomatch y) with y | y
    · exact absurd h y
    · rw [upd_same] at y; cases y
abbrev W0 : WX := fun _ _ _ _ => False
/-- what is wanted of the rest of a comprehension -/
def OkL (M : Mx) (F : Hp) (Y : List Addr) (G H : Hp) (p : Addr) (σw : L2.St) (own : List Nat) (e1 : Ev) (Q : VK) (r : Rl) : Prop := match r with
  | .val acc e2 => cleanE own 0 e2 = true ∧ ∀ vs G' H', Env M (upd F p (.lst vs)) Y G' H' σw e2 → Rps M G' acc vs → G' p = none → Gro F G G' → (∀ a u, H a = some u → a ∉ Y → H' a = some u) → Q (.ref p) H'
  | _ => False
theorem lc_ok {M : Mx} {W : WX} {own : List Nat} {i : IX} {t : Tg} {f el : EX} (ht : ∀ j ∈ t.sl, j ∈ own) (σ : L2.St) (H : Hp) (Q : VK) (h : tO M W (eLc own i t f el) σ H Q) : tLc (iD M W i) (gT M t) (tT M W0 f) (tD M W0 el) own σ H Q := by
  obtain ⟨F, Y, G, e, hE, q⟩ := h
  refine ⟨F, Y, G, e, hE, ?_⟩
  unfold eLc at q
  cases hf : i e with
  | stuck => rw [hf] at q; exact q
  | exc x e1 => rw [hf] at q; exact q
  | val ds e1 =>
    rw [hf] at q
    intro J G1 H1 s1 hJ p hp
    have hFp : F p = none := s1.env.fh.back hp
    have hGp : G1 p = none := s1.env.gh.back hp
    cases hc : cleanE own 0 e1 with
    | false => simp only [hc, Bool.false_eq_true, if_false] at q
    | true =>
      simp only [hc, if_true] at q
      have k0 : ∀ a u, H1 a = some u → a ∉ Y → upd H1 p (.lst []) a = some u := fun a u ha _ => by
        rw [upd_ne fun z => ?_]
        · exact ha
        · rw [z, hp] at ha; cases ha
      have q0 : OkL M F Y G1 H1 p (wipe σ own) own e1 Q (lcL own t f el ds [] (wipeE own 0 e1)) := by
        cases hl : lcL own t f el ds [] (wipeE own 0 e1) with
        | stuck => simp only [hl] at q
        | exc x e2 => simp only [hl] at q
        | val acc e2 =>
          simp only [hl] at q
          cases hc2 : cleanE own 0 e2 with
          | false => simp only [hc2, Bool.false_eq_true, if_false] at q
          | true =>
            simp only [hc2, if_true] at q
            refine ⟨hc2, fun vs G' H' E r hG g k => ?_⟩
            exact q p (.lst vs) G' H' (E.rest s1.env g.gg hc hc2) hFp hG (s1.gro.trans g) (fun a u ha ha2 => k a u (s1.kp a u ha ha2) ha2) ⟨vs, rfl, r⟩
      refine ⟨fun i k H2 => k + i = ds.length ∧ ∃ G2 e2 acc vs, Env M (upd F p (.lst vs)) Y G2 H2 (wipe σ own) e2 ∧ Rps M G2 acc vs ∧ G2 p = none ∧ Gro F G1 G2 ∧ (∀ a u, H1 a = some u → a ∉ Y → H2 a = some u) ∧ cleanE own 0 e2 = true ∧
        OkL M F Y G1 H1 p (wipe σ own) own e1 Q (lcL own t f el (ds.drop i) acc e2), ⟨ds.length, rfl, G1, wipeE own 0 e1, [], [], (s1.env.addF hp).wiped rfl, rfl, hGp, Gro.refl F G1, k0, clean_wipe, q0⟩, ?_⟩
      rintro i k H2 ⟨hk, G2, e2, acc, vs, E2, r2, hG2, g2, k2, c2, q2⟩
      by_cases hi : i < ds.length
      · refine .inr ⟨hJ.go i ds[i] H2 (List.getElem?_eq_getElem hi) (g2.gg.trans E2.gh), fun H3 => ∃ G2 e2 acc vs, Env M (upd F p (.lst vs)) Y G2 H3 (wipe σ own) e2 ∧ Rps M G2 acc vs ∧ G2 p = none ∧ Gro F G1 G2 ∧ (∀ a u, H1 a = some u → a ∉ Y → H3 a = some u) ∧ cleanE own 0 e2 = true ∧
          OkL M F Y G1 H1 p (wipe σ own) own e1 Q (lcL own t f el (ds.drop (i + 1)) acc e2), ?_, ?_⟩
        · rintro H3 ⟨G3, z⟩
          exact ⟨k - 1, by omega, by omega, G3, z⟩
        · intro x H3 hy
          obtain ⟨G3, n3, r3⟩ := hJ.yl i ds[i] H2 x H3 (List.getElem?_eq_getElem hi) (g2.gg.trans E2.gh) hy G2 g2.gg E2.gh
          rw [List.drop_eq_getElem_cons hi] at q2
          unfold lcL at q2
          cases ha : asg t ds[i] e2 with
          | none => simp only [ha] at q2; exact q2.elim
          | some e3 =>
            simp only [ha] at q2
            have E3 := E2.nw n3
            have hp3 : H2 p ≠ none := fun z => by
              have := E2.fh p _ upd_same
              rw [z] at this; cases this
            have hG3 : G3 p = none := by
              cases z : G3 p with
              | none => rfl
              | some o => exact ((n3.nw p (by rw [z]; exact fun y => nomatch y)).elim (fun y => y hG2) fun y => hp3 y).elim
            have k3 : ∀ a u, H1 a = some u → a ∉ Y → H3 a = some u := fun a u h1 h2 => n3.hh a u (k2 a u h1 h2)
            have g3 : Gro F G1 G3 := g2.trans (n3.gro ((Ex.new hFp).trans E2.fh))
            refine ⟨upd F p (.lst vs), Y, G3, e2, ds[i], e3, E3, r3, ha, fun σ4 E4 ch => ?_⟩
            have hw : wipe σ4 own = wipe σ own := by
              rw [ch own ht]
              apply List.ext_getElem?
              intro j
              rw [wipe_at, wipe_at]
              by_cases hj : j ∈ own
              · rw [if_pos hj, if_pos hj, Option.map_map]; rfl
              · rw [if_neg hj, if_neg hj]
            refine ⟨hw, upd F p (.lst vs), Y, G3, e3, E4, ?_⟩
            have hl : acc.length = vs.length := r2.length.symm
            cases hf2 : f e3 with
            | stuck => simp only [hf2] at q2; exact q2.elim
            | exc x e4 => simp only [hf2] at q2; exact q2.elim
            | val d e4 =>
              simp only [hf2] at q2
              cases d with
              | bl b =>
                intro G4 H4 s4
                have k4 : ∀ a u, H1 a = some u → a ∉ Y → H4 a = some u := fun a u h1 h2 => s4.kp a u (k3 a u h1 h2) h2
                have g4 := g3.trans s4.gro.unF
                have hG4 := s4.gro.noP hG3
                have r4 := Rps.mono (n3.gg.trans s4.gg) _ _ r2
                cases b with
                | false =>
                  simp only [Bool.false_eq_true, if_false] at q2 ⊢
                  cases hc4 : cleanE own 0 e4 with
                  | false => simp only [hc4, Bool.false_eq_true, if_false] at q2; exact q2.elim
                  | true =>
                    simp only [hc4, if_true] at q2
                    exact ⟨G4, wipeE own 0 e4, acc, vs, s4.env.wiped hw, r4, hG4, g4, k4, clean_wipe, q2⟩
                | true =>
                  simp only [if_true] at q2 ⊢
                  refine ⟨upd F p (.lst vs), Y, G4, e4, s4.env, ?_⟩
                  cases hel : el e4 with
                  | stuck => simp only [hel] at q2; exact q2.elim
                  | exc x e5 => simp only [hel] at q2; exact q2.elim
                  | val y e5 =>
                    simp only [hel] at q2
                    cases hc5 : (cleanE own 0 e5 && decide (acc.length < szB)) with
                    | false => simp only [hc5, Bool.false_eq_true, if_false] at q2; exact q2.elim
                    | true =>
                      simp only [hc5, if_true] at q2
                      simp only [Bool.and_eq_true, decide_eq_true_eq] at hc5
                      intro v G5 H5 s5 r5
                      have hG5 := s5.gro.noP hG4
                      refine ⟨vs, s5.env.fh p _ upd_same, by rw [← hl]; exact Nat.lt_of_lt_of_le hc5.2 (by decide), G5, wipeE own 0 e5, acc ++ [y], vs ++ [v], (s5.env.swapF hFp hG5).wiped hw, (Rps.mono s5.gg _ _ r4).append (Rps.one r5), hG5, g4.trans s5.gro.unF, fun a u h1 h2 => ?_, clean_wipe, q2⟩
                      rw [upd_ne fun z => ?_]
                      · exact s5.kp a u (k4 a u h1 h2) h2
                      · rw [z, hp] at h1; cases h1
              | _ => simp only at q2; exact q2.elim
      · have hi2 : i = ds.length := by omega
        subst hi2
        rw [List.drop_length] at q2
        exact .inl ⟨hJ.st H2 (g2.gg.trans E2.gh), q2.2 vs G2 H2 E2 r2 hG2 g2 k2⟩
section
variable {X : Cx} {xo : Xo} {W : WX} {tg : Expr} {f el : EX} {pos : Pos}
theorem pts_nilD : PTs X [] (tT (mx X xo) W (eC (.bl true))) := ⟨fun pins s σ H Q I ⟨F, Y, G, e, hE, q⟩ => pts_nil.run pins s σ H Q I (q G H (Stp.refl hE))⟩
theorem pe_lcO {elt it : Expr} {ifs : List Expr} {scope : Scope} (own : List (Str × Nat)) {i : IX} {t : Tg} (hc : X.calm = true) (hN : X.N.Nodup) (hi : PI X tg it (iD (mx X xo) W i)) (ok : BlkOk X.N X.env.scope scope own) (ht : ∀ j ∈ t.sl, j ∈ own.map (·.2))
    (hg : ∀ (s : Shared) (H : Hp) (C : Addr) (cl : List (Str × Addr)) (fp : List Addr), PG (X.blk s H scope (compEnvC scope cl C X.env) fp) tg (gT (mx X xo) t)) (hf : ∀ (s : Shared) (H : Hp) (C : Addr) (cl : List (Str × Addr)) (fp : List Addr), PTs (X.blk s H scope (compEnvC scope cl C X.env) fp) ifs (tT (mx X xo) W0 f))
    (he : ∀ (s : Shared) (H : Hp) (C : Addr) (cl : List (Str × Addr)) (fp : List Addr), PE (X.blk s H scope (compEnvC scope cl C X.env) fp) elt (tD (mx X xo) W0 el)) (hs : ∀ x, foldedSetIterable it X.env x = pure x := by intro _; rfl) :
    PE X (.ListComp elt [⟨tg, it, ifs, 0⟩] scope pos) (tO (mx X xo) W (eLc (own.map (·.2)) i t f el)) := PE.of (pe_lc hc hN hi ok hg hf he hs) (lc_ok ht)
/-- name = [..] on one line: frozen -/
theorem ps_lcFz {k : Nat} {y : Str} {py spos : Pos} {elt it : Expr} {ifs : List Expr} {scope : Scope} (own : List (Str × Nat)) {i : IX} {t : Tg} (hc : X.calm = true) (hN : X.N.Nodup) (hy : X.N[k]? = some y) (hyl : X.env.scope.names.lookup y = some .local)
    (hsw : swapsWith (.ListComp elt [⟨tg, it, ifs, 0⟩] scope pos) (some (.Name y py)) spos.line X.env = pure true) (hi : PI X tg it (iD (mx X xo) W i)) (ok : BlkOk X.N X.env.scope scope own) (ht : ∀ j ∈ t.sl, j ∈ own.map (·.2))
    (hg : ∀ (s : Shared) (H : Hp) (C : Addr) (cl : List (Str × Addr)) (fp : List Addr), PG (X.blk s H scope (compEnvC scope cl C X.env) fp) tg (gT (mx X xo) t)) (hf : ∀ (s : Shared) (H : Hp) (C : Addr) (cl : List (Str × Addr)) (fp : List Addr), PTs (X.blk s H scope (compEnvC scope cl C X.env) fp) ifs (tT (mx X xo) W0 f))
    (he : ∀ (s : Shared) (H : Hp) (C : Addr) (cl : List (Str × Addr)) (fp : List Addr), PE (X.blk s H scope (compEnvC scope cl C X.env) fp) elt (tD (mx X xo) W0 el)) (hs : ∀ x, foldedSetIterable it X.env x = pure x := by intro _; rfl) :
    PS X (.Assign [.Name y py] (.ListComp elt [⟨tg, it, ifs, 0⟩] scope pos) spos) (tS (mx X xo) W (sOf (eLc (own.map (·.2)) i t f el) (sAsg (.nm k)))) :=
  PS.of (ps_setLc hc hN hy hyl hsw hi ok hg hf he hs) fun D σ H ⟨F, Y, G, e, hE, q⟩ => lc_ok ht σ H _ (sOf_okO hE q _ fun d e1 p o G1 H1 E1 hF hG g ok q1 => q1 _ _ (upd G1 p o) H1 ((E1.putG hF hG).setFz (ok.rp hG)) ((Gro.refl F G1).put hF hG))
/-- .. one's own -/
theorem ps_lcOwn {k : Nat} {y : Str} {py spos : Pos} {elt it : Expr} {ifs : List Expr} {scope : Scope} (own : List (Str × Nat)) {i : IX} {t : Tg} (hc : X.calm = true) (hN : X.N.Nodup) (hy : X.N[k]? = some y) (hyl : X.env.scope.names.lookup y = some .local)
    (hsw : swapsWith (.ListComp elt [⟨tg, it, ifs, 0⟩] scope pos) (some (.Name y py)) spos.line X.env = pure true) (hi : PI X tg it (iD (mx X xo) W i)) (ok : BlkOk X.N X.env.scope scope own) (ht : ∀ j ∈ t.sl, j ∈ own.map (·.2))
    (hg : ∀ (s : Shared) (H : Hp) (C : Addr) (cl : List (Str × Addr)) (fp : List Addr), PG (X.blk s H scope (compEnvC scope cl C X.env) fp) tg (gT (mx X xo) t)) (hf : ∀ (s : Shared) (H : Hp) (C : Addr) (cl : List (Str × Addr)) (fp : List Addr), PTs (X.blk s H scope (compEnvC scope cl C X.env) fp) ifs (tT (mx X xo) W0 f))
    (he : ∀ (s : Shared) (H : Hp) (C : Addr) (cl : List (Str × Addr)) (fp : List Addr), PE (X.blk s H scope (compEnvC scope cl C X.env) fp) elt (tD (mx X xo) W0 el)) (hs : ∀ x, foldedSetIterable it X.env x = pure x := by intro _; rfl) :
    PS X (.Assign [.Name y py] (.ListComp elt [⟨tg, it, ifs, 0⟩] scope pos) spos) (tS (mx X xo) W (sOf (eLc (own.map (·.2)) i t f el) (sOwn k))) :=
  PS.of (ps_setLc hc hN hy hyl hsw hi ok hg hf he hs) fun D σ H ⟨F, Y, G, e, hE, q⟩ => lc_ok ht σ H _ (sOf_okO hE q _ fun d e1 p o G1 H1 E1 hF hG g ok q1 => own_slot E1 hF hG ok q1)
end
end TF
/-! #### text TXn -/
set_option Elab.async false
set_option linter.all false
set_option maxRecDepth 100000
/-! TXn: a class over ValueError, asked for an object with keywords and nothing else: first the equations. -/
namespace PySem
namespace TXK
/-- the body of __new__ sees no keywords -/
theorem body_kw (ps : List Value) (ws : List (Str × Value)) : Builtin.«BaseException.__new__» ⟨ps, ws⟩ = Builtin.«BaseException.__new__» ⟨ps, []⟩ := rfl
/-- nor does the look at its arguments mind them -/
theorem look_kw (c : Value) (ws : List (Str × Value)) : checkBuiltinCall "ValueError.__new__" ⟨[c], ws⟩ = checkBuiltinCall "ValueError.__new__" ⟨[c], []⟩ := by
  have e := (F.excBase_ValueError).newRow
  unfold checkBuiltinCall
  rw [e]
  simp only [Bind.checkArgs]
  rfl
end TXK
end PySem
/-! #### text TXm -/
set_option Elab.async false
set_option linter.all false
set_option maxRecDepth 100000
set_option maxHeartbeats 1000000
/-! TXm: the object that __new__ gives, asked with keywords alone. -/
namespace PySem
namespace TXK
open HandSPX
section
variable {prog : Program} {w : World} {A : Around} {R : Result → Shared → Prop} {hp : Heap} {gs : Array GenState} {dr : Drawn} {tk : Nat} {os : OsState} {ws : List (Str × Value)}
variable {nm q : Str} {C N : Addr} {bs up : List Value} {b1 : Bool} {sn : List Str} {sub : List Value} {b2 : Bool} {col : Option Bool} {dd : Option Addr} {k0 k1 k2 k3 k5 : Option Value}
/-- a bare exception of the class C, whose args are the tuple at n -/
theorem fresh_exc (above : ∀ X : String, up.contains (.type X) = veTail.contains (.type X))
    (hC : hp.get? C = some (excClassObj nm q C N bs up b1 sn sub b2 col dd k0 k1 k2 k3 k5 "ValueError.__new__"))
    (go : R (.ok (.ret (.ref (hp.objs.size + 1)))) ⟨(hp.push (W.kdv_tup [])).push (excO C hp.objs.size), gs, dr, tk, os⟩) :
    codeAny (model prog w) A (.builtin "ValueError.__new__" ⟨[.ref C], ws⟩) R ⟨hp, gs, dr, tk, os⟩ := by
  have V := F.excBase_ValueError
  have isV : (Value.ref C :: up).contains (.type "ValueError") = true := by rw [List.contains_cons, above]; rfl
  have noA : (Value.ref C :: up).contains (.type "AttributeError") = false := by rw [List.contains_cons, above]; rfl
  have noN : (Value.ref C :: up).contains (.type "NameError") = false := by rw [List.contains_cons, above]; rfl
  refine codeAny_builtin_stack V.entry rfl fun p rest => ?_
  have own : (if "ValueError.__new__".endsWith ".__new__" = true then (pure ("ValueError.__new__".dropRight 8) : Sem String) else unsupported "internal:__new__-under-another-id") = pure "ValueError" := by
    rw [if_pos V.ends, V.owner]
  refine wpAny_bind (m := _) ?_
  show wpAny _ _ (if "ValueError.__new__".endsWith ".__new__" = true then (pure ("ValueError.__new__".dropRight 8) : Sem String) else unsupported "internal:__new__-under-another-id") _ _ _
  rw [own]
  refine wpAny_pure ?_
  dsimp only
  repeat (first
    | (refine wpAny_isSubtype_exc hC ?_; rw [isV])
    | (refine wpAny_isSubtype_exc hC ?_; rw [noA])
    | (refine wpAny_isSubtype_exc hC ?_; rw [noN])
    | refine wpAny_madeHere_exc V.canon hC ?_
    | refine wpAny_loadPart_at hC ?_
    | wp_step)
  have at1 : (hp.push { cls := .type "tuple", data := .seq #[] }).objs.size = hp.objs.size + 1 := Heap.size_push ..
  show R (.ok (.ret (.ref (hp.push { cls := .type "tuple", data := .seq #[] }).objs.size))) _
  rw [at1]
  exact go
end
end TXK
end PySem
/-! #### text TXo -/
set_option Elab.async false
set_option linter.all false
set_option maxRecDepth 100000
set_option maxHeartbeats 800000
/-! TXo: a class over ValueError with an own __init__, called with keywords alone. -/
namespace PySem
namespace TXK
open HandSPX
section
variable {prog : Program} {w : World} {A : Around} {R : Result → Shared → Prop} {hp : Heap} {gs : Array GenState} {dr : Drawn} {tk : Nat} {os : OsState} {ws : List (Str × Value)}
variable {nm q : Str} {C N : Addr} {bs up : List Value} {b1 : Bool} {sn : List Str} {sub : List Value} {b2 : Bool} {col : Option Bool} {dd : Option Addr} {k0 k1 k2 k3 k5 : Option Value}
/-- the look at __new__'s arguments -/
theorem look_new {M : Model} {E : Value → Shared → Prop} {Q : Unit → Shared → Prop} (above : ∀ X : String, up.contains (.type X) = veTail.contains (.type X))
    (hC : hp.get? C = some (excClassObj nm q C N bs up b1 sn sub b2 col dd k0 k1 k2 k3 k5 "ValueError.__new__")) (go : Q () ⟨hp, gs, dr, tk, os⟩) :
    wpAny M A (checkBuiltinCall "ValueError.__new__" ⟨[.ref C], ws⟩) Q E ⟨hp, gs, dr, tk, os⟩ := by
  rw [look_kw]
  exact check_new_own F.excBase_ValueError above hC go
/-- the body of type.__call__ -/
theorem type_body {Q : Fin → Shared → Prop} {E : Value → Shared → Prop} {g : Addr} (above : ∀ X : String, up.contains (.type X) = veTail.contains (.type X))
    (hC : hp.get? C = some (excClassObj nm q C N bs up b1 sn sub b2 col dd k0 k1 k2 k3 k5 "ValueError.__new__"))
    (li : W.Looks (model prog w) hp (typeLookup (.ref C) "__init__") (some (.ref g))) (lb : ∀ z, W.Looks (model prog w) hp (bindSpecial (.ref g) z) (.ref g, [z]))
    (go : codeAny (model prog w) A (.call (.ref g) ⟨[.ref (hp.objs.size + 1)], ws⟩)
      (fun r t => match r with | .ok (.ret v) => v = .none ∧ Q (.done (.ret (.ref (hp.objs.size + 1)))) t | .ok _ => False | .error e => E e t)
      ⟨(hp.push (W.kdv_tup [])).push (excO C hp.objs.size), gs, dr, tk, os⟩) :
    wpAny (model prog w) A (Builtin.«type.__call__» ⟨[.ref C], ws⟩) Q E ⟨hp, gs, dr, tk, os⟩ := by
  unfold Builtin.«type.__call__»; repeat (first | refine wpAny_loadPart_at hC ?_ | refine wpAny_madeBy_exc hC ?_ | refine wpAny_mroOf_exc hC ?_ | wp_step)
  have old : ∀ b o, hp.get? b = some o → ((hp.push (W.kdv_tup [])).push (excO C hp.objs.size)).get? b = some o := fun b o e => Heap.get?_push_of_some _ (Heap.get?_push_of_some _ e)
  have hC2 := old C _ hC
  have hx : ((hp.push (W.kdv_tup [])).push (excO C hp.objs.size)).get? (hp.objs.size + 1) = some (excO C hp.objs.size) := by
    rw [show hp.objs.size + 1 = (hp.push (W.kdv_tup [])).objs.size from (Heap.size_push ..).symm]
    exact Heap.get?_push_size (hp.push (W.kdv_tup [])) rfl
  have isC : (Value.ref C :: up).contains (.ref C) = true := by simp
  refine codeAny_call_builtin_code (Code.quiet_builtin _ (F.excBase_ValueError).quiet) (look_new above hC (fresh_exc above hC ?_))
  dsimp only
  unfold isInstance
  repeat (first | refine wpAny_loadPart_at hx ?_ | (refine wpAny_isSubtype_exc hC2 ?_; rw [isC]) | wp_step)
  have find := li.keeps old
  have tie := (lb (.ref (hp.objs.size + 1))).keeps old
  show wpAny _ _ (typeLookup (.ref C) "__init__") _ _ _
  refine find.at (wpAny_holding (wpAny_bind (tie.at ?_)))
  refine wpAny_bind (wpAny_call (codeAny_mono go fun r t z => ?_))
  match r, z with
  | .error _, z => exact z
  | .ok (.ret v), z =>
    obtain ⟨e, z⟩ := z
    subst e
    wp_walk
    exact z
/-- the look at type.__call__'s arguments: of the slot kind, whatever the keywords -/
theorem look_type {M : Model} {E : Value → Shared → Prop} {Q : Unit → Shared → Prop} (hC : hp.get? C = some (excClassObj nm q C N bs up b1 sn sub b2 col dd k0 k1 k2 k3 k5 "ValueError.__new__")) (go : Q () ⟨hp, gs, dr, tk, os⟩) :
    wpAny M A (checkBuiltinCall "type.__call__" ⟨[.ref C], ws⟩) Q E ⟨hp, gs, dr, tk, os⟩ := by
  have same : checkBuiltinCall "type.__call__" ⟨[.ref C], ws⟩ = checkBuiltinCall "type.__call__" ⟨[.ref C], []⟩ := by
    have row : (match Manifest.signature? "type.__call__" with | none => false | some r => r.machinery == .hand) = true := by decide +kernel
    cases e : Manifest.signature? "type.__call__" with
    | none => rw [e] at row; cases row
    | some r =>
      rw [e] at row
      have key : ∀ m : Manifest.Machinery, (m == .hand) = true → m = .hand := by
        intro m h
        cases m <;> first | rfl | exact absurd h (by decide)
      have hm : r.machinery = .hand := key _ row
      have free : Bind.checkArgs "type.__call__" r ⟨[.ref C], ws⟩ = Bind.checkArgs "type.__call__" r ⟨[.ref C], []⟩ := by
        simp only [Bind.checkArgs, Bind.check, hm]
      simp only [checkBuiltinCall, e, free, tc_kind, tc_split]
  rw [same]
  exact wpAny_check_type_call_sub hC go
/-- C(k = v, ..) -/
theorem class_call {g : Addr} (above : ∀ X : String, up.contains (.type X) = veTail.contains (.type X))
    (hC : hp.get? C = some (excClassObj nm q C N bs up b1 sn sub b2 col dd k0 k1 k2 k3 k5 "ValueError.__new__"))
    (li : W.Looks (model prog w) hp (typeLookup (.ref C) "__init__") (some (.ref g))) (lb : ∀ z, W.Looks (model prog w) hp (bindSpecial (.ref g) z) (.ref g, [z]))
    (go : codeAny (model prog w) (A.under (.builtin "type.__call__" ⟨[.ref C], ws⟩)) (.call (.ref g) ⟨[.ref (hp.objs.size + 1)], ws⟩) (W.InitBack (hp.objs.size + 1) R)
      ⟨(hp.push (W.kdv_tup [])).push (excO C hp.objs.size), gs, dr, tk, os⟩) :
    codeAny (model prog w) A (.call (.ref C) ⟨[], ws⟩) R ⟨hp, gs, dr, tk, os⟩ := by
  refine codeAny_of_tree (show wpAny _ _ (callAny (.ref C) ⟨[], ws⟩) _ _ _ from ?_)
  have f1 := tc_lookup
  have f2 := tc_bind (.ref C)
  repeat (any_goals (first | assumption | refine wpAny_loadPart_at hC ?_ | wp_step))
  refine ⟨rfl, ?_⟩
  refine codeAny_call_builtin_at (Code.quiet_builtin _ (by decide +kernel)) entry_typeCall (look_type hC (type_body above hC li lb ?_))
  refine codeAny_mono go fun r t z => ?_
  cases r with
  | error e => exact z
  | ok fl => cases fl <;> exact z
end
end TXK
end PySem
/-! #### text TXs -/
set_option Elab.async false
set_option linter.all false
set_option maxRecDepth 100000
set_option maxHeartbeats 900000
/-! TXs: ValueError's own __init__, bound to an exception that is being made. -/
namespace PySem
namespace TXK
open HandSPX
theorem init_bound {prog : Program} {w : World} {A : Around} {E : Value → Shared → Prop} {hp : Heap} {gs : Array GenState} {dr : Drawn} {tk : Nat} {os : OsState} {nm q : Str} {C N : Addr} {bs up : List Value} {b1 : Bool} {sn : List Str} {sub : List Value} {b2 : Bool} {col : Option Bool} {dd : Option Addr} {k0 k1 k2 k3 k5 : Option Value}
    {u e t0 : Addr} {vs : List Value} {Q : Value → Shared → Prop} (hC : hp.get? C = some (excClassObj nm q C N bs up b1 sn sub b2 col dd k0 k1 k2 k3 k5 "ValueError.__new__")) (he : hp.get? e = some (excO C t0))
    (hu : hp.get? u = some (W.kxs_mw "ValueError.__init__" e)) (few : vs.length ≤ sizeLine)
    (go : ∀ h2 t2, (∀ b o, b ≠ e → hp.get? b = some o → h2.get? b = some o) → h2.get? e = some (excO C t2) → Q .none ⟨h2, gs, dr, tk, os⟩) : wpAny (model prog w) A (call (.ref u) vs) Q E ⟨hp, gs, dr, tk, os⟩ := by
  refine wpAny_call (codeAny_of_tree (show wpAny _ _ (callAny (.ref u) ⟨vs, []⟩) _ _ _ from ?_))
  unfold callAny
  repeat (first | refine ESX.check_bound F.excBase_ValueError hC he rfl ?_ | wp_step)
  have V := F.excBase_ValueError
  refine And.intro (Code.quiet_builtin _ (by decide +kernel)) (codeAny_builtin V.initEntry ?_)
  show wpAny _ _ (Builtin.«BaseException.__init__» ⟨.ref e :: vs, []⟩) _ _ _
  unfold Builtin.«BaseException.__init__»
  wp_walk
  have there := Heap.get?_push_of_some { cls := .type "tuple", data := .seq vs.toArray } he
  refine go _ hp.objs.size (fun b o apart was => (Heap.get?_update_other _ _ (Ne.symm apart)).trans (Heap.get?_push_of_some _ was)) ((Heap.get?_update_self _ there rfl).trans rfl)
end TXK
end PySem
/-! #### text TXb -/
set_option Elab.async false
set_option linter.all false
set_option maxRecDepth 100000
set_option maxHeartbeats 2000000
/-! TXb: the walk of an own exception's init: super().init(text), then its fields. -/
namespace PySem
namespace TXP
open HandSPX PySem.W PySem.Calls PyProof.Rows
def sEnv (qual : Str) (scope : Scope) (L a : Addr) (cd : Value) (cc : Addr) : Env := envX qual scope L a cd [("__class__", cc)]
/-- what the written part says of the class at C and its init at fI -/
structure InT (K : Frag) (prog : Program) (C fI : Addr) (qual : Str) (params : Arguments) (body : List Stmt) (scope : Scope) : Prop where
  cls : ∃ nm q N bs bm sn sub ab col dd k0 k1 k2 k3 k5, K.lookup C = some (excClassObj nm q C N bs bm true sn sub ab col dd k0 k1 k2 k3 k5 "ValueError.__new__") ∧ refsVE bm = true
  sa : findIn K (.ref C) "__setattr__" = some (some (.builtin "object.__setattr__"))
  iC : findIn K (.ref C) "__init__" = some (some (.ref fI))
  tC : typeIn K (.ref fI) = some (.type "function")
  fn : ∃ oc od doc pm an ct osl cda cc ccl cdd vs ccs file tf cl cld csl, K.lookup fI = some ⟨oc, od, .func (fnX "__init__" qual params body scope [("__class__", cc)] .none .none doc pm an (.ref cda) ct), osl⟩ ∧ codeIn K (.ref cda) qual = true ∧
    K.lookup cda = some ⟨ccl, cdd, .fields vs, ccs⟩ ∧ vs[2]? = some (.str file tf) ∧ ((prog.main.file : Str) == file) = true ∧ K.lookup cc = some ⟨cl, cld, .cell (some (.ref C)), csl⟩
  mro : mroIn K C (.ref C) = some true
  top : (prog.main.scope.names.lookup ("super" : Str)).isSome = false
  sup : ks_superIn K C C "__init__" = some (some (.builtin "ValueError.__init__"))
  op : nsIn K cStatics "thirdparty.any" = some none
  isV : subIn K (.ref C) (.type "ValueError") = some true
/-- the init's scope -/
structure ScT (scope : Scope) : Prop where
  kind : scope.kind = .function
  co : scope.isCoroutine = false
  gen : scope.isGenerator = false
  nocell : ∀ x ∈ scope.names, x.2 ≠ .cell
  sup : scope.names.lookup ("super" : Str) = some .globalImplicit
  cls : scope.names.lookup ("__class__" : Str) = some .free
  self : scope.names.lookup ("self" : Str) = some .local
section
variable {prog : Program} {w : World} {A : Around} {E : Value → Shared → Prop} {K : Frag} {C fI : Addr} {qual : Str} {params : Arguments} {body : List Stmt} {scope : Scope} {s : Shared} {mg mb : Str → Option Value} {L x t0 : Addr} {m : Str → Option Value}
/-- super().init(text) -/
theorem super_line {body' : List Stmt} {cc cda : Addr} {text : Str} {j} {p0 p1 p2 p3 p4 p5 : Pos} {ar : Arg} {oc : Value} {od : Option Addr} {fd : FuncData} {osl : Array (Option Value)} {ccl : Value} {cdd : Option Addr} {vs : Array Value} {ccs : Array (Option Value)} {file : Str} {tf : Tok} {cl : Value} {cld : Option Addr} {csl : Array (Option Value)}
    {Q : Flow → Shared → Prop} (T : InT K prog C fI qual params body scope) (S : ScT scope) (X : K.In s.heap) (hf : K.lookup fI = some ⟨oc, od, .func fd, osl⟩) (hp : (fd.params.posonlyargs ++ fd.params.args).head? = some ar) (har : ar.arg = ("self" : Str))
    (hcode : K.lookup cda = some ⟨ccl, cdd, .fields vs, ccs⟩) (hvs : vs[2]? = some (.str file tf)) (hfile : ((prog.main.file : Str) == file) = true) (hcell : K.lookup cc = some ⟨cl, cld, .cell (some (.ref C)), csl⟩)
    (G : s.heap.Ns mainGlobals mg) (hm : mg "super" = none) (B : s.heap.Ns builtinsNs mb) (hb : mb "super" = some (.type "super")) (hx : s.heap.get? x = some (excO C t0)) (hns : s.heap.Ns L m) (hv : m "self" = some (.ref x))
    {pl : Sem Bool} (he : eval (.Call (.Attribute (.Call (.Name "super" p0) [] [] p1) "__init__" p2) [.Constant (.str text) j p3] [] p4) (sEnv qual scope L fI (.ref cda) cc) = (do
      let ov ← attributeBase (.Call (.Name "super" p0) [] [] p1) "__init__" (sEnv qual scope L fI (.ref cda) cc) (eval (.Call (.Name "super" p0) [] [] p1) (sEnv qual scope L fI (.ref cda) cc))
      standAt p2.atName
      let (f, first) ← holding [ov] (getMethod ov "__init__" pl)
      callWith p4 f first (backTo p4 (starEach [.Constant (.str text) j p3] (sEnv qual scope L fI (.ref cda) cc))) []))
    (hs : swapsWith (.Call (.Attribute (.Call (.Name "super" p0) [] [] p1) "__init__" p2) [.Constant (.str text) j p3] [] p4) none p5.line (sEnv qual scope L fI (.ref cda) cc) = pure false)
    (hq : ∀ h' tk t1, (∀ b o, b ≠ x → s.heap.get? b = some o → h'.get? b = some o) → h'.get? x = some (excO C t1) → Q .next { s with heap := h', toks := tk }) :
    wpAt (model prog w) A (.func body' (sEnv qual scope L fI (.ref cda) cc)) (exec (.Expr (.Call (.Attribute (.Call (.Name "super" p0) [] [] p1) "__init__" p2) [.Constant (.str text) j p3] [] p4) p5) (sEnv qual scope L fI (.ref cda) cc)) Q E s := by
  obtain ⟨nm, qn, N, bs, bm, sn, sub, ab, col, dd, k0, k1, k2, k3, k5, hC, hbm⟩ := T.cls
  have hcl : clsIn K C = some { name := nm, bases := bs, mro := .ref C :: bm, ns := N, qualname := qn, hasDict := true, slotNames := sn, subclasses := sub, abstract := ab, collection := col, hasDel := false } := by unfold clsIn; rw [hC] <;> rfl
  have I : InstAt s.heap x (excO C t0) C none := ⟨hx, rfl, rfl, trivial⟩
  have hsf : alongIn K "__init__" (((Value.ref C :: bm).dropWhile (· != .ref C)).drop 1) = some (some (.builtin "ValueError.__init__")) := by
    have z := T.sup
    unfold ks_superIn at z
    rw [hcl] at z
    exact z
  have hi : interactive (sEnv qual scope L fI (.ref cda) cc) = false := by
    unfold interactive
    show (scope.kind == ScopeKind.module && _) = false
    rw [S.kind]
    rfl
  refine ks_wpAt_Expr_any (ks_wpAt_MethodCall ?_ he) hi hs
  have hka : scope.names.lookup ar.arg = some .local := by rw [har]; exact S.self
  refine ks_wpAt_super_base (env := sEnv qual scope L fI (.ref cda) cc) S.sup S.cls (by decide) rfl (X _ _ hf) rfl hp rfl (X _ _ hcode) rfl hvs hfile T.top ?_
  refine ks_loadName_global S.kind S.sup (loadGlobal_builtin (env := sEnv qual scope L fI (.ref cda) cc) G hm B hb ⟨rfl, ?_⟩)
  refine wpAny_loadName_free S.kind S.cls rfl ⟨_, X _ _ hcell, rfl⟩ ?_
  refine wpAny_loadName_local S.kind hka hns (by rw [har]; exact hv) ?_
  obtain ⟨hh, g, d, t, os⟩ := s
  have hC1 := X _ _ hC
  refine ks_wpAny_isType_cls hC1 rfl ⟨rfl, ?_⟩
  refine ks_wpAny_call_super hC1 rfl hx rfl (fun c e => by cases e) (looks_mroIn X T.mro) (fun h1 e k => ?_)
  have X1 := X.keeps k
  refine kxs_getMethod kxs_ValueError (so := hh.objs.size) e (looks_opaque X1 T.op) (l₀ := .ref C :: bm) (fun A Q E s k q => wpAny_bind ((looks_clsIn X1 hcl) A _ E s k (wpAny_pure q))) rfl X1 hsf
    ((I.type.keeps k).andThen (looks_subIn X1 T.isV)) (ks_ne X I hcl) (by decide) ?_
  have k2 : ∀ b o, h1.get? b = some o → (h1.push (kxs_mw "ValueError.__init__" x)).get? b = some o := fun b o e => Heap.get?_push_of_some _ e
  have hu : (h1.push (kxs_mw "ValueError.__init__" x)).get? h1.objs.size = some (kxs_mw "ValueError.__init__" x) := Heap.get?_push_at rfl rfl
  have hx2 := k2 _ _ (k _ _ hx)
  have hC2 := k2 _ _ (k _ _ hC1)
  refine kxs_callWith (i := "ValueError.__init__") (x := x) rfl (evalArgs_plain ?_)
  show wpAny _ _ (spliced [(false, eval (.Constant (.str text) j p3) _)]) _ _ _
  refine Calls.spliced_cons (Calls.Constant_str ?_)
  refine Calls.spliced_nil ?_
  refine ⟨hu, ?_⟩
  refine PySem.TXK.init_bound hC2 hx2 hu (by show 1 ≤ sizeLine; decide) fun h3 t1 k3 hx3 => ?_
  exact hq h3 _ t1 (fun b o hb e => k3 b o hb (k2 _ _ (k _ _ e))) hx3
def fst (f : Str) (p : Pos × Pos × Pos × Pos) : Stmt := .Assign [.Attribute (.Name "self" p.1) f p.2.1] (.Name f p.2.2.1) p.2.2.2
theorem kept_but {h h' : Heap} {y : Addr} (X : K.In h) (hy : K.lookup y = none) (k : ∀ b o, b ≠ y → h.get? b = some o → h'.get? b = some o) : K.In h' := fun a o e =>
  k a o (fun z => by rw [z, hy] at e; cases e) (X a o e)
theorem ld_own {cda cc : Addr} {y : Str} {pos : Pos} {v : Value} {Q : Value → Shared → Prop} (S : ScT scope) (hl : scope.names.lookup y = some .local) (hn : s.heap.Ns L m) (hv : m y = some v) (hd : (y == ("__debug__" : Str)) = false) (h : Q v s) :
    wpAny (model prog w) A (eval (.Name y pos) (sEnv qual scope L fI (.ref cda) cc)) Q E s := wpAny_Name (wpAny_loadName_local S.kind hl hn hv h) hd
abbrev excD (C t dx : Addr) : Obj := { cls := .ref C, dict := some dx, data := .fields #[.ref t, .none, .none, .none, .bool false, .none] }
/-- a field to be stored: its name, its text, its value -/
structure FldT (K : Frag) (C : Addr) (scope : Scope) (env : Env) (m : Str → Option Value) (q : Str × (Pos × Pos × Pos × Pos) × L2.V) : Prop where
  loc : scope.names.lookup q.1 = some .local
  no : findIn K (.ref C) q.1 = some none
  val : ∃ u, m q.1 = some u ∧ L2.RelV q.2.2 u
  db : (q.1 == ("__debug__" : Str)) = false
  sw : swapsWith (.Name q.1 q.2.1.2.2.1) (some (.Attribute (.Name "self" q.2.1.1) q.1 q.2.1.2.1)) q.2.1.2.2.2.line env = pure false
theorem flds_old {cda cc dx t1 : Addr} (T : InT K prog C fI qual params body scope) (S : ScT scope) (hv : m "self" = some (.ref x)) (hL : L ≠ x) (hLd : L ≠ dx) (hxd : x ≠ dx) (hKd : K.lookup dx = none) :
    ∀ (l : List (Str × (Pos × Pos × Pos × Pos) × L2.V)) (s : Shared) (fs0 : List (Str × L2.V)) (Q : Flow → Shared → Prop), (∀ q ∈ l, FldT K C scope (sEnv qual scope L fI (.ref cda) cc) m q) → K.In s.heap → s.heap.get? x = some (excD C t1 dx) →
      (∃ mA, s.heap.Ns1 dx mA ∧ ∀ f, L2.RelO (fs0.lookup f) (mA f)) → fs0.length + l.length ≤ 900 → s.heap.Ns L m →
      (∀ h' tk, (∀ b o, b ≠ dx → s.heap.get? b = some o → h'.get? b = some o) → (∃ mA, h'.Ns1 dx mA ∧ ∀ f, L2.RelO ((l.reverse.map (fun q => (q.1, q.2.2)) ++ fs0).lookup f) (mA f)) → Q .next { s with heap := h', toks := tk }) →
      wpAny (model prog w) A (execs (l.map fun q => fst q.1 q.2.1) (sEnv qual scope L fI (.ref cda) cc)) Q E s
  | [], s, fs0, Q, _, X, hx, hd, hz, hn, hq => wpAny_execs_nil (hq s.heap s.toks (fun _ _ _ e => e) hd)
  | q :: l, s, fs0, Q, hF, X, hx, hd, hz, hn, hq => by
    obtain ⟨u, hu, ru⟩ := (hF q List.mem_cons_self).val
    have F := hF q List.mem_cons_self
    obtain ⟨nm, qn, N, bs, bm, sn, sub, ab, col, dd, k0, k1, k2, k3, k5, hC, hbm⟩ := T.cls
    have hcl : clsIn K C = some { name := nm, bases := bs, mro := .ref C :: bm, ns := N, qualname := qn, hasDict := true, slotNames := sn, subclasses := sub, abstract := ab, collection := col, hasDel := false } := by unfold clsIn; rw [hC] <;> rfl
    obtain ⟨mA, hns, rel⟩ := hd
    have hw := L2.within_of rel
    refine wpAny_execs_cons (plainObj_wpAny_Assign_Attribute (ld_own S F.loc hn hu F.db (ld_own S S.self hn hv (by decide) ?_)) F.sw)
    obtain ⟨hp, g, d, t, os⟩ := s
    obtain ⟨oD, _, _, hoD, _, _⟩ := hns.count hw
    refine set_plain X (ox := excD C t1 dx) (od := some oD) ⟨hx, rfl, rfl, hoD⟩ T.sa ?_
    refine OEX.osa_old X hx hns hw (by simp only [List.length_map, List.length_cons] at hz ⊢; omega) hcl (show refsVE (.ref C :: bm) = true from hbm) rfl F.no (fun h' tk' k hn' => ?_)
    have hn2 : h'.Ns L m := by
      obtain ⟨o, es, ep, e1, r⟩ := hn
      exact ⟨o, es, ep, k _ _ hLd e1, r⟩
    refine flds_old T S hv hL hLd hxd hKd l ⟨h', g, d, tk', os⟩ ((q.1, q.2.2) :: fs0) Q (fun p hp => hF p (List.mem_cons_of_mem _ hp)) (kept_but X hKd k) (k _ _ hxd hx) ⟨_, hn', L2.relO_put ru rel⟩ (by simp only [List.length_cons] at hz ⊢; omega) hn2 fun h2 tk2 k2 hd2 => ?_
    refine hq h2 tk2 (fun b o hb e => k2 b o hb (k b o hb e)) ?_
    rw [List.reverse_cons, List.map_append, List.append_assoc]
    exact hd2
/-- the init, called -/
theorem init_run {q0 : Str × (Pos × Pos × Pos × Pos) × L2.V} {l : List (Str × (Pos × Pos × Pos × Pos) × L2.V)} {text : Str} {j : Nat} {p0 p1 p2 p3 p4 p5 : Pos} {ar : Arg} {kw : List (Str × Value)} {binds : List (Str × Value)}
    (T : InT K prog C fI qual params (.Expr (.Call (.Attribute (.Call (.Name "super" p0) [] [] p1) "__init__" p2) [.Constant (.str text) j p3] [] p4) p5 :: fst q0.1 q0.2.1 :: l.map fun q => fst q.1 q.2.1) scope) (S : ScT scope) (X : K.In s.heap) (hlim : s.heap.NoLimit)
    (hp : (params.posonlyargs ++ params.args).head? = some ar) (har : ar.arg = ("self" : Str)) (hxs : s.heap.get? x = some (excO C t0)) (hKx : K.lookup x = none) (hroom : A.depth < recursionLimit)
    (G : s.heap.Ns mainGlobals mg) (hm : mg "super" = none) (B : s.heap.Ns builtinsNs mb) (hb : mb "super" = some (.type "super"))
    (hbind : ∀ (cc cda : Addr) (doc pm : Value) (an : Option Addr) (ct : Value), BindsTo s (fnX "__init__" qual params (.Expr (.Call (.Attribute (.Call (.Name "super" p0) [] [] p1) "__init__" p2) [.Constant (.str text) j p3] [] p4) p5 :: fst q0.1 q0.2.1 :: l.map fun q => fst q.1 q.2.1) scope [("__class__", cc)] .none .none doc pm an (.ref cda) ct) ⟨[.ref x], kw⟩ binds)
    (hloc : ∀ y ∈ binds, scope.names.lookup y.1 = some .local) (hself : binds.reverse.lookup ("self" : Str) = some (.ref x))
    (hF : ∀ (L cda cc : Addr), ∀ q ∈ q0 :: l, FldT K C scope (sEnv qual scope L fI (.ref cda) cc) (fun y => binds.reverse.lookup y) q) (hz : l.length ≤ 800)
    (he : ∀ (L cda cc : Addr), ∃ pl : Sem Bool, eval (.Call (.Attribute (.Call (.Name "super" p0) [] [] p1) "__init__" p2) [.Constant (.str text) j p3] [] p4) (sEnv qual scope L fI (.ref cda) cc) = (do
      let ov ← attributeBase (.Call (.Name "super" p0) [] [] p1) "__init__" (sEnv qual scope L fI (.ref cda) cc) (eval (.Call (.Name "super" p0) [] [] p1) (sEnv qual scope L fI (.ref cda) cc))
      standAt p2.atName
      let (f, first) ← holding [ov] (getMethod ov "__init__" pl)
      callWith p4 f first (backTo p4 (starEach [.Constant (.str text) j p3] (sEnv qual scope L fI (.ref cda) cc))) []))
    (hs : ∀ (L cda cc : Addr), swapsWith (.Call (.Attribute (.Call (.Name "super" p0) [] [] p1) "__init__" p2) [.Constant (.str text) j p3] [] p4) none p5.line (sEnv qual scope L fI (.ref cda) cc) = pure false)
    (hq : ∀ h' tk dx t1, (∀ b o, b ≠ x → s.heap.get? b = some o → h'.get? b = some o) → s.heap.objs.size ≤ dx → dx ≠ x → h'.get? x = some (excD C t1 dx) →
      (∃ mA, h'.Ns1 dx mA ∧ ∀ f, L2.RelO ((l.reverse.map (fun q => (q.1, q.2.2)) ++ [(q0.1, q0.2.2)]).lookup f) (mA f)) → R (.ok (.ret .none)) { s with heap := h', toks := tk }) :
    codeAny (model prog w) A (.call (.ref fI) ⟨[.ref x], kw⟩) R s := by
  obtain ⟨oc, od, doc, pm, an, ct, osl, cda, cc, ccl, cdd, vs, ccs, file, tf, cl, cld, csl, ho, hcd, hcode, hvs, hfile, hcell⟩ := T.fn
  obtain ⟨nm, qn, N, bs, bm, sn, sub, ab, col, dd, k0, k1, k2, k3, k5, hC, hbm⟩ := T.cls
  have hcl : clsIn K C = some { name := nm, bases := bs, mro := .ref C :: bm, ns := N, qualname := qn, hasDict := true, slotNames := sn, subclasses := sub, abstract := ab, collection := col, hasDel := false } := by unfold clsIn; rw [hC] <;> rfl
  refine ks_codeAny_call_defAt hroom (X _ _ ho) rfl hlim (codeRec_of X hcd) rfl (hbind cc cda doc pm an ct) S.nocell hloc (fun h₁ hns hk => ?_) S.co S.gen S.kind
  have hL : s.heap.objs.size ≠ x := Nat.ne_of_gt (Heap.lt_size hxs)
  obtain ⟨pl, he'⟩ := he s.heap.objs.size cda cc
  have Gk : ∀ {a : Addr} {mm : Str → Option Value}, s.heap.Ns a mm → h₁.Ns a mm := fun ⟨o, es, ep, e1, r⟩ => ⟨o, es, ep, hk _ _ e1, r⟩
  refine ks_wpAt_execs_cons (super_line (s := { s with heap := h₁, toks := s.toks + binds.length }) T S (X.keeps hk) ho hp har hcode hvs hfile hcell (Gk G) hm (Gk B) hb (hk _ _ hxs) hns hself he' (hs _ _ _) ?_)
  · intro h2 tk2 t1 k2' hx2
    refine PySem.wpAt_of_wpAny ?_
    have X2 : K.In h2 := kept_but (X.keeps hk) hKx k2'
    have hn2 : h2.Ns s.heap.objs.size (fun y => binds.reverse.lookup y) := by
      obtain ⟨o, es, ep, e1, r⟩ := hns
      exact ⟨o, es, ep, k2' _ _ hL e1, r⟩
    have F := hF s.heap.objs.size cda cc q0 List.mem_cons_self
    obtain ⟨u, hu, ru⟩ := F.val
    refine wpAny_execs_cons (plainObj_wpAny_Assign_Attribute (ld_own S F.loc hn2 hu F.db (ld_own S S.self hn2 hself (by decide) ?_)) F.sw)
    have hsz : s.heap.objs.size < h2.objs.size := hn2.lt
    refine set_plain X2 (ox := excO C t1) (od := none) ⟨hx2, rfl, rfl, trivial⟩ T.sa ?_
    refine exc_osa X2 hx2 hcl (show refsVE (.ref C :: bm) = true from hbm) rfl F.no (fun h3 tk3 dx k3 dn dne hx3 hn3 => ?_)
    have hLd : s.heap.objs.size ≠ dx := Nat.ne_of_lt (Nat.lt_of_lt_of_le hsz dn)
    have hKd : K.lookup dx = none := by
      cases e : K.lookup dx with
      | none => rfl
      | some o => exact absurd (Heap.lt_size (X2 _ _ e)) (Nat.not_lt.mpr dn)
    have X3 : K.In h3 := kept_but X2 hKx k3
    have hn4 : h3.Ns s.heap.objs.size (fun y => binds.reverse.lookup y) := by
      obtain ⟨o, es, ep, e1, r⟩ := hn2
      exact ⟨o, es, ep, k3 _ _ hL e1, r⟩
    have r0 : ∀ f, L2.RelO ([(q0.1, q0.2.2)].lookup f) ((fun y => if y = q0.1 then some u else none) f) := L2.relO_put (fs := []) ru fun g => True.intro
    refine flds_old T S hself hL hLd (Ne.symm dne) hKd l { s with heap := h3, toks := tk3 } [(q0.1, q0.2.2)] _ (fun q hq => hF _ _ _ q (List.mem_cons_of_mem _ hq)) X3 hx3 ⟨_, hn3, r0⟩ (by simp only [List.length_cons, List.length_nil]; omega) hn4 fun h4 tk4 k4 hd4 => ?_
    have nd : ∀ {b : Addr} {o : Obj}, s.heap.get? b = some o → b ≠ dx := fun {b o} e => Nat.ne_of_lt (Nat.lt_of_lt_of_le (Nat.lt_trans (Heap.lt_size e) hsz) dn)
    exact hq h4 tk4 dx t1 (fun b o hb e => k4 b o (nd e) (k3 b o hb (k2' b o hb (hk b o e)))) (Nat.le_of_lt (Nat.lt_of_lt_of_le hsz dn)) dne (k4 _ _ (Ne.symm dne) hx3) hd4
end
end TXP
end PySem
/-! #### text TXc -/
set_option Elab.async false
set_option linter.all false
set_option maxRecDepth 100000
set_option maxHeartbeats 2000000
/-! TXc: raising the program's own exceptions. -/
namespace TF
open PySem L2 PySem.Spec PyProof.Rows PySem.TXP
/-- a class of exceptions without an own init -/
structure OxB (K : PySem.W.Frag) (C : Addr) : Prop where
  cls : ∃ nm q N bs bm sn sub ab col dd k0 k1 k2 k3 k5, K.lookup C = some (excClassObj nm q C N bs bm true sn sub ab col dd k0 k1 k2 k3 k5 "ValueError.__new__") ∧ HandSPX.refsVE bm = true
  iB : PySem.W.findIn K (.ref C) "__init__" = some (some (.builtin "ValueError.__init__"))
  exC : PySem.W.subIn K (.ref C) (.type "BaseException") = some true
  tyC : PySem.W.typeIn K (.ref C) = some (.type "type")
  kC : PySem.W.keepIn K (.ref C) = true
section
variable {X : Cx} {C fI : Addr} {e : Expr} {es : List Expr} {t : TA} {xn : Str} {p pos : Pos}
/-- such a class, called with values: an exception not raised yet -/
theorem txt_made {pins : List (Addr × Obj)} {σ : L2.St} {H : Hp} {S : Shared} {Q : XK} {us : List Value} (T : OxB X.K C) (J : Inv X pins σ H S) (few : us.length ≤ sizeLine) (go : Q (.ref C) none H) :
    wpAny (model X.prog X.w) X.A (call (.ref C) us) (MkP X pins σ Q) X.xe S := by
  obtain ⟨_, _, _, _, up, _, _, _, _, _, _, _, _, _, _, inK, over⟩ := T.cls
  cases S with
  | mk h0 gs0 dr0 tk0 os0 =>
    have gone : ∀ n, h0.get? (h0.objs.size + n) = none := fun n => Heap.get?_none_of_le (by omega)
    exact PySem.W.call_B F.excBase_ValueError (fun Y => HandSPX.refsVE_contains Y up over) (J.kIn _ _ inK) (PySem.W.looks_findIn J.kIn T.iB) few fun h2 kept e1 e2 =>
      mk_of J ⟨kept, gone 1, _, e1, gone 2, e2⟩ (raises_own T.exC T.tyC) go (J.hok.fresh (by show h0.objs.size ≤ _; omega))
/-- raise C("..") -/
theorem pmk_txt (T : OxB X.K C) (hg : Gl X xn) (hm : X.mg xn = some (.ref C)) (ha : PA X (e :: es) t) (hdb : (xn == ("__debug__" : Str)) = false)
    (star : starEach (e :: es) X.env = (false, eval e X.env) :: starEach es X.env := by rfl) (flat : (backTo pos (starEach es X.env)).any (·.1) = false := by rfl) :
    PMk X (.Call (.Name xn p) (e :: es) [] pos) (fun σ H Q => t σ H fun vs H1 => vs.length ≤ 1000 ∧ Q (.ref C) none H1) := fun pins S σ H Q J go =>
  wpAny_Call_Name_kw (ld_glob J hg hm (PySem.W.callWith_K J.ok.mod.kin T.kC (thn (ha.run pos pins S σ H _ J go) fun us S1 ⟨vs, H1, J1, rel, le, go1⟩ =>
    ⟨J1.kIn, by
      have few : us.length ≤ sizeLine := by have := Paired.length rel; rw [sizeLine_eq]; omega
      exact txt_made T J1 few go1⟩) star flat) hdb)
/-- an own exception whose init takes keywords, by name -/
structure OxK (K : PySem.W.Frag) (prog : Program) (c : Str) (qual : Str) (params : Arguments) (body : List Stmt) (scope : Scope) : Prop where
  T : InT K prog (He.ga K c) (He.ma K (He.ga K c) "__init__") qual params body scope
  exC : PySem.W.subIn K (.ref (He.ga K c)) (.type "BaseException") = some true
  tyC : PySem.W.typeIn K (.ref (He.ga K c)) = some (.type "type")
  kC : PySem.W.keepIn K (.ref (He.ga K c)) = true
/-- the text of an init, its reading -/
structure IniT (qual : Str) (params : Arguments) (body : List Stmt) (scope : Scope) (fs : List Str) : Prop where
  S : ScT scope
  ex : ∃ (q0 : Str × (Pos × Pos × Pos × Pos)) (l : List (Str × (Pos × Pos × Pos × Pos))) (text : Str) (j : Nat) (p0 p1 p2 p3 p4 p5 : Pos) (ar : Arg),
    body = (.Expr (.Call (.Attribute (.Call (.Name "super" p0) [] [] p1) "__init__" p2) [.Constant (.str text) j p3] [] p4) p5 :: fst q0.1 q0.2 :: l.map fun q => fst q.1 q.2) ∧ fs = q0.1 :: l.map (·.1) ∧
    (params.posonlyargs ++ params.args).head? = some ar ∧ ar.arg = ("self" : Str) ∧
    (∀ (s : Shared) (x : Addr) (us : List Value) (cc cda : Addr) (doc pm : Value) (an : Option Addr) (ct : Value), us.length = fs.length → BindsTo s (PySem.W.fnX "__init__" qual params body scope [("__class__", cc)] .none .none doc pm an (.ref cda) ct) ⟨[.ref x], fs.zip us⟩ (("self", .ref x) :: fs.zip us)) ∧
    (∀ f ∈ fs, scope.names.lookup f = some .local ∧ (f == ("__debug__" : Str)) = false ∧ f ≠ "self") ∧ fs.Nodup ∧ l.length ≤ 800 ∧
    (∀ (env : PySem.Env) (q : Str × (Pos × Pos × Pos × Pos)), q ∈ q0 :: l → env.scope = scope → swapsWith (.Name q.1 q.2.2.2.1) (some (.Attribute (.Name "self" q.2.1) q.1 q.2.2.1)) q.2.2.2.2.line env = pure false) ∧
    (∀ (L fI cda cc : Addr), ∃ pl : Sem Bool, eval (.Call (.Attribute (.Call (.Name "super" p0) [] [] p1) "__init__" p2) [.Constant (.str text) j p3] [] p4) (sEnv qual scope L fI (.ref cda) cc) = (do
      let ov ← attributeBase (.Call (.Name "super" p0) [] [] p1) "__init__" (sEnv qual scope L fI (.ref cda) cc) (eval (.Call (.Name "super" p0) [] [] p1) (sEnv qual scope L fI (.ref cda) cc))
      standAt p2.atName
      let (f, first) ← holding [ov] (getMethod ov "__init__" pl)
      callWith p4 f first (backTo p4 (starEach [.Constant (.str text) j p3] (sEnv qual scope L fI (.ref cda) cc))) [])) ∧
    ∀ (L fI cda cc : Addr), swapsWith (.Call (.Attribute (.Call (.Name "super" p0) [] [] p1) "__init__" p2) [.Constant (.str text) j p3] [] p4) none p5.line (sEnv qual scope L fI (.ref cda) cc) = pure false
theorem mem_lookup {α : Type} : ∀ {l : List (Str × α)} {q : Str × α}, (l.map (·.1)).Nodup → q ∈ l → l.lookup q.1 = some q.2
  | [], q, _, h => by cases h
  | (a, b) :: l, q, hn, h => by
    rw [List.map_cons, List.nodup_cons] at hn
    rw [List.lookup_cons]
    rcases List.mem_cons.mp h with e | h
    · subst e
      simp
    · have : q.1 ≠ a := fun z => hn.1 (by show a ∈ _; rw [← z]; exact List.mem_map_of_mem (f := fun x : Str × α => x.1) h)
      have e2 : (q.1 == a) = false := by simpa using this
      rw [e2]
      exact mem_lookup hn.2 h
theorem zpair : ∀ {fs : List Str} {zs : List V} {ws : List Value} {a : Str} {v : V}, Vals zs ws → (a, v) ∈ fs.zip zs → ∃ u, (a, u) ∈ fs.zip ws ∧ RelV v u
  | [], _, _, _, _, _, h => by simp at h
  | f :: fs, _, _, a, v, .nil, h => by simp at h
  | f :: fs, _, _, a, v, .cons r rr, h => by
    rw [List.zip_cons_cons] at h ⊢
    rcases List.mem_cons.mp h with e | h
    · cases e
      exact ⟨_, List.mem_cons_self, r⟩
    · obtain ⟨u, h1, h2⟩ := zpair rr h
      exact ⟨u, List.mem_cons_of_mem _ h1, h2⟩
theorem zip_fst {α : Type} : ∀ {fs : List Str} {ws : List α}, ws.length = fs.length → (fs.zip ws).map (·.1) = fs
  | [], [], _ => rfl
  | [], _ :: _, h => by cases h
  | _ :: _, [], h => by cases h
  | f :: fs, w :: ws, h => by rw [List.zip_cons_cons, List.map_cons, zip_fst (by simpa using h)]
theorem zw_map : ∀ (l : List (Str × (Pos × Pos × Pos × Pos))) (zr : List V), zr.length = l.length → ((List.zipWith (fun q z => (q.1, q.2, z)) l zr).map fun q => fst q.1 q.2.1) = l.map fun q => fst q.1 q.2
  | [], [], _ => rfl
  | [], _ :: _, h => by cases h
  | _ :: _, [], h => by cases h
  | q :: l, z :: zr, h => by rw [List.zipWith_cons_cons, List.map_cons, List.map_cons, zw_map l zr (by simpa using h)]
theorem zw_two : ∀ (l : List (Str × (Pos × Pos × Pos × Pos))) (zr : List V), ((List.zipWith (fun q z => (q.1, q.2, z)) l zr).map fun q => (q.1, q.2.2)) = (l.map (·.1)).zip zr
  | [], _ => rfl
  | _ :: _, [] => rfl
  | q :: l, z :: zr => by rw [List.zipWith_cons_cons, List.map_cons, List.map_cons, List.zip_cons_cons, zw_two l zr]
theorem zw_mem : ∀ (l : List (Str × (Pos × Pos × Pos × Pos))) (zr : List V) (q : Str × (Pos × Pos × Pos × Pos) × V), q ∈ List.zipWith (fun q z => (q.1, q.2, z)) l zr → (q.1, q.2.1) ∈ l ∧ (q.1, q.2.2) ∈ (l.map (·.1)).zip zr
  | [], _, q, h => by simp at h
  | _ :: _, [], q, h => by simp at h
  | p :: l, z :: zr, q, h => by
    rw [List.zipWith_cons_cons] at h
    rcases List.mem_cons.mp h with e | h
    · subst e
      exact ⟨List.mem_cons_self, by rw [List.map_cons, List.zip_cons_cons]; exact List.mem_cons_self⟩
    · obtain ⟨h1, h2⟩ := zw_mem l zr q h
      exact ⟨List.mem_cons_of_mem _ h1, by rw [List.map_cons, List.zip_cons_cons]; exact List.mem_cons_of_mem _ h2⟩
theorem pmk_kw {qual : Str} {params : Arguments} {body : List Stmt} {scope : Scope} {fs : List Str} {c : Str} {kws : List Keyword} {tk : TA} {k : Nat} (T : OxK X.K X.prog c qual params body scope) (U : IniT qual params body scope fs) (hno : ∀ f ∈ fs, PySem.W.findIn X.K (.ref (He.ga X.K c)) f = some none) (hr : Room (k + 1) X.A) (hg : Gl X xn) (hm : X.mg xn = some (.ref (He.ga X.K c))) (hsup : X.mg "super" = none)
    (hkw : PK X kws tk) (hdb : (xn == ("__debug__" : Str)) = false) (hall : (backToKw pos (keywordEach kws X.env)).all (·.1.isSome) = true := by rfl) (hks : (backToKw pos (keywordEach kws X.env)).filterMap (·.1) = fs := by rfl)
    (hpl : ((backTo pos (starEach [] X.env)).any (·.1) || (backToKw pos (keywordEach kws X.env)).any (·.1.isNone)) = false := by rfl) :
    PMk X (.Call (.Name xn p) [] kws pos) (fun σ H Q => tk σ H fun zs H1 => zs.length = fs.length ∧ ∀ d, H1 d = none → Q (.ref (He.ga X.K c)) (some d) (upd H1 d (.xd (fs.zip zs).reverse))) := by
  intro pins s σ H Q I h
  obtain ⟨q0, l, text, j, p0, p1, p2, p3, p4, p5, ar, hbody, hfs, hp, har, hbind, hloc, hnd, hz, hsw, he, hs⟩ := U.ex
  subst hbody
  refine wpAny_Call_Name_kw (ld_glob I hg hm ?_ hdb)
  refine PySem.W.callWith_KW0 (h₀ := X.base) I.ok.mod.kin T.kC hall ?_ hpl
  refine thn (hkw.run pos pins s σ H _ I h) fun ws s2 ⟨zs, H2, I2, rz, l1, q2⟩ => ⟨I2.kIn, ?_⟩
  rw [hks]
  obtain ⟨nm, q, N, bs, bm, sn, sub, ab, col, dd, k0, k1, k2, k3, k5, hC, hbm⟩ := T.T.cls
  have hlim := I2.nolimit
  have hws : ws.length = fs.length := rz.length.symm.trans l1
  obtain ⟨hp', g, dr, tk', os⟩ := s2
  have hx : ((hp'.push (PySem.W.kdv_tup [])).push (HandSPX.excO (He.ga X.K c) hp'.objs.size)).get? (hp'.objs.size + 1) = some (HandSPX.excO (He.ga X.K c) hp'.objs.size) := by heap_get
  have kk : ∀ b o, hp'.get? b = some o → ((hp'.push (PySem.W.kdv_tup [])).push (HandSPX.excO (He.ga X.K c) hp'.objs.size)).get? b = some o := fun b o e => Heap.get?_push_of_some _ (Heap.get?_push_of_some _ e)
  have hnx : X.K.lookup (hp'.objs.size + 1) = none := by
    cases e : X.K.lookup (hp'.objs.size + 1) with
    | none => rfl
    | some o =>
      have z : hp'.get? (hp'.objs.size + 1) = some o := I2.kIn _ _ e
      exact absurd (Nat.lt_of_succ_lt (Heap.lt_size z)) (Nat.lt_irrefl _)
  have X1 : X.K.In ((hp'.push (PySem.W.kdv_tup [])).push (HandSPX.excO (He.ga X.K c) hp'.objs.size)) := I2.kIn.keeps kk
  obtain ⟨mb, hb1, hb2⟩ := I2.mod.blt
  have G1 : (⟨hp', g, dr, tk', os⟩ : Shared).heap.Ns mainGlobals X.mg := I2.mod.glob.keeps I2.bk
  have B1 : (⟨hp', g, dr, tk', os⟩ : Shared).heap.Ns builtinsNs mb := hb1.keeps I2.bk
  have hd := hr.dp
  -- the fields with their values
  subst hfs
  match zs, ws, rz, l1 with
  | [], _, _, l1 => simp at l1
  | z0 :: zr, w0 :: wr, .cons r0 rr, l1 =>
    have hzr : zr.length = l.length := by simpa using l1
    have hF1 : ∀ (L cda cc : Addr), ∀ q ∈ (q0.1, q0.2, z0) :: List.zipWith (fun q z => (q.1, q.2, z)) l zr, FldT X.K (He.ga X.K c) scope (sEnv qual scope L (He.ma X.K (He.ga X.K c) "__init__") (.ref cda) cc) (fun y => ((("self", Value.ref (hp'.objs.size + 1)) :: (q0.1 :: l.map (·.1)).zip (w0 :: wr) : List (Str × Value))).reverse.lookup y) q := by
      intro L cda cc q hq
      have hm1 : (q.1, q.2.1) ∈ q0 :: l ∧ (q.1, q.2.2) ∈ (q0.1 :: l.map (·.1)).zip (z0 :: zr) := by
        rcases List.mem_cons.mp hq with e | h
        · subst e
          exact ⟨List.mem_cons_self, by simp⟩
        · obtain ⟨a1, a2⟩ := zw_mem l zr q h
          exact ⟨List.mem_cons_of_mem _ a1, by rw [List.zip_cons_cons]; exact List.mem_cons_of_mem _ a2⟩
      have hfq : q.1 ∈ q0.1 :: l.map (·.1) := by
        rcases List.mem_cons.mp hm1.1 with e | h
        · rw [← e]; exact List.mem_cons_self
        · exact List.mem_cons_of_mem _ (List.mem_map_of_mem (f := (·.1)) h)
      obtain ⟨u, hu, ru⟩ := zpair (.cons r0 rr) hm1.2
      refine ⟨(hloc _ hfq).1, hno _ hfq, ⟨u, ?_, ru⟩, (hloc _ hfq).2.1, hsw _ (q.1, q.2.1) hm1.1 rfl⟩
      have hk : (((q0.1 :: l.map (·.1)).zip (w0 :: wr)).map (·.1)) = q0.1 :: l.map (·.1) := zip_fst (by rw [hws])
      refine mem_lookup (q := (q.1, u)) ?_ ?_
      · rw [List.map_reverse, (List.reverse_perm _).nodup_iff, List.map_cons, hk, List.nodup_cons]
        exact ⟨fun z => (hloc _ z).2.2 rfl, hnd⟩
      · rw [List.mem_reverse]
        exact List.mem_cons_of_mem _ hu
    have T1 := T.T
    rw [← zw_map l zr hzr] at T1
    have hbind1 := hbind ⟨(hp'.push (PySem.W.kdv_tup [])).push (HandSPX.excO (He.ga X.K c) hp'.objs.size), g, dr, tk', os⟩ (hp'.objs.size + 1) (w0 :: wr)
    rw [← zw_map l zr hzr] at hbind1
    refine wpAny_call (PySem.TXK.class_call (fun Y => HandSPX.refsVE_contains Y bm hbm) (I2.kIn _ _ hC) (PySem.W.looks_findIn I2.kIn T.T.iC) (fun self => PySem.W.bind_fn I2.kIn self T.T.tC) ?_)
    refine init_run (w := X.w) (s := ⟨(hp'.push (PySem.W.kdv_tup [])).push (HandSPX.excO (He.ga X.K c) hp'.objs.size), g, dr, tk', os⟩) (q0 := (q0.1, q0.2, z0)) (l := List.zipWith (fun q z => (q.1, q.2, z)) l zr) T1 U.S X1 (hlim.keeps kk) hp har hx hnx ?_ (G1.keeps kk) hsup (B1.keeps kk) ((hb2 _ (by decide)).trans (by decide +kernel))
      (fun cc cda doc pm an ct => hbind1 cc cda doc pm an ct hws) ?_ ?_ hF1 (by rw [List.length_zipWith, hzr, Nat.min_self]; exact hz) (fun L cda cc => he L _ cda cc) (fun L cda cc => hs L _ cda cc) fun h3 tk3 dx t1 k3 dn dne hx3 hd3 => ?_
    · show X.A.depth + 1 < recursionLimit
      omega
    · intro y hy
      rcases List.mem_cons.mp hy with e | h
      · subst e; exact U.S.self
      · exact (hloc _ (List.of_mem_zip h).1).1
    · have hk : (((q0.1 :: l.map (·.1)).zip (w0 :: wr)).map (·.1)) = q0.1 :: l.map (·.1) := zip_fst (by rw [hws])
      refine mem_lookup (q := (("self" : Str), Value.ref (hp'.objs.size + 1))) ?_ ?_
      · rw [List.map_reverse, (List.reverse_perm _).nodup_iff, List.map_cons, hk, List.nodup_cons]
        exact ⟨fun z => (hloc _ z).2.2 rfl, hnd⟩
      · rw [List.mem_reverse]
        exact List.mem_cons_self
    · -- the end
      refine ⟨rfl, ?_⟩
      show MkP X pins σ Q (.ref (hp'.objs.size + 1)) ⟨h3, g, dr, tk3, os⟩
      have hfs2 : ((List.zipWith (fun q z => (q.1, q.2, z)) l zr).reverse.map (fun q => (q.1, q.2.2)) ++ [(q0.1, z0)]) = ((q0.1 :: l.map (·.1)).zip (z0 :: zr)).reverse := by
        rw [List.map_reverse, zw_two, List.zip_cons_cons, List.reverse_cons]
      have hd4 : ∃ mA, h3.Ns1 dx mA ∧ ∀ f, RelO ((((q0.1 :: l.map (·.1)).zip (z0 :: zr)).reverse).lookup f) (mA f) := by
        rw [← hfs2]; exact hd3
      obtain ⟨mA, hns, rel⟩ := hd4
      have hsz2 : ((hp'.push (PySem.W.kdv_tup [])).push (HandSPX.excO (He.ga X.K c) hp'.objs.size)).objs.size = hp'.objs.size + 2 := by rw [Heap.size_push, Heap.size_push]
      have dbig : hp'.objs.size ≤ dx := by
        have : hp'.objs.size + 2 ≤ dx := by rw [← hsz2]; exact dn
        omega
      obtain ⟨G', g1, g2⟩ := restrict h3 fun b => decide (b ≠ hp'.objs.size + 1)
      have gk : ∀ b, b ≠ hp'.objs.size + 1 → G'.get? b = h3.get? b := fun b hb => g1 b (decide_eq_true hb)
      have ge : G'.get? (hp'.objs.size + 1) = none := g2 _ (by simp)
      have ne1 : ∀ b o, hp'.get? b = some o → b ≠ hp'.objs.size + 1 := fun b o q => Nat.ne_of_lt (Nat.lt_succ_of_lt (Heap.lt_size q))
      have old : ∀ b o, hp'.get? b = some o → G'.get? b = some o := fun b o q => (gk b (ne1 b o q)).trans (k3 b o (ne1 b o q) (kk b o q))
      have ob : ObjOk X.prog X.w (upd H2 dx (.xd ((q0.1 :: l.map (·.1)).zip (z0 :: zr)).reverse)) G' dx (.xd ((q0.1 :: l.map (·.1)).zip (z0 :: zr)).reverse) :=
        ⟨mA, hns.at (fun o q => (gk dx dne).trans q), rel⟩
      have J : Inv X pins σ (upd H2 dx (.xd ((q0.1 :: l.map (·.1)).zip (z0 :: zr)).reverse)) ⟨G', g, dr, tk3, os⟩ := I2.laid (t' := tk3) old dbig ob
      refine ⟨hp'.objs.size + 1, _, _, ⟨G', g, dr, tk3, os⟩, _, .ref (He.ga X.K c), some dx, rfl, J, fun b o q => ?_, ge, hx3, ⟨rfl, rfl⟩, rfl, rfl, ?_, rfl, I2.bare, raises_own T.exC T.tyC, q2 dx (I2.hok.fresh dbig)⟩
      · by_cases hb : b = hp'.objs.size + 1
        · have q' : G'.get? b = some o := q
          rw [hb, ge] at q'; cases q'
        · exact (gk b hb).symm.trans q
      · rw [upd_ne (Ne.symm dne)]
        exact I2.hok.fresh (Nat.le_succ _)
end
end TF
/-! #### text TXd -/
set_option Elab.async false
set_option linter.all false
set_option maxRecDepth 100000
set_option maxHeartbeats 2000000
/-! TXd: readings of raise. -/
namespace TF
open PySem L2 PySem.Spec PyProof.Rows PySem.TXP
/-- raise c(k = e, ..) -/
def sRaise (c : Str) (ks : List Str) (fs : List EX) : SX := fun e => match evs fs e with
  | .stuck => .stuck
  | .exc x e1 => .exc x e1
  | .val ds e1 => .exc ⟨c, some (ks.zip ds)⟩ e1
/-- raise c("..") -/
def sRaiseT (c : Str) : SX := fun e => .exc ⟨c, none⟩ e
theorem evs_len : ∀ {l : List EX} {e e1 : Ev} {ds : List D}, evs l e = .val ds e1 → ds.length = l.length
  | [], e, e1, ds, h => by cases h; rfl
  | f :: l, e, e1, ds, h => by
    unfold evs at h
    cases hf : f e with
    | stuck => rw [hf] at h; cases h
    | exc x e' => rw [hf] at h; cases h
    | val d e' =>
      rw [hf] at h
      cases hv : evs l e' with
      | stuck => simp only [hv] at h; cases h
      | exc x e' => simp only [hv] at h; cases h
      | val ds' e'' =>
        simp only [hv, Rl.val.injEq] at h
        rw [← h.1, List.length_cons, evs_len hv]
        rfl
theorem tF_cons {M : Mx} {W : WX} {f : EX} {fs : List EX} (σ : L2.St) (H : Hp) (Q : List V → Hp → Prop) (h : tF M W (f :: fs) σ H Q) : tCons (tD M W f) (tF M W fs) σ H Q := by
  obtain ⟨F, Y, G, e, hE, q⟩ := h
  refine ⟨F, Y, G, e, hE, ?_⟩
  unfold evs at q
  cases hf : f e with
  | stuck => rw [hf] at q; exact q
  | exc x e1 => rw [hf] at q; exact q
  | val d e1 =>
    rw [hf] at q
    refine fun v G1 H1 s1 r1 => ⟨F, Y, G1, e1, s1.env, ?_⟩
    cases hv : evs fs e1 with
    | stuck => simp only [hv] at q; exact q
    | exc x e2 => simp only [hv] at q; exact fun cls a G2 H2 s2 => q cls a G2 H2 (s1.trans s2)
    | val ds e2 =>
      simp only [hv] at q
      exact fun vs G2 H2 s2 r2 => q (v :: vs) G2 H2 (s1.trans s2) ⟨v, vs, rfl, Rp.mono s2.gg _ _ r1, r2⟩
section
variable {X : Cx} {xo : Xo} {W : WX} {a : Expr} {f : EX} {fs : List EX} {pos p : Pos} {xn : Str}
theorem PK.of {kws : List Keyword} {t t' : TA} (h : PK X kws t) (w : ∀ σ H Q, t' σ H Q → t σ H Q) : PK X kws t' := ⟨fun p pins s σ H Q I q => h.run p pins s σ H Q I (w σ H Q q)⟩
theorem pk_nilD : PK X [] (tF (mx X xo) W []) := PK.of pk_nil fun σ H Q ⟨F, Y, G, e, hE, q⟩ => q [] G H (Stp.refl hE) rfl
theorem pk_consD {kws : List Keyword} {nm : Option Str} {kpos : Pos} (ha : PE X a (tD (mx X xo) W f)) (hr : PK X kws (tF (mx X xo) W fs)) : PK X (⟨nm, a, kpos⟩ :: kws) (tF (mx X xo) W (f :: fs)) := PK.of (pk_cons ha hr) tF_cons
/-- the fields, found in a dict of values -/
theorem zip_look {M : Mx} {G : Hp} {f : Str} : ∀ {ks : List Str} {ds : List D} {vs : List V} {d : D}, Rps M G ds vs → (ks.zip ds).lookup f = some d → ∃ v, (f, v) ∈ ks.zip vs ∧ Rp M G d v
  | [], _, _, _, _, h => by cases h
  | k :: ks, [], _, _, _, h => by cases h
  | k :: ks, d0 :: ds, _, d, ⟨v, r, rfl, h1, h2⟩, h => by
    rw [List.zip_cons_cons, List.lookup_cons] at h
    cases e : (f == k) with
    | true =>
      rw [e] at h
      cases h
      have e2 : f = k := by simpa using e
      subst e2
      exact ⟨v, by rw [List.zip_cons_cons]; exact List.mem_cons_self, h1⟩
    | false =>
      rw [e] at h
      obtain ⟨v, h3, h4⟩ := zip_look h2 h
      exact ⟨v, by rw [List.zip_cons_cons]; exact List.mem_cons_of_mem _ h3, h4⟩
theorem kw_raise {M : Mx} {c : Str} {ks : List Str} {D : Ends} (hnd : ks.Nodup) (hl : fs.length = ks.length) (σ : L2.St) (H : Hp) (q : tS M W (sRaise c ks fs) D σ H) :
    tF M W fs σ H fun zs H1 => zs.length = ks.length ∧ ∀ d, H1 d = none → W (.ref (He.ga M.K c)) (some d) σ (upd H1 d (.xd (ks.zip zs).reverse)) := by
  obtain ⟨F, Y, G, e, hE, q⟩ := q
  refine ⟨F, Y, G, e, hE, ?_⟩
  unfold sRaise at q
  cases hv : evs fs e with
  | stuck => rw [hv] at q; exact q
  | exc x e1 => rw [hv] at q; exact fun cls a G' H' s hx => q cls a _ σ G' H' s.env s.gro hx
  | val ds e1 =>
    rw [hv] at q
    intro vs G1 H1 s r
    have hvl : vs.length = ks.length := by rw [r.length, evs_len hv, hl]
    refine ⟨hvl, fun d hd => ?_⟩
    have E2 : Env M F Y G1 (upd H1 d (.xd (ks.zip vs).reverse)) σ e1 := by
      obtain ⟨fp, h1, h2, h3, h4, h5⟩ := s.env.sl
      have nd : ∀ i a, a ∈ fp i → a ≠ d := fun i a ha z => by
        cases hs : e1[i]? with
        | none => rw [h4 i hs] at ha; cases ha
        | some t =>
          have := (h1 i t hs).there a ha
          rw [z] at this
          exact this hd
      exact ⟨s.env.gh.trans (Ex.new hd), s.env.fh.trans (Ex.new hd), s.env.len, fp, fun i t ht => (h1 i t ht).step (Ex.refl _) fun a ha => upd_ne (nd i a ha), h2, h3, h4, h5⟩
    refine q (.ref (He.ga M.K c)) (some d) _ σ G1 (upd H1 d (.xd (ks.zip vs).reverse)) E2 s.gro ⟨rfl, d, (ks.zip vs).reverse, rfl, upd_same, fun f d0 hf => ?_, s.env.gh.back hd, s.env.fh.back hd⟩
    obtain ⟨v, hm, rv⟩ := zip_look r hf
    refine ⟨v, mem_lookup (q := (f, v)) ?_ (List.mem_reverse.mpr hm), rv⟩
    rw [List.map_reverse, (List.reverse_perm _).nodup_iff, zip_fst hvl]
    exact hnd
theorem ps_raiseD {qual : Str} {params : Arguments} {body : List Stmt} {scope : Scope} {ks : List Str} {c : Str} {kws : List Keyword} {k : Nat} {pos2 : Pos} (hc : X.calm = true) (tk : Takes X W) (T : OxK X.K X.prog c qual params body scope) (U : IniT qual params body scope ks) (hno : ∀ f ∈ ks, PySem.W.findIn X.K (.ref (He.ga X.K c)) f = some none) (hr : Room (k + 1) X.A) (hg : Gl X xn) (hm : X.mg xn = some (.ref (He.ga X.K c))) (hsup : X.mg "super" = none)
    (hkw : PK X kws (tF (mx X xo) W fs)) (hl : fs.length = ks.length) (hdb : (xn == ("__debug__" : Str)) = false) (hall : (backToKw pos (keywordEach kws X.env)).all (·.1.isSome) = true := by rfl) (hks : (backToKw pos (keywordEach kws X.env)).filterMap (·.1) = ks := by rfl)
    (hpl : ((backTo pos (starEach [] X.env)).any (·.1) || (backToKw pos (keywordEach kws X.env)).any (·.1.isNone)) = false := by rfl) :
    PS X (.Raise (some (.Call (.Name xn p) [] kws pos)) none pos2) (tS (mx X xo) W (sRaise c ks fs)) := by
  have hnd : ks.Nodup := by
    obtain ⟨_, _, _, _, _, _, _, _, _, _, _, _, _, _, _, _, _, h, _⟩ := U.ex
    exact h
  exact PS.of (ps_raise hc tk (pmk_kw T U hno hr hg hm hsup hkw hdb hall hks hpl)) fun D σ H q => kw_raise hnd hl σ H q
theorem ps_raiseTD {c : Str} {tx : Str} {j : Nat} {p2 pos2 : Pos} (hc : X.calm = true) (tk : Takes X W) (T : OxB X.K (He.ga X.K c)) (hg : Gl X xn) (hm : X.mg xn = some (.ref (He.ga X.K c))) (hdb : (xn == ("__debug__" : Str)) = false)
    (he : starEach (Expr.Constant (.str tx) j p2 :: []) X.env = (false, eval (Expr.Constant (.str tx) j p2) X.env) :: starEach [] X.env := by rfl) (hpl : (backTo pos (starEach [] X.env)).any (·.1) = false := by rfl) :
    PS X (.Raise (some (.Call (.Name xn p) [.Constant (.str tx) j p2] [] pos)) none pos2) (tS (mx X xo) W (sRaiseT c)) :=
  PS.of (ps_raise hc tk (pmk_txt T hg hm (pf_cons (W := W) (f := eC (.str tx)) pe_strD pf_nil) hdb he hpl)) fun D σ H ⟨F, Y, G, e, hE, q⟩ => ⟨F, Y, G, e, hE, fun vs G1 H1 s r => ⟨by rw [r.length]; exact (by decide : (1 : Nat) ≤ 1000), q _ none _ σ G1 H1 s.env s.gro ⟨rfl, rfl⟩⟩⟩
end
end TF
/-! #### text TXe -/
set_option Elab.async false
set_option linter.all false
set_option maxRecDepth 100000
set_option maxHeartbeats 2000000
/-! TXe: try and except. -/
namespace TF
open PySem L2 PySem.Spec PyProof.Rows PySem.TXP
def isEx : S → Bool
  | .ex _ => true
  | .me _ _ _ _ => true
  | .mo _ _ _ _ _ => true
  | .cur _ _ _ _ => true
  | _ => false
def noEx (e : Ev) : Bool := e.all fun s => !isEx s
theorem SlotOk.xo {M : Mt} {x x' : Xo} {G H : Hp} {s : S} {o : Option V} {fp : List Addr} (h : SlotOk ⟨M, x⟩ G H s o fp) (hs : isEx s = false) : SlotOk ⟨M, x'⟩ G H s o fp := by
  cases s with
  | ex y => cases hs
  | me b1 b2 c fs => cases hs
  | mo a1 a2 c1 f1 o1 => cases hs
  | cur a1 a2 c1 f1 => cases hs
  | _ => exact h
theorem noEx_at {e : Ev} (h : noEx e = true) {i : Nat} {s : S} (hs : e[i]? = some s) : isEx s = false := by
  unfold noEx at h
  rw [List.all_eq_true] at h
  have := h s (List.mem_of_getElem? hs)
  simpa using this
theorem Env.xo {M : Mt} {x x' : Xo} {F G H : Hp} {σ : L2.St} {e : Ev} (h : Env ⟨M, x⟩ F Y G H σ e) (hn : noEx e = true) : Env ⟨M, x'⟩ F Y G H σ e := by
  obtain ⟨fp, h1, h2, h3, h4, h5⟩ := h.sl
  exact ⟨h.gh, h.fh, h.len, fp, fun i s hs => (h1 i s hs).xo (noEx_at hn hs), h2, h3, h4, h5⟩
theorem SlotOk.notXd {M : Mx} {G H : Hp} {s : S} {o : Option V} {fp : List Addr} (h : SlotOk M G H s o fp) (hs : isEx s = false) {a : Addr} (ha : a ∈ fp) {fv : List (Str × V)} : H a ≠ some (.xd fv) := by
  cases s with
  | un => rw [show fp = [] from h] at ha; cases ha
  | fz d => rw [h.1] at ha; cases ha
  | raw ns => rw [h.1] at ha; cases ha
  | ol ds =>
    obtain ⟨p, vs, _, h2, h3, _⟩ := h
    rw [h2, List.mem_singleton] at ha
    subst ha
    rw [h3]
    exact fun z => nomatch z
  | od kvs =>
    obtain ⟨p, _, h2, h3⟩ := h
    rw [h2, List.mem_singleton] at ha
    subst ha
    rcases h3 with ⟨ks, h3, _⟩ | ⟨ks, h3, _⟩
    · rw [h3]; exact fun z => nomatch z
    · rw [h3]
      unfold dN
      exact fun z => nomatch z
  | src p q st cells ix =>
    obtain ⟨_, h2, h3, h4⟩ := h
    rw [h2] at ha
    rcases List.mem_cons.mp ha with rfl | ha
    · rw [h3]; exact fun z => nomatch z
    · rw [List.mem_singleton] at ha
      subst ha
      rw [h4]; exact fun z => nomatch z
  | sl ds =>
    obtain ⟨p, vs, _, h2, h3, _⟩ := h
    rw [h2, List.mem_singleton] at ha
    subst ha
    rw [h3]
    exact fun z => nomatch z
  | ex x => cases hs
  | me b1 b2 c fs => cases hs
  | mo a1 a2 c1 f1 o1 => cases hs
  | cur a1 a2 c1 f1 => cases hs
  | box p q st cells =>
    obtain ⟨_, h2, h3, h4⟩ := h
    rw [h2] at ha
    rcases List.mem_cons.mp ha with rfl | ha
    · rw [h3]; exact fun z => nomatch z
    · rw [List.mem_singleton] at ha
      subst ha
      rw [h4]; exact fun z => nomatch z
/-- a slot, and what belongs to it, anew -/
theorem Env.put {M : Mx} {F G H : Hp} {σ : L2.St} {e : Ev} (h : Env M F Y G H σ e) {i : Nat} {s : S} {o : Option V} {fi : List Addr} (ok : SlotOk M G H s o fi) (hd : ∀ a ∈ fi, G a = none ∧ F a = none ∧ ∀ j t fp', j ≠ i → e[j]? = some t → SlotOk M G H t (σ[j]?).join fp' → a ∉ fp') (hsh : isSh s = false) : Env M F (Y.filter fun a => !fi.contains a) G H (σ.set i o) (e.set i s) := by
  obtain ⟨fp, h1, h2, h3, h4, h5⟩ := h.sl
  have no : ∀ {j : Nat} {a : Addr}, j ≠ i → a ∈ fi → a ∈ fp j → False := fun {j a} hji hai haj => by
    cases ht : e[j]? with
    | none => rw [h4 j ht] at haj; cases haj
    | some t => exact (hd a hai).2.2 j t (fp j) hji ht (h1 j t ht) haj
  by_cases hi : i < e.length
  · refine ⟨h.gh, h.fh, by rw [List.length_set, List.length_set]; exact h.len, fun j => if j = i then fi else fp j, fun j t hj => ?_, fun j k a hj hk => ?_, fun j a hj => ?_, fun j hj => ?_, fun j t a hj ha => ?_⟩
    · by_cases e1 : j = i
      · subst e1
        rw [List.getElem?_set_self hi] at hj
        cases hj
        simp only [if_pos]
        rw [List.getElem?_set_self (by rw [h.len]; exact hi)]
        exact ok
      · simp only [if_neg e1]
        rw [List.getElem?_set_ne (Ne.symm e1)] at hj ⊢
        exact h1 j t hj
    · by_cases e1 : j = i
      · by_cases e2 : k = i
        · rw [e1, e2]
        · simp only [if_pos e1] at hj
          simp only [if_neg e2] at hk
          exact (no e2 hj hk).elim
      · by_cases e2 : k = i
        · simp only [if_neg e1] at hj
          simp only [if_pos e2] at hk
          exact (no e1 hk hj).elim
        · simp only [if_neg e1] at hj
          simp only [if_neg e2] at hk
          exact h2 j k a hj hk
    · by_cases e1 : j = i
      · simp only [if_pos e1] at hj
        exact ⟨(hd a hj).1, (hd a hj).2.1⟩
      · simp only [if_neg e1] at hj
        exact h3 j a hj
    · by_cases e1 : j = i
      · subst e1
        rw [List.getElem?_set_self hi] at hj
        cases hj
      · simp only [if_neg e1]
        rw [List.getElem?_set_ne (Ne.symm e1)] at hj
        exact h4 j hj
    · by_cases e1 : j = i
      · subst e1
        simp only [if_pos] at ha
        rw [List.getElem?_set_self hi] at hj
        cases hj
        rw [hsh]
        simp [ha]
      · simp only [if_neg e1] at ha
        rw [List.getElem?_set_ne (Ne.symm e1)] at hj
        rw [h5 j t a hj ha]
        have : a ∉ fi := fun z => no e1 z ha
        simp [this]
  · have e1 : e.set i s = e := List.set_eq_of_length_le (by omega)
    have e2 : σ.set i o = σ := List.set_eq_of_length_le (by rw [h.len]; omega)
    rw [e1, e2]
    refine ⟨h.gh, h.fh, h.len, fp, h1, h2, h3, h4, fun j t a hj ha => ?_⟩
    rw [h5 j t a hj ha]
    have : a ∉ fi := fun z => no (fun q => by
      subst q
      rw [List.getElem?_eq_none (by omega)] at hj
      cases hj) z ha
    simp [this]
theorem Env.unset {M : Mx} {F G H : Hp} {σ : L2.St} {e : Ev} (h : Env M F Y G H σ e) (i : Nat) (o : Option V) : Env M F Y G H (σ.set i o) (e.set i .un) := by
  have := h.put (i := i) (s := .un) (o := o) (fi := []) rfl (fun a ha => by cases ha) rfl
  have e1 : (Y.filter fun a => !([] : List Addr).contains a) = Y := List.filter_eq_self.mpr (by simp)
  rw [e1] at this
  exact this
theorem Env.setEx {M : Mt} {x0 : Xo} {F G H : Hp} {σ : L2.St} {e : Ev} {i : Nat} {x : Xc} {cls : Value} {d : Option Addr} {a : Addr} (h : Env ⟨M, x0⟩ F Y G H σ e) (hn : noEx e = true) (hx : XcOk M F G H x cls d) : ∃ Y, Env ⟨M, some (a, cls, d)⟩ F Y G H (σ.set i (some (.ref a))) (e.set i (.ex x)) := by
  have h' : Env ⟨M, some (a, cls, d)⟩ F Y G H σ e := h.xo hn
  obtain ⟨hc, hf⟩ := hx
  cases hfs : x.fs with
  | none =>
    rw [hfs] at hf
    exact ⟨_, h'.put (fi := []) ⟨a, cls, d, rfl, rfl, hc, by rw [hfs]; exact ⟨hf, rfl⟩⟩ (fun a ha => by cases ha) rfl⟩
  | some fs =>
    rw [hfs] at hf
    obtain ⟨dd, fv, e1, e2, e3, e4, e5⟩ := hf
    refine ⟨_, h'.put (fi := [dd]) ⟨a, cls, d, rfl, rfl, hc, by rw [hfs]; exact ⟨dd, fv, e1, rfl, e2, e3⟩⟩ (fun b hb => ?_) rfl⟩
    rw [List.mem_singleton] at hb
    subst hb
    exact ⟨e4, e5, fun j t fp' hj ht ok hm => ok.notXd (noEx_at hn ht) hm e2⟩
/-- the end of an except suite -/
def endEx (i : Nat) : Out → Out
  | .stuck => .stuck
  | .nx e => if noEx (e.set i .un) then .nx (e.set i .un) else .stuck
  | .ret d e => if noEx (e.set i .un) then .ret d (e.set i .un) else .stuck
  | .bk e => if noEx (e.set i .un) then .bk (e.set i .un) else .stuck
  | .ct e => if noEx (e.set i .un) then .ct (e.set i .un) else .stuck
  | .exc x e => .stuck
def sTryAs (ys ns : List Str) (i : Nat) (body suite : SX) : SX := fun e => match body e with
  | .exc x e1 => if ys.contains x.c then (if noEx e1 then endEx i (suite (e1.set i (.ex x))) else .stuck) else if ns.contains x.c then .exc x e1 else .stuck
  | r => r
/-- the end without a name -/
def sTryOnly (ys ns : List Str) (body suite : SX) : SX := fun e => match body e with
  | .exc x e1 => if ys.contains x.c then (if noEx e1 then (match suite e1 with
      | .nx e2 => if noEx e2 then .nx e2 else .stuck
      | .ret d e2 => if noEx e2 then .ret d e2 else .stuck
      | .bk e2 => if noEx e2 then .bk e2 else .stuck
      | .ct e2 => if noEx e2 then .ct e2 else .stuck
      | _ => .stuck) else .stuck) else if ns.contains x.c then .exc x e1 else .stuck
  | r => r
section
variable {X : Cx} {xo : Xo} {W : WX} {x n : Str} {c : Value} {i : Nat} {body suite : List Stmt} {b₀ : Stmt} {np pos pos' : Pos} {m sm : SX} {ys ns : List Str}
theorem ps_tryAsD (hs : X.stack = X.env :: X.outer) (hf : X.env.frame = some X.env.locals) (hN : X.N.Nodup) (hi : X.N[i]? = some n) (hln : X.env.kindOf n = some .local) (hc : Names X x c) (tk : Takes X W)
    (hy : ∀ y ∈ ys, PySem.W.exmOne X.K (.ref (He.ga X.K y)) c = some true) (hn : ∀ y ∈ ns, PySem.W.exmOne X.K (.ref (He.ga X.K y)) c = some false)
    (hb : ∀ (W : WX) (pn : List (Addr × Obj)) (xe : Value → Shared → Prop), Takes (X.tr pn xe) W → PassesOwn (model X.prog X.w) X.A X.env xe → PSs (X.tr pn xe) body (tS (mx X xo) W m))
    (hsu : ∀ (a : Addr) (oe : Obj) (cls : Value) (d : Option Addr) (pn : List (Addr × Obj)), Zc cls d oe → (∃ vs, oe.data = .fields vs) → PSs (X.suite a ((a, oe) :: pn)) (b₀ :: suite) (tS (mx X (some (a, cls, d))) W0 sm)) :
    PS X (.Try body [.ExceptHandler (some (.Name x np)) (some n) (b₀ :: suite) pos'] [] [] pos) (tS (mx X xo) W (sTryAs ys ns i m sm)) :=
  PS.of (ps_try_as hs hf hN hi hln hc tk hb hsu) fun D σ H ⟨F, Y, G, e, hE, q⟩ => ⟨F, Y, G, e, hE, by
    unfold sTryAs at q
    cases hm : m e with
    | stuck => rw [hm] at q; exact q
    | nx e1 => rw [hm] at q; exact q
    | ret d e1 => rw [hm] at q; exact q
    | bk e1 => rw [hm] at q; exact q
    | ct e1 => rw [hm] at q; exact q
    | exc x e1 =>
      rw [hm] at q
      intro cls d Y' σ' G' H' E1 g1 hx
      have hcls : cls = .ref (He.ga X.K x.c) := hx.1
      cases hyc : ys.contains x.c with
      | true =>
        simp only [hyc, if_true] at q
        refine ⟨true, by rw [hcls]; exact hy _ (by simpa using hyc), fun _ a ha => ?_, fun z => (by cases z)⟩
        cases hne : noEx e1 with
        | false => simp only [hne, Bool.false_eq_true, if_false] at q; exact q.elim
        | true =>
          simp only [hne, if_true] at q
          obtain ⟨Y2, E2⟩ := E1.setEx (i := i) (a := a) hne hx
          refine ⟨F, Y2, G', e1.set i (.ex x), E2, ?_⟩
          have q1 := OkS.gro q g1
          cases hsm : sm (e1.set i (.ex x)) with
          | stuck => rw [hsm] at q1; exact q1
          | exc y e2 => rw [hsm] at q1; exact q1.elim
          | ret d2 e2 =>
            rw [hsm] at q1
            unfold endEx at q1
            cases hn2 : noEx (e2.set i .un) with
            | false => simp only [hn2, Bool.false_eq_true, if_false] at q1; exact q1.elim
            | true =>
              simp only [hn2, if_true] at q1
              exact fun v Y2 σ2 G2 H2 E2 g2 r => q1 v _ (σ2.set i none) G2 H2 ((E2.unset i none).xo hn2) g2 r
          | nx e2 =>
            rw [hsm] at q1
            unfold endEx at q1
            cases hn2 : noEx (e2.set i .un) with
            | false => simp only [hn2, Bool.false_eq_true, if_false] at q1; exact q1.elim
            | true =>
              simp only [hn2, if_true] at q1
              exact fun Y2 σ2 G2 H2 E2 g2 => q1 _ (σ2.set i none) G2 H2 ((E2.unset i none).xo hn2) g2
          | bk e2 =>
            rw [hsm] at q1
            unfold endEx at q1
            cases hn2 : noEx (e2.set i .un) with
            | false => simp only [hn2, Bool.false_eq_true, if_false] at q1; exact q1.elim
            | true =>
              simp only [hn2, if_true] at q1
              exact fun Y2 σ2 G2 H2 E2 g2 => q1 _ (σ2.set i none) G2 H2 ((E2.unset i none).xo hn2) g2
          | ct e2 =>
            rw [hsm] at q1
            unfold endEx at q1
            cases hn2 : noEx (e2.set i .un) with
            | false => simp only [hn2, Bool.false_eq_true, if_false] at q1; exact q1.elim
            | true =>
              simp only [hn2, if_true] at q1
              exact fun Y2 σ2 G2 H2 E2 g2 => q1 _ (σ2.set i none) G2 H2 ((E2.unset i none).xo hn2) g2
      | false =>
        simp only [hyc, Bool.false_eq_true, if_false] at q
        cases hnc : ns.contains x.c with
        | false => simp only [hnc, Bool.false_eq_true, if_false] at q; exact q.elim
        | true =>
          simp only [hnc, if_true] at q
          exact ⟨false, by rw [hcls]; exact hn _ (by simpa using hnc), fun z => (by cases z), fun _ => q cls d _ σ' G' H' E1 g1 hx⟩⟩
theorem ps_tryOnlyD (hs : X.stack = X.env :: X.outer) (hf : X.env.frame = some X.env.locals) (hc : Names X x c) (tk : Takes X W)
    (hy : ∀ y ∈ ys, PySem.W.exmOne X.K (.ref (He.ga X.K y)) c = some true) (hn : ∀ y ∈ ns, PySem.W.exmOne X.K (.ref (He.ga X.K y)) c = some false)
    (hb : ∀ (W : WX) (pn : List (Addr × Obj)) (xe : Value → Shared → Prop), Takes (X.tr pn xe) W → PassesOwn (model X.prog X.w) X.A X.env xe → PSs (X.tr pn xe) body (tS (mx X xo) W m))
    (hsu : ∀ (a : Addr) (oe : Obj) (cls : Value) (d : Option Addr) (pn : List (Addr × Obj)), Zc cls d oe → (∃ vs, oe.data = .fields vs) → PSs (X.suite a ((a, oe) :: pn)) (b₀ :: suite) (tS (mx X (some (a, cls, d))) W0 sm)) :
    PS X (.Try body [.ExceptHandler (some (.Name x np)) none (b₀ :: suite) pos'] [] [] pos) (tS (mx X xo) W (sTryOnly ys ns m sm)) :=
  PS.of (ps_try_only hs hf hc tk hb hsu) fun D σ H ⟨F, Y, G, e, hE, q⟩ => ⟨F, Y, G, e, hE, by
    unfold sTryOnly at q
    cases hm : m e with
    | stuck => rw [hm] at q; exact q
    | nx e1 => rw [hm] at q; exact q
    | ret d e1 => rw [hm] at q; exact q
    | bk e1 => rw [hm] at q; exact q
    | ct e1 => rw [hm] at q; exact q
    | exc x e1 =>
      rw [hm] at q
      intro cls d Y' σ' G' H' E1 g1 hx
      have hcls : cls = .ref (He.ga X.K x.c) := hx.1
      cases hyc : ys.contains x.c with
      | true =>
        simp only [hyc, if_true] at q
        refine ⟨true, by rw [hcls]; exact hy _ (by simpa using hyc), fun _ a ha => ?_, fun z => (by cases z)⟩
        cases hne : noEx e1 with
        | false => simp only [hne, Bool.false_eq_true, if_false] at q; exact q.elim
        | true =>
          simp only [hne, if_true] at q
          refine ⟨F, _, G', e1, E1.xo hne, ?_⟩
          have q1 := OkS.gro q g1
          cases hsm : sm e1 with
          | stuck => rw [hsm] at q1; exact q1
          | exc y e2 => rw [hsm] at q1; exact q1.elim
          | ret d2 e2 =>
            rw [hsm] at q1
            cases hn2 : noEx e2 with
            | false => simp only [hn2, Bool.false_eq_true, if_false] at q1; exact q1.elim
            | true =>
              simp only [hn2, if_true] at q1
              exact fun v Y2 σ2 G2 H2 E2 g2 r => q1 v _ σ2 G2 H2 (E2.xo hn2) g2 r
          | nx e2 =>
            rw [hsm] at q1
            cases hn2 : noEx e2 with
            | false => simp only [hn2, Bool.false_eq_true, if_false] at q1; exact q1.elim
            | true =>
              simp only [hn2, if_true] at q1
              exact fun Y2 σ2 G2 H2 E2 g2 => q1 _ σ2 G2 H2 (E2.xo hn2) g2
          | bk e2 =>
            rw [hsm] at q1
            cases hn2 : noEx e2 with
            | false => simp only [hn2, Bool.false_eq_true, if_false] at q1; exact q1.elim
            | true =>
              simp only [hn2, if_true] at q1
              exact fun Y2 σ2 G2 H2 E2 g2 => q1 _ σ2 G2 H2 (E2.xo hn2) g2
          | ct e2 =>
            rw [hsm] at q1
            cases hn2 : noEx e2 with
            | false => simp only [hn2, Bool.false_eq_true, if_false] at q1; exact q1.elim
            | true =>
              simp only [hn2, if_true] at q1
              exact fun Y2 σ2 G2 H2 E2 g2 => q1 _ σ2 G2 H2 (E2.xo hn2) g2
      | false =>
        simp only [hyc, Bool.false_eq_true, if_false] at q
        cases hnc : ns.contains x.c with
        | false => simp only [hnc, Bool.false_eq_true, if_false] at q; exact q.elim
        | true =>
          simp only [hnc, if_true] at q
          exact ⟨false, by rw [hcls]; exact hn _ (by simpa using hnc), fun z => (by cases z), fun _ => q cls d _ σ' G' H' E1 g1 hx⟩⟩
end
/-! ### what a held exception bears -/
/-- the classes whose exceptions bear the field -/
structure FdX (K : PySem.W.Frag) (c f : Str) : Prop where
  ga : PySem.W.findIn K (.ref (He.ga K c)) "__getattribute__" = some (some (.builtin "BaseException.__getattribute__"))
  gg : PySem.W.findIn K (.ref (He.ga K c)) "__getattr__" = some none
  exC : PySem.W.subIn K (.ref (He.ga K c)) (.type "BaseException") = some true
  hd : PySem.W.hasDictIn K (He.ga K c) = true
  no : PySem.W.findIn K (.ref (He.ga K c)) f = some none
def eFld (ys : List Str) (i : Nat) (f : Str) : EX := fun e => match e[i]? with
  | some (.ex x) => if ys.contains x.c then (match x.fs with
    | some fs => Rx.of (fs.lookup f) e
    | none => .stuck) else .stuck
  | _ => .stuck
section
variable {X : Cx} {W : WX} {x n f : Str} {i : Nat} {np pos : Pos} {ys : List Str} {a : Addr} {oe : Obj} {cls : Value} {d : Option Addr} {pn : List (Addr × Obj)}
theorem pe_fldD (hT : ∀ y ∈ ys, FdX X.K y f) (hz : Zc cls d oe) (hf : ∃ vs, oe.data = .fields vs) (hi : X.N[i]? = some n) (hv : Vis X.env.scope n) (hdb : (n == ("__debug__" : Str)) = false) (hcd : (n == ("__classdict__" : Str)) = false)
    (hb : attributeBase (.Name n np) f (X.suite a ((a, oe) :: pn)).env (eval (.Name n np) (X.suite a ((a, oe) :: pn)).env) = eval (.Name n np) (X.suite a ((a, oe) :: pn)).env := by rfl) :
    PE (X.suite a ((a, oe) :: pn)) (.Attribute (.Name n np) f pos) (tD (mx X (some (a, cls, d))) W (eFld ys i f)) := by
  refine ⟨fun pins s σ H Q I ⟨F, Y, G, e, hE, q⟩ => ?_⟩
  unfold eFld at q
  cases hs : e[i]? with
  | none => rw [hs] at q; exact q.elim
  | some t =>
    rw [hs] at q
    cases t with
    | ex y =>
      simp only at q
      cases hyc : ys.contains y.c with
      | false => simp only [hyc, Bool.false_eq_true, if_false] at q; exact q.elim
      | true =>
        simp only [hyc, if_true] at q
        cases hfs : y.fs with
        | none => simp only [hfs] at q; exact q.elim
        | some fs =>
          simp only [hfs] at q
          cases hlk : fs.lookup f with
          | none => rw [hlk] at q; exact q.elim
          | some d0 =>
            rw [hlk] at q
            obtain ⟨o, fp, h1, ⟨b, cls', d', hxo, ho, hcls, hrest⟩, _⟩ := hE.slot hs
            rw [hfs] at hrest
            obtain ⟨dd, fv, hd', _, hdd, hfl⟩ := hrest
            cases hxo
            subst ho
            subst hd'
            have T := hT y.c (by simpa using hyc)
            obtain ⟨v, hlv, rv⟩ := hfl f d0 hlk
            refine attr_of hb (thn ((pe_var (X := X.suite a ((a, oe) :: pn)) hi hv hdb hcd).run pins s σ H (fun x H1 => x = .ref a ∧ H1 = H) I ⟨_, h1, rfl, rfl⟩) fun u s1 hh => ?_)
            obtain ⟨x1, H1, I1, rx, ex, eH⟩ := hh
            subst eH
            subst ex
            obtain rfl : u = Value.ref a := rx
            obtain ⟨ha, _⟩ := I1.pin (a, oe) (List.mem_append_left _ List.mem_cons_self)
            obtain ⟨vs, hdt⟩ := hf
            have hx : ObjOk X.prog X.w H1 s1.heap dd (.xd fv) := I1.hok dd _ hdd
            obtain ⟨mA, hns, hr⟩ := hx
            obtain ⟨od, hod, hl⟩ := lookIn_ns hns
            obtain ⟨u, hu, ru⟩ := RelO.some_of (v := v) (o := mA f) (by rw [← hlv]; exact hr f)
            have hc2 : oe.cls = .ref (He.ga X.K y.c) := hz.1.trans hcls
            have J : PySem.W.InstAt s1.heap a oe (He.ga X.K y.c) (some od) := ⟨ha, hc2, by unfold PySem.W.notCls; rw [hdt] <;> rfl, by rw [hz.2]; exact hod⟩
            exact HandSPX.exc_get I1.kIn J T.ga T.gg T.exC (PySem.W.findObj_own T.hd T.no rfl (by rw [hl, hu])) (handed_of ru) ⟨v, H1, I1.tok _, ru, q v G H1 (Stp.refl hE) rv⟩
    | _ => exact q.elim
end
end TF
/-! #### text TFj -/
set_option Elab.async false
set_option linter.all false
set_option maxRecDepth 100000
set_option maxHeartbeats 2000000
/-! TFj: lists of one's own: made, changed. -/
namespace TF
open PySem L2 PySem.Spec PyProof.Rows
section
variable {X : Cx} {xo : Xo} {W : WX} {a b c : Expr} {f g h : EX} {fs : List EX} {es : List Expr} {m n : SX} {pos p : Pos}
/-! ### made -/
theorem newO {M : Mx} {F G H G1 H1 : Hp} {σ : L2.St} {e e1 : Ev} {d : D} {Q : VK} {oo : Addr → HO} (s : Stp M F Y G H σ e G1 H1 e1) (ok : ∀ q, OwnOk M G1 d q (oo q))
    (q : ∀ p o G' H', Env M (upd F p o) Y G' H' σ e1 → F p = none → G' p = none → Gro F G G' → (∀ a u, H a = some u → a ∉ Y → H' a = some u) → OwnOk M G' d p o → Q (.ref p) H') : ∀ l, H1 l = none → Q (.ref l) (upd H1 l (oo l)) := fun l hl =>
  q l (oo l) G1 _ (s.env.addF hl) (s.env.fh.back hl) (s.env.gh.back hl) s.gro (fun a u h1 h2 => by
    rw [upd_ne (ne_of_none (s.kp a u h1 h2) hl)]
    exact s.kp a u h1 h2) (ok l)
theorem pe_lstO (ha : PA X es (tF (mx X xo) W fs)) : PE X (.List es pos) (tO (mx X xo) W (eN mkL fs)) := PE.of (pe_lst ha) fun σ H Q ⟨F, Y, G, e, hE, ho⟩ => ⟨F, Y, G, e, hE, by
  unfold eN at ho
  cases hv : evs fs e with
  | stuck => rw [hv] at ho; exact ho
  | exc x e1 => rw [hv] at ho; exact ho
  | val ds e1 =>
    rw [hv] at ho
    intro vs G1 H1 s r
    by_cases hl : ds.length ≤ 1000
    · simp only [mkL, if_pos hl] at ho
      exact ⟨by rw [r.length]; exact sz1000 hl, newO (d := .lst ds) (oo := fun _ => .lst vs) s (fun q => ⟨vs, rfl, r⟩) ho⟩
    · simp only [mkL, if_neg hl] at ho
      exact ho.elim⟩
theorem pe_listO (hm : X.mg "list" = none) (hg : Gl X "list") (ha : PE X a (tV (mx X xo) W f))
    (he : starEach (a :: []) X.env = (false, eval a X.env) :: starEach [] X.env := by rfl) (hpl : (backTo pos (starEach [] X.env)).any (·.1) = false := by rfl) :
    PE X (.Call (.Name "list" p) [a] [] pos) (tO (mx X xo) W (eN dListOf [f])) :=
  PE.of (pe_callTy call_list_of hg hm boot_list (pa_consD (fs := []) ha pa_nilD he) (by decide) (by decide) he hpl) fun σ H Q ⟨F, Y, G, e, hE, ho⟩ => ⟨F, Y, G, e, hE, by
    unfold eN at ho
    cases hv : evs [f] e with
    | stuck => rw [hv] at ho; exact ho
    | exc x e1 => rw [hv] at ho; exact ho
    | val ds e1 =>
      rw [hv] at ho
      intro vs G1 H1 s r
      cases hd : dListOf ds with
      | none => simp only [hd] at ho; exact ho.elim
      | some d =>
        simp only [hd] at ho
        unfold dListOf at hd
        split at hd
        · cases hd
          obtain ⟨v, rfl, r1⟩ := r.any.one
          obtain ⟨p, ws, rfl, h1, h2⟩ := r1.list s.env.gh
          exact ⟨p, ws, rfl, .inl (.inl (.inl h1)), newO (d := .lst _) (oo := fun _ => .lst ws) s (fun q => ⟨ws, rfl, h2⟩) ho⟩
        · cases hd
          obtain ⟨v, rfl, r1⟩ := r.any.one
          obtain ⟨p, ws, rfl, h1, h2⟩ := r1.tup s.env.gh
          exact ⟨p, ws, rfl, .inr h1, newO (d := .lst _) (oo := fun _ => .lst ws) s (fun q => ⟨ws, rfl, h2⟩) ho⟩
        · cases hd⟩
/-! ### changed -/
/-- the list at a slot -/
def lstAt (e : Ev) (i : Nat) : Option (List D) := match e[i]? with
  | some (.ol ds) => some ds
  | some (.sl ds) => some ds
  | _ => none
def putL (e : Ev) (i : Nat) (ds : List D) : Ev := match e[i]? with
  | some (.sl _) => e.set i (.sl ds)
  | _ => e.set i (.ol ds)
theorem Env.lst {M : Mx} {F G H : Hp} {σ : L2.St} {e : Ev} (E : Env M F Y G H σ e) {i : Nat} {ds : List D} (h : lstAt e i = some ds) : ∃ p vs, σ[i]? = some (some (.ref p)) ∧ H p = some (.lst vs) ∧ Rps M G ds vs ∧
    (∀ ds' vs', Rps M G ds' vs' → Env M F Y G (upd H p (.lst vs')) σ (putL e i ds')) ∧ ((∃ ds', e[i]? = some (.sl ds')) → p ∈ Y) := by
  unfold lstAt at h
  cases hs : e[i]? with
  | none => rw [hs] at h; cases h
  | some s =>
    rw [hs] at h
    obtain ⟨o, fp, h1, h2, _⟩ := E.slot hs
    cases s with
    | ol ds1 =>
      cases h
      obtain ⟨p, vs, rfl, rfl, h3, h4⟩ := h2
      refine ⟨p, vs, h1, h3, h4, fun ds' vs' r => ?_, fun ⟨ds', z⟩ => by cases z⟩
      unfold putL
      rw [hs]
      exact E.mut hs h1 rfl (fun fp ⟨q, ws, e1, e2, _⟩ => by cases e1; exact e2) ⟨p, vs', rfl, rfl, upd_same, r⟩
    | sl ds1 =>
      cases h
      obtain ⟨p, vs, rfl, rfl, h3, h4⟩ := h2
      rename_i hY
      refine ⟨p, vs, h1, h3, h4, fun ds' vs' r => ?_, fun _ => (hY.2 p List.mem_cons_self).mp rfl⟩
      unfold putL
      rw [hs]
      exact E.mut hs h1 rfl (fun fp ⟨q, ws, e1, e2, _⟩ => by cases e1; exact e2) ⟨p, vs', rfl, rfl, upd_same, r⟩
    | _ => cases h
/-- x.append(e) -/
def sApp (i : Nat) (f : EX) : SX := fun e => match lstAt e i with
  | none => .stuck
  | some _ => sOf f (fun d e1 => match lstAt e1 i with
    | some ds => if ds.length < szB then .nx (putL e1 i (ds ++ [d])) else .stuck
    | none => .stuck) e
theorem ps_appD {i : Nat} {x : Str} {np apos pos2 : Pos} (hN : X.N[i]? = some x) (hv : Vis X.env.scope x) (hdb : (x == ("__debug__" : Str)) = false) (hcd : (x == ("__classdict__" : Str)) = false) (ha : PE X a (tD (mx X xo) W f))
    (hsw : swapsWith (.Call (.Attribute (.Name x np) "append" apos) [a] [] pos) none pos2.line X.env = pure false := by rfl)
    (hbase : attributeBase (.Name x np) "append" X.env (eval (.Name x np) X.env) = eval (.Name x np) X.env := by rfl)
    (hfew : ((backTo pos (starEach [a] X.env)).all (fun x => !x.1) && (backToKw pos (keywordEach [] X.env)).all (fun x => x.1.isSome)
      && decide (([a] : List Expr).length + ([] : List Keyword).length + (if ([] : List Keyword).isEmpty then 0 else 1) < 30)) = true := by rfl)
    (hline : (apos.endLine == pos.line) = true := by rfl) (hs : starEach [a] X.env = (false, eval a X.env) :: starEach [] X.env := by rfl) (hplain : (backTo pos (starEach [] X.env)).any (·.1) = false := by rfl) :
    PS X (.Expr (.Call (.Attribute (.Name x np) "append" apos) [a] [] pos) pos2) (tS (mx X xo) W (sApp i f)) :=
  PS.of (ps_expr (pe_bm PySem.F.plainAttrs_list PySem.F.slot_list_append PySem.F.type_list_append mt_append (pe_var hN hv hdb hcd) (pa_cons ha pa_nil hs) hbase hfew hline hs hplain) hsw) fun D σ H ⟨F, Y, G, e, hE, q⟩ => by
    unfold sApp at q
    cases hl : lstAt e i with
    | none => rw [hl] at q; exact q.elim
    | some ds0 =>
      rw [hl] at q
      obtain ⟨p, vs, h1, h2, h3, _⟩ := hE.lst hl
      refine ⟨_, h1, .inl ⟨rfl, vs, .inl (.inl h2)⟩, sOf_ok hE q _ fun d e1 v G1 H1 E1 g r q1 => ?_⟩
      cases hl1 : lstAt e1 i with
      | none => simp only [hl1] at q1; exact q1.elim
      | some ds =>
        simp only [hl1] at q1
        obtain ⟨p1, vs1, k1, k2, k3, k4, _⟩ := E1.lst hl1
        rw [h1] at k1
        cases k1
        split at q1
        · rename_i hz
          exact ⟨p, vs1, v, rfl, rfl, k2, by rw [k3.length]; exact Nat.lt_of_lt_of_le hz (by decide), q1 _ σ G1 _ (k4 _ _ (k3.append (Rps.one r))) (Gro.refl F G1)⟩
        · exact q1.elim
/-! ### lists that shift while an expression runs -/
/-- len(x) -/
def eLenS (i : Nat) : EX := fun e => match e[i]? with
  | some (.sl ds) => .val (.int ds.length) e
  | _ => .stuck
theorem pe_lenS {i : Nat} {x : Str} {np : Pos} (hm : X.mg "len" = none) (hg : Gl X "len") (hN : X.N[i]? = some x) (hv : Vis X.env.scope x) (hdb : (x == ("__debug__" : Str)) = false) (hcd : (x == ("__classdict__" : Str)) = false)
    (he : starEach (Expr.Name x np :: []) X.env = (false, eval (.Name x np) X.env) :: starEach [] X.env := by rfl) (hpl : (backTo pos (starEach [] X.env)).any (·.1) = false := by rfl) :
    PE X (.Call (.Name "len" p) [.Name x np] [] pos) (tD (mx X xo) W (eLenS i)) :=
  PE.of (pe_callB call_len hg hm boot_len (pa_cons (pe_var hN hv hdb hcd) pa_nil he) (by decide) (by decide) he hpl) fun σ H Q ⟨F, Y, G, e, hE, q⟩ => by
    unfold eLenS at q
    cases hs : e[i]? with
    | none => rw [hs] at q; exact q.elim
    | some s =>
      rw [hs] at q
      cases s with
      | sl ds =>
        obtain ⟨o, fp, h1, h2, _⟩ := hE.slot hs
        obtain ⟨p, vs, rfl, rfl, h3, h4⟩ := h2
        exact ⟨_, h1, _, vs.length, rfl, .inl ⟨vs, .inl (.inl h3), rfl⟩, q _ G H (Stp.refl hE) (by rw [h4.length]; rfl)⟩
      | _ => exact q.elim
/-- x.pop(e) -/
def ePopS (i : Nat) (f : EX) : EX := fun e => match e[i]? with
  | some (.sl _) => (f e).bind fun d e1 => match d, e1[i]? with
    | .int k, some (.sl ds) => if 0 ≤ k ∧ k < 2 ^ 62 then (match ds[k.toNat]? with
      | some y => .val y (e1.set i (.sl (ds.eraseIdx k.toNat)))
      | none => .stuck) else .stuck
    | _, _ => .stuck
  | _ => .stuck
theorem Rps.erase {M : Mt} {G : Hp} : ∀ {ds : List D} {vs : List V} (i : Nat), Rps M G ds vs → Rps M G (ds.eraseIdx i) (vs.eraseIdx i)
  | [], _, i, h => by
    rw [show _ = [] from h]
    exact rfl
  | d :: ds, _, 0, ⟨v, r, rfl, h1, h2⟩ => h2
  | d :: ds, _, i + 1, ⟨v, r, rfl, h1, h2⟩ => ⟨v, r.eraseIdx i, rfl, h1, Rps.erase i h2⟩
theorem pe_popS {i : Nat} {x : Str} {np apos : Pos} (hN : X.N[i]? = some x) (hv : Vis X.env.scope x) (hdb : (x == ("__debug__" : Str)) = false) (hcd : (x == ("__classdict__" : Str)) = false) (ha : PE X a (tD (mx X xo) W f))
    (hbase : attributeBase (.Name x np) "pop" X.env (eval (.Name x np) X.env) = eval (.Name x np) X.env := by rfl)
    (hfew : ((backTo pos (starEach [a] X.env)).all (fun x => !x.1) && (backToKw pos (keywordEach [] X.env)).all (fun x => x.1.isSome)
      && decide (([a] : List Expr).length + ([] : List Keyword).length + (if ([] : List Keyword).isEmpty then 0 else 1) < 30)) = true := by rfl)
    (hline : (apos.endLine == pos.line) = true := by rfl) (hs : starEach [a] X.env = (false, eval a X.env) :: starEach [] X.env := by rfl) (hplain : (backTo pos (starEach [] X.env)).any (·.1) = false := by rfl) :
    PE X (.Call (.Attribute (.Name x np) "pop" apos) [a] [] pos) (tD (mx X xo) W (ePopS i f)) :=
  PE.of (pe_bm PySem.F.plainAttrs_list PySem.F.slot_list_pop PySem.F.type_list_pop mt_popAt (pe_var hN hv hdb hcd) (pa_cons ha pa_nil hs) hbase hfew hline hs hplain) fun σ H Q ⟨F, Y, G, e, hE, q⟩ => by
    unfold ePopS at q
    cases hsl : e[i]? with
    | none => rw [hsl] at q; exact q.elim
    | some s =>
      rw [hsl] at q
      cases s with
      | sl ds0 =>
        obtain ⟨o, fp, h1, h2, _⟩ := hE.slot hsl
        obtain ⟨p0, vs, rfl, rfl, h3, h4⟩ := h2
        refine ⟨_, h1, .inl ⟨rfl, vs, .inl (.inl h3)⟩, F, Y, G, e, hE, Ok1.bind q fun d e1 v G1 H1 hr s1 q1 r => ?_⟩
        cases d with
        | int k =>
          cases hs2 : e1[i]? with
          | none => simp only [hs2] at q1; exact q1.elim
          | some s2 =>
            simp only [hs2] at q1
            cases s2 with
            | sl ds =>
              simp only at q1
              split at q1
              · rename_i hk
                cases hy : ds[k.toNat]? with
                | none => simp only [hy] at q1; exact q1.elim
                | some y =>
                  simp only [hy] at q1
                  obtain ⟨o, fp, k1, k2, k0, _⟩ := s1.env.slot hs2
                  obtain ⟨p1, ws, rfl, rfl, k3, k4⟩ := k2
                  rw [h1] at k1
                  cases k1
                  obtain ⟨w, hw, rw1⟩ := k4.get hy
                  have hlt : k.toNat < ws.length := (List.getElem?_eq_some_iff.mp hw).1
                  have hix : seqIndex? k ws.length = some k.toNat := by
                    unfold seqIndex?
                    have h0 : ¬ k < 0 := by omega
                    have h5 : (0 ≤ k && k < (ws.length : Int)) = true := by
                      rw [Bool.and_eq_true]
                      exact ⟨decide_eq_true hk.1, decide_eq_true (by omega)⟩
                    simp only [if_neg h0, h5, if_true]
                  rw [show v = .int k from r]
                  obtain ⟨p2, vs2, m1, m2, m3, m4, m5⟩ := s1.env.lst (i := i) (ds := ds) (by unfold lstAt; rw [hs2])
                  rw [h1] at m1
                  cases m1
                  rw [k3] at m2
                  cases m2
                  have E2 := m4 _ _ (k4.erase k.toNat)
                  have hput : putL e1 i (ds.eraseIdx k.toNat) = e1.set i (.sl (ds.eraseIdx k.toNat)) := by unfold putL; rw [hs2]
                  rw [hput] at E2
                  have hmem : p0 ∈ Y := m5 ⟨_, hs2⟩
                  exact ⟨p0, ws, k, k.toNat, w, rfl, rfl, k3, by omega, by omega, hix, hw, q1 w G1 _ ⟨E2, Ex.refl _, fun a o h5 h6 => by
                    rw [upd_ne (fun z : a = p0 => h6 (by rw [z]; exact hmem))]
                    exact h5, fun _ h5 => .inl h5⟩ rw1⟩
              · exact q1.elim
            | _ => exact q1.elim
        | _ => exact q1.elim
      | _ => exact q.elim
end
end TF
/-! #### text TFk -/
set_option Elab.async false
set_option linter.all false
set_option maxRecDepth 100000
set_option maxHeartbeats 2000000
/-! TFk: what a def promises. -/
namespace TF
open PySem L2 PySem.Spec PyProof.Rows
/-- the names' contents at a def's entry -/
def ev0 (n : Nat) (ds : List D) : Ev := ds.map S.fz ++ List.replicate (n - ds.length) .un
def runD (m : SX) (n : Nat) (ds : List D) : Rv := match m (ev0 n ds) with
  | .ret d _ => .ret d
  | .nx _ => .ret .non
  | .exc x _ => .exc x
  | _ => .stuck
theorem ev0_env {M : Mx} {F G H : Hp} {Y : List Addr} {N : List Str} {ds : List D} {vs : List V} (g : Ex G H) (f : Ex F H) (r : Rps M G ds vs) : Env M F Y G H (L2.start N vs) (ev0 N.length ds) := by
  have hl := r.length
  refine ⟨g, f, ?_, fun _ => [], fun i s hs => ?_, fun i j a ha => (by cases ha), fun i a ha => (by cases ha), fun i _ => rfl, fun i s a _ ha => (by cases ha)⟩
  · unfold L2.start ev0
    rw [List.length_append, List.length_append, List.length_map, List.length_map, List.length_replicate, List.length_replicate, hl]
  · unfold ev0 at hs
    by_cases hi : i < ds.length
    · rw [List.getElem?_append_left (by simpa using hi), List.getElem?_map, List.getElem?_eq_getElem hi] at hs
      cases hs
      obtain ⟨v, hv, rv⟩ := r.get (List.getElem?_eq_getElem hi)
      refine ⟨rfl, v, ?_, rv⟩
      unfold L2.start
      rw [List.getElem?_append_left (by rw [List.length_map, hl]; exact hi), List.getElem?_map, hv]
      rfl
    · rw [List.getElem?_append_right (by simpa using hi), List.getElem?_replicate] at hs
      split at hs
      · cases hs
        exact rfl
      · cases hs
section
variable {P : Program} {w : World} {K : PySem.W.Frag} {mg : Str → Option Value} {base : Heap} {x qual : Str} {params : Arguments} {body : List Stmt} {scope : Scope} {f : Addr} {fd : FuncData} {N ps : List Str} {k : Nat} {m : SX}
abbrev cxD (P : Program) (w : World) (K : PySem.W.Frag) (mg : Str → Option Value) (base : Heap) (N : List Str) (qual : Str) (scope : Scope) (f : Addr) (cdv : Value) (A : Around) (outer : List PySem.Env) (s : Shared) (H : Hp) (E : XK) : Cx := cxOf (L2.CX P w) P w K mg base N qual scope f cdv A outer s H E
theorem FunD.okD (F : FunD K x qual params body scope [] [] f fd) (S : FnScope N ps scope)
    (hb : ∀ (cdv : Value) (A : Around) (outer : List PySem.Env) (s : Shared) (H : Hp) (E : XK), Room k (cxD P w K mg base N qual scope f cdv A outer s H E).A → Takes (cxD P w K mg base N qual scope f cdv A outer s H E) (fun cls d _ H => E cls d H) →
      PassesOwn (model P w) (cxD P w K mg base N qual scope f cdv A outer s H E).A (cxD P w K mg base N qual scope f cdv A outer s H E).env (cxD P w K mg base N qual scope f cdv A outer s H E).xe →
      PSs (cxD P w K mg base N qual scope f cdv A outer s H E) body (tS (mx (cxD P w K mg base N qual scope f cdv A outer s H E) none) (fun cls d _ H => E cls d H) m)) :
    FnOk P w K mg base (L2.CX P w) (k + 1) f fd ps (spD ⟨P, w, K⟩ ps.length (runD m N.length)) := by
  refine F.ok S (fun vs H Q E ⟨G, ds, _, hl, _⟩ => hl) fun cdv A outer s H vs Q E hr ⟨G, ds, g, hl, r, q⟩ => ⟨_, hb cdv A outer s H E hr (takes_of rfl rfl rfl rfl) (passes_of rfl), H, [], G, ev0 N.length ds, ev0_env g (Ex.refl H) r, ?_⟩
  unfold runD at q
  have nw : ∀ {Y : List Addr} {σ : L2.St} {e : Ev} {G' H' : Hp}, Env (mx (cxD P w K mg base N qual scope f cdv A outer s H E) none) H Y G' H' σ e → Gro H G G' → Nw G H G' H' := fun E' g' => ⟨g'.gg, E'.gh, E'.fh, g'.nw⟩
  cases hm : m (ev0 N.length ds) with
  | stuck => rw [hm] at q; exact q
  | bk e => rw [hm] at q; exact q.elim
  | ct e => rw [hm] at q; exact q.elim
  | nx e => rw [hm] at q; exact fun Y σ' G' H' E' g' => q .non G' H' (nw E' g') rfl
  | ret d e => rw [hm] at q; exact fun v Y σ' G' H' E' g' r' => q v G' H' (nw E' g') r'
  | exc y e => rw [hm] at q; exact fun cls a Y σ' G' H' E' g' hx => q cls a G' H' (nw E' g') hx
/-- what a def of the module promises -/
structure Dfn (P : Program) (w : World) (K : PySem.W.Frag) (mg : Str → Option Value) (base : Heap) (x : Str) (k n : Nat) (r : List D → Rv) : Prop where
  ex : ∃ f fd ps, FnOk P w K mg base (L2.CX P w) k f fd ps (spD ⟨P, w, K⟩ n r) ∧ mg x = some (.ref f) ∧ PySem.W.keepIn K (.ref f) = true ∧ Binds K fd ps []
theorem Dfn.cal {X : Cx} {x : Str} {k n : Nat} {r : List D → Rv} (h : Dfn X.prog X.w X.K X.mg X.base x k n r) : Cal X x k n r := ⟨h.ex⟩
theorem Dfn.mono {j : Nat} {n : Nat} {r : List D → Rv} (h : Dfn P w K mg base x k n r) (hj : k ≤ j) : Dfn P w K mg base x j n r := by
  obtain ⟨f, fd, ps, F, h1, h2, h3⟩ := h.ex
  exact ⟨f, fd, ps, F.mono hj, h1, h2, h3⟩
/-- a plainer function -/
theorem spD_imp {M : Mt} {n : Nat} {r r' : List D → Rv} (h : ∀ ds, r' ds = .stuck ∨ r ds = r' ds) {vs : List V} {H : Hp} {Q : VK} {E : XK} (q : spD M n r' vs H Q E) : spD M n r vs H Q E := by
  obtain ⟨G, ds, g, hl, rr, q⟩ := q
  refine ⟨G, ds, g, hl, rr, ?_⟩
  rcases h ds with e | e
  · rw [e] at q; exact q.elim
  · rw [e]; exact q
theorem Dfn.imp {n : Nat} {r r' : List D → Rv} (h : Dfn P w K mg base x k n r) (hr : ∀ ds, r' ds = .stuck ∨ r ds = r' ds) : Dfn P w K mg base x k n r' := by
  obtain ⟨f, fd, ps, F, h1, h2, h3⟩ := h.ex
  exact ⟨f, fd, ps, F.imp fun vs H Q E q => spD_imp hr q, h1, h2, h3⟩
/-! ### defs that draw -/
structure Src where
  st : Int
  cells : List Int
  ix : Int
def evS (n : Nat) (p q : Addr) (s : Src) (ds : List D) : Ev := .src p q s.st s.cells s.ix :: ds.map S.fz ++ List.replicate (n - (ds.length + 1)) .un
def srcO1 (q : Addr) (s : Src) : HO := .lst [.int s.st, .ref q, .int s.ix]
def srcO2 (s : Src) : HO := .lst (s.cells.map V.int)
structure NwS (G H : Hp) (p q : Addr) (G' H' : Hp) : Prop where
  gg : Ex G G'
  gh : Ex G' H'
  hh : ∀ a o, H a = some o → a ≠ p → a ≠ q → H' a = some o
  nw : ∀ a, G' a ≠ none → G a ≠ none ∨ H a = none
def spS (M : Mt) (n : Nat) (r : Src → List D → Option (D × Src)) : Sp := fun vs H Q E => ∃ G p q s ds vr d s', vs = .ref p :: vr ∧ vr.length = n ∧ Ex G H ∧ H p = some (srcO1 q s) ∧ H q = some (srcO2 s) ∧ G p = none ∧ G q = none ∧ Rps M G ds vr ∧ r s ds = some (d, s') ∧
  ∀ v G' H', NwS G H p q G' H' → H' p = some (srcO1 q s') → H' q = some (srcO2 s') → Rp M G' d v → Q v H'
theorem src_ne {H : Hp} {p q : Addr} {s : Src} (h1 : H p = some (srcO1 q s)) (h2 : H q = some (srcO2 s)) : p ≠ q := fun z => by
  subst z
  rw [h1] at h2
  unfold srcO1 srcO2 at h2
  have h3 := Option.some.inj h2
  injection h3 with h3
  cases hc : s.cells with
  | nil => rw [hc] at h3; cases h3
  | cons c r =>
    rw [hc] at h3
    cases r with
    | nil => cases h3
    | cons c2 r => simp at h3
theorem evS_env {M : Mx} {G H : Hp} {N : List Str} {p q : Addr} {s : Src} {ds : List D} {vr : List V} (g : Ex G H) (h1 : H p = some (srcO1 q s)) (h2 : H q = some (srcO2 s)) (hp : G p = none) (hq : G q = none) (r : Rps M G ds vr) (hN : ds.length + 1 ≤ N.length) :
    Env M (fun a => if a = p ∨ a = q then none else H a) [p, q] G H (L2.start N (.ref p :: vr)) (evS N.length p q s ds) := by
  have hl := r.length
  refine ⟨g, fun a o ha => ?_, ?_, fun i => if i = 0 then [p, q] else [], fun i t ht => ?_, fun i j a ha hb => ?_, fun i a ha => ?_, fun i hi => ?_, fun i t a ht ha => ?_⟩
  · by_cases z : a = p ∨ a = q
    · rw [if_pos z] at ha; cases ha
    · rw [if_neg z] at ha; exact ha
  · unfold L2.start evS
    simp only [List.length_append, List.length_map, List.length_replicate, List.length_cons, hl]
  · cases i with
    | zero =>
      unfold evS at ht
      simp only [List.cons_append, List.getElem?_cons_zero, Option.some.injEq] at ht
      subst ht
      simp only [if_pos]
      exact ⟨rfl, rfl, h1, h2⟩
    | succ i =>
      simp only [Nat.succ_ne_zero, if_false]
      unfold evS at ht
      simp only [List.cons_append, List.getElem?_cons_succ] at ht
      by_cases hi : i < ds.length
      · rw [List.getElem?_append_left (by simpa using hi), List.getElem?_map, List.getElem?_eq_getElem hi] at ht
        cases ht
        obtain ⟨v, hv, rv⟩ := r.get (List.getElem?_eq_getElem hi)
        refine ⟨rfl, v, ?_, rv⟩
        unfold L2.start
        simp only [List.map_cons, List.cons_append, List.getElem?_cons_succ]
        rw [List.getElem?_append_left (by rw [List.length_map, hl]; exact hi), List.getElem?_map, hv]
        rfl
      · rw [List.getElem?_append_right (by simpa using hi), List.getElem?_replicate] at ht
        split at ht
        · cases ht
          exact rfl
        · cases ht
  · by_cases hi : i = 0
    · by_cases hj : j = 0
      · rw [hi, hj]
      · simp only [if_neg hj] at hb; cases hb
    · simp only [if_neg hi] at ha; cases ha
  · by_cases hi : i = 0
    · simp only [if_pos hi, List.mem_cons, List.not_mem_nil, or_false] at ha
      refine ⟨?_, by simp only [if_pos ha]⟩
      rcases ha with rfl | rfl
      · exact hp
      · exact hq
    · simp only [if_neg hi] at ha; cases ha
  · by_cases h0 : i = 0
    · subst h0
      unfold evS at hi
      simp at hi
    · simp only [if_neg h0]
  · by_cases h0 : i = 0
    · subst h0
      unfold evS at ht
      simp only [List.cons_append, List.getElem?_cons_zero, Option.some.injEq] at ht
      subst ht
      simp only [if_pos] at ha
      exact ⟨fun _ => ha, fun _ => rfl⟩
    · simp only [if_neg h0] at ha; cases ha
theorem FunD.okS {n : Nat} {r : Src → List D → Option (D × Src)} (F : FunD K x qual params body scope [] [] f fd) (S : FnScope N ps scope) (hn : ps.length = n + 1) (hN : n + 1 ≤ N.length)
    (hb : ∀ (cdv : Value) (A : Around) (outer : List PySem.Env) (s : Shared) (H : Hp) (E : XK), Room k (cxD P w K mg base N qual scope f cdv A outer s H E).A → Takes (cxD P w K mg base N qual scope f cdv A outer s H E) (fun cls d _ H => E cls d H) →
      PassesOwn (model P w) (cxD P w K mg base N qual scope f cdv A outer s H E).A (cxD P w K mg base N qual scope f cdv A outer s H E).env (cxD P w K mg base N qual scope f cdv A outer s H E).xe →
      PSs (cxD P w K mg base N qual scope f cdv A outer s H E) body (tS (mx (cxD P w K mg base N qual scope f cdv A outer s H E) none) (fun cls d _ H => E cls d H) m))
    (hr : ∀ (p q : Addr) s ds d s', ds.length = n → r s ds = some (d, s') → ∃ e, m (evS N.length p q s ds) = .ret d e ∧ e[0]? = some (.src p q s'.st s'.cells s'.ix)) :
    FnOk P w K mg base (L2.CX P w) (k + 1) f fd ps (spS ⟨P, w, K⟩ n r) := by
  refine F.ok S (fun vs H Q E ⟨G, p, q, s, ds, vr, d, s', e, hl, _⟩ => by rw [e, List.length_cons, hl, hn]) fun cdv A outer s0 H vs Q E hroom ⟨G, p, q, s, ds, vr, d, s', e, hl, g, h1, h2, hp, hq, rr, hrs, hQ⟩ => ⟨_, hb cdv A outer s0 H E hroom (takes_of rfl rfl rfl rfl) (passes_of rfl), ?_⟩
  subst e
  have hdl : ds.length = n := by rw [← rr.length, hl]
  refine ⟨_, _, G, evS N.length p q s ds, evS_env g h1 h2 hp hq rr (by omega), ?_⟩
  obtain ⟨e, hm, he⟩ := hr p q s ds d s' hdl hrs
  rw [hm]
  intro v Y σ' G' H' E' g' r'
  obtain ⟨o, fp, k1, k2, k0, _⟩ := E'.slot he
  obtain ⟨rfl, rfl, k3, k4⟩ := k2
  refine hQ v G' H' ⟨g'.gg, E'.gh, fun a o ha n1 n2 => E'.fh a o ?_, fun a ha => ?_⟩ k3 k4 r'
  · simp only [n1, n2, or_self, if_false]
    exact ha
  · rcases g'.nw a ha with z | z
    · exact .inl z
    · by_cases h5 : a = p ∨ a = q
      · have : G' a = none := by
          rcases h5 with rfl | rfl
          · exact (k0 _ List.mem_cons_self).1
          · exact (k0 _ (List.mem_cons_of_mem _ List.mem_cons_self)).1
        exact absurd this ha
      · rw [if_neg h5] at z
        exact .inr z
end
end TF
/-! #### text TFl -/
set_option Elab.async false
set_option linter.all false
set_option maxRecDepth 100000
set_option maxHeartbeats 2000000
/-! TFl: the source of draws; products; a, b = .. -/
namespace TF
open PySem L2 PySem.Spec PyProof.Rows
/-! ### products -/
def okBits (i : Int) : Bool := decide (Builtin.Int.intBits i ≤ 64)
def dMulI : D → D → Option D
  | .int i, .int j => if okBits i || okBits j then some (.int (i * j)) else none
  | _, _ => none
section
variable {X : Cx} {xo : Xo} {W : WX} {a b c : Expr} {f g h : EX} {fs : List EX} {es : List Expr} {m n : SX} {pos p : Pos}
theorem op_mulS : OpR X (binaryOp .Mult) (rI IntMulOk fun i j => .int (i * j)) := opI fun _ _ _ _ _ _ _ hc q => mul_int q hc
theorem opD_mulI : OpR X (binaryOp .Mult) (rD2 (mx X xo) dMulI) := fun pins s σ H x y v u Q I rx ry h => by
  obtain ⟨G, i, j, d, g, rfl, rfl, hd, q⟩ := rD2_int h fun a b d e => by cases a <;> cases b <;> simp [dMulI] at e ⊢
  simp only [dMulI] at hd
  split at hd
  · rename_i hc
    cases hd
    simp only [Bool.or_eq_true, okBits, decide_eq_true_eq] at hc
    have hc' : IntMulOk i j := hc.elim IntMulOk.of_left IntMulOk.of_right
    exact op_mulS pins s σ H _ _ v u Q I rx ry ⟨i, j, rfl, rfl, hc', q _ G H (Nw.refl g) rfl⟩
  · cases hd
/-! ### the source, read -/
def eSrcK (i : Nat) (k : Int) : EX := fun e => match e[i]? with
  | some (.src _ _ st _ ix) => if k = 0 then .val (.int st) e else if k = 2 then .val (.int ix) e else .stuck
  | _ => .stuck
def eSrcLen (i : Nat) : EX := fun e => match e[i]? with
  | some (.src _ _ _ cells _) => .val (.int cells.length) e
  | _ => .stuck
/-- x[1] + [0] -/
def eSrcCat (i : Nat) : EX := fun e => match e[i]? with
  | some (.src _ _ _ cells _) => if cells.length ≤ 1000 then .val (.lst ((cells ++ [0]).map D.int)) e else .stuck
  | _ => .stuck
theorem Env.src {M : Mx} {F G H : Hp} {σ : L2.St} {e : Ev} (E : Env M F Y G H σ e) {i : Nat} {p q : Addr} {st : Int} {cells : List Int} {ix : Int} (h : e[i]? = some (.src p q st cells ix)) :
    σ[i]? = some (some (.ref p)) ∧ H p = some (.lst [.int st, .ref q, .int ix]) ∧ H q = some (.lst (cells.map V.int)) ∧ p ∈ Y ∧ q ∈ Y := by
  obtain ⟨o, fp, h1, h2, _, h5⟩ := E.slot h
  obtain ⟨rfl, rfl, h3, h4⟩ := h2
  exact ⟨h1, h3, h4, (h5 p List.mem_cons_self).mp rfl, (h5 q (List.mem_cons_of_mem _ List.mem_cons_self)).mp rfl⟩
theorem src_raw {i : Nat} {x : Str} {k : Int} {j : Nat} {np cp : Pos} (hN : X.N[i]? = some x) (hv : Vis X.env.scope x) (hdb : (x == ("__debug__" : Str)) = false) (hcd : (x == ("__classdict__" : Str)) = false) (hs : PlainIx (.Constant (.int k) j cp)) :
    PE X (.Subscript (.Name x np) (.Constant (.int k) j cp) pos) (tOp (rIxL X.K) (tVar i) (tC (.int k))) := pe_ix ix_list (pe_var hN hv hdb hcd) pe_int hs
theorem pe_srcK {i : Nat} {x : Str} {k : Int} {j : Nat} {np cp : Pos} (hN : X.N[i]? = some x) (hv : Vis X.env.scope x) (hdb : (x == ("__debug__" : Str)) = false) (hcd : (x == ("__classdict__" : Str)) = false) (hs : PlainIx (.Constant (.int k) j cp)) :
    PE X (.Subscript (.Name x np) (.Constant (.int k) j cp) pos) (tD (mx X xo) W (eSrcK i k)) := PE.of (src_raw hN hv hdb hcd hs) fun σ H Q ⟨F, Y, G, e, hE, q⟩ => by
  unfold eSrcK at q
  cases hs : e[i]? with
  | none => rw [hs] at q; exact q.elim
  | some t =>
    rw [hs] at q
    cases t with
    | src p q0 st cells ix =>
      obtain ⟨h1, h2, h3, _⟩ := hE.src hs
      simp only at q
      split at q
      · rename_i hk
        subst hk
        exact ⟨_, h1, _, _, 0, _, rfl, rfl, .inl (.inl h2), rfl, q _ G H (Stp.refl hE) rfl⟩
      · split at q
        · rename_i hk
          subst hk
          exact ⟨_, h1, _, _, 2, _, rfl, rfl, .inl (.inl h2), rfl, q _ G H (Stp.refl hE) rfl⟩
        · exact q.elim
    | _ => exact q.elim
theorem pe_srcLen {i : Nat} {x : Str} {j : Nat} {np cp spos : Pos} (hm : X.mg "len" = none) (hg : Gl X "len") (hN : X.N[i]? = some x) (hv : Vis X.env.scope x) (hdb : (x == ("__debug__" : Str)) = false) (hcd : (x == ("__classdict__" : Str)) = false) (hs : PlainIx (.Constant (.int 1) j cp))
    (he : starEach (Expr.Subscript (.Name x np) (.Constant (.int 1) j cp) spos :: []) X.env = (false, eval (.Subscript (.Name x np) (.Constant (.int 1) j cp) spos) X.env) :: starEach [] X.env := by rfl) (hpl : (backTo pos (starEach [] X.env)).any (·.1) = false := by rfl) :
    PE X (.Call (.Name "len" p) [.Subscript (.Name x np) (.Constant (.int 1) j cp) spos] [] pos) (tD (mx X xo) W (eSrcLen i)) :=
  PE.of (pe_callB call_len hg hm boot_len (pa_cons (src_raw hN hv hdb hcd hs) pa_nil he) (by decide) (by decide) he hpl) fun σ H Q ⟨F, Y, G, e, hE, q⟩ => by
    unfold eSrcLen at q
    cases hs : e[i]? with
    | none => rw [hs] at q; exact q.elim
    | some t =>
      rw [hs] at q
      cases t with
      | src p q0 st cells ix =>
        obtain ⟨h1, h2, h3, _⟩ := hE.src hs
        exact ⟨_, h1, _, _, 1, _, rfl, rfl, .inl (.inl h2), rfl, _, cells.length, rfl, .inl ⟨_, .inl (.inl h3), by rw [List.length_map]⟩, q _ G H (Stp.refl hE) rfl⟩
      | _ => exact q.elim
theorem rps_ints {M : Mt} {G : Hp} : ∀ l : List Int, Rps M G (l.map D.int) (l.map V.int)
  | [] => rfl
  | i :: l => ⟨_, _, rfl, rfl, rps_ints l⟩
theorem pe_srcCat {i : Nat} {x : Str} {j j2 : Nat} {np cp cp2 spos lpos : Pos} (hN : X.N[i]? = some x) (hv : Vis X.env.scope x) (hdb : (x == ("__debug__" : Str)) = false) (hcd : (x == ("__classdict__" : Str)) = false) (hs : PlainIx (.Constant (.int 1) j cp)) (hse : starEach [Expr.Constant (.int 0) j2 cp2] X.env = (false, eval (.Constant (.int 0) j2 cp2) X.env) :: starEach [] X.env := by rfl) :
    PE X (.BinOp (.Subscript (.Name x np) (.Constant (.int 1) j cp) spos) .Add (.List [.Constant (.int 0) j2 cp2] lpos) pos) (tD (mx X xo) W (eSrcCat i)) :=
  PE.of (pe_op op_cat (src_raw hN hv hdb hcd hs) (pe_lst (pa_cons pe_int pa_nil hse))) fun σ H Q ⟨F, Y, G, e, hE, q⟩ => by
    unfold eSrcCat at q
    cases hs : e[i]? with
    | none => rw [hs] at q; exact q.elim
    | some t =>
      rw [hs] at q
      cases t with
      | src p q0 st cells ix =>
        simp only at q
        split at q
        · rename_i hz
          obtain ⟨h1, h2, h3, _⟩ := hE.src hs
          refine ⟨_, h1, _, _, 1, _, rfl, rfl, .inl (.inl h2), rfl, ⟨by decide, fun l hl => ?_⟩⟩
          refine ⟨q0, l, cells.map V.int, [.int 0], rfl, rfl, by rw [upd_ne (ne_of_none h3 hl)]; exact h3, upd_same, by rw [List.length_map]; exact Nat.le_trans (Nat.add_le_add_right hz 1) (by decide), fun l2 hl2 => ?_⟩
          have n1 := Nw.new (o := .lst [V.int 0]) hE.gh hl
          have n2 := Nw.new (o := .lst (cells.map V.int ++ [V.int 0])) n1.gh hl2
          have s := Stp.ofN hE (n1.trans n2)
          refine q _ _ _ s (Rp.of_lst ?_ (n1.gh.back hl2))
          have : (cells.map V.int ++ [V.int 0]) = (cells ++ [0]).map V.int := by rw [List.map_append]; rfl
          rw [this]
          exact rps_ints _
        · exact q.elim
      | _ => exact q.elim
/-! ### the source, changed -/
def setSrc (e : Ev) (i : Nat) (k : Int) (d : Int) : Option Ev := match e[i]? with
  | some (.src p q st cells ix) => if k = 0 then some (e.set i (.src p q d cells ix)) else if k = 2 then some (e.set i (.src p q st cells d)) else none
  | _ => none
theorem Env.mut2 {M : Mx} {F G H : Hp} {σ : L2.St} {e : Ev} (h : Env M F Y G H σ e) {i : Nat} {p q : Addr} {st st' : Int} {cells cells' : List Int} {ix ix' : Int} (hs : e[i]? = some (.src p q st cells ix)) {H' : Hp} (hp : H' p = some (.lst [.int st', .ref q, .int ix'])) (hq : H' q = some (.lst (cells'.map V.int))) (ho : ∀ a, a ≠ p → a ≠ q → H' a = H a) :
    Env M F Y G H' σ (e.set i (.src p q st' cells' ix')) := by
  obtain ⟨fp, h1, h2, h3, h4, h5⟩ := h.sl
  obtain ⟨k1, k2, k3, k4⟩ := h1 i _ hs
  have np : ∀ a, G a ≠ none ∨ F a ≠ none → a ≠ p ∧ a ≠ q := fun a ha => by
    refine ⟨fun z => ?_, fun z => ?_⟩
    · subst z
      have := h3 i a (by rw [k2]; exact List.mem_cons_self)
      exact ha.elim (fun y => y this.1) fun y => y this.2
    · subst z
      have := h3 i a (by rw [k2]; exact List.mem_cons_of_mem _ List.mem_cons_self)
      exact ha.elim (fun y => y this.1) fun y => y this.2
  refine ⟨fun a o ha => ?_, fun a o ha => ?_, by rw [List.length_set]; exact h.len, fp, fun j t hj => ?_, h2, h3, fun j hj => ?_, fun j t a hj ha => ?_⟩
  · obtain ⟨z1, z2⟩ := np a (.inl (by rw [ha]; exact fun z => nomatch z))
    rw [ho a z1 z2]
    exact h.gh a o ha
  · obtain ⟨z1, z2⟩ := np a (.inr (by rw [ha]; exact fun z => nomatch z))
    rw [ho a z1 z2]
    exact h.fh a o ha
  · by_cases e1 : j = i
    · subst e1
      obtain ⟨hl, he⟩ := List.getElem?_eq_some_iff.mp hj
      rw [List.getElem_set_self] at he
      subst he
      exact ⟨k1, k2, hp, hq⟩
    · rw [List.getElem?_set_ne (Ne.symm e1)] at hj
      refine (h1 j t hj).step (Ex.refl _) fun a ha => ho a (fun z => ?_) fun z => ?_
      · subst z
        exact e1 (h2 j i a ha (by rw [k2]; exact List.mem_cons_self))
      · subst z
        exact e1 (h2 j i a ha (by rw [k2]; exact List.mem_cons_of_mem _ List.mem_cons_self))
  · refine h4 j ?_
    by_cases e1 : j = i
    · subst e1
      rw [List.getElem?_eq_none_iff, List.length_set] at hj
      exact List.getElem?_eq_none_iff.mpr hj
    · rw [List.getElem?_set_ne (Ne.symm e1)] at hj
      exact hj
  · by_cases e1 : j = i
    · subst e1
      obtain ⟨hl, he⟩ := List.getElem?_eq_some_iff.mp hj
      rw [List.getElem_set_self] at he
      subst he
      exact h5 j (.src p q st cells ix) a hs ha
    · rw [List.getElem?_set_ne (Ne.symm e1)] at hj
      exact h5 j t a hj ha
theorem src_q_ne {H : Hp} {p q : Addr} {st ix : Int} {cells : List Int} (h1 : H p = some (.lst [.int st, .ref q, .int ix])) (h2 : H q = some (.lst (cells.map V.int))) : p ≠ q := src_ne (s := ⟨st, cells, ix⟩) h1 h2
/-- x[k] = e, the state or the index -/
def sSetSrc (i : Nat) (k : Int) : D → SX := fun d e => match d with
  | .int v => (match setSrc e i k v with
    | some e1 => .nx e1
    | none => .stuck)
  | _ => .stuck
theorem ps_setSrc {i : Nat} {x : Str} {k : Int} {j : Nat} {np cp spos : Pos} (hN : X.N[i]? = some x) (hv : Vis X.env.scope x) (hdb : (x == ("__debug__" : Str)) = false) (hcd : (x == ("__classdict__" : Str)) = false) (he : PE X a (tD (mx X xo) W f))
    (hsw : swapsWithSole [.Subscript (.Name x np) (.Constant (.int k) j cp) spos] a pos.line X.env = pure false := by rfl) (hw : swappedStores [.Subscript (.Name x np) (.Constant (.int k) j cp) spos] a X.env = pure none := by rfl)
    (hone : (assignEach [.Subscript (.Name x np) (.Constant (.int k) j cp) spos] X.env).map (fun x => x.2) = [assign (.Subscript (.Name x np) (.Constant (.int k) j cp) spos) X.env] := by rfl)
    (ha : ∀ v, assign (.Subscript (.Name x np) (.Constant (.int k) j cp) spos) X.env v = (do
      let ov ← holding [v] (eval (.Name x np) X.env)
      let iv ← holding [v, ov] (eval (.Constant (.int k) j cp) X.env)
      standAt spos
      holding [v, ov, iv] (setItem ov iv v)
      release [v, ov, iv] []) := by intro _; rfl) :
    PS X (.Assign [.Subscript (.Name x np) (.Constant (.int k) j cp) spos] a pos) (tS (mx X xo) W (sOf f (sSetSrc i k))) :=
  PS.of (ps_asg he (pg_sub (pe_var hN hv hdb hcd) pe_int set_list ha) hsw hw hone) fun D σ H ⟨F, Y, G, e, hE, q⟩ => sOf_ok hE q _ fun d e1 v G1 H1 E1 g r q1 => by
    unfold sSetSrc at q1
    cases d with
    | int z =>
      simp only at q1
      unfold setSrc at q1
      cases hs : e1[i]? with
      | none => simp only [hs] at q1; exact q1.elim
      | some t =>
        simp only [hs] at q1
        cases t with
        | src p q0 st cells ix =>
          obtain ⟨h1, h2, h3, _⟩ := E1.src hs
          have ne := src_q_ne h2 h3
          obtain rfl : v = .int z := r
          simp only at q1
          split at q1
          · rename_i e2 he2
            split at he2
            · rename_i hk
              cases he2
              subst hk
              refine ⟨_, h1, p, _, 0, 0, rfl, rfl, h2, rfl, q1 _ σ G1 _ (E1.mut2 hs (st' := z) (ix' := ix) (cells' := cells) upd_same (by rw [upd_ne (Ne.symm ne)]; exact h3) fun a n1 n2 => upd_ne n1) (Gro.refl F G1)⟩
            · split at he2
              · rename_i hk
                cases he2
                subst hk
                refine ⟨_, h1, p, _, 2, 2, rfl, rfl, h2, rfl, q1 _ σ G1 _ (E1.mut2 hs (st' := st) (ix' := z) (cells' := cells) upd_same (by rw [upd_ne (Ne.symm ne)]; exact h3) fun a n1 n2 => upd_ne n1) (Gro.refl F G1)⟩
              · cases he2
          · exact q1.elim
        | _ => simp only at q1; exact q1.elim
    | _ => exact q1.elim
/-- x[1][k] = e -/
def sSetCell (i : Nat) (fi : EX) : D → SX := fun d e => match d, e[i]? with
  | .int v, some (.src _ q0 _ _ _) => sOf fi (fun dk e1 => match dk, e1[i]? with
    | .int k, some (.src p q st cells ix) => if q = q0 ∧ 0 ≤ k ∧ k < (cells.length : Int) then .nx (e1.set i (.src p q st (cells.set k.toNat v) ix)) else .stuck
    | _, _ => .stuck) e
  | _, _ => .stuck
theorem ps_setCell {i : Nat} {x : Str} {j : Nat} {np cp spos spos2 : Pos} {fi : EX} (hN : X.N[i]? = some x) (hv : Vis X.env.scope x) (hdb : (x == ("__debug__" : Str)) = false) (hcd : (x == ("__classdict__" : Str)) = false) (hs1 : PlainIx (.Constant (.int 1) j cp)) (he : PE X a (tD (mx X xo) W f)) (hb : PE X b (tD (mx X xo) W fi))
    (hsw : swapsWithSole [.Subscript (.Subscript (.Name x np) (.Constant (.int 1) j cp) spos2) b spos] a pos.line X.env = pure false := by rfl) (hw : swappedStores [.Subscript (.Subscript (.Name x np) (.Constant (.int 1) j cp) spos2) b spos] a X.env = pure none := by rfl)
    (hone : (assignEach [.Subscript (.Subscript (.Name x np) (.Constant (.int 1) j cp) spos2) b spos] X.env).map (fun x => x.2) = [assign (.Subscript (.Subscript (.Name x np) (.Constant (.int 1) j cp) spos2) b spos) X.env] := by rfl)
    (ha : ∀ v, assign (.Subscript (.Subscript (.Name x np) (.Constant (.int 1) j cp) spos2) b spos) X.env v = (do
      let ov ← holding [v] (eval (.Subscript (.Name x np) (.Constant (.int 1) j cp) spos2) X.env)
      let iv ← holding [v, ov] (eval b X.env)
      standAt spos
      holding [v, ov, iv] (setItem ov iv v)
      release [v, ov, iv] []) := by intro _; rfl) :
    PS X (.Assign [.Subscript (.Subscript (.Name x np) (.Constant (.int 1) j cp) spos2) b spos] a pos) (tS (mx X xo) W (sOf f (sSetCell i fi))) :=
  PS.of (ps_asg he (pg_sub (src_raw hN hv hdb hcd hs1) hb set_list ha) hsw hw hone) fun D σ H ⟨F, Y, G, e, hE, q⟩ => sOf_ok hE q _ fun d e1 v G1 H1 E1 g r q1 => by
    unfold sSetCell at q1
    cases d with
    | int z =>
      obtain rfl : v = .int z := r
      cases hs : e1[i]? with
      | none => simp only [hs] at q1; exact q1.elim
      | some t =>
        cases t with
        | src p0 q0 st0 cells0 ix0 =>
          simp only [hs] at q1
          obtain ⟨k1, k2, k3, _⟩ := E1.src hs
          refine ⟨_, k1, _, _, 1, _, rfl, rfl, .inl (.inl k2), rfl, sOf_ok E1 q1 _ fun dk e2 vk G2 H2 E2 g2 rk q2 => ?_⟩
          cases dk with
          | int k =>
            obtain rfl : vk = .int k := rk
            cases hs2 : e2[i]? with
            | none => simp only [hs2] at q2; exact q2.elim
            | some t2 =>
              cases t2 with
              | src p q st cells ix =>
                simp only [hs2] at q2
                split at q2
                · rename_i hc
                  obtain ⟨rfl, hk0, hk1⟩ := hc
                  obtain ⟨m1, m2, m3, _⟩ := E2.src hs2
                  have ne := src_q_ne m2 m3
                  have hix : ixN (cells.map V.int).length k = some k.toNat := by
                    unfold ixN
                    rw [if_pos hk0, if_pos (by rw [List.length_map]; omega)]
                  refine ⟨q, _, k, k.toNat, rfl, rfl, m3, hix, q2 _ σ G2 _ (E2.mut2 hs2 (st' := st) (ix' := ix) (cells' := cells.set k.toNat z) (by rw [upd_ne ne]; exact m2) (by rw [upd_same, List.map_set]) fun a n1 n2 => upd_ne n2) (Gro.refl F G2)⟩
                · exact q2.elim
              | _ => simp only [hs2] at q2; exact q2.elim
          | _ => exact q2.elim
        | _ => simp only [hs] at q1; exact q1.elim
    | _ => exact q1.elim
/-! ### calls with the source -/
def eCallS (r : Src → List D → Option (D × Src)) (i : Nat) (fs : List EX) : EX := fun e => match e[i]? with
  | some (.src _ q0 _ _ _) => (match evs fs e with
    | .val ds e1 => (match e1[i]? with
      | some (.src p q st cells ix) => if q = q0 then (match r ⟨st, cells, ix⟩ ds with
        | some (d, s') => .val d (e1.set i (.src p q s'.st s'.cells s'.ix))
        | none => .stuck) else .stuck
      | _ => .stuck)
    | .exc x e1 => .exc x e1
    | .stuck => .stuck)
  | _ => .stuck
/-- what a caller needs of a def that draws -/
structure DfS (P : Program) (w : World) (K : PySem.W.Frag) (mg : Str → Option Value) (base : Heap) (x : Str) (k n : Nat) (r : Src → List D → Option (D × Src)) : Prop where
  ex : ∃ f fd ps, FnOk P w K mg base (L2.CX P w) k f fd ps (spS ⟨P, w, K⟩ n r) ∧ mg x = some (.ref f) ∧ PySem.W.keepIn K (.ref f) = true ∧ Binds K fd ps []
theorem DfS.mono {P : Program} {w : World} {K : PySem.W.Frag} {mg : Str → Option Value} {base : Heap} {x : Str} {k j : Nat} {n : Nat} {r : Src → List D → Option (D × Src)} (h : DfS P w K mg base x k n r) (hj : k ≤ j) : DfS P w K mg base x j n r := by
  obtain ⟨f, fd, ps, F, h1, h2, h3⟩ := h.ex
  exact ⟨f, fd, ps, F.mono hj, h1, h2, h3⟩
theorem pe_callSrc {fn x : Str} {k n i : Nat} {r : Src → List D → Option (D × Src)} {np : Pos} (F : DfS X.prog X.w X.K X.mg X.base fn k n r) (hr : Room k X.A) (tk : Takes X W) (hdb : (fn == ("__debug__" : Str)) = false) (hg : Gl X fn) (hN : X.N[i]? = some x) (hv : Vis X.env.scope x) (hdb2 : (x == ("__debug__" : Str)) = false) (hcd : (x == ("__classdict__" : Str)) = false)
    (hfl : fs.length = n) (ha : PA X es (tF (mx X xo) W fs)) (he : starEach (Expr.Name x np :: es) X.env = (false, eval (.Name x np) X.env) :: starEach es X.env := by rfl) (hpl : (backTo pos (starEach es X.env)).any (·.1) = false := by rfl) :
    PE X (.Call (.Name fn p) (.Name x np :: es) [] pos) (tD (mx X xo) W (eCallS r i fs)) := by
  obtain ⟨f, fd, ps, F, hm, hk, hb⟩ := F.ex
  refine PE.of (pe_callS F hr hg hm hk hb (fun σ => passAt tk σ) (pa_cons (pe_var hN hv hdb2 hcd) ha he) hdb he hpl) fun σ H Q ⟨F, Y, G, e, hE, q⟩ => ?_
  unfold eCallS at q
  cases hs : e[i]? with
  | none => simp only [hs] at q; exact q.elim
  | some t =>
    cases t with
    | src p0 q0 st0 cells0 ix0 =>
      simp only [hs] at q
      obtain ⟨k1, k2, k3, _⟩ := hE.src hs
      refine ⟨_, k1, F, Y, G, e, hE, ?_⟩
      cases hv : evs fs e with
      | stuck => simp only [hv] at q; exact q
      | exc x e1 => simp only [hv] at q; exact q
      | val ds e1 =>
        simp only [hv] at q
        intro vs G1 H1 s1 r1
        cases hs2 : e1[i]? with
        | none => simp only [hs2] at q; exact q.elim
        | some t2 =>
          cases t2 with
          | src p q1 st cells ix =>
            simp only [hs2] at q
            split at q
            · rename_i hqq
              subst hqq
              cases hr2 : r ⟨st, cells, ix⟩ ds with
              | none => simp only [hr2] at q; exact q.elim
              | some ds' =>
                obtain ⟨d, s'⟩ := ds'
                simp only [hr2] at q
                obtain ⟨m1, m2, m3, m4, m5⟩ := s1.env.src hs2
                have m1' := m1
                rw [k1] at m1'
                cases m1'
                obtain ⟨o, fp, _, ⟨_, e6, _⟩, g0, _⟩ := s1.env.slot hs2
                subst e6
                have hGp := (g0 _ List.mem_cons_self)
                have hGq := (g0 _ (List.mem_cons_of_mem _ List.mem_cons_self))
                refine ⟨G1, p0, q1, ⟨st, cells, ix⟩, ds, vs, d, s', rfl, by rw [r1.length, evs_len hv, hfl], s1.env.gh, m2, m3, hGp.1, hGq.1, r1, hr2, fun v G' H' n5 h6 h7 r7 => ?_⟩
                have ne := src_q_ne m2 m3
                -- the step of the call
                have E' : Env (mx X xo) F Y G' H' σ (e1.set i (.src p0 q1 s'.st s'.cells s'.ix)) := by
                  obtain ⟨fp, h1, h2, h3, h4, h5⟩ := s1.env.sl
                  have hfi : fp i = [p0, q1] := (h1 i _ hs2).2.1
                  have th : ∀ j a, a ∈ fp j → H1 a ≠ none := fun j a ha => by
                    cases he : e1[j]? with
                    | none => rw [h4 j he] at ha; cases ha
                    | some s => exact (h1 j s he).there a ha
                  have kp : ∀ j a, j ≠ i → a ∈ fp j → H' a = H1 a := fun j a hj ha => by
                    cases hq : H1 a with
                    | none => exact absurd hq (th j a ha)
                    | some o =>
                      refine n5.hh a o hq (fun z => hj ?_) fun z => hj ?_
                      · exact h2 j i a ha (by rw [hfi, z]; exact List.mem_cons_self)
                      · exact h2 j i a ha (by rw [hfi, z]; exact List.mem_cons_of_mem _ List.mem_cons_self)
                  refine ⟨n5.gh, fun a o ha => n5.hh a o (s1.env.fh a o ha) (fun z => ?_) (fun z => ?_), by rw [List.length_set]; exact s1.env.len, fp, fun j t hj => ?_, h2, fun j a ha => ⟨?_, (h3 j a ha).2⟩, fun j hj => ?_, fun j t a hj ha => ?_⟩
                  · rw [z, hGp.2] at ha; cases ha
                  · rw [z, hGq.2] at ha; cases ha
                  · by_cases e1' : j = i
                    · subst e1'
                      obtain ⟨hl, he⟩ := List.getElem?_eq_some_iff.mp hj
                      rw [List.getElem_set_self] at he
                      subst he
                      rw [k1]
                      exact ⟨rfl, hfi, h6, h7⟩
                    · rw [List.getElem?_set_ne (Ne.symm e1')] at hj
                      exact (h1 j t hj).step n5.gg (kp j · e1')
                  · cases hq : G' a with
                    | none => rfl
                    | some o =>
                      rcases n5.nw a (by rw [hq]; exact fun z => nomatch z) with z | z
                      · exact absurd (h3 j a ha).1 z
                      · exact absurd z (th j a ha)
                  · refine h4 j ?_
                    by_cases e1' : j = i
                    · subst e1'
                      rw [List.getElem?_eq_none_iff, List.length_set] at hj
                      exact List.getElem?_eq_none_iff.mpr hj
                    · rw [List.getElem?_set_ne (Ne.symm e1')] at hj
                      exact hj
                  · by_cases e1' : j = i
                    · subst e1'
                      obtain ⟨hl, he⟩ := List.getElem?_eq_some_iff.mp hj
                      rw [List.getElem_set_self] at he
                      subst he
                      exact h5 j (.src p0 q1 st cells ix) a hs2 ha
                    · rw [List.getElem?_set_ne (Ne.symm e1')] at hj
                      exact h5 j t a hj ha
                exact q v G' H' (s1.trans ⟨E', n5.gg, fun a o h8 h9 => n5.hh a o h8 (fun z => h9 (by rw [z]; exact m4)) fun z => h9 (by rw [z]; exact m5), fun a h8 => (n5.nw a h8).elim .inl fun z => .inr (s1.env.fh.back z)⟩) r7
            · exact q.elim
          | _ => simp only [hs2] at q; exact q.elim
    | _ => simp only [hs] at q; exact q.elim
end
end TF
/-! #### text TFm -/
set_option Elab.async false
set_option linter.all false
set_option maxRecDepth 100000
set_option maxHeartbeats 2000000
/-! TFm: objects: attributes, methods, properties, made. -/
namespace TF
open PySem L2 PySem.Spec PyProof.Rows
section
variable {X : Cx} {pins : List (Addr × Obj)} {σ : L2.St} {H : Hp} {s : Shared} {k : Nat} {g : Addr} {sp : Sp} {E : XK} {Q : VK} {us : List Value} {ws : List V}
/-- a callee runs below the running body; what it lets out is taken -/
theorem run_atS {A : Around} (F : FnR X.prog X.w X.K X.mg X.base (L2.CX X.prog X.w) k g sp) (hr : Room k A) (e0 : Env0 X.prog X.w X.K X.mg X.base A X.stack s H) (hx : PassesAt (L2.CX X.prog X.w) X σ E) (J : Inv X pins σ H s) (rel : Vals ws us) (go : sp ws H Q E) :
    codeAny (model X.prog X.w) A (.call (.ref g) ⟨us, []⟩) (wants (EP X pins σ Q) X.xe) s :=
  codeAny_mono (F A _ s H _ _ Q E hr e0 rel go) fun
    | .error _, _, z => hx _ _ _ _ _ J z
    | .ok (.ret _), _, z => J.after z
end
/-- nothing is let out -/
theorem passNo {X : Cx} {σ : L2.St} : PassesAt (L2.CX X.prog X.w) X σ (fun _ _ _ => False) := fun _ _ _ e s' I c => by
  obtain ⟨_, _, _, _, _, _, _, _, _, _, _, _, _, h⟩ := c
theorem cxNo {P : Program} {w : World} {outer : List PySem.Env} {H : Hp} {s s' : Shared} {e : Value} (c : L2.CX P w outer H s (fun _ _ _ => False) e s') : False := by
  obtain ⟨_, _, _, _, _, _, _, _, _, _, _, _, _, h⟩ := c
/-! ### what the text says of a class -/
/-- a class with slots -/
structure ClS (K : PySem.W.Frag) (c : Str) : Prop where
  sl : slotC c = true
  cls : SlX.SCls K (He.ga K c)
  isi : SlX.SIsi K (He.ga K c)
  slots : ∀ f i, slotIx c f = some i → ∃ p, SlX.Slot1 K (He.ga K c) f p i
/-- a method's promise -/
structure DfM (P : Program) (w : World) (K : PySem.W.Frag) (mg : Str → Option Value) (base : Heap) (c m : Str) (k n : Nat) (r : List D → Rv) : Prop where
  fn : FnR P w K mg base (L2.CX P w) k (He.ma K (He.ga K c) m) (spD ⟨P, w, K⟩ n r)
  mt : Meth K (He.ga K c) m (He.ma K (He.ga K c) m)
/-- a property's -/
structure DfP (P : Program) (w : World) (K : PySem.W.Frag) (mg : Str → Option Value) (base : Heap) (c f : Str) (k : Nat) (r : List D → Rv) : Prop where
  ex : ∃ p g, FnR P w K mg base (L2.CX P w) k g (spD ⟨P, w, K⟩ 1 r) ∧ PySem.W.findIn K (.ref (He.ga K c)) f = some (some (.ref p)) ∧ PySem.W.specialIn K (.ref p) "__get__" = some (some (.builtin "property.__get__")) ∧ PySem.W.takesIn K (.ref p) = some true ∧ ∃ rest, PySem.W.recIn K p "property" = some (.ref g :: rest)
/-! ### readings -/
/-- e.f: the object's attribute at place j -/
def eAttr (c : Str) (j : Nat) (f : EX) : EX := fun e => (f e).bind fun d e1 => match d with
  | .obj c' fs => if c' = c then Rx.of fs[j]? e1 else .stuck
  | _ => .stuck
/-- e.p: a getter, which raises nothing -/
def eProp (c : Str) (r : List D → Rv) (f : EX) : EX := fun e => (f e).bind fun d e1 => match d with
  | .obj c' fs => if c' = c then (match r [d] with
    | .ret v => .val v e1
    | _ => .stuck) else .stuck
  | _ => .stuck
/-- o.m(..) -/
def eMeth (c : Str) (r : List D → Rv) (f : EX) (gs : List EX) : EX := fun e => (f e).bind fun d e1 => match d with
  | .obj c' fs => if c' = c then (match evs gs e1 with
    | .stuck => .stuck
    | .exc x e2 => .exc x e2
    | .val ds e2 => Rx.ofRv (r (d :: ds)) e2) else .stuck
  | _ => .stuck
theorem Rp.slt {M : Mt} {G H : Hp} {c : Str} {fs : List D} {v : V} (r : Rp M G (.obj c fs) v) (g : Ex G H) (hs : slotC c = true) : ∃ a dx vs, v = .ref a ∧ SlX.Slt H a (He.ga M.K c) dx (vs.map some) ∧ Rps M G fs vs := by
  obtain ⟨a, dx, vs, e, h1, ⟨_, h3, h4⟩ | ⟨h2, _⟩⟩ := r
  · exact ⟨a, dx, vs, e, .inr ⟨g _ _ h3, g _ _ h4⟩, h1⟩
  · rw [hs] at h2; cases h2
section
variable {X : Cx} {xo : Xo} {W : WX} {a b o : Expr} {f g h : EX} {fs : List EX} {es : List Expr} {pos p apos : Pos} {c fn m : Str} {j k n : Nat} {r : List D → Rv}
theorem pe_slD (C : ClS X.K c) (hj : slotIx c fn = some j) (ho : PE X o (tD (mx X xo) W f)) (hb : attributeBase o fn X.env (eval o X.env) = eval o X.env := by rfl) : PE X (.Attribute o fn pos) (tD (mx X xo) W (eAttr c j f)) :=
  PE.of (SlX.pe_sl ho hb) fun σ H Q ⟨F, Y, G, e, hE, q⟩ => ⟨F, Y, G, e, hE, Ok1.bind q fun d e1 v G1 H1 hr s1 q1 r1 => by
    cases d with
    | obj c' ds =>
      simp only at q1
      split at q1
      · rename_i hc
        subst hc
        obtain ⟨a, dx, vs, rfl, hs, rr⟩ := Rp.slt r1 s1.env.gh C.sl
        obtain ⟨p, P⟩ := C.slots fn j hj
        cases hd : ds[j]? with
        | none => rw [hd] at q1; exact q1.elim
        | some d0 =>
          rw [hd] at q1
          obtain ⟨v0, hv, rv⟩ := rr.get hd
          exact ⟨a, _, dx, p, vs.map some, j, v0, rfl, hs, C.cls, P, by rw [List.getElem?_map, hv]; rfl, q1 v0 G1 H1 (Stp.refl s1.env) rv⟩
      · exact q1.elim
    | _ => exact q1.elim⟩
theorem spD_call {M : Mt} {Wc : XK} {G H : Hp} {ds : List D} {vs : List V} {Q : VK} (g : Ex G H) (hl : vs.length = n) (rr : Rps M G ds vs) (q : match r ds with
    | .stuck => False
    | .ret d => ∀ v G' H', Nw G H G' H' → Rp M G' d v → Q v H'
    | .exc x => ∀ cls a G' H', Nw G H G' H' → XcOk M H G' H' x cls a → Wc cls a H') : spD M n r vs H Q Wc := ⟨G, ds, g, hl, rr, q⟩
theorem pe_propD (C : ClS X.K c) (D1 : DfP X.prog X.w X.K X.mg X.base c fn k r) (hr : Room (k + 1) X.A) (ho : PE X o (tD (mx X xo) W f)) (hb : attributeBase o fn X.env (eval o X.env) = eval o X.env := by rfl) : PE X (.Attribute o fn pos) (tD (mx X xo) W (eProp c r f)) := by
  obtain ⟨p, g, F, h1, h2, h3, h4⟩ := D1.ex
  refine PE.of (SlX.pe_propSl (E := fun _ _ _ => False) ho C.cls h1 h2 h3 h4 F hr (fun H s e s' c => cxNo c) hb) fun σ H Q ⟨F, Y, G, e, hE, q⟩ => ⟨F, Y, G, e, hE, Ok1.bind q fun d e1 v G1 H1 hr s1 q1 r1 => ?_⟩
  cases d with
  | obj c' ds =>
    simp only at q1
    split at q1
    · rename_i hc
      subst hc
      obtain ⟨a, dx, vs, rfl, hs, rr⟩ := Rp.slt r1 s1.env.gh C.sl
      refine ⟨a, dx, _, rfl, hs, spD_call s1.env.gh rfl (Rps.one r1) ?_⟩
      cases hrr : r [.obj c' ds] with
      | stuck => rw [hrr] at q1; exact q1.elim
      | exc x => rw [hrr] at q1; exact q1.elim
      | ret v0 => rw [hrr] at q1; exact fun v G' H' n5 r5 => q1 v G' H' (Stp.ofN s1.env n5) r5
    · exact q1.elim
  | _ => exact q1.elim
/-- o.m(e, ..) -/
theorem pe_methD {pl : Sem Bool} (C : ClS X.K c) (D1 : DfM X.prog X.w X.K X.mg X.base c m k (n + 1) r) (hr : Room k X.A) (tk : Takes X W) (ho : PE X o (tD (mx X xo) W f)) (hfl : fs.length = n) (ha : PA X (a :: es) (tF (mx X xo) W fs))
    (hst : starEach (a :: es) X.env = (false, eval a X.env) :: starEach es X.env := by rfl) (hpl : (backTo pos (starEach es X.env)).any (·.1) = false := by rfl)
    (ht : eval (.Call (.Attribute o m apos) (a :: es) [] pos) X.env = (do
      let ov ← eval o X.env
      standAt apos.atName
      let (f, first) ← holding [ov] (getMethod ov m pl)
      callWith pos f first (backTo pos (starEach (a :: es) X.env)) (backToKw pos (keywordEach [] X.env))) := by rfl) :
    PE X (.Call (.Attribute o m apos) (a :: es) [] pos) (tD (mx X xo) W (eMeth c r f fs)) := by
  refine ⟨fun pins s σ H Q I ⟨F, Y, G, e, hE, q⟩ => ?_⟩
  have key : tD (mx X xo) W f σ H fun x H1 => ∃ a dx vs, x = .ref a ∧ SlX.Slt H1 a (He.ga X.K c) dx vs ∧ tF (mx X xo) W fs σ H1 fun ws H2 => spD (mt X) (n + 1) r (x :: ws) H2 Q (WE W σ) := ⟨F, Y, G, e, hE, Ok1.bind q fun d e1 v G1 H1 hr s1 q1 r1 => by
    cases d with
    | obj c' ds =>
      simp only at q1
      split at q1
      · rename_i hc
        subst hc
        obtain ⟨a, dx, vs, rfl, hs, rr⟩ := Rp.slt r1 s1.env.gh C.sl
        refine ⟨a, dx, _, rfl, hs, F, Y, G1, e1, s1.env, ?_⟩
        cases hv : evs fs e1 with
        | stuck => rw [hv] at q1; exact q1
        | exc x e2 => rw [hv] at q1; exact q1
        | val es2 e2 =>
          rw [hv] at q1
          intro ws G2 H2 s2 r2
          refine spD_call (G := G2) (ds := .obj c' ds :: es2) s2.env.gh (by rw [List.length_cons, r2.length, evs_len hv, hfl]) ⟨_, _, rfl, Rp.mono s2.gg _ _ r1, r2⟩ ?_
          cases hrr : r (.obj c' ds :: es2) with
          | stuck => simp only [hrr] at q1; exact q1
          | ret v0 => simp only [hrr] at q1; exact fun v G' H' n5 r5 => q1 v G' H' (s2.trans (Stp.ofN s2.env n5)) r5
          | exc x => simp only [hrr] at q1; exact fun cls a G' H' n5 r5 => q1 cls a G' H' (s2.trans (Stp.ofN s2.env n5)) (r5.weak s2.env.fh)
      · exact q1.elim
    | _ => exact q1.elim⟩
  refine PySem.W.methodCall_KW (pl := pl) (thn (ho.run pins s σ H _ I key) fun u s1 ⟨x, H1, I1, rx, a, dx, vs, ex, hsl, q⟩ => ?_) ht
  subst ex
  obtain rfl : u = Value.ref a := rx
  refine SlX.getmethsl_ok I1 hsl C.cls D1.mt ?_
  refine PySem.W.callWith_K (first := [.ref a]) (h₀ := X.base) I.ok.mod.kin D1.mt.kp (thn (ha.run pos pins s1 σ H1 _ I1 q) fun us s2 ⟨ws, H2, I2, r, q2⟩ => ⟨I2.kIn, ?_⟩) hst hpl
  exact wpAny_call (run_atS (us := .ref a :: us) (ws := .ref a :: ws) D1.fn hr I2.env0 (passAt tk σ) I2 (.cons rfl r) q2)
end
end TF
/-! #### text TNx -/
set_option Elab.async false
set_option linter.all false
set_option maxRecDepth 100000
set_option maxHeartbeats 900000
/-! TNx: a special method that is a builtin's, asked of an instance. -/
namespace PySem
namespace TXP
open PyProof.Rows PySem.Calls PySem.W
theorem slot_said {M : Model} {A : Around} {E : Value → Shared → Prop} {s : Shared} {K : Frag} {x C : Addr} {ox : Obj} {od : Option Obj} {n : Str} {id B : String} {y : Value} {Q : Option Value → Shared → Prop}
    (X : K.In s.heap) (I : InstAt s.heap x ox C od) (at1 : findIn K (.ref C) n = some (some (.builtin id))) (S : PySem.Slot B n id)
    (go : wpAny M A (call (.builtin id) [.ref x, y]) (fun v t => Q (some v) t) E s) : wpAny M A (callSpecialIfBound? (.ref x) n [y]) Q E s := by
  have has := looks_findIn (M := M) X at1
  have tie := S.bind (.ref x)
  have run : wpAny M A (do let v ← call (.builtin id) ([.ref x] ++ [y]); pure (some v)) Q E s := wpAny_bind (wpAny_mono go (fun _ _ z => wpAny_pure z) fun _ _ z => z)
  have told : wpAny M A (bindSpecialIfBound? (.ref x) n) (fun r t => r = some (.builtin id, [.ref x]) ∧ t = s) E s := by
    unfold bindSpecialIfBound? specialOf
    refine wpAny_bind (wpAny_bind (I.type.at (has.at ?_)))
    simp only [tie]
    have ends : ∀ {Z : Value → Shared → Prop}, wpAny M A (do let p ← (pure (Value.builtin id, [Value.ref x]) : Sem _); pure (some p)) (fun r t => r = some (.builtin id, [.ref x]) ∧ t = s) Z s := wpAny_bind (wpAny_pure (wpAny_pure ⟨rfl, rfl⟩))
    refine wpAny_bind (wpAny_askSetting (M := M) ?_)
    by_cases way : M.w.params.followText "special-get-raises" = true
    · rw [if_pos way]; exact ends
    · rw [if_neg way]; exact wpAny_tryCatch ends
  unfold callSpecialIfBound?
  refine wpAny_holding (wpAny_bind (wpAny_mono told (fun r t z => ?_) fun _ _ z => z))
  obtain ⟨e1, e2⟩ := z
  subst e1 e2
  exact run
section
variable {prog : Program} {w : World} {A : Around} {E : Value → Shared → Prop} {s : Shared} {K : Frag} {x y C f : Addr} {ox oy : Obj} {od oe : Option Obj}
/-- object's own != : what the class says of ==, turned round -/
theorem ne_turned {Q : Fin → Shared → Prop} (hu : A.units < cLine) (X : K.In s.heap) (I : InstAt s.heap x ox C od) (at1 : findIn K (.ref C) "__eq__" = some (some (.ref f))) (fn : isFn K (.ref f) = true)
    (go : wpAny (model prog w) A (call (.ref f) [.ref x, .ref y]) (fun v t => ∃ r, v = .bool r ∧ Q (.done (.ret (.bool (!r)))) t) E s) : wpAny (model prog w) A (Builtin.«object.__ne__» ⟨[.ref x, .ref y], []⟩) Q E s := by
  have eq : wpAny (model prog w) A (callSpecialIfBound? (.ref x) "__eq__" [.ref y]) (fun o t => ∃ r, o = some (.bool r) ∧ Q (.done (.ret (.bool (!r)))) t) E s :=
    ifBound_K X I at1 fn (wpAny_mono go (fun v t z => let ⟨r, e, q⟩ := z; ⟨r, congrArg some e, q⟩) fun _ _ z => z)
  unfold Builtin.«object.__ne__»; refine wpAny_bind (wpAny_pure (a := (Value.ref x, [Value.ref y])) (wpAny_bind (wpAny_cRoomFor hu (wpAny_bind (wpAny_mono eq (fun v t z => ?_) fun _ _ z => z)))))
  obtain ⟨r, e, q⟩ := z
  subst e
  wp_walk
  exact q
/-- x != y, both of the class C -/
theorem ne_same {Q : Value → Shared → Prop} (hu : A.units + 1 < cLine) (X : K.In s.heap) (I : InstAt s.heap x ox C od) (J : InstAt s.heap y oy C oe)
    (no : findIn K (.ref C) "__ne__" = some (some (.builtin "object.__ne__"))) (top : mroIn K C (.type "object") = some true) (at1 : findIn K (.ref C) "__eq__" = some (some (.ref f))) (fn : isFn K (.ref f) = true)
    (go : wpAny (model prog w) A.in1 (call (.ref f) [.ref x, .ref y]) (fun v t => ∃ r, v = .bool r ∧ Q (.bool (!r)) t) E s) : wpAny (model prog w) A (richCompare .NotEq (.ref x) (.ref y)) Q E s := by
  have said : wpAny (model prog w) A (callSpecialIfBound? (.ref x) "__ne__" [.ref y]) (fun o t => ∃ r, o = some (.bool r) ∧ Q (.bool r) t) E s := by
    refine slot_said X I no _root_.PySem.F.cmp_object.ne (wpAny_call (codeAny_call_builtin _root_.PySem.F.cmp_object.ne.plain _root_.PySem.F.cmpEntry_ne ?_))
    have obj : Looks (model prog w) s.heap (isInstance (.ref x) (.type "object")) true := I.type.andThen (looks_mroIn X top)
    refine check_slot _root_.PySem.F.cmpKind_ne _root_.PySem.F.cmpSplit_ne obj (_root_.PySem.F.cmpArgs_ne _ _) ?_
    exact ne_turned hu X I at1 fn (wpAny_mono go (fun v t z => let ⟨r, e, q⟩ := z; ⟨r, e, !r, rfl, q⟩) fun _ _ z => z)
  unfold richCompare
  refine wpAny_holding (wpAny_bind (wpAny_cRoomFor (Nat.lt_of_succ_lt hu) ?_))
  simp only [oneThing_ref, cmpInfo]
  refine wpAny_bind (I.type.at (wpAny_bind (J.type.at ?_)))
  rw [if_neg (by simp)]
  refine wpAny_bind (wpAny_pure (a := false) ?_)
  simp only [Bool.false_eq_true, if_false, tryCompare]
  refine wpAny_bind (wpAny_bind (wpAny_mono said (fun v t z => ?_) fun _ _ z => z))
  obtain ⟨r, e, q⟩ := z
  subst e
  wp_walk
  exact q
end
end TXP
end PySem
/-! #### text TNb -/
set_option Elab.async false
set_option linter.all false
set_option maxRecDepth 100000
set_option maxHeartbeats 900000
/-! TNb: len(x), x an instance whose class says what its length is. -/
namespace PySem
namespace TXP
open PyProof.Rows PySem.Calls PySem.W
theorem len_K {prog : Program} {w : World} {A : Around} {E : Value → Shared → Prop} {s : Shared} {K : Frag} {x C f : Addr} {ox : Obj} {od : Option Obj} {Q : Value → Shared → Prop}
    (X : K.In s.heap) (I : InstAt s.heap x ox C od) (hs : findIn K (.ref C) "__len__" = some (some (.ref f))) (hf : isFn K (.ref f) = true)
    (h : wpAny (model prog w) A.in1 (call (.ref f) [.ref x]) (fun r t => ∃ n u, r = Value.int n u ∧ 0 ≤ n ∧ n < 2 ^ 63 ∧ ∀ k, Q (.int n k) { t with toks := t.toks + 1 }) E s) :
    wpAny (model prog w) A (call (.builtin "len") [.ref x]) Q E s := by
  refine Calls.call_function_entry kind_len plain_len entry_len (args_len1 (.ref x)) ?_
  have stop := fun (P : Option Value → Shared → Prop) (q : wpAny (model prog w) A.in1 (call (.ref f) [.ref x]) (fun v t => P (some v) t) E s) => special_fn (args := []) X I hs (beq_iff_eq.mp hf) q
  unfold Builtin.«len»
  refine wpAny_bind (wpAny_pure (a := Value.ref x) (wpAny_bind (stop _ (wpAny_mono h (fun r t z => ?_) fun _ _ e => e))))
  match r, z with
  | .int n u, ⟨m, v, e, lo, hi, q⟩ =>
    cases e
    have big : ¬ n ≥ 2 ^ 63 := Int.not_le.mpr hi
    have neg : ¬ n < 0 := Int.not_lt.mpr lo
    wp_walk
    rw [if_neg big]
    wp_walk
    exact ⟨_, rfl, q _⟩
end TXP
end PySem
/-! #### text TFn -/
set_option Elab.async false
set_option linter.all false
set_option maxRecDepth 100000
set_option maxHeartbeats 2000000
/-! TFn: ==, !=, len, isinstance of objects; objects made. -/
namespace TF
open PySem L2 PySem.Spec PyProof.Rows PySem.TXP
section
variable {X : Cx} {xo : Xo} {W : WX} {a b o : Expr} {f g h : EX} {fs : List EX} {es : List Expr} {pos p apos : Pos} {c fn m : Str} {j k n : Nat} {r : List D → Rv}
/-! ### == and != by an own eq that raises nothing -/
def dOwn (c : Str) (r : List D → Rv) (neg : Bool) : D → D → Option D := fun x y => match x, y with
  | .obj c1 _, .obj c2 _ => if c1 = c ∧ c2 = c then (match r [x, y] with
    | .ret (.bl v) => some (.bl (if neg then !v else v))
    | _ => none) else none
  | _, _ => none
theorem Rpv.slt {M : Mx} {G H : Hp} {Z : List Addr} {c : Str} {fs : List D} {v : V} (r : Rpv M G H Z (.obj c fs) v) (g : Ex G H) (hs : slotC c = true) : ∃ a dx vs, v = .ref a ∧ SlX.Slt H a (He.ga M.K c) dx (vs.map some) ∧ Rps M G fs vs := Rp.slt r.obj g hs
theorem opD_ownEq (C : ClS X.K c) (D1 : DfM X.prog X.w X.K X.mg X.base c "__eq__" k 2 r) (hr : Room k X.A) : OpR X (compareOp .Eq) (rD2 (mx X xo) (dOwn c r false)) := by
  intro pins s σ H x y v u Q I rx ry ⟨G, d1, d2, d, g, r1, r2, hd, q⟩
  unfold dOwn at hd
  split at hd
  · rename_i c1 fs1 c2 fs2
    split at hd
    · rename_i hc
      obtain ⟨rfl, rfl⟩ := hc
      obtain ⟨a, dx, vs, rfl, h1, _⟩ := r1.slt g C.sl
      obtain ⟨b, dy, ws, rfl, h2, _⟩ := r2.slt g C.sl
      cases hrr : r [.obj c2 fs1, .obj c2 fs2] with
      | ret dd =>
        simp only [hrr] at hd
        cases dd with
        | bl bb =>
          cases hd
          have op := SlX.op_own (X := X) (op := .Eq) (E := fun _ _ _ => False) (sp := spD (mt X) 2 r) (fun _ _ => rfl) D1.mt.at_ D1.mt.fn D1.fn hr (fun pins σ H s e s' _ c => (cxNo c).elim)
          exact op pins s σ H _ _ v u Q I rx ry ⟨a, dx, _, b, _, dy, _, rfl, rfl, h1, h2, by unfold PySem.W.notFirst; simp, spD_call (ds := [.obj c2 fs1, .obj c2 fs2]) g rfl ⟨_, _, rfl, r1.obj, Rps.one r2.obj⟩ (by rw [hrr]; exact fun v G' H' n5 r5 => q v G' H' n5 r5)⟩
        | _ => cases hd
      | _ => simp only [hrr] at hd; cases hd
    · cases hd
  · cases hd
theorem opD_ownNe (C : ClS X.K c) (hne : PySem.W.findIn X.K (.ref (He.ga X.K c)) "__ne__" = some (some (.builtin "object.__ne__"))) (D1 : DfM X.prog X.w X.K X.mg X.base c "__eq__" k 2 r) (hr : Room (k + 1) X.A) : OpR X (compareOp .NotEq) (rD2 (mx X xo) (dOwn c r true)) := by
  intro pins s σ H x y v u Q I rx ry ⟨G, d1, d2, d, g, r1, r2, hd, q⟩
  unfold dOwn at hd
  split at hd
  · rename_i c1 fs1 c2 fs2
    split at hd
    · rename_i hc
      obtain ⟨rfl, rfl⟩ := hc
      obtain ⟨a, dx, vs, rfl, h1, _⟩ := r1.slt g C.sl
      obtain ⟨b, dy, ws, rfl, h2, _⟩ := r2.slt g C.sl
      cases (show v = Value.ref a from rx)
      cases (show u = Value.ref b from ry)
      cases hrr : r [.obj c2 fs1, .obj c2 fs2] with
      | ret dd =>
        simp only [hrr] at hd
        cases dd with
        | bl bb =>
          cases hd
          obtain ⟨sl, od, _, J, _⟩ := SlX.slt_inst I h1
          obtain ⟨sl', od', _, J', _⟩ := SlX.slt_inst I h2
          obtain ⟨m, hF⟩ := I.fr
          show wpAny _ _ (richCompare .NotEq (.ref a) (.ref b)) _ _ _
          refine ne_same (by have := hr.un; omega) I.kIn J J' hne C.isi.cm D1.mt.at_ D1.mt.fn ?_
          refine wpAny_mono (wpAny_call (run_atS (A := X.A.in1) (E := fun _ _ _ => False) (sp := spD (mt X) 2 r) (Q := fun v H' => v = .bl bb ∧ Q (.bl (!bb)) H') (us := [.ref a, .ref b]) (ws := [.ref a, .ref b]) D1.fn hr.in1 I.env0.in1 passNo I (.cons rfl (.cons rfl .nil)) (spD_call (ds := [.obj c2 fs1, .obj c2 fs2]) g rfl ⟨_, _, rfl, r1.obj, Rps.one r2.obj⟩ ?_))) (fun w s' z => ?_) fun _ _ x => x
          · rw [hrr]
            exact fun v G' H' n5 r5 => ⟨r5, q _ G' H' n5 rfl⟩
          · obtain ⟨z', H', I', rz, ez, qz⟩ := z
            subst ez
            obtain rfl : w = Value.bool bb := rz
            exact ⟨bb, rfl, .bl (!bb), H', I', rfl, qz⟩
        | _ => cases hd
      | _ => simp only [hrr] at hd; cases hd
    · cases hd
  · cases hd
/-! ### len by an own len -/
def dLenO (c : Str) (r : List D → Rv) : List D → Option D := fun ds => match ds with
  | [.obj c1 fs] => if c1 = c then (match r [.obj c1 fs] with
    | .ret (.int n) => if 0 ≤ n ∧ n < 2 ^ 62 then some (.int n) else none
    | _ => none) else none
  | _ => none
theorem crD_lenO (C : ClS X.K c) (D1 : DfM X.prog X.w X.K X.mg X.base c "__len__" k 1 r) (hr : Room (k + 1) X.A) : CallR X (.builtin "len") (rDN (mx X xo) (dLenO c r)) := by
  intro pins s σ H xs us Q I rv ⟨G, ds, d, g, rr, hd, q⟩
  unfold dLenO at hd
  split at hd
  · rename_i c1 fs
    split at hd
    · rename_i hc
      subst hc
      obtain ⟨v, rfl, r1⟩ := rr.one
      obtain ⟨a, dx, vs, rfl, h1, _⟩ := r1.slt g C.sl
      obtain ⟨u, rfl, ru⟩ := rv.one
      cases (show u = Value.ref a from ru)
      cases hrr : r [.obj c1 fs] with
      | ret dd =>
        simp only [hrr] at hd
        cases dd with
        | int i =>
          simp only at hd
          split at hd
          · rename_i hi
            cases hd
            obtain ⟨sl, od, _, J, _⟩ := SlX.slt_inst I h1
            refine len_K I.kIn J D1.mt.at_ D1.mt.fn ?_
            refine wpAny_mono (wpAny_call (run_atS (A := X.A.in1) (E := fun _ _ _ => False) (sp := spD (mt X) 1 r) (Q := fun v H' => v = .int i ∧ Q (.int i) H') (us := [.ref a]) (ws := [.ref a]) D1.fn hr.in1 I.env0.in1 passNo I (.cons rfl .nil) (spD_call (ds := [.obj c1 fs]) g rfl (Rps.one r1.obj) ?_))) (fun w s' z => ?_) fun _ _ x => x
            · rw [hrr]
              exact fun v G' H' n5 r5 => ⟨r5, q _ G' H' n5 rfl⟩
            · obtain ⟨z', H', I', rz, ez, qz⟩ := z
              subst ez
              obtain ⟨t, rfl⟩ : ∃ t, w = Value.int i t := rz
              exact ⟨i, t, rfl, hi.1, by omega, fun t' => ⟨.int i, H', I'.tok _, ⟨t', rfl⟩, qz⟩⟩
          · cases hd
        | _ => cases hd
      | _ => simp only [hrr] at hd; cases hd
    · cases hd
  · cases hd
end
end TF
/-! #### text TFo -/
set_option Elab.async false
set_option linter.all false
set_option maxRecDepth 100000
set_option maxHeartbeats 2000000
/-! TFo: objects made. -/
namespace TF
open PySem L2 PySem.Spec PyProof.Rows PySem.TXP
def allSome {α : Type} : List (Option α) → Option (List α)
  | [] => some []
  | some x :: r => (allSome r).map (x :: ·)
  | none :: _ => none
theorem allSome_eq {α : Type} : ∀ {l : List (Option α)} {xs : List α}, allSome l = some xs → l = xs.map some
  | [], xs, h => by cases h; rfl
  | some x :: r, xs, h => by
    simp only [allSome, Option.map_eq_some_iff] at h
    obtain ⟨ys, h1, rfl⟩ := h
    rw [allSome_eq h1]
    rfl
  | none :: r, xs, h => by cases h
/-- the attributes of a made object -/
def objOf (c : Str) (fs : List (Str × D)) : Option (List D) := if slotC c then allSome (slD c fs) else allSome ((fldC c).map fun f => fs.lookup f)
/-- a made object -/
def Mo (M : Mt) (c : Str) (G H : Hp) (a dx : Addr) (fs : List D) : Prop := ∃ vs, Rps M G fs vs ∧ ((slotC c = true ∧ H a = some (SlX.SlO a (He.ga M.K c) dx (vs.map some)) ∧ H dx = some (.xd [])) ∨
  (slotC c = false ∧ ∃ fv, H a = some (.ins (He.ga M.K c) dx fv) ∧ (fldC c).map (fun f => fv.lookup f) = vs.map some ∧ (∀ f, f ∉ fldC c → fv.lookup f = none) ∧ fv.length ≤ 900 ∧ H dx ≠ none))
theorem look_all {M : Mt} {G : Hp} {fs : List (Str × D)} {fv : List (Str × V)} (h : FldOk M G fs fv) : ∀ {l : List Str} {ds : List D}, (l.map fun f => fs.lookup f) = ds.map some → ∃ vs, Rps M G ds vs ∧ (l.map fun f => fv.lookup f) = vs.map some
  | [], [], _ => ⟨[], rfl, rfl⟩
  | [], _ :: _, e => by cases e
  | _ :: _, [], e => by cases e
  | f :: l, d :: ds, e => by
    rw [List.map_cons, List.map_cons, List.cons.injEq] at e
    obtain ⟨v, h1, h2⟩ := h f d e.1
    obtain ⟨vs, h3, h4⟩ := look_all h e.2
    exact ⟨v :: vs, ⟨v, vs, rfl, h2, h3⟩, by rw [List.map_cons, List.map_cons, h1, h4]⟩
theorem MeOk.mo {M : Mt} {G H : Hp} {c : Str} {a dx : Addr} {fs : List (Str × D)} {ds : List D} (h : MeOk M G H c a dx fs) (e : objOf c fs = some ds) (hne : slotC c = true → ds ≠ []) (hk : slotC c = false → fs.length ≤ 900 ∧ ∀ f, f ∉ fldC c → fs.lookup f = none) : Mo M c G H a dx ds := by
  unfold objOf at e
  obtain ⟨_, hdx, ⟨hs, vs, h2, h3⟩ | ⟨hs, fv, h2, h3, h4, h5⟩⟩ := h
  · rw [hs] at e
    simp only [if_true] at e
    rw [allSome_eq e] at h3
    obtain ⟨ws, rfl, r⟩ := h3.all
    refine ⟨ws, r, .inl ⟨hs, ?_⟩⟩
    rcases h2 with ⟨_, z⟩ | ⟨z1, z2⟩
    · have : ws = [] := by simpa using z
      subst this
      cases ds with
      | nil => exact absurd rfl (hne hs)
      | cons d ds => obtain ⟨v, t, e2, _⟩ := r; cases e2
    · exact ⟨z1, z2⟩
  · rw [hs] at e
    simp only [Bool.false_eq_true, if_false] at e
    obtain ⟨vs, r, e2⟩ := look_all h3 (allSome_eq e)
    exact ⟨vs, r, .inr ⟨hs, fv, h2, e2, fun f hf => h4 f ((hk hs).2 f hf), Nat.le_trans h5 (hk hs).1, hdx⟩⟩
/-- without two -/
def wo (H : Hp) (a b : Addr) : Hp := fun x => if x = a ∨ x = b then none else H x
theorem wo_ex {H : Hp} {a b : Addr} : Ex (wo H a b) H := fun x o h => by
  unfold wo at h
  split at h
  · cases h
  · exact h
/-- what an init promises -/
def spI (M : Mt) (c : Str) (n : Nat) (r : List D → Rv) : Sp := fun vs H Q E => ∃ G a dx ds vr, vs = .ref a :: vr ∧ vr.length = n ∧ Ex G H ∧ H a = some (.ins (He.ga M.K c) dx []) ∧ H dx = some (.own a) ∧ dx ≠ a ∧ G a = none ∧ G dx = none ∧ Rps M G ds vr ∧ match r ds with
  | .ret (.obj c' fs) => c' = c ∧ ∀ G' H', NwS G H a dx G' H' → G' a = none → G' dx = none → Mo M c G' H' a dx fs → Q .non H'
  | .exc x => ∀ cls d G' H', NwS G H a dx G' H' → XcOk M (wo H a dx) G' H' x cls d → E cls d H'
  | _ => False
def evI (n : Nat) (a dx : Addr) (c : Str) (ds : List D) : Ev := .me a dx c [] :: ds.map S.fz ++ List.replicate (n - (ds.length + 1)) .un
theorem evI_env {M : Mx} {G H : Hp} {N : List Str} {c : Str} {a dx : Addr} {ds : List D} {vr : List V} (g : Ex G H) (h1 : H a = some (.ins (He.ga M.K c) dx [])) (h2 : H dx = some (.own a)) (hne : dx ≠ a) (hp : G a = none) (hq : G dx = none) (r : Rps M G ds vr) (hN : ds.length + 1 ≤ N.length) :
    Env M (wo H a dx) [] G H (L2.start N (.ref a :: vr)) (evI N.length a dx c ds) := by
  have hl := r.length
  refine ⟨g, wo_ex, ?_, fun i => if i = 0 then [a, dx] else [], fun i t ht => ?_, fun i j b ha hb => ?_, fun i b ha => ?_, fun i hi => ?_, fun i t b ht ha => ?_⟩
  · unfold L2.start evI
    simp only [List.length_append, List.length_map, List.length_replicate, List.length_cons, hl]
  · cases i with
    | zero =>
      unfold evI at ht
      simp only [List.cons_append, List.getElem?_cons_zero, Option.some.injEq] at ht
      subst ht
      simp only [if_pos]
      refine ⟨rfl, rfl, hne, (by rw [h2]; exact fun z => (nomatch z)), ?_⟩
      cases hs : slotC c with
      | true => exact .inl ⟨rfl, [], .inl ⟨h1, rfl⟩, rfl⟩
      | false => exact .inr ⟨rfl, [], h1, fun f d z => (by cases z), fun f _ => rfl, Nat.le_refl _⟩
    | succ i =>
      simp only [Nat.succ_ne_zero, if_false]
      unfold evI at ht
      simp only [List.cons_append, List.getElem?_cons_succ] at ht
      by_cases hi : i < ds.length
      · rw [List.getElem?_append_left (by simpa using hi), List.getElem?_map, List.getElem?_eq_getElem hi] at ht
        cases ht
        obtain ⟨v, hv, rv⟩ := r.get (List.getElem?_eq_getElem hi)
        refine ⟨rfl, v, ?_, rv⟩
        unfold L2.start
        simp only [List.map_cons, List.cons_append, List.getElem?_cons_succ]
        rw [List.getElem?_append_left (by rw [List.length_map, hl]; exact hi), List.getElem?_map, hv]
        rfl
      · rw [List.getElem?_append_right (by simpa using hi), List.getElem?_replicate] at ht
        split at ht
        · cases ht
          exact rfl
        · cases ht
  · by_cases hi : i = 0
    · by_cases hj : j = 0
      · rw [hi, hj]
      · simp only [if_neg hj] at hb; cases hb
    · simp only [if_neg hi] at ha; cases ha
  · by_cases hi : i = 0
    · simp only [if_pos hi, List.mem_cons, List.not_mem_nil, or_false] at ha
      refine ⟨?_, by unfold wo; rw [if_pos ha]⟩
      rcases ha with rfl | rfl
      · exact hp
      · exact hq
    · simp only [if_neg hi] at ha; cases ha
  · by_cases h0 : i = 0
    · subst h0
      unfold evI at hi
      simp at hi
    · simp only [if_neg h0]
  · by_cases h0 : i = 0
    · subst h0
      unfold evI at ht
      simp only [List.cons_append, List.getElem?_cons_zero, Option.some.injEq] at ht
      subst ht
      exact ⟨fun z => (by cases z), fun z => (by cases z)⟩
    · simp only [if_neg h0] at ha; cases ha
section
variable {P : Program} {w : World} {K : PySem.W.Frag} {mg : Str → Option Value} {base : Heap} {x qual : Str} {params : Arguments} {body : List Stmt} {scope : Scope} {f : Addr} {fd : FuncData} {N ps : List Str} {k : Nat} {m : SX}
theorem FunD.okI {c : Str} {n : Nat} {r : List D → Rv} (F : FunD K x qual params body scope [] [] f fd) (S : FnScope N ps scope) (hn : ps.length = n + 1) (hN : n + 1 ≤ N.length)
    (hb : ∀ (cdv : Value) (A : Around) (outer : List PySem.Env) (s : Shared) (H : Hp) (E : XK), Room k (cxD P w K mg base N qual scope f cdv A outer s H E).A → Takes (cxD P w K mg base N qual scope f cdv A outer s H E) (fun cls d _ H => E cls d H) →
      PassesOwn (model P w) (cxD P w K mg base N qual scope f cdv A outer s H E).A (cxD P w K mg base N qual scope f cdv A outer s H E).env (cxD P w K mg base N qual scope f cdv A outer s H E).xe →
      PSs (cxD P w K mg base N qual scope f cdv A outer s H E) body (tS (mx (cxD P w K mg base N qual scope f cdv A outer s H E) none) (fun cls d _ H => E cls d H) m))
    (hr : ∀ (a dx : Addr) ds, ds.length = n → match r ds with
      | .ret (.obj c' fs) => c' = c ∧ (slotC c = true → fs ≠ []) ∧ ∃ e fs', m (evI N.length a dx c ds) = .nx e ∧ e[0]? = some (.me a dx c fs') ∧ objOf c fs' = some fs ∧ (slotC c = false → fs'.length ≤ 900 ∧ ∀ f, f ∉ fldC c → fs'.lookup f = none)
      | .exc x => ∃ e, m (evI N.length a dx c ds) = .exc x e ∧ ∃ fs', e[0]? = some (.me a dx c fs')
      | .stuck => True
      | _ => False) :
    FnOk P w K mg base (L2.CX P w) (k + 1) f fd ps (spI ⟨P, w, K⟩ c n r) := by
  refine F.ok S (fun vs H Q E ⟨G, a, dx, ds, vr, e, hl, _⟩ => by rw [e, List.length_cons, hl, hn]) fun cdv A outer s0 H vs Q E hroom ⟨G, a, dx, ds, vr, e, hl, g, h1, h2, hne, hp, hq, rr, hQ⟩ => ⟨_, hb cdv A outer s0 H E hroom (takes_of rfl rfl rfl rfl) (passes_of rfl), ?_⟩
  subst e
  have hdl : ds.length = n := by rw [← rr.length, hl]
  refine ⟨_, _, G, evI N.length a dx c ds, evI_env g h1 h2 hne hp hq rr (by omega), ?_⟩
  have hr1 := hr a dx ds hdl
  have nws : ∀ {Y : List Addr} {σ' : L2.St} {e : Ev} {G' H' : Hp} {fs' : List (Str × D)}, Env (mx (cxD P w K mg base N qual scope f cdv A outer s0 H E) none) (wo H a dx) Y G' H' σ' e → e[0]? = some (.me a dx c fs') → Gro (wo H a dx) G G' → NwS G H a dx G' H' ∧ G' a = none ∧ G' dx = none ∧ MeOk ⟨P, w, K⟩ G' H' c a dx fs' := fun {Y σ' e G' H' fs'} E' he g' => by
    obtain ⟨o, fp, k1, ⟨_, rfl, k3⟩, k0, _⟩ := E'.slot he
    have na := (k0 a List.mem_cons_self).1
    have nd := (k0 dx (List.mem_cons_of_mem _ List.mem_cons_self)).1
    refine ⟨⟨g'.gg, E'.gh, fun b o hb n1 n2 => E'.fh b o ?_, fun b hb => ?_⟩, na, nd, k3⟩
    · unfold wo
      simp only [n1, n2, or_self, if_false]
      exact hb
    · rcases g'.nw b hb with z | z
      · exact .inl z
      · unfold wo at z
        by_cases h5 : b = a ∨ b = dx
        · rcases h5 with rfl | rfl
          · exact absurd na hb
          · exact absurd nd hb
        · rw [if_neg h5] at z
          exact .inr z
  cases hrr : r ds with
  | stuck => rw [hrr] at hQ; exact hQ.elim
  | ret d =>
    rw [hrr] at hQ hr1
    cases d with
    | obj c' fs =>
      obtain ⟨_, hQ⟩ := hQ
      obtain ⟨rfl, hnz, e, fs', hm, he, ho, hk⟩ := hr1
      rw [hm]
      intro Y σ' G' H' E' g'
      obtain ⟨q1, q2, q3, q4⟩ := nws E' he g'
      exact hQ G' H' q1 q2 q3 (q4.mo ho hnz hk)
    | _ => exact hQ.elim
  | exc x =>
    rw [hrr] at hQ hr1
    obtain ⟨e, hm, fs', he⟩ := hr1
    rw [hm]
    intro cls d Y σ' G' H' E' g' hx
    obtain ⟨q1, _⟩ := nws E' he g'
    exact hQ cls d G' H' q1 hx
end
/-! ### self.f = e, in a class with slots -/
def sMe (i : Nat) (fn : Str) : D → SX := fun d e => match e[i]? with
  | some (.me a dx c fs) => if slotC c && (slotIx c fn).isSome then .nx (e.set i (.me a dx c ((fn, d) :: fs))) else .stuck
  | _ => .stuck
theorem Env.mutMe {M : Mx} {F G H : Hp} {σ : L2.St} {e : Ev} (h : Env M F Y G H σ e) {i : Nat} {a dx : Addr} {c : Str} {fs fs' : List (Str × D)} (hs : e[i]? = some (.me a dx c fs)) {H' : Hp} (hm : MeOk M G H' c a dx fs') (ho : ∀ b, b ≠ a → b ≠ dx → H' b = H b) :
    Env M F Y G H' σ (e.set i (.me a dx c fs')) := by
  obtain ⟨fp, h1, h2, h3, h4, h5⟩ := h.sl
  obtain ⟨k1, k2, k3⟩ := h1 i _ hs
  have np : ∀ b, G b ≠ none ∨ F b ≠ none → b ≠ a ∧ b ≠ dx := fun b hb => by
    refine ⟨fun z => ?_, fun z => ?_⟩
    · subst z
      have := h3 i b (by rw [k2]; exact List.mem_cons_self)
      exact hb.elim (fun y => y this.1) fun y => y this.2
    · subst z
      have := h3 i b (by rw [k2]; exact List.mem_cons_of_mem _ List.mem_cons_self)
      exact hb.elim (fun y => y this.1) fun y => y this.2
  refine ⟨fun b o hb => ?_, fun b o hb => ?_, by rw [List.length_set]; exact h.len, fp, fun j t hj => ?_, h2, h3, fun j hj => ?_, fun j t b hj hb => ?_⟩
  · obtain ⟨z1, z2⟩ := np b (.inl (by rw [hb]; exact fun z => nomatch z))
    rw [ho b z1 z2]
    exact h.gh b o hb
  · obtain ⟨z1, z2⟩ := np b (.inr (by rw [hb]; exact fun z => nomatch z))
    rw [ho b z1 z2]
    exact h.fh b o hb
  · by_cases e1 : j = i
    · subst e1
      obtain ⟨hl, he⟩ := List.getElem?_eq_some_iff.mp hj
      rw [List.getElem_set_self] at he
      subst he
      exact ⟨k1, k2, hm⟩
    · rw [List.getElem?_set_ne (Ne.symm e1)] at hj
      refine (h1 j t hj).step (Ex.refl _) fun b hb => ho b (fun z => ?_) fun z => ?_
      · subst z
        exact e1 (h2 j i b hb (by rw [k2]; exact List.mem_cons_self))
      · subst z
        exact e1 (h2 j i b hb (by rw [k2]; exact List.mem_cons_of_mem _ List.mem_cons_self))
  · refine h4 j ?_
    by_cases e1 : j = i
    · subst e1
      rw [List.getElem?_eq_none_iff, List.length_set] at hj
      exact List.getElem?_eq_none_iff.mpr hj
    · rw [List.getElem?_set_ne (Ne.symm e1)] at hj
      exact hj
  · by_cases e1 : j = i
    · subst e1
      obtain ⟨hl, he⟩ := List.getElem?_eq_some_iff.mp hj
      rw [List.getElem_set_self] at he
      subst he
      exact h5 j (.me a dx c fs) b hs hb
    · rw [List.getElem?_set_ne (Ne.symm e1)] at hj
      exact h5 j t b hj hb
section
variable {X : Cx} {xo : Xo} {W : WX} {a b o : Expr} {f g h : EX} {fs : List EX} {es : List Expr} {pos p apos : Pos} {c fn m x : Str} {i j k n : Nat} {r : List D → Rv}
theorem ps_meD {np : Pos} (C : ClS X.K c) (hj : slotIx c fn = some j) (hN : X.N[i]? = some x) (hv : Vis X.env.scope x) (hdb : (x == ("__debug__" : Str)) = false) (hcd : (x == ("__classdict__" : Str)) = false) (ha : PE X a (tD (mx X xo) W f))
    (hs : swapsWith a (some (.Attribute (.Name x np) fn apos)) pos.line X.env = pure false := by rfl) :
    PS X (.Assign [.Attribute (.Name x np) fn apos] a pos) (tS (mx X xo) W (sOf f fun d e => match e[i]? with
      | some (.me _ _ c1 _) => if c1 = c then sMe i fn d e else .stuck
      | _ => .stuck)) :=
  PS.of (SlX.ps_sl (pe_var hN hv hdb hcd) ha hs) fun D σ H ⟨F, Y, G, e, hE, q⟩ => sOf_ok hE q _ fun d e1 v G1 H1 E1 g1 r1 q1 => by
    cases hs : e1[i]? with
    | none => simp only [hs] at q1; exact q1.elim
    | some t =>
      cases t with
      | me a0 dx c1 fs0 =>
        simp only [hs] at q1
        split at q1
        · rename_i hcc
          subst hcc
          unfold sMe at q1
          simp only [hs, C.sl, hj, Option.isSome_some, Bool.and_self, if_true] at q1
          obtain ⟨o, fp, k1, ⟨rfl, _, k3⟩, _⟩ := E1.slot hs
          obtain ⟨hne, hdx, ⟨_, vs, h2, h3⟩ | ⟨h2, _⟩⟩ := k3
          · obtain ⟨p, P⟩ := C.slots fn j hj
            refine ⟨_, k1, a0, _, dx, p, vs, j, rfl, h2, C.cls, P, q1 _ σ G1 _ (E1.mutMe hs (fs' := (fn, d) :: fs0) ⟨hne, ?_, .inl ⟨C.sl, _, SlX.slH_slt hne, ?_⟩⟩ fun b n1 n2 => SlX.slH_ne n1 n2) (Gro.refl F G1)⟩
            · unfold SlX.slH
              rw [upd_ne hne, upd_same]
              exact fun z => nomatch z
            · unfold slD
              simp only [hj]
              exact h3.put r1 j
          · rw [C.sl] at h2; cases h2
        · exact q1.elim
      | _ => simp only [hs] at q1; exact q1.elim
/-! ### a class called -/
structure DfI (P : Program) (w : World) (K : PySem.W.Frag) (mg : Str → Option Value) (base : Heap) (c : Str) (k n : Nat) (r : List D → Rv) : Prop where
  ex : ∃ fd ps, FnOk P w K mg base (L2.CX P w) k (He.ma K (He.ga K c) "__init__") fd ps (spI ⟨P, w, K⟩ c n r) ∧ Binds K fd ps []
  mkr : Mk K (He.ga K c) (He.ma K (He.ga K c) "__init__")
  gl : mg c = some (.ref (He.ga K c))
theorem run_makeS {pins : List (Addr × Obj)} {σ : L2.St} {H : Hp} {S : Shared} {Q : VK} {us : List Value} {vs : List V} {C g : Addr} {fd : FuncData} {ps : List Str} {sp : Sp} {E : XK} (M : Mk X.K C g) (F : FnOk X.prog X.w X.K X.mg X.base (L2.CX X.prog X.w) k g fd ps sp) (hr : Room (k + 1) X.A) (hb : Binds X.K fd ps [])
    (hx : PassesAt (L2.CX X.prog X.w) X σ E) (J : Inv X pins σ H S) (rel : Vals vs us)
    (go : ∀ x dx, H x = none → H dx = none → dx ≠ x → sp (.ref x :: vs) (upd (upd H dx (.own x)) x (.ins C dx [])) (fun v H2 => v = .non ∧ Q (.ref x) H2) E) : wpAny (model X.prog X.w) X.A (call (.ref C) us) (EP X pins σ Q) X.xe S := by
  have born := Inv.made J (C := C)
  have asked := go (S.heap.objs.size + 1) S.heap.objs.size (J.hok.fresh (Nat.le_add_right _ 1)) (J.hok.fresh (Nat.le_refl _)) (Nat.ne_of_lt (Nat.lt_add_one S.heap.objs.size))
  have self : Vals (V.ref (S.heap.objs.size + 1) :: vs) (Value.ref (S.heap.objs.size + 1) :: us) := .cons rfl rel
  have many := self.length.symm.trans (F.len _ _ _ _ asked)
  have bound := hb _ _ born.kIn (show (Value.ref (S.heap.objs.size + 1) :: us ++ []).length = ps.length by rw [List.append_nil]; exact many)
  rw [List.append_nil] at bound
  have init := F.run _ X.stack _ _ ⟨_ :: us, []⟩ _ _ _ E (hr.make C us []) (born.env0.make C us []) bound self asked
  refine wpAny_call (make_map J.kIn M.makes M.init (beq_iff_eq.mp M.fn) (codeAny_mono init fun out t z => ?_))
  match out, z with
  | .error _, z => exact hx _ _ _ _ _ born z
  | .ok (.ret _), z =>
    obtain ⟨v, K, born2, is, non, fin⟩ := born.after z
    cases non
    exact ⟨is, .ref _, K, born2, rfl, fin⟩
/-- C(..): the arguments frozen, the object frozen -/
def eMake (c : Str) (r : List D → Rv) (gs : List EX) : EX := fun e => match evs gs e with
  | .stuck => .stuck
  | .exc x e1 => .exc x e1
  | .val ds e1 => (match r ds with
    | .ret (.obj c1 fs) => if c1 = c then .val (.obj c1 fs) e1 else .stuck
    | .exc x => .exc x e1
    | _ => .stuck)
theorem pe_makeD (D1 : DfI X.prog X.w X.K X.mg X.base c k n r) (hr : Room (k + 1) X.A) (tk : Takes X W) (hdb : (c == ("__debug__" : Str)) = false) (hg : Gl X c) (hfl : fs.length = n) (ha : PA X (a :: es) (tF (mx X xo) W fs))
    (he : starEach (a :: es) X.env = (false, eval a X.env) :: starEach es X.env := by rfl) (hpl : (backTo pos (starEach es X.env)).any (·.1) = false := by rfl) :
    PE X (.Call (.Name c p) (a :: es) [] pos) (tD (mx X xo) W (eMake c r fs)) := by
  obtain ⟨fd, ps, F1, hb⟩ := D1.ex
  refine ⟨fun pins s σ H Q I ⟨F, Y, G, e, hE, q⟩ => ?_⟩
  refine wpAny_Call_Name_kw (ld_glob I hg D1.gl ?_ hdb)
  have key : tF (mx X xo) W fs σ H fun vs H1 => ∀ x dx, H1 x = none → H1 dx = none → dx ≠ x → spI (mt X) c n r (.ref x :: vs) (upd (upd H1 dx (.own x)) x (.ins (He.ga X.K c) dx [])) (fun v H2 => v = .non ∧ Q (.ref x) H2) (WE W σ) := by
    refine ⟨F, Y, G, e, hE, ?_⟩
    unfold eMake at q
    cases hv : evs fs e with
    | stuck => rw [hv] at q; exact q
    | exc x e1 => rw [hv] at q; exact q
    | val ds e1 =>
      rw [hv] at q
      intro vs G1 H1 s1 r1 x dx hx hdx hne
      have gx := s1.env.gh.back hx
      have gd := s1.env.gh.back hdx
      have up : ∀ b o, H1 b = some o → upd (upd H1 dx (.own x)) x (.ins (He.ga X.K c) dx []) b = some o := fun b o hb => by
        rw [upd_ne (ne_of_none hb hx), upd_ne (ne_of_none hb hdx)]
        exact hb
      refine ⟨G1, x, dx, ds, vs, rfl, by rw [r1.length, evs_len hv, hfl], fun b o hb => up b o (s1.env.gh b o hb), upd_same, by rw [upd_ne hne, upd_same], hne, gx, gd, r1, ?_⟩
      have nwx : ∀ {G' H' : Hp}, NwS G1 (upd (upd H1 dx (.own x)) x (.ins (He.ga X.K c) dx [])) x dx G' H' → (∀ b, G' b ≠ none → G1 b ≠ none ∨ H1 b = none) := fun {G' H'} n5 b hb => by
        rcases n5.nw b hb with z | z
        · exact .inl z
        · by_cases h1 : b = x
          · rw [h1]; exact .inr hx
          · by_cases h2 : b = dx
            · rw [h2]; exact .inr hdx
            · rw [upd_ne h1, upd_ne h2] at z
              exact .inr z
      have hh : ∀ {G' H' : Hp}, NwS G1 (upd (upd H1 dx (.own x)) x (.ins (He.ga X.K c) dx [])) x dx G' H' → Ex H1 H' := fun {G' H'} n5 b o hb => n5.hh b o (up b o hb) (ne_of_none hb hx) (ne_of_none hb hdx)
      cases hrr : r ds with
      | stuck => simp only [hrr] at q; exact q
      | exc xx =>
        simp only [hrr] at q
        exact fun cls d G' H' n5 h6 => q cls d G' H' (s1.trans (Stp.ofN s1.env ⟨n5.gg, n5.gh, hh n5, nwx n5⟩)) (h6.weak fun b o hb => by
          have hb1 := s1.env.fh b o hb
          unfold wo
          rw [if_neg (fun z => z.elim (ne_of_none hb1 hx) (ne_of_none hb1 hdx))]
          exact up b o hb1)
      | ret d =>
        simp only [hrr] at q
        cases d with
        | obj c' flds =>
          simp only at q
          split at q
          · rename_i hcc
            subst hcc
            refine ⟨rfl, fun G' H' n5 qa qd hmo => ⟨rfl, ?_⟩⟩
            obtain ⟨ws, rw1, ⟨hs, m1, m2⟩ | ⟨hs, fv, m1, m2, m3⟩⟩ := hmo
            · have gx1 : Ex G' (upd G' dx (.xd [])) := Ex.new qd
              have gx2 : Ex G' (upd (upd G' dx (.xd [])) x (SlX.SlO x (He.ga X.K c') dx (ws.map some))) := gx1.trans (Ex.new (by rw [upd_ne (Ne.symm hne)]; exact qa))
              refine q (.ref x) (upd (upd G' dx (.xd [])) x (SlX.SlO x (He.ga X.K c') dx (ws.map some))) H' (s1.trans (Stp.ofN s1.env ⟨n5.gg.trans gx2, fun b o hb => ?_, hh n5, fun b hb => ?_⟩)) ⟨x, dx, ws, rfl, Rps.mono gx2 _ _ rw1, .inl ⟨hs, upd_same, by rw [upd_ne hne, upd_same]⟩⟩
              · by_cases h1 : b = x
                · subst h1
                  rw [upd_same] at hb
                  cases hb
                  exact m1
                · rw [upd_ne h1] at hb
                  by_cases h2 : b = dx
                  · subst h2
                    rw [upd_same] at hb
                    cases hb
                    exact m2
                  · rw [upd_ne h2] at hb
                    exact n5.gh b o hb
              · by_cases h1 : b = x
                · rw [h1]; exact .inr hx
                · by_cases h2 : b = dx
                  · rw [h2]; exact .inr hdx
                  · rw [upd_ne h1, upd_ne h2] at hb
                    exact nwx n5 b hb
            · have gx2 : Ex G' (upd G' x (.ins (He.ga X.K c') dx fv)) := Ex.new qa
              refine q (.ref x) (upd G' x (.ins (He.ga X.K c') dx fv)) H' (s1.trans (Stp.ofN s1.env ⟨n5.gg.trans gx2, fun b o hb => ?_, hh n5, fun b hb => ?_⟩)) ⟨x, dx, ws, rfl, Rps.mono gx2 _ _ rw1, .inr ⟨hs, fv, upd_same, m2, m3.1⟩⟩
              · by_cases h1 : b = x
                · subst h1
                  rw [upd_same] at hb
                  cases hb
                  exact m1
                · rw [upd_ne h1] at hb
                  exact n5.gh b o hb
              · by_cases h1 : b = x
                · rw [h1]; exact .inr hx
                · rw [upd_ne h1] at hb
                  exact nwx n5 b hb
          · exact q.elim
        | _ => exact q.elim
  refine PySem.W.callWith_K (h₀ := X.base) I.ok.mod.kin D1.mkr.kp (thn (ha.run pos pins s σ H _ I key) fun us s1 ⟨vs, H1, I1, r, q⟩ => ⟨I1.kIn, ?_⟩) he hpl
  exact run_makeS D1.mkr F1 hr hb (passAt tk σ) I1 r q
end
end TF
/-! #### text TFq -/
set_option Elab.async false
set_option linter.all false
set_option maxRecDepth 100000
set_option maxHeartbeats 2000000
/-! TFq: sorted(..) of a list, a tuple, a text. -/
namespace TF
open PySem L2 PySem.Spec PyProof.Rows PySem.TXP
def leD (a b : D) : Bool := PySem.W.dataLe false D.py a b
def sortD (ds : List D) : List D := ds.mergeSort leD
def isTup1 : D → Bool
  | .tup (_ :: _) => true
  | _ => false
def noTup : D → Bool
  | .non => false
  | .tup _ => false
  | _ => true
def okSort (ds : List D) : Bool := decide (ds.length ≤ 100000) && (ds.all fun a => a.pl 20) && (ds.all fun a => ds.all fun b => PySem.W.alike a.py b.py) && (ds.all isTup1 || ds.all noTup)
theorem okSort_of {ds : List D} (h : okSort ds = true) : ds.length ≤ 100000 ∧ (∀ a ∈ ds, a.pl 20 = true) ∧ (∀ a ∈ ds, ∀ b ∈ ds, PySem.W.alike a.py b.py = true) ∧ (∀ {β : Type} (f : β → D) (bs : List β), (∀ b ∈ bs, f b ∈ ds) → PySem.W.Sortable (bs.map fun b => (f b).py)) := by
  unfold okSort at h
  simp only [Bool.and_eq_true, decide_eq_true_eq, List.all_eq_true, Bool.or_eq_true] at h
  obtain ⟨⟨⟨h1, h2⟩, h3⟩, h4⟩ := h
  refine ⟨h1, h2, h3, fun f bs hb => ?_⟩
  rcases h4 with h4 | h4
  · refine .inl fun d hd => ?_
    obtain ⟨b, hm, rfl⟩ := List.mem_map.mp hd
    have := h4 _ (hb b hm)
    cases hf : f b with
    | tup xs =>
      rw [hf] at this
      cases xs with
      | nil => cases this
      | cons x r => exact ⟨x.py, D.pys r, by simp [D.py, D.pys]⟩
    | _ => rw [hf] at this; cases this
  · refine .inr fun d hd => ?_
    obtain ⟨b, hm, rfl⟩ := List.mem_map.mp hd
    have := h4 _ (hb b hm)
    cases hf : f b with
    | non => rw [hf] at this; cases this
    | tup xs => rw [hf] at this; cases this
    | _ => exact ⟨by simp [D.py], fun xs => by simp [D.py]⟩
/-- values with what they represent, sorted by that -/
def sortP (l : List (D × V)) : List (D × V) := l.mergeSort fun a b => leD a.1 b.1
theorem sortP_fst (l : List (D × V)) : (sortP l).map (·.1) = sortD (l.map (·.1)) := List.map_mergeSort fun a _ b _ => rfl
theorem rps_zip {M : Mt} {G : Hp} : ∀ {ds : List D} {vs : List V}, Rps M G ds vs → (∀ p ∈ ds.zip vs, Rp M G p.1 p.2) ∧ (ds.zip vs).map (·.1) = ds ∧ (ds.zip vs).map (·.2) = vs
  | [], _, h => by rw [show _ = [] from h]; exact ⟨fun p hp => by simp at hp, rfl, rfl⟩
  | d :: ds, _, ⟨v, r, rfl, h1, h2⟩ => by
    obtain ⟨a1, a2, a3⟩ := rps_zip h2
    refine ⟨fun p hp => ?_, by rw [List.zip_cons_cons, List.map_cons, a2], by rw [List.zip_cons_cons, List.map_cons, a3]⟩
    rw [List.zip_cons_cons] at hp
    rcases List.mem_cons.mp hp with e | hp
    · subst e; exact h1
    · exact a1 p hp
theorem rps_of {M : Mt} {G : Hp} : ∀ {l : List (D × V)}, (∀ p ∈ l, Rp M G p.1 p.2) → Rps M G (l.map (·.1)) (l.map (·.2))
  | [], _ => rfl
  | p :: l, h => ⟨p.2, l.map (·.2), rfl, h p List.mem_cons_self, rps_of fun q hq => h q (List.mem_cons_of_mem _ hq)⟩
theorem each_vals : ∀ {l : List (D × V)} {its : List Value}, Vals (l.map (·.2)) its → PySem.W.EachIs (fun u p => RelV p.2 u) its l
  | [], [], _ => .nil
  | p :: l, u :: us, h => by
    rw [List.map_cons] at h
    cases h with
    | cons r t => exact .cons r (each_vals t)
theorem vals_each : ∀ {l : List (D × V)} {its : List Value}, PySem.W.EachIs (fun u p => RelV p.2 u) its l → Vals (l.map (·.2)) its
  | [], [], _ => .nil
  | p :: l, u :: us, h => by
    cases h with
    | cons r t => exact .cons r (vals_each t)
section
variable {X : Cx} {xo : Xo}
theorem srt {pins : List (Addr × Obj)} {σ : L2.St} {H : Hp} {s : Shared} {Q : VK} {x : Value} {vs : List V} {ds : List D} {G : Hp} (I : Inv X pins σ H s) (g : Ex G H) (r : Rps (mt X) G ds vs) (ok : okSort ds = true) (hu : X.A.units + 100 < cLine)
    (hcol : ∀ (Q' : List Value → Shared → Prop) (E' : Value → Shared → Prop), (∀ its h' t', Vals vs its → (∀ b o, s.heap.get? b = some o → h'.get? b = some o) → Q' its { s with heap := h', toks := t' }) → wpAny (model X.prog X.w) X.A.in1 (collect x) Q' E' s)
    (h : ∀ l, H l = none → Q (.ref l) (upd H l (.lst ((sortP (ds.zip vs)).map (·.2))))) : wpAny (model X.prog X.w) X.A (call (.builtin "sorted") [x]) (EP X pins σ Q) X.xe s := by
  obtain ⟨hz, hpl, hal, hsrt⟩ := okSort_of ok
  obtain ⟨z1, z2, z3⟩ := rps_zip r
  refine Calls.call_function_entry kind_sorted plain_sorted entry_sorted (args_sorted1 _) ?_
  unfold Builtin.«sorted»
  refine wpAny_bind (m := checkCount "sorted" 1 1 _) (wpAny_pure ?_)
  refine wpAny_bind (hcol _ _ fun its hp tk rv k => ?_)
  have hlen : its.length = ds.length := by rw [← rv.length, r.length]
  have hL : its.length ≤ sizeLine := by rw [hlen]; exact Nat.le_trans hz (by decide)
  refine wpAny_bind (wpAny_newList ?_ hL)
  have I1 := I.kept (t' := tk) k
  obtain ⟨hs0, gg, dr, tk0, os⟩ := s
  have hat : (hp.push { cls := .type "list", data := .seq its.toArray }).get? hp.objs.size = some (seqObj "list" its.toArray 0) := Heap.get?_push_size _ rfl
  have kk : ∀ b o, hs0.get? b = some o → (hp.push { cls := .type "list", data := .seq its.toArray }).get? b = some o := fun b o e => Heap.get?_push_of_some _ (k b o e)
  refine wpAny_bind (wpAny_holding (wpAny_call_entry slot_list_sort ⟨_, hat, rfl⟩ entry_list_sort ?body (args_list_sort _)))
  case body =>
    have eR : PySem.W.EachIs (fun u p => RelV p.2 u) its (ds.zip vs) := each_vals (by rw [z3]; exact rv)
    have er : PySem.W.EachIs (fun v (d : PyData) => ∃ as, Reads (PySem.W.sortingHeap (hp.push { cls := .type "list", data := .seq its.toArray }) hp.objs.size its) v d as) its ((ds.zip vs).map fun p => p.1.py) := by
      have key : ∀ {l : List (D × V)} {us : List Value}, (∀ p ∈ l, Rp (mt X) G p.1 p.2 ∧ p.1.pl 20 = true) → PySem.W.EachIs (fun u p => RelV p.2 u) us l → PySem.W.EachIs (fun v (d : PyData) => ∃ as, Reads (PySem.W.sortingHeap (hp.push { cls := .type "list", data := .seq its.toArray }) hp.objs.size its) v d as) us (l.map fun p => p.1.py) := by
        intro l
        induction l with
        | nil => intro us _ e; cases e; exact .nil
        | cons p l ih =>
          intro us hl e
          cases e with
          | cons r1 t1 =>
            refine .cons ?_ (ih (fun q hq => hl q (List.mem_cons_of_mem _ hq)) t1)
            obtain ⟨rp, hp20⟩ := hl p List.mem_cons_self
            obtain ⟨as, hr⟩ := Dp.reads I p.1.py p.2 _ (Rp.dp (M := mx X none) g 20 p.1 p.2 hp20 rp) r1
            refine ⟨as, PyProof.Rows.Reads.keeps (fun b o hb => PySem.W.sortingHeap_old (fun z => ?_) (kk b o hb)) hr⟩
            subst z
            exact absurd (Heap.lt_size (k _ _ hb)) (Nat.lt_irrefl _)
      refine key (fun p hp => ⟨z1 p hp, hpl _ ?_⟩) eR
      rw [← z2]
      exact List.mem_map_of_mem (f := (·.1)) hp
    have hmem : ∀ p ∈ ds.zip vs, p.1 ∈ ds := fun p hp => by
      have := List.mem_map_of_mem (f := fun x : D × V => x.1) hp
      rw [z2] at this
      exact this
    have hAl : PySem.W.AllAlike ((ds.zip vs).map fun p => p.1.py) := fun d hd d' hd' => by
      obtain ⟨p, hp, rfl⟩ := List.mem_map.mp hd
      obtain ⟨p', hp', rfl⟩ := List.mem_map.mp hd'
      exact hal _ (hmem p hp) _ (hmem p' hp')
    have hSo := hsrt (fun p : D × V => p.1) (ds.zip vs) hmem
    refine PySem.W.list_sort_vals (s := ⟨hp.push { cls := .type "list", data := .seq its.toArray }, gg, dr, tk, os⟩) hat (PySem.W.SortsAt.data (s := ⟨PySem.W.sortingHeap (hp.push { cls := .type "list", data := .seq its.toArray }) hp.objs.size its, gg, dr, tk, os⟩) er hAl hSo (fun d hd => ?_)) hL ?_
    · obtain ⟨p, hp, rfl⟩ := List.mem_map.mp hd
      have := (pl_lay 20 p.1 (hpl _ (hmem p hp))).2
      show X.A.units + 1 + 1 + _ < cLine
      omega
    · have er2 : PySem.W.EachIs (fun v (p : D × V) => ∃ as, Reads (PySem.W.sortingHeap (hp.push { cls := .type "list", data := .seq its.toArray }) hp.objs.size its) v p.1.py as) its (ds.zip vs) := by
        have un : ∀ {l : List (D × V)} {us : List Value}, PySem.W.EachIs (fun v (d : PyData) => ∃ as, Reads (PySem.W.sortingHeap (hp.push { cls := .type "list", data := .seq its.toArray }) hp.objs.size its) v d as) us (l.map fun p => p.1.py) → PySem.W.EachIs (fun v (p : D × V) => ∃ as, Reads (PySem.W.sortingHeap (hp.push { cls := .type "list", data := .seq its.toArray }) hp.objs.size its) v p.1.py as) us l := by
          intro l
          induction l with
          | nil => intro us e; cases e; exact .nil
          | cons p l ih =>
            intro us e
            rw [List.map_cons] at e
            cases e with
            | cons r1 t1 => exact .cons r1 (ih t1)
        exact un er
      have out := PySem.W.sortVals_data (h' := PySem.W.sortingHeap (hp.push { cls := .type "list", data := .seq its.toArray }) hp.objs.size its) (enc := fun p : D × V => p.1.py) false eR er2 hAl
      have vout : Vals ((sortP (ds.zip vs)).map (·.2)) (PySem.W.sortVals (PySem.W.dataKind (PySem.W.sortingHeap (hp.push { cls := .type "list", data := .seq its.toArray }) hp.objs.size its) ((ds.zip vs).map fun p => p.1.py)) false its its) := vals_each out
      obtain ⟨ep, he'⟩ := sortedHeap_at (out := (PySem.W.sortVals (PySem.W.dataKind (PySem.W.sortingHeap (hp.push { cls := .type "list", data := .seq its.toArray }) hp.objs.size its) ((ds.zip vs).map fun p => p.1.py)) false its its).toArray) hat
      have lz : ((sortP (ds.zip vs)).map (·.2)).length ≤ sizeLine := by
        rw [List.length_map]
        unfold sortP
        rw [(List.mergeSort_perm _ _).length_eq, List.length_zip, r.length, Nat.min_self]
        exact Nat.le_trans hz (by decide)
      have hne : H hp.objs.size = none := I1.hok.fresh (Nat.le_refl _)
      refine ⟨.none, rfl, wpAny_pure ⟨_, rfl, ?_⟩⟩
      exact ⟨.ref hp.objs.size, _, I1.laid (t' := tk) (a := hp.objs.size) (o := .lst ((sortP (ds.zip vs)).map (·.2))) (fun b o hb => (sortedHeap_old (Nat.ne_of_lt (Heap.lt_size hb)) (by rw [Heap.size_push]; exact Nat.lt_succ_of_lt (Heap.lt_size hb))).trans (Heap.get?_push_of_some _ hb)) (Nat.le_refl _) ⟨lz, _, ep, vout, he'⟩, rfl, h _ hne⟩
end
end TF
/-! #### text TFr -/
set_option Elab.async false
set_option linter.all false
set_option maxRecDepth 100000
set_option maxHeartbeats 2000000
/-! TFr: sorted, join. -/
namespace TF
open PySem L2 PySem.Spec PyProof.Rows
/-- a text's signs -/
def signsD (x : Str) : List D := x.cps.toList.map fun c => .str ⟨#[c]⟩
def dSorted : List D → Option D
  | [.lst xs] => if okSort xs then some (.lst (sortD xs)) else none
  | [.tup xs] => if okSort xs then some (.lst (sortD xs)) else none
  | [.str x] => if okSort (signsD x) then some (.lst (sortD (signsD x))) else none
  | _ => none
theorem rps_sort {M : Mt} {G : Hp} {ds : List D} {vs : List V} (r : Rps M G ds vs) : Rps M G (sortD ds) ((sortP (ds.zip vs)).map (·.2)) := by
  obtain ⟨z1, z2, z3⟩ := rps_zip r
  have h := rps_of (l := sortP (ds.zip vs)) fun p hp => z1 p ((List.mergeSort_perm _ _).mem_iff.mp hp)
  rw [sortP_fst, z2] at h
  exact h
theorem rps_signs {M : Mt} {G : Hp} : ∀ l : List Nat, Rps M G (l.map fun c => D.str ⟨#[c]⟩) (l.map fun c => V.str ⟨#[c]⟩)
  | [] => rfl
  | c :: l => ⟨_, _, rfl, rfl, rps_signs l⟩
theorem vals_signs {x : Str} {acc : Array Value} (h : ItemsOf (SignAt x) acc x.cps.size) : Vals (x.cps.toList.map fun c => V.str ⟨#[c]⟩) acc.toList := by
  obtain ⟨h1, h2⟩ := h
  have key : ∀ (l : List Nat) (us : List Value), us.length = l.length → (∀ (j : Nat) (v : Value), us[j]? = some v → ∃ (c : Nat) (u : Tok), l[j]? = some c ∧ v = Value.str ⟨#[c]⟩ u) → Vals (l.map fun c => V.str ⟨#[c]⟩) us := by
    intro l
    induction l with
    | nil =>
      intro us hl _
      cases us with
      | nil => exact .nil
      | cons u us => cases hl
    | cons c l ih =>
      intro us hl hj
      cases us with
      | nil => cases hl
      | cons u us =>
        obtain ⟨c', t, e1, e2⟩ := hj 0 u rfl
        cases e1
        refine .cons ⟨t, e2⟩ (ih us (by simpa using hl) fun j v e => ?_)
        exact hj (j + 1) v (by rw [List.getElem?_cons_succ]; exact e)
  refine key _ _ (by rw [Array.length_toList, Array.length_toList, h1]) fun j v e => ?_
  obtain ⟨c, u, e1, e2⟩ := h2 j v (by rw [← Array.getElem?_toList]; exact e)
  exact ⟨c, u, by rw [Array.getElem?_toList]; exact e1, e2⟩
section
variable {X : Cx} {xo : Xo} {W : WX} {a b o : Expr} {f g h : EX} {fs : List EX} {es : List Expr} {pos p apos : Pos}
theorem crD_sorted (hc : X.calm = true) (hu : X.A.units + 100 < cLine) : CallR X (.builtin "sorted") (rDN (mx X xo) dSorted) := by
  intro pins s σ H xs us Q I rv ⟨G, ds, d, g, r, hd, q⟩
  unfold dSorted at hd
  split at hd
  · split at hd
    · rename_i ok
      cases hd
      obtain ⟨v, rfl, r1⟩ := r.one
      obtain ⟨p, vs, rfl, h1, h2⟩ := r1.list g
      obtain ⟨u, rfl, rx⟩ := vals1 rv
      cases rx
      obtain ⟨its, r', ⟨o, n, ho, hc, _, hd⟩, hz⟩ := I.list (.inl (.inl h1))
      refine srt (G := G) I g h2 ok hu (fun Q' E' hq => ?_) fun l hl => q _ (upd G l _) _ (Nw.new g hl) (Rp.of_lst (rps_sort h2) (g.back hl))
      refine wpAny_collect_seq p (.inl rfl) ho hc hd (fun h' hk => ?_) (by rw [List.size_toArray, ← r'.length]; exact hz)
      have := hq its h' s.toks r' hk
      simpa using this
    · cases hd
  · split at hd
    · rename_i ok
      cases hd
      obtain ⟨v, rfl, r1⟩ := r.one
      obtain ⟨p, vs, rfl, h1, h2⟩ := r1.tup g
      obtain ⟨u, rfl, rx⟩ := vals1 rv
      cases rx
      obtain ⟨its, r', ⟨o, ho, hc, n, hd⟩, hz⟩ := I.tuple h1
      refine srt (G := G) I g h2 ok hu (fun Q' E' hq => ?_) fun l hl => q _ (upd G l _) _ (Nw.new g hl) (Rp.of_lst (rps_sort h2) (g.back hl))
      refine wpAny_collect_seq p (.inr rfl) ho hc hd (fun h' hk => ?_) (by rw [List.size_toArray, ← r'.length]; exact hz)
      have := hq its h' s.toks r' hk
      simpa using this
    · cases hd
  · split at hd
    · rename_i x ok
      cases hd
      obtain ⟨v, rfl, r1⟩ := r.one
      obtain ⟨u, rfl, rx⟩ := vals1 rv
      rw [r1.str] at rx
      obtain ⟨t, rfl⟩ := rx
      have h2 : Rps (mt X) G (signsD x) (x.cps.toList.map fun c => V.str ⟨#[c]⟩) := rps_signs _
      have hz : x.cps.size ≤ sizeLine := by
        have := (okSort_of ok).1
        unfold signsD at this
        rw [List.length_map, Array.length_toList] at this
        exact Nat.le_trans this (by decide)
      refine srt (G := G) I g h2 ok hu (fun Q' E' hq => ?_) fun l hl => q _ (upd G l _) _ (Nw.new g hl) (Rp.of_lst (rps_sort h2) (g.back hl))
      refine wpAny_collect_str (A := X.A.in1) (I.ok.hd hc) x t (fun s' acc hk e1 e2 e3 hi => ?_) hz
      have := hq acc.toList s'.heap s'.toks (vals_signs hi) hk
      obtain ⟨hh, gg, dr, tk, os⟩ := s'
      obtain ⟨hh0, gg0, dr0, tk0, os0⟩ := s
      cases e1
      cases e2
      cases e3
      exact this
    · cases hd
  · cases hd
/-! ### join -/
def strsOf : List D → Option (List Str)
  | [] => some []
  | .str x :: r => (strsOf r).map (x :: ·)
  | _ => none
theorem strsOf_eq : ∀ {ds : List D} {ys : List Str}, strsOf ds = some ys → ds = ys.map D.str
  | [], ys, h => by cases h; rfl
  | .str x :: r, ys, h => by
    unfold strsOf at h
    cases hr : strsOf r with
    | none => rw [hr] at h; cases h
    | some zs => rw [hr] at h; cases h; rw [strsOf_eq hr]; rfl
  | .non :: _, _, h => by cases h
  | .bl _ :: _, _, h => by cases h
  | .int _ :: _, _, h => by cases h
  | .tup _ :: _, _, h => by cases h
  | .lst _ :: _, _, h => by cases h
  | .dic _ :: _, _, h => by cases h
  | .obj _ _ :: _, _, h => by cases h
theorem rps_strs {M : Mt} {G : Hp} : ∀ {ys : List Str} {vs : List V}, Rps M G (ys.map D.str) vs → vs = ys.map V.str
  | [], _, h => h
  | y :: ys, _, ⟨v, r, e, h1, h2⟩ => by rw [e, rps_strs h2, show v = V.str y from h1]; rfl
def joinD (a : Str) (ys : List Str) : Option D := if (ys.map (·.length)).sum + ys.length * a.length ≤ 16777216 then some (.str (Txt.join a ys)) else none
def dJoin : D → D → Option D
  | .str a, .lst ds => (strsOf ds).bind (joinD a)
  | .str a, .tup ds => (strsOf ds).bind (joinD a)
  | _, _ => none
theorem joinD_of {a : Str} {o : Option (List Str)} {d : D} (h : o.bind (joinD a) = some d) : ∃ ys, o = some ys ∧ (ys.map (·.length)).sum + ys.length * a.length ≤ 16777216 ∧ d = .str (Txt.join a ys) := by
  cases o with
  | none => cases h
  | some ys =>
    unfold joinD at h
    simp only [Option.bind] at h
    split at h
    · cases h; exact ⟨ys, rfl, by assumption, rfl⟩
    · cases h
def eJoin (a : Str) (g : EX) : EX := fun e => (g e).bind fun d e1 => Rx.of (dJoin (.str a) d) e1
/-- 'a'.join(xs) -/
theorem pe_joinD {x : Str} {j : Nat} {cp : Pos} (hb : PE X b (tV (mx X xo) W g))
    (hbase : attributeBase (.Constant (.str x) j cp) "join" X.env (eval (.Constant (.str x) j cp) X.env) = eval (.Constant (.str x) j cp) X.env := by rfl)
    (hfew : ((backTo p (starEach [b] X.env)).all (fun x => !x.1) && (backToKw p (keywordEach [] X.env)).all (fun x => x.1.isSome)
      && decide (([b] : List Expr).length + ([] : List Keyword).length + (if ([] : List Keyword).isEmpty then 0 else 1) < 30)) = true := by rfl)
    (hline : (apos.endLine == p.line) = true := by rfl) (hs : starEach [b] X.env = (false, eval b X.env) :: starEach [] X.env := by rfl) :
    PE X (.Call (.Attribute (.Constant (.str x) j cp) "join" apos) [b] [] p) (tD (mx X xo) W (eJoin x g)) := by
  refine PE.of (pe_bm F.plainAttrs_str F.slot_str_join F.type_str_join mt_join pe_str (pa_cons hb pa_nil hs) hbase hfew hline hs rfl) fun σ H Q ⟨F, Y, G, e, hE, q⟩ => ?_
  refine ⟨rfl, F, Y, G, e, hE, q.bind fun d e1 v G1 H1 hr s qq r => ?_⟩
  clear hr
  cases hj : dJoin (.str x) d with
  | none => rw [hj] at qq; exact qq.elim
  | some d2 =>
    rw [hj] at qq
    have q2 := qq (.str (match d2 with | .str z => z | _ => x)) G1 H1 (Stp.refl s.env)
    cases d with
    | lst ds =>
      obtain ⟨ys, h1, h2, rfl⟩ := joinD_of (show (strsOf ds).bind (joinD x) = some d2 from hj)
      have := strsOf_eq h1
      subst this
      obtain ⟨p, vs, rfl, h3, h4⟩ := Rpv.list r s.env.gh
      rw [rps_strs h4] at h3
      exact ⟨x, p, ys, rfl, rfl, .inl (.inl (.inl h3)), h2, q2 rfl⟩
    | tup ds =>
      obtain ⟨ys, h1, h2, rfl⟩ := joinD_of (show (strsOf ds).bind (joinD x) = some d2 from hj)
      have := strsOf_eq h1
      subst this
      obtain ⟨p, vs, rfl, h3, h4⟩ := Rpv.tup r s.env.gh
      rw [rps_strs h4] at h3
      exact ⟨x, p, ys, rfl, rfl, .inr h3, h2, q2 rfl⟩
    | _ => cases hj
end
end TF
/-! #### text TFs -/
set_option Elab.async false
set_option linter.all false
set_option maxRecDepth 100000
set_option maxHeartbeats 2000000
/-! TFs: isinstance. -/
namespace TF
open PySem L2 PySem.Spec PyProof.Rows
def tyS : D → Option String
  | .non => some "NoneType"
  | .bl _ => some "bool"
  | .int _ => some "int"
  | .str _ => some "str"
  | .tup _ => some "tuple"
  | .lst _ => some "list"
  | .dic _ => some "dict"
  | .obj _ _ => none
def isiB (t T : String) : Bool := t == T || (t == "bool" && T == "int")
def tyL : List String := ["NoneType", "bool", "int", "str", "tuple", "list", "dict"]
theorem kit_all : (tyL.all fun t => ["bool", "int", "str", "tuple", "list", "dict"].all fun T => kitB t T == some (isiB t T)) = true := by decide +kernel
def okTy (T : String) : Bool := ["bool", "int", "str", "tuple", "list", "dict"].contains T
theorem kit_tab {d : D} {t T : String} (h : tyS d = some t) (hT : okTy T = true) : kitB t T = some (isiB t T) := by
  have ht : t ∈ tyL := by
    unfold tyL
    cases d <;> simp only [tyS, Option.some.injEq, reduceCtorEq] at h <;> subst h <;> simp
  have := List.all_eq_true.mp (List.all_eq_true.mp kit_all t ht) T (by unfold okTy at hT; exact List.contains_iff_mem.mp hT)
  exact beq_iff_eq.mp this
section
variable {X : Cx} {xo : Xo} {pins : List (Addr × Obj)} {σ : L2.St} {H : Hp} {s : Shared}
theorem kit_D {G : Hp} {Z : List Addr} {d : D} {x : V} {u : Value} {t : String} (I : Inv X pins σ H s) (g : Ex G H) (r : Rpv (mx X xo) G H Z d x) (rx : RelV x u) (h : tyS d = some t) :
    ∃ P : Heap → Prop, PySem.W.KitX X.K u (.type t) P ∧ P s.heap ∧ u ≠ .builtin "__main__.__loader__#opaque" := by
  cases d with
  | non => cases h; rw [r.non] at rx; exact kit_of I rx (.base .non)
  | bl b => cases h; rw [r.bl] at rx; exact kit_of I rx (.base (.bl b))
  | int b => cases h; rw [r.int] at rx; exact kit_of I rx (.base (.int b))
  | str b => cases h; rw [r.str] at rx; exact kit_of I rx (.base (.str b))
  | tup ds =>
    cases h
    obtain ⟨p, vs, rfl, h1, _⟩ := r.tup g
    rcases h1 with (h1 | ⟨o, h1⟩) | ⟨o, its, n, h1, h2, _⟩
    · exact kit_of I rx (.base (.tup h1))
    · exact kit_of I rx (.fTuple h1)
    · exact kit_of I rx (.kTuple h1 h2)
  | lst ds =>
    cases h
    obtain ⟨p, vs, rfl, h1, _⟩ := r.list g
    exact kit_of I rx (.base (.lst h1))
  | dic kvs =>
    cases h
    obtain ⟨p, rfl, h1⟩ := r.dic g
    rcases h1 with ⟨ks, h1, _⟩ | ⟨xs, h1, _⟩
    · exact kit_of I rx (.base (.dK h1))
    · cases (show u = Value.ref p from rx)
      obtain ⟨⟨vs, _, _, _, o, es, ep, h2, h3, _⟩, _⟩ := (show ObjOk X.prog X.w H s.heap p (dN (mt X) p xs) from I.hok p _ h1)
      exact ⟨_, PySem.W.kitx_dict, ⟨o, h2, h3.1⟩, fun z => nomatch z⟩
  | obj c fs => cases h
end
def eIsi (Ts : List String) (f : EX) : EX := fun e => (f e).bind fun d e1 => Rx.of ((tyS d).map fun t => D.bl (Ts.any (isiB t))) e1
def eIsC (c : Str) (f : EX) : EX := fun e => (f e).bind fun d e1 => match d with
  | .obj c' _ => if c' = c then .val (.bl true) e1 else .stuck
  | _ => .stuck
structure TyN (X : Cx) (x : Str) (T : String) : Prop where
  mg : X.mg x = none
  gl : Gl X x
  bt : bootBuiltins x = some (.type T)
  n1 : x ≠ "__name__"
  n2 : (x == ("__debug__" : Str)) = false
theorem TyN.pe {X : Cx} {x : Str} {T : String} {pos : Pos} (h : TyN X x T) : PE X (.Name x pos) (tC (.ty T)) := pe_bltn h.gl h.mg h.bt rfl h.n1 h.n2
section
variable {X : Cx} {xo : Xo} {W : WX} {a b o : Expr} {f g h : EX} {fs : List EX} {es : List Expr} {pos p apos p1 p2 p3 : Pos}
theorem pe_isiD {x : Str} {T : String} (N : TyN X x T) (hT : okTy T = true) (hm : X.mg "isinstance" = none) (hg : Gl X "isinstance") (ha : PE X a (tV (mx X xo) W f))
    (he : starEach (a :: [.Name x p1]) X.env = (false, eval a X.env) :: starEach [.Name x p1] X.env := by rfl) :
    PE X (.Call (.Name "isinstance" p) [a, .Name x p1] [] pos) (tD (mx X xo) W (eIsi [T] f)) := by
  have hc : CallR X (.builtin "isinstance") (fun xs H Q => ∃ (G : Hp) (Z : List Addr) (d : D) (v : V) (t : String), xs = [v, .ty T] ∧ Ex G H ∧ Rpv (mx X xo) G H Z d v ∧ tyS d = some t ∧ Q (.bl (isiB t T)) H) := by
    intro pins s σ H xs us Q I rv ⟨G, Z, d, v, t, hx, g, r, ht, q⟩
    subst hx
    obtain ⟨u1, u2, rfl, r1, r2⟩ := vals2 rv
    cases (show u2 = Value.type T from r2)
    obtain ⟨P, z, pp, hx⟩ := kit_D I g r r1 ht
    exact PySem.W.kia_one z I.kIn pp (kit_ty (kit_tab ht hT)) hx fun tk => ⟨.bl _, H, I.tok tk, rfl, q⟩
  refine PE.of (pe_callB hc hg hm PyProof.Rows.boot_isinstance (pa_cons ha (pa_cons N.pe pa_nil) he) (by decide) (by decide) he rfl) fun σ H Q ⟨F, Y, G, e, hE, q⟩ => ?_
  refine ⟨F, Y, G, e, hE, q.bind fun d e1 v G1 H1 hr s qq r => ?_⟩
  cases ht : tyS d with
  | none => rw [ht] at qq; exact qq.elim
  | some t =>
    rw [ht] at qq
    refine ⟨G1, Y, d, v, t, rfl, s.env.gh, r, ht, ?_⟩
    have := qq (.bl (isiB t T)) G1 H1 (Stp.refl s.env) (by simp [Rp])
    exact this
theorem pe_isi2D {x y : Str} {T U : String} {k : Nat} (N : TyN X x T) (N2 : TyN X y U) (hT : okTy T = true) (hU : okTy U = true) (hm : X.mg "isinstance" = none) (hg : Gl X "isinstance") (ha : PE X a (tV (mx X xo) W f))
    (he : starEach (a :: [.Tuple [.Name x p1, .Name y p2] k p3]) X.env = (false, eval a X.env) :: starEach [.Tuple [.Name x p1, .Name y p2] k p3] X.env := by rfl) :
    PE X (.Call (.Name "isinstance" p) [a, .Tuple [.Name x p1, .Name y p2] k p3] [] pos) (tD (mx X xo) W (eIsi [T, U] f)) := by
  have hc : CallR X (.builtin "isinstance") (fun xs H Q => ∃ (G : Hp) (Z : List Addr) (d : D) (v : V) (t : String) (tp : Addr), xs = [v, .ref tp] ∧ H tp = some (.tup [.ty T, .ty U]) ∧ Ex G H ∧ Rpv (mx X xo) G H Z d v ∧ tyS d = some t ∧ Q (.bl (isiB t T || isiB t U)) H) := by
    intro pins s σ H xs us Q I rv ⟨G, Z, d, v, t, tp, hx, hT2, g, r, ht, q⟩
    subst hx
    obtain ⟨u1, u2, rfl, r1, r2⟩ := vals2 rv
    cases (show u2 = Value.ref tp from r2)
    obtain ⟨P, z, pp, hx⟩ := kit_D I g r r1 ht
    obtain ⟨_, its, rv2, o, h1, h2, n, h3⟩ := (show ObjOk X.prog X.w H s.heap tp (.tup [.ty T, .ty U]) from I.hok tp _ hT2)
    have e3 := ClsV.all (.cons (.ty T) (.cons (.ty U) .nil)) rv2
    subst e3
    obtain ⟨oc, od, dt, sl⟩ := o
    simp only at h2 h3
    subst h2 h3
    refine PySem.W.kia_tup (b := isiB t T || isiB t U) z I.kIn pp h1 ?_ hx fun tk => ⟨.bl _, H, I.tok tk, rfl, q⟩
    refine kitAny_cons (kit_ty (kit_tab ht hT)) (fun z => ?_) fun z => by rw [z]; rfl
    rw [z]
    refine kitAny_cons (kit_ty (kit_tab ht hU)) (fun z => ?_) fun z => by rw [z]; rfl
    rw [z]
    exact kitAny_nil
  refine PE.of (pe_callB hc hg hm PyProof.Rows.boot_isinstance (pa_cons ha (pa_cons (pe_tup (pa_cons N.pe (pa_cons N2.pe pa_nil))) pa_nil) he) (by decide) (by decide) he rfl) fun σ H Q ⟨F, Y, G, e, hE, q⟩ => ?_
  refine ⟨F, Y, G, e, hE, q.bind fun d e1 v G1 H1 hr s qq r => ?_⟩
  refine ⟨by show 2 ≤ sizeLine; decide, fun tp htp => ?_⟩
  cases ht : tyS d with
  | none => rw [ht] at qq; exact qq.elim
  | some t =>
    rw [ht] at qq
    have n := Nw.new (o := .tup [.ty T, .ty U]) s.env.gh htp
    have st := Stp.ofN s.env n
    refine ⟨_, Y, d, v, t, tp, rfl, upd_same, n.gh, r.stp st, ht, ?_⟩
    have := qq (.bl (isiB t T || (isiB t U || false))) _ _ st rfl
    rw [Bool.or_false] at this
    exact this
/-- isinstance(e, c), e an instance of c -/
theorem pe_isCD {c : Str} (C : ClS X.K c) (hmc : X.mg c = some (.ref (He.ga X.K c))) (hgc : Gl X c) (hdc : (c == ("__debug__" : Str)) = false) (hm : X.mg "isinstance" = none) (hg : Gl X "isinstance") (ha : PE X a (tD (mx X xo) W f))
    (he : starEach (a :: [.Name c p1]) X.env = (false, eval a X.env) :: starEach [.Name c p1] X.env := by rfl) :
    PE X (.Call (.Name "isinstance" p) [a, .Name c p1] [] pos) (tD (mx X xo) W (eIsC c f)) := by
  refine PE.of (pe_callB (SlX.call_isiSl (.ref (He.ga X.K c))) hg hm PyProof.Rows.boot_isinstance (pa_cons ha (pa_cons (pe_glob (v := .ref (He.ga X.K c)) hgc hmc rfl hdc) pa_nil) he) (by decide) (by decide) he rfl) fun σ H Q ⟨F, Y, G, e, hE, q⟩ => ?_
  refine ⟨F, Y, G, e, hE, q.bind fun d e1 v G1 H1 hr s qq r => ?_⟩
  cases d with
  | obj c' ds =>
    simp only at qq
    split at qq
    · rename_i hc
      subst hc
      obtain ⟨a, dx, vs, rfl, hs, rr⟩ := Rp.slt r s.env.gh C.sl
      refine ⟨a, _, dx, vs.map some, .ref (He.ga X.K c'), true, rfl, rfl, fun w hw => hw, hs, C.cls, C.isi, ?_, qq (.bl true) G1 H1 (Stp.refl s.env) rfl⟩
      unfold PySem.W.kitOne
      simp
    · exact qq.elim
  | _ => exact qq.elim
end
end TF
/-! #### text TFr2 -/
set_option Elab.async false
set_option linter.all false
set_option maxRecDepth 100000
set_option maxHeartbeats 1200000
/-! TFr2: t[::-1], t a tuple. -/
namespace TF
open PyProof.Rows PySem PySem.Spec L2
theorem down_from (n : Nat) : Builtin.Slice.slicePlaces ((n : Int) - 1) (-1) (-1) = n := by
  unfold Builtin.Slice.slicePlaces
  rw [if_neg (by decide)]
  by_cases z : n = 0
  · subst z; rfl
  · rw [if_pos (by omega), show -(-1 : Int) = 1 from rfl, Int.ediv_one]
    omega
theorem filter_same {α β : Type} {f g : α → Option β} : ∀ (l : List α), (∀ x ∈ l, f x = g x) → l.filterMap f = l.filterMap g
  | [], _ => rfl
  | x :: l, h => by rw [List.filterMap_cons, List.filterMap_cons, h x List.mem_cons_self, filter_same l fun y hy => h y (List.mem_cons_of_mem _ hy)]
theorem taken_down (a : Array Value) : (List.range a.size).filterMap (fun (k : Nat) => a[((a.size : Int) - 1 + (k : Int) * (-1)).toNat]?) = a.toList.reverse := by
  have each : ∀ k ∈ List.range a.size, a[((a.size : Int) - 1 + (k : Int) * (-1)).toNat]? = a.toList.reverse[k]? := fun k hk => by
    have lt := List.mem_range.mp hk
    rw [List.getElem?_reverse (by rw [Array.length_toList]; exact lt), Array.length_toList, Array.getElem?_toList]
    congr 1
    omega
  have whole : ∀ (l : List Value) (n : Nat), n = l.length → (List.range n).filterMap (fun k => l[k]?) = l := fun l n e => by
    subst e
    induction l with
    | nil => rfl
    | cons x l ih =>
      rw [List.length_cons, List.range_succ_eq_map, List.filterMap_cons]
      simp only [List.getElem?_cons_zero, List.filterMap_map]
      exact congrArg (x :: ·) ih
  rw [filter_same _ each]
  exact whole _ _ (by rw [List.length_reverse, Array.length_toList])
section
variable {P : Program} {w : World} {A : Around} {E : Value → Shared → Prop} {s : Shared} {sl t : Addr} {vl vu vs : Value} {its : Array Value}
theorem applied_down {n : Nat} {Q : Int × Int × Nat → Shared → Prop} (has : s.heap.IsSliceOf sl vl vu vs) (pl : IsPart vl none) (pu : IsPart vu none) (ps : IsPart vs (some (-1))) (go : Q ((n : Int) - 1, -1, n) s) :
    wpAny (model P w) A (Builtin.Slice.sliceApplied (.ref sl) (pure (n : Int))) Q E s := by
  obtain ⟨o, at1, c1, d1⟩ := has
  have goal : Q ((n : Int) - 1, -1, Builtin.Slice.slicePlaces ((n : Int) - 1) (-1) (-1)) s := by rw [down_from]; exact go
  unfold Builtin.Slice.sliceApplied Builtin.Slice.sliceFields
  refine wpAny_bind (wpAny_bind (wpAny_field at1 d1 rfl (wpAny_bind (wpAny_field at1 d1 rfl (wpAny_bind (wpAny_field at1 d1 rfl (wpAny_pure ?_)))))))
  refine wpAny_bind (HT.slicePart_ ps ?_)
  dsimp only [Option.getD]
  rw [if_neg (by decide)]
  refine wpAny_bind (HT.slicePart_ pl (wpAny_bind (HT.slicePart_ pu ?_)))
  exact wpAny_bind (wpAny_pure (wpAny_pure goal))
theorem item_down {Q : Value → Shared → Prop} (tp : IsTup s.heap t its) (has : s.heap.IsSliceOf sl vl vu vs) (pl : IsPart vl none) (pu : IsPart vu none) (ps : IsPart vs (some (-1))) (few : its.size ≤ sizeLine)
    (go : Q (.ref s.heap.objs.size) { s with heap := s.heap.push { cls := .type "tuple", data := .seq its.toList.reverse.toArray } }) : wpAny (model P w) A (getItem (.ref t) (.ref sl)) Q E s := by
  have tyS : s.TypeIs (.ref sl) "slice" := by obtain ⟨o, a, b, _⟩ := has; exact ⟨o, a, b⟩
  refine wpAny_getItem_slot tp.typeIs (by decide) PyProof.Rows.slot_tuple_getitem (wpAny_call_entry PyProof.Rows.slot_tuple_getitem tp.typeIs entry_tuple_getitem ?_ (args_tuple_getitem _ _))
  unfold Builtin.«tuple.__getitem__»
  refine wpAny_bind (wpAny_pure (a := (Value.ref t, [Value.ref sl])) (wpAny_bind (tupleItemsOf_ tp ?_)))
  refine wpAny_bind (wpAny_typeOf tyS ?_)
  rw [if_pos (by decide)]
  refine wpAny_bind (applied_down has pl pu ps ?_)
  dsimp only
  rw [if_neg (by simp), taken_down]
  wp_walk
  exact ⟨_, rfl, go⟩
end
end TF
/-! #### text TFt -/
set_option Elab.async false
set_option linter.all false
set_option maxRecDepth 100000
set_option maxHeartbeats 2000000
/-! TFt: slices. -/
namespace TF
open PySem L2 PySem.Spec PyProof.Rows
def cutD (xs : List D) (lo hi : Option Int) : List D := (xs.drop (HT.sIx xs.length 0 lo)).take (HT.sIx xs.length xs.length hi - HT.sIx xs.length 0 lo)
theorem Rps.cut {M : Mt} {G : Hp} {ds : List D} {vs : List V} (r : Rps M G ds vs) (lo hi : Option Int) : Rps M G (cutD ds lo hi) (cutV vs lo hi) := by
  unfold cutD cutV
  rw [r.length]
  exact (r.drop _).take _
def dSl (d : D) (lo hi : Option Int) : Option D := match d with
  | .lst xs => some (.lst (cutD xs lo hi))
  | .tup xs => some (.tup (cutD xs lo hi))
  | .str z => if z.length ≤ szB then some (.str (cutS z lo hi)) else none
  | _ => none
def optB (g : Option EX) (e : Ev) (k : Option Int → Ev → Rx) : Rx := match g with
  | none => k none e
  | some g => (g e).bind fun d e1 => match d with
    | .int i => k (some i) e1
    | _ => .stuck
def eSl (f : EX) (lo hi : Option EX) : EX := fun e => (f e).bind fun d e1 => optB lo e1 fun l e2 => optB hi e2 fun h e3 => Rx.of (dSl d l h) e3
section
variable {X : Cx} {xo : Xo} {W : WX} {a b o : Expr} {f g h : EX} {fs : List EX} {es : List Expr} {pos p apos p1 p2 p3 : Pos}
def POk (X : Cx) (xo : Xo) (W : WX) : Option Expr → Option EX → Prop
  | none, none => True
  | some e, some g => PE X e (tD (mx X xo) W g)
  | _, _ => False
theorem POk.no : POk X xo W none none := True.intro
theorem POk.at {e : Expr} (h : PE X e (tD (mx X xo) W g)) : POk X xo W (some e) (some g) := h
def tOp1 (M : Mx) (W : WX) (g : Option EX) : TO := match g with
  | none => tNoPart
  | some g => tPart (tD M W g)
theorem POk.po {e : Option Expr} {g : Option EX} (h : POk X xo W e g) : PO X e (tOp1 (mx X xo) W g) := by
  cases e with
  | none =>
    cases g with
    | none => exact po_none
    | some g => exact h.elim
  | some e =>
    cases g with
    | none => exact h.elim
    | some g => exact po_some h
theorem tOp1_ok {M : Mx} {W : WX} {g : Option EX} {F G H : Hp} {Y : List Addr} {σ : L2.St} {e : Ev} {k : Option Int → Ev → Rx} {Q : D → List Addr → V → Hp → Hp → Prop} {R : Option Int → Hp → Prop}
    (hE : Env M F Y G H σ e) (q : Ok1 M W F Y G H σ e (optB g e k) Q)
    (hk : ∀ l e1 G1 H1, Stp M F Y G H σ e G1 H1 e1 → Ok1 M W F Y G1 H1 σ e1 (k l e1) Q → R l H1) : tOp1 M W g σ H R := by
  cases g with
  | none => exact hk none e G H (Stp.refl hE) q
  | some g =>
    refine ⟨F, Y, G, e, hE, Ok1.bind (P := QD M fun x H1 => ∃ i, x = .int i ∧ R (some i) H1) q fun d e1 v G1 H1 hr s qq r => ?_⟩
    cases d with
    | int i =>
      cases (show v = V.int i from r)
      exact ⟨i, rfl, hk _ _ _ _ s qq⟩
    | _ => exact qq.elim
theorem pe_slcD {lo hi : Option Expr} {gl gh : Option EX} (ha : PE X a (tV (mx X xo) W f)) (hl : POk X xo W lo gl) (hu : POk X xo W hi gh) : PE X (.Subscript a (.Slice lo hi none p2) pos) (tD (mx X xo) W (eSl f gl gh)) := by
  refine PE.of (pe_slice (SlR.or (SlR.or sl_list sl_tupA) sl_str) ha hl.po hu.po) fun σ H Q ⟨F, Y, G, e, hE, q⟩ => ?_
  refine ⟨F, Y, G, e, hE, q.bind fun d e1 v G1 H1 hr s qq r => ?_⟩
  clear hr
  refine tOp1_ok s.env qq fun l e2 G2 H2 s2 q2 => ?_
  refine tOp1_ok s2.env q2 fun u e3 G3 H3 s3 q3 => ?_
  have r3 := (r.stp s2).stp s3
  have g3 := s3.env.gh
  cases d with
  | lst ds =>
    obtain ⟨p, vs, rfl, h1, h2⟩ := r3.list g3
    exact .inl (.inl ⟨p, vs, rfl, .inl (.inl h1), fun l hl => q3 _ (upd G3 l _) _ (Stp.ofN s3.env (Nw.new g3 hl)) (Rp.of_lst (h2.cut _ _) (g3.back hl))⟩)
  | tup ds =>
    obtain ⟨p, vs, rfl, h1, h2⟩ := r3.tup g3
    refine .inl (.inr ⟨p, vs, rfl, h1, fun hw => ?_, fun _ l hl => q3 _ (upd G3 l _) _ (Stp.ofN s3.env (Nw.new g3 hl)) (Rp.of_tup (h2.cut _ _) (g3.back hl))⟩)
    refine q3 _ G3 H3 (Stp.refl s3.env) ?_
    have e1 : cutD ds l u = ds := by
      unfold cutD
      rw [h2.length] at hw
      rw [hw.1, hw.2]
      simp
    show Rp _ G3 (.tup (cutD ds l u)) _
    rw [e1]
    exact r3.tupR
  | str z =>
    simp only [dSl] at q3
    split at q3
    · rename_i hz
      cases (show v = V.str z from r3.str)
      exact .inr ⟨z, rfl, szB_le hz, q3 _ G3 H3 (Stp.refl s3.env) rfl⟩
    · exact q3.elim
  | _ => exact q3.elim
/-! ### xs[::-1] -/
def dRev : D → Option D
  | .lst xs => some (.lst xs.reverse)
  | .tup xs => some (.tup xs.reverse)
  | _ => none
def eRev (f : EX) : EX := fun e => (f e).bind fun d e1 => Rx.of (dRev d) e1
theorem Rps.rev {M : Mt} {G : Hp} : ∀ {ds : List D} {vs : List V}, Rps M G ds vs → Rps M G ds.reverse vs.reverse
  | [], _, h => by rw [show _ = [] from h]; exact rfl
  | d :: ds, _, ⟨v, r, e, h1, h2⟩ => by
    rw [e, List.reverse_cons, List.reverse_cons]
    exact h2.rev.append (.one h1)
/-- the slice [::-1], made -/
theorem down_slice {pins : List (Addr × Obj)} {σ : L2.St} {H : Hp} {S : Shared} {Q : Value → Shared → Prop} {k : Nat} (J : Inv X pins σ H S)
    (go : ∀ vs S2, Inv X pins σ H S2 → IsPart vs (some (-1)) → Q (.ref S2.heap.objs.size) { S2 with heap := S2.heap.push { cls := .type "slice", data := .fields #[.none, .none, vs] } }) :
    wpAny (model X.prog X.w) X.A (eval (.Slice none none (some (.UnaryOp .USub (.Constant (.int 1) k p1) p2)) p3) X.env) Q X.xe S := by
  have minus : PO X (some (.UnaryOp .USub (.Constant (.int 1) k p1) p2)) _ := po_some (pe_un un_neg pe_int)
  refine wpAny_Slice ?_
  rw [evalPart_none]
  exact wpAny_pure (wpAny_pure (thn (minus.run pins S σ H (fun o K => o = some (-1) ∧ K = H) J ⟨1, rfl, -1, rfl, rfl, rfl⟩) fun vs S2 ⟨o, K, J2, part, e1, e2⟩ => by
    subst e1 e2
    exact go vs S2 J2 part))
theorem pe_revD {e : Expr} {k : Nat} (he : PE X e (tV (mx X xo) W f)) : PE X (.Subscript e (.Slice none none (some (.UnaryOp .USub (.Constant (.int 1) k p1) p2)) p3) pos) (tD (mx X xo) W (eRev f)) := ⟨fun pins S σ H Q J ⟨F, Y, G, ev, hE, q⟩ => by
  have q1 : tV (mx X xo) W f σ H fun v H1 => ∃ G1 d e1, Stp (mx X xo) F Y G H σ ev G1 H1 e1 ∧ Rpv (mx X xo) G1 H1 Y d v ∧ Ok1 (mx X xo) W F Y G1 H1 σ e1 (Rx.of (dRev d) e1) (QD (mx X xo) Q) :=
    ⟨F, Y, G, ev, hE, q.bind fun d e1 v G1 H1 _ st qq r => ⟨G1, d, e1, st, r, qq⟩⟩
  refine Subscript_ (thn (he.run pins S σ H _ J q1) fun v S1 ⟨x, H1, J1, rel, G1, d, e1, st, r, fin⟩ => down_slice J1 fun vs S2 J2 part => ?_)
  have J3 : Inv X pins σ H1 { S2 with heap := S2.heap.push { cls := .type "slice", data := .fields #[.none, .none, vs] } } := J2.kept (t' := S2.toks) fun b ob z => Heap.get?_push_of_some _ z
  have here := Heap.IsSliceOf.new S2.heap .none .none vs
  have free := J3.hok.fresh (Nat.le_refl _)
  cases d with
  | lst ds =>
    obtain ⟨a, xs, rfl, at1, rs⟩ := r.list st.env.gh
    cases rel
    obtain ⟨its, rv, ls, few⟩ := J3.list (.inl (.inl at1))
    refine tail_any (ops := [.ref a, .ref S2.heap.objs.size]) ls.isList.typeIs (PySem.slot_list_getitem.lookup) (wpAny_getItem_list_slice ls.isList here .none .none part (by decide) ?_ (by rw [List.size_toArray, ← rv.length]; exact few)) (by with_unfolding_all rfl)
    rw [PySem.W.krv_pick]
    exact ⟨.ref _, _, J3.laid (t' := S2.toks) (o := .lst xs.reverse) (fun b ob z => Heap.get?_push_of_some _ z) (Nat.le_refl _) ⟨by rw [List.length_reverse]; exact few, _, 0, rv.reverse, Heap.get?_push_size _ rfl⟩, rfl, fin _ (upd G1 _ _) _ (Stp.ofN st.env (Nw.new st.env.gh free)) (Rp.of_lst rs.rev (st.env.gh.back free))⟩
  | tup ds =>
    obtain ⟨a, xs, rfl, at1, rs⟩ := r.tup st.env.gh
    cases rel
    obtain ⟨its, rv, ts, few⟩ := J3.tuple at1
    refine tail_any (ops := [.ref a, .ref S2.heap.objs.size]) ts.typeIs (PyProof.Rows.slot_tuple_getitem.lookup) (item_down ts here .none .none part (by rw [List.size_toArray, ← rv.length]; exact few) ?_) (by with_unfolding_all rfl)
    exact ⟨.ref _, _, J3.laid (t' := S2.toks) (o := .tup xs.reverse) (fun b ob z => Heap.get?_push_of_some _ z) (Nat.le_refl _) ⟨by rw [List.length_reverse]; exact few, _, rv.reverse, IsTup.new _ _⟩, rfl, fin _ (upd G1 _ _) _ (Stp.ofN st.env (Nw.new st.env.gh free)) (Rp.of_tup rs.rev (st.env.gh.back free))⟩
  | _ => exact fin.elim⟩
end
end TF
/-! #### text TFu -/
set_option Elab.async false
set_option linter.all false
set_option maxRecDepth 100000
set_option maxHeartbeats 2000000
/-! TFu: parallel stores, some of new things of one's own. -/
namespace TF
open PySem L2 PySem.Spec PyProof.Rows
inductive Kd where
  | f | o | s
def slotK : Kd → D → Option S
  | .f, d => some (.fz d)
  | .o, .lst ds => some (.ol ds)
  | .o, .dic kvs => some (.od kvs)
  | .s, .lst ds => some (.sl ds)
  | _, _ => none
abbrev El := Kd × Nat × EX
def setE : List El → List D → Ev → Option Ev
  | [], [], e => some e
  | (k, i, _) :: r, d :: ds, e => (setE r ds e).bind fun e2 => (slotK k d).map fun s => e2.set i s
  | _, _, _ => none
def setR : List El → List V → L2.St → L2.St
  | (_, i, _) :: r, v :: vs, σ => (setR r vs σ).set i (some v)
  | _, _, σ => σ
def tPs (M : Mx) (W : WX) : List El → TA
  | [] => tNil
  | (.f, _, g) :: r => tCons (tD M W g) (tPs M W r)
  | (_, _, g) :: r => tCons (tO M W g) (tPs M W r)
theorem Env.weakF {M : Mx} {F F' G H : Hp} {Y : List Addr} {σ : L2.St} {e : Ev} (h : Env M F' Y G H σ e) (x : Ex F F') : Env M F Y G H σ e := by
  obtain ⟨fp, h1, h2, h3, h4, h5⟩ := h.sl
  exact ⟨h.gh, x.trans h.fh, h.len, fp, h1, h2, fun i a ha => ⟨(h3 i a ha).1, x.back (h3 i a ha).2⟩, h4, h5⟩
theorem OwnOk.mono {M : Mx} {G G' : Hp} {d : D} {p : Addr} {o : HO} (h : OwnOk M G d p o) (g : Ex G G') : OwnOk M G' d p o := by
  cases d with
  | lst ds =>
    obtain ⟨vs, e, r⟩ := h
    exact ⟨vs, e, Rps.mono g _ _ r⟩
  | dic kvs =>
    rcases h with ⟨ks, e, r⟩ | ⟨xs, e, r⟩
    · exact .inl ⟨ks, e, Rpk.mono g _ _ r⟩
    · exact .inr ⟨xs, e, Rpn.mono g _ _ r⟩
  | _ => exact h.elim
theorem own_set {M : Mx} {F G H : Hp} {Y : List Addr} {σ : L2.St} {e : Ev} {p : Addr} {o : HO} {d : D} {k : Kd} {s : S} {i : Nat} (E : Env M (upd F p o) Y G H σ e) (hF : F p = none) (hG : G p = none) (ok : OwnOk M G d p o) (hk : slotK k d = some s) (hkf : k ≠ .f) :
    ∃ Y', Env M F Y' G H (σ.set i (some (.ref p))) (e.set i s) := by
  have hp : H p = some o := E.fh p o upd_same
  cases d with
  | lst ds =>
    obtain ⟨vs, rfl, r⟩ := ok
    cases k with
    | f => exact absurd rfl hkf
    | o => cases hk; exact E.setO hF hG (i := i) (s := .ol ds) ⟨p, vs, rfl, rfl, hp, r⟩
    | s => cases hk; exact E.setO hF hG (i := i) (s := .sl ds) ⟨p, vs, rfl, rfl, hp, r⟩
  | dic kvs =>
    have ok' : SlotOk M G H (.od kvs) (some (.ref p)) [p] := ⟨p, rfl, rfl, by
      rcases ok with ⟨ks, rfl, r⟩ | ⟨xs, rfl, r⟩
      · exact .inl ⟨ks, hp, r⟩
      · exact .inr ⟨xs, hp, r⟩⟩
    cases k with
    | f => exact absurd rfl hkf
    | o => cases hk; exact E.setO hF hG (i := i) ok'
    | s => cases hk
  | _ => exact ok.elim
/-- what is wanted of the items' answers -/
def OkP (M : Mx) (W : WX) (F G : Hp) (els : List El) (σ : L2.St) (C : L2.St → Hp → Prop) (r : Rl) : Prop := match r with
  | .stuck => False
  | .val ds e1 => ∃ e2, setE els ds e1 = some e2 ∧ ∀ Y σ' G' H', Env M F Y G' H' σ' e2 → Gro F G G' → C σ' H'
  | .exc x e1 => ∀ cls a Y G' H', Env M F Y G' H' σ e1 → Gro F G G' → XcOk M F G' H' x cls a → W cls a σ H'
def lenIs : List V → List El → Prop
  | [], [] => True
  | _ :: vs, _ :: r => lenIs vs r
  | _, _ => False
theorem ps_ok {M : Mx} {W : WX} {σ : L2.St} : ∀ {els : List El} {F G H : Hp} {Y : List Addr} {e : Ev} {C : L2.St → Hp → Prop} {Q : List V → Hp → Prop}, Env M F Y G H σ e → OkP M W F G els σ C (evs (els.map fun x => x.2.2) e) → (∀ vs H1, lenIs vs els → C (setR els vs σ) H1 → Q vs H1) → tPs M W els σ H Q
  | [], F, G, H, Y, e, C, Q, hE, q, hQ => by
    obtain ⟨e2, h1, h2⟩ := q
    cases h1
    exact hQ [] H True.intro (h2 Y σ G H hE (Gro.refl F G))
  | (k, i, g) :: r, F, G, H, Y, e, C, Q, hE, q, hQ => by
    have q' : OkP M W F G ((k, i, g) :: r) σ C (match g e with
      | .stuck => .stuck
      | .exc x e1 => .exc x e1
      | .val d e1 => match evs (r.map fun x => x.2.2) e1 with
        | .stuck => .stuck
        | .exc x e2 => .exc x e2
        | .val ds e2 => .val (d :: ds) e2) := q
    clear q
    have base : ∀ (hg : ∀ d e1, g e = .val d e1 → k = .f → ∀ v G1 H1, Stp M F Y G H σ e G1 H1 e1 → Rp M G1 d v → tPs M W r σ H1 fun vs H2 => Q (v :: vs) H2)
        (ho : ∀ d e1, g e = .val d e1 → k ≠ .f → ∀ p o G1 H1, Env M (upd F p o) Y G1 H1 σ e1 → F p = none → G1 p = none → Gro F G G1 → OwnOk M G1 d p o → tPs M W r σ H1 fun vs H2 => Q (.ref p :: vs) H2),
        tPs M W ((k, i, g) :: r) σ H Q := by
      intro hg ho
      have xc : ∀ x e1, g e = .exc x e1 → ∀ cls a G' H', Stp M F Y G H σ e G' H' e1 → XcOk M F G' H' x cls a → W cls a σ H' := fun x e1 hx cls a G' H' s xk => by
        rw [hx] at q'
        exact q' cls a Y G' H' s.env s.gro xk
      have ns : g e ≠ .stuck := fun z => by rw [z] at q'; exact q'
      cases k with
      | f =>
        refine ⟨F, Y, G, e, hE, ?_⟩
        cases hgv : g e with
        | stuck => exact absurd hgv ns
        | val d e1 => exact fun v G1 H1 s rp => hg d e1 hgv rfl v G1 H1 s rp
        | exc x e1 => exact xc x e1 hgv
      | o =>
        refine ⟨F, Y, G, e, hE, ?_⟩
        cases hgv : g e with
        | stuck => exact absurd hgv ns
        | val d e1 => exact fun p o G1 H1 E1 hF hG gg _ ok => ho d e1 hgv (fun z => nomatch z) p o G1 H1 E1 hF hG gg ok
        | exc x e1 => exact xc x e1 hgv
      | s =>
        refine ⟨F, Y, G, e, hE, ?_⟩
        cases hgv : g e with
        | stuck => exact absurd hgv ns
        | val d e1 => exact fun p o G1 H1 E1 hF hG gg _ ok => ho d e1 hgv (fun z => nomatch z) p o G1 H1 E1 hF hG gg ok
        | exc x e1 => exact xc x e1 hgv
    refine base (fun d e1 hg hk v G1 H1 s rp => ?_) fun d e1 hg hk p o G1 H1 E1 hF hG gg ok => ?_
    · subst hk
      rw [hg] at q'
      refine ps_ok (C := fun σ' H' => C (σ'.set i (some v)) H') s.env ?_ fun vs H2 l c => hQ (v :: vs) H2 l c
      simp only at q'
      cases hr : evs (r.map fun x => x.2.2) e1 with
      | stuck => rw [hr] at q'; exact q'
      | exc x e2 =>
        rw [hr] at q'
        exact fun cls a Y' G' H' E' g' xk => q' cls a Y' G' H' E' (s.gro.trans g') xk
      | val ds e2 =>
        rw [hr] at q'
        obtain ⟨e3, h1, h2⟩ := q'
        unfold setE at h1
        cases hs : setE r ds e2 with
        | none => rw [hs] at h1; cases h1
        | some e4 =>
          rw [hs] at h1
          cases h1
          exact ⟨e4, hs, fun Y' σ' G' H' E' g' => h2 Y' _ G' H' (E'.setFz (Rp.mono g'.gg _ _ rp)) (s.gro.trans g')⟩
    · rw [hg] at q'
      refine ps_ok (C := fun σ' H' => C (σ'.set i (some (.ref p))) H') E1 ?_ fun vs H2 l c => hQ (.ref p :: vs) H2 l c
      simp only at q'
      have xF : Ex F (upd F p o) := Ex.new hF
      cases hr : evs (r.map fun x => x.2.2) e1 with
      | stuck => rw [hr] at q'; exact q'
      | exc x e2 =>
        rw [hr] at q'
        exact fun cls a Y' G' H' E' g' xk => q' cls a Y' G' H' (E'.weakF xF) (gg.trans g'.unF) (xk.weak xF)
      | val ds e2 =>
        rw [hr] at q'
        obtain ⟨e3, h1, h2⟩ := q'
        unfold setE at h1
        cases hs : setE r ds e2 with
        | none => rw [hs] at h1; cases h1
        | some e4 =>
          rw [hs] at h1
          simp only [Option.bind] at h1
          cases hsl : slotK k d with
          | none => rw [hsl] at h1; cases h1
          | some sl =>
            rw [hsl] at h1
            cases h1
            refine ⟨e4, hs, fun Y' σ' G' H' E' g' => ?_⟩
            obtain ⟨Y2, E2⟩ := own_set (i := i) E' hF (g'.noP hG) (ok.mono g'.gg) hsl hk
            exact h2 Y2 _ G' H' E2 (gg.trans g'.unF)
def sPK (els : List El) : SX := fun e => match evs (els.map fun x => x.2.2) e with
  | .stuck => .stuck
  | .exc x e1 => .exc x e1
  | .val ds e1 => match setE els ds e1 with
    | some e2 => .nx e2
    | none => .stuck
theorem sPK_ok {M : Mx} {W : WX} {els : List El} {D : Ends} {F G H : Hp} {Y : List Addr} {σ : L2.St} {e : Ev} (hE : Env M F Y G H σ e) {Q : List V → Hp → Prop} (q : OkS M W F G D (sPK els e)) (hQ : ∀ vs H1, lenIs vs els → D.nx (setR els vs σ) H1 → Q vs H1) : tPs M W els σ H Q := by
  refine ps_ok hE ?_ hQ
  unfold sPK at q
  cases hr : evs (els.map fun x => x.2.2) e with
  | stuck => rw [hr] at q; exact q
  | exc x e1 => rw [hr] at q; exact fun cls a Y G' H' E' g' xk => q cls a Y σ G' H' E' g' xk
  | val ds e1 =>
    rw [hr] at q
    simp only at q
    cases hs : setE els ds e1 with
    | none => rw [hs] at q; exact q.elim
    | some e2 =>
      rw [hs] at q
      exact ⟨e2, hs, fun Y σ' G' H' E' g' => q Y σ' G' H' E' g'⟩
section
variable {X : Cx} {xo : Xo} {W : WX} {a b c : Expr} {f g h : EX} {es : List Expr} {els : List El} {pos p : Pos}
theorem pk_no : PA X [] (tPs (mx X xo) W []) := pa_nil
theorem pk_f {i : Nat} (ha : PE X a (tD (mx X xo) W f)) (hr : PA X es (tPs (mx X xo) W els)) (hs : starEach (a :: es) X.env = (false, eval a X.env) :: starEach es X.env := by rfl) : PA X (a :: es) (tPs (mx X xo) W ((.f, i, f) :: els)) := pa_cons ha hr hs
theorem pk_o {i : Nat} (ha : PE X a (tO (mx X xo) W f)) (hr : PA X es (tPs (mx X xo) W els)) (hs : starEach (a :: es) X.env = (false, eval a X.env) :: starEach es X.env := by rfl) : PA X (a :: es) (tPs (mx X xo) W ((.o, i, f) :: els)) := pa_cons ha hr hs
theorem pk_s {i : Nat} (ha : PE X a (tO (mx X xo) W f)) (hr : PA X es (tPs (mx X xo) W els)) (hs : starEach (a :: es) X.env = (false, eval a X.env) :: starEach es X.env := by rfl) : PA X (a :: es) (tPs (mx X xo) W ((.s, i, f) :: els)) := pa_cons ha hr hs
theorem lenIs_two {vs : List V} {x y : El} (h : lenIs vs [x, y]) : ∃ v w, vs = [v, w] := by
  match vs, h with
  | [v, w], _ => exact ⟨v, w, rfl⟩
theorem lenIs_three {vs : List V} {x y z : El} (h : lenIs vs [x, y, z]) : ∃ u v w, vs = [u, v, w] := by
  match vs, h with
  | [u, v, w], _ => exact ⟨u, v, w, rfl⟩
theorem ps_par2K {k1 k2 : Kd} {i j : Nat} {f1 f2 : EX} {st : Stmt} (hij : i ≠ j) (hp : PS X st (tPar i j (tPs (mx X xo) W [(k1, i, f1), (k2, j, f2)]))) : PS X st (tS (mx X xo) W (sPK [(k1, i, f1), (k2, j, f2)])) :=
  PS.of hp fun D σ H ⟨F, Y, G, e, hE, q⟩ => sPK_ok hE q fun vs H1 l c => by
    obtain ⟨v, w, rfl⟩ := lenIs_two l
    refine ⟨v, w, rfl, ?_⟩
    rw [List.set_comm _ _ hij]
    exact c
theorem ps_par3K {k1 k2 k3 : Kd} {i j l : Nat} {f1 f2 f3 : EX} {st : Stmt} (hij : i ≠ j) (hil : i ≠ l) (hjl : j ≠ l) (hp : PS X st (tPar3 i j l (tPs (mx X xo) W [(k1, i, f1), (k2, j, f2), (k3, l, f3)]))) : PS X st (tS (mx X xo) W (sPK [(k1, i, f1), (k2, j, f2), (k3, l, f3)])) :=
  PS.of hp fun D σ H ⟨F, Y, G, e, hE, q⟩ => sPK_ok hE q fun vs H1 ll c => by
    obtain ⟨u, v, w, rfl⟩ := lenIs_three ll
    refine ⟨u, v, w, rfl, ?_⟩
    have c' : D.nx (((σ.set l (some w)).set j (some v)).set i (some u)) H1 := c
    rw [List.set_comm _ _ hjl.symm, List.set_comm _ _ hil.symm, List.set_comm _ _ hij.symm] at c'
    first
      | exact c'
      | (rw [List.set_comm _ _ hil.symm] at c'; exact c')
end
end TF
/-! #### text TFv -/
set_option Elab.async false
set_option linter.all false
set_option maxRecDepth 100000
set_option maxHeartbeats 2000000
/-! TFv: the script; the def that makes the source of draws. -/
namespace TF
open PySem L2 PySem.Spec PyProof.Rows
theorem rps_intV {M : Mt} {G : Hp} {ns : List Int} {i : Nat} {d : D} (h : (ns.map D.int)[i]? = some d) : ∃ n, ns[i]? = some n ∧ d = .int n := by
  rw [List.getElem?_map] at h
  obtain ⟨n, h1, h2⟩ := Option.map_eq_some_iff.mp h
  exact ⟨n, h1, h2.symm⟩
theorem itraw_D {M : Mx} {G : Hp} {a : Addr} {ns : List Int} (h : SqL M.K G a (ns.map V.int)) : ItD M G (ns.map D.int) (Itl M.K a) where
  go := fun i d H hd g => by
    obtain ⟨n, hn, _⟩ := rps_intV (M := M.toMt) (G := G) hd
    exact ⟨ns.map V.int, .int n, g.sl h, by rw [List.getElem?_map, hn]; rfl⟩
  yl := fun i d H x H' hd g ⟨e, hx⟩ G1 g1 g2 => by
    subst e
    obtain ⟨n, hn, rfl⟩ := rps_intV (M := M.toMt) (G := G) hd
    have := hx _ (g.sl h)
    rw [List.getElem?_map, hn] at this
    cases this
    exact ⟨G1, Nw.refl g2, rfl⟩
  st := fun H g => ⟨ns.map V.int, g.sl h, by rw [List.length_map, List.length_map]; exact Nat.le_refl _⟩
def iRaw (i : Nat) : IX := fun e => match e[i]? with
  | some (.raw ns) => .val (ns.map D.int) e
  | _ => .stuck
def rawAt (e : Ev) (i : Nat) : Option (List Int) := match e[i]? with
  | some (.raw ns) => some ns
  | _ => none
theorem rawAt_of {e : Ev} {i : Nat} {ns : List Int} (h : rawAt e i = some ns) : e[i]? = some (.raw ns) := by
  unfold rawAt at h
  split at h
  · cases h; assumption
  · cases h
theorem Env.raw {M : Mx} {F G H : Hp} {Y : List Addr} {σ : L2.St} {e : Ev} (E : Env M F Y G H σ e) {i : Nat} {ns : List Int} (h : e[i]? = some (.raw ns)) : ∃ a, σ[i]? = some (some (.ref a)) ∧ SqL M.K G a (ns.map V.int) := by
  obtain ⟨o, fp, h1, ⟨_, a, rfl, h2⟩, _⟩ := E.slot h
  exact ⟨a, h1, h2⟩
section
variable {X : Cx} {xo : Xo} {W : WX} {a b c tg : Expr} {f g h : EX} {m n : SX} {fs : List EX} {es : List Expr} {st : Stmt} {sts : List Stmt} {pos p : Pos}
theorem pi_rawD {i : Nat} {x : Str} (hN : X.N[i]? = some x) (hv : Vis X.env.scope x) (hd : (x == ("__debug__" : Str)) = false) (hcd : (x == ("__classdict__" : Str)) = false) : PI X tg (.Name x pos) (iD (mx X xo) W (iRaw i)) := ⟨fun pins s σ H R I ⟨F, Y, G, e, hE, q⟩ => by
  unfold iRaw at q
  cases hs : e[i]? with
  | none => simp only [hs] at q
  | some t =>
    cases t with
    | raw ns =>
      simp only [hs] at q
      obtain ⟨a, k1, k2⟩ := hE.raw hs
      exact (pi_list (pe_var hN hv hd hcd)).run pins s σ H R I ⟨_, k1, a, rfl, ⟨_, hE.gh.sl k2⟩, q _ G H (Stp.refl hE) (itraw_D k2)⟩
    | _ => simp only [hs] at q⟩
/-- len(script) -/
def eLenR (i : Nat) : EX := fun e => match e[i]? with
  | some (.raw ns) => .val (.int ns.length) e
  | _ => .stuck
theorem pe_lenR {i : Nat} {x : Str} {np : Pos} (hm : X.mg "len" = none) (hg : Gl X "len") (hN : X.N[i]? = some x) (hv : Vis X.env.scope x) (hd : (x == ("__debug__" : Str)) = false) (hcd : (x == ("__classdict__" : Str)) = false)
    (he : starEach (.Name x np :: []) X.env = (false, eval (.Name x np) X.env) :: starEach [] X.env := by rfl) (hpl : (backTo pos (starEach [] X.env)).any (·.1) = false := by rfl) :
    PE X (.Call (.Name "len" p) [.Name x np] [] pos) (tD (mx X xo) W (eLenR i)) :=
  PE.of (pe_callB call_len hg hm boot_len (pa_cons (pe_var hN hv hd hcd) pa_nil he) (by decide) (by decide) he hpl) fun σ H Q ⟨F, Y, G, e, hE, q⟩ => by
    unfold eLenR at q
    cases hs : e[i]? with
    | none => simp only [hs] at q; exact q.elim
    | some t =>
      cases t with
      | raw ns =>
        simp only [hs] at q
        obtain ⟨a, k1, k2⟩ := hE.raw hs
        exact ⟨_, k1, _, (ns.map V.int).length, rfl, .inl ⟨_, hE.gh.sl k2, rfl⟩, q _ G H (Stp.refl hE) (by rw [List.length_map]; rfl)⟩
      | _ => simp only [hs] at q; exact q.elim
/-! ### return [state, list(script), 0] -/
def tRetSrc (M : Mx) (W : WX) (i : Nat) (f : EX) : TS := fun D σ H => ∃ F Y G e ns st, Env M F Y G H σ e ∧ e[i]? = some (.raw ns) ∧ f e = .val (.int st) e ∧
  ∀ p q H', (∀ a o, F a = some o → H' a = some o) → F p = none → F q = none → p ≠ q → H' p = some (srcO1 q ⟨st, ns, 0⟩) → H' q = some (srcO2 ⟨st, ns, 0⟩) → D.rt (.ref p) H'
theorem ps_retSrc {i : Nat} {x : Str} {np p2 lpos : Pos} {j : Nat} {cp : Pos} (hm : X.mg "list" = none) (hg : Gl X "list") (hN : X.N[i]? = some x) (hv : Vis X.env.scope x) (hd : (x == ("__debug__" : Str)) = false) (hcd : (x == ("__classdict__" : Str)) = false)
    (ha : PE X a (tD (mx X xo) W f))
    (hs1 : starEach [a, .Call (.Name "list" p) [.Name x np] [] p2, .Constant (.int 0) j cp] X.env = (false, eval a X.env) :: starEach [.Call (.Name "list" p) [.Name x np] [] p2, .Constant (.int 0) j cp] X.env := by rfl)
    (hs2 : starEach [.Call (.Name "list" p) [.Name x np] [] p2, .Constant (.int 0) j cp] X.env = (false, eval (.Call (.Name "list" p) [.Name x np] [] p2) X.env) :: starEach [.Constant (.int 0) j cp] X.env := by rfl)
    (he : starEach (.Name x np :: []) X.env = (false, eval (.Name x np) X.env) :: starEach [] X.env := by rfl) :
    PS X (.Return (some (.List [a, .Call (.Name "list" p) [.Name x np] [] p2, .Constant (.int 0) j cp] lpos)) pos) (tRetSrc (mx X xo) W i f) := by
  refine PS.of (ps_ret (pe_lst (pa_cons ha (pa_cons (pe_callTy call_list_of hg hm boot_list (pa_cons (pe_var hN hv hd hcd) pa_nil he) (by decide) (by decide) he rfl) (pa_cons pe_int pa_nil rfl) hs2) hs1))) fun D σ H ⟨F, Y, G, e, ns, st, hE, hs, hf, q⟩ => ?_
  refine ⟨F, Y, G, e, hE, ?_⟩
  rw [hf]
  intro v G1 H1 s rv
  cases (show v = V.int st from rv)
  obtain ⟨a, k1, k2⟩ := s.env.raw hs
  refine ⟨_, k1, a, _, rfl, .inl (s.env.gh.sl k2), fun q0 hq0 => ⟨by show 3 ≤ sizeLine; decide, fun p0 hp0 => ?_⟩⟩
  have hne : p0 ≠ q0 := fun z => by rw [z, upd_same] at hp0; cases hp0
  have hp1 : H1 p0 = none := by rw [upd_ne hne] at hp0; exact hp0
  refine q p0 q0 _ (fun a o ha => ?_) (s.env.fh.back hp1) (s.env.fh.back hq0) hne upd_same ?_
  · have h1 := s.env.fh a o ha
    rw [upd_ne (ne_of_none h1 hp1), upd_ne (ne_of_none h1 hq0)]
    exact h1
  · rw [upd_ne (Ne.symm hne), upd_same]
    rfl
/-! ### statements, then something else -/
def tThenS (M : Mx) (W : WX) (m : SX) (t : TS) : TS := fun D σ H => tS M W m { D with nx := t D } σ H
theorem pss_last {t : TS} (h : PS X st t) : PSs X [st] (tThenS (mx X xo) W sNext t) := PSs.of (pss_one h) fun D σ H ⟨F, Y, G, e, hE, q⟩ => q Y σ G H hE (Gro.refl F G)
theorem pss_thenS {t : TS} (h1 : PS X st (tS (mx X xo) W m)) (h2 : PSs X sts (tThenS (mx X xo) W n t)) : PSs X (st :: sts) (tThenS (mx X xo) W (sSeq m n) t) := PSs.of (pss_cons h1 h2) fun D σ H ⟨F, Y, G, e, hE, q⟩ => sSeq_ok (D := { D with nx := t D }) hE q
end
/-- what the def that makes the source promises -/
def spMix (K : PySem.W.Frag) (r : List Int → Int → Option Int) : Sp := fun vs H Q E => ∃ a ns seed st, vs = [.ref a, .int seed] ∧ SqL K H a (ns.map V.int) ∧ r ns seed = some st ∧
  ∀ p q H', Ex H H' → H p = none → H q = none → p ≠ q → H' p = some (srcO1 q ⟨st, ns, 0⟩) → H' q = some (srcO2 ⟨st, ns, 0⟩) → Q (.ref p) H'
def evMix (n : Nat) (ns : List Int) (seed : Int) : Ev := .raw ns :: .fz (.int seed) :: List.replicate (n - 2) .un
theorem evMix_env {M : Mx} {H : Hp} {N : List Str} {a : Addr} {ns : List Int} {seed : Int} (r : SqL M.K H a (ns.map V.int)) (hN : 2 ≤ N.length) : Env M H [] H H (L2.start N [.ref a, .int seed]) (evMix N.length ns seed) := by
  refine ⟨Ex.refl H, Ex.refl H, ?_, fun _ => [], fun i s hs => ?_, fun i j a ha => (by cases ha), fun i a ha => (by cases ha), fun i _ => rfl, fun i s a _ ha => (by cases ha)⟩
  · unfold L2.start evMix
    simp
  · match i with
    | 0 =>
      unfold evMix at hs
      cases hs
      exact ⟨rfl, a, rfl, r⟩
    | 1 =>
      unfold evMix at hs
      cases hs
      exact ⟨rfl, _, rfl, rfl⟩
    | i + 2 =>
      unfold evMix at hs
      simp only [List.getElem?_cons_succ, List.getElem?_replicate] at hs
      split at hs
      · cases hs
        exact rfl
      · cases hs
section
variable {P : Program} {w : World} {K : PySem.W.Frag} {mg : Str → Option Value} {base : Heap} {x qual : Str} {params : Arguments} {body : List Stmt} {scope : Scope} {f : Addr} {fd : FuncData} {N ps : List Str} {k : Nat} {m : SX}
theorem FunD.okMix {r : List Int → Int → Option Int} {g : EX} (F : FunD K x qual params body scope [] [] f fd) (S : FnScope N ps scope) (hn : ps.length = 2) (hN : 2 ≤ N.length)
    (hb : ∀ (cdv : Value) (A : Around) (outer : List PySem.Env) (s : Shared) (H : Hp) (E : XK), Room k (cxD P w K mg base N qual scope f cdv A outer s H E).A → PassesOwn (model P w) (cxD P w K mg base N qual scope f cdv A outer s H E).A (cxD P w K mg base N qual scope f cdv A outer s H E).env (cxD P w K mg base N qual scope f cdv A outer s H E).xe →
      PSs (cxD P w K mg base N qual scope f cdv A outer s H E) body (tThenS (mx (cxD P w K mg base N qual scope f cdv A outer s H E) none) W0 m (tRetSrc (mx (cxD P w K mg base N qual scope f cdv A outer s H E) none) W0 0 g)))
    (hr : ∀ ns seed st, r ns seed = some st → ∃ e, m (evMix N.length ns seed) = .nx e ∧ e[0]? = some (.raw ns) ∧ g e = .val (.int st) e) :
    FnOk P w K mg base (L2.CX P w) (k + 1) f fd ps (spMix K r) := by
  refine F.ok S (fun vs H Q E ⟨a, ns, seed, st, e, _⟩ => by rw [e, hn]; rfl) fun cdv A outer s0 H vs Q E hroom ⟨a, ns, seed, st, e, hS, hrs, hQ⟩ => ⟨_, hb cdv A outer s0 H E hroom (passes_of rfl), ?_⟩
  subst e
  refine ⟨H, [], H, evMix N.length ns seed, evMix_env hS hN, ?_⟩
  obtain ⟨e, h1, h2, h3⟩ := hr ns seed st hrs
  rw [h1]
  exact fun Y σ' G' H' E' g' => ⟨H, Y, G', e, ns, st, E', h2, h3, fun p q H2 h4 h5 h6 h7 h8 h9 => hQ p q H2 h4 h5 h6 h7 h8 h9⟩
structure DfMix (P : Program) (w : World) (K : PySem.W.Frag) (mg : Str → Option Value) (base : Heap) (x : Str) (k : Nat) (r : List Int → Int → Option Int) : Prop where
  ex : ∃ f fd ps, FnOk P w K mg base (L2.CX P w) k f fd ps (spMix K r) ∧ mg x = some (.ref f) ∧ PySem.W.keepIn K (.ref f) = true ∧ Binds K fd ps []
end
/-! ### the law -/
theorem Env.newSrc {M : Mx} {F G H H' : Hp} {Y : List Addr} {σ : L2.St} {e : Ev} (h : Env M F Y G H σ e) {j : Nat} (hj : e[j]? = some .un) {p q : Addr} {s : Src} (hx : Ex H H') (hp : H p = none) (hq : H q = none) (h1 : H' p = some (srcO1 q s)) (h2 : H' q = some (srcO2 s)) :
    Env M F (p :: q :: Y) G H' (σ.set j (some (.ref p))) (e.set j (.src p q s.st s.cells s.ix)) := by
  obtain ⟨fp, g1, g2, g3, g4, g5⟩ := h.sl
  have th : ∀ i a, a ∈ fp i → H a ≠ none := fun i a ha => by
    cases he : e[i]? with
    | none => rw [g4 i he] at ha; cases ha
    | some s => exact (g1 i s he).there a ha
  have kp : ∀ i a, a ∈ fp i → H' a = H a := fun i a ha => by
    cases q : H a with
    | none => exact absurd q (th i a ha)
    | some o => exact hx a o q
  have nm : ∀ i a, a ∈ fp i → a ≠ p ∧ a ≠ q := fun i a ha => ⟨fun z => th i a ha (by rw [z]; exact hp), fun z => th i a ha (by rw [z]; exact hq)⟩
  have hjl : j < e.length := (List.getElem?_eq_some_iff.mp hj).1
  refine ⟨h.gh.trans hx, h.fh.trans hx, by rw [List.length_set, List.length_set]; exact h.len, fun i => if i = j then [p, q] else fp i, fun i t ht => ?_, fun i k a ha hb => ?_, fun i a ha => ?_, fun i hi => ?_, fun i t a ht ha => ?_⟩
  · by_cases e1 : i = j
    · subst e1
      rw [List.getElem?_set_self hjl] at ht
      cases ht
      simp only [if_pos]
      rw [List.getElem?_set_self (by rw [h.len]; exact hjl)]
      exact ⟨rfl, rfl, h1, h2⟩
    · rw [List.getElem?_set_ne (Ne.symm e1)] at ht
      simp only [if_neg e1]
      rw [List.getElem?_set_ne (Ne.symm e1)]
      exact (g1 i t ht).step (Ex.refl G) (kp i)
  · have two : ∀ {i : Nat} {a : Addr}, i ≠ j → a ∈ fp i → a ∈ [p, q] → False := fun {i a} _ h3 h4 => by
      rcases List.mem_cons.mp h4 with z | z
      · exact (nm i a h3).1 z
      · exact (nm i a h3).2 (List.mem_singleton.mp z)
    by_cases e1 : i = j
    · by_cases e2 : k = j
      · rw [e1, e2]
      · simp only [if_pos e1] at ha
        simp only [if_neg e2] at hb
        exact (two e2 hb ha).elim
    · simp only [if_neg e1] at ha
      by_cases e2 : k = j
      · simp only [if_pos e2] at hb
        exact (two e1 ha hb).elim
      · simp only [if_neg e2] at hb
        exact g2 i k a ha hb
  · by_cases e1 : i = j
    · simp only [if_pos e1] at ha
      rcases List.mem_cons.mp ha with z | z
      · rw [z]; exact ⟨h.gh.back hp, h.fh.back hp⟩
      · rw [List.mem_singleton.mp z]; exact ⟨h.gh.back hq, h.fh.back hq⟩
    · simp only [if_neg e1] at ha
      exact g3 i a ha
  · by_cases e1 : i = j
    · subst e1
      rw [List.getElem?_set_self hjl] at hi
      cases hi
    · rw [List.getElem?_set_ne (Ne.symm e1)] at hi
      simp only [if_neg e1]
      exact g4 i hi
  · by_cases e1 : i = j
    · subst e1
      rw [List.getElem?_set_self hjl] at ht
      cases ht
      simp only [if_pos] at ha
      refine ⟨fun _ => ?_, fun _ => rfl⟩
      rcases List.mem_cons.mp ha with z | z
      · rw [z]; exact List.mem_cons_self
      · rw [List.mem_singleton.mp z]; exact List.mem_cons_of_mem _ List.mem_cons_self
    · rw [List.getElem?_set_ne (Ne.symm e1)] at ht
      simp only [if_neg e1] at ha
      have := g5 i t a ht ha
      rw [this]
      refine ⟨fun z => List.mem_cons_of_mem _ (List.mem_cons_of_mem _ z), fun z => ?_⟩
      rcases List.mem_cons.mp z with z | z
      · exact absurd z (nm i a ha).1
      · rcases List.mem_cons.mp z with z | z
        · exact absurd z (nm i a ha).2
        · exact z
section
variable {X : Cx} {xo : Xo} {W : WX} {st : Stmt} {sts : List Stmt} {pos p : Pos} {m : SX}
theorem passNoX : Passes (L2.CX X.prog X.w) X (fun _ _ _ => False) := fun _ _ _ _ e s' I c => by
  obtain ⟨_, _, _, _, _, _, _, _, _, _, _, _, _, h⟩ := c
def tLawMix (M : Mx) (W : WX) (r : List Int → Int → Option Int) (i j : Nat) (seed : Int) (m : SX) : TS := fun D σ H => ∃ F Y G e ns s0, Env M F Y G H σ e ∧ e[i]? = some (.raw ns) ∧ e[j]? = some .un ∧ r ns seed = some s0 ∧ ∀ p q, OkS M W F G D (m (e.set j (.src p q s0 ns 0)))
theorem ps_law {fn x y : Str} {i j k : Nat} {r : List Int → Int → Option Int} {seed : Int} {sd : Nat} {p2 np cp pc : Pos} (Fm : DfMix X.prog X.w X.K X.mg X.base fn k r) (hr : Room k X.A) (hN : X.N.Nodup) (hi : X.N[i]? = some x) (hj : X.N[j]? = some y)
    (hv : Vis X.env.scope x) (hd : (x == ("__debug__" : Str)) = false) (hcd : (x == ("__classdict__" : Str)) = false) (hy : Loc X.env.scope y) (hfn : X.fn y = true ∨ X.env.scope.names.lookup y = some .local) (hdb : (fn == ("__debug__" : Str)) = false) (hg : Gl X fn)
    (h2 : PSs X sts (tS (mx X xo) W m))
    (hs : swapsWith (.Call (.Name fn p) [.Name x np, .Constant (.int seed) sd cp] [] pc) (some (.Name y p2)) pos.line X.env = pure false := by rfl)
    (he : starEach (.Name x np :: [.Constant (.int seed) sd cp]) X.env = (false, eval (.Name x np) X.env) :: starEach [.Constant (.int seed) sd cp] X.env := by rfl) :
    PSs X (.Assign [.Name y p2] (.Call (.Name fn p) [.Name x np, .Constant (.int seed) sd cp] [] pc) pos :: sts) (tLawMix (mx X xo) W r i j seed m) := by
  obtain ⟨f, fd, ps, F, hm, hk, hb⟩ := Fm.ex
  refine PSs.of (pss_cons (ps_set hN hj hy (pe_call F hr hg hm hk hb .nil passNoX (pa_cons (pe_var hi hv hd hcd) (pa_cons pe_int pa_nil rfl) he) hdb he rfl) hs hfn) h2) fun D σ H ⟨F0, Y, G, e, ns, s0, hE, hs1, hs2, hrs, qq⟩ => ?_
  obtain ⟨a, k1, k2⟩ := hE.raw hs1
  refine ⟨_, k1, a, ns, seed, s0, rfl, hE.gh.sl k2, hrs, fun p q H' hx hp hq hne h1 h2 => ?_⟩
  exact ⟨F0, _, G, _, hE.newSrc (s := ⟨s0, ns, 0⟩) hs2 hx hp hq h1 h2, qq p q⟩
end
/-- the law itself -/
def spLaw (K : PySem.W.Frag) (n : Nat) : Sp := fun vs H Q E => ∃ (a : Addr) (ns : List Int), vs = [.ref a] ∧ SqL K H a (ns.map V.int) ∧ ns.length ≤ n ∧ ∀ H', Q (.bl true) H'
def evLaw (n : Nat) (ns : List Int) : Ev := .raw ns :: List.replicate (n - 1) .un
theorem evLaw_env {M : Mx} {H : Hp} {N : List Str} {a : Addr} {ns : List Int} (r : SqL M.K H a (ns.map V.int)) (hN : 1 ≤ N.length) : Env M H [] H H (L2.start N [.ref a]) (evLaw N.length ns) := by
  refine ⟨Ex.refl H, Ex.refl H, ?_, fun _ => [], fun i s hs => ?_, fun i j a ha => (by cases ha), fun i a ha => (by cases ha), fun i _ => rfl, fun i s a _ ha => (by cases ha)⟩
  · unfold L2.start evLaw
    simp
  · match i with
    | 0 =>
      unfold evLaw at hs
      cases hs
      exact ⟨rfl, a, rfl, r⟩
    | i + 1 =>
      unfold evLaw at hs
      simp only [List.getElem?_cons_succ, List.getElem?_replicate] at hs
      split at hs
      · cases hs
        exact rfl
      · cases hs
section
variable {P : Program} {w : World} {K : PySem.W.Frag} {mg : Str → Option Value} {base : Heap} {x qual : Str} {params : Arguments} {body : List Stmt} {scope : Scope} {f : Addr} {fd : FuncData} {N ps : List Str} {k : Nat} {m : SX}
theorem FunD.okLaw {r : List Int → Int → Option Int} {seed : Int} {n : Nat} {j : Nat} (F : FunD K x qual params body scope [] [] f fd) (S : FnScope N ps scope) (hn : ps.length = 1) (hN : 2 ≤ N.length) (hj : j < N.length) (hj0 : 0 < j)
    (hb : ∀ (cdv : Value) (A : Around) (outer : List PySem.Env) (s : Shared) (H : Hp) (E : XK), Room k (cxD P w K mg base N qual scope f cdv A outer s H E).A → Takes (cxD P w K mg base N qual scope f cdv A outer s H E) (fun cls d _ H => E cls d H) → PassesOwn (model P w) (cxD P w K mg base N qual scope f cdv A outer s H E).A (cxD P w K mg base N qual scope f cdv A outer s H E).env (cxD P w K mg base N qual scope f cdv A outer s H E).xe →
      PSs (cxD P w K mg base N qual scope f cdv A outer s H E) body (tLawMix (mx (cxD P w K mg base N qual scope f cdv A outer s H E) none) (fun cls d _ H => E cls d H) r 0 j seed m))
    (hr : ∀ ns, ns.length ≤ n → ∃ s0, r ns seed = some s0 ∧ ∀ p q, ∃ e, m ((evLaw N.length ns).set j (.src p q s0 ns 0)) = .ret (.bl true) e) :
    FnOk P w K mg base (L2.CX P w) (k + 1) f fd ps (spLaw K n) := by
  refine F.ok S (fun vs H Q E ⟨a, ns, e, _⟩ => by rw [e, hn]; rfl) fun cdv A outer s0 H vs Q E hroom ⟨a, ns, e, hS, hl, hQ⟩ => ⟨_, hb cdv A outer s0 H E hroom (takes_of rfl rfl rfl rfl) (passes_of rfl), ?_⟩
  subst e
  obtain ⟨s1, h1, h2⟩ := hr ns hl
  refine ⟨H, [], H, evLaw N.length ns, ns, s1, evLaw_env hS (by omega), rfl, ?_, h1, fun p q => ?_⟩
  · unfold evLaw
    rw [List.getElem?_cons]
    rw [if_neg (by omega), List.getElem?_replicate, if_pos (by omega)]
  · obtain ⟨e, he⟩ := h2 p q
    rw [he]
    intro v Y σ' G' H' E' g' rv
    rw [show v = V.bl true from rv]
    exact hQ H'
end
end TF
/-! #### text TFw -/
set_option Elab.async false
set_option linter.all false
set_option maxRecDepth 100000
set_option maxHeartbeats 2000000
/-! TFw: the rules once more, with fewer premises. -/
namespace TF
open PySem L2 PySem.Spec PyProof.Rows
def nmB (sc : Scope) (x : Str) : Bool := (match sc.names.lookup x with
  | some .local => true
  | some .cell => true
  | some .free => true
  | _ => false) && !(x == ("__debug__" : Str)) && !(x == ("__classdict__" : Str))
def locB (sc : Scope) (x : Str) : Bool := match sc.names.lookup x with
  | some .local => true
  | some .cell => true
  | _ => false
def loc1 (sc : Scope) (x : Str) : Bool := match sc.names.lookup x with
  | some .local => true
  | _ => false
theorem nmB_of {sc : Scope} {x : Str} (h : nmB sc x = true) : Vis sc x ∧ (x == ("__debug__" : Str)) = false ∧ (x == ("__classdict__" : Str)) = false := by
  unfold nmB at h
  rw [Bool.and_eq_true, Bool.and_eq_true] at h
  obtain ⟨⟨h1, h2⟩, h3⟩ := h
  refine ⟨?_, by simpa using h2, by simpa using h3⟩
  unfold Vis
  split at h1
  · rename_i e; exact .inl e
  · rename_i e; exact .inr (.inl e)
  · rename_i e; exact .inr (.inr e)
  · cases h1
theorem locB_of {sc : Scope} {x : Str} (h : locB sc x = true) : L2.Loc sc x := by
  unfold locB at h
  unfold L2.Loc
  split at h
  · rename_i e; exact .inl e
  · rename_i e; exact .inr e
  · cases h
section
variable {X : Cx} {xo : Xo} {W : WX} {a b c tg : Expr} {f g h : EX} {m n : SX} {fs : List EX} {es : List Expr} {st : Stmt} {sts : List Stmt} {x : Str} {pos p : Pos}
theorem takes0 {X : Cx} : Takes X W0 := fun u s' ⟨a, B, sI, pins, σ, H, cls, d, e, I, nb, up, sky, na, os, ag, w⟩ => w.elim
theorem vF (i : Nat) (hN : X.N[i]? = some x) (h : nmB X.env.scope x = true) : PE X (.Name x pos) (tD (mx X xo) W (eV i)) := pe_fz hN (nmB_of h).1 (nmB_of h).2.1 (nmB_of h).2.2
theorem vW (i : Nat) (hN : X.N[i]? = some x) (h : nmB X.env.scope x = true) : PE X (.Name x pos) (tV (mx X xo) W (eW i)) := pe_vw hN (nmB_of h).1 (nmB_of h).2.1 (nmB_of h).2.2
theorem gt (i : Nat) (hNd : X.N.Nodup) (hi : X.N[i]? = some x) (h : locB X.env.scope x = true) (hf : (X.fn x || loc1 X.env.scope x) = true) : PG X (.Name x pos) (gT (mx X xo) (.nm i)) := pg_nm hNd hi (locB_of h) (by
  rcases Bool.or_eq_true_iff.mp hf with z | z
  · exact .inl z
  · unfold loc1 at z
    split at z
    · rename_i e; exact .inr e
    · cases z)
/-- a module's name that holds a plain thing -/
structure GlC (P : Program) (w : World) (K : PySem.W.Frag) (mg : Str → Option Value) (x : Str) (d : D) : Prop where
  ex : ∃ u v, mg x = some u ∧ RelV v u ∧ ∀ G, Rp ⟨P, w, K⟩ G d v
theorem gC {d : D} (hm : GlC X.prog X.w X.K X.mg x d) (hg : Gl X x) (hd : (x == ("__debug__" : Str)) = false) : PE X (.Name x pos) (tD (mx X xo) W (eC d)) := pe_gD ⟨hm.ex⟩ hg hd
theorem sK (i : Nat) {k : Int} {j : Nat} {np cp : Pos} (hN : X.N[i]? = some x) (h : nmB X.env.scope x = true) (hs : PlainIx (.Constant (.int k) j cp)) : PE X (.Subscript (.Name x np) (.Constant (.int k) j cp) pos) (tD (mx X xo) W (eSrcK i k)) := pe_srcK hN (nmB_of h).1 (nmB_of h).2.1 (nmB_of h).2.2 hs
theorem FnOk.absurd {P : Program} {w : World} {K : PySem.W.Frag} {mg : Str → Option Value} {base : Heap} {CX : CXT} {k : Nat} {f : Addr} {fd : FuncData} {ps : List Str} {sp : Sp} (h : ∀ vs H Q E, ¬ sp vs H Q E) : FnOk P w K mg base CX k f fd ps sp :=
  ⟨fun vs H Q E z => (h vs H Q E z).elim, fun A outer s H args us vs Q E hr e0 b r z => (h vs H Q E z).elim⟩
theorem spD_stuck {M : Mt} {n : Nat} (vs : List V) (H : Hp) (Q : VK) (E : XK) : ¬ spD M n (fun _ => .stuck) vs H Q E := fun ⟨_, _, _, _, _, z⟩ => z
theorem Room.u65 {k : Nat} {A : Around} (r : Room k A) : A.units + 65 < cLine := by have := r.un; omega
theorem Room.u100 {k : Nat} {A : Around} (r : Room k A) : A.units + 100 < cLine := by have := r.un; omega
end
end TF
/-! #### text TFx -/
set_option Elab.async false
set_option linter.all false
set_option maxRecDepth 100000
set_option maxHeartbeats 2000000
/-! TFx: exceptions and classes, with fewer premises. -/
namespace TF
open PySem L2 PySem.Spec PyProof.Rows
/-- an exception of one's own with keyword-only attributes -/
structure XcC (P : Program) (K : PySem.W.Frag) (mg : Str → Option Value) (c : Str) (ks : List Str) : Prop where
  ex : ∃ qual params body scope, OxK K P c qual params body scope ∧ IniT qual params body scope ks ∧ ∀ f ∈ ks, PySem.W.findIn K (.ref (He.ga K c)) f = some none
  gl : mg c = some (.ref (He.ga K c))
structure XcT (K : PySem.W.Frag) (mg : Str → Option Value) (c : Str) : Prop where
  ex : OxB K (He.ga K c)
  gl : mg c = some (.ref (He.ga K c))
section
variable {X : Cx} {xo : Xo} {W : WX} {a b c0 tg o : Expr} {f g h : EX} {m n sm : SX} {fs : List EX} {es : List Expr} {st : Stmt} {sts : List Stmt} {x c : Str} {pos p pos2 p2 : Pos}
theorem raiseK {ks : List Str} {kws : List Keyword} {k : Nat} (h : XcC X.prog X.K X.mg c ks) (hc : X.calm = true) (tk : Takes X W) (hr : Room (k + 1) X.A) (hg : Gl X c) (hsup : X.mg "super" = none) (hkw : PK X kws (tF (mx X xo) W fs)) (hl : fs.length = ks.length) (hdb : (c == ("__debug__" : Str)) = false)
    (hall : (backToKw pos (keywordEach kws X.env)).all (·.1.isSome) = true := by rfl) (hks : (backToKw pos (keywordEach kws X.env)).filterMap (·.1) = ks := by rfl)
    (hpl : ((backTo pos (starEach [] X.env)).any (·.1) || (backToKw pos (keywordEach kws X.env)).any (·.1.isNone)) = false := by rfl) :
    PS X (.Raise (some (.Call (.Name c p) [] kws pos)) none pos2) (tS (mx X xo) W (sRaise c ks fs)) := by
  obtain ⟨qual, params, body, scope, T, U, hno⟩ := h.ex
  exact ps_raiseD hc tk T U hno hr hg h.gl hsup hkw hl hdb hall hks hpl
theorem raiseT {tx : Str} {j : Nat} (h : XcT X.K X.mg c) (hc : X.calm = true) (tk : Takes X W) (hg : Gl X c) (hdb : (c == ("__debug__" : Str)) = false)
    (he : starEach (Expr.Constant (.str tx) j p2 :: []) X.env = (false, eval (Expr.Constant (.str tx) j p2) X.env) :: starEach [] X.env := by rfl) (hpl : (backTo pos (starEach [] X.env)).any (·.1) = false := by rfl) :
    PS X (.Raise (some (.Call (.Name c p) [.Constant (.str tx) j p2] [] pos)) none pos2) (tS (mx X xo) W (sRaiseT c)) := ps_raiseTD hc tk h.ex hg h.gl hdb he hpl
/-- what a suite catches, by names -/
structure Exm (K : PySem.W.Frag) (y c : Str) (b : Bool) : Prop where
  e : PySem.W.exmOne K (.ref (He.ga K y)) (.ref (He.ga K c)) = some b
theorem nms {X : Cx} (h : X.mg c = some (.ref (He.ga X.K c))) (hg : Gl X c) (hdb : (c == ("__debug__" : Str)) = false) : Names X c (.ref (He.ga X.K c)) := ⟨hg, hdb, .inl h⟩
end
section
variable {P : Program} {w : World} {K : PySem.W.Frag} {mg : Str → Option Value} {base : Heap} {k n : Nat} {f : Addr} {fd : FuncData} {ps : List Str} {c m : Str} {r : List D → Rv}
theorem DfM.of (F : FnOk P w K mg base (L2.CX P w) k (He.ma K (He.ga K c) m) fd ps (spD ⟨P, w, K⟩ n r)) (hb : Binds K fd ps []) (mt : Meth K (He.ga K c) m (He.ma K (He.ga K c) m)) : DfM P w K mg base c m k n r :=
  ⟨FnR.imp (F.raw hb .nil) fun vs H Q E h => by rw [List.append_nil]; exact h, mt⟩
/-- a property's object, its getter at g -/
structure PrA (K : PySem.W.Frag) (c m : Str) (g : Addr) : Prop where
  ex : ∃ p, PySem.W.findIn K (.ref (He.ga K c)) m = some (some (.ref p)) ∧ PySem.W.specialIn K (.ref p) "__get__" = some (some (.builtin "property.__get__")) ∧ PySem.W.takesIn K (.ref p) = some true ∧ ∃ rest, PySem.W.recIn K p "property" = some (.ref g :: rest)
theorem DfP.of (F : FnOk P w K mg base (L2.CX P w) k f fd ps (spD ⟨P, w, K⟩ 1 r)) (hb : Binds K fd ps []) (h : PrA K c m f) : DfP P w K mg base c m k r := by
  obtain ⟨p, h1, h2, h3, h4⟩ := h.ex
  exact ⟨p, f, FnR.imp (F.raw hb .nil) fun vs H Q E h => by rw [List.append_nil]; exact h, h1, h2, h3, h4⟩
end
def sMeC (c : Str) (i : Nat) (fn : Str) : D → SX := fun d e => match e[i]? with
  | some (.me _ _ c1 _) => if c1 = c then sMe i fn d e else .stuck
  | _ => .stuck
theorem meC {X : Cx} {xo : Xo} {W : WX} {a : Expr} {f : EX} {x c fn : Str} {i j : Nat} {np apos pos : Pos} (C : ClS X.K c) (hj : slotIx c fn = some j) (hN : X.N[i]? = some x) (h : nmB X.env.scope x = true) (ha : PE X a (tD (mx X xo) W f))
    (hs : swapsWith a (some (.Attribute (.Name x np) fn apos)) pos.line X.env = pure false := by rfl) :
    PS X (.Assign [.Attribute (.Name x np) fn apos] a pos) (tS (mx X xo) W (sOf f (sMeC c i fn))) := ps_meD C hj hN (nmB_of h).1 (nmB_of h).2.1 (nmB_of h).2.2 ha hs
def clsB (s : Stmt) : List Stmt := match s with
  | .ClassDef (body := b) .. => b
  | _ => []
end TF
/-! #### text TFy -/
set_option Elab.async false
set_option linter.all false
set_option maxRecDepth 100000
set_option maxHeartbeats 2000000
/-! TFy: what the head tells of the module. -/
namespace TF
open PySem L2 PySem.Spec PyProof.Rows
/-- where a def stands: a global's, a class's method, a class's property -/
inductive At where
  | gl (x : Str) | me (c m : Str) | pr (c m : Str)
def prG (K : PySem.W.Frag) (p : Addr) : Addr := match PySem.W.recIn K p "property" with
  | some (.ref g :: _) => g
  | _ => 0
def At.adr (K : PySem.W.Frag) : At → Addr
  | .gl x => He.ga K x
  | .me c m => He.ma K (He.ga K c) m
  | .pr c m => prG K (He.ma K (He.ga K c) m)
structure DefZ where
  at_ : At
  name : Str
  qual : Str
  params : Arguments
  body : List Stmt
  scope : Scope
  clo : List Str := []
abbrev FnZ : Type := Option (Str × Str × Arguments × FuncBody × Scope × Addr × List Str × Addr)
def fnZ (K : PySem.W.Frag) (a : Addr) : FnZ := match K.lookup a with
  | some ⟨_, _, .func fd, _⟩ => some (fd.name, fd.qualname, fd.params, fd.body, fd.scope, fd.globals, fd.closure.map (·.1), fd.builtins)
  | _ => none
def DefZ.val (d : DefZ) : FnZ := some (d.name, d.qual, d.params, .stmts d.body, d.scope, mainGlobals, d.clo, builtinsNs)
/-- no defaults -/
def noDf (K : PySem.W.Frag) (a : Addr) (q : Str) : Bool := PySem.W.keepIn K (.ref a) && (match K.lookup a with
  | some ⟨_, _, .func fd, _⟩ => PySem.W.codeIn K fd.code q && (He.dflB K fd.defaults [] && He.kwdB K fd.kwdefaults [])
  | _ => false)
theorem DefZ.fun_ {K : PySem.W.Frag} {d : DefZ} (e : fnZ K (d.at_.adr K) = d.val) (hc : d.clo = []) (c : noDf K (d.at_.adr K) d.qual = true) : ∃ fd, FunD K d.name d.qual d.params d.body d.scope [] [] (d.at_.adr K) fd := by
  unfold noDf at c
  rw [Bool.and_eq_true] at c
  obtain ⟨kp, c⟩ := c
  unfold fnZ DefZ.val at e
  rw [hc] at e
  match hq : K.lookup (d.at_.adr K) with
  | none => rw [hq] at c; cases c
  | some ⟨oc, od, .func ⟨a1, a2, a3, a4, a5, a6, a7, a8, a9, a10, a11, a12, a13, a14, a15⟩, osl⟩ =>
    rw [hq] at e c
    simp only [Option.some.injEq, Prod.mk.injEq] at e
    obtain ⟨e1, e2, e3, e4, e5, e6, e7, e8⟩ := e
    have e9 := List.map_eq_nil_iff.mp e7
    simp only [Bool.and_eq_true] at c
    obtain ⟨c1, c2, c3⟩ := c
    subst e1 e2 e3 e4 e5 e6 e8 e9
    exact ⟨_, ⟨oc, od, a8, a9, a10, a11, a12, a13, a14, osl, rfl, hq, c1, He.dflB_ok c2, He.kwdB_ok c3⟩, kp⟩
  | some ⟨oc, od, .seq _ _, osl⟩ => rw [hq] at c; cases c
  | some ⟨oc, od, .dict _ _, osl⟩ => rw [hq] at c; cases c
  | some ⟨oc, od, .cls _, osl⟩ => rw [hq] at c; cases c
  | some ⟨oc, od, .fields _, osl⟩ => rw [hq] at c; cases c
  | some ⟨oc, od, .cell _, osl⟩ => rw [hq] at c; cases c
  | some ⟨oc, od, .plain, osl⟩ => rw [hq] at c; cases c
  | some ⟨oc, od, .prim _, osl⟩ => rw [hq] at c; cases c
  | some ⟨oc, od, .set _ _ _, osl⟩ => rw [hq] at c; cases c
  | some ⟨oc, od, .bytearray _ _, osl⟩ => rw [hq] at c; cases c
  | some ⟨oc, od, .freed, osl⟩ => rw [hq] at c; cases c
/-! ### classes with slots -/
def slotL (c : Str) : List (Str × Nat) := if c = "Keyboard" then [("own_keys", 0)] else if c = "Machine" then [("own_faults", 0), ("own_keyboard", 1), ("own_width", 2)] else []
theorem slotL_of {c f : Str} {i : Nat} (h : slotIx c f = some i) : (f, i) ∈ slotL c := by
  unfold slotIx at h
  unfold slotL
  split at h
  · rw [if_pos (by assumption)]
    split at h
    · cases h; rename_i e; subst e; exact List.mem_cons_self
    · cases h
  · rw [if_neg (by assumption)]
    split at h
    · rw [if_pos (by assumption)]
      split at h
      · cases h; rename_i e; subst e; exact List.mem_cons_self
      · split at h
        · cases h; rename_i e; subst e; exact List.mem_cons_of_mem _ List.mem_cons_self
        · split at h
          · cases h; rename_i e; subst e; exact List.mem_cons_of_mem _ (List.mem_cons_of_mem _ List.mem_cons_self)
          · cases h
    · cases h
def fnd (K : PySem.W.Frag) (C : Addr) (f : Str) (u : Option Value) : Bool := decide (PySem.W.findIn K (.ref C) f = some u)
def spc (K : PySem.W.Frag) (v : Value) (f : Str) (u : Option Value) : Bool := decide (PySem.W.specialIn K v f = some u)
def slot1B (K : PySem.W.Frag) (C : Addr) (f : Str) (i : Nat) : Bool := match PySem.W.findIn K (.ref C) f with
  | some (some (.ref p)) => spc K (.ref p) "__get__" (some (.builtin "member_descriptor.__get__")) && decide (PySem.W.takesIn K (.ref p) = some true) && decide (PySem.W.typeIn K (.ref p) = some (.type "member_descriptor")) && decide (PySem.W.slotIn K p C = some i) && decide (i < 1000)
  | _ => false
theorem slot1B_ok {K : PySem.W.Frag} {C : Addr} {f : Str} {i : Nat} (h : slot1B K C f i = true) : ∃ p, SlX.Slot1 K C f p i := by
  unfold slot1B at h
  split at h
  · rename_i p e
    simp only [Bool.and_eq_true, decide_eq_true_eq, spc] at h
    obtain ⟨⟨⟨⟨h1, h2⟩, h3⟩, h4⟩, h5⟩ := h
    exact ⟨p, e, h1, h2, h3, h4, h5⟩
  · cases h
def clsZ (K : PySem.W.Frag) (c : Str) : Bool := slotC c && PySem.W.plainGet K (He.ga K c) Str.empty && PySem.W.isClsIn K (He.ga K c) && PySem.W.plainOver K (He.ga K c) && fnd K (He.ga K c) "__setattr__" (some (.builtin "object.__setattr__")) &&
  fnd K (He.ga K c) "__class__" (some (.builtin "object.__class__")) && spc K (.builtin "object.__class__") "__get__" (some (.builtin "getset_descriptor.__get__")) && decide (PySem.W.takesIn K (.builtin "object.__class__") = some true) && decide (PySem.W.mroIn K (He.ga K c) (.type "object") = some true) &&
  (slotL c).all fun q => slot1B K (He.ga K c) q.1 q.2
theorem clsZ_ok {K : PySem.W.Frag} {c : Str} (h : clsZ K c = true) : ClS K c := by
  unfold clsZ fnd spc at h
  simp only [Bool.and_eq_true, decide_eq_true_eq] at h
  obtain ⟨⟨⟨⟨⟨⟨⟨⟨⟨h0, h1⟩, h2⟩, h3⟩, h4⟩, h5⟩, h6⟩, h7⟩, h8⟩, h9⟩ := h
  exact ⟨h0, ⟨h1, h2, h3, h4⟩, ⟨h5, h6, h7, h8⟩, fun f i e => slot1B_ok (List.all_eq_true.mp h9 (f, i) (slotL_of e))⟩
/-! ### a property -/
def prB (K : PySem.W.Frag) (c m : Str) : Bool := match PySem.W.findIn K (.ref (He.ga K c)) m with
  | some (some (.ref p)) => spc K (.ref p) "__get__" (some (.builtin "property.__get__")) && decide (PySem.W.takesIn K (.ref p) = some true) && (match PySem.W.recIn K p "property" with
    | some (.ref _ :: _) => true
    | _ => false)
  | _ => false
theorem prB_ok {K : PySem.W.Frag} {c m : Str} (h : prB K c m = true) : PrA K c m (At.adr K (.pr c m)) := by
  unfold prB at h
  split at h
  · rename_i p e
    simp only [Bool.and_eq_true, decide_eq_true_eq, spc] at h
    obtain ⟨⟨h1, h2⟩, h3⟩ := h
    have ep : He.ma K (He.ga K c) m = p := by unfold He.ma; rw [e]
    refine ⟨p, e, h1, h2, ?_⟩
    show ∃ rest, PySem.W.recIn K p "property" = some (.ref (prG K (He.ma K (He.ga K c) m)) :: rest)
    rw [ep]
    unfold prG
    split at h3
    · rename_i g rest e2
      exact ⟨rest, by rw [e2]⟩
    · cases h3
  · cases h
/-! ### an exception that is held -/
def fdB (K : PySem.W.Frag) (c f : Str) : Bool := fnd K (He.ga K c) "__getattribute__" (some (.builtin "BaseException.__getattribute__")) && fnd K (He.ga K c) "__getattr__" none && decide (PySem.W.subIn K (.ref (He.ga K c)) (.type "BaseException") = some true) && PySem.W.hasDictIn K (He.ga K c) && fnd K (He.ga K c) f none
theorem fdB_ok {K : PySem.W.Frag} {c f : Str} (h : fdB K c f = true) : FdX K c f := by
  unfold fdB fnd at h
  simp only [Bool.and_eq_true, decide_eq_true_eq] at h
  obtain ⟨⟨⟨⟨h1, h2⟩, h3⟩, h4⟩, h5⟩ := h
  exact ⟨h1, h2, h3, h4, h5⟩
end TF
/-! #### text TFz -/
set_option Elab.async false
set_option linter.all false
set_option maxRecDepth 100000
set_option maxHeartbeats 2000000
/-! TFz: exceptions of one's own, told by the head. -/
namespace TF
open PySem L2 PySem.Spec PyProof.Rows
def excZ (K : PySem.W.Frag) (C : Addr) : Bool := match K.lookup C with
  | some ⟨.type "type", _, .cls ⟨_, _, .ref C' :: bm, _, _, true, _, _, _, _, false⟩, ⟨[_, _, _, _, some (.builtin n), _]⟩⟩ => C' == C && n == "ValueError.__new__" && HandSPX.refsVE bm
  | _ => false
theorem excZ_ok {K : PySem.W.Frag} {C : Addr} (h : excZ K C = true) : ∃ nm q N bs bm sn sub ab col dd k0 k1 k2 k3 k5, K.lookup C = some (excClassObj nm q C N bs bm true sn sub ab col dd k0 k1 k2 k3 k5 "ValueError.__new__") ∧ HandSPX.refsVE bm = true := by
  unfold excZ at h
  split at h
  · rename_i e
    simp only [Bool.and_eq_true, beq_iff_eq] at h
    obtain ⟨⟨rfl, rfl⟩, h3⟩ := h
    exact ⟨_, _, _, _, _, _, _, _, _, _, _, _, _, _, _, e, h3⟩
  · cases h
def excB (K : PySem.W.Frag) (c : Str) : Bool := excZ K (He.ga K c) && decide (PySem.W.subIn K (.ref (He.ga K c)) (.type "BaseException") = some true) && decide (PySem.W.typeIn K (.ref (He.ga K c)) = some (.type "type")) && PySem.W.keepIn K (.ref (He.ga K c))
def oxB (K : PySem.W.Frag) (c : Str) : Bool := excB K c && fnd K (He.ga K c) "__init__" (some (.builtin "ValueError.__init__"))
theorem oxB_ok {K : PySem.W.Frag} {c : Str} (h : oxB K c = true) : OxB K (He.ga K c) := by
  unfold oxB excB fnd at h
  simp only [Bool.and_eq_true, decide_eq_true_eq] at h
  obtain ⟨⟨⟨⟨h1, h2⟩, h3⟩, h4⟩, h5⟩ := h
  exact ⟨excZ_ok h1, h5, h2, h3, h4⟩
/-- the init of such a class: its closure is the class -/
def iniZ (K : PySem.W.Frag) (fI C : Addr) (file qual : Str) : Bool := match K.lookup fI with
  | some ⟨_, _, .func ⟨_, _, _, _, _, _, [(_, cc)], .none, .none, _, _, _, .ref cda, _, _⟩, _⟩ => PySem.W.codeIn K (.ref cda) qual && (match K.lookup cda with
      | some ⟨_, _, .fields vs, _⟩ => (match vs[2]? with
        | some (Value.str f _) => file == f
        | _ => false)
      | _ => false) && (match K.lookup cc with
      | some ⟨_, _, .cell (some (.ref C')), _⟩ => C' == C
      | _ => false)
  | _ => false
theorem iniZ_ok {K : PySem.W.Frag} {fI C : Addr} {file qual : Str} {params : Arguments} {body : List Stmt} {scope : Scope} (h : iniZ K fI C file qual = true)
    (e : fnZ K fI = (some (("__init__" : Str), qual, params, FuncBody.stmts body, scope, mainGlobals, [("__class__" : Str)], builtinsNs) : FnZ)) :
    ∃ oc od doc pm an ct osl cda cc ccl cdd vs ccs f2 tf cl cld csl, K.lookup fI = some ⟨oc, od, .func (PySem.W.fnX "__init__" qual params body scope [("__class__", cc)] .none .none doc pm an (.ref cda) ct), osl⟩ ∧ PySem.W.codeIn K (.ref cda) qual = true ∧
      K.lookup cda = some ⟨ccl, cdd, .fields vs, ccs⟩ ∧ vs[2]? = some (.str f2 tf) ∧ (file == f2) = true ∧ K.lookup cc = some ⟨cl, cld, .cell (some (.ref C)), csl⟩ := by
  unfold iniZ at h
  split at h
  · rename_i oc od a1 a2 a3 a4 a5 a6 nm cc doc pm an cda ct bl osl hq
    unfold fnZ at e
    rw [hq] at e
    simp only [Option.some.injEq, Prod.mk.injEq, List.map_cons, List.map_nil, List.cons.injEq, and_true] at e
    obtain ⟨e1, e2, e3, e4, e5, e6, e7, e8⟩ := e
    subst e1 e2 e3 e4 e5 e6 e7 e8
    simp only [Bool.and_eq_true] at h
    obtain ⟨⟨h1, h2⟩, h3⟩ := h
    split at h2
    · rename_i q2
      split at h2
      · rename_i q3
        split at h3
        · rename_i q4
          have := beq_iff_eq.mp h3
          subst this
          exact ⟨_, _, _, _, _, _, _, _, _, _, _, _, _, _, _, _, _, _, hq, h1, q2, q3, h2, q4⟩
        · cases h3
      · cases h2
    · cases h2
  · cases h
def oxkB (P : Program) (K : PySem.W.Frag) (c qual : Str) : Bool := excB K c && fnd K (He.ga K c) "__setattr__" (some (.builtin "object.__setattr__")) && fnd K (He.ga K c) "__init__" (some (.ref (He.ma K (He.ga K c) "__init__"))) &&
  decide (PySem.W.typeIn K (.ref (He.ma K (He.ga K c) "__init__")) = some (.type "function")) && decide (PySem.W.mroIn K (He.ga K c) (.ref (He.ga K c)) = some true) && !(P.main.scope.names.lookup ("super" : Str)).isSome &&
  decide (PySem.W.ks_superIn K (He.ga K c) (He.ga K c) "__init__" = some (some (.builtin "ValueError.__init__"))) && decide (PySem.W.nsIn K cStatics "thirdparty.any" = some none) && decide (PySem.W.subIn K (.ref (He.ga K c)) (.type "ValueError") = some true) &&
  iniZ K (He.ma K (He.ga K c) "__init__") (He.ga K c) P.main.file qual
theorem oxkB_ok {P : Program} {K : PySem.W.Frag} {c qual : Str} {params : Arguments} {body : List Stmt} {scope : Scope} (h : oxkB P K c qual = true)
    (e : fnZ K (He.ma K (He.ga K c) "__init__") = (some (("__init__" : Str), qual, params, FuncBody.stmts body, scope, mainGlobals, [("__class__" : Str)], builtinsNs) : FnZ)) : OxK K P c qual params body scope := by
  unfold oxkB excB fnd at h
  simp only [Bool.and_eq_true, decide_eq_true_eq] at h
  obtain ⟨⟨⟨⟨⟨⟨⟨⟨⟨⟨⟨⟨h1, h2⟩, h3⟩, h4⟩, h5⟩, h6⟩, h7⟩, h8⟩, h9⟩, h10⟩, h11⟩, h12⟩, h13⟩ := h
  exact ⟨⟨excZ_ok h1, h5, h6, h7, iniZ_ok h13 e, h8, by simpa using h9, h10, h11, h12⟩, h2, h3, h4⟩
end TF
/-! #### text TGa -/
set_option Elab.async false
set_option linter.all false
set_option maxRecDepth 100000
set_option maxHeartbeats 2000000
/-! TGa: the hook. -/
namespace TF
open PySem L2 PySem.Spec PyProof.Rows
abbrev AlZ : Type := Bool × List FnZ
def asZ (g : Addr → Option Obj) (n : Nat) : List Addr := He.asD g n ++ [cStatics]
/-- what is asked: fb; each def of fz with its text; those without a closure have no defaults -/
def obsK (fb : PySem.W.Frag → Bool) (fz : List DefZ) (K : PySem.W.Frag) : AlZ := (fb K && fz.all fun d => !d.clo.isEmpty || noDf K (d.at_.adr K) d.qual, fz.map fun d => fnZ K (d.at_.adr K))
def valZ (fz : List DefZ) : AlZ := (true, fz.map DefZ.val)
def obsZ (n : Nat) (fb : PySem.W.Frag → Bool) (fz : List DefZ) (g : Addr → Option Obj) : AlZ := obsK fb fz (He.frG g (asZ g n))
def hookZ (n : Nat) (fb : PySem.W.Frag → Bool) (fz : List DefZ) : PySem.W.Hook where
  α := AlZ
  obs := fun s => obsZ n fb fz s.heap.get?
  val := fun _ => valZ fz
  says := fun _ h => ∃ K : PySem.W.Frag, K.In h ∧ obsK fb fz K = valZ fz
  of := fun _ _ e => ⟨_, He.frG_in, e⟩
  keeps := fun _ _ _ ⟨K, hK, c⟩ k => ⟨K, PySem.W.Frag.In.keeps hK k, c⟩
theorem obsZ_eq {n : Nat} {fb : PySem.W.Frag → Bool} {fz : List DefZ} {g : Addr → Option Obj} {s : Shared} (h : ∀ a, g a = s.heap.get? a) : obsZ n fb fz g = (hookZ n fb fz).obs s := by
  rw [show g = s.heap.get? from funext h] <;> rfl
section
variable {fb : PySem.W.Frag → Bool} {fz : List DefZ} {K : PySem.W.Frag}
theorem saysB (c : obsK fb fz K = valZ fz) : fb K = true := ((Bool.and_eq_true _ _).mp (congrArg Prod.fst c)).1
theorem saysF (c : obsK fb fz K = valZ fz) (i : Nat) {d : DefZ} (h : fz[i]? = some d) : fnZ K (d.at_.adr K) = d.val := by
  have e := congrArg Prod.snd c
  have e2 : (fz.map fun d => fnZ K (d.at_.adr K))[i]? = (fz.map DefZ.val)[i]? := congrArg (·[i]?) e
  rw [List.getElem?_map, List.getElem?_map, h] at e2
  exact Option.some.inj e2
theorem saysD (c : obsK fb fz K = valZ fz) (i : Nat) {d : DefZ} (h : fz[i]? = some d) (hc : d.clo = []) : ∃ fd, FunD K d.name d.qual d.params d.body d.scope [] [] (d.at_.adr K) fd := by
  refine DefZ.fun_ (saysF c i h) hc ?_
  have q := List.all_eq_true.mp ((Bool.and_eq_true _ _).mp (congrArg Prod.fst c)).2 d (List.mem_of_getElem? h)
  simpa [hc] using q
end
end TF
/-! #### text TGb -/
set_option Elab.async false
set_option linter.all false
set_option maxRecDepth 100000
set_option maxHeartbeats 2000000
/-! TGb: from the head's answers to the facts that the walks want. -/
namespace TF
open PySem L2 PySem.Spec PyProof.Rows
abbrev Fct := PySem.W.Frag → Bool
def allF (l : List Fct) (K : PySem.W.Frag) : Bool := l.all fun g => g K
theorem allF_at {l : List Fct} {K : PySem.W.Frag} (h : allF l K = true) (i : Nat) {g : Fct} (hg : l[i]? = some g) : g K = true := List.all_eq_true.mp h g (List.mem_of_getElem? hg)
def cxW (P : Program) : CXT := fun o H s E u s' => ∃ w, L2.CX P w o H s E u s'
theorem FnOk.anyW {P : Program} {w : World} {K : PySem.W.Frag} {mg : Str → Option Value} {base : Heap} {k : Nat} {f : Addr} {fd : FuncData} {ps : List Str} {sp : Sp} (F : FnOk P w K mg base (L2.CX P w) k f fd ps sp) : FnOk P w K mg base (cxW P) k f fd ps sp :=
  ⟨F.len, fun A outer s H args us vs Q E hr he hb hv hs => codeAny_mono (F.run A outer s H args us vs Q E hr he hb hv hs) fun r s' q => by
    cases r with
    | error e => exact ⟨w, q⟩
    | ok fl => cases fl <;> exact q⟩
theorem cxW_no {P : Program} (H : Hp) (s : Shared) (e : Value) (s' : Shared) (h : cxW P [] H s (fun _ _ _ => False) e s') : False := by
  obtain ⟨w, a, B, H', cls, d, h1, h2, h3, h4, h5, h6, h7, h8⟩ := h
  exact h8
section
variable {P : Program} {w : World} {K : PySem.W.Frag} {mg : Str → Option Value} {h : Heap} {c x : Str}
theorem GlC.int {i : Int} (e : ∃ t, mg x = some (.int i t)) : GlC P w K mg x (.int i) := by
  obtain ⟨t, e⟩ := e
  exact ⟨_, .int i, e, ⟨t, rfl⟩, fun _ => rfl⟩
theorem GlC.str {z : Str} (e : ∃ t, mg x = some (.str z t)) : GlC P w K mg x (.str z) := by
  obtain ⟨t, e⟩ := e
  exact ⟨_, .str z, e, ⟨t, rfl⟩, fun _ => rfl⟩
theorem XcC.of {ks : List Str} {qual : Str} {st : Stmt} {d : DefZ} (gl : mg c = some (.ref (He.ga K c))) (h1 : oxkB P K c qual = true) (e : fnZ K (d.at_.adr K) = d.val) (hd : d = ⟨.me c "__init__", "__init__", qual, defArgs st, defBody st, defScope st, ["__class__"]⟩)
    (I : IniT qual (defArgs st) (defBody st) (defScope st) ks) (hf : (ks.all fun f => fnd K (He.ga K c) f none) = true) : XcC P K mg c ks := by
  subst hd
  refine ⟨⟨qual, _, _, _, oxkB_ok h1 e, I, fun f hf' => ?_⟩, gl⟩
  have := List.all_eq_true.mp hf f hf'
  exact of_decide_eq_true this
theorem XcT.of (gl : mg c = some (.ref (He.ga K c))) (h1 : oxB K c = true) : XcT K mg c := ⟨oxB_ok h1, gl⟩
end
end TF
/-! #### text TGc -/
set_option Elab.async false
set_option linter.all false
set_option maxRecDepth 100000
set_option maxHeartbeats 2000000
/-! TGc: chains of comparisons; a, *b = t; tuples of texts as globals; comprehensions over a list of the frame's own. -/
namespace TF
open PySem L2 PySem.Spec PyProof.Rows
/-! ### a op b op' c -/
def eChain (g g' : D → D → Option D) (f1 f2 f3 : EX) : EX := fun e => (f1 e).bind fun d1 e1 => (f2 e1).bind fun d2 e2 => match g d1 d2 with
  | some (.bl true) => (f3 e2).bind fun d3 e3 => Rx.of (g' d2 d3) e3
  | some (.bl false) => .val (.bl false) e2
  | _ => .stuck
section
variable {X : Cx} {xo : Xo} {W : WX} {a b c : Expr} {f g h : EX} {pos : Pos}
theorem tch {M : Mx} {k k' : D → D → Option D} (σ : L2.St) (H : Hp) (Q : VK) (q : tD M W (eChain k k' f g h) σ H Q) : tChain (rD2 M k) (rD2 M k') (tV M W f) (tV M W g) (tV M W h) σ H Q := by
  obtain ⟨F, Y, G, e, hE, ho⟩ := q
  refine ⟨F, Y, G, e, hE, ho.bind fun d1 e1 v1 G1 H1 _ s1 ho1 r1 => ⟨F, Y, G1, e1, s1.env, ho1.bind fun d2 e2 v2 G2 H2 _ s2 ho2 r2 => ?_⟩⟩
  have r1' : Rpv M G1 H1 Y d1 v1 := r1
  have r2' : Rpv M G2 H2 Y d2 v2 := r2
  cases hg : k d1 d2 with
  | none => rw [hg] at ho2; exact ho2.elim
  | some d =>
    rw [hg] at ho2
    cases d with
    | bl z =>
      refine ⟨G2, d1, d2, .bl z, s2.env.gh, (r1'.stp s2).any, r2'.any, hg, fun v G' H' n r => ?_⟩
      have rv : v = V.bl z := r
      subst rv
      refine ⟨z, rfl, ?_⟩
      have st := Stp.ofN s2.env n
      cases z with
      | false =>
        rw [if_neg Bool.false_ne_true]
        exact ho2 _ _ _ st rfl
      | true =>
        rw [if_pos rfl]
        refine ⟨F, Y, G', e2, st.env, ?_⟩
        have ho3 : Ok1 M W F Y G2 H2 σ e2 ((h e2).bind fun d3 e3 => Rx.of (k' d2 d3) e3) (QD M Q) := ho2
        have ho4 : Ok1 M W F Y G' H' σ e2 ((h e2).bind fun d3 e3 => Rx.of (k' d2 d3) e3) (QD M Q) := by
          cases hr : ((h e2).bind fun d3 e3 => Rx.of (k' d2 d3) e3) with
          | stuck => rw [hr] at ho3; exact ho3
          | exc x e3 => rw [hr] at ho3; exact fun cls a G3 H3 s3 xk => ho3 cls a G3 H3 (st.trans s3) xk
          | val d3 e3 => rw [hr] at ho3; exact fun v G3 H3 s3 q => ho3 v G3 H3 (st.trans s3) q
        refine ho4.bind fun d3 e3 v3 G3 H3 _ s3 ho5 r3 => ?_
        cases hg3 : k' d2 d3 with
        | none => rw [hg3] at ho5; exact ho5.elim
        | some d4 =>
          rw [hg3] at ho5
          exact ⟨G3, d2, d3, d4, s3.env.gh, ((r2'.stp st).stp s3).any, r3.any, hg3, fun v G4 H4 n4 r4 => ho5 v G4 H4 (Stp.ofN s3.env n4) r4⟩
    | _ => exact ho2.elim
theorem pe_chainD {op op' : CmpOp} {k k' : D → D → Option D} (ho : OpR X (compareOp op) (rD2 (mx X xo) k)) (ho' : OpR X (compareOp op') (rD2 (mx X xo) k')) (ha : PE X a (tV (mx X xo) W f)) (hb : PE X b (tV (mx X xo) W g)) (hc : PE X c (tV (mx X xo) W h))
    (hm : lastMarks [op, op'] [b, c] = false := by with_unfolding_all rfl) : PE X (.Compare a [op, op'] [b, c] pos) (tD (mx X xo) W (eChain k k' f g h)) := PE.of (pe_chain ho ho' ha hb hc hm) tch
end
/-! ### a, *b = a tuple -/
section
variable {prog : Program} {w : World} {A : Around} {E : Value → Shared → Prop} {s : Shared}
/-- the first item, and a new list of the others -/
theorem star_items {l : Addr} {x0 : Value} {xs : List Value} {Q : List Value → Shared → Prop} (hl : IsTup s.heap l (x0 :: xs).toArray) (hh : A.handled = none) (hz : xs.length ≤ 1000)
    (h : ∀ (h2 : Heap) (tk : Nat), (∀ b o, s.heap.get? b = some o → h2.get? b = some o) → Q [x0, .ref h2.objs.size] { s with heap := h2.push { cls := .type "list", data := .seq xs.toArray }, toks := tk }) : wpAny (model prog w) A (unpackItems (.ref l) 2 (some 1)) Q E s := by
  have hlt : l ≠ s.heap.objs.size := by obtain ⟨o, ho, _⟩ := hl; exact Nat.ne_of_lt (Heap.lt_size ho)
  have hsz : (x0 :: xs).toArray.size = xs.length + 1 := by simp
  unfold unpackItems
  refine wpAny_bind ?_
  unfold notIterableAtAll
  refine wpAny_bind (wpAny_specialOf hl.typeIs slot_tuple_iter.lookup (wpAny_pure ?_))
  simp only [Bool.false_eq_true, if_false]
  refine wpAny_bind (wpAny_holding (iter_tuple hl (wpAny_bind (wpAny_holding (draw_tuple hlt 1 0 _ _ ⟨_, Heap.get?_push_size _ rfl, rfl, rfl⟩ (hl.push _) (by rw [hsz]; omega) fun h1 it1 sb1 => ?_)))))
  have t1 : IsTup h1 l (x0 :: xs).toArray := (hl.push _).extBut sb1.extBut hlt
  have l1 : s.heap.objs.size < h1.objs.size := by obtain ⟨o, ho, _⟩ := id it1; exact Heap.lt_size ho
  have l2 : l < h1.objs.size := by obtain ⟨o, ho, _⟩ := id t1; exact Heap.lt_size ho
  rw [if_neg (by simp)]
  refine wpAny_bind (wpAny_holding (PySem.W.kun_collect (s := { s with heap := h1 }) (T := "tuple_iterator") (.inr (.inr (.inr rfl))) (Walks.tuple (A := A.in1) hh s.heap.objs.size l hlt (x0 :: xs).toArray) (fun j u st => st.1.typeIs) (k := 1) (by rw [hsz]; omega) ⟨it1, t1⟩ l1 l2 (fun h2 tk hk => ?_) (by rw [hsz, sizeLine_eq]; omega)))
  have e1 : (x0 :: xs).toArray.toList.drop 1 = xs := by simp
  rw [e1]
  show wpAny _ _ (if xs.length < 2 - 1 - 1 then _ else _) _ _ _
  rw [if_neg (by omega)]
  show wpAny _ _ (newList (xs.take (xs.length - 0)) >>= fun d => pure (((x0 :: xs).toArray.toList.drop 0).take 1 ++ [d] ++ xs.drop (xs.length - 0))) _ _ _
  rw [Nat.sub_zero, List.take_length, List.drop_length]
  have kp : ∀ b o, s.heap.get? b = some o → h2.get? b = some o := fun b o e => by
    have hb : b ≠ s.heap.objs.size := Nat.ne_of_lt (Heap.lt_size e)
    exact hk b o hb (sb1.extBut b o hb (Heap.get?_push_of_some _ e))
  refine wpAny_bind (wpAny_newObj_type (wpAny_pure ?_) (by size_fits))
  exact h _ tk kp
end
section
variable {X : Cx} {xo : Xo} {W : WX} {a b c x y : Expr} {f g h : EX} {pos tp sp : Pos} {k : Nat}
/-- a, *b = a tuple, by values -/
def gStar (K : PySem.W.Frag) (t : TGs) : TG := fun v σ H Q => ∃ a x xs, v = .ref a ∧ SqT K H a (x :: xs) ∧ xs.length ≤ 1000 ∧ ∀ p, H p = none → t [x, .ref p] σ (upd H p (.lst xs)) Q
theorem pg_star {t : TGs} (hc : X.calm = true) (h : PGs X [x, y] t) (hm : (assignEach [x, .Starred y sp] X.env).map (fun z => z.2) = (assignEach [x, y] X.env).map (fun z => z.2) := by rfl)
    (hn : (assignEach [x, .Starred y sp] X.env).length = 2 := by rfl) (hst : (assignEach [x, .Starred y sp] X.env).findIdx? (fun z => z.1) = some 1 := by rfl) : PG X (.Tuple [x, .Starred y sp] k pos) (gStar X.K t) := by
  refine ⟨fun pins s σ H v u Q I r hw => ?_⟩
  obtain ⟨a, x0, xs, e1, hq, hz, hw⟩ := hw
  subst e1
  cases r
  obtain ⟨its, rv, ht, _⟩ := I.tuple hq
  cases rv with
  | cons r0 rr =>
    rename_i u0 us
    rw [assign_Tuple]
    refine wpAny_bind (wpAny_standAt ?_)
    unfold unpack
    rw [hn, hst]
    refine wpAny_bind (wpAny_holding (star_items ht (I.ok.hd hc) (by rw [← rr.length]; exact hz) fun h2 tk kp => ?_))
    rw [hm]
    have I2 : Inv X pins σ H { s with heap := h2, toks := tk } := I.kept (t' := tk) kp
    have hf : H h2.objs.size = none := I2.hok.fresh (Nat.le_refl _)
    have I3 : Inv X pins σ (upd H h2.objs.size (.lst xs)) { s with heap := h2.push { cls := .type "list", data := .seq us.toArray }, toks := tk } :=
      I2.laid (t' := tk) (fun b u e => Heap.get?_push_of_some _ e) (Nat.le_refl _) ⟨by rw [sizeLine_eq]; omega, us, 0, rr, Heap.get?_push_size _ rfl⟩
    exact h.run pins _ σ _ [x0, .ref h2.objs.size] _ Q I3 (.cons r0 (.cons rfl .nil)) (hw _ hf)
def sStar (t1 t2 : Tg) : D → SX := fun d e => match d with
  | .tup (d1 :: ds) => if ds.length ≤ 1000 then (match asgs [t1, t2] [d1, .lst ds] e with
    | some e1 => .nx e1
    | none => .stuck) else .stuck
  | _ => .stuck
theorem ps_starD {t1 t2 : Tg} (hc : X.calm = true) (he : PE X a (tD (mx X xo) W f)) (h1 : PG X x (gT (mx X xo) t1)) (h2 : PG X y (gT (mx X xo) t2)) (hm : (assignEach [x, .Starred y sp] X.env).map (fun z => z.2) = (assignEach [x, y] X.env).map (fun z => z.2) := by rfl)
    (hm2 : (assignEach [x, y] X.env).map (fun x => x.2) = assign x X.env :: (assignEach [y] X.env).map (fun x => x.2) := by rfl) (hm3 : (assignEach [y] X.env).map (fun x => x.2) = assign y X.env :: (assignEach [] X.env).map (fun x => x.2) := by rfl)
    (hn : (assignEach [x, .Starred y sp] X.env).length = 2 := by rfl) (hst : (assignEach [x, .Starred y sp] X.env).findIdx? (fun z => z.1) = some 1 := by rfl)
    (hs : swapsWithSole [.Tuple [x, .Starred y sp] k tp] a pos.line X.env = pure false := by rfl) (hw : swappedStores [.Tuple [x, .Starred y sp] k tp] a X.env = pure none := by rfl)
    (ha : (assignEach [.Tuple [x, .Starred y sp] k tp] X.env).map (fun x => x.2) = [assign (.Tuple [x, .Starred y sp] k tp) X.env] := by rfl) : PS X (.Assign [.Tuple [x, .Starred y sp] k tp] a pos) (tS (mx X xo) W (sOf f (sStar t1 t2))) :=
  PS.of (ps_asg he (pg_star hc (pg_consT h1 (pg_consT h2 pg_nilT hm3) hm2) hm hn hst) hs hw ha) fun D σ H ⟨F, Y, G, e, hE, q⟩ => sOf_ok hE q _ fun d e1 v G1 H1 E1 g r q1 => by
    unfold sStar at q1
    cases d with
    | tup ds =>
      cases ds with
      | nil => exact q1.elim
      | cons d1 ds =>
        simp only [] at q1
        by_cases hl : ds.length ≤ 1000
        · rw [if_pos hl] at q1
          obtain ⟨p, vs, rfl, h3, v1, vr, rfl, r1, r2⟩ := r
          refine ⟨p, v1, vr, rfl, E1.gh.st h3, by rw [r2.length]; exact hl, fun p2 hp2 => ?_⟩
          cases hs2 : asgs [t1, t2] [d1, .lst ds] e1 with
          | none => rw [hs2] at q1; exact q1.elim
          | some e2 =>
            rw [hs2] at q1
            have st := Stp.ofN E1 (Nw.new (o := .lst vr) E1.gh hp2)
            exact ⟨F, _, upd G1 p2 (.lst vr), e1, [d1, .lst ds], e2, st.env, ⟨v1, [.ref p2], rfl, Rp.mono st.gg _ _ r1, .ref p2, [], rfl, Rp.of_lst r2 (E1.gh.back hp2), rfl⟩, hs2, fun σ' E' _ => q1 _ σ' _ _ E' st.gro⟩
        · rw [if_neg hl] at q1; exact q1.elim
    | _ => exact q1.elim
end
end TF
/-! #### text TGd -/
set_option Elab.async false
set_option linter.all false
set_option maxRecDepth 100000
set_option maxHeartbeats 2000000
/-! TGd: comprehensions over a list of the frame's own; tuples of texts as globals. -/
namespace TF
open PySem L2 PySem.Spec PyProof.Rows
abbrev Kp (H1 : Hp) (Y : List Addr) (H : Hp) : Prop := ∀ a u, H1 a = some u → a ∉ Y → H a = some u
structure ItE (M : Mx) (G H1 : Hp) (Y : List Addr) (ds : List D) (J : It) : Prop where
  go : ∀ i d H, ds[i]? = some d → Ex G H → Kp H1 Y H → J.go i H
  yl : ∀ i d H x H', ds[i]? = some d → Ex G H → Kp H1 Y H → J.yld i H x H' → ∀ G1, Ex G G1 → Ex G1 H → ∃ G2, Nw G1 H G2 H' ∧ Rp M G2 d x
  st : ∀ H, Ex G H → Kp H1 Y H → J.stop ds.length H
def iE (M : Mx) (W : WX) (f : IX) : TI := fun σ H R => ∃ F Y G e, Env M F Y G H σ e ∧ match f e with
  | .stuck => False
  | .val ds e1 => ∀ J G1 H1, Stp M F Y G H σ e G1 H1 e1 → ItE M G1 H1 Y ds J → R J H1
  | .exc x e1 => ∀ cls a G' H', Stp M F Y G H σ e G' H' e1 → XcOk M F G' H' x cls a → W cls a σ H'
def iOwn (i : Nat) : IX := fun e => match e[i]? with
  | some (.ol ds) => .val ds e
  | _ => .stuck
theorem lc_okE {M : Mx} {W : WX} {own : List Nat} {i : IX} {t : Tg} {f el : EX} (ht : ∀ j ∈ t.sl, j ∈ own) (σ : L2.St) (H : Hp) (Q : VK) (h : tO M W (eLc own i t f el) σ H Q) : tLc (iE M W i) (gT M t) (tT M W0 f) (tD M W0 el) own σ H Q := by
  obtain ⟨F, Y, G, e, hE, q⟩ := h
  refine ⟨F, Y, G, e, hE, ?_⟩
  unfold eLc at q
  cases hf : i e with
  | stuck => rw [hf] at q; exact q
  | exc x e1 => rw [hf] at q; exact q
  | val ds e1 =>
    rw [hf] at q
    intro J G1 H1 s1 hJ p hp
    have hFp : F p = none := s1.env.fh.back hp
    have hGp : G1 p = none := s1.env.gh.back hp
    cases hc : cleanE own 0 e1 with
    | false => simp only [hc, Bool.false_eq_true, if_false] at q
    | true =>
      simp only [hc, if_true] at q
      have k0 : ∀ a u, H1 a = some u → a ∉ Y → upd H1 p (.lst []) a = some u := fun a u ha _ => by
        rw [upd_ne fun z => ?_]
        · exact ha
        · rw [z, hp] at ha; cases ha
      have q0 : OkL M F Y G1 H1 p (wipe σ own) own e1 Q (lcL own t f el ds [] (wipeE own 0 e1)) := by
        cases hl : lcL own t f el ds [] (wipeE own 0 e1) with
        | stuck => simp only [hl] at q
        | exc x e2 => simp only [hl] at q
        | val acc e2 =>
          simp only [hl] at q
          cases hc2 : cleanE own 0 e2 with
          | false => simp only [hc2, Bool.false_eq_true, if_false] at q
          | true =>
            simp only [hc2, if_true] at q
            refine ⟨hc2, fun vs G' H' E r hG g k => ?_⟩
            exact q p (.lst vs) G' H' (E.rest s1.env g.gg hc hc2) hFp hG (s1.gro.trans g) (fun a u ha ha2 => k a u (s1.kp a u ha ha2) ha2) ⟨vs, rfl, r⟩
      refine ⟨fun i k H2 => k + i = ds.length ∧ ∃ G2 e2 acc vs, Env M (upd F p (.lst vs)) Y G2 H2 (wipe σ own) e2 ∧ Rps M G2 acc vs ∧ G2 p = none ∧ Gro F G1 G2 ∧ (∀ a u, H1 a = some u → a ∉ Y → H2 a = some u) ∧ cleanE own 0 e2 = true ∧
        OkL M F Y G1 H1 p (wipe σ own) own e1 Q (lcL own t f el (ds.drop i) acc e2), ⟨ds.length, rfl, G1, wipeE own 0 e1, [], [], (s1.env.addF hp).wiped rfl, rfl, hGp, Gro.refl F G1, k0, clean_wipe, q0⟩, ?_⟩
      rintro i k H2 ⟨hk, G2, e2, acc, vs, E2, r2, hG2, g2, k2, c2, q2⟩
      by_cases hi : i < ds.length
      · refine .inr ⟨hJ.go i ds[i] H2 (List.getElem?_eq_getElem hi) (g2.gg.trans E2.gh) k2, fun H3 => ∃ G2 e2 acc vs, Env M (upd F p (.lst vs)) Y G2 H3 (wipe σ own) e2 ∧ Rps M G2 acc vs ∧ G2 p = none ∧ Gro F G1 G2 ∧ (∀ a u, H1 a = some u → a ∉ Y → H3 a = some u) ∧ cleanE own 0 e2 = true ∧
          OkL M F Y G1 H1 p (wipe σ own) own e1 Q (lcL own t f el (ds.drop (i + 1)) acc e2), ?_, ?_⟩
        · rintro H3 ⟨G3, z⟩
          exact ⟨k - 1, by omega, by omega, G3, z⟩
        · intro x H3 hy
          obtain ⟨G3, n3, r3⟩ := hJ.yl i ds[i] H2 x H3 (List.getElem?_eq_getElem hi) (g2.gg.trans E2.gh) k2 hy G2 g2.gg E2.gh
          rw [List.drop_eq_getElem_cons hi] at q2
          unfold lcL at q2
          cases ha : asg t ds[i] e2 with
          | none => simp only [ha] at q2; exact q2.elim
          | some e3 =>
            simp only [ha] at q2
            have E3 := E2.nw n3
            have hp3 : H2 p ≠ none := fun z => by
              have := E2.fh p _ upd_same
              rw [z] at this; cases this
            have hG3 : G3 p = none := by
              cases z : G3 p with
              | none => rfl
              | some o => exact ((n3.nw p (by rw [z]; exact fun y => nomatch y)).elim (fun y => y hG2) fun y => hp3 y).elim
            have k3 : ∀ a u, H1 a = some u → a ∉ Y → H3 a = some u := fun a u h1 h2 => n3.hh a u (k2 a u h1 h2)
            have g3 : Gro F G1 G3 := g2.trans (n3.gro ((Ex.new hFp).trans E2.fh))
            refine ⟨upd F p (.lst vs), Y, G3, e2, ds[i], e3, E3, r3, ha, fun σ4 E4 ch => ?_⟩
            have hw : wipe σ4 own = wipe σ own := by
              rw [ch own ht]
              apply List.ext_getElem?
              intro j
              rw [wipe_at, wipe_at]
              by_cases hj : j ∈ own
              · rw [if_pos hj, if_pos hj, Option.map_map]; rfl
              · rw [if_neg hj, if_neg hj]
            refine ⟨hw, upd F p (.lst vs), Y, G3, e3, E4, ?_⟩
            have hl : acc.length = vs.length := r2.length.symm
            cases hf2 : f e3 with
            | stuck => simp only [hf2] at q2; exact q2.elim
            | exc x e4 => simp only [hf2] at q2; exact q2.elim
            | val d e4 =>
              simp only [hf2] at q2
              cases d with
              | bl b =>
                intro G4 H4 s4
                have k4 : ∀ a u, H1 a = some u → a ∉ Y → H4 a = some u := fun a u h1 h2 => s4.kp a u (k3 a u h1 h2) h2
                have g4 := g3.trans s4.gro.unF
                have hG4 := s4.gro.noP hG3
                have r4 := Rps.mono (n3.gg.trans s4.gg) _ _ r2
                cases b with
                | false =>
                  simp only [Bool.false_eq_true, if_false] at q2 ⊢
                  cases hc4 : cleanE own 0 e4 with
                  | false => simp only [hc4, Bool.false_eq_true, if_false] at q2; exact q2.elim
                  | true =>
                    simp only [hc4, if_true] at q2
                    exact ⟨G4, wipeE own 0 e4, acc, vs, s4.env.wiped hw, r4, hG4, g4, k4, clean_wipe, q2⟩
                | true =>
                  simp only [if_true] at q2 ⊢
                  refine ⟨upd F p (.lst vs), Y, G4, e4, s4.env, ?_⟩
                  cases hel : el e4 with
                  | stuck => simp only [hel] at q2; exact q2.elim
                  | exc x e5 => simp only [hel] at q2; exact q2.elim
                  | val y e5 =>
                    simp only [hel] at q2
                    cases hc5 : (cleanE own 0 e5 && decide (acc.length < szB)) with
                    | false => simp only [hc5, Bool.false_eq_true, if_false] at q2; exact q2.elim
                    | true =>
                      simp only [hc5, if_true] at q2
                      simp only [Bool.and_eq_true, decide_eq_true_eq] at hc5
                      intro v G5 H5 s5 r5
                      have hG5 := s5.gro.noP hG4
                      refine ⟨vs, s5.env.fh p _ upd_same, by rw [← hl]; exact Nat.lt_of_lt_of_le hc5.2 (by decide), G5, wipeE own 0 e5, acc ++ [y], vs ++ [v], (s5.env.swapF hFp hG5).wiped hw, (Rps.mono s5.gg _ _ r4).append (Rps.one r5), hG5, g4.trans s5.gro.unF, fun a u h1 h2 => ?_, clean_wipe, q2⟩
                      rw [upd_ne fun z => ?_]
                      · exact s5.kp a u (k4 a u h1 h2) h2
                      · rw [z, hp] at h1; cases h1
              | _ => simp only at q2; exact q2.elim
      · have hi2 : i = ds.length := by omega
        subst hi2
        rw [List.drop_length] at q2
        exact .inl ⟨hJ.st H2 (g2.gg.trans E2.gh) k2, q2.2 vs G2 H2 E2 r2 hG2 g2 k2⟩
section
variable {X : Cx} {xo : Xo} {W : WX} {tg : Expr} {f el : EX} {pos : Pos}
theorem pi_ownE {i : Nat} {x : Str} (hN : X.N[i]? = some x) (hv : Vis X.env.scope x) (hdb : (x == ("__debug__" : Str)) = false) (hcd : (x == ("__classdict__" : Str)) = false) : PI X tg (.Name x pos) (iE (mx X xo) W (iOwn i)) := ⟨fun pins s σ H R I ⟨F, Y, G, e, hE, q⟩ => by
  unfold iOwn at q
  cases hs : e[i]? with
  | none => rw [hs] at q; exact q.elim
  | some z =>
    rw [hs] at q
    cases z with
    | ol ds =>
      obtain ⟨o, fp, h1, h2, h3, h4⟩ := hE.slot hs
      obtain ⟨p, vs, rfl, rfl, h5, h6⟩ := h2
      refine (pi_list (pe_var hN hv hdb hcd)).run pins s σ H R I ⟨.ref p, h1, p, rfl, ⟨vs, .inl (.inl h5)⟩, q _ G H (Stp.refl hE) ?_⟩
      have hY : p ∉ Y := fun hy => by
        have := (h4 p List.mem_cons_self).mpr hy
        cases this
      refine ⟨fun j d H2 hd g k => ?_, fun j d H2 x H3 hd g k ⟨e3, hx⟩ G1 g1 g2 => ?_, fun H2 g k => ⟨vs, .inl (.inl (k p _ h5 hY)), Nat.le_of_eq h6.length⟩⟩
      · obtain ⟨v, hv2, _⟩ := h6.get hd
        exact ⟨vs, v, .inl (.inl (k p _ h5 hY)), hv2⟩
      · subst e3
        obtain ⟨v, hv2, rv⟩ := h6.get hd
        have := hx vs (.inl (.inl (k p _ h5 hY)))
        rw [hv2] at this
        cases this
        exact ⟨G1, Nw.refl g2, Rp.mono g1 _ _ rv⟩
    | _ => exact q.elim⟩
theorem pe_lcE {elt it : Expr} {ifs : List Expr} {scope : Scope} (own : List (Str × Nat)) {i : IX} {t : Tg} (hc : X.calm = true) (hN : X.N.Nodup) (hi : PI X tg it (iE (mx X xo) W i)) (ok : BlkOk X.N X.env.scope scope own) (ht : ∀ j ∈ t.sl, j ∈ own.map (·.2))
    (hg : ∀ (s : Shared) (H : Hp) (C : Addr) (cl : List (Str × Addr)) (fp : List Addr), PG (X.blk s H scope (compEnvC scope cl C X.env) fp) tg (gT (mx X xo) t)) (hf : ∀ (s : Shared) (H : Hp) (C : Addr) (cl : List (Str × Addr)) (fp : List Addr), PTs (X.blk s H scope (compEnvC scope cl C X.env) fp) ifs (tT (mx X xo) W0 f))
    (he : ∀ (s : Shared) (H : Hp) (C : Addr) (cl : List (Str × Addr)) (fp : List Addr), PE (X.blk s H scope (compEnvC scope cl C X.env) fp) elt (tD (mx X xo) W0 el)) (hs : ∀ x, foldedSetIterable it X.env x = pure x := by intro _; rfl) :
    PE X (.ListComp elt [⟨tg, it, ifs, 0⟩] scope pos) (tO (mx X xo) W (eLc (own.map (·.2)) i t f el)) := PE.of (pe_lc hc hN hi ok hg hf he hs) (lc_okE ht)
end
/-! ### a global that is a tuple of texts -/
def strsB : List Value → List Str → Bool
  | [], [] => true
  | .str x _ :: r, y :: ys => decide (x = y) && strsB r ys
  | _, _ => false
theorem strsB_ok : ∀ {us : List Value} {ys : List Str}, strsB us ys = true → Vals (ys.map V.str) us
  | [], [], _ => .nil
  | .str x t :: r, y :: ys, h => by
    have h' : (decide (x = y) && strsB r ys) = true := h
    rw [Bool.and_eq_true, decide_eq_true_eq] at h'
    exact .cons ⟨t, by rw [h'.1]⟩ (strsB_ok h'.2)
def tupsB (K : PySem.W.Frag) (x : Str) (ys : List Str) : Bool := match PySem.W.nsIn K mainGlobals x with
  | some (some (.ref a)) => (match K.lookup a with
    | some o => decide (o.cls = .type "tuple") && (match o.data with
      | .seq its n => decide (its.size ≤ 1000) && strsB its.toList ys
      | _ => false)
    | none => false)
  | _ => false
theorem rps_ofStrs {M : Mt} {G : Hp} : ∀ ys : List Str, Rps M G (ys.map D.str) (ys.map V.str)
  | [] => rfl
  | y :: ys => ⟨_, _, rfl, rfl, rps_ofStrs ys⟩
theorem GlC.tups {P : Program} {w : World} {K : PySem.W.Frag} {mg : Str → Option Value} {h : Heap} {x : Str} {ys : List Str} (KX : K.In h) (G : h.Ns mainGlobals mg) (c : tupsB K x ys = true) : GlC P w K mg x (.tup (ys.map D.str)) := by
  unfold tupsB at c
  cases e : PySem.W.nsIn K mainGlobals x with
  | none => rw [e] at c; cases c
  | some o1 =>
    rw [e] at c
    cases o1 with
    | none => cases c
    | some u =>
      cases u with
      | ref a =>
        simp only [] at c
        cases e2 : K.lookup a with
        | none => rw [e2] at c; cases c
        | some o =>
          rw [e2] at c
          simp only [Bool.and_eq_true, decide_eq_true_eq] at c
          obtain ⟨c1, c2⟩ := c
          cases e3 : o.data with
          | seq its n =>
            rw [e3] at c2
            simp only [Bool.and_eq_true, decide_eq_true_eq] at c2
            exact ⟨_, .ref a, PySem.W.mg_of KX G e, rfl, fun G1 => ⟨a, _, rfl, .inr ⟨o, its, n, e2, c1, e3, by rw [sizeLine_eq]; omega, strsB_ok c2.2⟩, rps_ofStrs ys⟩⟩
          | _ => rw [e3] at c2; cases c2
      | _ => cases c
end TF
/-! #### text PL1 -/
set_option Elab.async false
set_option linter.all false
set_option maxRecDepth 100000
set_option maxHeartbeats 2000000
/-! PL1: plain laws of the source's defs (laws that begin with _law_mix). -/
namespace TF
open PySem L2
def mixSt (st c : Int) : Int := (st * 48271 + c % 2147483629 + 1) % 2147483647
def mixR (ns : List Int) (seed : Int) : Option Int := some (ns.foldl mixSt seed)
def mMix : SX := (sSeq (sOf (eV 1) (sAsg (.nm 2))) (sFor (iRaw 0) (.nm 3) (sOf (e2 dMod (eN dInt [(e2 dAdd (e2 dAdd (e2 dMulI (eW 2) (eC (.int 48271))) (e2 dMod (eN dInt [(eW 3)]) (eC (.int 2147483629)))) (eC (.int 1)))]) (eC (.int 2147483647))) (sAsg (.nm 2)))))
theorem ok48271 (i : Int) : (okBits i || okBits 48271) = true := by
  rw [show okBits 48271 = true from by decide +kernel, Bool.or_true]
theorem mix_for (ns : List Int) (sd : S) : ∀ (cs : List Int) (st : Int) (x : S), ∃ x', forL (.nm 3) (sOf (e2 dMod (eN dInt [(e2 dAdd (e2 dAdd (e2 dMulI (eW 2) (eC (.int 48271))) (e2 dMod (eN dInt [(eW 3)]) (eC (.int 2147483629)))) (eC (.int 1)))]) (eC (.int 2147483647))) (sAsg (.nm 2))) (cs.map D.int) [.raw ns, sd, .fz (.int st), x] = .nx [.raw ns, sd, .fz (.int (cs.foldl mixSt st)), x']
  | [], st, x => ⟨x, rfl⟩
  | c :: cs, st, x => by
    obtain ⟨x', h⟩ := mix_for ns sd cs (mixSt st c) (.fz (.int c))
    refine ⟨x', ?_⟩
    rw [List.foldl_cons]
    refine Eq.trans ?_ h
    rw [List.map_cons, forL]
    simp [asg, sOf, sAsg, e2, eN, evs, eW, eC, Rx.bind, Rx.of, dMulI, ok48271, dMod, dInt, dAdd, mixSt]
theorem mix_law (m : SX) (g : EX) (hm : m = sSeq (sOf (eV 1) (sAsg (.nm 2))) (sSeq (sFor (iRaw 0) (.nm 3) (sOf (e2 dMod (eN dInt [(e2 dAdd (e2 dAdd (e2 dMulI (eW 2) (eC (.int 48271))) (e2 dMod (eN dInt [(eW 3)]) (eC (.int 2147483629)))) (eC (.int 1)))]) (eC (.int 2147483647))) (sAsg (.nm 2)))) sNext)) (hg : g = eV 2) (ns : List Int) (seed st : Int) (h : mixR ns seed = some st) :
    ∃ e, m (evMix 4 ns seed) = .nx e ∧ e[0]? = some (.raw ns) ∧ g e = .val (.int st) e := by
  subst hm hg
  cases h
  obtain ⟨x', h⟩ := mix_for ns (.fz (.int seed)) ns seed .un
  refine ⟨[.raw ns, .fz (.int seed), .fz (.int (ns.foldl mixSt seed)), x'], ?_, rfl, rfl⟩
  have e1 : (sOf (eV 1) (sAsg (.nm 2))) (evMix 4 ns seed) = .nx [.raw ns, .fz (.int seed), .fz (.int seed), .un] := rfl
  unfold sSeq
  rw [e1]
  show (match (match sFor (iRaw 0) (.nm 3) _ [.raw ns, .fz (.int seed), .fz (.int seed), .un] with
    | .nx e => sNext e
    | r => r) with
    | r => r) = _
  have e2 : ∀ b : SX, sFor (iRaw 0) (.nm 3) b [.raw ns, .fz (.int seed), .fz (.int seed), .un] = forL (.nm 3) b (ns.map D.int) [.raw ns, .fz (.int seed), .fz (.int seed), .un] := fun _ => rfl
  rw [e2, h]
  rfl
end TF
/-! #### text PL2 -/
set_option Elab.async false
set_option linter.all false
set_option maxRecDepth 100000
set_option maxHeartbeats 2000000
/-! PL2: plain law of _law_next. -/
namespace TF
open PySem L2
def mNext : SX := (sSeq (sOf (e2 dIx (eSrcCat 0) (e2 dMod (eN dInt [(eSrcK 0 2)]) (eN dMax2 [(eC (.int 1)), (eSrcLen 0)]))) (sAsg (.nm 2)))
  (sSeq (sIf (e2 dGe (eW 2) (e2 dPow (eC (.int 10)) (eC (.int 18)))) (sSeq (sOf (e2 dFdiv (eW 2) (eW 1)) (sSetCell 0 (e2 dMod (eN dInt [(eSrcK 0 2)]) (eSrcLen 0))))
  (sOf (e2 dMod (eN dInt [(eW 2)]) (eW 1)) sRet)) sNext)
  (sSeq (sOf (e2 dMod (eN dInt [(e2 dAdd (e2 dAdd (e2 dMulI (eSrcK 0 0) (eC (.int 48271))) (e2 dMulI (eW 2) (eC (.int 69621)))) (eC (.int 11)))]) (eC (.int 2147483647))) (sSetSrc 0 0))
  (sSeq (sOf (e2 dAdd (eSrcK 0 2) (eC (.int 1))) (sSetSrc 0 2))
  (sOf (e2 dMod (eN dInt [(e2 dFdiv (eSrcK 0 0) (eC (.int 7)))]) (eW 1)) sRet)))))
/-- how many cells the place is taken by -/
def nxN (s : Src) : Int := if (s.cells.length : Int) > 1 then s.cells.length else 1
def nxK (s : Src) : Nat := (s.ix % nxN s).toNat
def nxC (s : Src) : Int := ((s.cells ++ [0])[nxK s]?).getD 0
def nextS (s : Src) (lim : Int) : Int × Src :=
  if nxC s ≥ 10 ^ 18 then (nxC s % lim, { s with cells := s.cells.set (nxK s) (nxC s / lim) })
  else (((s.st * 48271 + nxC s * 69621 + 11) % 2147483647) / 7 % lim, ⟨(s.st * 48271 + nxC s * 69621 + 11) % 2147483647, s.cells, s.ix + 1⟩)
def nextR (s : Src) (ds : List D) : Option (D × Src) := match ds with
  | [.int lim] => if 0 < lim ∧ lim < 1073741824 ∧ s.cells.length ≤ 1000 then some (.int (nextS s lim).1, (nextS s lim).2) else none
  | _ => none
theorem ok69621 (i : Int) : (okBits i || okBits 69621) = true := by
  rw [show okBits 69621 = true from by decide +kernel, Bool.or_true]
theorem nxK_lt (s : Src) : nxK s < (s.cells ++ [0]).length ∧ (s.ix % nxN s) = (nxK s : Int) := by
  have hn : 0 < nxN s := by unfold nxN; split <;> omega
  have h1 := Int.emod_nonneg s.ix (by omega : nxN s ≠ 0)
  have h2 := Int.emod_lt_of_pos s.ix hn
  have h3 : nxN s ≤ s.cells.length + 1 := by unfold nxN; split <;> omega
  unfold nxK
  rw [List.length_append, List.length_singleton]
  constructor
  · omega
  · omega
theorem nx_cell (s : Src) : dAt ((s.cells ++ [0]).map D.int) (s.ix % nxN s) = some (.int (nxC s)) := by
  obtain ⟨h1, h2⟩ := nxK_lt s
  unfold dAt
  rw [h2, if_pos (by omega), Int.toNat_natCast, List.getElem?_map, List.getElem?_eq_getElem h1]
  unfold nxC
  rw [List.getElem?_eq_getElem h1]
  rfl
theorem next_law (p q : Addr) (s : Src) (ds : List D) (d : D) (s' : Src) (hl : ds.length = 1) (h : nextR s ds = some (d, s')) : ∃ e, mNext (evS 3 p q s ds) = .ret d e ∧ e[0]? = some (.src p q s'.st s'.cells s'.ix) := by
  unfold nextR at h
  split at h
  · rename_i lim
    split at h
    · rename_i hb
      obtain ⟨b1, b2, b3⟩ := hb
      cases h
      have e0 : evS 3 p q s [.int lim] = [.src p q s.st s.cells s.ix, .fz (.int lim), .un] := rfl
      rw [e0]
      have hmx : (if (s.cells.length : Int) > 1 then (s.cells.length : Int) else 1) = nxN s := rfl
      have hn : 0 < nxN s := by unfold nxN; split <;> omega
      have hc := nx_cell s
      have st1 : (sOf (e2 dIx (eSrcCat 0) (e2 dMod (eN dInt [(eSrcK 0 2)]) (eN dMax2 [(eC (.int 1)), (eSrcLen 0)]))) (sAsg (.nm 2))) [.src p q s.st s.cells s.ix, .fz (.int lim), .un] = .nx [.src p q s.st s.cells s.ix, .fz (.int lim), .fz (.int (nxC s))] := by
        simp [asg, sOf, sAsg, e2, eN, evs, eW, eC, Rx.bind, Rx.of, dMod, dInt, dMax2, eSrcK, eSrcLen, eSrcCat, b3, hmx, hn, dIx]
        simp [List.map_append] at hc
        rw [hc]
        rfl
      have tst : (e2 dGe (eW 2) (e2 dPow (eC (.int 10)) (eC (.int 18)))) [.src p q s.st s.cells s.ix, .fz (.int lim), .fz (.int (nxC s))] = .val (.bl (decide (nxC s ≥ 10 ^ 18))) [.src p q s.st s.cells s.ix, .fz (.int lim), .fz (.int (nxC s))] := by
        simp [e2, eW, eC, Rx.bind, Rx.of, dGe, dPow]
      unfold mNext
      rw [show ∀ (a b : SX) (e : Ev), sSeq a b e = (match a e with | .nx e1 => b e1 | r => r) from fun _ _ _ => rfl, st1]
      by_cases hg : nxC s ≥ 10 ^ 18
      · have hlen : 1 ≤ s.cells.length := by
          cases hcl : s.cells with
          | nil =>
            exfalso
            have hk : nxK s = 0 := by
              have := (nxK_lt s).1
              rw [hcl] at this
              simpa using this
            unfold nxC at hg
            rw [hcl, hk] at hg
            simp at hg
          | cons c r => simp
        have hN : nxN s = (s.cells.length : Int) := by unfold nxN; split <;> omega
        have hkl : nxK s < s.cells.length := by
          have h1 := (nxK_lt s).2
          have h2 := Int.emod_lt_of_pos s.ix hn
          rw [h1, hN] at h2
          omega
        have hix : s.ix % (s.cells.length : Int) = (nxK s : Int) := by rw [← hN]; exact (nxK_lt s).2
        rw [decide_eq_true hg] at tst
        have r : nextS s lim = (nxC s % lim, { s with cells := s.cells.set (nxK s) (nxC s / lim) }) := if_pos hg
        rw [r]
        refine ⟨[.src p q s.st (s.cells.set (nxK s) (nxC s / lim)) s.ix, .fz (.int lim), .fz (.int (nxC s))], ?_, rfl⟩
        simp [sSeq, sIf, sTest, tst]
        have hlp : 0 < s.cells.length := hlen
        simp [sOf, sRet, sSetCell, e2, eN, evs, eW, eC, Rx.bind, Rx.of, dMod, dFdiv, dInt, eSrcK, eSrcLen, b1, b2, hix, hkl, hlp]
      · rw [decide_eq_false hg] at tst
        have r : nextS s lim = (((s.st * 48271 + nxC s * 69621 + 11) % 2147483647) / 7 % lim, ⟨(s.st * 48271 + nxC s * 69621 + 11) % 2147483647, s.cells, s.ix + 1⟩) := if_neg hg
        rw [r]
        refine ⟨[.src p q ((s.st * 48271 + nxC s * 69621 + 11) % 2147483647) s.cells (s.ix + 1), .fz (.int lim), .fz (.int (nxC s))], ?_, rfl⟩
        simp [sSeq, sIf, sTest, tst, sNext]
        simp [sOf, sRet, sSetSrc, setSrc, e2, eN, evs, eW, eC, Rx.bind, Rx.of, dMod, dFdiv, dInt, dAdd, dMulI, ok48271, ok69621, eSrcK, b1, b2]
    · cases h
  · cases h
end TF
/-! #### text PL3 -/
set_option Elab.async false
set_option linter.all false
set_option maxRecDepth 100000
set_option maxHeartbeats 2000000
/-! PL3: plain law of _law_alike: a thing is like itself. -/
namespace TF
open PySem L2
def mAlike (rr : List D → Rv) : SX := (sSeq (sIf (eIsi ["dict"] (eW 1)) (sOf (eAnd (eIsi ["dict"] (eW 0)) (eAnd (eCall rr [(eN dSorted [(eW 0)]), (eN dSorted [(eW 1)])]) (e2 dEq (eW 0) (eW 1)))) sRet) sNext)
  (sSeq (sIf (eIsi ["tuple", "list"] (eW 1)) (sSeq (sIf (eOr (eNot (eIsi ["tuple", "list"] (eW 0))) (e2 dNe (eIsi ["list"] (eW 0)) (eIsi ["list"] (eW 1)))) (sOf (eC (.bl false)) sRet) sNext)
  (sSeq (sIf (e2 dNe (eN dLen [(eW 0)]) (eN dLen [(eW 1)])) (sOf (eC (.bl false)) sRet) sNext)
  (sOf (e2 dEq (eLc (List.map (·.2) ([("_law_k", 2)] : List (Str × Nat))) (iR1 (eN dLen [(eW 1)])) (.nm 2) (eNot (eCall rr [(e2 dIx (eW 0) (eW 2)), (e2 dIx (eW 1) (eW 2))])) (eV 2)) (eN mkL [])) sRet))) sNext)
  (sSeq (sIf (eOr (e2 dIsN (eW 1) (eC .non)) (eIsi ["str"] (eW 1))) (sOf (eAnd (e2 dEq (eW 0) (eW 1)) (e2 dEq (eIsi ["str"] (eW 0)) (eIsi ["str"] (eW 1)))) sRet) sNext)
  (sOf (eAnd (eIsi ["int"] (eW 0)) (eAnd (e2 dEq (eIsi ["bool"] (eW 0)) (eIsi ["bool"] (eW 1))) (e2 dEq (eW 0) (eW 1)))) sRet))))
theorem alike_int (rr : List D → Rv) (i : Int) : runD (mAlike rr) 3 [.int i, .int i] = .ret (.bl true) := by
  simp [runD, mAlike, ev0, sSeq, sIf, sTest, sOf, sRet, sNext, eIsi, eAnd, eOr, eNot, eTest, e2, eW, eC, Rx.bind, Rx.of, tyS, isiB, dEq, dIsN, pl2, D.pl, deq]
theorem alike_str (rr : List D → Rv) (i : Str) (h : PyData.strOk i = true) : runD (mAlike rr) 3 [.str i, .str i] = .ret (.bl true) := by
  simp [h, runD, mAlike, ev0, sSeq, sIf, sTest, sOf, sRet, sNext, eIsi, eAnd, eOr, eNot, eTest, e2, eW, eC, Rx.bind, Rx.of, tyS, isiB, dEq, dIsN, pl2, D.pl, deq]
theorem alike_bl (rr : List D → Rv) (i : Bool) : runD (mAlike rr) 3 [.bl i, .bl i] = .ret (.bl true) := by
  simp [runD, mAlike, ev0, sSeq, sIf, sTest, sOf, sRet, sNext, eIsi, eAnd, eOr, eNot, eTest, e2, eW, eC, Rx.bind, Rx.of, tyS, isiB, dEq, dIsN, pl2, D.pl, deq]
theorem alike_non (rr : List D → Rv) : runD (mAlike rr) 3 [.non, .non] = .ret (.bl true) := by
  simp [runD, mAlike, ev0, sSeq, sIf, sTest, sOf, sRet, sNext, eIsi, eAnd, eOr, eNot, eTest, e2, eW, eC, Rx.bind, Rx.of, tyS, isiB, dEq, dIsN, pl2, D.pl, deq]
end TF
/-! #### text PL4 -/
set_option Elab.async false
set_option linter.all false
set_option maxRecDepth 100000
set_option maxHeartbeats 2000000
/-! PL4: _law_alike of sequences. -/
namespace TF
open PySem L2
def alF (rr : List D → Rv) : EX := eNot (eCall rr [(e2 dIx (eW 0) (eW 2)), (e2 dIx (eW 1) (eW 2))])
theorem al_loop (rr : List D → Rv) (a : D) (n : Nat) (ha : ∀ i : Nat, i < n → ∃ d, dIx a (.int i) = some d ∧ rr [d, d] = .ret (.bl true)) : ∀ (is : List Nat), (∀ i ∈ is, i < n) →
    lcL [2] (.nm 2) (alF rr) (eV 2) (is.map fun (i : Nat) => D.int (0 + (i : Int))) [] [.fz a, .fz a, .un] = .val [] [.fz a, .fz a, .un]
  | [], _ => rfl
  | i :: is, h => by
    obtain ⟨d, h1, h2⟩ := ha i (h i List.mem_cons_self)
    have ih := al_loop rr a n ha is fun j hj => h j (List.mem_cons_of_mem _ hj)
    rw [List.map_cons, lcL]
    have e1 : asg (.nm 2) (D.int (0 + (i : Int))) [S.fz a, S.fz a, S.un] = some [S.fz a, S.fz a, S.fz (.int i)] := by simp [asg]
    have e2' : alF rr [S.fz a, S.fz a, S.fz (.int i)] = .val (.bl false) [S.fz a, S.fz a, S.fz (.int i)] := by
      simp [alF, eNot, eTest, eCall, evs, e2, eW, eC, Rx.bind, Rx.of, Rx.ofRv, h1, h2]
    rw [e1]
    simp only [e2']
    have e3 : cleanE [2] 0 [S.fz a, S.fz a, S.fz (.int i)] = true := rfl
    have e4 : wipeE [2] 0 [S.fz a, S.fz a, S.fz (.int i)] = [S.fz a, S.fz a, S.un] := rfl
    rw [e3, e4, if_pos rfl]
    exact ih
theorem al_lc (rr : List D → Rv) (a : D) (n : Nat) (hn : n ≤ 1000) (hlen : dLen [a] = some (.int n)) (ha : ∀ i : Nat, i < n → ∃ d, dIx a (.int i) = some d ∧ rr [d, d] = .ret (.bl true)) :
    eLc (List.map (·.2) ([("_law_k", 2)] : List (Str × Nat))) (iR1 (eN dLen [(eW 1)])) (.nm 2) (alF rr) (eV 2) [.fz a, .fz a, .un] = .val (.lst []) [.fz a, .fz a, .un] := by
  have hb : bigI (n : Int) = true := by unfold bigI; simp; omega
  have e1 : iR1 (eN dLen [(eW 1)]) [S.fz a, S.fz a, S.un] = .val (rangeD 0 n) [.fz a, .fz a, .un] := by
    simp [iR1, eN, evs, eW, hlen, Rx.of, hb]
  have e2' : rangeD 0 (n : Int) = (List.range n).map fun (i : Nat) => D.int (0 + (i : Int)) := by
    unfold rangeD
    simp
  unfold eLc
  rw [e1]
  have own : (List.map (·.2) ([("_law_k", 2)] : List (Str × Nat))) = [2] := rfl
  simp only [own]
  have e3 : cleanE [2] 0 [S.fz a, S.fz a, S.un] = true := rfl
  have e4 : wipeE [2] 0 [S.fz a, S.fz a, S.un] = [S.fz a, S.fz a, S.un] := rfl
  rw [e3, e4, if_pos rfl, e2', al_loop rr a n ha _ fun i hi => List.mem_range.mp hi]
  rfl
end TF
/-! #### text PLa -/
set_option Elab.async false
set_option linter.all false
set_option maxRecDepth 100000
set_option maxHeartbeats 2000000
/-! PLa: evaluating the mirrors step by step. -/
namespace TF
open PySem L2
section
variable {e e1 e2' : Ev} {f g h : EX} {d d1 d2 d3 : D} {i : Nat} {fs : List EX} {ds : List D} {b c : Bool} {k : D → D → Option D} {kn : List D → Option D} {r : List D → Rv} {x : Xc} {a m n : SX} {o : Out}
theorem vC : eC d e = .val d e := rfl
theorem vV (h : e[i]? = some (.fz d)) : eV i e = .val d e := by unfold eV; rw [h]
theorem vW' (h : e[i]? = some (.fz d)) : eW i e = .val d e := by unfold eW; rw [h]
theorem v2 (h1 : f e = .val d1 e1) (h2 : g e1 = .val d2 e2') (h3 : k d1 d2 = some d) : e2 k f g e = .val d e2' := by
  unfold e2; rw [h1]; simp only [Rx.bind]; rw [h2]; simp only [Rx.bind]; rw [h3]; rfl
theorem vs0 : evs [] e = .val [] e := rfl
theorem vsC (h1 : f e = .val d e1) (h2 : evs fs e1 = .val ds e2') : evs (f :: fs) e = .val (d :: ds) e2' := by
  unfold evs; rw [h1]; simp only []; rw [h2]
theorem vN (h1 : evs fs e = .val ds e1) (h2 : kn ds = some d) : eN kn fs e = .val d e1 := by unfold eN; rw [h1]; simp only []; rw [h2]; rfl
theorem vNot (h : f e = .val (.bl b) e1) : eNot f e = .val (.bl (!b)) e1 := by unfold eNot eTest; rw [h]; rfl
theorem vAnd (h : f e = .val (.bl b) e1) (h2 : b = true → g e1 = .val (.bl c) e1) : eAnd f g e = .val (.bl (b && c)) e1 := by
  unfold eAnd eTest; rw [h]; cases b with
  | true => exact h2 rfl
  | false => rfl
theorem vOr (h : f e = .val (.bl b) e1) (h2 : b = false → g e1 = .val (.bl c) e1) : eOr f g e = .val (.bl (b || c)) e1 := by
  unfold eOr eTest; rw [h]; cases b with
  | true => rfl
  | false => exact h2 rfl
theorem vIfT (h : f e = .val (.bl true) e1) (h2 : g e1 = .val d e2') : eIf f g h' e = .val d e2' := by unfold eIf eTest; rw [h]; exact h2
theorem vIfF (h : f e = .val (.bl false) e1) (h2 : g e1 = .val d e2') : eIf f h' g e = .val d e2' := by unfold eIf eTest; rw [h]; exact h2
theorem vCall (h1 : evs fs e = .val ds e1) (h2 : r ds = .ret d) : eCall r fs e = .val d e1 := by unfold eCall; rw [h1]; simp only []; rw [h2]; rfl
theorem xCall (h1 : evs fs e = .val ds e1) (h2 : r ds = .exc x) : eCall r fs e = .exc x e1 := by unfold eCall; rw [h1]; simp only []; rw [h2]; rfl
theorem vMake {cc : Str} {fl : List D} (h1 : evs fs e = .val ds e1) (h2 : r ds = .ret (.obj cc fl)) : eMake cc r fs e = .val (.obj cc fl) e1 := by unfold eMake; rw [h1]; simp only []; rw [h2]; simp only []; rw [if_pos trivial]
theorem xMake {cc : Str} (h1 : evs fs e = .val ds e1) (h2 : r ds = .exc x) : eMake cc r fs e = .exc x e1 := by unfold eMake; rw [h1]; simp only []; rw [h2]
theorem vAttr {cc : Str} {fl : List D} {j : Nat} (h1 : f e = .val (.obj cc fl) e1) (h2 : fl[j]? = some d) : eAttr cc j f e = .val d e1 := by unfold eAttr; rw [h1]; simp only [Rx.bind]; rw [if_pos trivial, h2]; rfl
theorem vProp {cc : Str} {fl : List D} (h1 : f e = .val (.obj cc fl) e1) (h2 : r [.obj cc fl] = .ret d) : eProp cc r f e = .val d e1 := by unfold eProp; rw [h1]; simp only [Rx.bind]; rw [if_pos trivial, h2]
theorem vMeth {cc : Str} {fl : List D} (h1 : f e = .val (.obj cc fl) e1) (h2 : evs fs e1 = .val ds e2') (h3 : r (.obj cc fl :: ds) = .ret d) : eMeth cc r f fs e = .val d e2' := by
  unfold eMeth; rw [h1]; simp only [Rx.bind]; rw [if_pos trivial, h2]; simp only []; rw [h3]; rfl
theorem xMeth {cc : Str} {fl : List D} (h1 : f e = .val (.obj cc fl) e1) (h2 : evs fs e1 = .val ds e2') (h3 : r (.obj cc fl :: ds) = .exc x) : eMeth cc r f fs e = .exc x e2' := by
  unfold eMeth; rw [h1]; simp only [Rx.bind]; rw [if_pos trivial, h2]; simp only []; rw [h3]; rfl
theorem vIsi {Ts : List String} {t : String} (h1 : f e = .val d e1) (h2 : tyS d = some t) : eIsi Ts f e = .val (.bl (Ts.any (isiB t))) e1 := by unfold eIsi; rw [h1]; simp only [Rx.bind]; rw [h2]; rfl
theorem vCallS {rs : Src → List D → Option (D × Src)} {p q : Addr} {s s' : Src} (h1 : evs fs (e.set i (.src p q s.st s.cells s.ix)) = .val ds e1) (he1 : e1[i]? = some (.src p q s.st s.cells s.ix)) (hi : (e.set i (.src p q s.st s.cells s.ix))[i]? = some (.src p q s.st s.cells s.ix)) (h2 : rs s ds = some (d, s')) :
    eCallS rs i fs (e.set i (.src p q s.st s.cells s.ix)) = .val d (e1.set i (.src p q s'.st s'.cells s'.ix)) := by
  unfold eCallS; rw [hi]; simp only []; rw [h1]; simp only []; rw [he1]; simp only [ite_true]
  rw [show (⟨s.st, s.cells, s.ix⟩ : Src) = s from rfl, h2]
theorem vCallS1 {rs : Src → List D → Option (D × Src)} {p q : Addr} {s s' : Src} (hi : e[i]? = some (.src p q s.st s.cells s.ix)) (h1 : evs fs e = .val ds e1) (he1 : e1[i]? = some (.src p q s.st s.cells s.ix)) (h2 : rs s ds = some (d, s')) :
    eCallS rs i fs e = .val d (e1.set i (.src p q s'.st s'.cells s'.ix)) := by
  unfold eCallS; rw [hi]; simp only []; rw [h1]; simp only []; rw [he1]; simp only [ite_true]
  rw [show (⟨s.st, s.cells, s.ix⟩ : Src) = s from rfl, h2]
theorem vSl0 {hi : Option EX} {lo' : Option Int} (h1 : f e = .val d1 e1) {o : Rx} (h2 : (optB hi e1 fun h e3 => Rx.of (dSl d1 none h) e3) = o) : eSl f none hi e = o := by unfold eSl; rw [h1]; exact h2
theorem vJoin {z : Str} (h1 : f e = .val d1 e1) (h2 : dJoin (.str z) d1 = some d) : eJoin z f e = .val d e1 := by unfold eJoin; rw [h1]; simp only [Rx.bind]; rw [h2]; rfl
theorem vRev (h1 : f e = .val d1 e1) (h2 : dRev d1 = some d) : eRev f e = .val d e1 := by unfold eRev; rw [h1]; simp only [Rx.bind]; rw [h2]; rfl
-- statements
theorem sOf_v {kk : D → SX} (h : f e = .val d e1) : sOf f kk e = kk d e1 := by unfold sOf; rw [h]
theorem sOf_x {kk : D → SX} (h : f e = .exc x e1) : sOf f kk e = .exc x e1 := by unfold sOf; rw [h]
theorem stA (h : f e = .val d e1) : sOf f (sAsg (.nm i)) e = .nx (e1.set i (.fz d)) := by rw [sOf_v h]; rfl
theorem stA' {e3 : Ev} (h : f e = .val d e1) (h2 : e1.set i (.fz d) = e3) : sOf f (sAsg (.nm i)) e = .nx e3 := by rw [stA h, h2]
theorem stR (h : f e = .val d e1) : sOf f sRet e = .ret d e1 := by rw [sOf_v h]; rfl
theorem sq_nx (h : a e = .nx e1) (h2 : n e1 = o) : sSeq a n e = o := by unfold sSeq; rw [h]; exact h2
theorem sq_ret (h : a e = .ret d e1) : sSeq a n e = .ret d e1 := by unfold sSeq; rw [h]
theorem sq_exc (h : a e = .exc x e1) : sSeq a n e = .exc x e1 := by unfold sSeq; rw [h]
theorem si_t (h : f e = .val (.bl b) e1) (hb : b = true) (h2 : m e1 = o) : sIf f m n e = o := by subst hb; unfold sIf sTest; rw [h]; exact h2
theorem si_f (h : f e = .val (.bl b) e1) (hb : b = false) (h2 : n e1 = o) : sIf f m n e = o := by subst hb; unfold sIf sTest; rw [h]; exact h2
theorem popS_v {l0 dl : List D} {kk : Int} {y : D} (h0 : e[i]? = some (.sl l0)) (h1 : f e = .val (.int kk) e1) (h2 : e1[i]? = some (.sl dl)) (hk : 0 ≤ kk ∧ kk < 2 ^ 62) (h3 : dl[kk.toNat]? = some y) : ePopS i f e = .val y (e1.set i (.sl (dl.eraseIdx kk.toNat))) := by
  unfold ePopS; rw [h0]; simp only []; rw [h1]; simp only [Rx.bind]; rw [h2]; simp only []; rw [if_pos hk, h3]
theorem app_v {l0 dl : List D} (h0 : lstAt e i = some l0) (h1 : f e = .val d e1) (h2 : lstAt e1 i = some dl) (hk : dl.length < szB) : sApp i f e = .nx (putL e1 i (dl ++ [d])) := by
  unfold sApp; rw [h0]; simp only []; rw [sOf_v h1, h2]; simp only []; rw [if_pos hk]
theorem augS_v (h : e[i]? = some (.fz d)) (hs : scalD d = true) (h1 : f e = .val d2 e1) (h2 : dAdd d d2 = some d3) : sAugS i f e = .nx (e1.set i (.fz d3)) := by
  unfold sAugS; rw [h]; simp only []; rw [if_pos hs]; unfold sAug; rw [h]; simp only []; rw [sOf_v h1, h2]
theorem for_v {it : IX} {t : Tg} {bd : SX} (h : it e = .val ds e1) (h2 : forL t bd ds e1 = o) : sFor it t bd e = o := by unfold sFor; rw [h]; exact h2
theorem r1_v {nn : Int} (h : f e = .val (.int nn) e1) (hb : bigI nn = true) : iR1 f e = .val (rangeD 0 nn) e1 := by unfold iR1; rw [h]; simp only []; rw [if_pos hb]
theorem r2_v {mm nn : Int} (h1 : f e = .val (.int mm) e1) (h2 : g e1 = .val (.int nn) e2') (hb : (bigI mm && bigI nn) = true) : iR2 f g e = .val (rangeD mm nn) e2' := by unfold iR2; rw [h1]; simp only []; rw [h2]; simp only []; rw [if_pos hb]
theorem iof_v (h : f e = .val d e1) (h2 : itemsD d = some ds) : iOf f e = .val ds e1 := by unfold iOf; rw [h]; simp only []; rw [h2]
theorem enum_v {kk : Int} (h : f e = .val d e1) (h2 : itemsD d = some ds) : iEnum kk f e = .val (enumD kk ds) e1 := by unfold iEnum; rw [h]; simp only []; rw [h2]
theorem forL_nil {t : Tg} {bd : SX} : forL t bd [] e = .nx e := rfl
theorem forL_nx {t : Tg} {bd : SX} (h : asg t d e = some e1) (h2 : bd e1 = .nx e2') : forL t bd (d :: ds) e = forL t bd ds e2' := by rw [forL, h]; simp only []; rw [h2]
theorem forL_ret {t : Tg} {bd : SX} (h : asg t d e = some e1) (h2 : bd e1 = .ret d2 e2') : forL t bd (d :: ds) e = .ret d2 e2' := by rw [forL, h]; simp only []; rw [h2]
theorem forL_exc {t : Tg} {bd : SX} (h : asg t d e = some e1) (h2 : bd e1 = .exc x e2') : forL t bd (d :: ds) e = .exc x e2' := by rw [forL, h]; simp only []; rw [h2]
theorem forL_bk {t : Tg} {bd : SX} (h : asg t d e = some e1) (h2 : bd e1 = .bk e2') : forL t bd (d :: ds) e = .nx e2' := by rw [forL, h]; simp only []; rw [h2]
theorem forL_ct {t : Tg} {bd : SX} (h : asg t d e = some e1) (h2 : bd e1 = .ct e2') : forL t bd (d :: ds) e = forL t bd ds e2' := by rw [forL, h]; simp only []; rw [h2]
theorem sRaise_v {cc : Str} {ks : List Str} (h : evs fs e = .val ds e1) : sRaise cc ks fs e = .exc ⟨cc, some (ks.zip ds)⟩ e1 := by unfold sRaise; rw [h]
end
theorem dNe_int (i j : Int) : dNe (.int i) (.int j) = some (.bl (!(i == j))) := rfl
theorem dEq_int (i j : Int) : dEq (.int i) (.int j) = some (.bl (i == j)) := rfl
theorem dNe_bl (i j : Bool) : dNe (.bl i) (.bl j) = some (.bl (!(i == j))) := rfl
theorem dEq_bl (i j : Bool) : dEq (.bl i) (.bl j) = some (.bl (i == j)) := rfl
end TF
/-! #### text PL4c -/
set_option Elab.async false
set_option linter.all false
set_option maxRecDepth 100000
set_option maxHeartbeats 200000
/-! PL4c: _law_alike of a thing and itself. -/
namespace TF
open PySem L2
theorem alike_seq (rr : List D → Rv) (a : D) (t : String) (n : Nat) (ht : tyS a = some t) (h1 : ["dict"].any (isiB t) = false) (h2 : ["tuple", "list"].any (isiB t) = true) (hn : n ≤ 1000) (hlen : dLen [a] = some (.int n))
    (ha : ∀ i : Nat, i < n → ∃ d, dIx a (.int i) = some d ∧ rr [d, d] = .ret (.bl true)) : runD (mAlike rr) 3 [a, a] = .ret (.bl true) := by
  have key : mAlike rr [.fz a, .fz a, .un] = .ret (.bl true) [.fz a, .fz a, .un] := by
    unfold mAlike
    refine sq_nx (si_f (vIsi (vW' rfl) ht) h1 rfl) ?_
    refine sq_ret (si_t (vIsi (vW' rfl) ht) h2 ?_)
    refine sq_nx (si_f (vOr (vNot (vIsi (vW' rfl) ht)) fun _ => v2 (vIsi (vW' rfl) ht) (vIsi (vW' rfl) ht) (dNe_bl _ _)) (by rw [h2]; simp) rfl) ?_
    refine sq_nx (si_f (v2 (vN (vsC (vW' rfl) vs0) hlen) (vN (vsC (vW' rfl) vs0) hlen) (dNe_int _ _)) (by simp) rfl) ?_
    exact stR (v2 (al_lc rr a n hn hlen ha) (vN vs0 rfl) rfl)
  unfold runD
  rw [show ev0 3 [a, a] = [.fz a, .fz a, .un] from rfl, key]
def alkR : Nat → List D → Rv
  | 0 => fun _ => .stuck
  | k + 1 => runD (mAlike (alkR k)) 3
/-- plain, nested less than k deep, of at most 1000 items each -/
def D.lk : Nat → D → Bool
  | 0, _ => false
  | _ + 1, .non => true
  | _ + 1, .bl _ => true
  | _ + 1, .int _ => true
  | _ + 1, .str x => PyData.strOk x
  | k + 1, .tup ds => decide (ds.length ≤ 1000) && ds.all (D.lk k)
  | k + 1, .lst ds => decide (ds.length ≤ 1000) && ds.all (D.lk k)
  | _ + 1, _ => false
theorem dIx_at {ds : List D} {i : Nat} (h : i < ds.length) : dAt ds (i : Int) = some ds[i] := by
  unfold dAt
  rw [if_pos (by omega), Int.toNat_natCast, List.getElem?_eq_getElem h]
theorem alike_self : ∀ (k : Nat) (d : D), D.lk k d = true → alkR k [d, d] = .ret (.bl true)
  | 0, d, h => by cases d <;> cases h
  | k + 1, d, h => by
    show runD (mAlike (alkR k)) 3 [d, d] = _
    cases d with
    | non => exact alike_non _
    | bl b => exact alike_bl _ b
    | int i => exact alike_int _ i
    | str x => exact alike_str _ x h
    | tup ds =>
      have h' : (decide (ds.length ≤ 1000) && ds.all (D.lk k)) = true := h
      rw [Bool.and_eq_true, decide_eq_true_eq, List.all_eq_true] at h'
      exact alike_seq _ _ "tuple" ds.length rfl (by decide +kernel) (by decide +kernel) h'.1 rfl fun i hi => ⟨ds[i], dIx_at hi, alike_self k _ (h'.2 _ (List.getElem_mem hi))⟩
    | lst ds =>
      have h' : (decide (ds.length ≤ 1000) && ds.all (D.lk k)) = true := h
      rw [Bool.and_eq_true, decide_eq_true_eq, List.all_eq_true] at h'
      exact alike_seq _ _ "list" ds.length rfl (by decide +kernel) (by decide +kernel) h'.1 rfl fun i hi => ⟨ds[i], dIx_at hi, alike_self k _ (h'.2 _ (List.getElem_mem hi))⟩
    | dic _ => cases h
    | obj _ _ => cases h
end TF
/-! #### text PL5 -/
set_option Elab.async false
set_option linter.all false
set_option maxRecDepth 100000
set_option maxHeartbeats 200000
/-! PL5: plain law of Keyboard's init. -/
namespace TF
open PySem L2
local macro_rules
  | `(tactic| left) => `(tactic| first
    | with_reducible exact vC
    | with_reducible exact vs0
    | (with_reducible apply vV); rfl
    | (with_reducible apply vW'); rfl
    | assumption
    | (with_reducible apply v2); (focus left); (focus left); (focus first | assumption | rfl)
    | (with_reducible apply vN); (focus left); (focus first | assumption | rfl)
    | (with_reducible apply vsC); (focus left); (focus left)
    | (with_reducible apply vNot); left
    | (with_reducible apply vIsi); (focus left); (focus first | assumption | rfl)
    | (with_reducible apply vCall); (focus left); (focus first | assumption | rfl)
    | (with_reducible apply vAttr); (focus left); (focus first | assumption | rfl)
    | (with_reducible apply vProp); (focus left); (focus first | assumption | rfl)
    | (with_reducible apply vMeth); (focus left); (focus left); (focus first | assumption | rfl)
    | (with_reducible apply vMake); (focus left); (focus first | assumption | rfl)
    | (with_reducible apply vJoin); (focus left); (focus first | assumption | rfl)
    | (with_reducible apply vRev); (focus left); (focus first | assumption | rfl)
    | (with_reducible apply vCallS1); (focus rfl); (focus left); (focus rfl); (focus first | assumption | rfl))
def chD (c : Nat) : D := .str ⟨#[c]⟩
abbrev SGN : Str := "!,-.0123456789:;?ABCDEFGHIJKLMNOPQRSTUVWXYZabcdefghijklmnopqrstuvwxyz"
def kbF : EX := (eOr (e2 dNotIn (eW 6) (eC (.str SGN))) (e2 dIn (eW 6) (eW 2)))
def kbLc : EX := (eLc (List.map (·.2) ([("sign", 6)] : List (Str × Nat))) (iOf (eV 4)) (.nm 6) kbF (eV 6))
def kbPair : EX := (eAnd (e2 dEq (eN dLen [(eW 4)]) (eC (.int 2))) (e2 dNe (e2 dIx (eW 4) (eC (.int 0))) (e2 dIx (eW 4) (eC (.int 1)))))
def kbTest : EX := (eOr (e2 dEq (eW 3) (eC (.int 10))) (eOr (eNot (eV 5)) (e2 dNe kbLc (eN mkL []))))
def kbBody : SX := (sSeq (sOf kbPair (sAsg (.nm 5)))
  (sSeq (sIf kbTest (sRaise "InvalidKeyboard" ["index"] [(eV 3)]) sNext)
  (sAugS 2 (eV 4))))
def mKbInit : SX := (sSeq (sOf (eC (.str "")) (sAsg (.nm 2)))
  (sSeq (sFor (TF.iEnum 0 (eV 1)) (.tp [(.nm 3), (.nm 4)]) kbBody)
  (sSeq (sIf (e2 dLt (eN dLen [(eW 1)]) (eC (.int 2))) (sRaise "InvalidKeyboard" ["index"] [(eN dLen [(eW 1)])]) sNext)
  (sOf (eV 1) (sMeC "Keyboard" 0 "own_keys")))))
/-! ### what it asks -/
def badC (known : Str) (c : Nat) : Bool := !decide (c ∈ SGN.cps.toList) || decide (c ∈ known.cps.toList)
def pairB (key : Str) : Bool := match key.cps.toList with
  | [a, b] => a != b
  | _ => false
def badK (i : Int) (known key : Str) : Bool := i == 10 || (!pairB key || key.cps.toList.any (badC known))
def kbI (i : Int) (known : Str) : List Str → Option Int
  | [] => none
  | k :: r => if badK i known k then some i else kbI (i + 1) (known ++ k) r
def kbR (ks : List Str) : Option Int := match kbI 0 "" ks with
  | some j => some j
  | none => if ks.length < 2 then some ks.length else none
theorem dIn_c (c : Nat) (y : Str) : dIn (chD c) (.str y) = some (.bl (decide (c ∈ y.cps.toList))) := rfl
theorem dNotIn_c (c : Nat) (y : Str) : dNotIn (chD c) (.str y) = some (.bl (!decide (c ∈ y.cps.toList))) := rfl
theorem kb_f (a s1 s3 s4 s5 : S) (known : Str) (c : Nat) : kbF [a, s1, .fz (.str known), s3, s4, s5, .fz (chD c)] = .val (.bl (badC known c)) [a, s1, .fz (.str known), s3, s4, s5, .fz (chD c)] := by
  unfold kbF badC
  exact vOr (v2 (vW' rfl) vC (dNotIn_c c SGN)) fun _ => v2 (vW' rfl) (vW' rfl) (dIn_c c known)
theorem kb_loop (a s1 s3 s4 s5 : S) (known : Str) : ∀ (cs : List Nat) (acc : List D), acc.length + cs.length ≤ 1000 →
    lcL [6] (.nm 6) kbF (eV 6) (cs.map chD) acc [a, s1, .fz (.str known), s3, s4, s5, .un] = .val (acc ++ (cs.filter (badC known)).map chD) [a, s1, .fz (.str known), s3, s4, s5, .un]
  | [], acc, _ => by simp [lcL]
  | c :: cs, acc, h => by
    rw [List.length_cons] at h
    rw [List.map_cons, lcL]
    have e1 : asg (.nm 6) (chD c) [a, s1, S.fz (.str known), s3, s4, s5, S.un] = some [a, s1, S.fz (.str known), s3, s4, s5, S.fz (chD c)] := rfl
    rw [e1]
    simp only [kb_f]
    have e4 : wipeE [6] 0 [a, s1, S.fz (.str known), s3, s4, s5, S.fz (chD c)] = [a, s1, S.fz (.str known), s3, s4, s5, S.un] := rfl
    have e3 : cleanE [6] 0 [a, s1, S.fz (.str known), s3, s4, s5, S.fz (chD c)] = true := rfl
    have e5 : eV 6 [a, s1, S.fz (.str known), s3, s4, s5, S.fz (chD c)] = .val (chD c) [a, s1, S.fz (.str known), s3, s4, s5, S.fz (chD c)] := rfl
    have hz : acc.length < szB := by unfold szB; omega
    cases hb : badC known c with
    | true =>
      have ih := kb_loop a s1 s3 s4 s5 known cs (acc ++ [chD c]) (by rw [List.length_append, List.length_singleton]; omega)
      simp only [e5, e3, e4, hz, decide_true, Bool.and_true, if_true, ih]
      rw [List.filter_cons_of_pos hb, List.map_cons, List.append_assoc, List.singleton_append]
    | false =>
      have ih := kb_loop a s1 s3 s4 s5 known cs acc (by omega)
      simp only [e3, e4, if_true, ih]
      rw [List.filter_cons_of_neg (by rw [hb]; exact Bool.false_ne_true)]
theorem kb_lc (a s1 s3 s5 : S) (known key : Str) (hk : key.length ≤ 1000) : kbLc [a, s1, .fz (.str known), s3, .fz (.str key), s5, .un] = .val (.lst ((key.cps.toList.filter (badC known)).map chD)) [a, s1, .fz (.str known), s3, .fz (.str key), s5, .un] := by
  unfold kbLc eLc
  have e0 : iOf (eV 4) [a, s1, S.fz (.str known), s3, S.fz (.str key), s5, S.un] = .val (key.cps.toList.map chD) [a, s1, S.fz (.str known), s3, S.fz (.str key), s5, S.un] := rfl
  have own : (List.map (·.2) ([("sign", 6)] : List (Str × Nat))) = [6] := rfl
  rw [e0]
  simp only [own]
  have e4 : wipeE [6] 0 [a, s1, S.fz (.str known), s3, S.fz (.str key), s5, S.un] = [a, s1, S.fz (.str known), s3, S.fz (.str key), s5, S.un] := rfl
  have e3 : cleanE [6] 0 [a, s1, S.fz (.str known), s3, S.fz (.str key), s5, S.un] = true := rfl
  have hl : ([] : List D).length + key.cps.toList.length ≤ 1000 := by
    have : key.cps.toList.length = key.length := by simp [Str.length]
    simp only [List.length_nil]
    omega
  rw [e3, e4, if_pos rfl, kb_loop a s1 s3 _ s5 known _ [] hl]
  rfl
theorem chOk {key : Str} (h : PyData.strOk key = true) (n : Nat) : ∀ c ∈ key.cps.toList, (chD c).pl n = true := by
  intro c hc
  unfold PyData.strOk at h
  rw [Array.all_eq_true'] at h
  have := h c (Array.mem_toList_iff.mp hc)
  have e : (chD c).pl n = PyData.strOk ⟨#[c]⟩ := by cases n <;> rfl
  rw [e]
  unfold PyData.strOk
  simpa using this
theorem pls_all : ∀ {n : Nat} {ds : List D}, (∀ d ∈ ds, d.pl n = true) → D.pls n ds = true
  | _, [], _ => by cases ‹Nat› <;> rfl
  | n, d :: ds, h => by
    have e : D.pls n (d :: ds) = (D.pl n d && D.pls n ds) := by cases n <;> rfl
    rw [e, h d List.mem_cons_self, pls_all fun x hx => h x (List.mem_cons_of_mem _ hx)]; rfl
theorem dNe_of {a b : D} (h1 : a.pl 20 = true) (h2 : b.pl 20 = true) : dNe a b = some (.bl (!deq a b)) := by
  unfold dNe pl2; rw [h1, h2]; rfl
theorem dEq_of {a b : D} (h1 : a.pl 20 = true) (h2 : b.pl 20 = true) : dEq a b = some (.bl (deq a b)) := by
  unfold dEq pl2; rw [h1, h2]; rfl
theorem str_len (x : Str) : x.cps.toList.length = x.length := by simp [Str.length]
theorem deq_ch (a b : Nat) : deq (chD a) (chD b) = (a == b) := by
  show ((⟨#[a]⟩ : Str) == ⟨#[b]⟩) = (a == b)
  by_cases h : a = b
  · subst h; simp
  · have h1 : (a == b) = false := by simpa using h
    rw [h1]
    have : (⟨#[a]⟩ : Str) ≠ ⟨#[b]⟩ := fun e => h (by simpa using congrArg (fun z : Str => z.cps.toList) e)
    simpa using this
theorem dLen_str {x : Str} (h : x.length ≤ 1000) : dLen [.str x] = some (.int x.length) := by
  show (if x.length ≤ szB then some (D.int x.length) else none) = _
  rw [if_pos (by unfold szB; omega)]
theorem kb_pair (a s1 s2 s3 s5 s6 : S) (key : Str) (hk : key.length ≤ 1000) (ho : PyData.strOk key = true) : kbPair [a, s1, s2, s3, .fz (.str key), s5, s6] = .val (.bl (pairB key)) [a, s1, s2, s3, .fz (.str key), s5, s6] := by
  have hl := dLen_str hk
  have h1 : (e2 dEq (eN dLen [(eW 4)]) (eC (.int 2))) [a, s1, s2, s3, .fz (.str key), s5, s6] = .val (.bl (deq (.int key.length) (.int 2))) [a, s1, s2, s3, .fz (.str key), s5, s6] := by left
  have h2 : kbPair [a, s1, s2, s3, .fz (.str key), s5, s6] = .val (.bl (deq (.int key.length) (.int 2) && pairB key)) [a, s1, s2, s3, .fz (.str key), s5, s6] := by
    refine vAnd h1 fun hb => ?_
    have hl2 : key.cps.toList.length = 2 := by
      have : ((key.length : Int) == 2) = true := hb
      rw [str_len]
      have := eq_of_beq this
      omega
    obtain ⟨⟨l⟩⟩ := key
    match l, hl2 with
    | [x, y], _ =>
      have o1 := chOk ho 20 x (by simp)
      have o2 := chOk ho 20 y (by simp)
      have i0 : dIx (.str ⟨⟨[x, y]⟩⟩) (.int 0) = some (chD x) := rfl
      have i1 : dIx (.str ⟨⟨[x, y]⟩⟩) (.int 1) = some (chD y) := rfl
      have hn : dNe (chD x) (chD y) = some (.bl (x != y)) := by rw [dNe_of o1 o2, deq_ch]; rfl
      show _ = Rx.val (.bl (x != y)) _
      left
  rw [h2]
  have e : (deq (.int key.length) (.int 2) && pairB key) = pairB key := by
    show (((key.length : Int) == 2) && pairB key) = pairB key
    by_cases hz : pairB key = true
    · have : key.length = 2 := by
        rw [← str_len]
        unfold pairB at hz
        split at hz
        · rename_i h; rw [h]; rfl
        · cases hz
      rw [this, hz]; rfl
    · rw [Bool.not_eq_true] at hz
      rw [hz, Bool.and_false]
  rw [e]
theorem kb_test (a s1 : S) (known key : Str) (i : Int) (hk : key.length ≤ 1000) (ho : PyData.strOk key = true) :
    kbTest [a, s1, .fz (.str known), .fz (.int i), .fz (.str key), .fz (.bl (pairB key)), .un] = .val (.bl (badK i known key)) [a, s1, .fz (.str known), .fz (.int i), .fz (.str key), .fz (.bl (pairB key)), .un] := by
  have hlc := kb_lc a s1 (.fz (.int i)) (.fz (.bl (pairB key))) known key hk
  have ho' : D.pl 20 (.lst ((key.cps.toList.filter (badC known)).map chD)) = true := by
    show D.pls 19 _ = true
    refine pls_all fun d hd => ?_
    obtain ⟨c, hc, rfl⟩ := List.mem_map.mp hd
    exact chOk ho 19 c (List.mem_filter.mp hc).1
  have hn : dNe (.lst ((key.cps.toList.filter (badC known)).map chD)) (.lst []) = some (.bl (key.cps.toList.any (badC known))) := by
    rw [dNe_of ho' rfl]
    congr 2
    generalize key.cps.toList = l
    induction l with
    | nil => rfl
    | cons c l ih =>
      cases hb : badC known c with
      | true =>
        rw [List.filter_cons_of_pos hb, List.any_cons, hb]; rfl
      | false =>
        rw [List.filter_cons_of_neg (by rw [hb]; exact Bool.false_ne_true), List.any_cons, hb, Bool.false_or]; exact ih
  unfold kbTest
  have h3 : (e2 dEq (eW 3) (eC (.int 10))) [a, s1, .fz (.str known), .fz (.int i), .fz (.str key), .fz (.bl (pairB key)), .un] = .val (.bl (i == 10)) [a, s1, .fz (.str known), .fz (.int i), .fz (.str key), .fz (.bl (pairB key)), .un] := v2 (vW' rfl) vC rfl
  exact vOr h3 fun _ => vOr (vNot (vV rfl)) fun _ => v2 hlc (vN vs0 rfl) hn
theorem kb_body (a s1 s5 : S) (known key : Str) (i : Int) (hk : known.length + key.length ≤ 1000) (ho : PyData.strOk key = true) :
    kbBody [a, s1, .fz (.str known), .fz (.int i), .fz (.str key), s5, .un] = if badK i known key then .exc ⟨"InvalidKeyboard", some [("index", .int i)]⟩ [a, s1, .fz (.str known), .fz (.int i), .fz (.str key), .fz (.bl (pairB key)), .un]
      else .nx [a, s1, .fz (.str (known ++ key)), .fz (.int i), .fz (.str key), .fz (.bl (pairB key)), .un] := by
  unfold kbBody
  refine sq_nx (stA (kb_pair a s1 _ _ s5 .un key (by omega) ho)) ?_
  have ht := kb_test a s1 known key i (by omega) ho
  cases hb : badK i known key with
  | true =>
    rw [hb] at ht
    rw [if_pos rfl]
    exact sq_exc (si_t ht rfl (sRaise_v (vsC (vV rfl) vs0)))
  | false =>
    rw [hb] at ht
    rw [if_neg Bool.false_ne_true]
    refine sq_nx (si_f ht rfl rfl) ?_
    have hadd : dAdd (.str known) (.str key) = some (.str (known ++ key)) := by
      show (if known.length + key.length ≤ szB then _ else _) = _
      rw [if_pos (by unfold szB; omega)]
    exact augS_v (d := .str known) rfl rfl (vV rfl) hadd
theorem str_app (x y : Str) : (x ++ y).length = x.length + y.length := by
  show (x.cps ++ y.cps).size = _
  rw [Array.size_append]; rfl
theorem kb_for (a s1 : S) : ∀ (ks : List Str) (i : Int) (known : Str) (s3 s4 s5 : S), known.length + (ks.map (·.length)).sum ≤ 1000 → (∀ k ∈ ks, PyData.strOk k = true) → match kbI i known ks with
    | some j => ∃ e, forL (.tp [(.nm 3), (.nm 4)]) kbBody (enumD i (ks.map D.str)) [a, s1, .fz (.str known), s3, s4, s5, .un] = .exc ⟨"InvalidKeyboard", some [("index", .int j)]⟩ e ∧ e[0]? = some a
    | none => ∃ t2 t3 t4 t5, forL (.tp [(.nm 3), (.nm 4)]) kbBody (enumD i (ks.map D.str)) [a, s1, .fz (.str known), s3, s4, s5, .un] = .nx [a, s1, t2, t3, t4, t5, .un]
  | [], i, known, s3, s4, s5, _, _ => ⟨_, _, _, _, rfl⟩
  | k :: ks, i, known, s3, s4, s5, hl, ho => by
    rw [List.map_cons, List.sum_cons] at hl
    have hb := kb_body a s1 s5 known k i (by omega) (ho k List.mem_cons_self)
    have e0 : ∀ t, forL (.tp [(.nm 3), (.nm 4)]) kbBody (enumD i ((k :: ks).map D.str)) [a, s1, .fz (.str known), s3, s4, s5, .un] = t ↔ (match kbBody [a, s1, .fz (.str known), .fz (.int i), .fz (.str k), s5, .un] with
      | .nx e2 => forL (.tp [(.nm 3), (.nm 4)]) kbBody (enumD (i + 1) (ks.map D.str)) e2
      | .ct e2 => forL (.tp [(.nm 3), (.nm 4)]) kbBody (enumD (i + 1) (ks.map D.str)) e2
      | .bk e2 => .nx e2
      | r => r) = t := fun _ => Iff.rfl
    unfold kbI
    cases hbad : badK i known k with
    | true =>
      rw [hbad, if_pos rfl] at hb
      rw [if_pos rfl]
      refine ⟨_, (e0 _).mpr (by rw [hb]), rfl⟩
    | false =>
      rw [hbad, if_neg Bool.false_ne_true] at hb
      rw [if_neg Bool.false_ne_true]
      have ih := kb_for a s1 ks (i + 1) (known ++ k) (.fz (.int i)) (.fz (.str k)) (.fz (.bl (pairB k))) (by rw [str_app]; omega) fun x hx => ho x (List.mem_cons_of_mem _ hx)
      split
      · rename_i j hj
        rw [hj] at ih
        obtain ⟨e, h1, h2⟩ := ih
        exact ⟨e, (e0 _).mpr (by rw [hb]; exact h1), h2⟩
      · rename_i hj
        rw [hj] at ih
        obtain ⟨t2, t3, t4, t5, h1⟩ := ih
        exact ⟨t2, t3, t4, t5, (e0 _).mpr (by rw [hb]; exact h1)⟩
def okKs (ks : List Str) : Bool := decide ((ks.map (·.length)).sum ≤ 1000) && ks.all fun k => PyData.strOk k
def kb_r (ds : List D) : Rv := match ds with
  | [.tup xs] => (match strsOf xs with
    | some ks => if okKs ks then (match kbR ks with
      | some j => .exc ⟨"InvalidKeyboard", some [("index", .int j)]⟩
      | none => .ret (.obj "Keyboard" [.tup xs])) else .stuck
    | none => .stuck)
  | _ => .stuck
theorem kb_hm (a dx : Addr) (ds : List D) (hl : ds.length = 1) : match kb_r ds with
    | .ret (.obj c' fs) => c' = "Keyboard" ∧ (slotC "Keyboard" = true → fs ≠ []) ∧ ∃ e fs', mKbInit (evI 7 a dx "Keyboard" ds) = .nx e ∧ e[0]? = some (.me a dx "Keyboard" fs') ∧ objOf "Keyboard" fs' = some fs ∧ (slotC "Keyboard" = false → fs'.length ≤ 900 ∧ ∀ f, f ∉ fldC "Keyboard" → fs'.lookup f = none)
    | .exc x => ∃ e, mKbInit (evI 7 a dx "Keyboard" ds) = .exc x e ∧ ∃ fs', e[0]? = some (.me a dx "Keyboard" fs')
    | .stuck => True
    | _ => False := by
  match ds, hl with
  | [d], _ =>
    unfold kb_r
    cases d with
    | tup xs =>
      simp only []
      cases hx : strsOf xs with
      | none => trivial
      | some ks =>
        simp only []
        cases hok : okKs ks with
        | false => trivial
        | true =>
          have hxs := strsOf_eq hx
          subst hxs
          unfold okKs at hok
          simp only [Bool.and_eq_true, decide_eq_true_eq, List.all_eq_true] at hok
          have key := kb_for (.me a dx "Keyboard" []) (.fz (.tup (ks.map D.str))) ks 0 "" .un .un .un (by
            have : ("" : Str).length = 0 := by decide +kernel
            omega) hok.2
          have e1 : evI 7 a dx "Keyboard" [.tup (ks.map D.str)] = [.me a dx "Keyboard" [], .fz (.tup (ks.map D.str)), .un, .un, .un, .un, .un] := rfl
          have s1 : (sOf (eC (.str "")) (sAsg (.nm 2))) [.me a dx "Keyboard" [], .fz (.tup (ks.map D.str)), .un, .un, .un, .un, .un] = .nx [.me a dx "Keyboard" [], .fz (.tup (ks.map D.str)), .fz (.str ""), .un, .un, .un, .un] := rfl
          have s2 : ∀ o, sFor (TF.iEnum 0 (eV 1)) (.tp [(.nm 3), (.nm 4)]) kbBody [.me a dx "Keyboard" [], .fz (.tup (ks.map D.str)), .fz (.str ""), .un, .un, .un, .un] = o ↔ forL (.tp [(.nm 3), (.nm 4)]) kbBody (enumD 0 (ks.map D.str)) [.me a dx "Keyboard" [], .fz (.tup (ks.map D.str)), .fz (.str ""), .un, .un, .un, .un] = o := fun _ => Iff.rfl
          rw [if_pos rfl, e1]
          unfold kbR mKbInit
          cases hI : kbI 0 "" ks with
          | some j =>
            rw [hI] at key
            obtain ⟨e, h1, h2⟩ := key
            exact ⟨e, sq_nx s1 (sq_exc ((s2 _).mpr h1)), _, h2⟩
          | none =>
            rw [hI] at key
            obtain ⟨t2, t3, t4, t5, h1⟩ := key
            have hlen : dLen [.tup (ks.map D.str)] = some (.int ks.length) := by
              show some (D.int (ks.map D.str).length) = _
              rw [List.length_map]
            have ht : (e2 dLt (eN dLen [(eW 1)]) (eC (.int 2))) [.me a dx "Keyboard" [], .fz (.tup (ks.map D.str)), t2, t3, t4, t5, .un] = .val (.bl (decide ((ks.length : Int) < 2))) [.me a dx "Keyboard" [], .fz (.tup (ks.map D.str)), t2, t3, t4, t5, .un] := by left
            by_cases h2 : ks.length < 2
            · simp only [if_pos h2]
              refine ⟨_, sq_nx s1 (sq_nx ((s2 _).mpr h1) (sq_exc (si_t ht (decide_eq_true (by omega)) (sRaise_v (vsC (vN (vsC (vW' rfl) vs0) hlen) vs0))))), _, rfl⟩
            · simp only [if_neg h2]
              refine ⟨trivial, fun _ => by simp, _, [("own_keys", .tup (ks.map D.str))], sq_nx s1 (sq_nx ((s2 _).mpr h1) (sq_nx (si_f ht (decide_eq_false (by omega)) rfl) (sOf_v (vV rfl)))), rfl, rfl, fun h => by cases h⟩
    | _ => trivial
end TF
/-! #### text PL6 -/
set_option Elab.async false
set_option linter.all false
set_option maxRecDepth 100000
set_option maxHeartbeats 200000
/-! PL6: plain law of _law_keys. -/
namespace TF
open PySem L2
abbrev KEYS8 : List Str := ["aA", "bB", "x!", "?y", "1.", "Z-", "mn", "0;"]
def mKeys (law_next_r : Src → List D → Option (D × Src)) : SX := (sSeq (sPK [(.s, 2, (eN mkL [(eC (.str "aA")), (eC (.str "bB")), (eC (.str "x!")), (eC (.str "?y")), (eC (.str "1.")), (eC (.str "Z-")), (eC (.str "mn")), (eC (.str "0;"))])), (.o, 3, (eN mkL []))])
  (sSeq (sFor (iR1 (e2 dAdd (eC (.int 2)) (eCallS law_next_r 0 [(e2 dSub (eW 1) (eC (.int 1)))]))) (.nm 4) (sApp 3 (ePopS 2 (eCallS law_next_r 0 [(eLenS 2)]))))
  (sOf (eN dTupOf [(eW 3)]) sRet)))
def nextN (s : Src) (lim : Nat) : Nat := (nextS s lim).1.toNat
def nextZ (s : Src) (lim : Nat) : Src := (nextS s lim).2
theorem nextS_lt (s : Src) {lim : Int} (h : 0 < lim) : 0 ≤ (nextS s lim).1 ∧ (nextS s lim).1 < lim := by
  unfold nextS
  split
  · exact ⟨Int.emod_nonneg _ (by omega), Int.emod_lt_of_pos _ h⟩
  · exact ⟨Int.emod_nonneg _ (by omega), Int.emod_lt_of_pos _ h⟩
theorem nextS_len (s : Src) (lim : Int) : (nextS s lim).2.cells.length = s.cells.length := by
  unfold nextS
  split
  · exact List.length_set
  · rfl
theorem nextN_lt (s : Src) {lim : Nat} (h : 0 < lim) : nextN s lim < lim := by
  have := nextS_lt s (lim := (lim : Int)) (by omega)
  unfold nextN
  omega
theorem nextR_nat (s : Src) {lim : Nat} (h : 0 < lim) (h2 : lim < 1073741824) (h3 : s.cells.length ≤ 1000) : nextR s [.int lim] = some (.int (nextN s lim : Nat), nextZ s lim) := by
  have hn := nextS_lt s (lim := (lim : Int)) (by omega)
  show (if 0 < (lim : Int) ∧ (lim : Int) < 1073741824 ∧ s.cells.length ≤ 1000 then some (D.int (nextS s lim).1, (nextS s lim).2) else none) = _
  rw [if_pos ⟨by omega, by omega, h3⟩]
  unfold nextN nextZ
  rw [Int.toNat_of_nonneg hn.1]
theorem nextZ_len (s : Src) (lim : Nat) : (nextZ s lim).cells.length = s.cells.length := nextS_len s lim
def drawK : Nat → Src → List Str → List Str → List Str × Src
  | 0, s, _, found => (found, s)
  | n + 1, s, left, found => drawK n (nextZ s left.length) (left.eraseIdx (nextN s left.length)) (found ++ [left.getD (nextN s left.length) ""])
theorem er_perm : ∀ (l : List Str) (i : Nat) (h : i < l.length), List.Perm (l[i] :: l.eraseIdx i) l
  | a :: l, 0, h => List.Perm.refl _
  | a :: l, i + 1, h => by
    rw [List.eraseIdx_cons_succ, List.getElem_cons_succ]
    exact (List.Perm.swap a _ _).trans ((er_perm l i (by simpa using h)).cons a)
theorem er_map : ∀ (l : List Str) (i : Nat), (l.eraseIdx i).map D.str = (l.map D.str).eraseIdx i
  | [], _ => rfl
  | a :: l, 0 => rfl
  | a :: l, i + 1 => by rw [List.eraseIdx_cons_succ, List.map_cons, List.map_cons, List.eraseIdx_cons_succ, er_map l i]
theorem drawK_perm : ∀ (n : Nat) (s : Src) (left found : List Str), n ≤ left.length → ∃ rest, List.Perm ((drawK n s left found).1 ++ rest) (found ++ left) ∧ (drawK n s left found).1.length = found.length + n ∧ (drawK n s left found).2.cells.length = s.cells.length
  | 0, s, left, found, _ => ⟨left, List.Perm.refl _, rfl, rfl⟩
  | n + 1, s, left, found, h => by
    have hlt := nextN_lt s (lim := left.length) (by omega)
    obtain ⟨rest, h1, h2, h3⟩ := drawK_perm n (nextZ s left.length) (left.eraseIdx (nextN s left.length)) (found ++ [left.getD (nextN s left.length) ""]) (by rw [List.length_eraseIdx_of_lt hlt]; omega)
    refine ⟨rest, h1.trans ?_, by rw [drawK, h2, List.length_append, List.length_singleton]; omega, by rw [drawK, h3, nextZ_len]⟩
    rw [List.append_assoc]
    refine List.Perm.append_left _ ?_
    rw [List.singleton_append, List.getD_eq_getElem?_getD, List.getElem?_eq_getElem hlt, Option.getD_some]
    exact er_perm left _ hlt
def keysR (s : Src) (ds : List D) : Option (D × Src) := match ds with
  | [.int m] => if 1 < m ∧ m ≤ 8 ∧ s.cells.length ≤ 1000 then some (.tup ((drawK (2 + nextN s (m - 1).toNat) (nextZ s (m - 1).toNat) KEYS8 []).1.map D.str), (drawK (2 + nextN s (m - 1).toNat) (nextZ s (m - 1).toNat) KEYS8 []).2) else none
  | _ => none
theorem keys_loop (p q : Addr) (m : S) : ∀ (is : List D) (s : Src) (left found : List Str) (x : S), is.length ≤ left.length → left.length ≤ 100 → found.length + is.length ≤ 1000 → s.cells.length ≤ 1000 →
    ∃ lf x', forL (.nm 4) (sApp 3 (ePopS 2 (eCallS nextR 0 [(eLenS 2)]))) is [.src p q s.st s.cells s.ix, m, .sl (left.map D.str), .ol (found.map D.str), x] =
      .nx [.src p q (drawK is.length s left found).2.st (drawK is.length s left found).2.cells (drawK is.length s left found).2.ix, m, .sl lf, .ol ((drawK is.length s left found).1.map D.str), x']
  | [], s, left, found, x, _, _, _, _ => ⟨_, _, rfl⟩
  | d :: is, s, left, found, x, h1, h2, h3, h4 => by
    rw [List.length_cons] at h1 h3
    have hlt := nextN_lt s (lim := left.length) (by omega)
    obtain ⟨lf, x', ih⟩ := keys_loop p q m is (nextZ s left.length) (left.eraseIdx (nextN s left.length)) (found ++ [left.getD (nextN s left.length) ""]) (.fz d) (by rw [List.length_eraseIdx_of_lt hlt]; omega) (by rw [List.length_eraseIdx_of_lt hlt]; omega) (by rw [List.length_append, List.length_singleton]; omega) (by rw [nextZ_len]; exact h4)
    refine ⟨lf, x', ?_⟩
    refine Eq.trans ?_ ih
    have a1 : asg (.nm 4) d [S.src p q s.st s.cells s.ix, m, .sl (left.map D.str), .ol (found.map D.str), x] = some [S.src p q s.st s.cells s.ix, m, .sl (left.map D.str), .ol (found.map D.str), .fz d] := rfl
    have a2 : eLenS 2 [S.src p q s.st s.cells s.ix, m, .sl (left.map D.str), .ol (found.map D.str), .fz d] = .val (.int left.length) [S.src p q s.st s.cells s.ix, m, .sl (left.map D.str), .ol (found.map D.str), .fz d] := by
      show Rx.val (.int ((left.map D.str).length : Nat)) _ = _
      rw [List.length_map]
    have a3 : eCallS nextR 0 [(eLenS 2)] [S.src p q s.st s.cells s.ix, m, .sl (left.map D.str), .ol (found.map D.str), .fz d] = .val (.int (nextN s left.length : Nat)) [S.src p q (nextZ s left.length).st (nextZ s left.length).cells (nextZ s left.length).ix, m, .sl (left.map D.str), .ol (found.map D.str), .fz d] :=
      vCallS1 (p := p) (q := q) (s := s) rfl (vsC a2 vs0) rfl (nextR_nat s (by omega) (by omega) h4)
    have a4 : ePopS 2 (eCallS nextR 0 [(eLenS 2)]) [S.src p q s.st s.cells s.ix, m, .sl (left.map D.str), .ol (found.map D.str), .fz d] = .val (.str (left.getD (nextN s left.length) "")) [S.src p q (nextZ s left.length).st (nextZ s left.length).cells (nextZ s left.length).ix, m, .sl ((left.eraseIdx (nextN s left.length)).map D.str), .ol (found.map D.str), .fz d] := by
        have h := popS_v (i := 2) (kk := ((nextN s left.length : Nat) : Int)) (y := .str (left.getD (nextN s left.length) "")) rfl a3 rfl ⟨by omega, by omega⟩ (by
          rw [Int.toNat_natCast, List.getElem?_map, List.getElem?_eq_getElem hlt, List.getD_eq_getElem?_getD, List.getElem?_eq_getElem hlt]; rfl)
        rw [h, Int.toNat_natCast, ← er_map]
        rfl
    have a5 : sApp 3 (ePopS 2 (eCallS nextR 0 [(eLenS 2)])) [S.src p q s.st s.cells s.ix, m, .sl (left.map D.str), .ol (found.map D.str), .fz d] = .nx [S.src p q (nextZ s left.length).st (nextZ s left.length).cells (nextZ s left.length).ix, m, .sl ((left.eraseIdx (nextN s left.length)).map D.str), .ol ((found ++ [left.getD (nextN s left.length) ""]).map D.str), .fz d] := by
      rw [app_v (i := 3) rfl a4 rfl (by rw [List.length_map]; unfold szB; omega), List.map_append]
      rfl
    rw [forL, a1]
    simp only [a5]
theorem keys_law (p q : Addr) (s : Src) (ds : List D) (d : D) (s' : Src) (hl : ds.length = 1) (h : keysR s ds = some (d, s')) : ∃ e, mKeys nextR (evS 5 p q s ds) = .ret d e ∧ e[0]? = some (.src p q s'.st s'.cells s'.ix) := by
  unfold keysR at h
  split at h
  · rename_i m
    split at h
    · rename_i hb
      obtain ⟨b1, b2, b3⟩ := hb
      cases h
      obtain ⟨M, hM⟩ : ∃ M : Nat, (m - 1).toNat = M := ⟨_, rfl⟩
      have hm1 : m - 1 = (M : Int) := by omega
      rw [hM]
      have e0 : evS 5 p q s [.int m] = [.src p q s.st s.cells s.ix, .fz (.int m), .un, .un, .un] := rfl
      rw [e0]
      have s1 : sPK [(.s, 2, (eN mkL [(eC (.str "aA")), (eC (.str "bB")), (eC (.str "x!")), (eC (.str "?y")), (eC (.str "1.")), (eC (.str "Z-")), (eC (.str "mn")), (eC (.str "0;"))])), (.o, 3, (eN mkL []))] [.src p q s.st s.cells s.ix, .fz (.int m), .un, .un, .un] = .nx [.src p q s.st s.cells s.ix, .fz (.int m), .sl (KEYS8.map D.str), .ol [], .un] := rfl
      have hlt := nextN_lt s (lim := M) (by omega)
      have c1 : eCallS nextR 0 [(e2 dSub (eW 1) (eC (.int 1)))] [.src p q s.st s.cells s.ix, .fz (.int m), .sl (KEYS8.map D.str), .ol [], .un] = .val (.int (nextN s M : Nat)) [.src p q (nextZ s M).st (nextZ s M).cells (nextZ s M).ix, .fz (.int m), .sl (KEYS8.map D.str), .ol [], .un] :=
        vCallS1 (p := p) (q := q) (s := s) rfl (vsC (v2 (vW' rfl) vC (show dSub (.int m) (.int 1) = some (.int (M : Nat)) by rw [← hm1]; rfl)) vs0) rfl (nextR_nat s (by omega) (by omega) b3)
      have c2 : iR1 (e2 dAdd (eC (.int 2)) (eCallS nextR 0 [(e2 dSub (eW 1) (eC (.int 1)))])) [.src p q s.st s.cells s.ix, .fz (.int m), .sl (KEYS8.map D.str), .ol [], .un] = .val (rangeD 0 ((2 + nextN s M : Nat) : Int)) [.src p q (nextZ s M).st (nextZ s M).cells (nextZ s M).ix, .fz (.int m), .sl (KEYS8.map D.str), .ol [], .un] := by
        unfold iR1
        rw [v2 vC c1 (show dAdd (.int 2) (.int (nextN s M : Nat)) = some (.int ((2 + nextN s M : Nat) : Int)) by rw [Int.natCast_add]; rfl)]
        have hb : bigI ((2 + nextN s M : Nat) : Int) = true := by unfold bigI; simp; omega
        simp only [hb, if_true]
      have hlen : (rangeD 0 ((2 + nextN s M : Nat) : Int)).length = 2 + nextN s M := by unfold rangeD; rw [List.length_map, List.length_range]; omega
      obtain ⟨lf, x', hL⟩ := keys_loop p q (.fz (.int m)) (rangeD 0 ((2 + nextN s M : Nat) : Int)) (nextZ s M) KEYS8 [] .un (by rw [hlen]; show _ ≤ 8; omega) (by decide) (by rw [hlen]; show 0 + _ ≤ _; omega) (by rw [nextZ_len]; exact b3)
      rw [hlen] at hL
      unfold mKeys
      have hF := for_v c2 hL
      exact ⟨_, sq_nx s1 (sq_nx hF (stR (vN (vsC (d := .lst _) rfl vs0) rfl))), rfl⟩
    · cases h
  · cases h
end TF
/-! #### text PL7 -/
set_option Elab.async false
set_option linter.all false
set_option maxRecDepth 100000
set_option maxHeartbeats 400000
/-! PL7: what Keyboard's init answers; place_of. -/
namespace TF
open PySem L2
def catS (known : Str) (ks : List Str) : Str := ks.foldl (· ++ ·) known
theorem str_app_mem (x y : Str) (c : Nat) : c ∈ (x ++ y).cps.toList ↔ c ∈ x.cps.toList ∨ c ∈ y.cps.toList := by
  show c ∈ (x.cps ++ y.cps).toList ↔ _
  rw [Array.toList_append, List.mem_append]
theorem catS_mem : ∀ (ks : List Str) (known : Str) (c : Nat), c ∈ (catS known ks).cps.toList ↔ c ∈ known.cps.toList ∨ ∃ k ∈ ks, c ∈ k.cps.toList
  | [], known, c => by simp [catS]
  | k :: ks, known, c => by
    have := catS_mem ks (known ++ k) c
    rw [show catS known (k :: ks) = catS (known ++ k) ks from rfl, this, str_app_mem]
    simp [or_assoc]
theorem kbI_app : ∀ (ks : List Str) (i : Int) (known : Str) (rest : List Str), kbI i known ks = none → kbI i known (ks ++ rest) = kbI (i + ks.length) (catS known ks) rest
  | [], i, known, rest, _ => by simp [catS]
  | k :: ks, i, known, rest, h => by
    unfold kbI at h
    rw [List.cons_append]
    show (if badK i known k then some i else kbI (i + 1) (known ++ k) (ks ++ rest)) = _
    cases hb : badK i known k with
    | true => rw [hb, if_pos rfl] at h; cases h
    | false =>
      rw [hb, if_neg Bool.false_ne_true] at h
      rw [if_neg Bool.false_ne_true, kbI_app ks (i + 1) (known ++ k) rest h]
      have e : i + 1 + (ks.length : Int) = i + ((k :: ks).length : Nat) := by rw [List.length_cons]; omega
      rw [e]; rfl
/-- a key that can be -/
def keyB (k : Str) : Bool := pairB k && (k.cps.toList.all fun c => decide (c ∈ SGN.cps.toList))
theorem badK_of {i : Int} {known k : Str} (h : keyB k = true) (hi : i ≠ 10) (hd : ∀ c ∈ k.cps.toList, c ∉ known.cps.toList) : badK i known k = false := by
  unfold keyB at h
  rw [Bool.and_eq_true, List.all_eq_true] at h
  unfold badK
  have h1 : (i == 10) = false := by simpa using hi
  have h2 : k.cps.toList.any (badC known) = false := by
    rw [List.any_eq_false]
    intro c hc
    unfold badC
    rw [h.2 c hc, decide_eq_false (hd c hc)]; simp
  rw [h1, h.1, h2]; rfl
/-- keys that share no sign -/
def apartB (ks : List Str) : Prop := ks.Pairwise fun a b => ∀ c ∈ b.cps.toList, c ∉ a.cps.toList
theorem kbI_ok : ∀ (ks : List Str) (i : Int) (known : Str), (∀ k ∈ ks, keyB k = true) → apartB ks → (∀ k ∈ ks, ∀ c ∈ k.cps.toList, c ∉ known.cps.toList) → i + ks.length ≤ 10 → kbI i known ks = none
  | [], _, _, _, _, _, _ => rfl
  | k :: ks, i, known, h1, h2, h3, h4 => by
    rw [List.length_cons] at h4
    unfold kbI
    rw [badK_of (h1 k List.mem_cons_self) (by omega) (h3 k List.mem_cons_self), if_neg Bool.false_ne_true]
    have h2' := List.pairwise_cons.mp h2
    refine kbI_ok ks (i + 1) (known ++ k) (fun x hx => h1 x (List.mem_cons_of_mem _ hx)) h2'.2 (fun x hx c hc hm => ?_) (by omega)
    rcases (str_app_mem known k c).mp hm with hm | hm
    · exact h3 x (List.mem_cons_of_mem _ hx) c hc hm
    · exact h2'.1 x hx c hc hm
theorem strsOf_map : ∀ ks : List Str, strsOf (ks.map D.str) = some ks
  | [] => rfl
  | k :: ks => by rw [List.map_cons]; show (strsOf (ks.map D.str)).map (k :: ·) = _; rw [strsOf_map ks]; rfl
theorem kb_r_ok {ks : List Str} (h : okKs ks = true) (h2 : kbR ks = none) : kb_r [.tup (ks.map D.str)] = .ret (.obj "Keyboard" [.tup (ks.map D.str)]) := by
  show (match strsOf (ks.map D.str) with
    | some ks' => if okKs ks' then (match kbR ks' with
      | some j => Rv.exc ⟨"InvalidKeyboard", some [("index", .int j)]⟩
      | none => .ret (.obj "Keyboard" [.tup (ks.map D.str)])) else .stuck
    | none => .stuck) = _
  rw [strsOf_map]; simp only []; rw [if_pos h, h2]
theorem kb_r_exc {ks : List Str} {j : Int} (h : okKs ks = true) (h2 : kbR ks = some j) : kb_r [.tup (ks.map D.str)] = .exc ⟨"InvalidKeyboard", some [("index", .int j)]⟩ := by
  show (match strsOf (ks.map D.str) with
    | some ks' => if okKs ks' then (match kbR ks' with
      | some j => Rv.exc ⟨"InvalidKeyboard", some [("index", .int j)]⟩
      | none => .ret (.obj "Keyboard" [.tup (ks.map D.str)])) else .stuck
    | none => .stuck) = _
  rw [strsOf_map]; simp only []; rw [if_pos h, h2]
/-! ### place_of -/
def plBody : SX := (sIf (e2 dIn (eW 1) (eN mkT [(e2 dIx (eW 3) (eC (.int 0))), (e2 dIx (eW 3) (eC (.int 1)))])) (sOf (eN mkT [(eV 2), (e2 dEq (eW 1) (e2 dIx (eW 3) (eC (.int 1))))]) sRet) sNext)
def mPlace : SX := (sSeq (sFor (TF.iEnum 0 (eAttr "Keyboard" 0 (eV 0))) (.tp [(.nm 2), (.nm 3)]) plBody)
  (sRaiseT "UnknownSign"))
/-- where the sign stands -/
def plc (z : Str) : Int → List Str → Option (Int × Bool)
  | _, [] => none
  | i, k :: r => match k.cps.toList with
    | [a, b] => if z = ⟨#[a]⟩ ∨ z = ⟨#[b]⟩ then some (i, z == ⟨#[b]⟩) else plc z (i + 1) r
    | _ => none
theorem deq_str (x y : Str) : deq (.str x) (.str y) = (x == y) := rfl
theorem pl_str {x : Str} (h : PyData.strOk x = true) (n : Nat) : (D.str x).pl n = true := by cases n <;> exact h
theorem pl_body (s0 : S) (z : Str) (i : Int) (a b : Nat) (hz : PyData.strOk z = true) (hk : PyData.strOk ⟨#[a, b]⟩ = true) :
    plBody [s0, .fz (.str z), .fz (.int i), .fz (.str ⟨#[a, b]⟩)] = if z = ⟨#[a]⟩ ∨ z = ⟨#[b]⟩ then .ret (.tup [.int i, .bl (z == ⟨#[b]⟩)]) [s0, .fz (.str z), .fz (.int i), .fz (.str ⟨#[a, b]⟩)] else .nx [s0, .fz (.str z), .fz (.int i), .fz (.str ⟨#[a, b]⟩)] := by
  have oa : ∀ n, (chD a).pl n = true := fun n => chOk hk n a (by simp)
  have ob : ∀ n, (chD b).pl n = true := fun n => chOk hk n b (by simp)
  have i0 : dIx (.str ⟨#[a, b]⟩) (.int 0) = some (chD a) := rfl
  have i1 : dIx (.str ⟨#[a, b]⟩) (.int 1) = some (chD b) := rfl
  have hin : dIn (.str z) (.tup [chD a, chD b]) = some (.bl (decide (z = ⟨#[a]⟩ ∨ z = ⟨#[b]⟩))) := by
    show (if (D.str z).pl 20 && D.pls 20 [chD a, chD b] then some (anyEq [chD a, chD b] (.str z)) else none).map _ = _
    rw [pl_str hz 20, pls_all (fun d hd => by
      rcases List.mem_cons.mp hd with e | hd
      · rw [e]; exact oa 20
      · rw [List.mem_singleton.mp hd]; exact ob 20)]
    rw [Bool.true_and, if_pos rfl]
    show some (D.bl ((((⟨#[a]⟩ : Str) == z)) || (((⟨#[b]⟩ : Str) == z) || false))) = _
    congr 2
    rw [Bool.or_false, Bool.eq_iff_iff]
    simp only [Bool.or_eq_true, beq_iff_eq, decide_eq_true_eq]
    exact ⟨fun h => h.elim (fun e => .inl e.symm) (fun e => .inr e.symm), fun h => h.elim (fun e => .inl e.symm) fun e => .inr e.symm⟩
  have ht : (e2 dIn (eW 1) (eN mkT [(e2 dIx (eW 3) (eC (.int 0))), (e2 dIx (eW 3) (eC (.int 1)))])) [s0, .fz (.str z), .fz (.int i), .fz (.str ⟨#[a, b]⟩)] = .val (.bl (decide (z = ⟨#[a]⟩ ∨ z = ⟨#[b]⟩))) [s0, .fz (.str z), .fz (.int i), .fz (.str ⟨#[a, b]⟩)] :=
    v2 (vW' rfl) (vN (vsC (v2 (vW' rfl) vC i0) (vsC (v2 (vW' rfl) vC i1) vs0)) rfl) hin
  unfold plBody
  by_cases h : z = ⟨#[a]⟩ ∨ z = ⟨#[b]⟩
  · rw [if_pos h]
    refine si_t ht (decide_eq_true h) (stR (vN (vsC (vV rfl) (vsC (v2 (vW' rfl) (v2 (vW' rfl) vC i1) (dEq_of (pl_str hz 20) (ob 20))) vs0)) rfl))
  · rw [if_neg h]
    exact si_f ht (decide_eq_false h) rfl
theorem pl_for (s0 : S) (z : Str) (hz : PyData.strOk z = true) : ∀ (ks : List Str) (i : Int) (s2 s3 : S), (∀ k ∈ ks, pairB k = true ∧ PyData.strOk k = true) → match plc z i ks with
    | some (j, b) => ∃ e, forL (.tp [(.nm 2), (.nm 3)]) plBody (enumD i (ks.map D.str)) [s0, .fz (.str z), s2, s3] = .ret (.tup [.int j, .bl b]) e
    | none => ∃ e, forL (.tp [(.nm 2), (.nm 3)]) plBody (enumD i (ks.map D.str)) [s0, .fz (.str z), s2, s3] = .nx e
  | [], i, s2, s3, _ => ⟨_, rfl⟩
  | k :: ks, i, s2, s3, h => by
    obtain ⟨hp, ho⟩ := h k List.mem_cons_self
    obtain ⟨⟨l⟩⟩ := k
    unfold pairB at hp
    split at hp
    · rename_i a b hl
      cases (show l = [a, b] from hl)
      have hb := pl_body s0 z i a b hz ho
      have ha : asg (.tp [(.nm 2), (.nm 3)]) (.tup [.int i, .str ⟨#[a, b]⟩]) [s0, .fz (.str z), s2, s3] = some [s0, .fz (.str z), .fz (.int i), .fz (.str ⟨#[a, b]⟩)] := rfl
      show match (if z = ⟨#[a]⟩ ∨ z = ⟨#[b]⟩ then some (i, z == ⟨#[b]⟩) else plc z (i + 1) ks) with
        | some (j, b') => ∃ e, forL (.tp [(.nm 2), (.nm 3)]) plBody (.tup [.int i, .str ⟨#[a, b]⟩] :: enumD (i + 1) (ks.map D.str)) [s0, .fz (.str z), s2, s3] = .ret (.tup [.int j, .bl b']) e
        | none => ∃ e, forL (.tp [(.nm 2), (.nm 3)]) plBody (.tup [.int i, .str ⟨#[a, b]⟩] :: enumD (i + 1) (ks.map D.str)) [s0, .fz (.str z), s2, s3] = .nx e
      by_cases hq : z = ⟨#[a]⟩ ∨ z = ⟨#[b]⟩
      · rw [if_pos hq] at hb ⊢
        exact ⟨_, forL_ret ha hb⟩
      · rw [if_neg hq] at hb ⊢
        rw [forL_nx ha hb]
        exact pl_for s0 z hz ks (i + 1) _ _ fun x hx => h x (List.mem_cons_of_mem _ hx)
    · cases hp
theorem place_ok {ks : List Str} {z : Str} {j : Int} {b : Bool} (hz : PyData.strOk z = true) (h : ∀ k ∈ ks, pairB k = true ∧ PyData.strOk k = true) (hp : plc z 0 ks = some (j, b)) : runD mPlace 4 [.obj "Keyboard" [.tup (ks.map D.str)], .str z] = .ret (.tup [.int j, .bl b]) := by
  have key := pl_for (.fz (.obj "Keyboard" [.tup (ks.map D.str)])) z hz ks 0 .un .un h
  rw [hp] at key
  obtain ⟨e, key⟩ := key
  unfold runD mPlace
  rw [show ev0 4 [.obj "Keyboard" [.tup (ks.map D.str)], .str z] = [.fz (.obj "Keyboard" [.tup (ks.map D.str)]), .fz (.str z), .un, .un] from rfl, sq_ret (for_v (enum_v (vAttr (vV rfl) rfl) rfl) key)]
theorem place_no {ks : List Str} {z : Str} (hz : PyData.strOk z = true) (h : ∀ k ∈ ks, pairB k = true ∧ PyData.strOk k = true) (hp : plc z 0 ks = none) : runD mPlace 4 [.obj "Keyboard" [.tup (ks.map D.str)], .str z] = .exc ⟨"UnknownSign", none⟩ := by
  have key := pl_for (.fz (.obj "Keyboard" [.tup (ks.map D.str)])) z hz ks 0 .un .un h
  rw [hp] at key
  obtain ⟨e, key⟩ := key
  unfold runD mPlace
  rw [show ev0 4 [.obj "Keyboard" [.tup (ks.map D.str)], .str z] = [.fz (.obj "Keyboard" [.tup (ks.map D.str)]), .fz (.str z), .un, .un] from rfl, sq_nx (for_v (enum_v (vAttr (vV rfl) rfl) rfl) key) rfl]
  rfl
end TF
/-! #### text PL8 -/
set_option Elab.async false
set_option linter.all false
set_option maxRecDepth 100000
set_option maxHeartbeats 400000
/-! PL8: Keyboard's readings, on plain data. -/
namespace TF
open PySem L2
def mKs : SX := (sOf (eAttr "Keyboard" 0 (eV 0)) sRet)
def ksR : List D → Rv := runD mKs 1
def mSigns : SX := (sOf (eJoin "" (eN dSorted [(eJoin "" (eAttr "Keyboard" 0 (eV 0)))])) sRet)
def signsR : List D → Rv := runD mSigns 1
def placeR : List D → Rv := runD mPlace 4
def mKlen : SX := (sOf (eN dLen [(eAttr "Keyboard" 0 (eV 0))]) sRet)
def klenR : List D → Rv := runD mKlen 1
def mKeq : SX := (sOf (eAnd (eIsC "Keyboard" (eV 1)) (e2 dEq (eAttr "Keyboard" 0 (eV 0)) (eProp "Keyboard" ksR (eV 1)))) sRet)
def keqR : List D → Rv := runD mKeq 2
abbrev KB (ks : List Str) : D := .obj "Keyboard" [.tup (ks.map D.str)]
theorem runD_ret {m : SX} {n : Nat} {ds : List D} {d : D} {e : Ev} (h : m (ev0 n ds) = .ret d e) : runD m n ds = .ret d := by unfold runD; rw [h]
theorem runD_exc {m : SX} {n : Nat} {ds : List D} {x : Xc} {e : Ev} (h : m (ev0 n ds) = .exc x e) : runD m n ds = .exc x := by unfold runD; rw [h]
theorem ks_law (ks : List Str) : ksR [KB ks] = .ret (.tup (ks.map D.str)) := runD_ret (e := [.fz (KB ks)]) (stR (vAttr (vV rfl) rfl))
theorem klen_law (ks : List Str) : klenR [KB ks] = .ret (.int ks.length) := by
  have h : dLen [.tup (ks.map D.str)] = some (.int ks.length) := by
    show some (D.int (ks.map D.str).length) = _
    rw [List.length_map]
  exact runD_ret (e := [.fz (KB ks)]) (stR (vN (vsC (vAttr (vV rfl) rfl) vs0) h))
theorem pl_strs {ks : List Str} (h : ∀ k ∈ ks, PyData.strOk k = true) (n : Nat) : (D.tup (ks.map D.str)).pl (n + 1) = true := by
  show D.pls n (ks.map D.str) = true
  refine pls_all fun d hd => ?_
  obtain ⟨k, hk, rfl⟩ := List.mem_map.mp hd
  exact pl_str (h k hk) n
theorem deqs_strs : ∀ (a b : List Str), deqs (a.map D.str) (b.map D.str) = decide (a = b)
  | [], [] => rfl
  | [], _ :: _ => by simp [deqs]
  | _ :: _, [] => by simp [deqs]
  | x :: a, y :: b => by
    rw [List.map_cons, List.map_cons]
    show ((x == y) && deqs (a.map D.str) (b.map D.str)) = _
    rw [deqs_strs a b, Bool.eq_iff_iff]
    simp
theorem keq_law {a b : List Str} (ha : ∀ k ∈ a, PyData.strOk k = true) (hb : ∀ k ∈ b, PyData.strOk k = true) : keqR [KB a, KB b] = .ret (.bl (decide (a = b))) := by
  have h := dEq_of (pl_strs ha 19) (pl_strs hb 19)
  have hd : deq (.tup (a.map D.str)) (.tup (b.map D.str)) = decide (a = b) := deqs_strs a b
  rw [hd] at h
  have hc : eIsC "Keyboard" (eV 1) [.fz (KB a), .fz (KB b)] = .val (.bl true) [.fz (KB a), .fz (KB b)] := rfl
  exact runD_ret (e := [.fz (KB a), .fz (KB b)]) (stR (vAnd hc fun _ => v2 (vAttr (vV rfl) rfl) (vProp (vV rfl) (ks_law b)) h))
/-! ### texts -/
theorem strOk_mem {x : Str} : PyData.strOk x = true ↔ ∀ c ∈ x.cps.toList, c < 0x110000 := by
  unfold PyData.strOk
  rw [Array.all_eq_true']
  simp
theorem strOk_app {x y : Str} (hx : PyData.strOk x = true) (hy : PyData.strOk y = true) : PyData.strOk (x ++ y) = true := by
  rw [strOk_mem] at *
  intro c hc
  rcases (str_app_mem x y c).mp hc with h | h
  · exact hx c h
  · exact hy c h
theorem strOk_join {z : Str} (hz : PyData.strOk z = true) : ∀ ys : List Str, (∀ y ∈ ys, PyData.strOk y = true) → PyData.strOk (Str.join z ys) = true
  | [], _ => by show PyData.strOk Str.empty = true; decide +kernel
  | [y], h => h y List.mem_cons_self
  | y :: y2 :: ys, h => strOk_app (strOk_app (h y List.mem_cons_self) hz) (strOk_join hz (y2 :: ys) fun q hq => h q (List.mem_cons_of_mem _ hq))
theorem join_len0 : ∀ ys : List Str, (Str.join "" ys).length = (ys.map (·.length)).sum
  | [] => rfl
  | [y] => by simp [Str.join]
  | y :: y2 :: ys => by
    show ((y ++ ("" : Str)) ++ Str.join "" (y2 :: ys)).length = _
    rw [str_app, str_app, join_len0 (y2 :: ys), List.map_cons, List.map_cons, List.sum_cons, List.sum_cons, List.map_cons, List.sum_cons, show ("" : Str).length = 0 from by decide +kernel]
    omega
theorem join_txt (z : Str) (ys : List Str) : Txt.join z ys = Str.join z ys := TL.join_eq z ys
theorem joinD_ok {ys : List Str} (h : (ys.map (·.length)).sum ≤ 10000) : joinD "" ys = some (.str (Str.join "" ys)) := by
  unfold joinD
  rw [show ("" : Str).length = 0 from by decide +kernel, if_pos (by omega), join_txt]
theorem chs_of : ∀ (ds : List D) (L : List Nat), (∀ d ∈ ds, ∃ c ∈ L, d = chD c) → ∃ l : List Nat, ds = l.map chD ∧ ∀ c ∈ l, c ∈ L
  | [], _, _ => ⟨[], rfl, fun _ h => by cases h⟩
  | d :: ds, L, h => by
    obtain ⟨c, hc, rfl⟩ := h d List.mem_cons_self
    obtain ⟨l, rfl, hl⟩ := chs_of ds L fun x hx => h x (List.mem_cons_of_mem _ hx)
    exact ⟨c :: l, rfl, fun x hx => by
      rcases List.mem_cons.mp hx with e | hx
      · rw [e]; exact hc
      · exact hl x hx⟩
def sortS (x : Str) : List D := sortD (signsD x)
theorem okSort_ch {x : Str} (ho : PyData.strOk x = true) (hl : x.length ≤ 10000) : okSort (signsD x) = true := by
  unfold okSort signsD
  simp only [Bool.and_eq_true, Bool.or_eq_true, decide_eq_true_eq, List.all_eq_true]
  refine ⟨⟨⟨?_, ?_⟩, ?_⟩, .inr ?_⟩
  · rw [List.length_map, str_len]; omega
  · intro d hd
    obtain ⟨c, hc, rfl⟩ := List.mem_map.mp hd
    exact chOk ho 20 c hc
  · intro d hd d2 hd2
    obtain ⟨c, hc, rfl⟩ := List.mem_map.mp hd
    obtain ⟨c2, hc2, rfl⟩ := List.mem_map.mp hd2
    rfl
  · intro d hd
    obtain ⟨c, hc, rfl⟩ := List.mem_map.mp hd
    rfl
theorem sorted_join {x : Str} (ho : PyData.strOk x = true) (hl : x.length ≤ 10000) : ∃ z, dSorted [.str x] = some (.lst (sortS x)) ∧ dJoin (.str "") (.lst (sortS x)) = some (.str z) ∧ PyData.strOk z = true := by
  obtain ⟨l, e, h⟩ := chs_of (sortS x) x.cps.toList fun d hd => by
    obtain ⟨c, hc, rfl⟩ := List.mem_map.mp ((List.mergeSort_perm _ _).mem_iff.mp hd)
    exact ⟨c, hc, rfl⟩
  have hlen : l.length = x.length := by
    have h1 : (sortS x).length = (signsD x).length := (List.mergeSort_perm _ _).length_eq
    rw [e, List.length_map] at h1
    rw [h1]; unfold signsD; rw [List.length_map, str_len]
  have hj : dJoin (.str "") (.lst (sortS x)) = joinD "" (l.map fun c => ⟨#[c]⟩) := by
    rw [e]
    have e2 : l.map chD = (l.map fun c => (⟨#[c]⟩ : Str)).map D.str := by rw [List.map_map]; rfl
    show (strsOf (l.map chD)).bind (joinD "") = _
    rw [e2, strsOf_map]; rfl
  refine ⟨Str.join "" (l.map fun c => ⟨#[c]⟩), ?_, ?_, ?_⟩
  · show (if okSort (signsD x) then some (D.lst (sortD (signsD x))) else none) = _
    rw [if_pos (okSort_ch ho hl)]; rfl
  · rw [hj]
    refine joinD_ok ?_
    have : ∀ l : List Nat, ((l.map fun c => (⟨#[c]⟩ : Str)).map (·.length)).sum = l.length := fun l => by
      induction l with
      | nil => rfl
      | cons c l ih => rw [List.map_cons, List.map_cons, List.sum_cons, ih, List.length_cons]; show 1 + _ = _; omega
    rw [this, hlen]; exact hl
  · refine strOk_join (by decide +kernel) _ fun y hy => ?_
    obtain ⟨c, hc, rfl⟩ := List.mem_map.mp hy
    rw [strOk_mem] at ho ⊢
    intro c2 hc2
    have : c2 = c := by simpa using hc2
    subst this
    exact ho c2 (h c2 hc)
theorem signs_law {ks : List Str} (ho : ∀ k ∈ ks, PyData.strOk k = true) (hl : (ks.map (·.length)).sum ≤ 10000) : ∃ z, PyData.strOk z = true ∧ (∀ f : EX, ∀ e e1, f e = .val (.tup (ks.map D.str)) e1 → (eJoin "" (eN dSorted [(eJoin "" f)])) e = .val (.str z) e1) ∧ signsR [KB ks] = .ret (.str z) := by
  have hJ : PyData.strOk (Str.join "" ks) = true := strOk_join (by decide +kernel) ks ho
  have hJl : (Str.join "" ks).length ≤ 10000 := by rw [join_len0]; exact hl
  obtain ⟨z, h1, h2, h3⟩ := sorted_join hJ hJl
  have hj : dJoin (.str "") (.tup (ks.map D.str)) = some (.str (Str.join "" ks)) := by
    show (strsOf (ks.map D.str)).bind (joinD "") = _
    rw [strsOf_map]
    exact joinD_ok hl
  have key : ∀ f : EX, ∀ e e1, f e = .val (.tup (ks.map D.str)) e1 → (eJoin "" (eN dSorted [(eJoin "" f)])) e = .val (.str z) e1 := fun f e e1 hf => vJoin (vN (vsC (vJoin hf hj) vs0) h1) h2
  exact ⟨z, h3, key, runD_ret (e := [.fz (KB ks)]) (stR (key _ _ _ (vAttr (vV rfl) rfl)))⟩
/-! ### the law's index -/
def mIndex : SX := (sSeq (sTryAs ["InvalidKeyboard"] [] 1 (sOf (eMake "Keyboard" kb_r [(eV 0)]) fun _ => sNext) (sOf (eFld ["InvalidKeyboard"] 1 "index") sRet))
  (sOf (eC .non) sRet))
def kindexR : List D → Rv := runD mIndex 2
theorem tryAs_nx {ys ns : List Str} {i : Nat} {b su : SX} {e e1 : Ev} (h : b e = .nx e1) : sTryAs ys ns i b su e = .nx e1 := by unfold sTryAs; rw [h]
theorem tryAs_ret {ys ns : List Str} {i : Nat} {b su : SX} {e e1 : Ev} {x : Xc} {d : D} {e2 : Ev} (h : b e = .exc x e1) (hc : ys.contains x.c = true) (hn : noEx e1 = true) (h2 : su (e1.set i (.ex x)) = .ret d e2) (hn2 : noEx (e2.set i .un) = true) : sTryAs ys ns i b su e = .ret d (e2.set i .un) := by
  unfold sTryAs; rw [h]; simp only []; rw [if_pos hc, if_pos hn, h2]; unfold endEx; simp only []; rw [if_pos hn2]
theorem tryOnly_nx {ys ns : List Str} {b su : SX} {e e1 : Ev} {x : Xc} {e2 : Ev} (h : b e = .exc x e1) (hc : ys.contains x.c = true) (hn : noEx e1 = true) (h2 : su e1 = .nx e2) (hn2 : noEx e2 = true) : sTryOnly ys ns b su e = .nx e2 := by
  unfold sTryOnly; rw [h]; simp only []; rw [if_pos hc, if_pos hn, h2]; simp only []; rw [if_pos hn2]
theorem vFld {ys : List Str} {i : Nat} {fn : Str} {e : Ev} {x : Xc} {fs : List (Str × D)} {d : D} (h : e[i]? = some (.ex x)) (hc : ys.contains x.c = true) (hf : x.fs = some fs) (hl : fs.lookup fn = some d) : eFld ys i fn e = .val d e := by
  unfold eFld; rw [h]; simp only []; rw [if_pos hc, hf]; simp only []; rw [hl]; rfl
theorem index_exc {ks : List Str} {j : Int} (h : okKs ks = true) (h2 : kbR ks = some j) : kindexR [.tup (ks.map D.str)] = .ret (.int j) := by
  have hm : eMake "Keyboard" kb_r [(eV 0)] [.fz (.tup (ks.map D.str)), .un] = .exc ⟨"InvalidKeyboard", some [("index", .int j)]⟩ [.fz (.tup (ks.map D.str)), .un] := xMake (vsC (vV rfl) vs0) (kb_r_exc h h2)
  have hc : (["InvalidKeyboard"] : List Str).contains "InvalidKeyboard" = true := by decide +kernel
  exact runD_ret (sq_ret (tryAs_ret (i := 1) (sOf_x hm) hc rfl (stR (vFld rfl hc rfl rfl)) rfl))
theorem index_none {ks : List Str} (h : okKs ks = true) (h2 : kbR ks = none) : kindexR [.tup (ks.map D.str)] = .ret .non := by
  have hm : eMake "Keyboard" kb_r [(eV 0)] [.fz (.tup (ks.map D.str)), .un] = .val (KB ks) [.fz (.tup (ks.map D.str)), .un] := vMake (vsC (vV rfl) vs0) (kb_r_ok h h2)
  exact runD_ret (sq_nx (tryAs_nx (i := 1) (sOf_v hm)) (stR vC))
end TF
/-! #### text PL9a -/
set_option Elab.async false
set_option linter.all false
set_option maxRecDepth 100000
set_option maxHeartbeats 400000
/-! PL9a: keyboards drawn, and what the first law asks of them. -/
namespace TF
open PySem L2
structure GK (ks : List Str) : Prop where
  two : 2 ≤ ks.length
  ten : ks.length ≤ 8
  len : (ks.map (·.length)).sum ≤ 100
  sok : ∀ k ∈ ks, PyData.strOk k = true
  key : ∀ k ∈ ks, keyB k = true
  ap : apartB ks
  nd : ks.Nodup
theorem k8 : ∀ k ∈ KEYS8, keyB k = true ∧ PyData.strOk k = true ∧ k.length = 2 := by decide +kernel
theorem k8a : ∀ a ∈ KEYS8, ∀ b ∈ KEYS8, a ≠ b → ∀ c ∈ b.cps.toList, c ∉ a.cps.toList := by decide +kernel
theorem k8n : KEYS8.Nodup := by decide +kernel
theorem sum_two : ∀ {l : List Str}, (∀ k ∈ l, k.length = 2) → (l.map (·.length)).sum = 2 * l.length
  | [], _ => rfl
  | k :: l, h => by
    rw [List.map_cons, List.sum_cons, h k List.mem_cons_self, sum_two fun x hx => h x (List.mem_cons_of_mem _ hx), List.length_cons]
    omega
theorem GK.of_perm {f rest : List Str} (h : List.Perm (f ++ rest) KEYS8) (h2 : 2 ≤ f.length) : GK f := by
  have hm : ∀ k ∈ f, k ∈ KEYS8 := fun k hk => h.mem_iff.mp (List.mem_append_left _ hk)
  have hnd : f.Nodup := (List.nodup_append.mp (h.nodup_iff.mpr k8n)).1
  have hl : f.length ≤ 8 := by
    have := h.length_eq
    rw [List.length_append] at this
    have h8 : KEYS8.length = 8 := rfl
    omega
  refine ⟨h2, hl, ?_, fun k hk => (k8 k (hm k hk)).2.1, fun k hk => (k8 k (hm k hk)).1, ?_, hnd⟩
  · rw [sum_two fun k hk => (k8 k (hm k hk)).2.2]; omega
  · exact List.Pairwise.imp_of_mem (fun ha hb hne => k8a _ (hm _ ha) _ (hm _ hb) hne) hnd
theorem GK.pair {ks : List Str} (g : GK ks) : ∀ k ∈ ks, pairB k = true ∧ PyData.strOk k = true := fun k hk => by
  have := g.key k hk
  unfold keyB at this
  exact ⟨((Bool.and_eq_true _ _).mp this).1, g.sok k hk⟩
theorem pair_ex {k : Str} (h : pairB k = true) : ∃ a b, k = ⟨#[a, b]⟩ ∧ a ≠ b := by
  obtain ⟨⟨l⟩⟩ := k
  unfold pairB at h
  split at h
  · rename_i a b hl
    cases (show l = [a, b] from hl)
    exact ⟨a, b, rfl, by simpa using h⟩
  · cases h
theorem okKs_of {ks : List Str} (h1 : (ks.map (·.length)).sum ≤ 1000) (h2 : ∀ k ∈ ks, PyData.strOk k = true) : okKs ks = true := by
  unfold okKs
  rw [Bool.and_eq_true, decide_eq_true_eq, List.all_eq_true]
  exact ⟨h1, h2⟩
theorem kbR_of {ks : List Str} (h : kbI 0 "" ks = none) (h2 : 2 ≤ ks.length) : kbR ks = none := by
  unfold kbR; rw [h]; simp only []; rw [if_neg (by omega)]
theorem GK.none {ks : List Str} (g : GK ks) : kbR ks = none := kbR_of (kbI_ok ks 0 "" g.key g.ap (fun k _ c _ hc => by cases (show c ∈ ([] : List Nat) from hc)) (by have := g.ten; omega)) g.two
theorem GK.perm {ks l : List Str} (g : GK ks) (h : List.Perm l ks) : GK l := by
  refine ⟨by rw [h.length_eq]; exact g.two, by rw [h.length_eq]; exact g.ten, by rw [(h.map _).sum_nat]; exact g.len, fun k hk => g.sok k (h.mem_iff.mp hk), fun k hk => g.key k (h.mem_iff.mp hk), ?_, h.nodup_iff.mpr g.nd⟩
  have sy : ∀ {x y : Str}, (∀ c ∈ y.cps.toList, c ∉ x.cps.toList) → ∀ c ∈ x.cps.toList, c ∉ y.cps.toList := fun hab c hc hc2 => hab c hc2 hc
  exact (List.Perm.pairwise_iff sy h).mpr g.ap
theorem GK.rev {ks : List Str} (g : GK ks) : GK ks.reverse := g.perm (List.reverse_perm ks)
theorem rev_ne {ks : List Str} (g : GK ks) : ks ≠ ks.reverse := by
  match ks, g with
  | [], g => exact absurd g.two (by simp)
  | [a], g => exact absurd g.two (by simp)
  | a :: b :: l, g =>
    intro h
    have hl : (a :: b :: l).getLast (by simp) = a := by
      have : (a :: b :: l).reverse.head (by simp) = a := by
        have e : (a :: b :: l).reverse.head? = (a :: b :: l).head? := by rw [← h]
        rw [List.head?_eq_some_head (by simp)] at e
        simpa using e
      rw [List.head_reverse] at this
      exact this
    have hm : a ∈ b :: l := by
      rw [List.getLast_cons (by simp)] at hl
      rw [← hl]
      exact List.getLast_mem _
    exact (List.nodup_cons.mp g.nd).1 hm
/-! ### a wrong key -/
theorem badK_no {k : Str} (h : keyB k = false) (i : Int) (known : Str) : badK i known k = true := by
  unfold badK
  unfold keyB at h
  cases hp : pairB k with
  | false => simp
  | true =>
    rw [hp, Bool.true_and] at h
    have : k.cps.toList.any (badC known) = true := by
      rw [List.all_eq_false] at h
      obtain ⟨c, hc, hn⟩ := h
      rw [List.any_eq_true]
      exact ⟨c, hc, by unfold badC; simp only [decide_eq_true_eq] at hn; simp [hn]⟩
    rw [this]; simp
theorem badK_kn {k known : Str} {c : Nat} (h1 : c ∈ k.cps.toList) (h2 : c ∈ known.cps.toList) (i : Int) : badK i known k = true := by
  unfold badK
  have : k.cps.toList.any (badC known) = true := by
    rw [List.any_eq_true]
    exact ⟨c, h1, by unfold badC; rw [decide_eq_true h2]; simp⟩
  rw [this]; simp
/-- a wrong key put in at place n -/
theorem wrong_at {ks : List Str} (g : GK ks) {w : Str} {n : Nat} (hn : n ≤ ks.length) (hw : keyB w = false ∨ ∃ c ∈ w.cps.toList, ∃ k ∈ ks.take n, c ∈ k.cps.toList) : kbR (ks.take n ++ [w] ++ ks.drop n) = some (n : Int) := by
  have h1 : kbI 0 "" (ks.take n) = none := kbI_ok _ 0 "" (fun k hk => g.key k (List.mem_of_mem_take hk)) (g.ap.sublist (List.take_sublist n ks)) (fun k _ c _ hc => by cases (show c ∈ ([] : List Nat) from hc)) (by rw [List.length_take]; have := g.ten; omega)
  have h2 : kbI 0 "" (ks.take n ++ [w] ++ ks.drop n) = some (n : Int) := by
    rw [List.append_assoc, kbI_app _ _ _ _ h1, List.length_take, Nat.min_eq_left hn]
    show (if badK _ _ w then some _ else _) = _
    rw [if_pos, Int.zero_add]
    rcases hw with hw | ⟨c, h3, k, h4, h5⟩
    · exact badK_no hw _ _
    · exact badK_kn h3 ((catS_mem _ _ _).mpr (.inr ⟨k, h4, h5⟩)) _
  unfold kbR
  rw [h2]
/-! ### place_of -/
theorem plc_at : ∀ (ks : List Str) (i : Int) (n : Nat) (a b : Nat) (v : Bool), apartB ks → (∀ k ∈ ks, pairB k = true) → ks[n]? = some ⟨#[a, b]⟩ → a ≠ b → plc (if v then ⟨#[b]⟩ else ⟨#[a]⟩) i ks = some (i + n, v)
  | [], _, _, _, _, _, _, _, h, _ => by simp at h
  | k :: ks, i, 0, a, b, v, _, _, h, hab => by
    cases (show k = ⟨#[a, b]⟩ from by simpa using h)
    have hne : ¬ a = b := hab
    cases v with
    | true => simp [plc]
    | false => simp [plc, hne]
  | k :: ks, i, n + 1, a, b, v, hap, hp, h, hab => by
    obtain ⟨x, y, rfl, hxy⟩ := pair_ex (hp k List.mem_cons_self)
    have hap' := List.pairwise_cons.mp hap
    rw [List.getElem?_cons_succ] at h
    have hm := List.mem_of_getElem? h
    have ha : a ≠ x ∧ a ≠ y := by simpa using hap'.1 _ hm a (by simp)
    have hb : b ≠ x ∧ b ≠ y := by simpa using hap'.1 _ hm b (by simp)
    have ih := plc_at ks (i + 1) n a b v hap'.2 (fun q hq => hp q (List.mem_cons_of_mem _ hq)) h hab
    have e : i + ((n + 1 : Nat) : Int) = i + 1 + (n : Int) := by omega
    rw [e, ← ih]
    cases v with
    | true => simp [plc, hb]
    | false => simp [plc, ha]
theorem plc_none : ∀ (ks : List Str) (i : Int) (z : Str), (∀ k ∈ ks, pairB k = true) → (z.length ≠ 1 ∨ ∃ c, z = ⟨#[c]⟩ ∧ ∀ k ∈ ks, c ∉ k.cps.toList) → plc z i ks = none
  | [], _, _, _, _ => rfl
  | k :: ks, i, z, hp, hz => by
    obtain ⟨x, y, rfl, hxy⟩ := pair_ex (hp k List.mem_cons_self)
    have ih := plc_none ks (i + 1) z (fun q hq => hp q (List.mem_cons_of_mem _ hq)) (hz.imp id fun ⟨c, h1, h2⟩ => ⟨c, h1, fun q hq => h2 q (List.mem_cons_of_mem _ hq)⟩)
    have hn : ¬ (z = ⟨#[x]⟩ ∨ z = ⟨#[y]⟩) := by
      rintro (e | e)
      · rcases hz with h | ⟨c, h1, h2⟩
        · exact h (by rw [e]; rfl)
        · have := h2 _ List.mem_cons_self
          rw [h1] at e
          have : c = x := by simpa using e
          simp_all
      · rcases hz with h | ⟨c, h1, h2⟩
        · exact h (by rw [e]; rfl)
        · have := h2 _ List.mem_cons_self
          rw [h1] at e
          have : c = y := by simpa using e
          simp_all
    show (if z = ⟨#[x]⟩ ∨ z = ⟨#[y]⟩ then some (i, z == ⟨#[y]⟩) else plc z (i + 1) ks) = none
    rw [if_neg hn]; exact ih
end TF
/-! #### text PL9b -/
set_option Elab.async false
set_option linter.all false
set_option maxRecDepth 100000
set_option maxHeartbeats 400000
/-! PL9b: the first law, statement by statement. -/
namespace TF
open PySem L2
local macro_rules
  | `(tactic| left) => `(tactic| first
    | with_reducible exact vC
    | with_reducible exact vs0
    | (with_reducible apply vV); rfl
    | (with_reducible apply vW'); rfl
    | assumption
    | (with_reducible apply v2); (focus left); (focus left); (focus first | assumption | rfl)
    | (with_reducible apply vN); (focus left); (focus first | assumption | rfl)
    | (with_reducible apply vsC); (focus left); (focus left)
    | (with_reducible apply vNot); left
    | (with_reducible apply vIsi); (focus left); (focus first | assumption | rfl)
    | (with_reducible apply vCall); (focus left); (focus first | assumption | rfl)
    | (with_reducible apply vAttr); (focus left); (focus first | assumption | rfl)
    | (with_reducible apply vProp); (focus left); (focus first | assumption | rfl)
    | (with_reducible apply vMeth); (focus left); (focus left); (focus first | assumption | rfl)
    | (with_reducible apply vMake); (focus left); (focus first | assumption | rfl)
    | (with_reducible apply vJoin); (focus left); (focus first | assumption | rfl)
    | (with_reducible apply vRev); (focus left); (focus first | assumption | rfl)
    | (with_reducible apply vCallS1); (focus rfl); (focus left); (focus rfl); (focus first | assumption | rfl))
def q1 : SX := (sOf (eCallS keysR 1 [(eC (.int 8))]) (sAsg (.nm 3)))
def q2 : SX := (sPK [(.f, 4, (eMake "Keyboard" kb_r [(eV 3)])), (.f, 5, (eCallS nextR 1 [(e2 dAdd (eN dLen [(eW 3)]) (eC (.int 1)))]))])
def q3 : SX := (sOf (eN mkL [(eC (.str "")), (eC (.str "q")), (eC (.str "qq")), (eC (.str "qrs")), (eC (.str "q ")), (eC (.str "/q")), (eC (.str "q@")), (e2 dAdd (eC (.str "Q")) (e2 dIx (e2 dIx (eW 3) (eC (.int 0))) (eC (.int 0)))), (e2 dIx (eW 3) (eC (.int 0))), (eC (.str "q_"))]) (sAsg (.nm 6)))
def q4 : SX := (sOf (e2 dIx (eW 6) (eCallS nextR 1 [(eC (.int 10))])) (sAsg (.nm 7)))
def q5 : SX := (sOf (eIf (e2 dIn (eW 7) (eN mkT [(e2 dAdd (eC (.str "Q")) (e2 dIx (e2 dIx (eW 3) (eC (.int 0))) (eC (.int 0)))), (e2 dIx (eW 3) (eC (.int 0)))])) (eN dMax2 [(eC (.int 1)), (eW 5)]) (eV 5)) (sAsg (.nm 5)))
def q6 : SX := (sIf (eNot (eCall (alkR 5) [(eCall kindexR [(e2 dAdd (e2 dAdd (eSl (eW 3) none (some (eV 5))) (eN mkT [(eV 7)])) (eSl (eW 3) (some (eV 5)) none))]), (eV 5)])) (sOf (eC (.bl false)) sRet) sNext)
def q7 : SX := (sOf (eN dTupOf [(eN mkL [(eC (.str "a1")), (eC (.str "b2")), (eC (.str "c3")), (eC (.str "d4")), (eC (.str "e5")), (eC (.str "f6")), (eC (.str "g7")), (eC (.str "h8")), (eC (.str "i9")), (eC (.str "j0"))])]) (sAsg (.nm 8)))
def q8 : SX := (sOf (eLc (List.map (·.2) ([("_law_some", 10)] : List (Str × Nat))) (iOf (eN mkT [(eN mkT []), (eSl (eW 3) none (some (eC (.int 1)))), (eV 8), (e2 dAdd (eW 8) (eN mkT [(eC (.str "kK"))])), (e2 dAdd (eW 8) (eN mkT [(eC (.str ""))]))])) (.nm 10) (eC (.bl true)) (eCall kindexR [(eV 10)])) (sAsg (.nm 9)))
def q9 : SX := (sIf (eNot (eCall (alkR 5) [(eV 9), (eN mkL [(eC (.int 0)), (eC (.int 1)), (eC .non), (eC (.int 10)), (eC (.int 10))])])) (sOf (eC (.bl false)) sRet) sNext)
def q10 : SX := (sOf (eJoin "" (eN dSorted [(eJoin "" (eW 3))])) (sAsg (.nm 11)))
def q11 : SX := (sIf (eNot (eCall (alkR 5) [(eN mkL [(eProp "Keyboard" ksR (eV 4)), (eProp "Keyboard" signsR (eV 4)), (eN (dLenO "Keyboard" klenR) [(eW 4)])]), (eN mkL [(eV 3), (eV 11), (eN dLen [(eW 3)])])])) (sOf (eC (.bl false)) sRet) sNext)
def q12 : SX := (sFor (iR1 (eN dLen [(eW 3)])) (.nm 12) (sSeq (sOf (eN mkL [(eMeth "Keyboard" placeR (eV 4) [(e2 dIx (e2 dIx (eW 3) (eW 12)) (eC (.int 0)))]), (eMeth "Keyboard" placeR (eV 4) [(e2 dIx (e2 dIx (eW 3) (eW 12)) (eC (.int 1)))])]) (sAsg (.nm 13))) (sIf (eNot (eCall (alkR 5) [(eV 13), (eN mkL [(eN mkT [(eV 12), (eC (.bl false))]), (eN mkT [(eV 12), (eC (.bl true))])])])) (sOf (eC (.bl false)) sRet) sNext)))
def q13 : SX := (sTryOnly ["UnknownSign"] [] (sSeq (sOf (eMeth "Keyboard" placeR (eV 4) [(e2 dIx (eN mkL [(eC (.str "q")), (eC (.str " ")), (eC (.str "")), (e2 dIx (eW 3) (eC (.int 0)))]) (eCallS nextR 1 [(eC (.int 4))]))]) fun _ => sNext) (sOf (eC (.bl false)) sRet)) (sOf (eC (.int 0)) (sAsg (.nm 5))))
def q14 : SX := (sIf (eOr (e2 (dOwn "Keyboard" keqR true) (eW 4) (eMake "Keyboard" kb_r [(eV 3)])) (e2 (dOwn "Keyboard" keqR false) (eW 4) (eMake "Keyboard" kb_r [(eRev (eW 3))]))) (sOf (eC (.bl false)) sRet) sNext)
abbrev sr (p q : Addr) (s : Src) : S := .src p q s.st s.cells s.ix
abbrev fs (x : Str) : S := .fz (.str x)
abbrev kt (ks : List Str) : D := .tup (ks.map D.str)
theorem spk_ff {i j : Nat} {f g : EX} {e e1 e2' : Ev} {d1 d2 : D} (h1 : f e = .val d1 e1) (h2 : g e1 = .val d2 e2') : sPK [(.f, i, f), (.f, j, g)] e = .nx ((e2'.set j (.fz d2)).set i (.fz d1)) := by
  unfold sPK
  rw [show ([(Kd.f, i, f), (Kd.f, j, g)].map fun x => x.2.2) = [f, g] from rfl, vsC h1 (vsC h2 vs0)]
  rfl
section
variable {p q : Addr} {s : Src} {r t2 t3 t4 t5 t6 t7 t8 t9 ta tb tc td : S}
def drK (s : Src) : List Str × Src := drawK (2 + nextN s 7) (nextZ s 7) KEYS8 []
theorem drK_ok (s : Src) : GK (drK s).1 ∧ (drK s).2.cells.length = s.cells.length := by
  have hlt := nextN_lt s (lim := 7) (by omega)
  obtain ⟨rest, h1, h2, h3⟩ := drawK_perm (2 + nextN s 7) (nextZ s 7) KEYS8 [] (by show _ ≤ 8; omega)
  exact ⟨GK.of_perm h1 (by show 2 ≤ (drawK (2 + nextN s 7) (nextZ s 7) KEYS8 []).1.length; rw [h2]; omega), h3.trans (nextZ_len s 7)⟩
theorem q1_ok (hs : s.cells.length ≤ 1000) : q1 [r, sr p q s, t2, t3, t4, t5, t6, t7, t8, t9, ta, tb, tc, td] = .nx [r, sr p q (drK s).2, t2, .fz (kt (drK s).1), t4, t5, t6, t7, t8, t9, ta, tb, tc, td] := by
  have hk : keysR s [.int 8] = some (kt (drK s).1, (drK s).2) := by
    show (if (1 : Int) < 8 ∧ (8 : Int) ≤ 8 ∧ s.cells.length ≤ 1000 then _ else _) = _
    rw [if_pos ⟨by omega, by omega, hs⟩]; rfl
  exact stA (vCallS1 (p := p) (q := q) (s := s) rfl (vsC vC vs0) rfl hk)
theorem q2_ok {ks : List Str} (g : GK ks) (hs : s.cells.length ≤ 1000) : q2 [r, sr p q s, t2, .fz (kt ks), t4, t5, t6, t7, t8, t9, ta, tb, tc, td] =
    .nx [r, sr p q (nextZ s (ks.length + 1)), t2, .fz (kt ks), .fz (KB ks), .fz (.int (nextN s (ks.length + 1) : Nat)), t6, t7, t8, t9, ta, tb, tc, td] := by
  have hm : eMake "Keyboard" kb_r [(eV 3)] [r, sr p q s, t2, .fz (kt ks), t4, t5, t6, t7, t8, t9, ta, tb, tc, td] = .val (KB ks) [r, sr p q s, t2, .fz (kt ks), t4, t5, t6, t7, t8, t9, ta, tb, tc, td] :=
    vMake (vsC (vV rfl) vs0) (kb_r_ok (okKs_of (by have := g.len; omega) g.sok) g.none)
  have hl : dLen [kt ks] = some (.int ks.length) := by
    show some (D.int (ks.map D.str).length) = _
    rw [List.length_map]
  have ha : dAdd (.int ks.length) (.int 1) = some (.int ((ks.length + 1 : Nat) : Int)) := by rw [Int.natCast_add]; rfl
  have hn := nextR_nat s (lim := ks.length + 1) (by omega) (by have := g.ten; omega) hs
  exact spk_ff hm (vCallS1 (p := p) (q := q) (s := s) rfl (vsC (v2 (vN (vsC (vW' rfl) vs0) hl) vC ha) vs0) rfl hn)
def BADS (a b : Nat) : List Str := ["", "q", "qq", "qrs", "q ", "/q", "q@", ("Q" : Str) ++ ⟨#[a]⟩, ⟨#[a, b]⟩, "q_"]
theorem q3_ok {ks : List Str} {a b : Nat} : q3 [r, sr p q s, t2, .fz (kt (⟨#[a, b]⟩ :: ks)), t4, t5, t6, t7, t8, t9, ta, tb, tc, td] =
    .nx [r, sr p q s, t2, .fz (kt (⟨#[a, b]⟩ :: ks)), t4, t5, .fz (.lst ((BADS a b).map D.str)), t7, t8, t9, ta, tb, tc, td] := by
  have i0 : dIx (kt (⟨#[a, b]⟩ :: ks)) (.int 0) = some (.str ⟨#[a, b]⟩) := rfl
  have i1 : dIx (.str ⟨#[a, b]⟩) (.int 0) = some (.str ⟨#[a]⟩) := rfl
  have i2 : dAdd (.str "Q") (.str ⟨#[a]⟩) = some (.str (("Q" : Str) ++ ⟨#[a]⟩)) := rfl
  unfold q3
  apply stA'
  · apply vN
    · left
    · rfl
  · rfl
theorem q4_ok {ks : List Str} {a b : Nat} (hs : s.cells.length ≤ 1000) : q4 [r, sr p q s, t2, t3, t4, t5, .fz (.lst ((BADS a b).map D.str)), t7, t8, t9, ta, tb, tc, td] =
    .nx [r, sr p q (nextZ s 10), t2, t3, t4, t5, .fz (.lst ((BADS a b).map D.str)), .fz (.str ((BADS a b).getD (nextN s 10) "")), t8, t9, ta, tb, tc, td] := by
  have hn := nextR_nat s (lim := 10) (by omega) (by omega) hs
  have hlt := nextN_lt s (lim := 10) (by omega)
  have hl : (BADS a b).length = 10 := rfl
  have hi : dIx (.lst ((BADS a b).map D.str)) (.int (nextN s 10 : Nat)) = some (.str ((BADS a b).getD (nextN s 10) "")) := by
    show dAt ((BADS a b).map D.str) (nextN s 10 : Nat) = _
    rw [dIx_at (by rw [List.length_map, hl]; exact hlt), List.getElem_map, List.getD_eq_getElem?_getD, List.getElem?_eq_getElem (by rw [hl]; exact hlt), Option.getD_some]
  exact stA (v2 (vW' rfl) (vCallS1 (p := p) (q := q) (s := s) rfl (vsC vC vs0) rfl hn) hi)
theorem dIn_two {x y z : Str} (hx : PyData.strOk x = true) (hy : PyData.strOk y = true) (hz : PyData.strOk z = true) : dIn (.str z) (.tup [.str x, .str y]) = some (.bl (decide (z = x ∨ z = y))) := by
  show (if (D.str z).pl 20 && D.pls 20 [.str x, .str y] then some (anyEq [.str x, .str y] (.str z)) else none).map _ = _
  rw [pl_str hz 20, pls_all (fun d hd => by
    rcases List.mem_cons.mp hd with e | hd
    · rw [e]; exact pl_str hx 20
    · rw [List.mem_singleton.mp hd]; exact pl_str hy 20)]
  rw [Bool.true_and, if_pos rfl]
  show some (D.bl ((x == z) || ((y == z) || false))) = _
  congr 2
  rw [Bool.or_false, Bool.eq_iff_iff]
  simp only [Bool.or_eq_true, beq_iff_eq, decide_eq_true_eq]
  exact ⟨fun h => h.elim (fun e => .inl e.symm) (fun e => .inr e.symm), fun h => h.elim (fun e => .inl e.symm) fun e => .inr e.symm⟩
abbrev QA (a : Nat) : Str := ("Q" : Str) ++ ⟨#[a]⟩
def plQ (a b : Nat) (w : Str) (n : Nat) : Nat := if w = QA a ∨ w = ⟨#[a, b]⟩ then max 1 n else n
theorem q5_ok {ks : List Str} {a b : Nat} {w : Str} {n : Nat} (ho : PyData.strOk ⟨#[a, b]⟩ = true) (hw : PyData.strOk w = true) : q5 [r, sr p q s, t2, .fz (kt (⟨#[a, b]⟩ :: ks)), t4, .fz (.int n), t6, .fz (.str w), t8, t9, ta, tb, tc, td] =
    .nx [r, sr p q s, t2, .fz (kt (⟨#[a, b]⟩ :: ks)), t4, .fz (.int (plQ a b w n : Nat)), t6, .fz (.str w), t8, t9, ta, tb, tc, td] := by
  have i0 : dIx (kt (⟨#[a, b]⟩ :: ks)) (.int 0) = some (.str ⟨#[a, b]⟩) := rfl
  have i1 : dIx (.str ⟨#[a, b]⟩) (.int 0) = some (.str ⟨#[a]⟩) := rfl
  have i2 : dAdd (.str "Q") (.str ⟨#[a]⟩) = some (.str (QA a)) := rfl
  have oQ : PyData.strOk (QA a) = true := strOk_app (by decide +kernel) (chOk ho 0 a (by simp))
  have hin := dIn_two oQ ho hw
  unfold q5 plQ
  by_cases h : w = QA a ∨ w = ⟨#[a, b]⟩
  · rw [decide_eq_true h] at hin
    rw [if_pos h]
    have hm : dMax2 [.int 1, .int (n : Nat)] = some (.int ((max 1 n : Nat) : Int)) := by
      show some (D.int (if (n : Int) > 1 then (n : Int) else 1)) = _
      congr 2
      split <;> omega
    apply stA'
    · apply vIfT
      · left
      · left
    · rfl
  · rw [decide_eq_false h] at hin
    rw [if_neg h]
    apply stA'
    · apply vIfF
      · left
      · left
    · rfl
theorem cut_take (ds : List D) (n : Nat) : cutD ds none (some (n : Int)) = ds.take n := by
  unfold cutD
  rw [HT.sIx_none, HT.sIx_nat, List.drop_zero, Nat.sub_zero]
  by_cases h : n ≤ ds.length
  · rw [Nat.min_eq_left h]
  · rw [Nat.min_eq_right (by omega), List.take_of_length_le (by omega), List.take_of_length_le (by omega)]
theorem cut_drop (ds : List D) (n : Nat) : cutD ds (some (n : Int)) none = ds.drop n := by
  unfold cutD
  rw [HT.sIx_none, HT.sIx_nat]
  by_cases h : n ≤ ds.length
  · rw [Nat.min_eq_left h, List.take_of_length_le (by rw [List.length_drop]; omega)]
  · rw [Nat.min_eq_right (by omega), List.drop_of_length_le (by omega), List.drop_of_length_le (by omega)]; simp
theorem vSlT {f g : EX} {e e1 e2' : Ev} {ds : List D} {n : Nat} (h1 : f e = .val (.tup ds) e1) (h2 : g e1 = .val (.int n) e2') : eSl f none (some g) e = .val (.tup (ds.take n)) e2' := by
  unfold eSl; rw [h1]; simp only [Rx.bind]; unfold optB; simp only []; rw [h2]; simp only [Rx.bind]
  show Rx.of (some (D.tup (cutD ds none (some n)))) e2' = _
  rw [cut_take]; rfl
theorem vSlD {f g : EX} {e e1 e2' : Ev} {ds : List D} {n : Nat} (h1 : f e = .val (.tup ds) e1) (h2 : g e1 = .val (.int n) e2') : eSl f (some g) none e = .val (.tup (ds.drop n)) e2' := by
  unfold eSl; rw [h1]; simp only [Rx.bind]; unfold optB; simp only []; rw [h2]; simp only [Rx.bind]
  show Rx.of (some (D.tup (cutD ds (some n) none))) e2' = _
  rw [cut_drop]; rfl
theorem al5 {d : D} (h : D.lk 5 d = true) : alkR 5 [d, d] = .ret (.bl true) := alike_self 5 d h
theorem dAdd_tup {x y : List D} (h : x.length + y.length ≤ 1000) : dAdd (.tup x) (.tup y) = some (.tup (x ++ y)) := by
  show (if x.length + y.length ≤ szB then _ else _) = _
  rw [if_pos (by unfold szB; omega)]
theorem q6_ok {ks : List Str} (g : GK ks) {w : Str} {n : Nat} (hn : n ≤ ks.length) (ho : PyData.strOk w = true) (hl : w.length ≤ 10) (hw : keyB w = false ∨ ∃ c ∈ w.cps.toList, ∃ k ∈ ks.take n, c ∈ k.cps.toList) :
    q6 [r, sr p q s, t2, .fz (kt ks), t4, .fz (.int n), t6, .fz (.str w), t8, t9, ta, tb, tc, td] = .nx [r, sr p q s, t2, .fz (kt ks), t4, .fz (.int n), t6, .fz (.str w), t8, t9, ta, tb, tc, td] := by
  have ht := g.ten
  have a1 : dAdd (.tup ((ks.map D.str).take n)) (.tup [.str w]) = some (.tup ((ks.map D.str).take n ++ [.str w])) := dAdd_tup (by rw [List.length_take, List.length_map, List.length_singleton]; omega)
  have a2 : dAdd (.tup ((ks.map D.str).take n ++ [.str w])) (.tup ((ks.map D.str).drop n)) = some (.tup ((ks.map D.str).take n ++ [.str w] ++ (ks.map D.str).drop n)) := dAdd_tup (by rw [List.length_append, List.length_take, List.length_drop, List.length_map, List.length_singleton]; omega)
  have e : (ks.map D.str).take n ++ [.str w] ++ (ks.map D.str).drop n = (ks.take n ++ [w] ++ ks.drop n).map D.str := by
    rw [List.map_append, List.map_append, List.map_take, List.map_drop]; rfl
  have hI : kindexR [kt (ks.take n ++ [w] ++ ks.drop n)] = .ret (.int n) := index_exc (okKs_of (by
      have hs : (((ks.take n) ++ (ks.drop n)).map (·.length)).sum ≤ 100 := by rw [List.take_append_drop]; exact g.len
      rw [List.map_append, List.sum_append] at hs
      rw [List.map_append, List.map_append, List.sum_append, List.sum_append]
      have : ([w].map (·.length)).sum = w.length := by simp
      omega) (fun k hk => by
      rcases List.mem_append.mp hk with hk | hk
      · rcases List.mem_append.mp hk with hk | hk
        · exact g.sok k (List.mem_of_mem_take hk)
        · rw [List.mem_singleton.mp hk]; exact ho
      · exact g.sok k (List.mem_of_mem_drop hk))) (wrong_at g hn hw)
  rw [e] at a2
  unfold q6
  refine si_f (b := !true) (vNot (vCall (vsC (vCall (vsC (v2 (v2 (vSlT (vW' rfl) (vV rfl)) (vN (vsC (vV rfl) vs0) rfl) a1) (vSlD (vW' rfl) (vV rfl)) a2) vs0) hI) (vsC (vV rfl) vs0)) (al5 rfl))) rfl rfl
end
end TF
/-! #### text PL9c -/
set_option Elab.async false
set_option linter.all false
set_option maxRecDepth 100000
set_option maxHeartbeats 400000
/-! PL9c: the first law, the rest of a turn. -/
namespace TF
open PySem L2
local macro_rules
  | `(tactic| left) => `(tactic| first
    | with_reducible exact vC
    | with_reducible exact vs0
    | (with_reducible apply vV); rfl
    | (with_reducible apply vW'); rfl
    | assumption
    | (with_reducible apply v2); (focus left); (focus left); (focus first | assumption | rfl)
    | (with_reducible apply vN); (focus left); (focus first | assumption | rfl)
    | (with_reducible apply vsC); (focus left); (focus left)
    | (with_reducible apply vNot); left
    | (with_reducible apply vIsi); (focus left); (focus first | assumption | rfl)
    | (with_reducible apply vCall); (focus left); (focus first | assumption | rfl)
    | (with_reducible apply vAttr); (focus left); (focus first | assumption | rfl)
    | (with_reducible apply vProp); (focus left); (focus first | assumption | rfl)
    | (with_reducible apply vMeth); (focus left); (focus left); (focus first | assumption | rfl)
    | (with_reducible apply vMake); (focus left); (focus first | assumption | rfl)
    | (with_reducible apply vJoin); (focus left); (focus first | assumption | rfl)
    | (with_reducible apply vRev); (focus left); (focus first | assumption | rfl)
    | (with_reducible apply vCallS1); (focus rfl); (focus left); (focus rfl); (focus first | assumption | rfl))
section
variable {p q : Addr} {s : Src} {r t2 t3 t4 t5 t6 t7 t8 t9 ta tb tc td : S}
abbrev MANY : List Str := ["a1", "b2", "c3", "d4", "e5", "f6", "g7", "h8", "i9", "j0"]
abbrev MK : List Str := MANY ++ (["kK"] : List Str)
abbrev ME : List Str := MANY ++ ([""] : List Str)
theorem lcL_t {own : List Nat} {t : Tg} {f el : EX} {d y : D} {ds acc : List D} {e e1 e2' e3 : Ev} (h1 : asg t d e = some e1) (h2 : f e1 = .val (.bl true) e2') (h3 : el e2' = .val y e3) (h4 : cleanE own 0 e3 = true) (h5 : acc.length < szB) : lcL own t f el (d :: ds) acc e = lcL own t f el ds (acc ++ [y]) (wipeE own 0 e3) := by
  rw [lcL, h1]; simp only []; rw [h2]; simp only []; rw [h3]; simp only []; rw [h4, decide_eq_true h5, Bool.true_and, if_pos rfl]
theorem q7_ok : q7 [r, sr p q s, t2, t3, t4, t5, t6, t7, t8, t9, ta, tb, tc, td] = .nx [r, sr p q s, t2, t3, t4, t5, t6, t7, .fz (kt MANY), t9, ta, tb, tc, td] := by
  apply stA'
  · left
  · rfl
def FND : D := .lst [.int 0, .int 1, .non, .int 10, .int 10]
theorem q8_ok {k : Str} {ks : List Str} (g : GK (k :: ks)) : q8 [r, sr p q s, t2, .fz (kt (k :: ks)), t4, t5, t6, t7, .fz (kt MANY), t9, .un, tb, tc, td] = .nx [r, sr p q s, t2, .fz (kt (k :: ks)), t4, t5, t6, t7, .fz (kt MANY), .fz FND, .un, tb, tc, td] := by
  have it : iOf (eN mkT [(eN mkT []), (eSl (eW 3) none (some (eC (.int 1)))), (eV 8), (e2 dAdd (eW 8) (eN mkT [(eC (.str "kK"))])), (e2 dAdd (eW 8) (eN mkT [(eC (.str ""))]))]) [r, sr p q s, t2, .fz (kt (k :: ks)), t4, t5, t6, t7, .fz (kt MANY), t9, .un, tb, tc, td] =
      .val [kt [], kt [k], kt MANY, kt MK, kt ME] [r, sr p q s, t2, .fz (kt (k :: ks)), t4, t5, t6, t7, .fz (kt MANY), t9, .un, tb, tc, td] := by
    have hs : eSl (eW 3) none (some (eC (.int 1))) [r, sr p q s, t2, .fz (kt (k :: ks)), t4, t5, t6, t7, .fz (kt MANY), t9, .un, tb, tc, td] = .val (kt [k]) [r, sr p q s, t2, .fz (kt (k :: ks)), t4, t5, t6, t7, .fz (kt MANY), t9, .un, tb, tc, td] :=
      (vSlT (n := 1) (vW' rfl) vC).trans rfl
    have a1 : dAdd (kt MANY) (.tup [.str "kK"]) = some (kt MK) := rfl
    have a2 : dAdd (kt MANY) (.tup [.str ""]) = some (kt ME) := rfl
    apply iof_v
    · left
    · rfl
  have i0 : kindexR [kt []] = .ret (.int 0) := index_exc (ks := []) (by decide +kernel) (by decide +kernel)
  have i1 : kindexR [kt [k]] = .ret (.int 1) := by
    refine index_exc (ks := [k]) (okKs_of (by have := g.len; rw [List.map_cons, List.sum_cons] at this; simp; omega) fun x hx => g.sok x (by rw [List.mem_singleton.mp hx]; exact List.mem_cons_self)) ?_
    have h1 : kbI 0 "" [k] = none := kbI_ok _ 0 "" (fun x hx => g.key x (by rw [List.mem_singleton.mp hx]; exact List.mem_cons_self)) (List.pairwise_singleton _ _) (fun x _ c _ hc => by cases (show c ∈ ([] : List Nat) from hc)) (by simp)
    unfold kbR; rw [h1]; rfl
  have i2 : kindexR [kt MANY] = .ret .non := index_none (by decide +kernel) (by decide +kernel)
  have i3 : kindexR [kt MK] = .ret (.int 10) := index_exc (by decide +kernel) (by decide +kernel)
  have i4 : kindexR [kt ME] = .ret (.int 10) := index_exc (by decide +kernel) (by decide +kernel)
  have lc : ∀ E : Ev, E = [r, sr p q s, t2, .fz (kt (k :: ks)), t4, t5, t6, t7, .fz (kt MANY), t9, .un, tb, tc, td] → lcL [10] (.nm 10) (eC (.bl true)) (eCall kindexR [(eV 10)]) [kt [], kt [k], kt MANY, kt MK, kt ME] [] E = .val [.int 0, .int 1, .non, .int 10, .int 10] E := by
    intro E hE
    subst hE
    have st : ∀ (d y : D) (acc rest : List D), kindexR [d] = .ret y → acc.length < szB → lcL [10] (.nm 10) (eC (.bl true)) (eCall kindexR [(eV 10)]) (d :: rest) acc [r, sr p q s, t2, .fz (kt (k :: ks)), t4, t5, t6, t7, .fz (kt MANY), t9, .un, tb, tc, td] =
        lcL [10] (.nm 10) (eC (.bl true)) (eCall kindexR [(eV 10)]) rest (acc ++ [y]) [r, sr p q s, t2, .fz (kt (k :: ks)), t4, t5, t6, t7, .fz (kt MANY), t9, .un, tb, tc, td] := fun d y acc rest h1 h2 =>
      lcL_t (e1 := [r, sr p q s, t2, .fz (kt (k :: ks)), t4, t5, t6, t7, .fz (kt MANY), t9, .fz d, tb, tc, td]) rfl rfl (vCall (vsC (vV rfl) vs0) h1) rfl h2
    have z : ∀ n, n < 6 → n < szB := fun n h => by unfold szB; omega
    rw [st _ _ _ _ i0 (z _ (by simp)), st _ _ _ _ i1 (z _ (by simp)), st _ _ _ _ i2 (z _ (by simp)), st _ _ _ _ i3 (z _ (by simp)), st _ _ _ _ i4 (z _ (by simp))]
    rfl
  have hv : eLc (List.map (·.2) ([("_law_some", 10)] : List (Str × Nat))) (iOf (eN mkT [(eN mkT []), (eSl (eW 3) none (some (eC (.int 1)))), (eV 8), (e2 dAdd (eW 8) (eN mkT [(eC (.str "kK"))])), (e2 dAdd (eW 8) (eN mkT [(eC (.str ""))]))])) (.nm 10) (eC (.bl true)) (eCall kindexR [(eV 10)]) [r, sr p q s, t2, .fz (kt (k :: ks)), t4, t5, t6, t7, .fz (kt MANY), t9, .un, tb, tc, td] =
      .val FND [r, sr p q s, t2, .fz (kt (k :: ks)), t4, t5, t6, t7, .fz (kt MANY), t9, .un, tb, tc, td] := by
    unfold eLc
    rw [it]
    have own : (List.map (·.2) ([("_law_some", 10)] : List (Str × Nat))) = [10] := rfl
    simp only [own]
    have c1 : cleanE [10] 0 [r, sr p q s, t2, .fz (kt (k :: ks)), t4, t5, t6, t7, .fz (kt MANY), t9, .un, tb, tc, td] = true := rfl
    have c2 : wipeE [10] 0 [r, sr p q s, t2, .fz (kt (k :: ks)), t4, t5, t6, t7, .fz (kt MANY), t9, .un, tb, tc, td] = [r, sr p q s, t2, .fz (kt (k :: ks)), t4, t5, t6, t7, .fz (kt MANY), t9, .un, tb, tc, td] := rfl
    rw [c1, c2, if_pos rfl, lc _ rfl]
    simp only []
    rw [c1, if_pos rfl]; rfl
  exact stA hv
theorem q9_ok : q9 [r, sr p q s, t2, t3, t4, t5, t6, t7, t8, .fz FND, ta, tb, tc, td] = .nx [r, sr p q s, t2, t3, t4, t5, t6, t7, t8, .fz FND, ta, tb, tc, td] := by
  have h := al5 (d := FND) (by decide +kernel)
  exact si_f (b := !true) (vNot (vCall (vsC (vV rfl) (vsC (d := FND) (vN (ds := [.int 0, .int 1, .non, .int 10, .int 10]) (vsC vC (vsC vC (vsC vC (vsC vC (vsC vC vs0))))) rfl) vs0)) h)) rfl rfl
theorem q10_ok {ks : List Str} (g : GK ks) : ∃ z, PyData.strOk z = true ∧ signsR [KB ks] = .ret (.str z) ∧ q10 [r, sr p q s, t2, .fz (kt ks), t4, t5, t6, t7, t8, t9, ta, tb, tc, td] = .nx [r, sr p q s, t2, .fz (kt ks), t4, t5, t6, t7, t8, t9, ta, .fz (.str z), tc, td] := by
  obtain ⟨z, h1, h2, h3⟩ := signs_law g.sok (by have := g.len; omega)
  exact ⟨z, h1, h3, stA (h2 _ _ _ (vW' rfl))⟩
theorem lk_strs {ks : List Str} (h : ∀ k ∈ ks, PyData.strOk k = true) (hl : ks.length ≤ 1000) (n : Nat) : D.lk (n + 2) (kt ks) = true := by
  show (decide ((ks.map D.str).length ≤ 1000) && (ks.map D.str).all (D.lk (n + 1))) = true
  rw [Bool.and_eq_true, decide_eq_true_eq, List.all_eq_true, List.length_map]
  refine ⟨hl, fun d hd => ?_⟩
  obtain ⟨k, hk, rfl⟩ := List.mem_map.mp hd
  exact h k hk
theorem dLen_tup (ks : List Str) : dLen [kt ks] = some (.int ks.length) := by
  show some (D.int (ks.map D.str).length) = _
  rw [List.length_map]
theorem dLenO_kb {ks : List Str} (h : ks.length ≤ 1000) : dLenO "Keyboard" klenR [KB ks] = some (.int ks.length) := by
  unfold dLenO
  simp only []
  rw [if_pos trivial, klen_law]
  simp only []
  rw [if_pos ⟨by omega, by omega⟩]
theorem q11_ok {ks : List Str} (g : GK ks) {z : Str} (ho : PyData.strOk z = true) (hz : signsR [KB ks] = .ret (.str z)) : q11 [r, sr p q s, t2, .fz (kt ks), .fz (KB ks), t5, t6, t7, t8, t9, ta, .fz (.str z), tc, td] = .nx [r, sr p q s, t2, .fz (kt ks), .fz (KB ks), t5, t6, t7, t8, t9, ta, .fz (.str z), tc, td] := by
  have hl := g.ten
  have h := al5 (d := .lst [kt ks, .str z, .int ks.length]) (by
    show (decide (3 ≤ 1000) && [kt ks, .str z, .int ks.length].all (D.lk 4)) = true
    simp only [List.all_cons, List.all_nil, Bool.and_true, Bool.and_eq_true]
    exact ⟨rfl, lk_strs g.sok (by omega) 2, ho, rfl⟩)
  have l1 := dLen_tup ks
  have l2 := dLenO_kb (ks := ks) (by omega)
  exact si_f (b := !true) (vNot (vCall (vsC (vN (ds := [kt ks, .str z, .int ks.length]) (vsC (vProp (vV rfl) (ks_law ks)) (vsC (vProp (vV rfl) hz) (vsC (vN (vsC (vW' rfl) vs0) l2) vs0))) rfl) (vsC (vN (ds := [kt ks, .str z, .int ks.length]) (vsC (vV rfl) (vsC (vV rfl) (vsC (vN (vsC (vW' rfl) vs0) l1) vs0))) rfl) vs0)) h)) rfl rfl
def q12b : SX := (sSeq (sOf (eN mkL [(eMeth "Keyboard" placeR (eV 4) [(e2 dIx (e2 dIx (eW 3) (eW 12)) (eC (.int 0)))]), (eMeth "Keyboard" placeR (eV 4) [(e2 dIx (e2 dIx (eW 3) (eW 12)) (eC (.int 1)))])]) (sAsg (.nm 13)))
  (sIf (eNot (eCall (alkR 5) [(eV 13), (eN mkL [(eN mkT [(eV 12), (eC (.bl false))]), (eN mkT [(eV 12), (eC (.bl true))])])])) (sOf (eC (.bl false)) sRet) sNext))
theorem q12b_ok {ks : List Str} (g : GK ks) {n : Nat} (hn : n < ks.length) : ∃ d, q12b [r, sr p q s, t2, .fz (kt ks), .fz (KB ks), t5, t6, t7, t8, t9, ta, tb, .fz (.int n), td] = .nx [r, sr p q s, t2, .fz (kt ks), .fz (KB ks), t5, t6, t7, t8, t9, ta, tb, .fz (.int n), .fz d] := by
  obtain ⟨a, b, hk, hab⟩ := pair_ex (g.pair _ (List.getElem_mem hn)).1
  have hk' : ks[n]? = some ⟨#[a, b]⟩ := by rw [List.getElem?_eq_getElem hn, hk]
  have ho : PyData.strOk ⟨#[a, b]⟩ = true := hk ▸ g.sok _ (List.getElem_mem hn)
  have hp : ∀ k ∈ ks, pairB k = true := fun k h => (g.pair k h).1
  have p1 := place_ok (z := ⟨#[a]⟩) (chOk ho 0 a (by simp)) g.pair (plc_at ks 0 n a b false g.ap hp hk' hab)
  have p2 := place_ok (z := ⟨#[b]⟩) (chOk ho 0 b (by simp)) g.pair (plc_at ks 0 n a b true g.ap hp hk' hab)
  rw [Int.zero_add] at p1 p2
  have i0 : dIx (kt ks) (.int n) = some (.str ⟨#[a, b]⟩) := by
    show dAt (ks.map D.str) (n : Int) = _
    rw [dIx_at (by rw [List.length_map]; exact hn), List.getElem_map, hk]
  have i1 : dIx (.str ⟨#[a, b]⟩) (.int 0) = some (.str ⟨#[a]⟩) := rfl
  have i2 : dIx (.str ⟨#[a, b]⟩) (.int 1) = some (.str ⟨#[b]⟩) := rfl
  have h := al5 (d := .lst [.tup [.int n, .bl false], .tup [.int n, .bl true]]) rfl
  refine ⟨.lst [.tup [.int n, .bl false], .tup [.int n, .bl true]], ?_⟩
  unfold q12b
  refine sq_nx (stA (vN (ds := [.tup [.int n, .bl false], .tup [.int n, .bl true]]) (vsC (vMeth (vV rfl) (vsC (v2 (v2 (vW' rfl) (vW' rfl) i0) vC i1) vs0) p1) (vsC (vMeth (vV rfl) (vsC (v2 (v2 (vW' rfl) (vW' rfl) i0) vC i2) vs0) p2) vs0)) rfl)) ?_
  exact si_f (b := !true) (vNot (vCall (vsC (vV rfl) (vsC (d := .lst [.tup [.int n, .bl false], .tup [.int n, .bl true]]) (vN (ds := [.tup [.int n, .bl false], .tup [.int n, .bl true]]) (vsC (vN (vsC (vV rfl) (vsC vC vs0)) rfl) (vsC (vN (vsC (vV rfl) (vsC vC vs0)) rfl) vs0)) rfl) vs0)) h)) rfl rfl
theorem q12_loop {ks : List Str} (g : GK ks) : ∀ (is : List Nat) (tc td : S), (∀ i ∈ is, i < ks.length) → isEx tc = false → isEx td = false → ∃ tc' td', isEx tc' = false ∧ isEx td' = false ∧ forL (.nm 12) q12b (is.map fun (i : Nat) => D.int (0 + (i : Int))) [r, sr p q s, t2, .fz (kt ks), .fz (KB ks), t5, t6, t7, t8, t9, ta, tb, tc, td] = .nx [r, sr p q s, t2, .fz (kt ks), .fz (KB ks), t5, t6, t7, t8, t9, ta, tb, tc', td']
  | [], tc, td, _, h1, h2 => ⟨tc, td, h1, h2, rfl⟩
  | i :: is, tc, td, h, h1, h2 => by
    obtain ⟨d, hd⟩ := q12b_ok (p := p) (q := q) (s := s) (r := r) (t2 := t2) (t5 := t5) (t6 := t6) (t7 := t7) (t8 := t8) (t9 := t9) (ta := ta) (tb := tb) (td := td) g (h i List.mem_cons_self)
    obtain ⟨tc', td', g1, g2, ih⟩ := q12_loop g is (.fz (.int i)) (.fz d) (fun j hj => h j (List.mem_cons_of_mem _ hj)) rfl rfl
    refine ⟨tc', td', g1, g2, ?_⟩
    rw [List.map_cons, forL_nx (e1 := [r, sr p q s, t2, .fz (kt ks), .fz (KB ks), t5, t6, t7, t8, t9, ta, tb, .fz (.int i), td]) (by simp [asg]) hd]
    exact ih
theorem q12_ok {ks : List Str} (g : GK ks) (h1 : isEx tc = false) (h2 : isEx td = false) : ∃ tc' td', isEx tc' = false ∧ isEx td' = false ∧ q12 [r, sr p q s, t2, .fz (kt ks), .fz (KB ks), t5, t6, t7, t8, t9, ta, tb, tc, td] = .nx [r, sr p q s, t2, .fz (kt ks), .fz (KB ks), t5, t6, t7, t8, t9, ta, tb, tc', td'] := by
  obtain ⟨tc', td', g1, g2, ih⟩ := q12_loop (p := p) (q := q) (s := s) (r := r) (t2 := t2) (t5 := t5) (t6 := t6) (t7 := t7) (t8 := t8) (t9 := t9) (ta := ta) (tb := tb) g (List.range ks.length) tc td (fun i hi => List.mem_range.mp hi) h1 h2
  have e : rangeD 0 (ks.length : Int) = (List.range ks.length).map fun (i : Nat) => D.int (0 + (i : Int)) := by
    unfold rangeD; rw [Int.sub_zero, Int.toNat_natCast]
  refine ⟨tc', td', g1, g2, for_v (ds := rangeD 0 (ks.length : Int)) (r1_v (vN (vsC (vW' rfl) vs0) (dLen_tup ks)) (by unfold bigI; have := g.ten; simp; omega)) ?_⟩
  rw [e]; exact ih
theorem q13_ok {a b : Nat} {ks : List Str} (g : GK (⟨#[a, b]⟩ :: ks)) (hq : ∀ k ∈ (⟨#[a, b]⟩ :: ks : List Str), 113 ∉ k.cps.toList ∧ 32 ∉ k.cps.toList) (hs : s.cells.length ≤ 1000) (n1 : isEx r = false) (n2 : isEx t2 = false) (n3 : isEx tc = false) (n4 : isEx td = false) {d5 d6 d7 d8 d9 db : D} :
    q13 [r, sr p q s, t2, .fz (kt (⟨#[a, b]⟩ :: ks)), .fz (KB (⟨#[a, b]⟩ :: ks)), .fz d5, .fz d6, .fz d7, .fz d8, .fz d9, .un, .fz db, tc, td] = .nx [r, sr p q (nextZ s 4), t2, .fz (kt (⟨#[a, b]⟩ :: ks)), .fz (KB (⟨#[a, b]⟩ :: ks)), .fz (.int 0), .fz d6, .fz d7, .fz d8, .fz d9, .un, .fz db, tc, td] := by
  have hn := nextR_nat s (lim := 4) (by omega) (by omega) hs
  have hlt := nextN_lt s (lim := 4) (by omega)
  have ho : PyData.strOk ⟨#[a, b]⟩ = true := g.sok _ List.mem_cons_self
  have hp : ∀ k ∈ (⟨#[a, b]⟩ :: ks : List Str), pairB k = true := fun k h => (g.pair k h).1
  obtain ⟨z, hz, hzo, hzn⟩ : ∃ z, dIx (.lst [.str "q", .str " ", .str "", .str ⟨#[a, b]⟩]) (.int (nextN s 4 : Nat)) = some (.str z) ∧ PyData.strOk z = true ∧ plc z 0 (⟨#[a, b]⟩ :: ks) = none := by
    have c : nextN s 4 = 0 ∨ nextN s 4 = 1 ∨ nextN s 4 = 2 ∨ nextN s 4 = 3 := by omega
    rcases c with c | c | c | c <;> rw [c]
    · exact ⟨"q", rfl, by decide +kernel, plc_none _ _ _ hp (.inr ⟨113, by decide +kernel, fun k hk => (hq k hk).1⟩)⟩
    · exact ⟨" ", rfl, by decide +kernel, plc_none _ _ _ hp (.inr ⟨32, by decide +kernel, fun k hk => (hq k hk).2⟩)⟩
    · exact ⟨"", rfl, by decide +kernel, plc_none _ _ _ hp (.inl (by decide +kernel))⟩
    · exact ⟨⟨#[a, b]⟩, rfl, ho, plc_none _ _ _ hp (.inl (by show (2 : Nat) ≠ 1; omega))⟩
  have hx := place_no hzo g.pair hzn
  have i0 : dIx (kt (⟨#[a, b]⟩ :: ks)) (.int 0) = some (.str ⟨#[a, b]⟩) := rfl
  have hc : (["UnknownSign"] : List Str).contains "UnknownSign" = true := by decide +kernel
  unfold q13
  refine tryOnly_nx (e1 := [r, sr p q (nextZ s 4), t2, .fz (kt (⟨#[a, b]⟩ :: ks)), .fz (KB (⟨#[a, b]⟩ :: ks)), .fz d5, .fz d6, .fz d7, .fz d8, .fz d9, .un, .fz db, tc, td]) (x := ⟨"UnknownSign", none⟩) (sq_exc (sOf_x (xMeth (vV rfl) (vsC (v2 (vN (vsC vC (vsC vC (vsC vC (vsC (v2 (vW' rfl) vC i0) vs0)))) rfl) (vCallS1 (p := p) (q := q) (s := s) rfl (vsC vC vs0) rfl hn) hz) vs0) hx))) hc ?_ (stA vC) ?_
  · simp only [noEx, List.all_cons, List.all_nil, n1, n2, n3, n4]; rfl
  · simp only [noEx, List.set_cons_zero, List.set_cons_succ, List.all_cons, List.all_nil, n1, n2, n3, n4]; rfl
theorem dOwn_kb {a b : List Str} (ha : ∀ k ∈ a, PyData.strOk k = true) (hb : ∀ k ∈ b, PyData.strOk k = true) (n : Bool) : dOwn "Keyboard" keqR n (KB a) (KB b) = some (.bl (if n then !decide (a = b) else decide (a = b))) := by
  unfold dOwn
  simp only []
  rw [if_pos ⟨trivial, trivial⟩, keq_law ha hb]
theorem q14_ok {ks : List Str} (g : GK ks) : q14 [r, sr p q s, t2, .fz (kt ks), .fz (KB ks), t5, t6, t7, t8, t9, ta, tb, tc, td] = .nx [r, sr p q s, t2, .fz (kt ks), .fz (KB ks), t5, t6, t7, t8, t9, ta, tb, tc, td] := by
  have k1 := kb_r_ok (okKs_of (by have := g.len; omega) g.sok) g.none
  have k2 := kb_r_ok (okKs_of (by have := g.rev.len; omega) g.rev.sok) g.rev.none
  have o1 := dOwn_kb g.sok g.sok true
  have o2 := dOwn_kb g.sok g.rev.sok false
  have hr : dRev (kt ks) = some (kt ks.reverse) := by
    show some (D.tup (ks.map D.str).reverse) = _
    rw [← List.map_reverse]
  exact si_f (b := (!decide (ks = ks)) || decide (ks = ks.reverse)) (vOr (v2 (vW' rfl) (vMake (vsC (vV rfl) vs0) k1) o1) fun _ => v2 (vW' rfl) (vMake (vsC (vRev (vW' rfl) hr) vs0) k2) o2) (by rw [decide_eq_true rfl, decide_eq_false (rev_ne g)]; rfl) rfl
end
end TF
/-! #### text PL9 -/
set_option Elab.async false
set_option linter.all false
set_option maxRecDepth 100000
set_option maxHeartbeats 400000
/-! PL9: the first law's equation. -/
namespace TF
open PySem L2
theorem k8q : ∀ k ∈ KEYS8, 113 ∉ k.cps.toList ∧ 32 ∉ k.cps.toList := by decide +kernel
theorem drK_mem (s : Src) : ∀ k ∈ (drK s).1, k ∈ KEYS8 := by
  have hlt := nextN_lt s (lim := 7) (by omega)
  obtain ⟨rest, h1, h2, h3⟩ := drawK_perm (2 + nextN s 7) (nextZ s 7) KEYS8 [] (by show _ ≤ 8; omega)
  exact fun k hk => h1.mem_iff.mp (List.mem_append_left _ hk)
def turn1 : SX := sSeq q1 (sSeq q2 (sSeq q3 (sSeq q4 (sSeq q5 (sSeq q6 (sSeq q7 (sSeq q8 (sSeq q9 (sSeq q10 (sSeq q11 (sSeq q12 (sSeq q13 q14))))))))))))
theorem bads (a b n : Nat) (hn : n < 10) (ho : PyData.strOk ⟨#[a, b]⟩ = true) : PyData.strOk ((BADS a b).getD n "") = true ∧ ((BADS a b).getD n "").length ≤ 10 ∧ (keyB ((BADS a b).getD n "") = false ∨ ((BADS a b).getD n "") = QA a ∨ ((BADS a b).getD n "") = ⟨#[a, b]⟩) := by
  have oQ : PyData.strOk (QA a) = true := strOk_app (by decide +kernel) (chOk ho 0 a (by simp))
  have c : n = 0 ∨ n = 1 ∨ n = 2 ∨ n = 3 ∨ n = 4 ∨ n = 5 ∨ n = 6 ∨ n = 7 ∨ n = 8 ∨ n = 9 := by omega
  rcases c with c | c | c | c | c | c | c | c | c | c <;> subst c
  · show PyData.strOk "" = true ∧ ("" : Str).length ≤ 10 ∧ (keyB "" = false ∨ _); exact ⟨by decide +kernel, by decide +kernel, .inl (by decide +kernel)⟩
  · show PyData.strOk "q" = true ∧ ("q" : Str).length ≤ 10 ∧ (keyB "q" = false ∨ _); exact ⟨by decide +kernel, by decide +kernel, .inl (by decide +kernel)⟩
  · show PyData.strOk "qq" = true ∧ ("qq" : Str).length ≤ 10 ∧ (keyB "qq" = false ∨ _); exact ⟨by decide +kernel, by decide +kernel, .inl (by decide +kernel)⟩
  · show PyData.strOk "qrs" = true ∧ ("qrs" : Str).length ≤ 10 ∧ (keyB "qrs" = false ∨ _); exact ⟨by decide +kernel, by decide +kernel, .inl (by decide +kernel)⟩
  · show PyData.strOk "q " = true ∧ ("q " : Str).length ≤ 10 ∧ (keyB "q " = false ∨ _); exact ⟨by decide +kernel, by decide +kernel, .inl (by decide +kernel)⟩
  · show PyData.strOk "/q" = true ∧ ("/q" : Str).length ≤ 10 ∧ (keyB "/q" = false ∨ _); exact ⟨by decide +kernel, by decide +kernel, .inl (by decide +kernel)⟩
  · show PyData.strOk "q@" = true ∧ ("q@" : Str).length ≤ 10 ∧ (keyB "q@" = false ∨ _); exact ⟨by decide +kernel, by decide +kernel, .inl (by decide +kernel)⟩
  · exact ⟨oQ, by show (QA a).length ≤ 10; rw [str_app]; show ("Q" : Str).length + 1 ≤ 10; decide +kernel, .inr (.inl rfl)⟩
  · exact ⟨ho, by show 2 ≤ 10; omega, .inr (.inr rfl)⟩
  · show PyData.strOk "q_" = true ∧ ("q_" : Str).length ≤ 10 ∧ (keyB "q_" = false ∨ _); exact ⟨by decide +kernel, by decide +kernel, .inl (by decide +kernel)⟩
theorem turn1_ok {p q : Addr} {s : Src} {ns : List Int} {t2 t3 t4 t5 t6 t7 t8 t9 tb tc td : S} (hs : s.cells.length ≤ 1000) (n2 : isEx t2 = false) (n3 : isEx tc = false) (n4 : isEx td = false) :
    ∃ (s' : Src) (u3 u4 u5 u6 u7 u8 u9 ub uc ud : S), s'.cells.length ≤ 1000 ∧ isEx uc = false ∧ isEx ud = false ∧ turn1 [.raw ns, sr p q s, t2, t3, t4, t5, t6, t7, t8, t9, .un, tb, tc, td] = .nx [.raw ns, sr p q s', t2, u3, u4, u5, u6, u7, u8, u9, .un, ub, uc, ud] := by
  obtain ⟨g, hl⟩ := drK_ok s
  have hm := drK_mem s
  have e1 := q1_ok (p := p) (q := q) (s := s) (r := .raw ns) (t2 := t2) (t3 := t3) (t4 := t4) (t5 := t5) (t6 := t6) (t7 := t7) (t8 := t8) (t9 := t9) (ta := .un) (tb := tb) (tc := tc) (td := td) hs
  obtain ⟨s1, hs1⟩ : ∃ s1, (drK s).2 = s1 := ⟨_, rfl⟩
  rw [hs1] at hl e1
  have hl1 : s1.cells.length ≤ 1000 := by omega
  have hg : ∀ ks, (drK s).1 = ks → ∃ a b kr, ks = ⟨#[a, b]⟩ :: kr := by
    intro ks hks
    rw [hks] at g
    match ks, g with
    | [], g => exact absurd g.two (by simp)
    | k :: kr, g =>
      obtain ⟨a, b, rfl, _⟩ := pair_ex (g.pair k List.mem_cons_self).1
      exact ⟨a, b, kr, rfl⟩
  obtain ⟨a, b, kr, hks⟩ := hg _ rfl
  rw [hks] at e1 g hm
  have ho : PyData.strOk ⟨#[a, b]⟩ = true := g.sok _ List.mem_cons_self
  have hn1 := nextN_lt s1 (lim := (⟨#[a, b]⟩ :: kr : List Str).length + 1) (by omega)
  obtain ⟨n, hn⟩ : ∃ n, nextN s1 ((⟨#[a, b]⟩ :: kr : List Str).length + 1) = n := ⟨_, rfl⟩
  rw [hn] at hn1
  obtain ⟨s2, hs2⟩ : ∃ s2, nextZ s1 ((⟨#[a, b]⟩ :: kr : List Str).length + 1) = s2 := ⟨_, rfl⟩
  have hl2 : s2.cells.length ≤ 1000 := by rw [← hs2, nextZ_len]; exact hl1
  have e2 := q2_ok (p := p) (q := q) (s := s1) (r := .raw ns) (t2 := t2) (t4 := t4) (t5 := t5) (t6 := t6) (t7 := t7) (t8 := t8) (t9 := t9) (ta := .un) (tb := tb) (tc := tc) (td := td) g hl1
  rw [hn, hs2] at e2
  have e4 := q4_ok (p := p) (q := q) (s := s2) (r := .raw ns) (t2 := t2) (t3 := .fz (kt (⟨#[a, b]⟩ :: kr))) (t4 := .fz (KB (⟨#[a, b]⟩ :: kr))) (t5 := .fz (.int n)) (t7 := t7) (t8 := t8) (t9 := t9) (ta := .un) (tb := tb) (tc := tc) (td := td) (a := a) (b := b) (ks := kr) hl2
  obtain ⟨w1, w2, w3⟩ := bads a b (nextN s2 10) (nextN_lt s2 (by omega)) ho
  obtain ⟨w, hw⟩ : ∃ w, (BADS a b).getD (nextN s2 10) "" = w := ⟨_, rfl⟩
  rw [hw] at e4 w1 w2 w3
  obtain ⟨m, hmm⟩ : ∃ m, plQ a b w n = m := ⟨_, rfl⟩
  have hm1 : m ≤ (⟨#[a, b]⟩ :: kr : List Str).length ∧ ((w = QA a ∨ w = ⟨#[a, b]⟩) → 1 ≤ m) := by
    rw [← hmm]
    unfold plQ
    rw [List.length_cons] at hn1 ⊢
    split
    · exact ⟨by omega, fun _ => by omega⟩
    · rename_i h
      exact ⟨by omega, fun h2 => absurd h2 h⟩
  have e5 := q5_ok (p := p) (q := q) (s := nextZ s2 10) (r := .raw ns) (t2 := t2) (t4 := .fz (KB (⟨#[a, b]⟩ :: kr))) (t6 := .fz (.lst ((BADS a b).map D.str))) (t8 := t8) (t9 := t9) (ta := .un) (tb := tb) (tc := tc) (td := td) (ks := kr) (n := n) ho w1
  rw [hmm] at e5
  have e6 := q6_ok (p := p) (q := q) (s := nextZ s2 10) (r := .raw ns) (t2 := t2) (t4 := .fz (KB (⟨#[a, b]⟩ :: kr))) (t6 := .fz (.lst ((BADS a b).map D.str))) (t8 := t8) (t9 := t9) (ta := .un) (tb := tb) (tc := tc) (td := td) g hm1.1 w1 w2 (by
    rcases w3 with h | h
    · exact .inl h
    · refine .inr ⟨a, ?_, ⟨#[a, b]⟩, ?_, by simp⟩
      · rcases h with h | h
        · rw [h]; exact (str_app_mem _ _ _).mpr (.inr (by simp))
        · rw [h]; simp
      · have := hm1.2 h
        match m, this with
        | m + 1, _ => rw [List.take_succ_cons]; exact List.mem_cons_self)
  obtain ⟨z, z1, z2, e10⟩ := q10_ok (p := p) (q := q) (s := nextZ s2 10) (r := .raw ns) (t2 := t2) (t4 := .fz (KB (⟨#[a, b]⟩ :: kr))) (t5 := .fz (.int m)) (t6 := .fz (.lst ((BADS a b).map D.str))) (t7 := .fz (.str w)) (t8 := .fz (kt MANY)) (t9 := .fz FND) (ta := .un) (tb := tb) (tc := tc) (td := td) g
  obtain ⟨uc, ud, n5, n6, e12⟩ := q12_ok (p := p) (q := q) (s := nextZ s2 10) (r := .raw ns) (t2 := t2) (t5 := .fz (.int m)) (t6 := .fz (.lst ((BADS a b).map D.str))) (t7 := .fz (.str w)) (t8 := .fz (kt MANY)) (t9 := .fz FND) (ta := .un) (tb := .fz (.str z)) (tc := tc) (td := td) g n3 n4
  have hl3 : (nextZ s2 10).cells.length ≤ 1000 := by rw [nextZ_len]; exact hl2
  refine ⟨nextZ (nextZ s2 10) 4, .fz (kt (⟨#[a, b]⟩ :: kr)), .fz (KB (⟨#[a, b]⟩ :: kr)), .fz (.int 0), .fz (.lst ((BADS a b).map D.str)), .fz (.str w), .fz (kt MANY), .fz FND, .fz (.str z), uc, ud, by rw [nextZ_len]; exact hl3, n5, n6, ?_⟩
  exact sq_nx e1 (sq_nx e2 (sq_nx q3_ok (sq_nx e4 (sq_nx e5 (sq_nx e6 (sq_nx q7_ok (sq_nx (q8_ok g) (sq_nx q9_ok (sq_nx e10 (sq_nx (q11_ok g z1 z2) (sq_nx e12 (sq_nx (q13_ok g (fun k hk => k8q k (hm k hk)) hl3 rfl n2 n5 n6) (q14_ok g)))))))))))))
theorem turns1 {p q : Addr} {ns : List Int} : ∀ (is : List D) (s : Src) (t2 t3 t4 t5 t6 t7 t8 t9 tb tc td : S), s.cells.length ≤ 1000 → isEx tc = false → isEx td = false →
    ∃ e, forL (.nm 2) turn1 is [.raw ns, sr p q s, t2, t3, t4, t5, t6, t7, t8, t9, .un, tb, tc, td] = .nx e
  | [], s, t2, t3, t4, t5, t6, t7, t8, t9, tb, tc, td, _, _, _ => ⟨_, rfl⟩
  | d :: is, s, t2, t3, t4, t5, t6, t7, t8, t9, tb, tc, td, hs, n3, n4 => by
    obtain ⟨s', u3, u4, u5, u6, u7, u8, u9, ub, uc, ud, h1, h2, h3, h4⟩ := turn1_ok (p := p) (q := q) (s := s) (ns := ns) (t2 := .fz d) (t3 := t3) (t4 := t4) (t5 := t5) (t6 := t6) (t7 := t7) (t8 := t8) (t9 := t9) (tb := tb) (tc := tc) (td := td) hs rfl n3 n4
    obtain ⟨e, ih⟩ := turns1 (p := p) (q := q) (ns := ns) is s' (.fz d) u3 u4 u5 u6 u7 u8 u9 ub uc ud h1 h2 h3
    exact ⟨e, (forL_nx (e1 := [.raw ns, sr p q s, .fz d, t3, t4, t5, t6, t7, t8, t9, .un, tb, tc, td]) rfl h4).trans ih⟩
def mLaw1 : SX := sSeq (sFor (iR1 (eC (.int 5))) (.nm 2) turn1) (sOf (eC (.bl true)) sRet)
theorem law1_eq (ns : List Int) (hl : ns.length ≤ 63) : ∃ s0, mixR ns 1 = some s0 ∧ ∀ p q : Addr, ∃ e, mLaw1 ((evLaw 14 ns).set 1 (.src p q s0 ns 0)) = .ret (.bl true) e := by
  refine ⟨_, rfl, fun p q => ?_⟩
  obtain ⟨e, h⟩ := turns1 (p := p) (q := q) (ns := ns) (rangeD 0 5) ⟨ns.foldl mixSt 1, ns, 0⟩ .un .un .un .un .un .un .un .un .un .un .un (by show ns.length ≤ 1000; omega) rfl rfl
  exact ⟨e, sq_nx (for_v (r1_v vC rfl) h) (stR vC)⟩
end TF
/-! #### text PM1 -/
set_option Elab.async false
set_option linter.all false
set_option maxRecDepth 100000
set_option maxHeartbeats 400000
/-! PM1: comprehensions that filter; faults, numbers, clashes. -/
namespace TF
open PySem L2
local macro_rules
  | `(tactic| left) => `(tactic| first
    | with_reducible exact vC
    | with_reducible exact vs0
    | (with_reducible apply vV); rfl
    | (with_reducible apply vW'); rfl
    | assumption
    | (with_reducible apply v2); (focus left); (focus left); (focus first | assumption | rfl)
    | (with_reducible apply vN); (focus left); (focus first | assumption | rfl)
    | (with_reducible apply vsC); (focus left); (focus left)
    | (with_reducible apply vNot); left
    | (with_reducible apply vIsi); (focus left); (focus first | assumption | rfl)
    | (with_reducible apply vCall); (focus left); (focus first | assumption | rfl)
    | (with_reducible apply vAttr); (focus left); (focus first | assumption | rfl)
    | (with_reducible apply vProp); (focus left); (focus first | assumption | rfl)
    | (with_reducible apply vMeth); (focus left); (focus left); (focus first | assumption | rfl)
    | (with_reducible apply vMake); (focus left); (focus first | assumption | rfl)
    | (with_reducible apply vJoin); (focus left); (focus first | assumption | rfl)
    | (with_reducible apply vRev); (focus left); (focus first | assumption | rfl)
    | (with_reducible apply vCallS1); (focus rfl); (focus left); (focus rfl); (focus first | assumption | rfl))
/-! ### one slot of a comprehension's own -/
theorem set_un : ∀ (e : Ev) (j : Nat), e[j]? = some .un → e.set j .un = e
  | [], j, h => by simp at h
  | s :: e, 0, h => by simp at h; rw [h]; rfl
  | s :: e, j + 1, h => by
    rw [List.set_cons_succ, set_un e j (by simpa using h)]
theorem clean_out (own : List Nat) : ∀ (e : Ev) (k : Nat), (∀ i s, e[i]? = some s → k + i ∈ own → cleanS s = true) → cleanE own k e = true
  | [], _, _ => rfl
  | s :: e, k, h => by
    show ((!own.contains k || cleanS s) && cleanE own (k + 1) e) = true
    rw [clean_out own e (k + 1) (fun i t ht hm => h (i + 1) t (by simpa using ht) (by rw [show k + (i + 1) = k + 1 + i by omega]; exact hm)), Bool.and_true]
    by_cases hk : k ∈ own
    · rw [h 0 s (by simp) hk, Bool.or_true]
    · have : own.contains k = false := by simpa using hk
      rw [this]; rfl
theorem clean1 (e : Ev) (j : Nat) (d : D) : cleanE [j] 0 (e.set j (.fz d)) = true := clean_out [j] _ 0 fun i s hs hm => by
  rw [Nat.zero_add] at hm
  have hij := List.mem_singleton.mp hm
  subst hij
  by_cases hi : i < e.length
  · rw [List.getElem?_set_self hi] at hs
    cases hs; rfl
  · rw [List.set_eq_of_length_le (by omega), List.getElem?_eq_none (by omega)] at hs
    cases hs
theorem cleanU (e : Ev) (j : Nat) (h : e[j]? = some .un) : cleanE [j] 0 e = true := clean_out [j] _ 0 fun i s hs hm => by
  rw [Nat.zero_add] at hm
  cases List.mem_singleton.mp hm
  rw [h] at hs; cases hs; rfl
theorem wipe_eq (own : List Nat) : ∀ (e e2 : Ev) (k : Nat), e.length = e2.length → (∀ i s, e2[i]? = some s → if k + i ∈ own then s = .un else e[i]? = some s) → wipeE own k e = e2
  | [], [], _, _, _ => rfl
  | [], _ :: _, _, h, _ => by simp at h
  | _ :: _, [], _, h, _ => by simp at h
  | s :: e, t :: e2, k, hl, h => by
    have ih := wipe_eq own e e2 (k + 1) (by simpa using hl) fun i z hz => by
      have := h (i + 1) z (by simpa using hz)
      rw [show k + (i + 1) = k + 1 + i by omega] at this
      simpa using this
    show (if own.contains k then S.un else s) :: wipeE own (k + 1) e = t :: e2
    rw [ih]
    have h0 := h 0 t (by simp)
    rw [Nat.add_zero] at h0
    by_cases hk : k ∈ own
    · rw [if_pos hk] at h0
      rw [if_pos (by simpa using hk), h0]
    · rw [if_neg hk] at h0
      rw [if_neg (by simpa using hk)]
      simpa using h0
theorem wipe1 (e : Ev) (j : Nat) (d : D) (h : e[j]? = some .un) : wipeE [j] 0 (e.set j (.fz d)) = e := wipe_eq [j] _ _ 0 (by simp) fun i s hs => by
  rw [Nat.zero_add]
  by_cases hi : i = j
  · rw [if_pos (by rw [hi]; exact List.mem_singleton.mpr rfl)]
    rw [hi, h] at hs; cases hs; rfl
  · rw [if_neg (fun z => hi (List.mem_singleton.mp z)), List.getElem?_set_ne (fun z => hi z.symm)]; exact hs
theorem wipeU (e : Ev) (j : Nat) (h : e[j]? = some .un) : wipeE [j] 0 e = e := by
  have := wipe_eq [j] e e 0 rfl fun i s hs => by
    rw [Nat.zero_add]
    by_cases hi : i = j
    · rw [if_pos (by rw [hi]; exact List.mem_singleton.mpr rfl)]
      rw [hi, h] at hs; cases hs; rfl
    · rw [if_neg (fun z => hi (List.mem_singleton.mp z))]; exact hs
  exact this
theorem rest_eq (own : List Nat) : ∀ (e : Ev) (k : Nat), restE own k e e = e
  | [], _ => rfl
  | s :: e, k => by
    show (if own.contains k then s else s) :: restE own (k + 1) e e = _
    rw [rest_eq own e (k + 1)]
    split <;> rfl
/-- [g x for x in ds if p x] -/
theorem lc_loop {j : Nat} {f el : EX} {E : Ev} {p : D → Bool} {g : D → D} (hj : E[j]? = some .un) : ∀ (ds acc : List D), (∀ d ∈ ds, f (E.set j (.fz d)) = .val (.bl (p d)) (E.set j (.fz d))) → (∀ d ∈ ds, p d = true → el (E.set j (.fz d)) = .val (g d) (E.set j (.fz d))) → acc.length + ds.length ≤ 100000 →
    lcL [j] (.nm j) f el ds acc E = .val (acc ++ (ds.filter p).map g) E
  | [], acc, _, _, _ => by simp [lcL]
  | d :: ds, acc, hf, he, hl => by
    rw [List.length_cons] at hl
    rw [lcL]
    have ha : asg (.nm j) d E = some (E.set j (.fz d)) := rfl
    rw [ha]
    simp only [hf d List.mem_cons_self]
    cases hp : p d with
    | true =>
      simp only [he d List.mem_cons_self hp, clean1, wipe1 E j d hj]
      rw [decide_eq_true (by unfold szB; omega), Bool.and_true, if_pos rfl, lc_loop hj ds (acc ++ [g d]) (fun x hx => hf x (List.mem_cons_of_mem _ hx)) (fun x hx => he x (List.mem_cons_of_mem _ hx)) (by rw [List.length_append, List.length_singleton]; omega)]
      rw [List.filter_cons_of_pos hp, List.map_cons, List.append_assoc, List.singleton_append]
    | false =>
      simp only [clean1, wipe1 E j d hj, if_true]
      rw [lc_loop hj ds acc (fun x hx => hf x (List.mem_cons_of_mem _ hx)) (fun x hx => he x (List.mem_cons_of_mem _ hx)) (by omega), List.filter_cons_of_neg (by rw [hp]; exact Bool.false_ne_true)]
theorem rest_eq2 (own : List Nat) : ∀ (e e2 : Ev) (k : Nat), e.length = e2.length → (∀ i s, e[i]? = some s → k + i ∉ own → e2[i]? = some s) → restE own k e e2 = e
  | [], [], _, _, _ => rfl
  | [], _ :: _, _, h, _ => by simp at h
  | _ :: _, [], _, h, _ => by simp at h
  | s :: e, t :: e2, k, hl, h => by
    have ih := rest_eq2 own e e2 (k + 1) (by simpa using hl) fun i z hz hn => by
      have := h (i + 1) z (by simpa using hz) (by rw [show k + (i + 1) = k + 1 + i by omega]; exact hn)
      simpa using this
    show (if own.contains k then s else t) :: restE own (k + 1) e e2 = s :: e
    rw [ih]
    by_cases hk : k ∈ own
    · rw [if_pos (by simpa using hk)]
    · have h0 := h 0 s (by simp) (by simpa using hk)
      rw [if_neg (by simpa using hk)]
      simp at h0
      rw [h0]
theorem clean2 (e : Ev) (j : Nat) {s0 : S} (h : e[j]? = some s0) (hc : cleanS s0 = true) : cleanE [j] 0 e = true := clean_out [j] _ 0 fun i s hs hm => by
  rw [Nat.zero_add] at hm
  have hij := List.mem_singleton.mp hm
  subst hij
  rw [h] at hs; cases hs; exact hc
theorem wipe2 (e : Ev) (j : Nat) : wipeE [j] 0 e = e.set j .un := wipe_eq [j] _ _ 0 (by simp) fun i s hs => by
  rw [Nat.zero_add]
  by_cases hi : i = j
  · rw [if_pos (by rw [hi]; exact List.mem_singleton.mpr rfl)]
    subst hi
    by_cases hl : i < e.length
    · rw [List.getElem?_set_self hl] at hs; cases hs; rfl
    · rw [List.set_eq_of_length_le (by omega), List.getElem?_eq_none (by omega)] at hs; cases hs
  · rw [if_neg (fun z => hi (List.mem_singleton.mp z))]
    rw [List.getElem?_set_ne (fun z => hi z.symm)] at hs; exact hs
theorem rest2 (e : Ev) (j : Nat) (s : S) : restE [j] 0 e (e.set j s) = e := rest_eq2 [j] _ _ 0 (by simp) fun i t ht hn => by
  rw [Nat.zero_add] at hn
  rw [List.getElem?_set_ne (fun z => hn (by rw [z]; exact List.mem_singleton.mpr rfl))]; exact ht
theorem set_at {e : Ev} {j : Nat} {s0 s : S} (h : e[j]? = some s0) : (e.set j s)[j]? = some s := List.getElem?_set_self (List.getElem?_eq_some_iff.mp h).1
theorem vLc {j : Nat} {it : IX} {f el : EX} {E E1 : Ev} {p : D → Bool} {g : D → D} {ds : List D} {s0 : S} (hi : it E1 = .val ds E) (hj : E[j]? = some s0) (hc : cleanS s0 = true) (hf : ∀ d ∈ ds, f (E.set j (.fz d)) = .val (.bl (p d)) (E.set j (.fz d))) (he : ∀ d ∈ ds, p d = true → el (E.set j (.fz d)) = .val (g d) (E.set j (.fz d))) (hl : ds.length ≤ 100000) :
    eLc [j] it (.nm j) f el E1 = .val (.lst ((ds.filter p).map g)) E := by
  unfold eLc
  rw [hi]
  simp only []
  have hss : ∀ s, (E.set j .un).set j s = E.set j s := fun s => List.set_set ..
  rw [clean2 E j hj hc, wipe2 E j, if_pos rfl, lc_loop (E := E.set j .un) (p := p) (g := g) (set_at hj) ds [] (fun d hd => by rw [hss]; exact hf d hd) (fun d hd hp => by rw [hss]; exact he d hd hp) (by simpa using hl)]
  simp only []
  rw [clean2 _ j (set_at hj) rfl, if_pos rfl, rest2, List.nil_append]
/-- is a filtered list not empty? -/
theorem dNe_filter {ds : List D} {p : D → Bool} {g : D → D} (h : ∀ d ∈ ds, (g d).pl 19 = true) : dNe (.lst ((ds.filter p).map g)) (.lst []) = some (.bl (ds.any p)) := by
  have ho : D.pl 20 (.lst ((ds.filter p).map g)) = true := by
    show D.pls 19 _ = true
    refine pls_all fun d hd => ?_
    obtain ⟨c, hc, rfl⟩ := List.mem_map.mp hd
    exact h c (List.mem_filter.mp hc).1
  rw [dNe_of ho rfl]
  congr 2
  clear ho h
  induction ds with
  | nil => rfl
  | cons c l ih =>
    cases hb : p c with
    | true => rw [List.filter_cons_of_pos hb, List.any_cons, hb]; rfl
    | false => rw [List.filter_cons_of_neg (by rw [hb]; exact Bool.false_ne_true), List.any_cons, hb, Bool.false_or]; exact ih
theorem dEq_filter {ds : List D} {p : D → Bool} {g : D → D} (h : ∀ d ∈ ds, (g d).pl 19 = true) : dEq (.lst ((ds.filter p).map g)) (.lst []) = some (.bl (!ds.any p)) := by
  have ho : D.pl 20 (.lst ((ds.filter p).map g)) = true := by
    show D.pls 19 _ = true
    refine pls_all fun d hd => ?_
    obtain ⟨c, hc, rfl⟩ := List.mem_map.mp hd
    exact h c (List.mem_filter.mp hc).1
  have := dNe_filter (p := p) h
  rw [dNe_of ho rfl] at this
  rw [dEq_of ho rfl]
  simp only [Option.some.injEq, D.bl.injEq] at this ⊢
  rw [← this, Bool.not_not]
/-! ### faults -/
inductive FK where
  | back | space | down | up | feed | slip | dead | double | stuck | swap
  deriving DecidableEq
def FK.ar : FK → Nat
  | .back => 0 | .space => 0 | .down => 0 | .up => 0 | .feed => 1 | .slip => 1 | .dead => 1 | .double => 1 | .stuck => 1 | .swap => 2
def FK.wd : FK → Str
  | .back => "back" | .space => "space" | .down => "down" | .up => "up" | .feed => "feed" | .slip => "slip" | .dead => "dead" | .double => "double" | .stuck => "stuck" | .swap => "swap"
structure Flt where
  k : FK
  ns : List Int
  deriving DecidableEq
namespace Flt
/-- as many numbers as its word wants -/
def wf (f : Flt) : Prop := f.ns.length = f.k.ar
instance (f : Flt) : Decidable f.wf := inferInstanceAs (Decidable (_ = _))
def d (f : Flt) : D := .tup (.str f.k.wd :: f.ns.map .int)
end Flt
/-- a fault of some keys -/
def FK.key : FK → Bool
  | .dead => true | .double => true | .stuck => true | .swap => true | _ => false
def FK.lock : FK → Bool
  | .down => true | .up => true | _ => false
def rngB (a b : Int) (n : Int) : Bool := decide (a ≤ n) && decide (n ≤ b)
def Flt.ok (nk w : Int) (f : Flt) : Bool := match f.k with
  | .feed => f.ns.all fun n => n == 0 || n == 2
  | .slip => f.ns.all (rngB 1 (w - 2))
  | .dead => f.ns.all (rngB 0 (nk - 1))
  | .double => f.ns.all (rngB 0 (nk - 1))
  | .stuck => f.ns.all (rngB 0 (nk - 1))
  | .swap => f.ns.all (rngB 0 (nk - 1)) && decide (f.ns.getD 0 0 < f.ns.getD 1 0)
  | _ => true
def Flt.clash (f g : Flt) : Bool := f == g || (if f.k.key && g.k.key then f.ns.any fun n => g.ns.contains n else (f.k.lock && g.k.lock) || (f.k == .feed && g.k == .feed))
theorem wd_ok (k : FK) : PyData.strOk k.wd = true := by cases k <;> decide +kernel
theorem wd_inj : ∀ {a b : FK}, a.wd = b.wd → a = b := by
  intro a b
  cases a <;> cases b <;> first | (intro _; rfl) | (intro h; exact absurd h (by decide +kernel))
theorem wd_eq (a b : FK) : (a.wd == b.wd) = (a == b) := by
  rw [Bool.eq_iff_iff]
  simp only [beq_iff_eq]
  exact ⟨wd_inj, fun h => by rw [h]⟩
theorem fd_pl (f : Flt) (n : Nat) : (f.d).pl (n + 2) = true := by
  show D.pls (n + 1) (.str f.k.wd :: f.ns.map .int) = true
  refine pls_all fun x hx => ?_
  rcases List.mem_cons.mp hx with e | hx
  · rw [e]; exact pl_str (wd_ok _) _
  · obtain ⟨i, _, rfl⟩ := List.mem_map.mp hx
    rfl
theorem deqs_ints : ∀ (a b : List Int), deqs (a.map D.int) (b.map D.int) = decide (a = b)
  | [], [] => rfl
  | [], _ :: _ => by simp [deqs]
  | _ :: _, [] => by simp [deqs]
  | x :: a, y :: b => by
    rw [List.map_cons, List.map_cons]
    show ((x == y) && deqs (a.map D.int) (b.map D.int)) = _
    rw [deqs_ints a b, Bool.eq_iff_iff]
    simp
theorem deq_flt (f g : Flt) : deq f.d g.d = decide (f = g) := by
  show ((f.k.wd == g.k.wd) && deqs (f.ns.map D.int) (g.ns.map D.int)) = _
  rw [deqs_ints, wd_eq, Bool.eq_iff_iff]
  cases f; cases g
  simp
theorem fd_inj {f g : Flt} (h : f.d = g.d) : f = g := by
  have := deq_flt f g
  rw [h, deq_flt g g] at this
  simpa using this.symm
theorem dEq_flt (f g : Flt) : dEq f.d g.d = some (.bl (decide (f = g))) := by rw [dEq_of (fd_pl f 18) (fd_pl g 18), deq_flt]
theorem fd_0 (f : Flt) : dIx f.d (.int 0) = some (.str f.k.wd) := rfl
/-! ### is_number -/
def mNum : SX := (sOf (eAnd (eIsi ["int"] (eW 0)) (eAnd (eNot (eIsi ["bool"] (eW 0))) (eChain dLe dLe (eW 1) (eW 0) (eW 2)))) sRet)
def numR : List D → Rv := runD mNum 3
def numD (a b : Int) : D → Bool
  | .int n => rngB a b n
  | _ => false
theorem vChain {k k' : D → D → Option D} {f1 f2 f3 : EX} {e e1 e2' : Ev} {d1 d2 d3 : D} {b c : Bool} (h1 : f1 e = .val d1 e1) (h2 : f2 e1 = .val d2 e2') (h3 : k d1 d2 = some (.bl b)) (h4 : b = true → f3 e2' = .val d3 e2' ∧ k' d2 d3 = some (.bl c)) : eChain k k' f1 f2 f3 e = .val (.bl (b && c)) e2' := by
  unfold eChain; rw [h1]; simp only [Rx.bind]; rw [h2]; simp only [Rx.bind]; rw [h3]
  cases b with
  | false => rfl
  | true =>
    obtain ⟨h5, h6⟩ := h4 rfl
    simp only [h5, Rx.bind, h6]; rfl
theorem num_law (v : D) (a b : Int) (t : String) (ht : tyS v = some t) : numR [v, .int a, .int b] = .ret (.bl (numD a b v)) := by
  have i1 : ∀ e : Ev, e[0]? = some (.fz v) → eIsi ["int"] (eW 0) e = .val (.bl (["int"].any (isiB t))) e := fun e h => vIsi (vW' h) ht
  have i2 : ∀ e : Ev, e[0]? = some (.fz v) → eNot (eIsi ["bool"] (eW 0)) e = .val (.bl (!["bool"].any (isiB t))) e := fun e h => vNot (vIsi (vW' h) ht)
  have key : (eAnd (eIsi ["int"] (eW 0)) (eAnd (eNot (eIsi ["bool"] (eW 0))) (eChain dLe dLe (eW 1) (eW 0) (eW 2)))) [.fz v, .fz (.int a), .fz (.int b)] = .val (.bl (["int"].any (isiB t) && ((!["bool"].any (isiB t)) && numD a b v))) [.fz v, .fz (.int a), .fz (.int b)] := by
    refine vAnd (i1 [.fz v, .fz (.int a), .fz (.int b)] rfl) fun h1 => vAnd (i2 [.fz v, .fz (.int a), .fz (.int b)] rfl) fun h2 => ?_
    cases v with
    | int n => exact vChain (vW' rfl) (vW' rfl) rfl fun _ => ⟨vW' rfl, rfl⟩
    | bl n => cases ht; exact absurd h2 (by decide +kernel)
    | non => cases ht; exact absurd h1 (by decide +kernel)
    | str _ => cases ht; exact absurd h1 (by decide +kernel)
    | tup _ => cases ht; exact absurd h1 (by decide +kernel)
    | lst _ => cases ht; exact absurd h1 (by decide +kernel)
    | dic _ => cases ht; exact absurd h1 (by decide +kernel)
    | obj _ _ => cases ht
  have e : (["int"].any (isiB t) && ((!["bool"].any (isiB t)) && numD a b v)) = numD a b v := by
    cases v with
    | int n => cases ht; rw [show ["int"].any (isiB "int") = true from by decide +kernel, show ["bool"].any (isiB "int") = false from by decide +kernel]; rfl
    | _ => show _ = false; rw [show numD a b _ = false from rfl, Bool.and_false, Bool.and_false]
  rw [e] at key
  exact runD_ret (e := [.fz v, .fz (.int a), .fz (.int b)]) (stR key)
end TF
/-! #### text PM2 -/
set_option Elab.async false
set_option linter.all false
set_option maxRecDepth 100000
set_option maxHeartbeats 400000
/-! PM2: is_fault, do_clash, the law's clash. -/
namespace TF
open PySem L2
theorem dIn_strs {z : Str} {ys : List Str} (hz : PyData.strOk z = true) (hy : ∀ y ∈ ys, PyData.strOk y = true) : dIn (.str z) (.tup (ys.map D.str)) = some (.bl (ys.contains z)) := by
  show (if (D.str z).pl 20 && D.pls 20 (ys.map D.str) then some (anyEq (ys.map D.str) (.str z)) else none).map _ = _
  rw [pl_str hz 20, pls_all (fun d hd => by
    obtain ⟨y, h, rfl⟩ := List.mem_map.mp hd
    exact pl_str (hy y h) 20)]
  rw [Bool.true_and, if_pos rfl]
  show some (D.bl ((ys.map D.str).any fun q => deq q (.str z))) = _
  congr 2
  rw [List.any_map, Bool.eq_iff_iff, List.any_eq_true, List.contains_iff_mem]
  constructor
  · rintro ⟨y, h, e⟩
    have : (y == z) = true := e
    rw [beq_iff_eq] at this
    rw [← this]; exact h
  · exact fun h => ⟨z, h, by show (z == z) = true; simp⟩
theorem dIn_wds (L : List FK) (k : FK) : dIn (.str k.wd) (.tup ((L.map FK.wd).map D.str)) = some (.bl (L.contains k)) := by
  rw [dIn_strs (wd_ok k) fun y hy => by
    obtain ⟨a, _, rfl⟩ := List.mem_map.mp hy
    exact wd_ok a]
  congr 2
  rw [Bool.eq_iff_iff, List.contains_iff_mem, List.contains_iff_mem]
  exact ⟨fun h => by
    obtain ⟨a, ha, e⟩ := List.mem_map.mp h
    rw [← wd_inj e]; exact ha, fun h => List.mem_map_of_mem h⟩
theorem dEq_wd (a b : FK) : dEq (.str a.wd) (.str b.wd) = some (.bl (a == b)) := by rw [dEq_of (pl_str (wd_ok a) 20) (pl_str (wd_ok b) 20), deq_str, wd_eq]
theorem dNe_wd (a b : FK) : dNe (.str a.wd) (.str b.wd) = some (.bl (!(a == b))) := by rw [dNe_of (pl_str (wd_ok a) 20) (pl_str (wd_ok b) 20), deq_str, wd_eq]
theorem pls_ints (n : Nat) (l : List Int) : D.pls n (l.map D.int) = true := pls_all fun d hd => by
  obtain ⟨i, _, rfl⟩ := List.mem_map.mp hd
  cases n <;> rfl
theorem dIn_ints (i : Int) (l : List Int) : dIn (.int i) (.tup (l.map D.int)) = some (.bl (l.contains i)) := by
  show (if (D.int i).pl 20 && D.pls 20 (l.map D.int) then some (anyEq (l.map D.int) (.int i)) else none).map _ = _
  rw [pls_ints, show (D.int i).pl 20 = true from rfl, Bool.true_and, if_pos rfl]
  show some (D.bl ((l.map D.int).any fun q => deq q (.int i))) = _
  congr 2
  rw [List.any_map, Bool.eq_iff_iff, List.any_eq_true, List.contains_iff_mem]
  constructor
  · rintro ⟨y, h, e⟩
    have : (y == i) = true := e
    rw [beq_iff_eq] at this
    rw [← this]; exact h
  · exact fun h => ⟨i, h, by show (i == i) = true; simp⟩
/-! ### is_fault -/
def mIsF : SX := (sSeq (sOf (eV 2) (sStar (.nm 3) (.nm 4)))
  (sSeq (sIf (e2 dIn (eW 3) (eN mkT [(eC (.str "back")), (eC (.str "space")), (eC (.str "down")), (eC (.str "up"))])) (sOf (eC (.bl true)) sRet) sNext)
  (sSeq (sIf (e2 dEq (eW 3) (eC (.str "feed"))) (sOf (eAnd (e2 dIn (e2 dIx (eW 4) (eC (.int 0))) (eN mkT [(eC (.int 0)), (eC (.int 2))])) (eNot (eIsi ["bool"] (e2 dIx (eW 4) (eC (.int 0)))))) sRet) sNext)
  (sSeq (sIf (e2 dEq (eW 3) (eC (.str "slip"))) (sOf (eCall numR [(e2 dIx (eW 4) (eC (.int 0))), (eC (.int 1)), (e2 dSub (eW 1) (eC (.int 2)))]) sRet) sNext)
  (sSeq (sIf (e2 dNe (eLc (List.map (·.2) ([("number", 5)] : List (Str × Nat))) (iOf (eV 4)) (.nm 5) (eNot (eCall numR [(eV 5), (eC (.int 0)), (e2 dSub (eN (dLenO "Keyboard" klenR) [(eW 0)]) (eC (.int 1)))])) (eV 5)) (eN mkL [])) (sOf (eC (.bl false)) sRet) sNext)
  (sOf (eOr (e2 dNe (eW 3) (eC (.str "swap"))) (e2 dLt (e2 dIx (eW 4) (eC (.int 0))) (e2 dIx (eW 4) (eC (.int 1))))) sRet))))))
def isFR : List D → Rv := runD mIsF 6
theorem len1 {α : Type} {l : List α} (h : l.length = 1) : ∃ a, l = [a] := by
  match l, h with
  | [a], _ => exact ⟨a, rfl⟩
theorem len2 {α : Type} {l : List α} (h : l.length = 2) : ∃ a b, l = [a, b] := by
  match l, h with
  | [a, b], _ => exact ⟨a, b, rfl⟩
theorem isF_law {ks : List Str} (hk : ks.length ≤ 1000) (w : Int) (f : Flt) (hf : f.wf) : isFR [KB ks, .int w, f.d] = .ret (.bl (f.ok ks.length w)) := by
  obtain ⟨k, ns⟩ := f
  have hn : ns.length = k.ar := hf
  have hn2 : ns.length ≤ 2 := by rw [hn]; cases k <;> decide
  have s1 : (sOf (eV 2) (sStar (.nm 3) (.nm 4))) [.fz (KB ks), .fz (.int w), .fz (Flt.d ⟨k, ns⟩), .un, .un, .un] = .nx [.fz (KB ks), .fz (.int w), .fz (Flt.d ⟨k, ns⟩), .fz (.str k.wd), .fz (.lst (ns.map D.int)), .un] := by
    rw [sOf_v (d := Flt.d ⟨k, ns⟩) (vV rfl)]
    show (if (ns.map D.int).length ≤ 1000 then _ else _) = _
    rw [if_pos (by rw [List.length_map]; omega)]; rfl
  obtain ⟨E, hE⟩ : ∃ E : Ev, E = [.fz (KB ks), .fz (.int w), .fz (Flt.d ⟨k, ns⟩), .fz (.str k.wd), .fz (.lst (ns.map D.int)), .un] := ⟨_, rfl⟩
  have w3 : eW 3 E = .val (.str k.wd) E := by rw [hE]; rfl
  have w4 : eW 4 E = .val (.lst (ns.map D.int)) E := by rw [hE]; rfl
  have w1 : eW 1 E = .val (.int w) E := by rw [hE]; rfl
  have w0 : eW 0 E = .val (KB ks) E := by rw [hE]; rfl
  have v4 : eV 4 E = .val (.lst (ns.map D.int)) E := by rw [hE]; rfl
  have c2 : (e2 dIn (eW 3) (eN mkT [(eC (.str "back")), (eC (.str "space")), (eC (.str "down")), (eC (.str "up"))])) E = .val (.bl ([FK.back, .space, .down, .up].contains k)) E := v2 w3 (vN (vsC vC (vsC vC (vsC vC (vsC vC vs0)))) rfl) (dIn_wds [FK.back, .space, .down, .up] k)
  have c3 : (e2 dEq (eW 3) (eC (.str "feed"))) E = .val (.bl (k == .feed)) E := v2 w3 vC (dEq_wd k .feed)
  have c4 : (e2 dEq (eW 3) (eC (.str "slip"))) E = .val (.bl (k == .slip)) E := v2 w3 vC (dEq_wd k .slip)
  have c6 : (e2 dNe (eW 3) (eC (.str "swap"))) E = .val (.bl (!(k == .swap))) E := v2 w3 vC (dNe_wd k .swap)
  have hb : ∀ n : Int, numR [.int n, .int 0, .int ((ks.length : Int) - 1)] = .ret (.bl (rngB 0 (ks.length - 1) n)) := fun n => num_law (.int n) 0 _ "int" rfl
  have l2 := dLenO_kb (ks := ks) hk
  have c5 : (e2 dNe (eLc (List.map (·.2) ([("number", 5)] : List (Str × Nat))) (iOf (eV 4)) (.nm 5) (eNot (eCall numR [(eV 5), (eC (.int 0)), (e2 dSub (eN (dLenO "Keyboard" klenR) [(eW 0)]) (eC (.int 1)))])) (eV 5)) (eN mkL [])) E = .val (.bl (!(ns.all (rngB 0 (ks.length - 1))))) E := by
    have hlc := vLc (j := 5) (it := iOf (eV 4)) (f := (eNot (eCall numR [(eV 5), (eC (.int 0)), (e2 dSub (eN (dLenO "Keyboard" klenR) [(eW 0)]) (eC (.int 1)))]))) (el := eV 5) (E := E) (E1 := E) (ds := ns.map D.int) (s0 := .un) (p := fun d => !(numD 0 (ks.length - 1) d)) (g := id) (iof_v v4 rfl) (by rw [hE]; rfl) rfl (fun d hd => by
      obtain ⟨n, _, rfl⟩ := List.mem_map.mp hd
      rw [hE]
      exact vNot (vCall (vsC (vV rfl) (vsC vC (vsC (v2 (vN (vsC (vW' rfl) vs0) l2) vC rfl) vs0))) (hb n))) (fun d _ _ => by rw [hE]; rfl) (by rw [List.length_map]; omega)
    have hd := dNe_filter (ds := ns.map D.int) (p := fun d => !(numD 0 (ks.length - 1) d)) (g := id) fun d hd => by
      obtain ⟨n, _, rfl⟩ := List.mem_map.mp hd
      rfl
    have e : ((ns.map D.int).any fun d => !(numD 0 (ks.length - 1) d)) = !(ns.all (rngB 0 (ks.length - 1))) := by
      rw [List.any_map, List.all_eq_not_any_not, Bool.not_not]; rfl
    rw [e] at hd
    exact v2 hlc (vN vs0 rfl) hd
  have key : ∃ e, mIsF [.fz (KB ks), .fz (.int w), .fz (Flt.d ⟨k, ns⟩), .un, .un, .un] = .ret (.bl (Flt.ok ks.length w ⟨k, ns⟩)) e := by
    refine ⟨E, sq_nx s1 ?_⟩
    rw [← hE]
    have early : [FK.back, .space, .down, .up].contains k = true → Flt.ok ks.length w ⟨k, ns⟩ = true → (sSeq (sIf (e2 dIn (eW 3) (eN mkT [(eC (.str "back")), (eC (.str "space")), (eC (.str "down")), (eC (.str "up"))])) (sOf (eC (.bl true)) sRet) sNext)
  (sSeq (sIf (e2 dEq (eW 3) (eC (.str "feed"))) (sOf (eAnd (e2 dIn (e2 dIx (eW 4) (eC (.int 0))) (eN mkT [(eC (.int 0)), (eC (.int 2))])) (eNot (eIsi ["bool"] (e2 dIx (eW 4) (eC (.int 0)))))) sRet) sNext)
  (sSeq (sIf (e2 dEq (eW 3) (eC (.str "slip"))) (sOf (eCall numR [(e2 dIx (eW 4) (eC (.int 0))), (eC (.int 1)), (e2 dSub (eW 1) (eC (.int 2)))]) sRet) sNext)
  (sSeq (sIf (e2 dNe (eLc (List.map (·.2) ([("number", 5)] : List (Str × Nat))) (iOf (eV 4)) (.nm 5) (eNot (eCall numR [(eV 5), (eC (.int 0)), (e2 dSub (eN (dLenO "Keyboard" klenR) [(eW 0)]) (eC (.int 1)))])) (eV 5)) (eN mkL [])) (sOf (eC (.bl false)) sRet) sNext)
  (sOf (eOr (e2 dNe (eW 3) (eC (.str "swap"))) (e2 dLt (e2 dIx (eW 4) (eC (.int 0))) (e2 dIx (eW 4) (eC (.int 1))))) sRet))))) E = .ret (.bl (Flt.ok ks.length w ⟨k, ns⟩)) E := fun h1 h2 => by
      rw [h2]; exact sq_ret (si_t c2 h1 (stR vC))
    have late : [FK.back, .space, .down, .up].contains k = false → (k == .feed) = false → (k == .slip) = false → (∀ b, (eOr (e2 dNe (eW 3) (eC (.str "swap"))) (e2 dLt (e2 dIx (eW 4) (eC (.int 0))) (e2 dIx (eW 4) (eC (.int 1))))) E = .val (.bl b) E → (ns.all (rngB 0 (ks.length - 1)) && b) = Flt.ok ks.length w ⟨k, ns⟩) → (∃ b, (eOr (e2 dNe (eW 3) (eC (.str "swap"))) (e2 dLt (e2 dIx (eW 4) (eC (.int 0))) (e2 dIx (eW 4) (eC (.int 1))))) E = .val (.bl b) E) → (sSeq (sIf (e2 dIn (eW 3) (eN mkT [(eC (.str "back")), (eC (.str "space")), (eC (.str "down")), (eC (.str "up"))])) (sOf (eC (.bl true)) sRet) sNext)
  (sSeq (sIf (e2 dEq (eW 3) (eC (.str "feed"))) (sOf (eAnd (e2 dIn (e2 dIx (eW 4) (eC (.int 0))) (eN mkT [(eC (.int 0)), (eC (.int 2))])) (eNot (eIsi ["bool"] (e2 dIx (eW 4) (eC (.int 0)))))) sRet) sNext)
  (sSeq (sIf (e2 dEq (eW 3) (eC (.str "slip"))) (sOf (eCall numR [(e2 dIx (eW 4) (eC (.int 0))), (eC (.int 1)), (e2 dSub (eW 1) (eC (.int 2)))]) sRet) sNext)
  (sSeq (sIf (e2 dNe (eLc (List.map (·.2) ([("number", 5)] : List (Str × Nat))) (iOf (eV 4)) (.nm 5) (eNot (eCall numR [(eV 5), (eC (.int 0)), (e2 dSub (eN (dLenO "Keyboard" klenR) [(eW 0)]) (eC (.int 1)))])) (eV 5)) (eN mkL [])) (sOf (eC (.bl false)) sRet) sNext)
  (sOf (eOr (e2 dNe (eW 3) (eC (.str "swap"))) (e2 dLt (e2 dIx (eW 4) (eC (.int 0))) (e2 dIx (eW 4) (eC (.int 1))))) sRet))))) E = .ret (.bl (Flt.ok ks.length w ⟨k, ns⟩)) E := fun h1 h2 h3 h4 ⟨b, hb⟩ => by
      refine sq_nx (si_f c2 h1 rfl) (sq_nx (si_f c3 h2 rfl) (sq_nx (si_f c4 h3 rfl) ?_))
      rw [← h4 b hb]
      cases ha : ns.all (rngB 0 (ks.length - 1)) with
      | false => exact sq_ret (si_t c5 (by rw [ha]; rfl) (stR vC))
      | true => exact sq_nx (si_f c5 (by rw [ha]; rfl) rfl) (by rw [Bool.true_and]; exact stR hb)
    have noSwap : (k == .swap) = false → ∃ b, (eOr (e2 dNe (eW 3) (eC (.str "swap"))) (e2 dLt (e2 dIx (eW 4) (eC (.int 0))) (e2 dIx (eW 4) (eC (.int 1))))) E = .val (.bl b) E ∧ b = true := fun h => ⟨true, by
      have := vOr c6 (c := true) (g := (e2 dLt (e2 dIx (eW 4) (eC (.int 0))) (e2 dIx (eW 4) (eC (.int 1))))) fun z => by rw [h] at z; cases z
      rw [Bool.or_true] at this; exact this, rfl⟩
    cases k with
    | back => exact early rfl rfl
    | space => exact early rfl rfl
    | down => exact early rfl rfl
    | up => exact early rfl rfl
    | feed =>
      obtain ⟨n, hns⟩ := len1 hn
      have i0 : dIx (.lst (ns.map D.int)) (.int 0) = some (.int n) := by rw [hns]; rfl
      have hin : dIn (.int n) (.tup [.int 0, .int 2]) = some (.bl ([(0 : Int), 2].contains n)) := dIn_ints n [0, 2]
      have h1 : (eAnd (e2 dIn (e2 dIx (eW 4) (eC (.int 0))) (eN mkT [(eC (.int 0)), (eC (.int 2))])) (eNot (eIsi ["bool"] (e2 dIx (eW 4) (eC (.int 0)))))) E = .val (.bl ([(0 : Int), 2].contains n && !(["bool"].any (isiB "int")))) E :=
        vAnd (v2 (v2 w4 vC i0) (vN (vsC vC (vsC vC vs0)) rfl) hin) fun _ => vNot (vIsi (v2 w4 vC i0) rfl)
      have e : ([(0 : Int), 2].contains n && !(["bool"].any (isiB "int"))) = Flt.ok ks.length w ⟨.feed, ns⟩ := by
        rw [show ["bool"].any (isiB "int") = false from by decide +kernel, hns]
        show ([(0 : Int), 2].contains n && !false) = ((n == 0 || n == 2) && true)
        rw [List.contains_cons, List.contains_cons, List.contains_nil, Bool.or_false]; rfl
      rw [e] at h1
      exact sq_nx (si_f c2 rfl rfl) (sq_ret (si_t c3 rfl (stR h1)))
    | slip =>
      obtain ⟨n, hns⟩ := len1 hn
      have i0 : dIx (.lst (ns.map D.int)) (.int 0) = some (.int n) := by rw [hns]; rfl
      have hc := num_law (.int n) 1 (w - 2) "int" rfl
      have e : numD 1 (w - 2) (.int n) = Flt.ok ks.length w ⟨.slip, ns⟩ := by rw [hns]; show rngB 1 (w - 2) n = (rngB 1 (w - 2) n && true); rw [Bool.and_true]
      rw [e] at hc
      exact sq_nx (si_f c2 rfl rfl) (sq_nx (si_f c3 rfl rfl) (sq_ret (si_t c4 rfl (stR (vCall (vsC (v2 w4 vC i0) (vsC vC (vsC (v2 w1 vC rfl) vs0))) hc)))))
    | dead =>
      obtain ⟨b, hb, rfl⟩ := noSwap rfl
      exact late rfl rfl rfl (fun b2 hb2 => by rw [hb] at hb2; cases hb2; rw [Bool.and_true]; rfl) ⟨_, hb⟩
    | double =>
      obtain ⟨b, hb, rfl⟩ := noSwap rfl
      exact late rfl rfl rfl (fun b2 hb2 => by rw [hb] at hb2; cases hb2; rw [Bool.and_true]; rfl) ⟨_, hb⟩
    | stuck =>
      obtain ⟨b, hb, rfl⟩ := noSwap rfl
      exact late rfl rfl rfl (fun b2 hb2 => by rw [hb] at hb2; cases hb2; rw [Bool.and_true]; rfl) ⟨_, hb⟩
    | swap =>
      obtain ⟨x, y, hns⟩ := len2 hn
      have i0 : dIx (.lst (ns.map D.int)) (.int 0) = some (.int x) := by rw [hns]; rfl
      have i1 : dIx (.lst (ns.map D.int)) (.int 1) = some (.int y) := by rw [hns]; rfl
      have hlt : (e2 dLt (e2 dIx (eW 4) (eC (.int 0))) (e2 dIx (eW 4) (eC (.int 1)))) E = .val (.bl (decide (x < y))) E := v2 (v2 w4 vC i0) (v2 w4 vC i1) rfl
      have hb := vOr c6 fun _ => hlt
      rw [show (!(FK.swap == FK.swap)) = false from rfl, Bool.false_or] at hb
      exact late rfl rfl rfl (fun b2 hb2 => by rw [hb] at hb2; cases hb2; rw [hns]; rfl) ⟨_, hb⟩
  obtain ⟨e, he⟩ := key
  exact runD_ret (e := e) he
/-! ### do_clash -/
def OFK : D := .tup [.str "dead", .str "double", .str "stuck", .str "swap"]
def mClash : SX := (sSeq (sIf (e2 dEq (eW 0) (eW 1)) (sOf (eC (.bl true)) sRet) sNext)
  (sSeq (sIf (eAnd (e2 dIn (e2 dIx (eW 0) (eC (.int 0))) (eC (.tup [.str "dead", .str "double", .str "stuck", .str "swap"]))) (e2 dIn (e2 dIx (eW 1) (eC (.int 0))) (eC (.tup [.str "dead", .str "double", .str "stuck", .str "swap"])))) (sOf (e2 dNe (eLc (List.map (·.2) ([("key", 2)] : List (Str × Nat))) (iOf (eSl (eW 0) (some (eC (.int 1))) none)) (.nm 2) (e2 dIn (eW 2) (eSl (eW 1) (some (eC (.int 1))) none)) (eV 2)) (eN mkL [])) sRet) sNext)
  (sOf (eOr (eAnd (e2 dIn (e2 dIx (eW 0) (eC (.int 0))) (eC (.tup [.str "down", .str "up"]))) (e2 dIn (e2 dIx (eW 1) (eC (.int 0))) (eC (.tup [.str "down", .str "up"])))) (eAnd (e2 dEq (e2 dIx (eW 0) (eC (.int 0))) (eC (.str "feed"))) (e2 dEq (e2 dIx (eW 1) (eC (.int 0))) (eC (.str "feed"))))) sRet)))
def clashR : List D → Rv := runD mClash 3
theorem key_of (k : FK) : [FK.dead, .double, .stuck, .swap].contains k = k.key := by cases k <;> rfl
theorem lock_of (k : FK) : [FK.down, .up].contains k = k.lock := by cases k <;> rfl
theorem dSl_flt {F : EX} {e : Ev} (f : Flt) (h : F e = .val f.d e) : eSl F (some (eC (.int 1))) none e = .val (.tup (f.ns.map D.int)) e := (vSlD (n := 1) h vC).trans rfl
theorem clash_law (f g : Flt) (hf : f.wf) (hg : g.wf) : clashR [f.d, g.d] = .ret (.bl (f.clash g)) := by
  have hn : f.ns.length ≤ 2 := by have : f.ns.length = f.k.ar := hf; rw [this]; cases f.k <;> decide
  obtain ⟨E, hE⟩ : ∃ E : Ev, E = [.fz f.d, .fz g.d, .un] := ⟨_, rfl⟩
  have w0 : eW 0 E = .val f.d E := by rw [hE]; rfl
  have w1 : eW 1 E = .val g.d E := by rw [hE]; rfl
  have x0 : (e2 dIx (eW 0) (eC (.int 0))) E = .val (.str f.k.wd) E := v2 w0 vC rfl
  have x1 : (e2 dIx (eW 1) (eC (.int 0))) E = .val (.str g.k.wd) E := v2 w1 vC rfl
  have c1 : (e2 dEq (eW 0) (eW 1)) E = .val (.bl (decide (f = g))) E := v2 w0 w1 (dEq_flt f g)
  have c2 := vAnd (v2 x0 (vC (d := .tup (([FK.dead, .double, .stuck, .swap].map FK.wd).map D.str))) (dIn_wds _ f.k)) fun _ => v2 x1 (vC (d := .tup (([FK.dead, .double, .stuck, .swap].map FK.wd).map D.str))) (dIn_wds _ g.k)
  have c3 := vAnd (v2 x0 (vC (d := .tup (([FK.down, .up].map FK.wd).map D.str))) (dIn_wds _ f.k)) fun _ => v2 x1 (vC (d := .tup (([FK.down, .up].map FK.wd).map D.str))) (dIn_wds _ g.k)
  rw [key_of, key_of] at c2
  rw [lock_of, lock_of] at c3
  have c4 : (eAnd (e2 dEq (e2 dIx (eW 0) (eC (.int 0))) (eC (.str "feed"))) (e2 dEq (e2 dIx (eW 1) (eC (.int 0))) (eC (.str "feed")))) E = .val (.bl (f.k == .feed && g.k == .feed)) E := vAnd (v2 x0 vC (dEq_wd f.k .feed)) fun _ => v2 x1 vC (dEq_wd g.k .feed)
  have c5 : (e2 dNe (eLc (List.map (·.2) ([("key", 2)] : List (Str × Nat))) (iOf (eSl (eW 0) (some (eC (.int 1))) none)) (.nm 2) (e2 dIn (eW 2) (eSl (eW 1) (some (eC (.int 1))) none)) (eV 2)) (eN mkL [])) E = .val (.bl (f.ns.any fun n => g.ns.contains n)) E := by
    have hlc := vLc (j := 2) (it := iOf (eSl (eW 0) (some (eC (.int 1))) none)) (f := e2 dIn (eW 2) (eSl (eW 1) (some (eC (.int 1))) none)) (el := eV 2) (E := E) (E1 := E) (ds := f.ns.map D.int) (s0 := .un) (p := fun d => match d with | .int n => g.ns.contains n | _ => false) (g := id) (iof_v (dSl_flt f w0) rfl) (by rw [hE]; rfl) rfl (fun d hd => by
      obtain ⟨n, _, rfl⟩ := List.mem_map.mp hd
      rw [hE]
      exact v2 (vW' rfl) (dSl_flt g (vW' rfl)) (dIn_ints n g.ns)) (fun d _ _ => by rw [hE]; rfl) (by rw [List.length_map]; omega)
    have hd := dNe_filter (ds := f.ns.map D.int) (p := fun d => match d with | .int n => g.ns.contains n | _ => false) (g := id) fun d hd => by
      obtain ⟨n, _, rfl⟩ := List.mem_map.mp hd
      rfl
    rw [List.any_map] at hd
    exact v2 hlc (vN vs0 rfl) hd
  refine runD_ret (e := E) ?_
  show mClash [.fz f.d, .fz g.d, .un] = _
  rw [← hE]
  unfold Flt.clash mClash
  by_cases h : f = g
  · have : (f == g) = true := by simpa using h
    rw [this, Bool.true_or]
    exact sq_ret (si_t c1 (decide_eq_true h) (stR vC))
  · have : (f == g) = false := by simpa using h
    rw [this, Bool.false_or]
    refine sq_nx (si_f c1 (decide_eq_false h) rfl) ?_
    cases hk : (f.k.key && g.k.key) with
    | true =>
      rw [if_pos rfl]
      exact sq_ret (si_t c2 hk (stR c5))
    | false =>
      rw [if_neg Bool.false_ne_true]
      exact sq_nx (si_f c2 hk rfl) (stR (vOr c3 fun _ => c4))
/-! ### the law's clash -/
def mLClash : SX := (sSeq (sOf (eN mkT [(eC (.str "dead")), (eC (.str "double")), (eC (.str "stuck")), (eC (.str "swap"))]) (sAsg (.nm 2)))
  (sSeq (sIf (eAnd (e2 dIn (e2 dIx (eW 0) (eC (.int 0))) (eW 2)) (e2 dIn (e2 dIx (eW 1) (eC (.int 0))) (eW 2))) (sOf (e2 dNe (eLc (List.map (·.2) ([("_law_key", 3)] : List (Str × Nat))) (iOf (eSl (eW 0) (some (eC (.int 1))) none)) (.nm 3) (e2 dIn (eW 3) (eSl (eW 1) (some (eC (.int 1))) none)) (eV 3)) (eN mkL [])) sRet) sNext)
  (sSeq (sOf (eAnd (e2 dIn (e2 dIx (eW 0) (eC (.int 0))) (eN mkT [(eC (.str "down")), (eC (.str "up"))])) (e2 dIn (e2 dIx (eW 1) (eC (.int 0))) (eN mkT [(eC (.str "down")), (eC (.str "up"))]))) (sAsg (.nm 4)))
  (sOf (eOr (e2 dEq (eW 0) (eW 1)) (eOr (eV 4) (eAnd (e2 dEq (e2 dIx (eW 0) (eC (.int 0))) (eC (.str "feed"))) (e2 dEq (e2 dIx (eW 1) (eC (.int 0))) (eC (.str "feed")))))) sRet))))
def lclashR : List D → Rv := runD mLClash 5
/-- two faults of keys that are one share their keys -/
theorem any_self {l : List Int} (h : l ≠ []) : (l.any fun n => l.contains n) = true := by
  match l, h with
  | a :: l, _ => simp
theorem lclash_law (f g : Flt) (hf : f.wf) (hg : g.wf) : lclashR [f.d, g.d] = .ret (.bl (f.clash g)) := by
  have hn : f.ns.length ≤ 2 := by have : f.ns.length = f.k.ar := hf; rw [this]; cases f.k <;> decide
  have s1 : (sOf (eN mkT [(eC (.str "dead")), (eC (.str "double")), (eC (.str "stuck")), (eC (.str "swap"))]) (sAsg (.nm 2))) [.fz f.d, .fz g.d, .un, .un, .un] = .nx [.fz f.d, .fz g.d, .fz (.tup (([FK.dead, .double, .stuck, .swap].map FK.wd).map D.str)), .un, .un] := rfl
  obtain ⟨E, hE⟩ : ∃ E : Ev, E = [.fz f.d, .fz g.d, .fz (.tup (([FK.dead, .double, .stuck, .swap].map FK.wd).map D.str)), .un, .un] := ⟨_, rfl⟩
  have w0 : eW 0 E = .val f.d E := by rw [hE]; rfl
  have w1 : eW 1 E = .val g.d E := by rw [hE]; rfl
  have w2 : eW 2 E = .val (.tup (([FK.dead, .double, .stuck, .swap].map FK.wd).map D.str)) E := by rw [hE]; rfl
  have x0 : (e2 dIx (eW 0) (eC (.int 0))) E = .val (.str f.k.wd) E := v2 w0 vC rfl
  have x1 : (e2 dIx (eW 1) (eC (.int 0))) E = .val (.str g.k.wd) E := v2 w1 vC rfl
  have c2 := vAnd (v2 x0 w2 (dIn_wds _ f.k)) fun _ => v2 x1 w2 (dIn_wds _ g.k)
  rw [key_of, key_of] at c2
  have c3 : (eAnd (e2 dIn (e2 dIx (eW 0) (eC (.int 0))) (eN mkT [(eC (.str "down")), (eC (.str "up"))])) (e2 dIn (e2 dIx (eW 1) (eC (.int 0))) (eN mkT [(eC (.str "down")), (eC (.str "up"))]))) E = .val (.bl (f.k.lock && g.k.lock)) E := by
    have := vAnd (v2 x0 (vN (ds := ([FK.down, .up].map FK.wd).map D.str) (kn := mkT) (vsC vC (vsC vC vs0)) rfl) (dIn_wds [FK.down, .up] f.k)) fun _ => v2 x1 (vN (ds := ([FK.down, .up].map FK.wd).map D.str) (kn := mkT) (vsC vC (vsC vC vs0)) rfl) (dIn_wds [FK.down, .up] g.k)
    rw [lock_of, lock_of] at this
    exact this
  have c5 : (e2 dNe (eLc (List.map (·.2) ([("_law_key", 3)] : List (Str × Nat))) (iOf (eSl (eW 0) (some (eC (.int 1))) none)) (.nm 3) (e2 dIn (eW 3) (eSl (eW 1) (some (eC (.int 1))) none)) (eV 3)) (eN mkL [])) E = .val (.bl (f.ns.any fun n => g.ns.contains n)) E := by
    have hlc := vLc (j := 3) (it := iOf (eSl (eW 0) (some (eC (.int 1))) none)) (f := e2 dIn (eW 3) (eSl (eW 1) (some (eC (.int 1))) none)) (el := eV 3) (E := E) (E1 := E) (ds := f.ns.map D.int) (s0 := .un) (p := fun d => match d with | .int n => g.ns.contains n | _ => false) (g := id) (iof_v (dSl_flt f w0) rfl) (by rw [hE]; rfl) rfl (fun d hd => by
      obtain ⟨n, _, rfl⟩ := List.mem_map.mp hd
      rw [hE]
      exact v2 (vW' rfl) (dSl_flt g (vW' rfl)) (dIn_ints n g.ns)) (fun d _ _ => by rw [hE]; rfl) (by rw [List.length_map]; omega)
    have hd := dNe_filter (ds := f.ns.map D.int) (p := fun d => match d with | .int n => g.ns.contains n | _ => false) (g := id) fun d hd => by
      obtain ⟨n, _, rfl⟩ := List.mem_map.mp hd
      rfl
    rw [List.any_map] at hd
    exact v2 hlc (vN vs0 rfl) hd
  have key : ∃ e, mLClash [.fz f.d, .fz g.d, .un, .un, .un] = .ret (.bl (f.clash g)) e := by
    unfold mLClash
    cases hk : (f.k.key && g.k.key) with
    | true =>
      refine ⟨E, sq_nx s1 ?_⟩
      rw [← hE]
      have e : f.clash g = (f.ns.any fun n => g.ns.contains n) := by
        unfold Flt.clash
        rw [hk, if_pos rfl]
        by_cases h : f = g
        · subst h
          rw [Bool.and_self] at hk
          have : f.ns ≠ [] := by
            intro z
            have h2 : f.ns.length = f.k.ar := hf
            rw [z] at h2
            cases hk2 : f.k <;> rw [hk2] at hk h2 <;> first | exact absurd hk (by decide) | exact absurd h2 (by decide)
          rw [any_self this, Bool.or_true]
        · have : (f == g) = false := by simpa using h
          rw [this, Bool.false_or]
      rw [e]
      exact sq_ret (si_t c2 hk (stR c5))
    | false =>
      refine ⟨E.set 4 (.fz (.bl (f.k.lock && g.k.lock))), sq_nx s1 ?_⟩
      rw [← hE]
      refine sq_nx (si_f c2 hk rfl) (sq_nx (stA c3) ?_)
      have e : f.clash g = (decide (f = g) || ((f.k.lock && g.k.lock) || (f.k == .feed && g.k == .feed))) := by
        unfold Flt.clash
        rw [hk, if_neg Bool.false_ne_true]
        congr 1
      rw [e]
      have a0 : (e2 dIx (eW 0) (eC (.int 0))) (E.set 4 (.fz (.bl (f.k.lock && g.k.lock)))) = .val (.str f.k.wd) (E.set 4 (.fz (.bl (f.k.lock && g.k.lock)))) := by rw [hE]; rfl
      have a1 : (e2 dIx (eW 1) (eC (.int 0))) (E.set 4 (.fz (.bl (f.k.lock && g.k.lock)))) = .val (.str g.k.wd) (E.set 4 (.fz (.bl (f.k.lock && g.k.lock)))) := by rw [hE]; rfl
      have a2 : eW 0 (E.set 4 (.fz (.bl (f.k.lock && g.k.lock)))) = .val f.d (E.set 4 (.fz (.bl (f.k.lock && g.k.lock)))) := by rw [hE]; rfl
      have a3 : eW 1 (E.set 4 (.fz (.bl (f.k.lock && g.k.lock)))) = .val g.d (E.set 4 (.fz (.bl (f.k.lock && g.k.lock)))) := by rw [hE]; rfl
      have a4 : eV 4 (E.set 4 (.fz (.bl (f.k.lock && g.k.lock)))) = .val (.bl (f.k.lock && g.k.lock)) (E.set 4 (.fz (.bl (f.k.lock && g.k.lock)))) := by rw [hE]; rfl
      exact stR (vOr (v2 a2 a3 (dEq_flt f g)) fun _ => vOr a4 fun _ => vAnd (v2 a0 vC (dEq_wd f.k .feed)) fun _ => v2 a1 vC (dEq_wd g.k .feed))
  obtain ⟨e, he⟩ := key
  exact runD_ret (e := e) he
end TF
/-! #### text PM3 -/
set_option Elab.async false
set_option linter.all false
set_option maxRecDepth 100000
set_option maxHeartbeats 400000
/-! PM3: faults sorted. -/
namespace TF
open PySem L2 PyProof.Rows PySem.W
def tokD (d : D) : List (Int ⊕ List Nat) := keyToks d.py
theorem leD_eq (a b : D) : leD a b = !(lexLt itemOrd (tokD b) (tokD a)) := rfl
theorem leD_total (a b : D) : (leD a b || leD b a) = true := by
  rw [leD_eq, leD_eq]
  cases h : lexLt itemOrd (tokD b) (tokD a) with
  | false => rfl
  | true =>
    cases h2 : lexLt itemOrd (tokD a) (tokD b) with
    | false => rfl
    | true =>
      have := lex_trans (O := itemOrd) _ _ _ h h2
      rw [lex_irrefl] at this
      cases this
theorem leD_trans (a b c : D) (h1 : leD a b = true) (h2 : leD b c = true) : leD a c = true := by
  rw [leD_eq] at *
  cases h : lexLt itemOrd (tokD c) (tokD a) with
  | false => rfl
  | true =>
    rcases lex_negTrans (O := itemOrd) _ (tokD b) _ h with z | z
    · rw [z] at h2; cases h2
    · rw [z] at h1; cases h1
theorem leD_anti {a b : D} (h1 : leD a b = true) (h2 : leD b a = true) : tokD a = tokD b := by
  rw [leD_eq] at h1 h2
  exact lex_total (O := itemOrd) _ _ (by simpa using h2) (by simpa using h1)
theorem tok_ints : ∀ {a b : List Int}, keyToksAll (D.pys (a.map D.int)) = keyToksAll (D.pys (b.map D.int)) → a = b
  | [], [], _ => rfl
  | [], y :: b, h => by
    have h' : ([.inl 0] : List (Int ⊕ List Nat)) = .inl 1 :: ([.inl y] ++ keyToksAll (D.pys (b.map D.int))) := h
    simp at h'
  | x :: a, [], h => by
    have h' : (.inl 1 :: ([.inl x] ++ keyToksAll (D.pys (a.map D.int))) : List (Int ⊕ List Nat)) = [.inl 0] := h
    simp at h'
  | x :: a, y :: b, h => by
    have h' : (.inl 1 :: ([.inl x] ++ keyToksAll (D.pys (a.map D.int))) : List (Int ⊕ List Nat)) = .inl 1 :: ([.inl y] ++ keyToksAll (D.pys (b.map D.int))) := h
    simp only [List.cons_append, List.nil_append, List.cons.injEq, Sum.inl.injEq, true_and] at h'
    rw [h'.1, tok_ints h'.2]
theorem tok_flt {f g : Flt} (h : tokD f.d = tokD g.d) : f = g := by
  have h' : (.inl 1 :: ([.inr f.k.wd.cps.toList] ++ keyToksAll (D.pys (f.ns.map D.int))) : List (Int ⊕ List Nat)) = .inl 1 :: ([.inr g.k.wd.cps.toList] ++ keyToksAll (D.pys (g.ns.map D.int))) := h
  simp only [List.cons_append, List.nil_append, List.cons.injEq, Sum.inr.injEq, true_and] at h'
  have h1 := wd_inj (str_of_cps h'.1)
  have h2 := tok_ints h'.2
  cases f; cases g
  simp at h1 h2
  rw [h1, h2]
/-- one order alone -/
theorem sorted_uniq {α : Type} {le : α → α → Bool} : ∀ {l m : List α}, l.Pairwise (fun a b => le a b = true) → m.Pairwise (fun a b => le a b = true) → l.Perm m → (∀ a ∈ l, ∀ b ∈ l, le a b = true → le b a = true → a = b) → l = m
  | [], m, _, _, h, _ => by rw [List.nil_perm.mp h]
  | a :: l, [], _, _, h, _ => by have := h.length_eq; simp at this
  | a :: l, b :: m, h1, h2, h, anti => by
    have p1 := List.pairwise_cons.mp h1
    have p2 := List.pairwise_cons.mp h2
    have hab : a = b := by
      have ha : a ∈ b :: m := h.mem_iff.mp List.mem_cons_self
      have hb : b ∈ a :: l := h.mem_iff.mpr List.mem_cons_self
      rcases List.mem_cons.mp ha with e | ha
      · exact e
      · rcases List.mem_cons.mp hb with e | hb
        · exact e.symm
        · exact anti a List.mem_cons_self b (List.mem_cons_of_mem _ hb) (p1.1 b hb) (p2.1 a ha)
    subst hab
    rw [sorted_uniq p1.2 p2.2 ((List.perm_cons a).mp h) fun x hx y hy => anti x (List.mem_cons_of_mem _ hx) y (List.mem_cons_of_mem _ hy)]
def leF (a b : Flt) : Bool := leD a.d b.d
def srF (fs : List Flt) : List Flt := fs.mergeSort leF
theorem sortD_flt (fs : List Flt) : sortD (fs.map Flt.d) = (srF fs).map Flt.d := (List.map_mergeSort (f := Flt.d) (r := leF) (s := leD) fun a _ b _ => rfl).symm
theorem srF_perm (fs : List Flt) : (srF fs).Perm fs := List.mergeSort_perm _ _
theorem srF_sorted (fs : List Flt) : (srF fs).Pairwise fun a b => leF a b = true := List.pairwise_mergeSort (le := leF) (fun a b c => leD_trans a.d b.d c.d) (fun a b => leD_total a.d b.d) fs
theorem srF_uniq {fs l : List Flt} (h : l.Pairwise fun a b => leF a b = true) (hp : l.Perm fs) : srF fs = l := sorted_uniq (srF_sorted fs) h ((srF_perm fs).trans hp.symm) fun a _ b _ h1 h2 => tok_flt (leD_anti h1 h2)
theorem srF_congr {fs gs : List Flt} (h : fs.Perm gs) : srF fs = srF gs := srF_uniq (srF_sorted gs) ((srF_perm gs).trans h.symm)
theorem srF_filter (p : Flt → Bool) (fs : List Flt) : srF (fs.filter p) = (srF fs).filter p := srF_uniq ((srF_sorted fs).filter p) ((srF_perm fs).filter p)
theorem srF_srt (fs : List Flt) : srF (srF fs) = srF fs := srF_congr (srF_perm fs)
theorem srF_len (fs : List Flt) : (srF fs).length = fs.length := (srF_perm fs).length_eq
theorem srF_mem {fs : List Flt} {f : Flt} : f ∈ srF fs ↔ f ∈ fs := (srF_perm fs).mem_iff
theorem alike_ints' : ∀ (a b : List Int), alikeAll (D.pys (a.map D.int)) (D.pys (b.map D.int)) = true
  | [], _ => by unfold alikeAll; rfl
  | _ :: _, [] => rfl
  | x :: a, y :: b => by
    show (alike (.int x) (.int y) && alikeAll (D.pys (a.map D.int)) (D.pys (b.map D.int))) = true
    rw [alike_ints' a b]; rfl
theorem alike_flt (f g : Flt) : alike f.d.py g.d.py = true := by
  show (alike (.str f.k.wd) (.str g.k.wd) && alikeAll (D.pys (f.ns.map D.int)) (D.pys (g.ns.map D.int))) = true
  rw [alike_ints']; rfl
theorem okSort_flt {fs : List Flt} (hl : fs.length ≤ 1000) : okSort (fs.map Flt.d) = true := by
  unfold okSort
  simp only [Bool.and_eq_true, Bool.or_eq_true, decide_eq_true_eq, List.all_eq_true]
  refine ⟨⟨⟨?_, ?_⟩, ?_⟩, .inl ?_⟩
  · rw [List.length_map]; omega
  · intro d hd
    obtain ⟨c, hc, rfl⟩ := List.mem_map.mp hd
    exact fd_pl c 18
  · intro d hd d2 hd2
    obtain ⟨c, hc, rfl⟩ := List.mem_map.mp hd
    obtain ⟨c2, hc2, rfl⟩ := List.mem_map.mp hd2
    exact alike_flt c c2
  · intro d hd
    obtain ⟨c, hc, rfl⟩ := List.mem_map.mp hd
    rfl
/-- a tuple or a list -/
def sqD (b : Bool) (xs : List D) : D := if b then .tup xs else .lst xs
theorem dSorted_flt {fs : List Flt} (hl : fs.length ≤ 1000) (b : Bool) : dSorted [sqD b (fs.map Flt.d)] = some (.lst ((srF fs).map Flt.d)) := by
  cases b
  · show (if okSort (fs.map Flt.d) then some (D.lst (sortD (fs.map Flt.d))) else none) = _
    rw [if_pos (okSort_flt hl), sortD_flt]
  · show (if okSort (fs.map Flt.d) then some (D.lst (sortD (fs.map Flt.d))) else none) = _
    rw [if_pos (okSort_flt hl), sortD_flt]
end TF
/-! #### text PM4 -/
set_option Elab.async false
set_option linter.all false
set_option maxRecDepth 100000
set_option maxHeartbeats 400000
/-! PM4: plain law of Machine's init. -/
namespace TF
open PySem L2
def mcComp : EX := (eLc (List.map (·.2) ([("other", 7)] : List (Str × Nat))) (iOf (eSl (eW 3) none (some (eV 4)))) (.nm 7) (eCall clashR [(eV 5), (eV 7)]) (eV 7))
def mcBody : SX := (sSeq (sOf (e2 dNe mcComp (eN mkL [])) (sAsg (.nm 6)))
  (sIf (eOr (eNot (eCall isFR [(eV 1), (eV 2), (eV 5)])) (eV 6)) (sRaise "InvalidMachine" ["part", "index"] [(eC (.str "faults")), (eV 4)]) sNext))
def mMcInit : SX := (sSeq (sIf (eNot (eCall numR [(eV 2), (eC (.int 2)), (eC (.int 20))])) (sRaise "InvalidMachine" ["part", "index"] [(eC (.str "width")), (eC (.int 0))]) sNext)
  (sSeq (sFor (TF.iEnum 0 (eV 3)) (.tp [(.nm 4), (.nm 5)]) mcBody)
  (sSeq (sOf (eV 1) (sMeC "Machine" 0 "own_keyboard"))
  (sSeq (sOf (eV 2) (sMeC "Machine" 0 "own_width"))
  (sOf (eN dTupOf [(eN dSorted [(eW 3)])]) (sMeC "Machine" 0 "own_faults"))))))
/-- the first fault that cannot be -/
def mcI (nk w : Int) : List Flt → List Flt → Option Nat
  | _, [] => none
  | pre, f :: r => if !(f.ok nk w) || pre.any (fun o => f.clash o) then some pre.length else mcI nk w (pre ++ [f]) r
def mcW (w : Int) : Bool := rngB 2 20 w
theorem vSlTk {f g : EX} {e e1 e2' : Ev} {b : Bool} {ds : List D} {n : Nat} (h1 : f e = .val (sqD b ds) e1) (h2 : g e1 = .val (.int n) e2') : eSl f none (some g) e = .val (sqD b (ds.take n)) e2' := by
  unfold eSl; rw [h1]; simp only [Rx.bind]; unfold optB; simp only []; rw [h2]; simp only [Rx.bind]
  cases b
  · show Rx.of (some (D.lst (cutD ds none (some n)))) e2' = _
    rw [cut_take]; rfl
  · show Rx.of (some (D.tup (cutD ds none (some n)))) e2' = _
    rw [cut_take]; rfl
theorem items_sq (b : Bool) (ds : List D) : itemsD (sqD b ds) = some ds := by cases b <;> rfl
theorem mc_body {ks : List Str} (hk : ks.length ≤ 1000) {w : Int} {pre rest : List Flt} {f : Flt} {b : Bool} (hl : (pre ++ f :: rest).length ≤ 1000) (hw : ∀ g ∈ pre ++ f :: rest, g.wf) (s0 s6 : S) :
    mcBody [s0, .fz (KB ks), .fz (.int w), .fz (sqD b ((pre ++ f :: rest).map Flt.d)), .fz (.int pre.length), .fz f.d, s6, .un] =
      if !(f.ok ks.length w) || pre.any (fun o => f.clash o) then .exc ⟨"InvalidMachine", some [("part", .str "faults"), ("index", .int pre.length)]⟩ [s0, .fz (KB ks), .fz (.int w), .fz (sqD b ((pre ++ f :: rest).map Flt.d)), .fz (.int pre.length), .fz f.d, .fz (.bl (pre.any (fun o => f.clash o))), .un]
      else .nx [s0, .fz (KB ks), .fz (.int w), .fz (sqD b ((pre ++ f :: rest).map Flt.d)), .fz (.int pre.length), .fz f.d, .fz (.bl (pre.any (fun o => f.clash o))), .un] := by
  have hwf : f.wf := hw f (by simp)
  have hwp : ∀ g ∈ pre, g.wf := fun g hg => hw g (List.mem_append_left _ hg)
  have hpl : pre.length ≤ 1000 := by rw [List.length_append] at hl; omega
  have ht : ((pre ++ f :: rest).map Flt.d).take pre.length = pre.map Flt.d := by rw [← List.map_take, List.take_left]
  obtain ⟨E, hE⟩ : ∃ E : Ev, E = [s0, .fz (KB ks), .fz (.int w), .fz (sqD b ((pre ++ f :: rest).map Flt.d)), .fz (.int pre.length), .fz f.d, s6, .un] := ⟨_, rfl⟩
  have hsl : eSl (eW 3) none (some (eV 4)) E = .val (sqD b (pre.map Flt.d)) E := by
    have := vSlTk (f := eW 3) (g := eV 4) (e := E) (e1 := E) (e2' := E) (b := b) (ds := (pre ++ f :: rest).map Flt.d) (n := pre.length) (by rw [hE]; rfl) (by rw [hE]; rfl)
    rw [ht] at this; exact this
  have hc : mcComp E = .val (.lst (((pre.map Flt.d).filter fun d => pre.any fun o => decide (deq d o.d) && f.clash o).map id)) E := by
    have hp : ∀ o ∈ pre, (pre.any fun q => decide (deq o.d q.d) && f.clash q) = f.clash o := fun o ho => by
      rw [Bool.eq_iff_iff, List.any_eq_true]
      constructor
      · rintro ⟨q, hq, hz⟩
        rw [Bool.and_eq_true, decide_eq_true_eq] at hz
        have h1 := hz.1
        rw [deq_flt, decide_eq_true_eq] at h1
        rw [h1]; exact hz.2
      · exact fun h => ⟨o, ho, by rw [deq_flt]; simp [h]⟩
    refine vLc (s0 := .un) (iof_v hsl (items_sq b _)) (by rw [hE]; rfl) rfl (fun d hd => ?_) (fun d _ _ => by rw [hE]; rfl) (by rw [List.length_map]; omega)
    obtain ⟨o, ho, rfl⟩ := List.mem_map.mp hd
    rw [hp o ho, hE]
    exact vCall (vsC (vV rfl) (vsC (vV rfl) vs0)) (clash_law f o hwf (hwp o ho))
  have hd := dNe_filter (ds := pre.map Flt.d) (p := fun d => pre.any fun o => decide (deq d o.d) && f.clash o) (g := id) fun d hd => by
    obtain ⟨o, _, rfl⟩ := List.mem_map.mp hd
    exact fd_pl o 17
  have ha : ((pre.map Flt.d).any fun d => pre.any fun o => decide (deq d o.d) && f.clash o) = pre.any fun o => f.clash o := by
    rw [List.any_map, Bool.eq_iff_iff, List.any_eq_true, List.any_eq_true]
    constructor
    · rintro ⟨o, ho, h⟩
      obtain ⟨q, hq, hz⟩ := List.any_eq_true.mp h
      rw [Bool.and_eq_true] at hz
      exact ⟨q, hq, hz.2⟩
    · rintro ⟨o, ho, h⟩
      exact ⟨o, ho, List.any_eq_true.mpr ⟨o, ho, by rw [deq_flt]; simp [h]⟩⟩
  rw [ha] at hd
  have s1 : (sOf (e2 dNe mcComp (eN mkL [])) (sAsg (.nm 6))) E = .nx (E.set 6 (.fz (.bl (pre.any fun o => f.clash o)))) := stA (v2 hc (vN vs0 rfl) hd)
  have hE2 : E.set 6 (.fz (.bl (pre.any fun o => f.clash o))) = [s0, .fz (KB ks), .fz (.int w), .fz (sqD b ((pre ++ f :: rest).map Flt.d)), .fz (.int pre.length), .fz f.d, .fz (.bl (pre.any (fun o => f.clash o))), .un] := by rw [hE]; rfl
  rw [hE2] at s1
  rw [← hE]
  have hi := isF_law hk w f hwf
  obtain ⟨E3, hE3⟩ : ∃ E3 : Ev, E3 = [s0, .fz (KB ks), .fz (.int w), .fz (sqD b ((pre ++ f :: rest).map Flt.d)), .fz (.int pre.length), .fz f.d, .fz (.bl (pre.any (fun o => f.clash o))), .un] := ⟨_, rfl⟩
  rw [← hE3] at s1 ⊢
  have v1 : eV 1 E3 = .val (KB ks) E3 := by rw [hE3]; rfl
  have v2' : eV 2 E3 = .val (.int w) E3 := by rw [hE3]; rfl
  have v5 : eV 5 E3 = .val f.d E3 := by rw [hE3]; rfl
  have v4 : eV 4 E3 = .val (.int pre.length) E3 := by rw [hE3]; rfl
  have v6 : eV 6 E3 = .val (.bl (pre.any fun o => f.clash o)) E3 := by rw [hE3]; rfl
  have c := vOr (vNot (vCall (vsC v1 (vsC v2' (vsC v5 vs0))) hi)) fun _ => v6
  unfold mcBody
  refine sq_nx s1 ?_
  cases hb : (!(f.ok ks.length w) || pre.any (fun o => f.clash o)) with
  | true =>
    rw [if_pos rfl]
    exact si_t c hb (sRaise_v (vsC vC (vsC v4 vs0)))
  | false =>
    rw [if_neg Bool.false_ne_true]
    exact si_f c hb rfl
theorem mc_for {ks : List Str} (hk : ks.length ≤ 1000) {w : Int} {b : Bool} (s0 : S) : ∀ (rest pre : List Flt) (s4 s5 s6 : S), (pre ++ rest).length ≤ 1000 → (∀ g ∈ pre ++ rest, g.wf) → match mcI ks.length w pre rest with
    | some j => ∃ e, forL (.tp [(.nm 4), (.nm 5)]) mcBody (enumD pre.length (rest.map Flt.d)) [s0, .fz (KB ks), .fz (.int w), .fz (sqD b ((pre ++ rest).map Flt.d)), s4, s5, s6, .un] = .exc ⟨"InvalidMachine", some [("part", .str "faults"), ("index", .int j)]⟩ e ∧ e[0]? = some s0
    | none => ∃ t4 t5 t6, forL (.tp [(.nm 4), (.nm 5)]) mcBody (enumD pre.length (rest.map Flt.d)) [s0, .fz (KB ks), .fz (.int w), .fz (sqD b ((pre ++ rest).map Flt.d)), s4, s5, s6, .un] = .nx [s0, .fz (KB ks), .fz (.int w), .fz (sqD b ((pre ++ rest).map Flt.d)), t4, t5, t6, .un]
  | [], pre, s4, s5, s6, _, _ => ⟨s4, s5, s6, rfl⟩
  | f :: rest, pre, s4, s5, s6, hl, hw => by
    have hb := mc_body hk (w := w) (b := b) hl hw s0 s6
    have ha : asg (.tp [(.nm 4), (.nm 5)]) (.tup [.int pre.length, f.d]) [s0, .fz (KB ks), .fz (.int w), .fz (sqD b ((pre ++ f :: rest).map Flt.d)), s4, s5, s6, .un] = some [s0, .fz (KB ks), .fz (.int w), .fz (sqD b ((pre ++ f :: rest).map Flt.d)), .fz (.int pre.length), .fz f.d, s6, .un] := rfl
    have e0 : enumD pre.length ((f :: rest).map Flt.d) = .tup [.int pre.length, f.d] :: enumD ((pre.length : Int) + 1) (rest.map Flt.d) := rfl
    rw [e0]
    unfold mcI
    cases hbad : (!(f.ok ks.length w) || pre.any (fun o => f.clash o)) with
    | true =>
      rw [hbad, if_pos rfl] at hb
      rw [if_pos rfl]
      exact ⟨_, forL_exc ha hb, rfl⟩
    | false =>
      rw [hbad, if_neg Bool.false_ne_true] at hb
      rw [if_neg Bool.false_ne_true, forL_nx ha hb]
      have ee : pre ++ f :: rest = (pre ++ [f]) ++ rest := by rw [List.append_assoc]; rfl
      have el : (pre.length : Int) + 1 = ((pre ++ [f]).length : Nat) := by rw [List.length_append]; rfl
      rw [ee, el]
      exact mc_for hk s0 rest (pre ++ [f]) _ _ _ (by rw [← ee]; exact hl) (by rw [← ee]; exact hw)
/-! ### from data to faults -/
def unI : List D → Option (List Int)
  | [] => some []
  | .int n :: r => (unI r).map (n :: ·)
  | _ => none
theorem unI_map : ∀ l : List Int, unI (l.map D.int) = some l
  | [] => rfl
  | n :: l => by rw [List.map_cons]; show (unI (l.map D.int)).map (n :: ·) = _; rw [unI_map l]; rfl
theorem unI_eq : ∀ {ds : List D} {l : List Int}, unI ds = some l → ds = l.map D.int
  | [], l, h => by cases h; rfl
  | .int n :: r, l, h => by
    unfold unI at h
    cases hr : unI r with
    | none => rw [hr] at h; cases h
    | some zs => rw [hr] at h; cases h; rw [unI_eq hr]; rfl
  | .non :: _, _, h => by cases h
  | .bl _ :: _, _, h => by cases h
  | .str _ :: _, _, h => by cases h
  | .tup _ :: _, _, h => by cases h
  | .lst _ :: _, _, h => by cases h
  | .dic _ :: _, _, h => by cases h
  | .obj _ _ :: _, _, h => by cases h
def FKs : List FK := [.back, .space, .down, .up, .feed, .slip, .dead, .double, .stuck, .swap]
def unK (x : Str) : Option FK := FKs.find? fun k => k.wd == x
theorem unK_wd (k : FK) : unK k.wd = some k := by
  unfold unK
  have h : (FKs.find? fun q => q.wd == k.wd) = FKs.find? fun q => q == k := by congr 1; funext q; exact wd_eq q k
  rw [h]
  cases k <;> rfl
theorem unK_eq {x : Str} {k : FK} (h : unK x = some k) : x = k.wd := by
  have := List.find?_some h
  exact (beq_iff_eq.mp this).symm
def unF : D → Option Flt
  | .tup (.str x :: r) => (unK x).bind fun k => (unI r).bind fun ns => if ns.length = k.ar then some ⟨k, ns⟩ else none
  | _ => none
theorem unF_d (f : Flt) (hf : f.wf) : unF f.d = some f := by
  show ((unK f.k.wd).bind fun k => (unI (f.ns.map D.int)).bind fun ns => if ns.length = k.ar then some (⟨k, ns⟩ : Flt) else none) = _
  rw [unK_wd, Option.bind_some, unI_map, Option.bind_some, if_pos (show f.ns.length = f.k.ar from hf)]
theorem unF_eq {d : D} {f : Flt} (h : unF d = some f) : d = f.d ∧ f.wf := by
  unfold unF at h
  split at h
  · rename_i x r
    cases hk : unK x with
    | none => rw [hk] at h; cases h
    | some k =>
      cases hr : unI r with
      | none => rw [hk, hr] at h; cases h
      | some ns =>
        rw [hk, hr, Option.bind_some, Option.bind_some] at h
        split at h
        · rename_i hl
          cases h
          rw [unK_eq hk, unI_eq hr]
          exact ⟨rfl, hl⟩
        · cases h
  · cases h
def unFs : List D → Option (List Flt)
  | [] => some []
  | d :: r => (unF d).bind fun f => (unFs r).map (f :: ·)
theorem unFs_d : ∀ {fs : List Flt}, (∀ f ∈ fs, f.wf) → unFs (fs.map Flt.d) = some fs
  | [], _ => rfl
  | f :: fs, h => by
    show (unF f.d).bind (fun g => (unFs (fs.map Flt.d)).map (g :: ·)) = _
    rw [unF_d f (h f List.mem_cons_self), unFs_d fun g hg => h g (List.mem_cons_of_mem _ hg)]; rfl
theorem unFs_eq : ∀ {ds : List D} {fs : List Flt}, unFs ds = some fs → ds = fs.map Flt.d ∧ ∀ f ∈ fs, f.wf
  | [], fs, h => by cases h; exact ⟨rfl, fun _ h => by cases h⟩
  | d :: r, fs, h => by
    unfold unFs at h
    cases hd : unF d with
    | none => rw [hd] at h; cases h
    | some f =>
      cases hr : unFs r with
      | none => rw [hd, hr] at h; cases h
      | some gs =>
        rw [hd, hr] at h
        cases h
        obtain ⟨h1, h2⟩ := unF_eq hd
        obtain ⟨h3, h4⟩ := unFs_eq hr
        rw [h1, h3]
        exact ⟨rfl, fun g hg => by
          rcases List.mem_cons.mp hg with e | hg
          · rw [e]; exact h2
          · exact h4 g hg⟩
def unSq : D → Option (Bool × List D)
  | .tup xs => some (true, xs)
  | .lst xs => some (false, xs)
  | _ => none
theorem unSq_eq {d : D} {b : Bool} {xs : List D} (h : unSq d = some (b, xs)) : d = sqD b xs := by
  cases d <;> simp [unSq] at h <;> obtain ⟨rfl, rfl⟩ := h <;> rfl
theorem unSq_sq (b : Bool) (xs : List D) : unSq (sqD b xs) = some (b, xs) := by cases b <;> rfl
abbrev MC (ks : List Str) (w : Int) (fs : List Flt) : D := .obj "Machine" [.tup (fs.map Flt.d), KB ks, .int w]
/-- what Machine(..) answers -/
def mcR (nk w : Int) (fs : List Flt) : Option (Str × Int) := if mcW w then (match mcI nk w [] fs with
    | some j => some ("faults", (j : Int))
    | none => none) else some ("width", 0)
def mc_r (ds : List D) : Rv := match ds with
  | [.obj c [.tup kd], .int w, d] => if c = "Keyboard" then (match strsOf kd, unSq d with
    | some ks, some (b, xs) => (match unFs xs with
      | some fs => if fs.length ≤ 1000 ∧ ks.length ≤ 1000 then (match mcR ks.length w fs with
        | some (x, j) => .exc ⟨"InvalidMachine", some [("part", .str x), ("index", .int j)]⟩
        | none => .ret (MC ks w (srF fs))) else .stuck
      | none => .stuck)
    | _, _ => .stuck) else .stuck
  | _ => .stuck
theorem mc_eval {ks : List Str} {w : Int} {fs : List Flt} (b : Bool) (hw : ∀ f ∈ fs, f.wf) (h1 : fs.length ≤ 1000) (h2 : ks.length ≤ 1000) : mc_r [KB ks, .int w, sqD b (fs.map Flt.d)] = match mcR ks.length w fs with
    | some (x, j) => .exc ⟨"InvalidMachine", some [("part", .str x), ("index", .int j)]⟩
    | none => .ret (MC ks w (srF fs)) := by
  unfold mc_r
  simp only []
  rw [if_pos trivial, strsOf_map, unSq_sq]
  simp only []
  rw [unFs_d hw]
  simp only []
  rw [if_pos ⟨h1, h2⟩]
theorem mc_run (a dx : Addr) {ks : List Str} {w : Int} {fs : List Flt} (b : Bool) (hw : ∀ f ∈ fs, f.wf) (h1 : fs.length ≤ 1000) (h2 : ks.length ≤ 1000) : match mcR ks.length w fs with
    | some (x, j) => ∃ e, mMcInit (evI 8 a dx "Machine" [KB ks, .int w, sqD b (fs.map Flt.d)]) = .exc ⟨"InvalidMachine", some [("part", .str x), ("index", .int j)]⟩ e ∧ e[0]? = some (.me a dx "Machine" [])
    | none => ∃ e, mMcInit (evI 8 a dx "Machine" [KB ks, .int w, sqD b (fs.map Flt.d)]) = .nx e ∧ e[0]? = some (.me a dx "Machine" [("own_faults", .tup ((srF fs).map Flt.d)), ("own_width", .int w), ("own_keyboard", KB ks)]) := by
  obtain ⟨E, hE⟩ : ∃ E : Ev, E = [.me a dx "Machine" [], .fz (KB ks), .fz (.int w), .fz (sqD b (fs.map Flt.d)), .un, .un, .un, .un] := ⟨_, rfl⟩
  have e0 : evI 8 a dx "Machine" [KB ks, .int w, sqD b (fs.map Flt.d)] = E := by rw [hE]; rfl
  rw [e0]
  have hn := num_law (.int w) 2 20 "int" rfl
  have c1 : (eNot (eCall numR [(eV 2), (eC (.int 2)), (eC (.int 20))])) E = .val (.bl (!(mcW w))) E := vNot (vCall (vsC (by rw [hE]; rfl) (vsC vC (vsC vC vs0))) hn)
  have hF := mc_for h2 (w := w) (b := b) (.me a dx "Machine" []) fs [] .un .un .un (by simpa using h1) (by simpa using hw)
  have hit : TF.iEnum 0 (eV 3) E = .val (enumD 0 (fs.map Flt.d)) E := enum_v (d := sqD b (fs.map Flt.d)) (by rw [hE]; rfl) (items_sq b _)
  unfold mcR mMcInit
  cases hW : mcW w with
  | false =>
    rw [if_neg Bool.false_ne_true]
    exact ⟨E, sq_exc (si_t c1 (by rw [hW]; rfl) (sRaise_v (vsC vC (vsC vC vs0)))), by rw [hE]; rfl⟩
  | true =>
    rw [if_pos rfl]
    cases hI : mcI ks.length w [] fs with
    | some j =>
      rw [hI] at hF
      obtain ⟨e, h3, h4⟩ := hF
      exact ⟨e, sq_nx (si_f c1 (by rw [hW]; rfl) rfl) (sq_exc (for_v hit (by rw [hE]; exact h3))), h4⟩
    | none =>
      rw [hI] at hF
      obtain ⟨t4, t5, t6, h3⟩ := hF
      have hs := dSorted_flt h1 b
      refine ⟨[.me a dx "Machine" [("own_faults", .tup ((srF fs).map Flt.d)), ("own_width", .int w), ("own_keyboard", KB ks)], .fz (KB ks), .fz (.int w), .fz (sqD b (fs.map Flt.d)), t4, t5, t6, .un], sq_nx (si_f c1 (by rw [hW]; rfl) rfl) (sq_nx (for_v hit (by rw [hE]; exact h3)) (sq_nx (e1 := [.me a dx "Machine" [("own_keyboard", KB ks)], .fz (KB ks), .fz (.int w), .fz (sqD b (fs.map Flt.d)), t4, t5, t6, .un]) ((sOf_v (vV rfl)).trans rfl) (sq_nx (e1 := [.me a dx "Machine" [("own_width", .int w), ("own_keyboard", KB ks)], .fz (KB ks), .fz (.int w), .fz (sqD b (fs.map Flt.d)), t4, t5, t6, .un]) ((sOf_v (vV rfl)).trans rfl) ((sOf_v (vN (vsC (vN (vsC (vW' rfl) vs0) hs) vs0) rfl)).trans rfl)))), rfl⟩
theorem mc_inv {ds : List D} (h : mc_r ds ≠ .stuck) : ∃ (ks : List Str) (w : Int) (b : Bool) (fs : List Flt), ds = [KB ks, .int w, sqD b (fs.map Flt.d)] ∧ (∀ f ∈ fs, f.wf) ∧ fs.length ≤ 1000 ∧ ks.length ≤ 1000 := by
  unfold mc_r at h
  split at h
  · rename_i c kd w d
    split at h
    · rename_i hc
      subst hc
      cases hk : strsOf kd with
      | none => rw [hk] at h; exact absurd rfl h
      | some ks =>
        cases hq : unSq d with
        | none => rw [hk, hq] at h; exact absurd rfl h
        | some z =>
          obtain ⟨b, xs⟩ := z
          rw [hk, hq] at h
          simp only [] at h
          cases hf : unFs xs with
          | none => rw [hf] at h; exact absurd rfl h
          | some fs =>
            rw [hf] at h
            simp only [] at h
            split at h
            · rename_i hl
              obtain ⟨h3, h4⟩ := unFs_eq hf
              exact ⟨ks, w, b, fs, by rw [strsOf_eq hk, unSq_eq hq, h3], h4, hl.1, hl.2⟩
            · exact absurd rfl h
    · exact absurd rfl h
  · exact absurd rfl h
theorem mc_hm (a dx : Addr) (ds : List D) (hl : ds.length = 3) : match mc_r ds with
    | .ret (.obj c' fs) => c' = "Machine" ∧ (slotC "Machine" = true → fs ≠ []) ∧ ∃ e fs', mMcInit (evI 8 a dx "Machine" ds) = .nx e ∧ e[0]? = some (.me a dx "Machine" fs') ∧ objOf "Machine" fs' = some fs ∧ (slotC "Machine" = false → fs'.length ≤ 900 ∧ ∀ f, f ∉ fldC "Machine" → fs'.lookup f = none)
    | .exc x => ∃ e, mMcInit (evI 8 a dx "Machine" ds) = .exc x e ∧ ∃ fs', e[0]? = some (.me a dx "Machine" fs')
    | .stuck => True
    | _ => False := by
  by_cases hs : mc_r ds = .stuck
  · rw [hs]; trivial
  · obtain ⟨ks, w, b, fs, rfl, hw, h1, h2⟩ := mc_inv hs
    rw [mc_eval b hw h1 h2]
    have hrun := mc_run a dx (w := w) b hw h1 h2
    cases hR : mcR ks.length w fs with
    | some z =>
      obtain ⟨x, j⟩ := z
      rw [hR] at hrun
      obtain ⟨e, h3, h4⟩ := hrun
      exact ⟨e, h3, _, h4⟩
    | none =>
      rw [hR] at hrun
      obtain ⟨e, h3, h4⟩ := hrun
      exact ⟨rfl, fun _ => by simp, e, _, h3, h4, rfl, fun h => by cases h⟩
end TF
/-! #### text PM5 -/
set_option Elab.async false
set_option linter.all false
set_option maxRecDepth 100000
set_option maxHeartbeats 400000
/-! PM5: machines: readings, repaired, with_fault, ==. -/
namespace TF
open PySem L2
def mMkb : SX := (sOf (eAttr "Machine" 1 (eV 0)) sRet)
def mkbR : List D → Rv := runD mMkb 1
def mMw : SX := (sOf (eAttr "Machine" 2 (eV 0)) sRet)
def mwR : List D → Rv := runD mMw 1
def mMf : SX := (sOf (eAttr "Machine" 0 (eV 0)) sRet)
def mfR : List D → Rv := runD mMf 1
def mMwith : SX := (sOf (eMake "Machine" mc_r [(eAttr "Machine" 1 (eV 0)), (eAttr "Machine" 2 (eV 0)), (e2 dAdd (eAttr "Machine" 0 (eV 0)) (eN mkT [(eV 1)]))]) sRet)
def mwithR : List D → Rv := runD mMwith 2
def mMrep : SX := (sSeq (sOf (eLc (List.map (·.2) ([("fault", 3)] : List (Str × Nat))) (iOf (eAttr "Machine" 0 (eV 0))) (.nm 3) (e2 dNotIn (eW 3) (eW 1)) (eV 3)) (sAsg (.nm 2)))
  (sOf (eMake "Machine" mc_r [(eAttr "Machine" 1 (eV 0)), (eAttr "Machine" 2 (eV 0)), (eV 2)]) sRet))
def mrepR : List D → Rv := runD mMrep 4
def mMeq : SX := (sSeq (sIf (eOr (eNot (eIsC "Machine" (eV 1))) (e2 (dOwn "Keyboard" keqR true) (eAttr "Machine" 1 (eV 0)) (eProp "Machine" mkbR (eV 1)))) (sOf (eC (.bl false)) sRet) sNext)
  (sOf (eAnd (e2 dEq (eAttr "Machine" 2 (eV 0)) (eProp "Machine" mwR (eV 1))) (e2 dEq (eAttr "Machine" 0 (eV 0)) (eProp "Machine" mfR (eV 1)))) sRet))
def meqR : List D → Rv := runD mMeq 2
section
variable {ks ls : List Str} {w v : Int} {fs gs : List Flt}
theorem mkb_law : mkbR [MC ks w fs] = .ret (KB ks) := runD_ret (e := [.fz (MC ks w fs)]) (stR (vAttr (vV rfl) rfl))
theorem mw_law : mwR [MC ks w fs] = .ret (.int w) := runD_ret (e := [.fz (MC ks w fs)]) (stR (vAttr (vV rfl) rfl))
theorem mf_law : mfR [MC ks w fs] = .ret (.tup (fs.map Flt.d)) := runD_ret (e := [.fz (MC ks w fs)]) (stR (vAttr (vV rfl) rfl))
theorem dAdd_flt {a b : List Flt} (h : a.length + b.length ≤ 1000) : dAdd (.tup (a.map Flt.d)) (.tup (b.map Flt.d)) = some (.tup ((a ++ b).map Flt.d)) := by
  rw [dAdd_tup (by rw [List.length_map, List.length_map]; exact h), List.map_append]
theorem with_law {f : Flt} (hw : ∀ g ∈ fs ++ [f], g.wf) (h1 : (fs ++ [f]).length ≤ 1000) (h2 : ks.length ≤ 1000) (h : mcR ks.length w (fs ++ [f]) = none) : mwithR [MC ks w fs, f.d] = .ret (MC ks w (srF (fs ++ [f]))) := by
  have hm := mc_eval (ks := ks) (w := w) true hw h1 h2
  rw [h] at hm
  have ha : dAdd (.tup (fs.map Flt.d)) (.tup [f.d]) = some (sqD true ((fs ++ [f]).map Flt.d)) := dAdd_flt (b := [f]) (by rw [List.length_append] at h1; exact h1)
  exact runD_ret (e := [.fz (MC ks w fs), .fz f.d]) (stR (vMake (vsC (vAttr (vV rfl) rfl) (vsC (vAttr (vV rfl) rfl) (vsC (v2 (vAttr (vV rfl) rfl) (vN (vsC (vV rfl) vs0) rfl) ha) vs0))) hm))
theorem dNotIn_sq (f : Flt) (gs : List Flt) (b : Bool) : dNotIn f.d (sqD b (gs.map Flt.d)) = some (.bl (!(gs.contains f))) := by
  have hp : D.pls 20 (gs.map Flt.d) = true := pls_all fun d hd => by
    obtain ⟨g, _, rfl⟩ := List.mem_map.mp hd
    exact fd_pl g 18
  have ha : anyEq (gs.map Flt.d) f.d = gs.contains f := by
    show ((gs.map Flt.d).any fun z => deq z f.d) = _
    rw [List.any_map, Bool.eq_iff_iff, List.any_eq_true, List.contains_iff_mem]
    constructor
    · rintro ⟨g, hg, h⟩
      have : deq g.d f.d = true := h
      rw [deq_flt, decide_eq_true_eq] at this
      rw [← this]; exact hg
    · exact fun h => ⟨f, h, by show deq f.d f.d = true; rw [deq_flt]; simp⟩
  unfold dNotIn dInB
  cases b
  · show (if f.d.pl 20 && D.pls 20 (gs.map Flt.d) then some (anyEq (gs.map Flt.d) f.d) else none).map _ = _
    rw [fd_pl f 18, hp, Bool.true_and, if_pos rfl, ha]; rfl
  · show (if f.d.pl 20 && D.pls 20 (gs.map Flt.d) then some (anyEq (gs.map Flt.d) f.d) else none).map _ = _
    rw [fd_pl f 18, hp, Bool.true_and, if_pos rfl, ha]; rfl
/-- [f for f in fs if f not in gs], by data -/
def pNot (gs : List Flt) (d : D) : Bool := !(gs.any fun g => deq g.d d)
theorem pNot_flt (gs : List Flt) (f : Flt) : pNot gs f.d = !(gs.contains f) := by
  unfold pNot
  congr 1
  rw [Bool.eq_iff_iff, List.any_eq_true, List.contains_iff_mem]
  constructor
  · rintro ⟨g, hg, h⟩
    rw [deq_flt, decide_eq_true_eq] at h
    rw [← h]; exact hg
  · exact fun h => ⟨f, h, by rw [deq_flt]; simp⟩
theorem filter_not (fs gs : List Flt) : ((fs.map Flt.d).filter (pNot gs)).map id = (fs.filter fun f => !(gs.contains f)).map Flt.d := by
  rw [List.map_id, List.filter_map]
  congr 1
  exact List.filter_congr fun f _ => pNot_flt gs f
theorem rep_law {b : Bool} (hw : ∀ g ∈ fs, g.wf) (h1 : fs.length ≤ 1000) (h2 : ks.length ≤ 1000) (h : mcR ks.length w (fs.filter fun f => !(gs.contains f)) = none) : mrepR [MC ks w fs, sqD b (gs.map Flt.d)] = .ret (MC ks w (srF (fs.filter fun f => !(gs.contains f)))) := by
  have hm := mc_eval (ks := ks) (w := w) (fs := fs.filter fun f => !(gs.contains f)) false (fun g hg => hw g (List.mem_filter.mp hg).1) (Nat.le_trans (List.length_filter_le _ _) h1) h2
  rw [h] at hm
  obtain ⟨E, hE⟩ : ∃ E : Ev, E = [.fz (MC ks w fs), .fz (sqD b (gs.map Flt.d)), .un, .un] := ⟨_, rfl⟩
  have hlc : eLc [3] (iOf (eAttr "Machine" 0 (eV 0))) (.nm 3) (e2 dNotIn (eW 3) (eW 1)) (eV 3) E = .val (.lst (((fs.map Flt.d).filter (pNot gs)).map id)) E := by
    refine vLc (s0 := .un) (iof_v (d := .tup (fs.map Flt.d)) (vAttr (fl := [.tup (fs.map Flt.d), KB ks, .int w]) (by rw [hE]; rfl) rfl) rfl) (by rw [hE]; rfl) rfl (fun d hd => ?_) (fun d _ _ => by rw [hE]; rfl) (by rw [List.length_map]; omega)
    obtain ⟨f, hf, rfl⟩ := List.mem_map.mp hd
    rw [pNot_flt, hE]
    exact v2 (vW' rfl) (vW' rfl) (dNotIn_sq f gs b)
  rw [filter_not] at hlc
  have key : ∃ e, mMrep E = .ret (MC ks w (srF (fs.filter fun f => !(gs.contains f)))) e := by
    refine ⟨E.set 2 (.fz (.lst ((fs.filter fun f => !(gs.contains f)).map Flt.d))), sq_nx (stA hlc) ?_⟩
    rw [hE]
    exact stR (vMake (vsC (vAttr (vV rfl) rfl) (vsC (vAttr (vV rfl) rfl) (vsC (vV rfl) vs0))) hm)
  obtain ⟨e, he⟩ := key
  exact runD_ret (e := e) (by rw [show ev0 4 [MC ks w fs, sqD b (gs.map Flt.d)] = E from by rw [hE]; rfl]; exact he)
theorem deqs_flts : ∀ (a b : List Flt), deqs (a.map Flt.d) (b.map Flt.d) = decide (a = b)
  | [], [] => rfl
  | [], _ :: _ => by simp [deqs]
  | _ :: _, [] => by simp [deqs]
  | x :: a, y :: b => by
    rw [List.map_cons, List.map_cons]
    show (deq x.d y.d && deqs (a.map Flt.d) (b.map Flt.d)) = _
    rw [deqs_flts a b, deq_flt, Bool.eq_iff_iff]
    simp
theorem pl_flts (fs : List Flt) (n : Nat) : (D.tup (fs.map Flt.d)).pl (n + 3) = true := by
  show D.pls (n + 2) (fs.map Flt.d) = true
  refine pls_all fun d hd => ?_
  obtain ⟨k, hk, rfl⟩ := List.mem_map.mp hd
  exact fd_pl k n
theorem dEq_flts (a b : List Flt) : dEq (.tup (a.map Flt.d)) (.tup (b.map Flt.d)) = some (.bl (decide (a = b))) := by
  rw [dEq_of (pl_flts a 17) (pl_flts b 17)]
  show some (D.bl (deqs (a.map Flt.d) (b.map Flt.d))) = _
  rw [deqs_flts]
theorem dNe_flts (a b : List Flt) : dNe (.tup (a.map Flt.d)) (.tup (b.map Flt.d)) = some (.bl (!decide (a = b))) := by
  rw [dNe_of (pl_flts a 17) (pl_flts b 17)]
  show some (D.bl (!deqs (a.map Flt.d) (b.map Flt.d))) = _
  rw [deqs_flts]
theorem meq_law (hk : ∀ k ∈ ks, PyData.strOk k = true) (hl : ∀ k ∈ ls, PyData.strOk k = true) : meqR [MC ks w fs, MC ls v gs] = .ret (.bl (decide (ks = ls) && (decide (w = v) && decide (fs = gs)))) := by
  obtain ⟨E, hE⟩ : ∃ E : Ev, E = [.fz (MC ks w fs), .fz (MC ls v gs)] := ⟨_, rfl⟩
  have c1 : (eOr (eNot (eIsC "Machine" (eV 1))) (e2 (dOwn "Keyboard" keqR true) (eAttr "Machine" 1 (eV 0)) (eProp "Machine" mkbR (eV 1)))) E = .val (.bl (!(true) || !decide (ks = ls))) E := by
    rw [hE]
    exact vOr (vNot (b := true) rfl) fun _ => v2 (vAttr (vV rfl) rfl) (vProp (vV rfl) mkb_law) (dOwn_kb hk hl true)
  have c2 : (eAnd (e2 dEq (eAttr "Machine" 2 (eV 0)) (eProp "Machine" mwR (eV 1))) (e2 dEq (eAttr "Machine" 0 (eV 0)) (eProp "Machine" mfR (eV 1)))) E = .val (.bl ((w == v) && decide (fs = gs))) E := by
    rw [hE]
    exact vAnd (v2 (vAttr (vV rfl) rfl) (vProp (vV rfl) mw_law) (dEq_int w v)) fun _ => v2 (vAttr (vV rfl) rfl) (vProp (vV rfl) mf_law) (dEq_flts fs gs)
  have key : mMeq E = .ret (.bl (decide (ks = ls) && (decide (w = v) && decide (fs = gs)))) E := by
    unfold mMeq
    by_cases h : ks = ls
    · rw [decide_eq_true h, Bool.true_and]
      have e : (w == v) = decide (w = v) := by by_cases z : w = v <;> simp [z]
      rw [← e]
      exact sq_nx (si_f c1 (by rw [decide_eq_true h]; rfl) rfl) (stR c2)
    · rw [decide_eq_false h, Bool.false_and]
      exact sq_ret (si_t c1 (by rw [decide_eq_false h]; rfl) (stR vC))
  exact runD_ret (e := E) (by rw [show ev0 2 [MC ks w fs, MC ls v gs] = E from by rw [hE]; rfl]; exact key)
theorem dOwn_mc (hk : ∀ k ∈ ks, PyData.strOk k = true) (hl : ∀ k ∈ ls, PyData.strOk k = true) (n : Bool) : dOwn "Machine" meqR n (MC ks w fs) (MC ls v gs) = some (.bl (if n then !(decide (ks = ls) && (decide (w = v) && decide (fs = gs))) else (decide (ks = ls) && (decide (w = v) && decide (fs = gs))))) := by
  unfold dOwn
  simp only []
  rw [if_pos ⟨trivial, trivial⟩, meq_law hk hl]
end
/-! ### clashes -/
theorem clash_symm (f g : Flt) : f.clash g = g.clash f := by
  unfold Flt.clash
  have e1 : (f == g) = (g == f) := by rw [Bool.eq_iff_iff]; simp only [beq_iff_eq]; exact ⟨Eq.symm, Eq.symm⟩
  have e2 : (f.ns.any fun n => g.ns.contains n) = (g.ns.any fun n => f.ns.contains n) := by
    rw [Bool.eq_iff_iff, List.any_eq_true, List.any_eq_true]
    constructor
    · rintro ⟨n, h1, h2⟩; exact ⟨n, List.contains_iff_mem.mp h2, List.contains_iff_mem.mpr h1⟩
    · rintro ⟨n, h1, h2⟩; exact ⟨n, List.contains_iff_mem.mp h2, List.contains_iff_mem.mpr h1⟩
  rw [e1, e2, Bool.and_comm f.k.key, Bool.and_comm f.k.lock, Bool.and_comm (f.k == FK.feed)]
def peace (fs : List Flt) : Prop := fs.Pairwise fun a b => a.clash b = false
theorem peace_perm {fs gs : List Flt} (h : fs.Perm gs) (p : peace fs) : peace gs := (List.Perm.pairwise_iff (R := fun (a b : Flt) => a.clash b = false) (fun {x y} h => by rw [clash_symm]; exact h) h).mp p
theorem mcI_none {nk w : Int} : ∀ (fs pre : List Flt), (∀ f ∈ fs, f.ok nk w = true) → peace (pre ++ fs) → mcI nk w pre fs = none
  | [], _, _, _ => rfl
  | f :: fs, pre, h1, h2 => by
    have h3 : pre.any (fun o => f.clash o) = false := by
      rw [List.any_eq_false]
      intro o ho
      rw [clash_symm, (List.pairwise_append.mp h2).2.2 o ho f List.mem_cons_self]; exact Bool.false_ne_true
    unfold mcI
    rw [h1 f List.mem_cons_self, h3, if_neg (by decide)]
    exact mcI_none fs (pre ++ [f]) (fun g hg => h1 g (List.mem_cons_of_mem _ hg)) (by rw [List.append_assoc]; exact h2)
/-- faults that can be at once -/
structure GF (nk w : Int) (fs : List Flt) : Prop where
  len : fs.length ≤ 100
  wf : ∀ f ∈ fs, f.wf
  ok : ∀ f ∈ fs, f.ok nk w = true
  pc : peace fs
theorem GF.none {nk w : Int} {fs : List Flt} (g : GF nk w fs) (hw : mcW w = true) : mcR nk w fs = none := by
  unfold mcR
  rw [if_pos hw, mcI_none fs [] g.ok (by simpa using g.pc)]
theorem GF.perm {nk w : Int} {fs gs : List Flt} (g : GF nk w fs) (h : fs.Perm gs) : GF nk w gs := ⟨by rw [← h.length_eq]; exact g.len, fun f hf => g.wf f (h.mem_iff.mpr hf), fun f hf => g.ok f (h.mem_iff.mpr hf), peace_perm h g.pc⟩
theorem GF.sub {nk w : Int} {fs gs : List Flt} (g : GF nk w fs) (h : gs.Sublist fs) : GF nk w gs := ⟨Nat.le_trans h.length_le g.len, fun f hf => g.wf f (h.subset hf), fun f hf => g.ok f (h.subset hf), g.pc.sublist h⟩
theorem GF.sort {nk w : Int} {fs : List Flt} (g : GF nk w fs) : GF nk w (srF fs) := g.perm (srF_perm fs).symm
theorem GF.nodup {nk w : Int} {fs : List Flt} (g : GF nk w fs) : fs.Nodup := g.pc.imp fun {a b} h e => by
  subst e
  unfold Flt.clash at h
  simp at h
end TF
/-! #### text PM6 -/
set_option Elab.async false
set_option linter.all false
set_option maxRecDepth 100000
set_option maxHeartbeats 400000
/-! PM6: drawing faults and machines. -/
namespace TF
open PySem L2
def mFault : SX := (sSeq (sPK [(.f, 3, (eCallS nextR 0 [(eC (.int 11))])), (.f, 4, (eCallS nextR 0 [(eN dLen [(eW 1)])])), (.f, 5, (eCallS nextR 0 [(eN dLen [(eW 1)])]))])
  (sSeq (sIf (e2 dLt (eW 3) (eC (.int 4))) (sOf (e2 dIx (eN mkL [(eN mkT [(eC (.str "back"))]), (eN mkT [(eC (.str "space"))]), (eN mkT [(eC (.str "down"))]), (eN mkT [(eC (.str "up"))])]) (eW 3)) sRet) sNext)
  (sSeq (sIf (e2 dEq (eW 3) (eC (.int 4))) (sOf (eN mkT [(eC (.str "feed")), (e2 dIx (eN mkL [(eC (.int 0)), (eC (.int 2))]) (eCallS nextR 0 [(eC (.int 2))]))]) sRet) sNext)
  (sSeq (sIf (eAnd (e2 dLt (eW 3) (eC (.int 7))) (e2 dGt (eW 2) (eC (.int 2)))) (sOf (eN mkT [(eC (.str "slip")), (e2 dAdd (eC (.int 1)) (eCallS nextR 0 [(e2 dSub (eW 2) (eC (.int 2)))]))]) sRet) sNext)
  (sSeq (sIf (eAnd (e2 dEq (eW 3) (eC (.int 7))) (e2 dNe (eW 4) (eW 5))) (sOf (eN mkT [(eC (.str "swap")), (eN dMin2 [(eW 4), (eW 5)]), (eN dMax2 [(eW 4), (eW 5)])]) sRet) sNext)
  (sOf (eN mkT [(e2 dIx (eN mkL [(eC (.str "dead")), (eC (.str "double")), (eC (.str "stuck"))]) (eCallS nextR 0 [(eC (.int 3))])), (eV 4)]) sRet))))))
/-- the drawn fault, from its kind and its two keys -/
def flK (k a b : Nat) (s3 : Src) (w : Nat) : Flt × Src :=
  if k < 4 then (⟨[FK.back, .space, .down, .up].getD k .back, []⟩, s3)
  else if k = 4 then (⟨.feed, [[(0 : Int), 2].getD (nextN s3 2) 0]⟩, nextZ s3 2)
  else if k < 7 ∧ 2 < w then (⟨.slip, [((1 + nextN s3 (w - 2) : Nat) : Int)]⟩, nextZ s3 (w - 2))
  else if k = 7 ∧ a ≠ b then (⟨.swap, [((min a b : Nat) : Int), ((max a b : Nat) : Int)]⟩, s3)
  else (⟨[FK.dead, .double, .stuck].getD (nextN s3 3) .dead, [(a : Int)]⟩, nextZ s3 3)
def drF (nk w : Nat) (s : Src) : Flt × Src := flK (nextN s 11) (nextN (nextZ s 11) nk) (nextN (nextZ (nextZ s 11) nk) nk) (nextZ (nextZ (nextZ s 11) nk) nk) w
def faultR (s : Src) (ds : List D) : Option (D × Src) := match ds with
  | [.tup kd, .int w] => if 0 < kd.length ∧ kd.length ≤ 1000 ∧ 0 ≤ w ∧ w ≤ 1000 ∧ s.cells.length ≤ 1000 then some ((drF kd.length w.toNat s).1.d, (drF kd.length w.toNat s).2) else none
  | _ => none
theorem spk_fff {i j k : Nat} {f g h : EX} {e e1 e2' e3 : Ev} {d1 d2 d3 : D} (h1 : f e = .val d1 e1) (h2 : g e1 = .val d2 e2') (h3 : h e2' = .val d3 e3) : sPK [(.f, i, f), (.f, j, g), (.f, k, h)] e = .nx (((e3.set k (.fz d3)).set j (.fz d2)).set i (.fz d1)) := by
  unfold sPK
  rw [show ([(Kd.f, i, f), (Kd.f, j, g), (Kd.f, k, h)].map fun x => x.2.2) = [f, g, h] from rfl, vsC h1 (vsC h2 (vsC h3 vs0))]
  rfl
theorem flK_len (k a b : Nat) (s3 : Src) (w : Nat) : (flK k a b s3 w).2.cells.length = s3.cells.length := by
  unfold flK
  split
  · rfl
  · split
    · exact nextZ_len _ _
    · split
      · exact nextZ_len _ _
      · split
        · rfl
        · exact nextZ_len _ _
theorem drF_len (nk w : Nat) (s : Src) : (drF nk w s).2.cells.length = s.cells.length := by
  unfold drF; rw [flK_len, nextZ_len, nextZ_len, nextZ_len]
theorem flK_ok (nk k a b : Nat) (s3 : Src) (w : Nat) (ha : a < nk) (hb : b < nk) : (flK k a b s3 w).1.wf ∧ (flK k a b s3 w).1.ok nk w = true := by
  unfold flK
  split
  · have c : k = 0 ∨ k = 1 ∨ k = 2 ∨ k = 3 := by omega
    rcases c with c | c | c | c <;> subst c <;> exact ⟨rfl, rfl⟩
  · split
    · refine ⟨rfl, ?_⟩
      have c : nextN s3 2 = 0 ∨ nextN s3 2 = 1 := by have := nextN_lt s3 (lim := 2) (by omega); omega
      rcases c with c | c <;> rw [c] <;> rfl
    · split
      · rename_i h
        refine ⟨rfl, ?_⟩
        have := nextN_lt s3 (lim := w - 2) (by omega)
        show (rngB 1 ((w : Int) - 2) ((1 + nextN s3 (w - 2) : Nat) : Int) && true) = true
        unfold rngB
        rw [Bool.and_true, Bool.and_eq_true, decide_eq_true_eq, decide_eq_true_eq]
        omega
      · split
        · rename_i h
          refine ⟨rfl, ?_⟩
          show ((rngB 0 ((nk : Int) - 1) ((min a b : Nat) : Int) && (rngB 0 ((nk : Int) - 1) ((max a b : Nat) : Int) && true)) && decide (((min a b : Nat) : Int) < ((max a b : Nat) : Int))) = true
          unfold rngB
          simp only [Bool.and_true, Bool.and_eq_true, decide_eq_true_eq]
          omega
        · have c : nextN s3 3 = 0 ∨ nextN s3 3 = 1 ∨ nextN s3 3 = 2 := by have := nextN_lt s3 (lim := 3) (by omega); omega
          have hr : (rngB 0 ((nk : Int) - 1) (a : Int) && true) = true := by
            unfold rngB
            simp only [Bool.and_true, Bool.and_eq_true, decide_eq_true_eq]
            omega
          rcases c with c | c | c <;> rw [c]
          · exact ⟨rfl, hr⟩
          · exact ⟨rfl, hr⟩
          · exact ⟨rfl, hr⟩
theorem drF_ok (nk w : Nat) (s : Src) (h : 0 < nk) : (drF nk w s).1.wf ∧ (drF nk w s).1.ok nk w = true := flK_ok nk _ _ _ _ w (nextN_lt _ h) (nextN_lt _ h)
theorem dMin2_nat (a b : Nat) : dMin2 [.int a, .int b] = some (.int ((min a b : Nat) : Int)) := by
  show some (D.int (if (b : Int) < a then (b : Int) else a)) = _
  congr 2
  split <;> omega
theorem dMax2_nat (a b : Nat) : dMax2 [.int a, .int b] = some (.int ((max a b : Nat) : Int)) := by
  show some (D.int (if (b : Int) > a then (b : Int) else a)) = _
  congr 2
  split <;> omega
theorem fault_law (p q : Addr) (s : Src) (ds : List D) (d : D) (s' : Src) (hl : ds.length = 2) (h : faultR s ds = some (d, s')) : ∃ e, mFault (evS 6 p q s ds) = .ret d e ∧ e[0]? = some (.src p q s'.st s'.cells s'.ix) := by
  unfold faultR at h
  split at h
  · rename_i kd wi
    split at h
    · rename_i hb
      obtain ⟨b1, b2, b3, b4, b5⟩ := hb
      cases h
      obtain ⟨w, hw⟩ : ∃ w : Nat, wi.toNat = w := ⟨_, rfl⟩
      have hwi : wi = (w : Int) := by omega
      subst hwi
      rw [Int.toNat_natCast]
      obtain ⟨nk, hnk⟩ : ∃ nk, kd.length = nk := ⟨_, rfl⟩
      rw [hnk] at b1 b2 ⊢
      have hlen : dLen [.tup kd] = some (.int nk) := by rw [← hnk]; rfl
      have n1 := nextR_nat s (lim := 11) (by omega) (by omega) b5
      have n2 := nextR_nat (nextZ s 11) (lim := nk) b1 (by omega) (by rw [nextZ_len]; exact b5)
      have n3 := nextR_nat (nextZ (nextZ s 11) nk) (lim := nk) b1 (by omega) (by rw [nextZ_len, nextZ_len]; exact b5)
      obtain ⟨k, hk⟩ : ∃ k, nextN s 11 = k := ⟨_, rfl⟩
      obtain ⟨a, ha⟩ : ∃ a, nextN (nextZ s 11) nk = a := ⟨_, rfl⟩
      obtain ⟨b, hb⟩ : ∃ b, nextN (nextZ (nextZ s 11) nk) nk = b := ⟨_, rfl⟩
      have s1 : sPK [(.f, 3, (eCallS nextR 0 [(eC (.int 11))])), (.f, 4, (eCallS nextR 0 [(eN dLen [(eW 1)])])), (.f, 5, (eCallS nextR 0 [(eN dLen [(eW 1)])]))] [sr p q s, .fz (.tup kd), .fz (.int w), .un, .un, .un] = .nx [sr p q (nextZ (nextZ (nextZ s 11) nk) nk), .fz (.tup kd), .fz (.int w), .fz (.int k), .fz (.int a), .fz (.int b)] := by
        rw [hk] at n1; rw [ha] at n2; rw [hb] at n3
        exact spk_fff (vCallS1 (p := p) (q := q) (s := s) rfl (vsC vC vs0) rfl n1) (vCallS1 (p := p) (q := q) (s := nextZ s 11) rfl (vsC (vN (vsC (vW' rfl) vs0) hlen) vs0) rfl n2) (vCallS1 (p := p) (q := q) (s := nextZ (nextZ s 11) nk) rfl (vsC (vN (vsC (vW' rfl) vs0) hlen) vs0) rfl n3)
      have hkl : k < 11 := by rw [← hk]; exact nextN_lt s (by omega)
      have b6 : (nextZ (nextZ (nextZ s 11) nk) nk).cells.length ≤ 1000 := by rw [nextZ_len, nextZ_len, nextZ_len]; exact b5
      unfold drF
      rw [hk, ha, hb]
      obtain ⟨s3, hs3⟩ : ∃ s3, nextZ (nextZ (nextZ s 11) nk) nk = s3 := ⟨_, rfl⟩
      rw [hs3] at s1 b6 ⊢
      have e0 : evS 6 p q s [.tup kd, .int w] = [sr p q s, .fz (.tup kd), .fz (.int w), .un, .un, .un] := rfl
      rw [e0]
      obtain ⟨E, hE⟩ : ∃ E : Ev, E = [sr p q s3, .fz (.tup kd), .fz (.int w), .fz (.int k), .fz (.int a), .fz (.int b)] := ⟨_, rfl⟩
      rw [← hE] at s1
      have w3 : eW 3 E = .val (.int k) E := by rw [hE]; rfl
      have w4 : eW 4 E = .val (.int a) E := by rw [hE]; rfl
      have w5 : eW 5 E = .val (.int b) E := by rw [hE]; rfl
      have w2 : eW 2 E = .val (.int w) E := by rw [hE]; rfl
      have E0 : E[0]? = some (.src p q s3.st s3.cells s3.ix) := by rw [hE]; rfl
      have c1 : (e2 dLt (eW 3) (eC (.int 4))) E = .val (.bl (decide ((k : Int) < 4))) E := v2 w3 vC rfl
      have c2 : (e2 dEq (eW 3) (eC (.int 4))) E = .val (.bl ((k : Int) == 4)) E := v2 w3 vC (dEq_int k 4)
      have c3 : (eAnd (e2 dLt (eW 3) (eC (.int 7))) (e2 dGt (eW 2) (eC (.int 2)))) E = .val (.bl (decide ((k : Int) < 7) && decide ((2 : Int) < w))) E := vAnd (v2 w3 vC rfl) fun _ => v2 w2 vC rfl
      have c4 : (eAnd (e2 dEq (eW 3) (eC (.int 7))) (e2 dNe (eW 4) (eW 5))) E = .val (.bl (((k : Int) == 7) && !((a : Int) == b))) E := vAnd (v2 w3 vC (dEq_int k 7)) fun _ => v2 w4 w5 (dNe_int a b)
      unfold flK mFault
      by_cases h1 : k < 4
      · simp only [if_pos h1]
        refine ⟨E, sq_nx s1 (sq_ret (si_t c1 (decide_eq_true (by omega)) (stR (v2 (vN (vsC (vN (vsC vC vs0) rfl) (vsC (vN (vsC vC vs0) rfl) (vsC (vN (vsC vC vs0) rfl) (vsC (vN (vsC vC vs0) rfl) vs0)))) rfl) w3 ?_)))), E0⟩
        have c : k = 0 ∨ k = 1 ∨ k = 2 ∨ k = 3 := by omega
        rcases c with c | c | c | c <;> subst c <;> rfl
      · simp only [if_neg h1]
        have f1 := decide_eq_false (p := (k : Int) < 4) (by omega)
        by_cases h2 : k = 4
        · simp only [if_pos h2]
          have n4 := nextR_nat s3 (lim := 2) (by omega) (by omega) b6
          have hlt := nextN_lt s3 (lim := 2) (by omega)
          refine ⟨E.set 0 (sr p q (nextZ s3 2)), sq_nx s1 (sq_nx (si_f c1 f1 rfl) (sq_ret (si_t c2 (by subst h2; rfl) (stR (vN (ds := [.str "feed", .int ([(0 : Int), 2].getD (nextN s3 2) 0)]) (vsC vC (vsC (v2 (vN (vsC vC (vsC vC vs0)) rfl) (vCallS1 (p := p) (q := q) (s := s3) E0 (vsC vC vs0) E0 n4) ?_) vs0)) rfl))))), by rw [hE]; rfl⟩
          have c : nextN s3 2 = 0 ∨ nextN s3 2 = 1 := by omega
          rcases c with c | c <;> rw [c] <;> rfl
        · simp only [if_neg h2]
          have f2 : ((k : Int) == 4) = false := by rw [beq_eq_false_iff_ne]; omega
          by_cases h3 : k < 7 ∧ 2 < w
          · simp only [if_pos h3]
            have n4 := nextR_nat s3 (lim := w - 2) (by omega) (by omega) b6
            have hsub : dSub (.int w) (.int 2) = some (.int ((w - 2 : Nat) : Int)) := by
              show some (D.int ((w : Int) - 2)) = _
              congr 2; omega
            have hadd : dAdd (.int 1) (.int (nextN s3 (w - 2) : Nat)) = some (.int ((1 + nextN s3 (w - 2) : Nat) : Int)) := by rw [Int.natCast_add]; rfl
            exact ⟨E.set 0 (sr p q (nextZ s3 (w - 2))), sq_nx s1 (sq_nx (si_f c1 f1 rfl) (sq_nx (si_f c2 f2 rfl) (sq_ret (si_t c3 (by rw [decide_eq_true (by omega), decide_eq_true (by omega)]; rfl) (stR (vN (ds := [.str "slip", .int ((1 + nextN s3 (w - 2) : Nat) : Int)]) (vsC vC (vsC (v2 vC (vCallS1 (p := p) (q := q) (s := s3) E0 (vsC (v2 w2 vC hsub) vs0) E0 n4) hadd) vs0)) rfl)))))), by rw [hE]; rfl⟩
          · simp only [if_neg h3]
            have f3 : (decide ((k : Int) < 7) && decide ((2 : Int) < w)) = false := by
              by_cases z : k < 7
              · rw [decide_eq_false (p := (2 : Int) < w) (by omega), Bool.and_false]
              · rw [decide_eq_false (p := (k : Int) < 7) (by omega), Bool.false_and]
            by_cases h4 : k = 7 ∧ a ≠ b
            · simp only [if_pos h4]
              have t4 : (((k : Int) == 7) && !((a : Int) == b)) = true := by
                rw [h4.1, show (((7 : Nat) : Int) == 7) = true from rfl, Bool.true_and, Bool.not_eq_true', beq_eq_false_iff_ne]
                have := h4.2
                omega
              exact ⟨E, sq_nx s1 (sq_nx (si_f c1 f1 rfl) (sq_nx (si_f c2 f2 rfl) (sq_nx (si_f c3 f3 rfl) (sq_ret (si_t c4 t4 (stR (vN (ds := [.str "swap", .int ((min a b : Nat) : Int), .int ((max a b : Nat) : Int)]) (vsC vC (vsC (vN (vsC w4 (vsC w5 vs0)) (dMin2_nat a b)) (vsC (vN (vsC w4 (vsC w5 vs0)) (dMax2_nat a b)) vs0))) rfl))))))), E0⟩
            · simp only [if_neg h4]
              have f4 : (((k : Int) == 7) && !((a : Int) == b)) = false := by
                by_cases z : k = 7
                · have zz : a = b := Decidable.of_not_not fun y => h4 ⟨z, y⟩
                  rw [zz, show ((b : Int) == b) = true by simp, Bool.not_true, Bool.and_false]
                · rw [show ((k : Int) == 7) = false by rw [beq_eq_false_iff_ne]; omega, Bool.false_and]
              have n4 := nextR_nat s3 (lim := 3) (by omega) (by omega) b6
              have hlt := nextN_lt s3 (lim := 3) (by omega)
              have v4 : eV 4 (E.set 0 (sr p q (nextZ s3 3))) = .val (.int a) (E.set 0 (sr p q (nextZ s3 3))) := by rw [hE]; rfl
              refine ⟨E.set 0 (sr p q (nextZ s3 3)), sq_nx s1 (sq_nx (si_f c1 f1 rfl) (sq_nx (si_f c2 f2 rfl) (sq_nx (si_f c3 f3 rfl) (sq_nx (si_f c4 f4 rfl) (stR (vN (ds := [.str ([FK.dead, .double, .stuck].getD (nextN s3 3) .dead).wd, .int a]) (vsC (v2 (vN (vsC vC (vsC vC (vsC vC vs0))) rfl) (vCallS1 (p := p) (q := q) (s := s3) E0 (vsC vC vs0) E0 n4) ?_) (vsC v4 vs0)) rfl)))))), by rw [hE]; rfl⟩
              have c : nextN s3 3 = 0 ∨ nextN s3 3 = 1 ∨ nextN s3 3 = 2 := by omega
              rcases c with c | c | c <;> rw [c] <;> rfl
    · cases h
  · cases h
end TF
/-! #### text PM7 -/
set_option Elab.async false
set_option linter.all false
set_option maxRecDepth 100000
set_option maxHeartbeats 400000
/-! PM7: drawing lists of faults, and machines. -/
namespace TF
open PySem L2
def flsB : SX := (sSeq (sOf (eCallS faultR 0 [(eV 1), (eV 2)]) (sAsg (.nm 6)))
  (sIf (e2 dEq (eLc (List.map (·.2) ([("_law_other", 7)] : List (Str × Nat))) (iOwn 4) (.nm 7) (eCall lclashR [(eV 6), (eV 7)]) (eV 7)) (eN mkL [])) (sApp 4 (eV 6)) sNext))
def mFaults : SX := (sSeq (sOf (eN mkL []) (sOwn 4))
  (sSeq (sFor (iR1 (eCallS nextR 0 [(e2 dAdd (eW 3) (eC (.int 1)))])) (.nm 5) flsB)
  (sOf (eN dTupOf [(eW 4)]) sRet)))
def drFs (nk w : Nat) : Nat → Src → List Flt → List Flt × Src
  | 0, s, found => (found, s)
  | n + 1, s, found => drFs nk w n (drF nk w s).2 (if found.any (fun o => (drF nk w s).1.clash o) then found else found ++ [(drF nk w s).1])
theorem drFs_ok (nk w : Nat) (hnk : 0 < nk) : ∀ (n : Nat) (s : Src) (found : List Flt), (∀ f ∈ found, f.wf ∧ f.ok nk w = true) → peace found → found.length + n ≤ 100 → GF nk w (drFs nk w n s found).1 ∧ (drFs nk w n s found).1.length ≤ found.length + n ∧ (drFs nk w n s found).2.cells.length = s.cells.length
  | 0, s, found, h1, h2, h3 => ⟨⟨by show found.length ≤ 100; omega, fun f hf => (h1 f hf).1, fun f hf => (h1 f hf).2, h2⟩, Nat.le_refl _, rfl⟩
  | n + 1, s, found, h1, h2, h3 => by
    have hf := drF_ok nk w s hnk
    show GF nk w (drFs nk w n (drF nk w s).2 (if found.any (fun o => (drF nk w s).1.clash o) then found else found ++ [(drF nk w s).1])).1 ∧ (drFs nk w n (drF nk w s).2 (if found.any (fun o => (drF nk w s).1.clash o) then found else found ++ [(drF nk w s).1])).1.length ≤ _ ∧ (drFs nk w n (drF nk w s).2 (if found.any (fun o => (drF nk w s).1.clash o) then found else found ++ [(drF nk w s).1])).2.cells.length = _
    cases hc : found.any (fun o => (drF nk w s).1.clash o) with
    | true =>
      rw [if_pos rfl]
      obtain ⟨a, b, c⟩ := drFs_ok nk w hnk n (drF nk w s).2 found h1 h2 (by omega)
      exact ⟨a, by omega, by rw [c, drF_len]⟩
    | false =>
      rw [if_neg Bool.false_ne_true]
      have h4 : peace (found ++ [(drF nk w s).1]) := by
        refine List.pairwise_append.mpr ⟨h2, List.pairwise_singleton _ _, fun a ha b hb => ?_⟩
        rw [List.mem_singleton.mp hb, clash_symm]
        rw [List.any_eq_false] at hc
        simpa using hc a ha
      obtain ⟨a, b, c⟩ := drFs_ok nk w hnk n (drF nk w s).2 (found ++ [(drF nk w s).1]) (fun f hm => by
        rcases List.mem_append.mp hm with hm | hm
        · exact h1 f hm
        · rw [List.mem_singleton.mp hm]; exact hf) h4 (by rw [List.length_append, List.length_singleton]; omega)
      rw [List.length_append, List.length_singleton] at b
      exact ⟨a, by omega, by rw [c, drF_len]⟩
def faultsR (s : Src) (ds : List D) : Option (D × Src) := match ds with
  | [.tup kd, .int w, .int m] => if 0 < kd.length ∧ kd.length ≤ 1000 ∧ 0 ≤ w ∧ w ≤ 1000 ∧ 0 ≤ m ∧ m ≤ 90 ∧ s.cells.length ≤ 1000 then
      some (.tup ((drFs kd.length w.toNat (nextN s (m.toNat + 1)) (nextZ s (m.toNat + 1)) []).1.map Flt.d), (drFs kd.length w.toNat (nextN s (m.toNat + 1)) (nextZ s (m.toNat + 1)) []).2) else none
  | _ => none
theorem fls_body {p q : Addr} {s : Src} {kd : List D} {nk w : Nat} {m s5 s6 : S} {found : List Flt} (hnk : kd.length = nk) (b1 : 0 < nk) (b2 : nk ≤ 1000) (b3 : w ≤ 1000) (b5 : s.cells.length ≤ 1000) (hw : ∀ f ∈ found, f.wf) (hl : found.length ≤ 200) :
    flsB [sr p q s, .fz (.tup kd), .fz (.int w), m, .ol (found.map Flt.d), s5, s6, .un] = .nx [sr p q (drF nk w s).2, .fz (.tup kd), .fz (.int w), m, .ol ((if found.any (fun o => (drF nk w s).1.clash o) then found else found ++ [(drF nk w s).1]).map Flt.d), s5, .fz (drF nk w s).1.d, .un] := by
  have hr : faultR s [.tup kd, .int w] = some ((drF nk w s).1.d, (drF nk w s).2) := by
    show (if 0 < kd.length ∧ kd.length ≤ 1000 ∧ (0 : Int) ≤ w ∧ (w : Int) ≤ 1000 ∧ s.cells.length ≤ 1000 then some ((drF kd.length (w : Int).toNat s).1.d, (drF kd.length (w : Int).toNat s).2) else none) = _
    rw [hnk, if_pos ⟨b1, b2, by omega, by omega, b5⟩, Int.toNat_natCast]
  obtain ⟨f, hf⟩ : ∃ f, (drF nk w s).1 = f := ⟨_, rfl⟩
  have hwf : f.wf := by rw [← hf]; exact (drF_ok nk w s b1).1
  rw [hf] at hr ⊢
  have s1 : (sOf (eCallS faultR 0 [(eV 1), (eV 2)]) (sAsg (.nm 6))) [sr p q s, .fz (.tup kd), .fz (.int w), m, .ol (found.map Flt.d), s5, s6, .un] = .nx [sr p q (drF nk w s).2, .fz (.tup kd), .fz (.int w), m, .ol (found.map Flt.d), s5, .fz f.d, .un] :=
    stA (vCallS1 (p := p) (q := q) (s := s) rfl (vsC (vV rfl) (vsC (vV rfl) vs0)) rfl hr)
  obtain ⟨E, hE⟩ : ∃ E : Ev, E = [sr p q (drF nk w s).2, .fz (.tup kd), .fz (.int w), m, .ol (found.map Flt.d), s5, .fz f.d, .un] := ⟨_, rfl⟩
  rw [← hE] at s1
  have hp : ∀ o ∈ found, (found.any fun z => decide (deq o.d z.d) && f.clash z) = f.clash o := fun o ho => by
    rw [Bool.eq_iff_iff, List.any_eq_true]
    constructor
    · rintro ⟨z, hz, h⟩
      rw [Bool.and_eq_true, decide_eq_true_eq] at h
      have h1 := h.1
      rw [deq_flt, decide_eq_true_eq] at h1
      rw [h1]; exact h.2
    · exact fun h => ⟨o, ho, by rw [deq_flt]; simp [h]⟩
  have hc : eLc [7] (iOwn 4) (.nm 7) (eCall lclashR [(eV 6), (eV 7)]) (eV 7) E = .val (.lst (((found.map Flt.d).filter fun d => found.any fun z => decide (deq d z.d) && f.clash z).map id)) E := by
    refine vLc (s0 := .un) (ds := found.map Flt.d) (by rw [hE]; rfl) (by rw [hE]; rfl) rfl (fun d hd => ?_) (fun d _ _ => by rw [hE]; rfl) (by rw [List.length_map]; omega)
    obtain ⟨o, ho, rfl⟩ := List.mem_map.mp hd
    rw [hp o ho, hE]
    exact vCall (vsC (vV rfl) (vsC (vV rfl) vs0)) (lclash_law f o hwf (hw o ho))
  have hd := dEq_filter (ds := found.map Flt.d) (p := fun d => found.any fun z => decide (deq d z.d) && f.clash z) (g := id) fun d hd => by
    obtain ⟨o, _, rfl⟩ := List.mem_map.mp hd
    exact fd_pl o 17
  have ha : ((found.map Flt.d).any fun d => found.any fun z => decide (deq d z.d) && f.clash z) = found.any fun o => f.clash o := by
    rw [List.any_map, Bool.eq_iff_iff, List.any_eq_true, List.any_eq_true]
    constructor
    · rintro ⟨o, ho, h⟩
      obtain ⟨z, hz, h⟩ := List.any_eq_true.mp h
      rw [Bool.and_eq_true] at h
      exact ⟨z, hz, h.2⟩
    · rintro ⟨o, ho, h⟩
      exact ⟨o, ho, List.any_eq_true.mpr ⟨o, ho, by rw [deq_flt]; simp [h]⟩⟩
  rw [ha] at hd
  have c : (e2 dEq (eLc (List.map (·.2) ([("_law_other", 7)] : List (Str × Nat))) (iOwn 4) (.nm 7) (eCall lclashR [(eV 6), (eV 7)]) (eV 7)) (eN mkL [])) E = .val (.bl (!(found.any fun o => f.clash o))) E := v2 hc (vN vs0 rfl) hd
  unfold flsB
  refine sq_nx s1 ?_
  cases hb : (found.any fun o => f.clash o) with
  | true =>
    rw [if_pos rfl]
    exact (si_f c (by rw [hb]; rfl) rfl).trans (by rw [hE]; rfl)
  | false =>
    rw [if_neg Bool.false_ne_true, List.map_append]
    refine si_t c (by rw [hb]; rfl) ?_
    have happ := app_v (i := 4) (f := eV 6) (e := E) (e1 := E) (d := f.d) (l0 := found.map Flt.d) (dl := found.map Flt.d) (by rw [hE]; rfl) (by rw [hE]; rfl) (by rw [hE]; rfl) (by rw [List.length_map]; unfold szB; omega)
    rw [happ, hE]; rfl
theorem fls_loop {p q : Addr} {kd : List D} {nk w : Nat} {m : S} (hnk : kd.length = nk) (b1 : 0 < nk) (b2 : nk ≤ 1000) (b3 : w ≤ 1000) : ∀ (is : List D) (s : Src) (found : List Flt) (s5 s6 : S), s.cells.length ≤ 1000 → (∀ f ∈ found, f.wf) → found.length + is.length ≤ 200 →
    ∃ t5 t6, forL (.nm 5) flsB is [sr p q s, .fz (.tup kd), .fz (.int w), m, .ol (found.map Flt.d), s5, s6, .un] = .nx [sr p q (drFs nk w is.length s found).2, .fz (.tup kd), .fz (.int w), m, .ol ((drFs nk w is.length s found).1.map Flt.d), t5, t6, .un]
  | [], s, found, s5, s6, _, _, _ => ⟨s5, s6, rfl⟩
  | d :: is, s, found, s5, s6, h1, h2, h3 => by
    rw [List.length_cons] at h3
    have hb := fls_body (p := p) (q := q) (s := s) (kd := kd) (nk := nk) (w := w) (m := m) (s5 := .fz d) (s6 := s6) (found := found) hnk b1 b2 b3 h1 h2 (by omega)
    obtain ⟨t5, t6, ih⟩ := fls_loop (p := p) (q := q) (kd := kd) (m := m) hnk b1 b2 b3 is (drF nk w s).2 (if found.any (fun o => (drF nk w s).1.clash o) then found else found ++ [(drF nk w s).1]) (.fz d) (.fz (drF nk w s).1.d) (by rw [drF_len]; exact h1) (fun f hf => by
      split at hf
      · exact h2 f hf
      · rcases List.mem_append.mp hf with hf | hf
        · exact h2 f hf
        · rw [List.mem_singleton.mp hf]; exact (drF_ok nk w s b1).1) (by
      split
      · omega
      · rw [List.length_append, List.length_singleton]; omega)
    refine ⟨t5, t6, ?_⟩
    rw [forL_nx (e1 := [sr p q s, .fz (.tup kd), .fz (.int w), m, .ol (found.map Flt.d), .fz d, s6, .un]) rfl hb, ih]
    rfl
theorem rangeD_len (n : Nat) : (rangeD 0 (n : Int)).length = n := by unfold rangeD; rw [List.length_map, List.length_range]; omega
theorem big_nat {n : Nat} (h : n ≤ 1000000) : bigI (n : Int) = true := by unfold bigI; simp; omega
theorem faults_law (p q : Addr) (s : Src) (ds : List D) (d : D) (s' : Src) (hl : ds.length = 3) (h : faultsR s ds = some (d, s')) : ∃ e, mFaults (evS 8 p q s ds) = .ret d e ∧ e[0]? = some (.src p q s'.st s'.cells s'.ix) := by
  unfold faultsR at h
  split at h
  · rename_i kd wi mi
    split at h
    · rename_i hb
      obtain ⟨b1, b2, b3, b4, b5, b6, b7⟩ := hb
      cases h
      obtain ⟨w, hw⟩ : ∃ w : Nat, wi.toNat = w := ⟨_, rfl⟩
      have hwi : wi = (w : Int) := by omega
      obtain ⟨m, hm⟩ : ∃ m : Nat, mi.toNat = m := ⟨_, rfl⟩
      have hmi : mi = (m : Int) := by omega
      subst hwi hmi
      rw [Int.toNat_natCast, Int.toNat_natCast]
      have hn := nextR_nat s (lim := m + 1) (by omega) (by omega) b7
      have hlt := nextN_lt s (lim := m + 1) (by omega)
      have e0 : evS 8 p q s [.tup kd, .int w, .int m] = [sr p q s, .fz (.tup kd), .fz (.int w), .fz (.int m), .un, .un, .un, .un] := rfl
      rw [e0]
      have s1 : (sOf (eN mkL []) (sOwn 4)) [sr p q s, .fz (.tup kd), .fz (.int w), .fz (.int m), .un, .un, .un, .un] = .nx [sr p q s, .fz (.tup kd), .fz (.int w), .fz (.int m), .ol [], .un, .un, .un] := rfl
      have ha : dAdd (.int m) (.int 1) = some (.int ((m + 1 : Nat) : Int)) := by rw [Int.natCast_add]; rfl
      have c1 : iR1 (eCallS nextR 0 [(e2 dAdd (eW 3) (eC (.int 1)))]) [sr p q s, .fz (.tup kd), .fz (.int w), .fz (.int m), .ol [], .un, .un, .un] = .val (rangeD 0 (nextN s (m + 1) : Nat)) [sr p q (nextZ s (m + 1)), .fz (.tup kd), .fz (.int w), .fz (.int m), .ol [], .un, .un, .un] :=
        r1_v (vCallS1 (p := p) (q := q) (s := s) rfl (vsC (v2 (vW' rfl) vC ha) vs0) rfl hn) (big_nat (by omega))
      obtain ⟨t5, t6, hL⟩ := fls_loop (p := p) (q := q) (kd := kd) (w := w) (m := .fz (.int m)) rfl b1 b2 (by omega) (rangeD 0 (nextN s (m + 1) : Nat)) (nextZ s (m + 1)) [] .un .un (by rw [nextZ_len]; exact b7) (fun f hf => by cases hf) (by rw [rangeD_len]; show 0 + _ ≤ _; omega)
      rw [rangeD_len] at hL
      exact ⟨_, sq_nx s1 (sq_nx (for_v c1 hL) (stR (vN (vsC (d := .lst _) rfl vs0) rfl))), rfl⟩
    · cases h
  · cases h
/-! ### drawn -/
def mDrawn : SX := (sSeq (sPK [(.f, 2, (eCallS keysR 0 [(eC (.int 4))])), (.f, 3, (e2 dAdd (eC (.int 2)) (eCallS nextR 0 [(eC (.int 6))])))])
  (sOf (eN mkT [(eV 2), (eV 3), (eCallS faultsR 0 [(eV 2), (eV 3), (eV 1)])]) sRet))
def drG (s : Src) (M : Nat) : List Str × Src := drawK (2 + nextN s M) (nextZ s M) KEYS8 []
theorem drG_ok (s : Src) {M : Nat} (h1 : 0 < M) (h2 : M ≤ 7) : GK (drG s M).1 ∧ (drG s M).2.cells.length = s.cells.length ∧ (∀ k ∈ (drG s M).1, k ∈ KEYS8) ∧ (drG s M).1.length ≤ M + 1 := by
  have hlt := nextN_lt s (lim := M) (by omega)
  obtain ⟨rest, h3, h4, h5⟩ := drawK_perm (2 + nextN s M) (nextZ s M) KEYS8 [] (by show _ ≤ 8; omega)
  refine ⟨GK.of_perm h3 (by show 2 ≤ (drawK (2 + nextN s M) (nextZ s M) KEYS8 []).1.length; rw [h4]; omega), h5.trans (nextZ_len s M), fun k hk => h3.mem_iff.mp (List.mem_append_left _ hk), ?_⟩
  show (drawK (2 + nextN s M) (nextZ s M) KEYS8 []).1.length ≤ _
  rw [h4]
  show 0 + _ ≤ _
  omega
theorem keysR_nat (s : Src) {M : Nat} (h1 : 0 < M) (h2 : M ≤ 7) (h3 : s.cells.length ≤ 1000) : keysR s [.int ((M : Int) + 1)] = some (kt (drG s M).1, (drG s M).2) := by
  show (if (1 : Int) < (M : Int) + 1 ∧ (M : Int) + 1 ≤ 8 ∧ s.cells.length ≤ 1000 then _ else _) = _
  rw [if_pos ⟨by omega, by omega, h3⟩, show ((M : Int) + 1 - 1).toNat = M by omega]
  rfl
structure Drw where
  ks : List Str
  w : Nat
  fs : List Flt
def Drw.d (x : Drw) : D := .tup [kt x.ks, .int x.w, .tup (x.fs.map Flt.d)]
def drwM (s : Src) (m : Nat) : Drw × Src :=
  let g := drG s 3
  let w := 2 + nextN g.2 6
  let s2 := nextZ g.2 6
  let f := drFs g.1.length w (nextN s2 (m + 1)) (nextZ s2 (m + 1)) []
  (⟨g.1, w, f.1⟩, f.2)
structure GD (m : Nat) (x : Drw) : Prop where
  k : GK x.ks
  k4 : x.ks.length ≤ 4
  km : ∀ k ∈ x.ks, k ∈ KEYS8
  w2 : 2 ≤ x.w
  w7 : x.w ≤ 7
  f : GF x.ks.length x.w x.fs
  fm : x.fs.length ≤ m
theorem drwM_ok (s : Src) (m : Nat) (hm : m ≤ 90) : GD m (drwM s m).1 ∧ (drwM s m).2.cells.length = s.cells.length := by
  obtain ⟨g, hl, hk, h4⟩ := drG_ok s (M := 3) (by omega) (by omega)
  have hw := nextN_lt (drG s 3).2 (lim := 6) (by omega)
  have hn := nextN_lt (nextZ (drG s 3).2 6) (lim := m + 1) (by omega)
  obtain ⟨a, b, c⟩ := drFs_ok (drG s 3).1.length (2 + nextN (drG s 3).2 6) (by have := g.two; omega) (nextN (nextZ (drG s 3).2 6) (m + 1)) (nextZ (nextZ (drG s 3).2 6) (m + 1)) [] (fun f hf => by cases hf) List.Pairwise.nil (by show 0 + _ ≤ _; omega)
  refine ⟨⟨g, h4, hk, by show 2 ≤ 2 + _; omega, by show 2 + _ ≤ 7; omega, a, ?_⟩, ?_⟩
  · have : ([] : List Flt).length = 0 := rfl
    show (drFs _ _ _ _ _).1.length ≤ m
    omega
  · show (drFs _ _ _ _ _).2.cells.length = _
    rw [c, nextZ_len, nextZ_len, hl]
def drawnR (s : Src) (ds : List D) : Option (D × Src) := match ds with
  | [.int m] => if 0 ≤ m ∧ m ≤ 90 ∧ s.cells.length ≤ 1000 then some ((drwM s m.toNat).1.d, (drwM s m.toNat).2) else none
  | _ => none
theorem drawn_law (p q : Addr) (s : Src) (ds : List D) (d : D) (s' : Src) (hl : ds.length = 1) (h : drawnR s ds = some (d, s')) : ∃ e, mDrawn (evS 4 p q s ds) = .ret d e ∧ e[0]? = some (.src p q s'.st s'.cells s'.ix) := by
  unfold drawnR at h
  split at h
  · rename_i mi
    split at h
    · rename_i hb
      obtain ⟨b1, b2, b3⟩ := hb
      cases h
      obtain ⟨m, hm⟩ : ∃ m : Nat, mi.toNat = m := ⟨_, rfl⟩
      have hmi : mi = (m : Int) := by omega
      subst hmi
      rw [Int.toNat_natCast]
      obtain ⟨g, hgl, hk, h4⟩ := drG_ok s (M := 3) (by omega) (by omega)
      have r1 := keysR_nat s (M := 3) (by omega) (by omega) b3
      have c1 : (drG s 3).2.cells.length ≤ 1000 := by omega
      have n1 := nextR_nat (drG s 3).2 (lim := 6) (by omega) (by omega) c1
      have hlt := nextN_lt (drG s 3).2 (lim := 6) (by omega)
      have ha : dAdd (.int 2) (.int (nextN (drG s 3).2 6 : Nat)) = some (.int ((2 + nextN (drG s 3).2 6 : Nat) : Int)) := by rw [Int.natCast_add]; rfl
      have s1 : sPK [(.f, 2, (eCallS keysR 0 [(eC (.int 4))])), (.f, 3, (e2 dAdd (eC (.int 2)) (eCallS nextR 0 [(eC (.int 6))])))] [sr p q s, .fz (.int m), .un, .un] = .nx [sr p q (nextZ (drG s 3).2 6), .fz (.int m), .fz (kt (drG s 3).1), .fz (.int ((2 + nextN (drG s 3).2 6 : Nat) : Int))] :=
        spk_ff (vCallS1 (p := p) (q := q) (s := s) rfl (vsC vC vs0) rfl r1) (v2 vC (vCallS1 (p := p) (q := q) (s := (drG s 3).2) rfl (vsC vC vs0) rfl n1) ha)
      have r2 : faultsR (nextZ (drG s 3).2 6) [kt (drG s 3).1, .int ((2 + nextN (drG s 3).2 6 : Nat) : Int), .int m] = some (.tup ((drwM s m).1.fs.map Flt.d), (drwM s m).2) := by
        show (if 0 < ((drG s 3).1.map D.str).length ∧ ((drG s 3).1.map D.str).length ≤ 1000 ∧ (0 : Int) ≤ ((2 + nextN (drG s 3).2 6 : Nat) : Int) ∧ ((2 + nextN (drG s 3).2 6 : Nat) : Int) ≤ 1000 ∧ (0 : Int) ≤ m ∧ (m : Int) ≤ 90 ∧ (nextZ (drG s 3).2 6).cells.length ≤ 1000 then _ else _) = _
        rw [List.length_map, Int.toNat_natCast, Int.toNat_natCast, if_pos ⟨by have := g.two; omega, by omega, by omega, by omega, by omega, by omega, by rw [nextZ_len]; exact c1⟩]
        rfl
      have e0 : evS 4 p q s [.int m] = [sr p q s, .fz (.int m), .un, .un] := rfl
      rw [e0]
      exact ⟨_, sq_nx s1 (stR (vN (ds := [kt (drG s 3).1, .int ((2 + nextN (drG s 3).2 6 : Nat) : Int), .tup ((drwM s m).1.fs.map Flt.d)]) (vsC (vV rfl) (vsC (vV rfl) (vsC (vCallS1 (p := p) (q := q) (s := nextZ (drG s 3).2 6) rfl (vsC (vV rfl) (vsC (vV rfl) (vsC (vV rfl) vs0))) rfl r2) vs0))) rfl)), rfl⟩
    · cases h
  · cases h
end TF
/-! #### text PM8 -/
set_option Elab.async false
set_option linter.all false
set_option maxRecDepth 100000
set_option maxHeartbeats 400000
/-! PM8: machines repaired: the law's statements. -/
namespace TF
open PySem L2
def mLMc : SX := (sOf (eMake "Machine" mc_r [(eMake "Keyboard" kb_r [(e2 dIx (eW 0) (eC (.int 0)))]), (e2 dIx (eW 0) (eC (.int 1))), (e2 dIx (eW 0) (eC (.int 2)))]) sRet)
def lmcR : List D → Rv := runD mLMc 1
def u1 : SX := (sOf (eCallS drawnR 1 [(eC (.int 5))]) (sAsg (.nm 3)))
def u2 : SX := (sPK [(.f, 4, (eCall lmcR [(eV 3)])), (.f, 5, (e2 dIx (eW 3) (eC (.int 2))))])
def u3 : SX := (sIf (eNot (eCall (alkR 5) [(eN mkL [(eProp "Machine" mwR (eV 4)), (eProp "Machine" mfR (eV 4))]), (eN mkL [(e2 dIx (eW 3) (eC (.int 1))), (eN dTupOf [(eN dSorted [(eW 5)])])])])) (sOf (eC (.bl false)) sRet) sNext)
def u4 : SX := (sOf (eMake "Machine" mc_r [(eMake "Keyboard" kb_r [(e2 dIx (eW 3) (eC (.int 0)))]), (e2 dIx (eW 3) (eC (.int 1))), (eN dListOf [(eRev (eW 5))])]) (sAsg (.nm 6)))
def u5 : SX := (sIf (eOr (e2 dNe (eProp "Keyboard" ksR (eProp "Machine" mkbR (eV 4))) (e2 dIx (eW 3) (eC (.int 0)))) (e2 (dOwn "Machine" meqR true) (eW 4) (eW 6))) (sOf (eC (.bl false)) sRet) sNext)
def u6 : SX := (sOf (e2 dAdd (eLc (List.map (·.2) ([("_law_fault_here", 8)] : List (Str × Nat))) (iOf (eV 5)) (.nm 8) (e2 dEq (eCallS nextR 1 [(eC (.int 2))]) (eC (.int 0))) (eV 8)) (eN mkL [(eCallS faultR 1 [(e2 dIx (eW 3) (eC (.int 0))), (e2 dIx (eW 3) (eC (.int 1)))])])) (sAsg (.nm 7)))
def u7 : SX := (sOf (eN dTupOf [(eN dSorted [(eLc (List.map (·.2) ([("_law_fault_here", 8)] : List (Str × Nat))) (iOf (eV 5)) (.nm 8) (e2 dNotIn (eW 8) (eW 7)) (eV 8))])]) (sAsg (.nm 9)))
def u8 : SX := (sOf (eMeth "Machine" mrepR (eV 4) [(eV 7)]) (sAsg (.nm 10)))
def u9 : SX := (sIf (eOr (eNot (eCall (alkR 5) [(eProp "Machine" mfR (eV 10)), (eV 9)])) (e2 dNe (e2 (dOwn "Machine" meqR false) (eW 10) (eW 4)) (e2 dEq (eN dLen [(eW 9)]) (eN dLen [(eW 5)])))) (sOf (eC (.bl false)) sRet) sNext)
def u10 : SX := (sOf (eMake "Machine" mc_r [(eMake "Keyboard" kb_r [(e2 dIx (eW 3) (eC (.int 0)))]), (e2 dIx (eW 3) (eC (.int 1))), (eN mkT [])]) (sAsg (.nm 11)))
def u11 : SX := (sIf (eOr (e2 dNe (eProp "Machine" mfR (eV 4)) (eN dTupOf [(eN dSorted [(eW 5)])])) (e2 (dOwn "Machine" meqR true) (eMeth "Machine" mrepR (eV 4) [(eV 5)]) (eW 11))) (sOf (eC (.bl false)) sRet) sNext)
def u12 : SX := (sOf (eLc (List.map (·.2) ([("_law_fault_here", 8)] : List (Str × Nat))) (iOf (eV 5)) (.nm 8) (e2 dNotIn (eW 8) (eW 9)) (eV 8)) (sAsg (.nm 12)))
def u13 : SX := (sOf (eV 10) (sAsg (.nm 6)))
def u14 : SX := (sFor (iOf (eRev (eW 12))) (.nm 8) (sOf (eMeth "Machine" mwithR (eV 6) [(eV 8)]) (sAsg (.nm 6))))
def u15 : SX := (sIf (eOr (e2 (dOwn "Machine" meqR true) (eW 6) (eW 4)) (eNot (eCall (alkR 5) [(eProp "Machine" mfR (eV 6)), (eProp "Machine" mfR (eV 4))]))) (sOf (eC (.bl false)) sRet) sNext)
def u16 : SX := (sOf (eMake "Machine" mc_r [(eMake "Keyboard" kb_r [(e2 dIx (eW 3) (eC (.int 0)))]), (e2 dAdd (e2 dIx (eW 3) (eC (.int 1))) (eC (.int 1))), (eV 5)]) (sAsg (.nm 13)))
def u17 : SX := (sOf (eMake "Machine" mc_r [(eMake "Keyboard" kb_r [(eRev (e2 dIx (eW 3) (eC (.int 0))))]), (e2 dIx (eW 3) (eC (.int 1))), (eV 5)]) (sAsg (.nm 14)))
def u18 : SX := (sIf (eOr (e2 (dOwn "Machine" meqR false) (eW 13) (eW 4)) (e2 (dOwn "Machine" meqR false) (eW 14) (eW 4))) (sOf (eC (.bl false)) sRet) sNext)
def uT : SX := sSeq u1 (sSeq u2 (sSeq u3 (sSeq u4 (sSeq u5 (sSeq u6 (sSeq u7 (sSeq u8 (sSeq u9 (sSeq u10 (sSeq u11 (sSeq u12 (sSeq u13 (sSeq u14 (sSeq u15 (sSeq u16 (sSeq u17 (u18)))))))))))))))))
def uL : SX := (sSeq (sFor (iR1 (eC (.int 4))) (.nm 2) uT) (sOf (eC (.bl true)) sRet))
theorem rest_gen (own : List Nat) : ∀ (e e2 e3 : Ev) (k : Nat), e.length = e2.length → e3.length = e2.length → (∀ i, k + i ∈ own → e3[i]? = e[i]?) → (∀ i, k + i ∉ own → e3[i]? = e2[i]?) → restE own k e e2 = e3
  | [], [], [], _, _, _, _, _ => rfl
  | [], [], _ :: _, _, _, h, _, _ => by simp at h
  | [], _ :: _, _, _, h, _, _, _ => by simp at h
  | _ :: _, [], _, _, h, _, _, _ => by simp at h
  | _ :: _, _ :: _, [], _, _, h, _, _ => by simp at h
  | s :: e, t :: e2, u :: e3, k, h1, h2, h3, h4 => by
    have ih := rest_gen own e e2 e3 (k + 1) (by simpa using h1) (by simpa using h2) (fun i hi => by
      have := h3 (i + 1) (by rw [show k + (i + 1) = k + 1 + i by omega]; exact hi)
      simpa using this) fun i hi => by
      have := h4 (i + 1) (by rw [show k + (i + 1) = k + 1 + i by omega]; exact hi)
      simpa using this
    show (if own.contains k then s else t) :: restE own (k + 1) e e2 = u :: e3
    rw [ih]
    by_cases hk : k ∈ own
    · have := h3 0 (by simpa using hk)
      rw [if_pos (by simpa using hk)]
      simp at this
      rw [this]
    · have := h4 0 (by simpa using hk)
      rw [if_neg (by simpa using hk)]
      simp at this
      rw [this]
theorem kbE {ks : List Str} (g : GK ks) : kb_r [kt ks] = .ret (KB ks) := kb_r_ok (okKs_of (by have := g.len; omega) g.sok) g.none
theorem mkE {ks : List Str} {w : Int} {fs : List Flt} (b : Bool) (hk : ks.length ≤ 1000) (g : GF ks.length w fs) (hw : mcW w = true) : mc_r [KB ks, .int w, sqD b (fs.map Flt.d)] = .ret (MC ks w (srF fs)) := by
  have := mc_eval (ks := ks) (w := w) b g.wf (by have := g.len; omega) hk
  rw [g.none hw] at this
  exact this
theorem mcW_nat {w : Nat} (h1 : 2 ≤ w) (h2 : w ≤ 20) : mcW (w : Int) = true := by
  unfold mcW rngB
  rw [Bool.and_eq_true, decide_eq_true_eq, decide_eq_true_eq]
  omega
section
variable {E : Ev} {p q : Addr} {s : Src} {x : Drw} {m : Nat}
theorem GD.mcw (g : GD m x) : mcW (x.w : Int) = true := mcW_nat g.w2 (by have := g.w7; omega)
theorem GD.k1 (g : GD m x) : x.ks.length ≤ 1000 := by have := g.k4; omega
abbrev MX (x : Drw) : D := MC x.ks x.w (srF x.fs)
theorem lmc_law (g : GD m x) : lmcR [x.d] = .ret (MX x) := by
  have h0 : dIx x.d (.int 0) = some (kt x.ks) := rfl
  have h1 : dIx x.d (.int 1) = some (.int x.w) := rfl
  have h2 : dIx x.d (.int 2) = some (sqD true (x.fs.map Flt.d)) := rfl
  exact runD_ret (e := [.fz x.d]) (stR (vMake (vsC (vMake (vsC (v2 (vW' rfl) vC h0) vs0) (kbE g.k)) (vsC (v2 (vW' rfl) vC h1) (vsC (v2 (vW' rfl) vC h2) vs0))) (mkE true g.k1 g.f g.mcw)))
theorem u1_ok (h1 : E[1]? = some (sr p q s)) (hs : s.cells.length ≤ 1000) : u1 E = .nx ((E.set 1 (sr p q (drwM s 5).2)).set 3 (.fz (drwM s 5).1.d)) := by
  have hr : drawnR s [.int 5] = some ((drwM s 5).1.d, (drwM s 5).2) := by
    show (if (0 : Int) ≤ 5 ∧ (5 : Int) ≤ 90 ∧ s.cells.length ≤ 1000 then _ else _) = _
    rw [if_pos ⟨by omega, by omega, hs⟩]; rfl
  exact stA (vCallS1 h1 (vsC vC vs0) h1 hr)
theorem u2_ok (g : GD m x) (h3 : E[3]? = some (.fz x.d)) : u2 E = .nx ((E.set 5 (.fz (.tup (x.fs.map Flt.d)))).set 4 (.fz (MX x))) :=
  spk_ff (vCall (vsC (vV h3) vs0) (lmc_law g)) (v2 (vW' h3) vC rfl)
theorem lk_flt (f : Flt) (hf : f.wf) (n : Nat) : D.lk (n + 2) f.d = true := by
  have hn : f.ns.length ≤ 2 := by have : f.ns.length = f.k.ar := hf; rw [this]; cases f.k <;> decide
  show (decide ((.str f.k.wd :: f.ns.map D.int).length ≤ 1000) && (.str f.k.wd :: f.ns.map D.int).all (D.lk (n + 1))) = true
  rw [Bool.and_eq_true, decide_eq_true_eq, List.all_eq_true, List.length_cons, List.length_map]
  refine ⟨by omega, fun d hd => ?_⟩
  rcases List.mem_cons.mp hd with e | hd
  · rw [e]; exact wd_ok _
  · obtain ⟨i, _, rfl⟩ := List.mem_map.mp hd
    rfl
theorem lk_flts {fs : List Flt} (hw : ∀ f ∈ fs, f.wf) (hl : fs.length ≤ 1000) (n : Nat) : D.lk (n + 3) (.tup (fs.map Flt.d)) = true := by
  show (decide ((fs.map Flt.d).length ≤ 1000) && (fs.map Flt.d).all (D.lk (n + 2))) = true
  rw [Bool.and_eq_true, decide_eq_true_eq, List.all_eq_true, List.length_map]
  refine ⟨hl, fun d hd => ?_⟩
  obtain ⟨f, hf, rfl⟩ := List.mem_map.mp hd
  exact lk_flt f (hw f hf) n
theorem sorted_tup {fs : List Flt} (hl : fs.length ≤ 1000) {F : EX} (b : Bool) (hF : F E = .val (sqD b (fs.map Flt.d)) E) : (eN dTupOf [(eN dSorted [F])]) E = .val (.tup ((srF fs).map Flt.d)) E := vN (vsC (vN (vsC hF vs0) (dSorted_flt hl b)) vs0) rfl
theorem u3_ok (g : GD m x) (h3 : E[3]? = some (.fz x.d)) (h4 : E[4]? = some (.fz (MX x))) (h5 : E[5]? = some (.fz (.tup (x.fs.map Flt.d)))) : u3 E = .nx E := by
  have h := al5 (d := .lst [.int x.w, .tup ((srF x.fs).map Flt.d)]) (by
    show (decide (2 ≤ 1000) && [.int x.w, .tup ((srF x.fs).map Flt.d)].all (D.lk 4)) = true
    simp only [List.all_cons, List.all_nil, Bool.and_true, Bool.and_eq_true]
    exact ⟨rfl, rfl, lk_flts g.f.sort.wf (by have := g.f.sort.len; omega) 1⟩)
  exact si_f (b := !true) (vNot (vCall (vsC (vN (ds := [.int x.w, .tup ((srF x.fs).map Flt.d)]) (vsC (vProp (vV h4) mw_law) (vsC (vProp (vV h4) mf_law) vs0)) rfl) (vsC (vN (ds := [.int x.w, .tup ((srF x.fs).map Flt.d)]) (vsC (v2 (vW' h3) vC rfl) (vsC (sorted_tup (by have := g.f.len; omega) true (vW' h5)) vs0)) rfl) vs0)) h)) rfl rfl
theorem u4_ok (g : GD m x) (h3 : E[3]? = some (.fz x.d)) (h5 : E[5]? = some (.fz (.tup (x.fs.map Flt.d)))) : u4 E = .nx (E.set 6 (.fz (MX x))) := by
  have hr : dRev (.tup (x.fs.map Flt.d)) = some (.tup (x.fs.reverse.map Flt.d)) := by
    show some (D.tup (x.fs.map Flt.d).reverse) = _
    rw [List.map_reverse]
  have hm := mkE (ks := x.ks) (w := x.w) (fs := x.fs.reverse) false g.k1 (g.f.perm (List.reverse_perm _).symm) g.mcw
  rw [srF_congr (List.reverse_perm x.fs)] at hm
  exact stA (vMake (vsC (vMake (vsC (v2 (vW' h3) vC rfl) vs0) (kbE g.k)) (vsC (v2 (vW' h3) vC rfl) (vsC (vN (vsC (vRev (vW' h5) hr) vs0) rfl) vs0))) hm)
theorem dNe_kt (ks : List Str) (h : ∀ k ∈ ks, PyData.strOk k = true) : dNe (kt ks) (kt ks) = some (.bl false) := by
  rw [dNe_of (pl_strs h 19) (pl_strs h 19)]
  show some (D.bl (!deqs (ks.map D.str) (ks.map D.str))) = _
  rw [deqs_strs]; simp
theorem u5_ok (g : GD m x) (h3 : E[3]? = some (.fz x.d)) (h4 : E[4]? = some (.fz (MX x))) (h6 : E[6]? = some (.fz (MX x))) : u5 E = .nx E := by
  have ho := dOwn_mc (w := x.w) (v := x.w) (fs := srF x.fs) (gs := srF x.fs) g.k.sok g.k.sok true
  exact si_f (b := false || (!(decide (x.ks = x.ks) && (decide ((x.w : Int) = x.w) && decide (srF x.fs = srF x.fs))))) (vOr (v2 (vProp (vProp (vV h4) mkb_law) (ks_law _)) (v2 (vW' h3) vC rfl) (dNe_kt x.ks g.k.sok)) fun _ => v2 (vW' h4) (vW' h6) ho) (by simp) rfl
/-! the faults picked -/
def pickF : Src → List Flt → List Flt × Src
  | s, [] => ([], s)
  | s, f :: r => (if nextN s 2 = 0 then f :: (pickF (nextZ s 2) r).1 else (pickF (nextZ s 2) r).1, (pickF (nextZ s 2) r).2)
theorem pickF_len : ∀ (s : Src) (fs : List Flt), (pickF s fs).2.cells.length = s.cells.length ∧ (pickF s fs).1.Sublist fs
  | s, [] => ⟨rfl, List.Sublist.refl _⟩
  | s, f :: r => by
    obtain ⟨h1, h2⟩ := pickF_len (nextZ s 2) r
    refine ⟨h1.trans (nextZ_len s 2), ?_⟩
    show (if nextN s 2 = 0 then f :: (pickF (nextZ s 2) r).1 else (pickF (nextZ s 2) r).1).Sublist (f :: r)
    split
    · exact h2.cons_cons f
    · exact h2.cons f
def pkF : EX := (e2 dEq (eCallS nextR 1 [(eC (.int 2))]) (eC (.int 0)))
theorem pick_loop : ∀ (fs : List Flt) (s : Src) (E : Ev) (acc : List D), E[1]? = some (sr p q s) → E[8]? = some .un → s.cells.length ≤ 1000 → acc.length + fs.length ≤ 1000 →
    lcL [8] (.nm 8) pkF (eV 8) (fs.map Flt.d) acc E = .val (acc ++ (pickF s fs).1.map Flt.d) (E.set 1 (sr p q (pickF s fs).2))
  | [], s, E, acc, h1, h8, _, _ => by
    have : E.set 1 (sr p q s) = E := by
      obtain ⟨hl, he⟩ := List.getElem?_eq_some_iff.mp h1
      rw [← he, List.set_getElem_self]
    show Rl.val acc E = .val (acc ++ []) (E.set 1 (sr p q s))
    rw [List.append_nil, this]
  | f :: fs, s, E, acc, h1, h8, hs, hl => by
    rw [List.length_cons] at hl
    rw [List.map_cons, lcL]
    have ha : asg (.nm 8) f.d E = some (E.set 8 (.fz f.d)) := rfl
    rw [ha]
    have h1' : (E.set 8 (.fz f.d))[1]? = some (sr p q s) := by rw [List.getElem?_set_ne (by decide)]; exact h1
    have n1 := nextR_nat s (lim := 2) (by omega) (by omega) hs
    have hf : pkF (E.set 8 (.fz f.d)) = .val (.bl (((nextN s 2 : Nat) : Int) == 0)) ((E.set 1 (sr p q (nextZ s 2))).set 8 (.fz f.d)) := by
      have := v2 (k := dEq) (vCallS1 (p := p) (q := q) (s := s) h1' (vsC (vC (d := .int 2)) vs0) h1' n1) (vC (d := .int 0)) (dEq_int _ _)
      rw [List.set_comm _ _ (by decide : (8 : Nat) ≠ 1)] at this
      exact this
    have g1 : (E.set 1 (sr p q (nextZ s 2)))[1]? = some (sr p q (nextZ s 2)) := set_at h1
    have g8 : (E.set 1 (sr p q (nextZ s 2)))[8]? = some .un := by rw [List.getElem?_set_ne (by decide)]; exact h8
    have hel : eV 8 ((E.set 1 (sr p q (nextZ s 2))).set 8 (.fz f.d)) = .val f.d ((E.set 1 (sr p q (nextZ s 2))).set 8 (.fz f.d)) := vV (set_at g8)
    simp only [hf]
    have ih : ∀ acc', acc'.length + fs.length ≤ 1000 → lcL [8] (.nm 8) pkF (eV 8) (fs.map Flt.d) acc' (E.set 1 (sr p q (nextZ s 2))) = .val (acc' ++ (pickF (nextZ s 2) fs).1.map Flt.d) (E.set 1 (sr p q (pickF (nextZ s 2) fs).2)) := fun acc' hl' => by
      rw [pick_loop fs (nextZ s 2) _ acc' g1 g8 (by rw [nextZ_len]; exact hs) hl', List.set_set]
    by_cases hz : nextN s 2 = 0
    · have e : (((nextN s 2 : Nat) : Int) == 0) = true := by rw [hz]; rfl
      simp only [e, hel, clean1, wipe1 _ _ _ g8]
      rw [decide_eq_true (by unfold szB; omega), Bool.and_true, if_pos rfl, ih _ (by rw [List.length_append, List.length_singleton]; omega)]
      show Rl.val _ _ = Rl.val (acc ++ ((if nextN s 2 = 0 then f :: (pickF (nextZ s 2) fs).1 else (pickF (nextZ s 2) fs).1)).map Flt.d) _
      rw [if_pos hz, List.map_cons, List.append_assoc]; rfl
    · have e : (((nextN s 2 : Nat) : Int) == 0) = false := by rw [beq_eq_false_iff_ne]; omega
      simp only [e, clean1, wipe1 _ _ _ g8, if_true]
      rw [ih _ (by omega)]
      show Rl.val _ _ = Rl.val (acc ++ ((if nextN s 2 = 0 then f :: (pickF (nextZ s 2) fs).1 else (pickF (nextZ s 2) fs).1)).map Flt.d) _
      rw [if_neg hz]; rfl
theorem pick_lc {fs : List Flt} {s8 : S} (h1 : E[1]? = some (sr p q s)) (h5 : E[5]? = some (.fz (.tup (fs.map Flt.d)))) (h8 : E[8]? = some s8) (hc : cleanS s8 = true) (hs : s.cells.length ≤ 1000) (hl : fs.length ≤ 1000) :
    eLc (List.map (·.2) ([("_law_fault_here", 8)] : List (Str × Nat))) (iOf (eV 5)) (.nm 8) pkF (eV 8) E = .val (.lst ((pickF s fs).1.map Flt.d)) (E.set 1 (sr p q (pickF s fs).2)) := by
  unfold eLc
  have hi : iOf (eV 5) E = .val (fs.map Flt.d) E := iof_v (vV h5) rfl
  have own : (List.map (·.2) ([("_law_fault_here", 8)] : List (Str × Nat))) = [8] := rfl
  rw [hi]
  simp only [own]
  have w1 : (E.set 8 .un)[1]? = some (sr p q s) := by rw [List.getElem?_set_ne (by decide)]; exact h1
  have w8 : (E.set 8 .un)[8]? = some .un := set_at h8
  rw [clean2 E 8 h8 hc, wipe2 E 8, if_pos rfl, pick_loop fs s (E.set 8 .un) [] w1 w8 hs (by simpa using hl)]
  simp only []
  have z8 : ((E.set 8 .un).set 1 (sr p q (pickF s fs).2))[8]? = some .un := by rw [List.getElem?_set_ne (by decide)]; exact w8
  rw [clean2 _ 8 z8 rfl, if_pos rfl, List.nil_append]
  congr 1
  refine rest_gen [8] _ _ _ 0 (by simp) (by simp) (fun i hi => ?_) fun i hi => ?_
  · rw [Nat.zero_add] at hi
    rw [List.mem_singleton.mp hi, List.getElem?_set_ne (by decide)]
  · rw [Nat.zero_add] at hi
    have : i ≠ 8 := fun z => hi (List.mem_singleton.mpr z)
    by_cases h : i = 1
    · subst h
      rw [set_at h1, set_at w1]
    · rw [List.getElem?_set_ne (fun z => h z.symm), List.getElem?_set_ne (fun z => h z.symm), List.getElem?_set_ne (fun z => this z.symm)]
end
end TF
/-! #### text PM9 -/
set_option Elab.async false
set_option linter.all false
set_option maxRecDepth 100000
set_option maxHeartbeats 400000
/-! PM9: the law of machines repaired. -/
namespace TF
open PySem L2
/-- those of fs that do not stand in gs -/
abbrev lft (fs gs : List Flt) : List Flt := fs.filter fun f => !(gs.contains f)
section
variable {E : Ev} {p q : Addr} {s : Src} {x : Drw} {m : Nat}
def some4 (x : Drw) (s : Src) : List Flt := (pickF s x.fs).1 ++ [(drF x.ks.length x.w (pickF s x.fs).2).1]
def src4 (x : Drw) (s : Src) : Src := (drF x.ks.length x.w (pickF s x.fs).2).2
theorem u6_ok (g : GD m x) {s8 : S} (h1 : E[1]? = some (sr p q s)) (h3 : E[3]? = some (.fz x.d)) (h5 : E[5]? = some (.fz (.tup (x.fs.map Flt.d)))) (h8 : E[8]? = some s8) (hc : cleanS s8 = true) (hs : s.cells.length ≤ 1000) :
    u6 E = .nx ((E.set 1 (sr p q (src4 x s))).set 7 (.fz (.lst ((some4 x s).map Flt.d)))) := by
  have hlf := g.f.len
  have hl := pick_lc (fs := x.fs) h1 h5 h8 hc hs (by omega)
  have hp := (pickF_len s x.fs).1
  have k1 : (E.set 1 (sr p q (pickF s x.fs).2))[1]? = some (sr p q (pickF s x.fs).2) := set_at h1
  have k3 : (E.set 1 (sr p q (pickF s x.fs).2))[3]? = some (.fz x.d) := by rw [List.getElem?_set_ne (by decide)]; exact h3
  have hr : faultR (pickF s x.fs).2 [kt x.ks, .int x.w] = some ((drF x.ks.length x.w (pickF s x.fs).2).1.d, (drF x.ks.length x.w (pickF s x.fs).2).2) := by
    show (if 0 < (x.ks.map D.str).length ∧ (x.ks.map D.str).length ≤ 1000 ∧ (0 : Int) ≤ x.w ∧ (x.w : Int) ≤ 1000 ∧ (pickF s x.fs).2.cells.length ≤ 1000 then some ((drF (x.ks.map D.str).length (x.w : Int).toNat (pickF s x.fs).2).1.d, (drF (x.ks.map D.str).length (x.w : Int).toNat (pickF s x.fs).2).2) else none) = _
    rw [List.length_map, Int.toNat_natCast, if_pos ⟨by have := g.k.two; omega, g.k1, by omega, by have := g.w7; omega, by omega⟩]
  have hsub := (pickF_len s x.fs).2.length_le
  have ha : dAdd (.lst ((pickF s x.fs).1.map Flt.d)) (.lst [(drF x.ks.length x.w (pickF s x.fs).2).1.d]) = some (.lst ((some4 x s).map Flt.d)) := by
    show (if ((pickF s x.fs).1.map Flt.d).length + 1 ≤ szB then _ else _) = _
    rw [if_pos (by rw [List.length_map]; unfold szB; omega)]
    unfold some4
    rw [List.map_append]; rfl
  have := stA (i := 7) (v2 (k := dAdd) hl (vN (kn := mkL) (vsC (vCallS1 (rs := faultR) (p := p) (q := q) (s := (pickF s x.fs).2) k1 (vsC (v2 (k := dIx) (vW' k3) (vC (d := .int 0)) rfl) (vsC (v2 (k := dIx) (vW' k3) (vC (d := .int 1)) rfl) vs0)) k1 hr) vs0) rfl) ha)
  rw [List.set_set] at this
  exact this
theorem lc_not {fs gs : List Flt} {b : Bool} {j : Nat} {s8 : S} (h5 : E[5]? = some (.fz (.tup (fs.map Flt.d)))) (hj : j ≠ 8) (h7 : E[j]? = some (.fz (sqD b (gs.map Flt.d)))) (h8 : E[8]? = some s8) (hc : cleanS s8 = true) (hl : fs.length ≤ 1000) :
    eLc (List.map (·.2) ([("_law_fault_here", 8)] : List (Str × Nat))) (iOf (eV 5)) (.nm 8) (e2 dNotIn (eW 8) (eW j)) (eV 8) E = .val (.lst ((lft fs gs).map Flt.d)) E := by
  have hlc := vLc (j := 8) (it := iOf (eV 5)) (f := e2 dNotIn (eW 8) (eW j)) (el := eV 8) (E := E) (E1 := E) (ds := fs.map Flt.d) (p := pNot gs) (g := id) (iof_v (vV h5) rfl) h8 hc (fun d hd => by
    obtain ⟨f, hf, rfl⟩ := List.mem_map.mp hd
    rw [pNot_flt]
    exact v2 (vW' (set_at h8)) (vW' (by rw [List.getElem?_set_ne (fun z => hj z.symm)]; exact h7)) (dNotIn_sq f gs b)) (fun d _ _ => vV (set_at h8)) (by rw [List.length_map]; omega)
  rw [filter_not] at hlc
  exact hlc
theorem u7_ok {gs : List Flt} (g : GD m x) {s8 : S} (h5 : E[5]? = some (.fz (.tup (x.fs.map Flt.d)))) (h7 : E[7]? = some (.fz (.lst (gs.map Flt.d)))) (h8 : E[8]? = some s8) (hc : cleanS s8 = true) : u7 E = .nx (E.set 9 (.fz (.tup ((lft (srF x.fs) gs).map Flt.d)))) := by
  have hl := g.f.len
  have h := lc_not (E := E) (fs := x.fs) (gs := gs) (b := false) (j := 7) h5 (by decide) h7 h8 hc (by omega)
  have hs := sorted_tup (E := E) (fs := lft x.fs gs) (Nat.le_trans (List.length_filter_le _ _) (by omega)) false h
  rw [srF_filter] at hs
  exact stA hs
theorem lft_gf {nk w : Int} {fs gs : List Flt} (g : GF nk w fs) : GF nk w (lft fs gs) := g.sub List.filter_sublist
theorem srF_lft (fs gs : List Flt) : srF (lft (srF fs) gs) = lft (srF fs) gs := by rw [srF_filter, srF_srt]
theorem u8_ok {gs : List Flt} (g : GD m x) (h4 : E[4]? = some (.fz (MX x))) (h7 : E[7]? = some (.fz (.lst (gs.map Flt.d)))) : u8 E = .nx (E.set 10 (.fz (MC x.ks x.w (lft (srF x.fs) gs)))) := by
  have hr := rep_law (ks := x.ks) (w := x.w) (fs := srF x.fs) (gs := gs) (b := false) g.f.sort.wf (by have := g.f.sort.len; omega) g.k1 ((lft_gf g.f.sort).none g.mcw)
  rw [srF_lft] at hr
  exact stA (vMeth (vV h4) (vsC (vV h7) vs0) hr)
theorem dLen_flt (fs : List Flt) : dLen [.tup (fs.map Flt.d)] = some (.int fs.length) := by
  show some (D.int (fs.map Flt.d).length) = _
  rw [List.length_map]
theorem al_flts {fs : List Flt} (hw : ∀ f ∈ fs, f.wf) (hl : fs.length ≤ 1000) : alkR 5 [.tup (fs.map Flt.d), .tup (fs.map Flt.d)] = .ret (.bl true) := al5 (lk_flts hw hl 2)
theorem u9_ok {gs : List Flt} (g : GD m x) (h4 : E[4]? = some (.fz (MX x))) (h5 : E[5]? = some (.fz (.tup (x.fs.map Flt.d)))) (h9 : E[9]? = some (.fz (.tup ((lft (srF x.fs) gs).map Flt.d)))) (h10 : E[10]? = some (.fz (MC x.ks x.w (lft (srF x.fs) gs)))) : u9 E = .nx E := by
  have ga := lft_gf (gs := gs) g.f.sort
  have ha := al_flts ga.wf (by have := ga.len; omega)
  have ho := dOwn_mc (w := x.w) (v := x.w) (fs := lft (srF x.fs) gs) (gs := srF x.fs) g.k.sok g.k.sok false
  have e : decide (lft (srF x.fs) gs = srF x.fs) = (((lft (srF x.fs) gs).length : Int) == (x.fs.length : Int)) := by
    rw [Bool.eq_iff_iff, decide_eq_true_eq, beq_iff_eq]
    constructor
    · intro h; rw [h, srF_len]
    · intro h
      have h' : (lft (srF x.fs) gs).length = x.fs.length := by omega
      exact List.filter_sublist.eq_of_length (h'.trans (srF_len x.fs).symm)
  refine si_f (b := (!true) || (!((decide (x.ks = x.ks) && (decide ((x.w : Int) = x.w) && decide (lft (srF x.fs) gs = srF x.fs))) == (((lft (srF x.fs) gs).length : Int) == (x.fs.length : Int))))) (vOr (vNot (vCall (vsC (vProp (vV h10) mf_law) (vsC (vV h9) vs0)) ha)) fun _ => v2 (v2 (vW' h10) (vW' h4) ho) (v2 (vN (vsC (vW' h9) vs0) (dLen_flt _)) (vN (vsC (vW' h5) vs0) (dLen_flt _)) (dEq_int _ _)) (dNe_bl _ _)) ?_ rfl
  rw [← e]
  simp
theorem u10_ok (g : GD m x) (h3 : E[3]? = some (.fz x.d)) : u10 E = .nx (E.set 11 (.fz (MC x.ks x.w []))) := by
  have hm := mkE (ks := x.ks) (w := x.w) (fs := []) true g.k1 ⟨by decide, fun f hf => (by cases hf), fun f hf => (by cases hf), List.Pairwise.nil⟩ g.mcw
  rw [List.eq_nil_of_length_eq_zero (srF_len [])] at hm
  exact stA (vMake (vsC (vMake (vsC (v2 (vW' h3) vC rfl) vs0) (kbE g.k)) (vsC (v2 (vW' h3) vC rfl) (vsC (vN vs0 rfl) vs0))) hm)
theorem lft_all {fs gs : List Flt} (h : ∀ f ∈ fs, f ∈ gs) : lft fs gs = [] := by
  rw [List.filter_eq_nil_iff]
  intro f hf
  simp [h f hf]
theorem u11_ok (g : GD m x) (h4 : E[4]? = some (.fz (MX x))) (h5 : E[5]? = some (.fz (.tup (x.fs.map Flt.d)))) (h11 : E[11]? = some (.fz (MC x.ks x.w []))) : u11 E = .nx E := by
  have ga := lft_gf (gs := x.fs) g.f.sort
  have hr := rep_law (ks := x.ks) (w := x.w) (fs := srF x.fs) (gs := x.fs) (b := true) g.f.sort.wf (by have := g.f.sort.len; omega) g.k1 (ga.none g.mcw)
  rw [srF_lft, lft_all (fun f hf => srF_mem.mp hf)] at hr
  have ho := dOwn_mc (w := x.w) (v := x.w) (fs := []) (gs := []) g.k.sok g.k.sok true
  have hs := sorted_tup (E := E) (fs := x.fs) (by have := g.f.len; omega) true (vW' h5)
  exact si_f (b := (!decide (srF x.fs = srF x.fs)) || (!(decide (x.ks = x.ks) && (decide ((x.w : Int) = x.w) && decide (([] : List Flt) = []))))) (vOr (v2 (vProp (vV h4) mf_law) hs (dNe_flts _ _)) fun _ => v2 (vMeth (vV h4) (vsC (vV h5) vs0) hr) (vW' h11) ho) (by simp) rfl
theorem u12_ok {gs : List Flt} (g : GD m x) {s8 : S} (h5 : E[5]? = some (.fz (.tup (x.fs.map Flt.d)))) (h9 : E[9]? = some (.fz (.tup (gs.map Flt.d)))) (h8 : E[8]? = some s8) (hc : cleanS s8 = true) : u12 E = .nx (E.set 12 (.fz (.lst ((lft x.fs gs).map Flt.d)))) :=
  stA (lc_not (E := E) (fs := x.fs) (gs := gs) (b := true) (j := 9) h5 (by decide) h9 h8 hc (by have := g.f.len; omega))
theorem u13_ok {d : D} (h10 : E[10]? = some (.fz d)) : u13 E = .nx (E.set 6 (.fz d)) := stA (vV h10)
def u14b : SX := (sOf (eMeth "Machine" mwithR (eV 6) [(eV 8)]) (sAsg (.nm 6)))
theorem u14_loop (g : GD m x) : ∀ (rest pre : List Flt) (E : Ev) (s8 : S), GF x.ks.length x.w (pre ++ rest) → E[6]? = some (.fz (MC x.ks x.w (srF pre))) → E[8]? = some s8 → cleanS s8 = true →
    ∃ E' s8', forL (.nm 8) u14b (rest.map Flt.d) E = .nx E' ∧ E'[6]? = some (.fz (MC x.ks x.w (srF (pre ++ rest)))) ∧ E'[8]? = some s8' ∧ cleanS s8' = true ∧ E'.length = E.length ∧ ∀ i, i ≠ 6 → i ≠ 8 → E'[i]? = E[i]?
  | [], pre, E, s8, _, h6, h8, hc => ⟨E, s8, rfl, by rw [List.append_nil]; exact h6, h8, hc, rfl, fun _ _ _ => rfl⟩
  | f :: rest, pre, E, s8, gf, h6, h8, hc => by
    have e1 : pre ++ f :: rest = (pre ++ [f]) ++ rest := by rw [List.append_assoc]; rfl
    have gf1 : GF x.ks.length x.w (pre ++ [f]) := gf.sub (by rw [e1]; exact List.sublist_append_left _ _)
    have hp : (pre ++ [f]).Perm (srF pre ++ [f]) := (srF_perm pre).symm.append_right [f]
    have gf2 := gf1.perm hp
    have hw := with_law (ks := x.ks) (w := x.w) (fs := srF pre) (f := f) gf2.wf (by have := gf2.len; omega) g.k1 (gf2.none g.mcw)
    rw [srF_congr hp.symm] at hw
    have k6 : (E.set 8 (.fz f.d))[6]? = some (.fz (MC x.ks x.w (srF pre))) := by rw [List.getElem?_set_ne (by decide)]; exact h6
    have k8 : (E.set 8 (.fz f.d))[8]? = some (.fz f.d) := set_at h8
    have hb : u14b (E.set 8 (.fz f.d)) = .nx ((E.set 8 (.fz f.d)).set 6 (.fz (MC x.ks x.w (srF (pre ++ [f]))))) := stA (vMeth (vV k6) (vsC (vV k8) vs0) hw)
    obtain ⟨E', s8', i1, i2, i3, i4, i5, i6⟩ := u14_loop g rest (pre ++ [f]) ((E.set 8 (.fz f.d)).set 6 (.fz (MC x.ks x.w (srF (pre ++ [f]))))) (.fz f.d) (by rw [← e1]; exact gf) (set_at k6) (by rw [List.getElem?_set_ne (by decide)]; exact k8) rfl
    refine ⟨E', s8', ?_, by rw [e1]; exact i2, i3, i4, by rw [i5, List.length_set, List.length_set], fun i h1 h2 => ?_⟩
    · rw [List.map_cons, forL_nx (e1 := E.set 8 (.fz f.d)) rfl hb]; exact i1
    · rw [i6 i h1 h2, List.getElem?_set_ne (fun z => h1 z.symm), List.getElem?_set_ne (fun z => h2 z.symm)]
theorem u14_ok (g : GD m x) {rest pre : List Flt} {s8 : S} (gf : GF x.ks.length x.w (pre ++ rest.reverse)) (h6 : E[6]? = some (.fz (MC x.ks x.w (srF pre)))) (h8 : E[8]? = some s8) (hc : cleanS s8 = true) (h12 : E[12]? = some (.fz (.lst (rest.map Flt.d)))) :
    ∃ E' s8', u14 E = .nx E' ∧ E'[6]? = some (.fz (MC x.ks x.w (srF (pre ++ rest.reverse)))) ∧ E'[8]? = some s8' ∧ cleanS s8' = true ∧ E'.length = E.length ∧ ∀ i, i ≠ 6 → i ≠ 8 → E'[i]? = E[i]? := by
  obtain ⟨E', s8', i1, i2⟩ := u14_loop g rest.reverse pre E s8 gf h6 h8 hc
  have hr : dRev (.lst (rest.map Flt.d)) = some (.lst (rest.reverse.map Flt.d)) := by
    show some (D.lst (rest.map Flt.d).reverse) = _
    rw [List.map_reverse]
  exact ⟨E', s8', for_v (iof_v (vRev (vW' h12) hr) rfl) i1, i2⟩
theorem u15_ok (g : GD m x) (h4 : E[4]? = some (.fz (MX x))) (h6 : E[6]? = some (.fz (MX x))) : u15 E = .nx E := by
  have ho := dOwn_mc (w := x.w) (v := x.w) (fs := srF x.fs) (gs := srF x.fs) g.k.sok g.k.sok true
  have ha := al_flts g.f.sort.wf (by have := g.f.sort.len; omega)
  exact si_f (b := (!(decide (x.ks = x.ks) && (decide ((x.w : Int) = x.w) && decide (srF x.fs = srF x.fs)))) || (!true)) (vOr (v2 (vW' h6) (vW' h4) ho) fun _ => vNot (vCall (vsC (vProp (vV h6) mf_law) (vsC (vProp (vV h4) mf_law) vs0)) ha)) (by simp) rfl
theorem ok_wider {nk w v : Int} (h : w ≤ v) {f : Flt} (hf : f.ok nk w = true) : f.ok nk v = true := by
  obtain ⟨k, ns⟩ := f
  cases k <;> first
    | exact hf
    | (have h2 : ns.all (rngB 1 (w - 2)) = true := hf
       show ns.all (rngB 1 (v - 2)) = true
       rw [List.all_eq_true] at h2 ⊢
       intro n hn
       have := h2 n hn
       unfold rngB at this ⊢
       rw [Bool.and_eq_true, decide_eq_true_eq, decide_eq_true_eq] at this ⊢
       omega)
theorem u16_ok (g : GD m x) (h3 : E[3]? = some (.fz x.d)) (h5 : E[5]? = some (.fz (.tup (x.fs.map Flt.d)))) : u16 E = .nx (E.set 13 (.fz (MC x.ks ((x.w + 1 : Nat) : Int) (srF x.fs)))) := by
  have gw : GF x.ks.length ((x.w + 1 : Nat) : Int) x.fs := ⟨g.f.len, g.f.wf, fun f hf => ok_wider (w := (x.w : Int)) (v := ((x.w + 1 : Nat) : Int)) (by omega) (g.f.ok f hf), g.f.pc⟩
  have hm := mkE (ks := x.ks) (w := ((x.w + 1 : Nat) : Int)) (fs := x.fs) true g.k1 gw (mcW_nat (by have := g.w2; omega) (by have := g.w7; omega))
  have ha : dAdd (.int x.w) (.int 1) = some (.int ((x.w + 1 : Nat) : Int)) := by rw [Int.natCast_add]; rfl
  exact stA (vMake (vsC (vMake (vsC (v2 (vW' h3) vC rfl) vs0) (kbE g.k)) (vsC (v2 (v2 (k := dIx) (d := .int x.w) (vW' h3) vC rfl) vC ha) (vsC (vV h5) vs0))) hm)
theorem u17_ok (g : GD m x) (h3 : E[3]? = some (.fz x.d)) (h5 : E[5]? = some (.fz (.tup (x.fs.map Flt.d)))) : u17 E = .nx (E.set 14 (.fz (MC x.ks.reverse x.w (srF x.fs)))) := by
  have gw : GF x.ks.reverse.length x.w x.fs := by rw [List.length_reverse]; exact g.f
  have hm := mkE (ks := x.ks.reverse) (w := x.w) (fs := x.fs) true (by rw [List.length_reverse]; exact g.k1) gw g.mcw
  have hr : dRev (kt x.ks) = some (kt x.ks.reverse) := by
    show some (D.tup (x.ks.map D.str).reverse) = _
    rw [← List.map_reverse]
  exact stA (vMake (vsC (vMake (vsC (vRev (v2 (vW' h3) vC rfl) hr) vs0) (kbE g.k.rev)) (vsC (v2 (vW' h3) vC rfl) (vsC (vV h5) vs0))) hm)
theorem u18_ok (g : GD m x) (h4 : E[4]? = some (.fz (MX x))) (h13 : E[13]? = some (.fz (MC x.ks ((x.w + 1 : Nat) : Int) (srF x.fs)))) (h14 : E[14]? = some (.fz (MC x.ks.reverse x.w (srF x.fs)))) : u18 E = .nx E := by
  have o1 := dOwn_mc (w := ((x.w + 1 : Nat) : Int)) (v := x.w) (fs := srF x.fs) (gs := srF x.fs) g.k.sok g.k.sok false
  have o2 := dOwn_mc (w := x.w) (v := x.w) (fs := srF x.fs) (gs := srF x.fs) g.k.rev.sok g.k.sok false
  refine si_f (b := (decide (x.ks = x.ks) && (decide (((x.w + 1 : Nat) : Int) = x.w) && decide (srF x.fs = srF x.fs))) || (decide (x.ks.reverse = x.ks) && (decide ((x.w : Int) = x.w) && decide (srF x.fs = srF x.fs)))) (vOr (v2 (vW' h13) (vW' h4) o1) fun _ => v2 (vW' h14) (vW' h4) o2) ?_ rfl
  rw [decide_eq_false (p := ((x.w + 1 : Nat) : Int) = x.w) (by omega), decide_eq_false (p := x.ks.reverse = x.ks) (fun h => rev_ne g.k h.symm)]
  simp
/-! ### the turn -/
theorem GF.append {nk w : Int} {fs gs : List Flt} (h : (lft fs gs ++ (fs.filter fun f => gs.contains f)).Perm fs) (g : GF nk w fs) : GF nk w (lft fs gs ++ (fs.filter fun f => gs.contains f)) := g.perm h.symm
/-- what is left and what was taken make all -/
theorem left_more (x : List Flt) (gs : List Flt) (hn : x.Nodup) : (lft (srF x) gs ++ (lft x (lft (srF x) gs)).reverse).Perm x := by
  have h1 : lft x (lft (srF x) gs) = x.filter fun f => gs.contains f := by
    refine List.filter_congr fun f hf => ?_
    have hc : (lft (srF x) gs).contains f = !(gs.contains f) := by
      rw [Bool.eq_iff_iff, List.contains_iff_mem, List.mem_filter]
      exact ⟨fun h => h.2, fun h => ⟨srF_mem.mpr hf, h⟩⟩
    rw [hc, Bool.not_not]
  rw [h1]
  have h2 : (lft (srF x) gs).Perm (lft x gs) := (srF_perm x).filter _
  have h3 : ((x.filter fun f => gs.contains f) ++ (lft x gs)).Perm x := List.filter_append_perm (fun f => gs.contains f) x
  exact (h2.append (List.reverse_perm _)).trans (List.perm_append_comm.trans h3)
theorem turn4_ok (hL : E.length = 15) (h1 : E[1]? = some (sr p q s)) (hs : s.cells.length ≤ 1000) {s8 : S} (h8 : E[8]? = some s8) (hc : cleanS s8 = true) :
    ∃ E' s' s8', uT E = .nx E' ∧ E'.length = 15 ∧ E'[1]? = some (sr p q s') ∧ s'.cells.length ≤ 1000 ∧ E'[8]? = some s8' ∧ cleanS s8' = true := by
  obtain ⟨g, gl⟩ := drwM_ok s 5 (by omega)
  have e1 := u1_ok h1 hs
  obtain ⟨x, hx⟩ : ∃ x, (drwM s 5).1 = x := ⟨_, rfl⟩
  obtain ⟨s1, hs1⟩ : ∃ s1, (drwM s 5).2 = s1 := ⟨_, rfl⟩
  rw [hx] at g e1
  rw [hs1] at gl e1
  have hs1' : s1.cells.length ≤ 1000 := by omega
  obtain ⟨E1, hE1⟩ : ∃ E1 : Ev, E1 = (E.set 1 (sr p q s1)).set 3 (.fz x.d) := ⟨_, rfl⟩
  have L1 : E1.length = 15 := by rw [hE1]; simp [hL]
  have a3 : E1[3]? = some (.fz x.d) := by rw [hE1]; simp [hL]
  have a1 : E1[1]? = some (sr p q s1) := by rw [hE1]; simp [hL]
  have a8 : E1[8]? = some s8 := by rw [hE1]; simp [h8]
  rw [← hE1] at e1
  have e2 := u2_ok g a3
  obtain ⟨E2, hE2⟩ : ∃ E2 : Ev, E2 = (E1.set 5 (.fz (.tup (x.fs.map Flt.d)))).set 4 (.fz (MX x)) := ⟨_, rfl⟩
  have L2 : E2.length = 15 := by rw [hE2]; simp [L1]
  have b1 : E2[1]? = some (sr p q s1) := by rw [hE2]; simp [a1]
  have b3 : E2[3]? = some (.fz x.d) := by rw [hE2]; simp [a3]
  have b4 : E2[4]? = some (.fz (MX x)) := by rw [hE2]; simp [L1]
  have b5 : E2[5]? = some (.fz (.tup (x.fs.map Flt.d))) := by rw [hE2]; simp [L1]
  have b8 : E2[8]? = some s8 := by rw [hE2]; simp [a8]
  rw [← hE2] at e2
  have e3 := u3_ok g b3 b4 b5
  have e4 := u4_ok g b3 b5
  obtain ⟨E4, hE4⟩ : ∃ E4 : Ev, E4 = E2.set 6 (.fz (MX x)) := ⟨_, rfl⟩
  have L4 : E4.length = 15 := by rw [hE4]; simp [L2]
  have c1 : E4[1]? = some (sr p q s1) := by rw [hE4]; simp [b1]
  have c3 : E4[3]? = some (.fz x.d) := by rw [hE4]; simp [b3]
  have c4 : E4[4]? = some (.fz (MX x)) := by rw [hE4]; simp [b4]
  have c5 : E4[5]? = some (.fz (.tup (x.fs.map Flt.d))) := by rw [hE4]; simp [b5]
  have c6 : E4[6]? = some (.fz (MX x)) := by rw [hE4]; simp [L2]
  have c8 : E4[8]? = some s8 := by rw [hE4]; simp [b8]
  rw [← hE4] at e4
  have e5 := u5_ok g c3 c4 c6
  have e6 := u6_ok g c1 c3 c5 c8 hc hs1'
  obtain ⟨gs, hgs⟩ : ∃ gs, some4 x s1 = gs := ⟨_, rfl⟩
  obtain ⟨s2, hs2⟩ : ∃ s2, src4 x s1 = s2 := ⟨_, rfl⟩
  have hs2' : s2.cells.length ≤ 1000 := by
    rw [← hs2]; unfold src4; rw [drF_len, (pickF_len s1 x.fs).1]; exact hs1'
  rw [hgs, hs2] at e6
  obtain ⟨E6, hE6⟩ : ∃ E6 : Ev, E6 = (E4.set 1 (sr p q s2)).set 7 (.fz (.lst (gs.map Flt.d))) := ⟨_, rfl⟩
  have L6 : E6.length = 15 := by rw [hE6]; simp [L4]
  have d1 : E6[1]? = some (sr p q s2) := by rw [hE6]; simp [L4]
  have d3 : E6[3]? = some (.fz x.d) := by rw [hE6]; simp [c3]
  have d4 : E6[4]? = some (.fz (MX x)) := by rw [hE6]; simp [c4]
  have d5 : E6[5]? = some (.fz (.tup (x.fs.map Flt.d))) := by rw [hE6]; simp [c5]
  have d7 : E6[7]? = some (.fz (.lst (gs.map Flt.d))) := by rw [hE6]; simp [L4]
  have d8 : E6[8]? = some s8 := by rw [hE6]; simp [c8]
  rw [← hE6] at e6
  have e7 := u7_ok g d5 d7 d8 hc
  obtain ⟨E7, hE7⟩ : ∃ E7 : Ev, E7 = E6.set 9 (.fz (.tup ((lft (srF x.fs) gs).map Flt.d))) := ⟨_, rfl⟩
  have L7 : E7.length = 15 := by rw [hE7]; simp [L6]
  have f1 : E7[1]? = some (sr p q s2) := by rw [hE7]; simp [d1]
  have f3 : E7[3]? = some (.fz x.d) := by rw [hE7]; simp [d3]
  have f4 : E7[4]? = some (.fz (MX x)) := by rw [hE7]; simp [d4]
  have f5 : E7[5]? = some (.fz (.tup (x.fs.map Flt.d))) := by rw [hE7]; simp [d5]
  have f7 : E7[7]? = some (.fz (.lst (gs.map Flt.d))) := by rw [hE7]; simp [d7]
  have f8 : E7[8]? = some s8 := by rw [hE7]; simp [d8]
  have f9 : E7[9]? = some (.fz (.tup ((lft (srF x.fs) gs).map Flt.d))) := by rw [hE7]; simp [L6]
  rw [← hE7] at e7
  have e8 := u8_ok g f4 f7
  obtain ⟨E8, hE8⟩ : ∃ E8 : Ev, E8 = E7.set 10 (.fz (MC x.ks x.w (lft (srF x.fs) gs))) := ⟨_, rfl⟩
  have L8 : E8.length = 15 := by rw [hE8]; simp [L7]
  have i1 : E8[1]? = some (sr p q s2) := by rw [hE8]; simp [f1]
  have i3 : E8[3]? = some (.fz x.d) := by rw [hE8]; simp [f3]
  have i4 : E8[4]? = some (.fz (MX x)) := by rw [hE8]; simp [f4]
  have i5 : E8[5]? = some (.fz (.tup (x.fs.map Flt.d))) := by rw [hE8]; simp [f5]
  have i8 : E8[8]? = some s8 := by rw [hE8]; simp [f8]
  have i9 : E8[9]? = some (.fz (.tup ((lft (srF x.fs) gs).map Flt.d))) := by rw [hE8]; simp [f9]
  have i10 : E8[10]? = some (.fz (MC x.ks x.w (lft (srF x.fs) gs))) := by rw [hE8]; simp [L7]
  rw [← hE8] at e8
  have e9 := u9_ok g i4 i5 i9 i10
  have e10 := u10_ok g i3
  obtain ⟨E10, hE10⟩ : ∃ E10 : Ev, E10 = E8.set 11 (.fz (MC x.ks x.w [])) := ⟨_, rfl⟩
  have L10 : E10.length = 15 := by rw [hE10]; simp [L8]
  have j1 : E10[1]? = some (sr p q s2) := by rw [hE10]; simp [i1]
  have j3 : E10[3]? = some (.fz x.d) := by rw [hE10]; simp [i3]
  have j4 : E10[4]? = some (.fz (MX x)) := by rw [hE10]; simp [i4]
  have j5 : E10[5]? = some (.fz (.tup (x.fs.map Flt.d))) := by rw [hE10]; simp [i5]
  have j8 : E10[8]? = some s8 := by rw [hE10]; simp [i8]
  have j9 : E10[9]? = some (.fz (.tup ((lft (srF x.fs) gs).map Flt.d))) := by rw [hE10]; simp [i9]
  have j10 : E10[10]? = some (.fz (MC x.ks x.w (lft (srF x.fs) gs))) := by rw [hE10]; simp [i10]
  have j11 : E10[11]? = some (.fz (MC x.ks x.w [])) := by rw [hE10]; simp [L8]
  rw [← hE10] at e10
  have e11 := u11_ok g j4 j5 j11
  have e12 := u12_ok g j5 j9 j8 hc
  obtain ⟨E12, hE12⟩ : ∃ E12 : Ev, E12 = E10.set 12 (.fz (.lst ((lft x.fs (lft (srF x.fs) gs)).map Flt.d))) := ⟨_, rfl⟩
  have L12 : E12.length = 15 := by rw [hE12]; simp [L10]
  have k1 : E12[1]? = some (sr p q s2) := by rw [hE12]; simp [j1]
  have k3 : E12[3]? = some (.fz x.d) := by rw [hE12]; simp [j3]
  have k4 : E12[4]? = some (.fz (MX x)) := by rw [hE12]; simp [j4]
  have k5 : E12[5]? = some (.fz (.tup (x.fs.map Flt.d))) := by rw [hE12]; simp [j5]
  have k8 : E12[8]? = some s8 := by rw [hE12]; simp [j8]
  have k10 : E12[10]? = some (.fz (MC x.ks x.w (lft (srF x.fs) gs))) := by rw [hE12]; simp [j10]
  have k12 : E12[12]? = some (.fz (.lst ((lft x.fs (lft (srF x.fs) gs)).map Flt.d))) := by rw [hE12]; simp [L10]
  rw [← hE12] at e12
  have e13 := u13_ok k10
  obtain ⟨E13, hE13⟩ : ∃ E13 : Ev, E13 = E12.set 6 (.fz (MC x.ks x.w (lft (srF x.fs) gs))) := ⟨_, rfl⟩
  have L13 : E13.length = 15 := by rw [hE13]; simp [L12]
  have l1 : E13[1]? = some (sr p q s2) := by rw [hE13]; simp [k1]
  have l3 : E13[3]? = some (.fz x.d) := by rw [hE13]; simp [k3]
  have l4 : E13[4]? = some (.fz (MX x)) := by rw [hE13]; simp [k4]
  have l5 : E13[5]? = some (.fz (.tup (x.fs.map Flt.d))) := by rw [hE13]; simp [k5]
  have l6 : E13[6]? = some (.fz (MC x.ks x.w (srF (lft (srF x.fs) gs)))) := by rw [hE13, srF_lft]; simp [L12]
  have l8 : E13[8]? = some s8 := by rw [hE13]; simp [k8]
  have l12 : E13[12]? = some (.fz (.lst ((lft x.fs (lft (srF x.fs) gs)).map Flt.d))) := by rw [hE13]; simp [k12]
  rw [← hE13] at e13
  have hperm := left_more x.fs gs g.f.nodup
  obtain ⟨E14, s8', e14, m6, m8, hc', L14, mo⟩ := u14_ok g (g.f.perm hperm.symm) l6 l8 hc l12
  rw [srF_congr hperm] at m6
  rw [L13] at L14
  have m1 : E14[1]? = some (sr p q s2) := by rw [mo 1 (by decide) (by decide)]; exact l1
  have m3 : E14[3]? = some (.fz x.d) := by rw [mo 3 (by decide) (by decide)]; exact l3
  have m4 : E14[4]? = some (.fz (MX x)) := by rw [mo 4 (by decide) (by decide)]; exact l4
  have m5 : E14[5]? = some (.fz (.tup (x.fs.map Flt.d))) := by rw [mo 5 (by decide) (by decide)]; exact l5
  have e15 := u15_ok g m4 m6
  have e16 := u16_ok g m3 m5
  obtain ⟨E16, hE16⟩ : ∃ E16 : Ev, E16 = E14.set 13 (.fz (MC x.ks ((x.w + 1 : Nat) : Int) (srF x.fs))) := ⟨_, rfl⟩
  have L16 : E16.length = 15 := by rw [hE16]; simp [L14]
  have n1 : E16[1]? = some (sr p q s2) := by rw [hE16]; simp [m1]
  have n3 : E16[3]? = some (.fz x.d) := by rw [hE16]; simp [m3]
  have n4 : E16[4]? = some (.fz (MX x)) := by rw [hE16]; simp [m4]
  have n5 : E16[5]? = some (.fz (.tup (x.fs.map Flt.d))) := by rw [hE16]; simp [m5]
  have n8 : E16[8]? = some s8' := by rw [hE16]; simp [m8]
  have n13 : E16[13]? = some (.fz (MC x.ks ((x.w + 1 : Nat) : Int) (srF x.fs))) := by rw [hE16]; simp [L14]
  rw [← hE16] at e16
  have e17 := u17_ok g n3 n5
  obtain ⟨E17, hE17⟩ : ∃ E17 : Ev, E17 = E16.set 14 (.fz (MC x.ks.reverse x.w (srF x.fs))) := ⟨_, rfl⟩
  have L17 : E17.length = 15 := by rw [hE17]; simp [L16]
  have o1 : E17[1]? = some (sr p q s2) := by rw [hE17]; simp [n1]
  have o4 : E17[4]? = some (.fz (MX x)) := by rw [hE17]; simp [n4]
  have o8 : E17[8]? = some s8' := by rw [hE17]; simp [n8]
  have o13 : E17[13]? = some (.fz (MC x.ks ((x.w + 1 : Nat) : Int) (srF x.fs))) := by rw [hE17]; simp [n13]
  have o14 : E17[14]? = some (.fz (MC x.ks.reverse x.w (srF x.fs))) := by rw [hE17]; simp [L16]
  rw [← hE17] at e17
  have e18 := u18_ok g o4 o13 o14
  exact ⟨E17, s2, s8', sq_nx e1 (sq_nx e2 (sq_nx e3 (sq_nx e4 (sq_nx e5 (sq_nx e6 (sq_nx e7 (sq_nx e8 (sq_nx e9 (sq_nx e10 (sq_nx e11 (sq_nx e12 (sq_nx e13 (sq_nx e14 (sq_nx e15 (sq_nx e16 (sq_nx e17 e18)))))))))))))))), L17, o1, hs2', o8, hc'⟩
theorem turns4 : ∀ (is : List D) (E : Ev) (s : Src) (s8 : S), E.length = 15 → E[1]? = some (sr p q s) → s.cells.length ≤ 1000 → E[8]? = some s8 → cleanS s8 = true → ∃ e, forL (.nm 2) uT is E = .nx e
  | [], E, s, s8, _, _, _, _, _ => ⟨E, rfl⟩
  | d :: is, E, s, s8, hL, h1, hs, h8, hc => by
    obtain ⟨E', s', s8', a, b, c, d', e', f'⟩ := turn4_ok (E := E.set 2 (.fz d)) (by simp [hL]) (s := s) (p := p) (q := q) (by simp [h1]) hs (s8 := s8) (by simp [h8]) hc
    obtain ⟨e, ih⟩ := turns4 is E' s' s8' b c d' e' f'
    exact ⟨e, (forL_nx (e1 := E.set 2 (.fz d)) rfl a).trans ih⟩
theorem law4_eq (ns : List Int) (hl : ns.length ≤ 63) : ∃ s0, mixR ns 4 = some s0 ∧ ∀ p q : Addr, ∃ e, uL ((evLaw 15 ns).set 1 (.src p q s0 ns 0)) = .ret (.bl true) e := by
  refine ⟨_, rfl, fun p q => ?_⟩
  obtain ⟨e, h⟩ := turns4 (p := p) (q := q) (rangeD 0 4) ((evLaw 15 ns).set 1 (.src p q (ns.foldl mixSt 4) ns 0)) ⟨ns.foldl mixSt 4, ns, 0⟩ .un rfl rfl (by show ns.length ≤ 1000; omega) rfl rfl
  exact ⟨e, sq_nx (for_v (r1_v vC rfl) h) (stR vC)⟩
end
end TF
/-! #### text W4 -/
set_option Elab.async false
set_option linter.all false
set_option maxRecDepth 100000
set_option maxHeartbeats 2000000
namespace K04
open TF PySem L2 PySem.Spec PyProof.Rows
def top (i : Nat) : Stmt := PySem.Challenge.pw_typefault_k04_whole_machines_repaired.main.body.getD i (.Pass ⟨0, 0, 0, 0⟩)

/-! ### Keyboard.__init__ -/
abbrev st_Keyboard___init__ : Stmt := (clsB (top 14)).getD 1 (.Pass ⟨0, 0, 0, 0⟩)
def N_Keyboard___init__ : List Str := ["self", "keys", "known", "index", "key", "is_pair", "sign"]
theorem sc_Keyboard___init__ : FnScope N_Keyboard___init__ ["self", "keys"] (defScope st_Keyboard___init__) := ⟨rfl, rfl, rfl, by decide +kernel, rfl, by decide +kernel, by decide +kernel⟩
def m_Keyboard___init__  : SX := (sSeq (sOf (eC (.str "")) (sAsg (.nm 2)))
  (sSeq (sFor (TF.iEnum 0 (eV 1)) (.tp [(.nm 3), (.nm 4)]) (sSeq (sOf (eAnd (e2 dEq (eN dLen [(eW 4)]) (eC (.int 2))) (e2 dNe (e2 dIx (eW 4) (eC (.int 0))) (e2 dIx (eW 4) (eC (.int 1))))) (sAsg (.nm 5)))
  (sSeq (sIf (eOr (e2 dEq (eW 3) (eC (.int 10))) (eOr (eNot (eV 5)) (e2 dNe (eLc (List.map (·.2) ([("sign", 6)] : List (Str × Nat))) (iOf (eV 4)) (.nm 6) (eOr (e2 dNotIn (eW 6) (eC (.str "!,-.0123456789:;?ABCDEFGHIJKLMNOPQRSTUVWXYZabcdefghijklmnopqrstuvwxyz"))) (e2 dIn (eW 6) (eW 2))) (eV 6)) (eN mkL [])))) (sRaise "InvalidKeyboard" ["index"] [(eV 3)]) sNext)
  (sAugS 2 (eV 4)))))
  (sSeq (sIf (e2 dLt (eN dLen [(eW 1)]) (eC (.int 2))) (sRaise "InvalidKeyboard" ["index"] [(eN dLen [(eW 1)])]) sNext)
  (sOf (eV 1) (sMeC "Keyboard" 0 "own_keys")))))
theorem dfn_Keyboard___init__ {P : Program} {w : World} {K : PySem.W.Frag} {mg : Str → Option Value} {base : Heap} {fd : FuncData} {r : List D → Rv} (F : FunD K "__init__" "Keyboard.__init__" (defArgs st_Keyboard___init__) (defBody st_Keyboard___init__) (defScope st_Keyboard___init__) [] [] (He.ma K (He.ga K "Keyboard") "__init__") fd) (mk : Mk K (He.ga K "Keyboard") (He.ma K (He.ga K "Keyboard") "__init__")) (b_enumerate : mg "enumerate" = none) (b_len : mg "len" = none) (c_SIGNS : GlC P w K mg "SIGNS" (.str "!,-.0123456789:;?ABCDEFGHIJKLMNOPQRSTUVWXYZabcdefghijklmnopqrstuvwxyz")) (c_MAX_KEYS : GlC P w K mg "MAX_KEYS" (.int 10)) (x_InvalidKeyboard : XcC P K mg "InvalidKeyboard" ["index"]) (b_super : mg "super" = none) (c_MIN_KEYS : GlC P w K mg "MIN_KEYS" (.int 2)) (C_Keyboard : ClS K "Keyboard") (g_Keyboard : mg "Keyboard" = some (.ref (He.ga K "Keyboard")))
    (hm : ∀ (a dx : Addr) ds, ds.length = 1 → match r ds with
      | .ret (.obj c' fs) => c' = "Keyboard" ∧ (slotC "Keyboard" = true → fs ≠ []) ∧ ∃ e fs', m_Keyboard___init__ (evI 7 a dx "Keyboard" ds) = .nx e ∧ e[0]? = some (.me a dx "Keyboard" fs') ∧ objOf "Keyboard" fs' = some fs ∧ (slotC "Keyboard" = false → fs'.length ≤ 900 ∧ ∀ f, f ∉ fldC "Keyboard" → fs'.lookup f = none)
      | .exc x => ∃ e, m_Keyboard___init__ (evI 7 a dx "Keyboard" ds) = .exc x e ∧ ∃ fs', e[0]? = some (.me a dx "Keyboard" fs')
      | .stuck => True
      | _ => False) : DfI P w K mg base "Keyboard" 2 1 r := by
  refine ⟨⟨fd, ["self", "keys"], ?_, F.bindsN fun _ _ _ _ _ _ us hl => match us, hl with | [_, _], _ => rfl⟩, mk, g_Keyboard⟩
  have hN := sc_Keyboard___init__.nd
  refine FunD.okI F sc_Keyboard___init__ rfl (by decide) (fun cdv A outer s H E hr tk po => ?_) hm
  exact (pss_consD (ps_asgD pe_strD (gt 2 hN rfl rfl rfl))
  (pss_consD (ps_forD po rfl (pi_enumD b_enumerate rfl (vF 1 rfl rfl)) (pg_tp rfl (pg_consT (gt 3 hN rfl rfl rfl) (pg_consT (gt 4 hN rfl rfl rfl) pg_nilT))) (pss_consD (ps_asgD (pe_andD (pe_cmpD (opD_eq hr.units) rfl (PE.seen (pe_callBD crD_len b_len boot_len (by decide) (by decide) rfl (pa_consD (vW 4 rfl rfl) pa_nilD))) (PE.seen pe_intD)) (pe_oneD (pe_cmpD (opD_ne hr.units) rfl (PE.seen (pe_ixD ixD (fun _ _ => rfl) (vW 4 rfl rfl) (PE.seen pe_intD))) (PE.seen (pe_ixD ixD (fun _ _ => rfl) (vW 4 rfl rfl) (PE.seen pe_intD)))))) (gt 5 hN rfl rfl rfl))
  (pss_consD (ps_ifD (PW.pt (pw_orD (pt_cmpD (opD_eq hr.units) rfl (vW 3 rfl rfl) (PE.seen (gC c_MAX_KEYS rfl (by decide)))) (pw_orD (pt_notD (pt_valD (vF 5 rfl rfl) fun _ => rfl)) (pw_or1D (pt_cmpD (opD_ne hr.units) rfl (PE.seen (PE.ofO (pe_lcO [("sign", 6)] rfl hN (pi_anyD (vF 4 rfl rfl)) (blkOk_by rfl) (by decide) (fun _ _ _ _ _ => (gt 6 hN rfl rfl rfl)) (fun _ _ _ _ _ => (pts_one (PW.pt (pw_orD (pt_cmpD (opD_notIn (Room.u65 hr)) rfl (vW 6 rfl rfl) (PE.seen (gC c_SIGNS rfl (by decide)))) (pw_or1D (pt_cmpD (opD_in (Room.u65 hr)) rfl (vW 6 rfl rfl) (vW 2 rfl rfl))))))) (fun _ _ _ _ _ => (vF 6 rfl rfl))))) (PE.seen (pe_lstD pf_nil)))))))
  (pss_oneD (raiseK x_InvalidKeyboard rfl tk (hr.mono (by omega) : Room 1 _) rfl b_super (pk_consD (vF 3 rfl rfl) pk_nilD) rfl (by decide)))
  pss_nilD)
  (pss_oneD (ps_augD (i := 2) hN rfl (locB_of rfl) (.inl rfl) (vF 4 rfl rfl))))))
  (pss_consD (ps_ifD (pt_cmpD opD_lt rfl (PE.seen (pe_callBD crD_len b_len boot_len (by decide) (by decide) rfl (pa_consD (vW 1 rfl rfl) pa_nilD))) (PE.seen (gC c_MIN_KEYS rfl (by decide))))
  (pss_oneD (raiseK x_InvalidKeyboard rfl tk (hr.mono (by omega) : Room 1 _) rfl b_super (pk_consD (pe_callBD crD_len b_len boot_len (by decide) (by decide) rfl (pa_consD (vW 1 rfl rfl) pa_nilD)) pk_nilD) rfl (by decide)))
  pss_nilD)
  (pss_oneD (meC C_Keyboard (j := 0) rfl (i := 0) rfl rfl (vF 1 rfl rfl))))))

/-! ### Keyboard.key_signs -/
abbrev st_Keyboard_key_signs : Stmt := (clsB (top 14)).getD 2 (.Pass ⟨0, 0, 0, 0⟩)
def N_Keyboard_key_signs : List Str := ["self"]
theorem sc_Keyboard_key_signs : FnScope N_Keyboard_key_signs ["self"] (defScope st_Keyboard_key_signs) := ⟨rfl, rfl, rfl, by decide +kernel, rfl, by decide +kernel, by decide +kernel⟩
def m_Keyboard_key_signs  : SX := (sOf (eAttr "Keyboard" 0 (eV 0)) sRet)
theorem dfn_Keyboard_key_signs {P : Program} {w : World} {K : PySem.W.Frag} {mg : Str → Option Value} {base : Heap} {fd : FuncData} {f : Addr} (pr : PrA K "Keyboard" "key_signs" f) (F : FunD K "key_signs" "Keyboard.key_signs" (defArgs st_Keyboard_key_signs) (defBody st_Keyboard_key_signs) (defScope st_Keyboard_key_signs) [] [] f fd) (C_Keyboard : ClS K "Keyboard") (g_Keyboard : mg "Keyboard" = some (.ref (He.ga K "Keyboard"))) : DfP P w K mg base "Keyboard" "key_signs" 1 ksR := by
  refine DfP.of (ps := ["self"]) ?_ (F.bindsN fun _ _ _ _ _ _ us hl => match us, hl with | [_], _ => rfl) pr
  have hN := sc_Keyboard_key_signs.nd
  refine FunD.okD F sc_Keyboard_key_signs (fun cdv A outer s H E hr tk po => ?_)
  exact (pss_oneD (ps_retD (pe_slD C_Keyboard (j := 0) rfl (vF 0 rfl rfl))))

/-! ### Keyboard.__len__ -/
abbrev st_Keyboard___len__ : Stmt := (clsB (top 14)).getD 5 (.Pass ⟨0, 0, 0, 0⟩)
def N_Keyboard___len__ : List Str := ["self"]
theorem sc_Keyboard___len__ : FnScope N_Keyboard___len__ ["self"] (defScope st_Keyboard___len__) := ⟨rfl, rfl, rfl, by decide +kernel, rfl, by decide +kernel, by decide +kernel⟩
def m_Keyboard___len__  : SX := (sOf (eN dLen [(eAttr "Keyboard" 0 (eV 0))]) sRet)
theorem dfn_Keyboard___len__ {P : Program} {w : World} {K : PySem.W.Frag} {mg : Str → Option Value} {base : Heap} {fd : FuncData} (mt : Meth K (He.ga K "Keyboard") "__len__" (He.ma K (He.ga K "Keyboard") "__len__")) (F : FunD K "__len__" "Keyboard.__len__" (defArgs st_Keyboard___len__) (defBody st_Keyboard___len__) (defScope st_Keyboard___len__) [] [] (He.ma K (He.ga K "Keyboard") "__len__") fd) (C_Keyboard : ClS K "Keyboard") (g_Keyboard : mg "Keyboard" = some (.ref (He.ga K "Keyboard"))) (b_len : mg "len" = none) : DfM P w K mg base "Keyboard" "__len__" 1 1 klenR := by
  refine DfM.of (ps := ["self"]) ?_ (F.bindsN fun _ _ _ _ _ _ us hl => match us, hl with | [_], _ => rfl) mt
  have hN := sc_Keyboard___len__.nd
  refine FunD.okD F sc_Keyboard___len__ (fun cdv A outer s H E hr tk po => ?_)
  exact (pss_oneD (ps_retD (pe_callBD crD_len b_len boot_len (by decide) (by decide) rfl (pa_consD (PE.seen (pe_slD C_Keyboard (j := 0) rfl (vF 0 rfl rfl))) pa_nilD))))

/-! ### Keyboard.__eq__ -/
abbrev st_Keyboard___eq__ : Stmt := (clsB (top 14)).getD 6 (.Pass ⟨0, 0, 0, 0⟩)
def N_Keyboard___eq__ : List Str := ["self", "other"]
theorem sc_Keyboard___eq__ : FnScope N_Keyboard___eq__ ["self", "other"] (defScope st_Keyboard___eq__) := ⟨rfl, rfl, rfl, by decide +kernel, rfl, by decide +kernel, by decide +kernel⟩
def m_Keyboard___eq__  : SX := (sOf (eAnd (eIsC "Keyboard" (eV 1)) (e2 dEq (eAttr "Keyboard" 0 (eV 0)) (eProp "Keyboard" ksR (eV 1)))) sRet)
theorem dfn_Keyboard___eq__ {P : Program} {w : World} {K : PySem.W.Frag} {mg : Str → Option Value} {base : Heap} {fd : FuncData} (mt : Meth K (He.ga K "Keyboard") "__eq__" (He.ma K (He.ga K "Keyboard") "__eq__")) (F : FunD K "__eq__" "Keyboard.__eq__" (defArgs st_Keyboard___eq__) (defBody st_Keyboard___eq__) (defScope st_Keyboard___eq__) [] [] (He.ma K (He.ga K "Keyboard") "__eq__") fd) (C_Keyboard : ClS K "Keyboard") (g_Keyboard : mg "Keyboard" = some (.ref (He.ga K "Keyboard"))) (p_Keyboard_key_signs : DfP P w K mg base "Keyboard" "key_signs" 1 ksR) (b_isinstance : mg "isinstance" = none) : DfM P w K mg base "Keyboard" "__eq__" 3 2 keqR := by
  refine DfM.of (ps := ["self", "other"]) ?_ (F.bindsN fun _ _ _ _ _ _ us hl => match us, hl with | [_, _], _ => rfl) mt
  have hN := sc_Keyboard___eq__.nd
  refine FunD.okD F sc_Keyboard___eq__ (fun cdv A outer s H E hr tk po => ?_)
  exact (pss_oneD (ps_retD (pe_andD (pe_isCD C_Keyboard g_Keyboard rfl (by decide) b_isinstance rfl (vF 1 rfl rfl)) (pe_oneD (pe_cmpD (opD_eq hr.units) rfl (PE.seen (pe_slD C_Keyboard (j := 0) rfl (vF 0 rfl rfl))) (PE.seen (pe_propD C_Keyboard p_Keyboard_key_signs (hr.mono (by omega)) (vF 1 rfl rfl))))))))

/-! ### is_number -/
abbrev st_is_number : Stmt := top 13
def N_is_number : List Str := ["value", "smallest", "largest"]
theorem sc_is_number : FnScope N_is_number ["value", "smallest", "largest"] (defScope st_is_number) := ⟨rfl, rfl, rfl, by decide +kernel, rfl, by decide +kernel, by decide +kernel⟩
def m_is_number  : SX := (sOf (eAnd (eIsi ["int"] (eW 0)) (eAnd (eNot (eIsi ["bool"] (eW 0))) (eChain dLe dLe (eW 1) (eW 0) (eW 2)))) sRet)
theorem dfn_is_number {P : Program} {w : World} {K : PySem.W.Frag} {mg : Str → Option Value} {base : Heap} {fd : FuncData} {f : Addr} (F : FunD K "is_number" "is_number" (defArgs st_is_number) (defBody st_is_number) (defScope st_is_number) [] [] f fd) (gx : mg "is_number" = some (.ref f)) (b_bool : mg "bool" = none) (b_isinstance : mg "isinstance" = none) (b_int : mg "int" = none) : Dfn P w K mg base "is_number" 1 3 numR := by
  refine ⟨f, fd, ["value", "smallest", "largest"], ?_, gx, F.kp, F.bindsN fun _ _ _ _ _ _ us hl => match us, hl with | [_, _, _], _ => rfl⟩
  have hN := sc_is_number.nd
  refine FunD.okD F sc_is_number (fun cdv A outer s H E hr tk po => ?_)
  exact (pss_oneD (ps_retD (pe_andD (pe_isiD ⟨b_int, rfl, rfl, by decide, by decide⟩ rfl b_isinstance rfl (vW 0 rfl rfl)) (pe_andD (pe_notD (pe_isiD ⟨b_bool, rfl, rfl, by decide, by decide⟩ rfl b_isinstance rfl (vW 0 rfl rfl))) (pe_oneD (pe_chainD opD_le opD_le (vW 1 rfl rfl) (vW 0 rfl rfl) (vW 2 rfl rfl)))))))

/-! ### is_fault -/
abbrev st_is_fault : Stmt := top 26
def N_is_fault : List Str := ["keyboard", "width", "fault", "word", "numbers", "number"]
theorem sc_is_fault : FnScope N_is_fault ["keyboard", "width", "fault"] (defScope st_is_fault) := ⟨rfl, rfl, rfl, by decide +kernel, rfl, by decide +kernel, by decide +kernel⟩
def m_is_fault  : SX := (sSeq (sOf (eV 2) (sStar (.nm 3) (.nm 4)))
  (sSeq (sIf (e2 dIn (eW 3) (eN mkT [(eC (.str "back")), (eC (.str "space")), (eC (.str "down")), (eC (.str "up"))])) (sOf (eC (.bl true)) sRet) sNext)
  (sSeq (sIf (e2 dEq (eW 3) (eC (.str "feed"))) (sOf (eAnd (e2 dIn (e2 dIx (eW 4) (eC (.int 0))) (eN mkT [(eC (.int 0)), (eC (.int 2))])) (eNot (eIsi ["bool"] (e2 dIx (eW 4) (eC (.int 0)))))) sRet) sNext)
  (sSeq (sIf (e2 dEq (eW 3) (eC (.str "slip"))) (sOf (eCall numR [(e2 dIx (eW 4) (eC (.int 0))), (eC (.int 1)), (e2 dSub (eW 1) (eC (.int 2)))]) sRet) sNext)
  (sSeq (sIf (e2 dNe (eLc (List.map (·.2) ([("number", 5)] : List (Str × Nat))) (iOf (eV 4)) (.nm 5) (eNot (eCall numR [(eV 5), (eC (.int 0)), (e2 dSub (eN (dLenO "Keyboard" klenR) [(eW 0)]) (eC (.int 1)))])) (eV 5)) (eN mkL [])) (sOf (eC (.bl false)) sRet) sNext)
  (sOf (eOr (e2 dNe (eW 3) (eC (.str "swap"))) (e2 dLt (e2 dIx (eW 4) (eC (.int 0))) (e2 dIx (eW 4) (eC (.int 1))))) sRet))))))
theorem dfn_is_fault {P : Program} {w : World} {K : PySem.W.Frag} {mg : Str → Option Value} {base : Heap} {fd : FuncData} {f : Addr} (F : FunD K "is_fault" "is_fault" (defArgs st_is_fault) (defBody st_is_fault) (defScope st_is_fault) [] [] f fd) (gx : mg "is_fault" = some (.ref f)) (c_UP : GlC P w K mg "UP" (.str "up")) (c_DOWN : GlC P w K mg "DOWN" (.str "down")) (c_SPACE : GlC P w K mg "SPACE" (.str "space")) (c_BACK : GlC P w K mg "BACK" (.str "back")) (c_FEED : GlC P w K mg "FEED" (.str "feed")) (b_bool : mg "bool" = none) (b_isinstance : mg "isinstance" = none) (c_SLIP : GlC P w K mg "SLIP" (.str "slip")) (d_is_number : Dfn P w K mg base "is_number" 1 3 numR) (C_Keyboard : ClS K "Keyboard") (g_Keyboard : mg "Keyboard" = some (.ref (He.ga K "Keyboard"))) (m_Keyboard___len__ : DfM P w K mg base "Keyboard" "__len__" 1 1 klenR) (b_len : mg "len" = none) (c_SWAP : GlC P w K mg "SWAP" (.str "swap")) : Dfn P w K mg base "is_fault" 3 3 isFR := by
  refine ⟨f, fd, ["keyboard", "width", "fault"], ?_, gx, F.kp, F.bindsN fun _ _ _ _ _ _ us hl => match us, hl with | [_, _, _], _ => rfl⟩
  have hN := sc_is_fault.nd
  refine FunD.okD F sc_is_fault (fun cdv A outer s H E hr tk po => ?_)
  exact (pss_consD (ps_starD rfl (vF 2 rfl rfl) (gt 3 hN rfl rfl rfl) (gt 4 hN rfl rfl rfl))
  (pss_consD (ps_ifD (pt_cmpD (opD_in (Room.u65 hr)) rfl (vW 3 rfl rfl) (PE.seen (pe_tupD (pf_cons (gC c_BACK rfl (by decide)) (pf_cons (gC c_SPACE rfl (by decide)) (pf_cons (gC c_DOWN rfl (by decide)) (pf_cons (gC c_UP rfl (by decide)) pf_nil)))))))
  (pss_oneD (ps_retD pe_blD))
  pss_nilD)
  (pss_consD (ps_ifD (pt_cmpD (opD_eq hr.units) rfl (vW 3 rfl rfl) (PE.seen (gC c_FEED rfl (by decide))))
  (pss_oneD (ps_retD (pe_andD (pe_cmpD (opD_in (Room.u65 hr)) rfl (PE.seen (pe_ixD ixD (fun _ _ => rfl) (vW 4 rfl rfl) (PE.seen pe_intD))) (PE.seen (pe_tupD (pf_cons pe_intD (pf_cons pe_intD pf_nil))))) (pe_oneD (pe_notD (pe_isiD ⟨b_bool, rfl, rfl, by decide, by decide⟩ rfl b_isinstance rfl (PE.seen (pe_ixD ixD (fun _ _ => rfl) (vW 4 rfl rfl) (PE.seen pe_intD)))))))))
  pss_nilD)
  (pss_consD (ps_ifD (pt_cmpD (opD_eq hr.units) rfl (vW 3 rfl rfl) (PE.seen (gC c_SLIP rfl (by decide))))
  (pss_oneD (ps_retD (pe_callD (Dfn.cal d_is_number) (hr.mono (by omega)) tk (by decide) rfl rfl (pf_cons (pe_ixD ixD (fun _ _ => rfl) (vW 4 rfl rfl) (PE.seen pe_intD)) (pf_cons pe_intD (pf_cons (pe_opD opD_sub (vW 1 rfl rfl) (PE.seen pe_intD)) pf_nil))) rfl)))
  pss_nilD)
  (pss_consD (ps_ifD (pt_cmpD (opD_ne hr.units) rfl (PE.seen (PE.ofO (pe_lcO [("number", 5)] rfl hN (pi_anyD (vF 4 rfl rfl)) (blkOk_by rfl) (by decide) (fun _ _ _ _ _ => (gt 5 hN rfl rfl rfl)) (fun _ _ _ _ _ => (pts_one (pt_notD (pt_valD (pe_callD (Dfn.cal d_is_number) (hr.mono (by omega)) TF.takes0 (by decide) rfl rfl (pf_cons (vF 5 rfl rfl) (pf_cons pe_intD (pf_cons (pe_opD opD_sub (PE.seen (pe_callBD (crD_lenO C_Keyboard m_Keyboard___len__ (hr.mono (by omega))) b_len boot_len (by decide) (by decide) rfl (pa_consD (vW 0 rfl rfl) pa_nilD))) (PE.seen pe_intD)) pf_nil))) rfl) fun _ => rfl)))) (fun _ _ _ _ _ => (vF 5 rfl rfl))))) (PE.seen (pe_lstD pf_nil)))
  (pss_oneD (ps_retD pe_blD))
  pss_nilD)
  (pss_oneD (ps_retD (pe_orD (pe_cmpD (opD_ne hr.units) rfl (vW 3 rfl rfl) (PE.seen (gC c_SWAP rfl (by decide)))) (pe_oneD (pe_cmpD opD_lt rfl (PE.seen (pe_ixD ixD (fun _ _ => rfl) (vW 4 rfl rfl) (PE.seen pe_intD))) (PE.seen (pe_ixD ixD (fun _ _ => rfl) (vW 4 rfl rfl) (PE.seen pe_intD)))))))))))))

/-! ### do_clash -/
abbrev st_do_clash : Stmt := top 27
def N_do_clash : List Str := ["one", "other", "key"]
theorem sc_do_clash : FnScope N_do_clash ["one", "other"] (defScope st_do_clash) := ⟨rfl, rfl, rfl, by decide +kernel, rfl, by decide +kernel, by decide +kernel⟩
def m_do_clash  : SX := (sSeq (sIf (e2 dEq (eW 0) (eW 1)) (sOf (eC (.bl true)) sRet) sNext)
  (sSeq (sIf (eAnd (e2 dIn (e2 dIx (eW 0) (eC (.int 0))) (eC (.tup [.str "dead", .str "double", .str "stuck", .str "swap"]))) (e2 dIn (e2 dIx (eW 1) (eC (.int 0))) (eC (.tup [.str "dead", .str "double", .str "stuck", .str "swap"])))) (sOf (e2 dNe (eLc (List.map (·.2) ([("key", 2)] : List (Str × Nat))) (iOf (eSl (eW 0) (some (eC (.int 1))) none)) (.nm 2) (e2 dIn (eW 2) (eSl (eW 1) (some (eC (.int 1))) none)) (eV 2)) (eN mkL [])) sRet) sNext)
  (sOf (eOr (eAnd (e2 dIn (e2 dIx (eW 0) (eC (.int 0))) (eC (.tup [.str "down", .str "up"]))) (e2 dIn (e2 dIx (eW 1) (eC (.int 0))) (eC (.tup [.str "down", .str "up"])))) (eAnd (e2 dEq (e2 dIx (eW 0) (eC (.int 0))) (eC (.str "feed"))) (e2 dEq (e2 dIx (eW 1) (eC (.int 0))) (eC (.str "feed"))))) sRet)))
theorem dfn_do_clash {P : Program} {w : World} {K : PySem.W.Frag} {mg : Str → Option Value} {base : Heap} {fd : FuncData} {f : Addr} (F : FunD K "do_clash" "do_clash" (defArgs st_do_clash) (defBody st_do_clash) (defScope st_do_clash) [] [] f fd) (gx : mg "do_clash" = some (.ref f)) (c_OF_KEYS : GlC P w K mg "OF_KEYS" (.tup [.str "dead", .str "double", .str "stuck", .str "swap"])) (c_FEED : GlC P w K mg "FEED" (.str "feed")) (c_OF_LOCK : GlC P w K mg "OF_LOCK" (.tup [.str "down", .str "up"])) : Dfn P w K mg base "do_clash" 1 2 clashR := by
  refine ⟨f, fd, ["one", "other"], ?_, gx, F.kp, F.bindsN fun _ _ _ _ _ _ us hl => match us, hl with | [_, _], _ => rfl⟩
  have hN := sc_do_clash.nd
  refine FunD.okD F sc_do_clash (fun cdv A outer s H E hr tk po => ?_)
  exact (pss_consD (ps_ifD (pt_cmpD (opD_eq hr.units) rfl (vW 0 rfl rfl) (vW 1 rfl rfl))
  (pss_oneD (ps_retD pe_blD))
  pss_nilD)
  (pss_consD (ps_ifD (PW.pt (pw_andD (pt_cmpD (opD_in (Room.u65 hr)) rfl (PE.seen (pe_ixD ixD (fun _ _ => rfl) (vW 0 rfl rfl) (PE.seen pe_intD))) (PE.seen (gC c_OF_KEYS rfl (by decide)))) (pw_and1D (pt_cmpD (opD_in (Room.u65 hr)) rfl (PE.seen (pe_ixD ixD (fun _ _ => rfl) (vW 1 rfl rfl) (PE.seen pe_intD))) (PE.seen (gC c_OF_KEYS rfl (by decide)))))))
  (pss_oneD (ps_retD (pe_cmpD (opD_ne hr.units) rfl (PE.seen (PE.ofO (pe_lcO [("key", 2)] rfl hN (pi_anyD (pe_slcD (vW 0 rfl rfl) (POk.at pe_intD) POk.no)) (blkOk_by rfl) (by decide) (fun _ _ _ _ _ => (gt 2 hN rfl rfl rfl)) (fun _ _ _ _ _ => (pts_one (pt_cmpD (opD_in (Room.u65 hr)) rfl (vW 2 rfl rfl) (PE.seen (pe_slcD (vW 1 rfl rfl) (POk.at pe_intD) POk.no))))) (fun _ _ _ _ _ => (vF 2 rfl rfl))))) (PE.seen (pe_lstD pf_nil)))))
  pss_nilD)
  (pss_oneD (ps_retD (pe_orD (pe_andD (pe_cmpD (opD_in (Room.u65 hr)) rfl (PE.seen (pe_ixD ixD (fun _ _ => rfl) (vW 0 rfl rfl) (PE.seen pe_intD))) (PE.seen (gC c_OF_LOCK rfl (by decide)))) (pe_oneD (pe_cmpD (opD_in (Room.u65 hr)) rfl (PE.seen (pe_ixD ixD (fun _ _ => rfl) (vW 1 rfl rfl) (PE.seen pe_intD))) (PE.seen (gC c_OF_LOCK rfl (by decide)))))) (pe_oneD (pe_andD (pe_cmpD (opD_eq hr.units) rfl (PE.seen (pe_ixD ixD (fun _ _ => rfl) (vW 0 rfl rfl) (PE.seen pe_intD))) (PE.seen (gC c_FEED rfl (by decide)))) (pe_oneD (pe_cmpD (opD_eq hr.units) rfl (PE.seen (pe_ixD ixD (fun _ _ => rfl) (vW 1 rfl rfl) (PE.seen pe_intD))) (PE.seen (gC c_FEED rfl (by decide))))))))))))

/-! ### Machine.__init__ -/
abbrev st_Machine___init__ : Stmt := (clsB (top 28)).getD 1 (.Pass ⟨0, 0, 0, 0⟩)
def N_Machine___init__ : List Str := ["self", "keyboard", "width", "faults", "index", "fault", "is_clash", "other"]
theorem sc_Machine___init__ : FnScope N_Machine___init__ ["self", "keyboard", "width", "faults"] (defScope st_Machine___init__) := ⟨rfl, rfl, rfl, by decide +kernel, rfl, by decide +kernel, by decide +kernel⟩
def m_Machine___init__  : SX := (sSeq (sIf (eNot (eCall numR [(eV 2), (eC (.int 2)), (eC (.int 20))])) (sRaise "InvalidMachine" ["part", "index"] [(eC (.str "width")), (eC (.int 0))]) sNext)
  (sSeq (sFor (TF.iEnum 0 (eV 3)) (.tp [(.nm 4), (.nm 5)]) (sSeq (sOf (e2 dNe (eLc (List.map (·.2) ([("other", 7)] : List (Str × Nat))) (iOf (eSl (eW 3) none (some (eV 4)))) (.nm 7) (eCall clashR [(eV 5), (eV 7)]) (eV 7)) (eN mkL [])) (sAsg (.nm 6)))
  (sIf (eOr (eNot (eCall isFR [(eV 1), (eV 2), (eV 5)])) (eV 6)) (sRaise "InvalidMachine" ["part", "index"] [(eC (.str "faults")), (eV 4)]) sNext)))
  (sSeq (sOf (eV 1) (sMeC "Machine" 0 "own_keyboard"))
  (sSeq (sOf (eV 2) (sMeC "Machine" 0 "own_width"))
  (sOf (eN dTupOf [(eN dSorted [(eW 3)])]) (sMeC "Machine" 0 "own_faults"))))))
theorem dfn_Machine___init__ {P : Program} {w : World} {K : PySem.W.Frag} {mg : Str → Option Value} {base : Heap} {fd : FuncData} {r : List D → Rv} (F : FunD K "__init__" "Machine.__init__" (defArgs st_Machine___init__) (defBody st_Machine___init__) (defScope st_Machine___init__) [] [] (He.ma K (He.ga K "Machine") "__init__") fd) (mk : Mk K (He.ga K "Machine") (He.ma K (He.ga K "Machine") "__init__")) (c_MAX_WIDTH : GlC P w K mg "MAX_WIDTH" (.int 20)) (c_MIN_WIDTH : GlC P w K mg "MIN_WIDTH" (.int 2)) (d_is_number : Dfn P w K mg base "is_number" 1 3 numR) (x_InvalidMachine : XcC P K mg "InvalidMachine" ["part", "index"]) (b_super : mg "super" = none) (b_enumerate : mg "enumerate" = none) (d_do_clash : Dfn P w K mg base "do_clash" 1 2 clashR) (d_is_fault : Dfn P w K mg base "is_fault" 3 3 isFR) (C_Machine : ClS K "Machine") (g_Machine : mg "Machine" = some (.ref (He.ga K "Machine"))) (b_sorted : mg "sorted" = none) (b_tuple : mg "tuple" = none)
    (hm : ∀ (a dx : Addr) ds, ds.length = 3 → match r ds with
      | .ret (.obj c' fs) => c' = "Machine" ∧ (slotC "Machine" = true → fs ≠ []) ∧ ∃ e fs', m_Machine___init__ (evI 8 a dx "Machine" ds) = .nx e ∧ e[0]? = some (.me a dx "Machine" fs') ∧ objOf "Machine" fs' = some fs ∧ (slotC "Machine" = false → fs'.length ≤ 900 ∧ ∀ f, f ∉ fldC "Machine" → fs'.lookup f = none)
      | .exc x => ∃ e, m_Machine___init__ (evI 8 a dx "Machine" ds) = .exc x e ∧ ∃ fs', e[0]? = some (.me a dx "Machine" fs')
      | .stuck => True
      | _ => False) : DfI P w K mg base "Machine" 5 3 r := by
  refine ⟨⟨fd, ["self", "keyboard", "width", "faults"], ?_, F.bindsN fun _ _ _ _ _ _ us hl => match us, hl with | [_, _, _, _], _ => rfl⟩, mk, g_Machine⟩
  have hN := sc_Machine___init__.nd
  refine FunD.okI F sc_Machine___init__ rfl (by decide) (fun cdv A outer s H E hr tk po => ?_) hm
  exact (pss_consD (ps_ifD (pt_notD (pt_valD (pe_callD (Dfn.cal d_is_number) (hr.mono (by omega)) tk (by decide) rfl rfl (pf_cons (vF 2 rfl rfl) (pf_cons (gC c_MIN_WIDTH rfl (by decide)) (pf_cons (gC c_MAX_WIDTH rfl (by decide)) pf_nil))) rfl) fun _ => rfl))
  (pss_oneD (raiseK x_InvalidMachine rfl tk (hr.mono (by omega) : Room 1 _) rfl b_super (pk_consD pe_strD (pk_consD pe_intD pk_nilD)) rfl (by decide)))
  pss_nilD)
  (pss_consD (ps_forD po rfl (pi_enumD b_enumerate rfl (vF 3 rfl rfl)) (pg_tp rfl (pg_consT (gt 4 hN rfl rfl rfl) (pg_consT (gt 5 hN rfl rfl rfl) pg_nilT))) (pss_consD (ps_asgD (pe_cmpD (opD_ne hr.units) rfl (PE.seen (PE.ofO (pe_lcO [("other", 7)] rfl hN (pi_anyD (pe_slcD (vW 3 rfl rfl) POk.no (POk.at (vF 4 rfl rfl)))) (blkOk_by rfl) (by decide) (fun _ _ _ _ _ => (gt 7 hN rfl rfl rfl)) (fun _ _ _ _ _ => (pts_one (pt_valD (pe_callD (Dfn.cal d_do_clash) (hr.mono (by omega)) TF.takes0 (by decide) rfl rfl (pf_cons (vF 5 rfl rfl) (pf_cons (vF 7 rfl rfl) pf_nil)) rfl) fun _ => rfl))) (fun _ _ _ _ _ => (vF 7 rfl rfl))))) (PE.seen (pe_lstD pf_nil))) (gt 6 hN rfl rfl rfl))
  (pss_oneD (ps_ifD (PW.pt (pw_orD (pt_notD (pt_valD (pe_callD (Dfn.cal d_is_fault) (hr.mono (by omega)) tk (by decide) rfl rfl (pf_cons (vF 1 rfl rfl) (pf_cons (vF 2 rfl rfl) (pf_cons (vF 5 rfl rfl) pf_nil))) rfl) fun _ => rfl)) (pw_or1D (pt_valD (vF 6 rfl rfl) fun _ => rfl))))
  (pss_oneD (raiseK x_InvalidMachine rfl tk (hr.mono (by omega) : Room 1 _) rfl b_super (pk_consD pe_strD (pk_consD (vF 4 rfl rfl) pk_nilD)) rfl (by decide)))
  pss_nilD))))
  (pss_consD (meC C_Machine (j := 1) rfl (i := 0) rfl rfl (vF 1 rfl rfl))
  (pss_consD (meC C_Machine (j := 2) rfl (i := 0) rfl rfl (vF 2 rfl rfl))
  (pss_oneD (meC C_Machine (j := 0) rfl (i := 0) rfl rfl (pe_callTyD crD_tuple b_tuple boot_tuple (by decide) (by decide) rfl (pa_consD (PE.seen (pe_callBD (crD_sorted rfl (Room.u100 hr)) b_sorted PyProof.Rows.boot_sorted (by decide) (by decide) rfl (pa_consD (vW 3 rfl rfl) pa_nilD))) pa_nilD))))))))

/-! ### Machine.keyboard -/
abbrev st_Machine_keyboard : Stmt := (clsB (top 28)).getD 2 (.Pass ⟨0, 0, 0, 0⟩)
def N_Machine_keyboard : List Str := ["self"]
theorem sc_Machine_keyboard : FnScope N_Machine_keyboard ["self"] (defScope st_Machine_keyboard) := ⟨rfl, rfl, rfl, by decide +kernel, rfl, by decide +kernel, by decide +kernel⟩
def m_Machine_keyboard  : SX := (sOf (eAttr "Machine" 1 (eV 0)) sRet)
theorem dfn_Machine_keyboard {P : Program} {w : World} {K : PySem.W.Frag} {mg : Str → Option Value} {base : Heap} {fd : FuncData} {f : Addr} (pr : PrA K "Machine" "keyboard" f) (F : FunD K "keyboard" "Machine.keyboard" (defArgs st_Machine_keyboard) (defBody st_Machine_keyboard) (defScope st_Machine_keyboard) [] [] f fd) (C_Machine : ClS K "Machine") (g_Machine : mg "Machine" = some (.ref (He.ga K "Machine"))) : DfP P w K mg base "Machine" "keyboard" 1 mkbR := by
  refine DfP.of (ps := ["self"]) ?_ (F.bindsN fun _ _ _ _ _ _ us hl => match us, hl with | [_], _ => rfl) pr
  have hN := sc_Machine_keyboard.nd
  refine FunD.okD F sc_Machine_keyboard (fun cdv A outer s H E hr tk po => ?_)
  exact (pss_oneD (ps_retD (pe_slD C_Machine (j := 1) rfl (vF 0 rfl rfl))))

/-! ### Machine.width -/
abbrev st_Machine_width : Stmt := (clsB (top 28)).getD 3 (.Pass ⟨0, 0, 0, 0⟩)
def N_Machine_width : List Str := ["self"]
theorem sc_Machine_width : FnScope N_Machine_width ["self"] (defScope st_Machine_width) := ⟨rfl, rfl, rfl, by decide +kernel, rfl, by decide +kernel, by decide +kernel⟩
def m_Machine_width  : SX := (sOf (eAttr "Machine" 2 (eV 0)) sRet)
theorem dfn_Machine_width {P : Program} {w : World} {K : PySem.W.Frag} {mg : Str → Option Value} {base : Heap} {fd : FuncData} {f : Addr} (pr : PrA K "Machine" "width" f) (F : FunD K "width" "Machine.width" (defArgs st_Machine_width) (defBody st_Machine_width) (defScope st_Machine_width) [] [] f fd) (C_Machine : ClS K "Machine") (g_Machine : mg "Machine" = some (.ref (He.ga K "Machine"))) : DfP P w K mg base "Machine" "width" 1 mwR := by
  refine DfP.of (ps := ["self"]) ?_ (F.bindsN fun _ _ _ _ _ _ us hl => match us, hl with | [_], _ => rfl) pr
  have hN := sc_Machine_width.nd
  refine FunD.okD F sc_Machine_width (fun cdv A outer s H E hr tk po => ?_)
  exact (pss_oneD (ps_retD (pe_slD C_Machine (j := 2) rfl (vF 0 rfl rfl))))

/-! ### Machine.faults -/
abbrev st_Machine_faults : Stmt := (clsB (top 28)).getD 4 (.Pass ⟨0, 0, 0, 0⟩)
def N_Machine_faults : List Str := ["self"]
theorem sc_Machine_faults : FnScope N_Machine_faults ["self"] (defScope st_Machine_faults) := ⟨rfl, rfl, rfl, by decide +kernel, rfl, by decide +kernel, by decide +kernel⟩
def m_Machine_faults  : SX := (sOf (eAttr "Machine" 0 (eV 0)) sRet)
theorem dfn_Machine_faults {P : Program} {w : World} {K : PySem.W.Frag} {mg : Str → Option Value} {base : Heap} {fd : FuncData} {f : Addr} (pr : PrA K "Machine" "faults" f) (F : FunD K "faults" "Machine.faults" (defArgs st_Machine_faults) (defBody st_Machine_faults) (defScope st_Machine_faults) [] [] f fd) (C_Machine : ClS K "Machine") (g_Machine : mg "Machine" = some (.ref (He.ga K "Machine"))) : DfP P w K mg base "Machine" "faults" 1 mfR := by
  refine DfP.of (ps := ["self"]) ?_ (F.bindsN fun _ _ _ _ _ _ us hl => match us, hl with | [_], _ => rfl) pr
  have hN := sc_Machine_faults.nd
  refine FunD.okD F sc_Machine_faults (fun cdv A outer s H E hr tk po => ?_)
  exact (pss_oneD (ps_retD (pe_slD C_Machine (j := 0) rfl (vF 0 rfl rfl))))

/-! ### Machine.with_fault -/
abbrev st_Machine_with_fault : Stmt := (clsB (top 28)).getD 5 (.Pass ⟨0, 0, 0, 0⟩)
def N_Machine_with_fault : List Str := ["self", "fault"]
theorem sc_Machine_with_fault : FnScope N_Machine_with_fault ["self", "fault"] (defScope st_Machine_with_fault) := ⟨rfl, rfl, rfl, by decide +kernel, rfl, by decide +kernel, by decide +kernel⟩
def m_Machine_with_fault  : SX := (sOf (eMake "Machine" mc_r [(eAttr "Machine" 1 (eV 0)), (eAttr "Machine" 2 (eV 0)), (e2 dAdd (eAttr "Machine" 0 (eV 0)) (eN mkT [(eV 1)]))]) sRet)
theorem dfn_Machine_with_fault {P : Program} {w : World} {K : PySem.W.Frag} {mg : Str → Option Value} {base : Heap} {fd : FuncData} (mt : Meth K (He.ga K "Machine") "with_fault" (He.ma K (He.ga K "Machine") "with_fault")) (F : FunD K "with_fault" "Machine.with_fault" (defArgs st_Machine_with_fault) (defBody st_Machine_with_fault) (defScope st_Machine_with_fault) [] [] (He.ma K (He.ga K "Machine") "with_fault") fd) (C_Machine : ClS K "Machine") (g_Machine : mg "Machine" = some (.ref (He.ga K "Machine"))) (i_Machine : DfI P w K mg base "Machine" 5 3 mc_r) : DfM P w K mg base "Machine" "with_fault" 7 2 mwithR := by
  refine DfM.of (ps := ["self", "fault"]) ?_ (F.bindsN fun _ _ _ _ _ _ us hl => match us, hl with | [_, _], _ => rfl) mt
  have hN := sc_Machine_with_fault.nd
  refine FunD.okD F sc_Machine_with_fault (fun cdv A outer s H E hr tk po => ?_)
  exact (pss_oneD (ps_retD (pe_makeD i_Machine (hr.mono (by omega)) tk (by decide) rfl rfl (pf_cons (pe_slD C_Machine (j := 1) rfl (vF 0 rfl rfl)) (pf_cons (pe_slD C_Machine (j := 2) rfl (vF 0 rfl rfl)) (pf_cons (pe_opD opD_add (PE.seen (pe_slD C_Machine (j := 0) rfl (vF 0 rfl rfl))) (PE.seen (pe_tupD (pf_cons (vF 1 rfl rfl) pf_nil)))) pf_nil))))))

/-! ### Machine.repaired -/
abbrev st_Machine_repaired : Stmt := (clsB (top 28)).getD 6 (.Pass ⟨0, 0, 0, 0⟩)
def N_Machine_repaired : List Str := ["self", "faults", "left", "fault"]
theorem sc_Machine_repaired : FnScope N_Machine_repaired ["self", "faults"] (defScope st_Machine_repaired) := ⟨rfl, rfl, rfl, by decide +kernel, rfl, by decide +kernel, by decide +kernel⟩
def m_Machine_repaired  : SX := (sSeq (sOf (eLc (List.map (·.2) ([("fault", 3)] : List (Str × Nat))) (iOf (eAttr "Machine" 0 (eV 0))) (.nm 3) (e2 dNotIn (eW 3) (eW 1)) (eV 3)) (sAsg (.nm 2)))
  (sOf (eMake "Machine" mc_r [(eAttr "Machine" 1 (eV 0)), (eAttr "Machine" 2 (eV 0)), (eV 2)]) sRet))
theorem dfn_Machine_repaired {P : Program} {w : World} {K : PySem.W.Frag} {mg : Str → Option Value} {base : Heap} {fd : FuncData} (mt : Meth K (He.ga K "Machine") "repaired" (He.ma K (He.ga K "Machine") "repaired")) (F : FunD K "repaired" "Machine.repaired" (defArgs st_Machine_repaired) (defBody st_Machine_repaired) (defScope st_Machine_repaired) [] [] (He.ma K (He.ga K "Machine") "repaired") fd) (C_Machine : ClS K "Machine") (g_Machine : mg "Machine" = some (.ref (He.ga K "Machine"))) (i_Machine : DfI P w K mg base "Machine" 5 3 mc_r) : DfM P w K mg base "Machine" "repaired" 7 2 mrepR := by
  refine DfM.of (ps := ["self", "faults"]) ?_ (F.bindsN fun _ _ _ _ _ _ us hl => match us, hl with | [_, _], _ => rfl) mt
  have hN := sc_Machine_repaired.nd
  refine FunD.okD F sc_Machine_repaired (fun cdv A outer s H E hr tk po => ?_)
  exact (pss_consD (ps_lcFz [("fault", 3)] rfl hN (k := 2) rfl rfl rfl (pi_anyD (pe_slD C_Machine (j := 0) rfl (vF 0 rfl rfl))) (blkOk_by rfl) (by decide) (fun _ _ _ _ _ => (gt 3 hN rfl rfl rfl)) (fun _ _ _ _ _ => (pts_one (pt_cmpD (opD_notIn (Room.u65 hr)) rfl (vW 3 rfl rfl) (vW 1 rfl rfl)))) (fun _ _ _ _ _ => (vF 3 rfl rfl)))
  (pss_oneD (ps_retD (pe_makeD i_Machine (hr.mono (by omega)) tk (by decide) rfl rfl (pf_cons (pe_slD C_Machine (j := 1) rfl (vF 0 rfl rfl)) (pf_cons (pe_slD C_Machine (j := 2) rfl (vF 0 rfl rfl)) (pf_cons (vF 2 rfl rfl) pf_nil)))))))

/-! ### Machine.__eq__ -/
abbrev st_Machine___eq__ : Stmt := (clsB (top 28)).getD 7 (.Pass ⟨0, 0, 0, 0⟩)
def N_Machine___eq__ : List Str := ["self", "other"]
theorem sc_Machine___eq__ : FnScope N_Machine___eq__ ["self", "other"] (defScope st_Machine___eq__) := ⟨rfl, rfl, rfl, by decide +kernel, rfl, by decide +kernel, by decide +kernel⟩
def m_Machine___eq__  : SX := (sSeq (sIf (eOr (eNot (eIsC "Machine" (eV 1))) (e2 (dOwn "Keyboard" keqR true) (eAttr "Machine" 1 (eV 0)) (eProp "Machine" mkbR (eV 1)))) (sOf (eC (.bl false)) sRet) sNext)
  (sOf (eAnd (e2 dEq (eAttr "Machine" 2 (eV 0)) (eProp "Machine" mwR (eV 1))) (e2 dEq (eAttr "Machine" 0 (eV 0)) (eProp "Machine" mfR (eV 1)))) sRet))
theorem dfn_Machine___eq__ {P : Program} {w : World} {K : PySem.W.Frag} {mg : Str → Option Value} {base : Heap} {fd : FuncData} (mt : Meth K (He.ga K "Machine") "__eq__" (He.ma K (He.ga K "Machine") "__eq__")) (F : FunD K "__eq__" "Machine.__eq__" (defArgs st_Machine___eq__) (defBody st_Machine___eq__) (defScope st_Machine___eq__) [] [] (He.ma K (He.ga K "Machine") "__eq__") fd) (C_Keyboard : ClS K "Keyboard") (g_Keyboard : mg "Keyboard" = some (.ref (He.ga K "Keyboard"))) (m_Keyboard___eq__ : DfM P w K mg base "Keyboard" "__eq__" 3 2 keqR) (ne_Keyboard : PySem.W.findIn K (.ref (He.ga K "Keyboard")) "__ne__" = some (some (.builtin "object.__ne__"))) (C_Machine : ClS K "Machine") (g_Machine : mg "Machine" = some (.ref (He.ga K "Machine"))) (p_Machine_keyboard : DfP P w K mg base "Machine" "keyboard" 1 mkbR) (b_isinstance : mg "isinstance" = none) (p_Machine_faults : DfP P w K mg base "Machine" "faults" 1 mfR) (p_Machine_width : DfP P w K mg base "Machine" "width" 1 mwR) : DfM P w K mg base "Machine" "__eq__" 5 2 meqR := by
  refine DfM.of (ps := ["self", "other"]) ?_ (F.bindsN fun _ _ _ _ _ _ us hl => match us, hl with | [_, _], _ => rfl) mt
  have hN := sc_Machine___eq__.nd
  refine FunD.okD F sc_Machine___eq__ (fun cdv A outer s H E hr tk po => ?_)
  exact (pss_consD (ps_ifD (PW.pt (pw_orD (pt_notD (pt_valD (pe_isCD C_Machine g_Machine rfl (by decide) b_isinstance rfl (vF 1 rfl rfl)) fun _ => rfl)) (pw_or1D (pt_cmpD (opD_ownNe C_Keyboard ne_Keyboard m_Keyboard___eq__ (hr.mono (by omega))) rfl (PE.seen (pe_slD C_Machine (j := 1) rfl (vF 0 rfl rfl))) (PE.seen (pe_propD C_Machine p_Machine_keyboard (hr.mono (by omega)) (vF 1 rfl rfl)))))))
  (pss_oneD (ps_retD pe_blD))
  pss_nilD)
  (pss_oneD (ps_retD (pe_andD (pe_cmpD (opD_eq hr.units) rfl (PE.seen (pe_slD C_Machine (j := 2) rfl (vF 0 rfl rfl))) (PE.seen (pe_propD C_Machine p_Machine_width (hr.mono (by omega)) (vF 1 rfl rfl)))) (pe_oneD (pe_cmpD (opD_eq hr.units) rfl (PE.seen (pe_slD C_Machine (j := 0) rfl (vF 0 rfl rfl))) (PE.seen (pe_propD C_Machine p_Machine_faults (hr.mono (by omega)) (vF 1 rfl rfl)))))))))

/-! ### _law_mix -/
abbrev st_law_mix : Stmt := top 30
def N_law_mix : List Str := ["_law_script", "_law_seed", "_law_state", "_law_cell"]
theorem sc_law_mix : FnScope N_law_mix ["_law_script", "_law_seed"] (defScope st_law_mix) := ⟨rfl, rfl, rfl, by decide +kernel, rfl, by decide +kernel, by decide +kernel⟩
def m_law_mix  : SX := (sSeq (sOf (eV 1) (sAsg (.nm 2))) (sSeq (sFor (iRaw 0) (.nm 3) (sOf (e2 dMod (eN dInt [(e2 dAdd (e2 dAdd (e2 dMulI (eW 2) (eC (.int 48271))) (e2 dMod (eN dInt [(eW 3)]) (eC (.int 2147483629)))) (eC (.int 1)))]) (eC (.int 2147483647))) (sAsg (.nm 2)))) sNext))
def g_law_mix : EX := (eV 2)
theorem ok_law_mix {P : Program} {w : World} {K : PySem.W.Frag} {mg : Str → Option Value} {base : Heap} {fd : FuncData} {f : Addr} {r : List Int → Int → Option Int} (F : FunD K "_law_mix" "_law_mix" (defArgs st_law_mix) (defBody st_law_mix) (defScope st_law_mix) [] [] f fd) (gx : mg "_law_mix" = some (.ref f)) (b_list : mg "list" = none) (b_int : mg "int" = none)
    (hm : ∀ ns seed st, r ns seed = some st → ∃ e, m_law_mix (evMix 4 ns seed) = .nx e ∧ e[0]? = some (.raw ns) ∧ g_law_mix e = .val (.int st) e) :
    DfMix P w K mg base "_law_mix" 1 r := by
  refine ⟨f, fd, ["_law_script", "_law_seed"], ?_, gx, F.kp, F.bindsN fun _ _ _ _ _ _ us hl => match us, hl with | [_, _], _ => rfl⟩
  have hN := sc_law_mix.nd
  refine FunD.okMix F sc_law_mix rfl (by decide) (fun cdv A outer s H E hr po => ?_) hm
  exact (pss_thenS (ps_asgD (vF 1 rfl rfl) (gt 2 hN rfl rfl rfl))
  (pss_thenS (ps_forD po rfl (pi_rawD (i := 0) rfl (nmB_of (x := "_law_script") rfl).1 rfl rfl) (gt 3 hN rfl rfl rfl) (pss_oneD (ps_asgD (pe_opD opD_mod (PE.seen (pe_callTyD crD_int b_int boot_int (by decide) (by decide) rfl (pa_consD (PE.seen (pe_opD opD_add (PE.seen (pe_opD opD_add (PE.seen (pe_opD opD_mulI (vW 2 rfl rfl) (PE.seen pe_intD))) (PE.seen (pe_opD opD_mod (PE.seen (pe_callTyD crD_int b_int boot_int (by decide) (by decide) rfl (pa_consD (vW 3 rfl rfl) pa_nilD))) (PE.seen pe_intD))))) (PE.seen pe_intD))) pa_nilD))) (PE.seen pe_intD)) (gt 2 hN rfl rfl rfl))))
  (pss_last (ps_retSrc (i := 0) b_list rfl rfl (nmB_of (x := "_law_script") rfl).1 rfl rfl (vF 2 rfl rfl)))))

/-! ### _law_next -/
abbrev st_law_next : Stmt := top 31
def N_law_next : List Str := ["_law_h", "_law_limit", "_law_cell"]
theorem sc_law_next : FnScope N_law_next ["_law_h", "_law_limit"] (defScope st_law_next) := ⟨rfl, rfl, rfl, by decide +kernel, rfl, by decide +kernel, by decide +kernel⟩
def m_law_next  : SX := (sSeq (sOf (e2 dIx (eSrcCat 0) (e2 dMod (eN dInt [(eSrcK 0 2)]) (eN dMax2 [(eC (.int 1)), (eSrcLen 0)]))) (sAsg (.nm 2)))
  (sSeq (sIf (e2 dGe (eW 2) (e2 dPow (eC (.int 10)) (eC (.int 18)))) (sSeq (sOf (e2 dFdiv (eW 2) (eW 1)) (sSetCell 0 (e2 dMod (eN dInt [(eSrcK 0 2)]) (eSrcLen 0))))
  (sOf (e2 dMod (eN dInt [(eW 2)]) (eW 1)) sRet)) sNext)
  (sSeq (sOf (e2 dMod (eN dInt [(e2 dAdd (e2 dAdd (e2 dMulI (eSrcK 0 0) (eC (.int 48271))) (e2 dMulI (eW 2) (eC (.int 69621)))) (eC (.int 11)))]) (eC (.int 2147483647))) (sSetSrc 0 0))
  (sSeq (sOf (e2 dAdd (eSrcK 0 2) (eC (.int 1))) (sSetSrc 0 2))
  (sOf (e2 dMod (eN dInt [(e2 dFdiv (eSrcK 0 0) (eC (.int 7)))]) (eW 1)) sRet)))))
theorem ok_law_next {P : Program} {w : World} {K : PySem.W.Frag} {mg : Str → Option Value} {base : Heap} {fd : FuncData} {f : Addr}  {r : Src → List D → Option (D × Src)} (F : FunD K "_law_next" "_law_next" (defArgs st_law_next) (defBody st_law_next) (defScope st_law_next) [] [] f fd) (gx : mg "_law_next" = some (.ref f)) (b_int : mg "int" = none) (b_len : mg "len" = none) (b_max : mg "max" = none)
    (hm : ∀ (p q : Addr) s ds d s', ds.length = 1 → r s ds = some (d, s') → ∃ e, m_law_next  (evS 3 p q s ds) = .ret d e ∧ e[0]? = some (.src p q s'.st s'.cells s'.ix)) :
    DfS P w K mg base "_law_next" 1 1 r := by
  refine ⟨f, fd, ["_law_h", "_law_limit"], ?_, gx, F.kp, F.bindsN fun _ _ _ _ _ _ us hl => match us, hl with | [_, _], _ => rfl⟩
  have hN := sc_law_next.nd
  refine FunD.okS F sc_law_next rfl (by decide) (fun cdv A outer s H E hr tk po => ?_) hm
  exact (pss_consD (ps_asgD (pe_ixD ixD (fun _ _ => rfl) (PE.seen (pe_srcCat (i := 0) rfl (nmB_of (x := "_law_h") rfl).1 rfl rfl (fun _ _ => rfl))) (PE.seen (pe_opD opD_mod (PE.seen (pe_callTyD crD_int b_int boot_int (by decide) (by decide) rfl (pa_consD (PE.seen (sK 0 rfl rfl (fun _ _ => rfl))) pa_nilD))) (PE.seen (pe_callBD (crD_max2 rfl) b_max boot_max (by decide) (by decide) rfl (pa_consD (PE.seen pe_intD) (pa_consD (PE.seen (pe_srcLen (i := 0) b_len rfl rfl (nmB_of (x := "_law_h") rfl).1 rfl rfl (fun _ _ => rfl))) pa_nilD))))))) (gt 2 hN rfl rfl rfl))
  (pss_consD (ps_ifD (pt_cmpD opD_ge rfl (vW 2 rfl rfl) (PE.seen (pe_opD opD_pow (PE.seen pe_intD) (PE.seen pe_intD))))
  (pss_consD (ps_setCell (i := 0) rfl (nmB_of (x := "_law_h") rfl).1 rfl rfl (fun _ _ => rfl) (pe_opD opD_fdiv (vW 2 rfl rfl) (vW 1 rfl rfl)) (pe_opD opD_mod (PE.seen (pe_callTyD crD_int b_int boot_int (by decide) (by decide) rfl (pa_consD (PE.seen (sK 0 rfl rfl (fun _ _ => rfl))) pa_nilD))) (PE.seen (pe_srcLen (i := 0) b_len rfl rfl (nmB_of (x := "_law_h") rfl).1 rfl rfl (fun _ _ => rfl)))))
  (pss_oneD (ps_retD (pe_opD opD_mod (PE.seen (pe_callTyD crD_int b_int boot_int (by decide) (by decide) rfl (pa_consD (vW 2 rfl rfl) pa_nilD))) (vW 1 rfl rfl)))))
  pss_nilD)
  (pss_consD (ps_setSrc (i := 0) rfl (nmB_of (x := "_law_h") rfl).1 rfl rfl (pe_opD opD_mod (PE.seen (pe_callTyD crD_int b_int boot_int (by decide) (by decide) rfl (pa_consD (PE.seen (pe_opD opD_add (PE.seen (pe_opD opD_add (PE.seen (pe_opD opD_mulI (PE.seen (sK 0 rfl rfl (fun _ _ => rfl))) (PE.seen pe_intD))) (PE.seen (pe_opD opD_mulI (vW 2 rfl rfl) (PE.seen pe_intD))))) (PE.seen pe_intD))) pa_nilD))) (PE.seen pe_intD)))
  (pss_consD (ps_setSrc (i := 0) rfl (nmB_of (x := "_law_h") rfl).1 rfl rfl (pe_opD opD_add (PE.seen (sK 0 rfl rfl (fun _ _ => rfl))) (PE.seen pe_intD)))
  (pss_oneD (ps_retD (pe_opD opD_mod (PE.seen (pe_callTyD crD_int b_int boot_int (by decide) (by decide) rfl (pa_consD (PE.seen (pe_opD opD_fdiv (PE.seen (sK 0 rfl rfl (fun _ _ => rfl))) (PE.seen pe_intD))) pa_nilD))) (vW 1 rfl rfl))))))))

/-! ### _law_alike -/
abbrev st_law_alike : Stmt := top 32
def N_law_alike : List Str := ["_law_found", "_law_due", "_law_k"]
theorem sc_law_alike : FnScope N_law_alike ["_law_found", "_law_due"] (defScope st_law_alike) := ⟨rfl, rfl, rfl, by decide +kernel, rfl, by decide +kernel, by decide +kernel⟩
def m_law_alike (rr : List D → Rv) : SX := (sSeq (sIf (eIsi ["dict"] (eW 1)) (sOf (eAnd (eIsi ["dict"] (eW 0)) (eAnd (eCall rr [(eN dSorted [(eW 0)]), (eN dSorted [(eW 1)])]) (e2 dEq (eW 0) (eW 1)))) sRet) sNext)
  (sSeq (sIf (eIsi ["tuple", "list"] (eW 1)) (sSeq (sIf (eOr (eNot (eIsi ["tuple", "list"] (eW 0))) (e2 dNe (eIsi ["list"] (eW 0)) (eIsi ["list"] (eW 1)))) (sOf (eC (.bl false)) sRet) sNext)
  (sSeq (sIf (e2 dNe (eN dLen [(eW 0)]) (eN dLen [(eW 1)])) (sOf (eC (.bl false)) sRet) sNext)
  (sOf (e2 dEq (eLc (List.map (·.2) ([("_law_k", 2)] : List (Str × Nat))) (iR1 (eN dLen [(eW 1)])) (.nm 2) (eNot (eCall rr [(e2 dIx (eW 0) (eW 2)), (e2 dIx (eW 1) (eW 2))])) (eV 2)) (eN mkL [])) sRet))) sNext)
  (sSeq (sIf (eOr (e2 dIsN (eW 1) (eC .non)) (eIsi ["str"] (eW 1))) (sOf (eAnd (e2 dEq (eW 0) (eW 1)) (e2 dEq (eIsi ["str"] (eW 0)) (eIsi ["str"] (eW 1)))) sRet) sNext)
  (sOf (eAnd (eIsi ["int"] (eW 0)) (eAnd (e2 dEq (eIsi ["bool"] (eW 0)) (eIsi ["bool"] (eW 1))) (e2 dEq (eW 0) (eW 1)))) sRet))))
theorem ok_law_alike {P : Program} {w : World} {K : PySem.W.Frag} {mg : Str → Option Value} {base : Heap} {fd : FuncData} {f : Addr} {rr : List D → Rv} {k : Nat} (F : FunD K "_law_alike" "_law_alike" (defArgs st_law_alike) (defBody st_law_alike) (defScope st_law_alike) [] [] f fd) (gx : mg "_law_alike" = some (.ref f)) (d__law_alike : Dfn P w K mg base "_law_alike" k 2 rr) (b_dict : mg "dict" = none) (b_isinstance : mg "isinstance" = none) (b_sorted : mg "sorted" = none) (b_tuple : mg "tuple" = none) (b_list : mg "list" = none) (b_len : mg "len" = none) (b_range : mg "range" = none) (b_str : mg "str" = none) (b_bool : mg "bool" = none) (b_int : mg "int" = none) : Dfn P w K mg base "_law_alike" (k + 1) 2 (runD (m_law_alike rr) 3) := by
  refine ⟨f, fd, ["_law_found", "_law_due"], ?_, gx, F.kp, F.bindsN fun _ _ _ _ _ _ us hl => match us, hl with | [_, _], _ => rfl⟩
  have hN := sc_law_alike.nd
  refine FunD.okD F sc_law_alike (fun cdv A outer s H E hr tk po => ?_)
  exact (pss_consD (ps_ifD (pt_valD (pe_isiD ⟨b_dict, rfl, rfl, by decide, by decide⟩ rfl b_isinstance rfl (vW 1 rfl rfl)) fun _ => rfl)
  (pss_oneD (ps_retD (pe_andD (pe_isiD ⟨b_dict, rfl, rfl, by decide, by decide⟩ rfl b_isinstance rfl (vW 0 rfl rfl)) (pe_andD (pe_callD (Dfn.cal d__law_alike) (hr.mono (by omega)) tk (by decide) rfl rfl (pf_cons (pe_callBD (crD_sorted rfl (Room.u100 hr)) b_sorted PyProof.Rows.boot_sorted (by decide) (by decide) rfl (pa_consD (vW 0 rfl rfl) pa_nilD)) (pf_cons (pe_callBD (crD_sorted rfl (Room.u100 hr)) b_sorted PyProof.Rows.boot_sorted (by decide) (by decide) rfl (pa_consD (vW 1 rfl rfl) pa_nilD)) pf_nil)) rfl) (pe_oneD (pe_cmpD (opD_eq hr.units) rfl (vW 0 rfl rfl) (vW 1 rfl rfl)))))))
  pss_nilD)
  (pss_consD (ps_ifD (pt_valD (pe_isi2D ⟨b_tuple, rfl, rfl, by decide, by decide⟩ ⟨b_list, rfl, rfl, by decide, by decide⟩ rfl rfl b_isinstance rfl (vW 1 rfl rfl)) fun _ => rfl)
  (pss_consD (ps_ifD (PW.pt (pw_orD (pt_notD (pt_valD (pe_isi2D ⟨b_tuple, rfl, rfl, by decide, by decide⟩ ⟨b_list, rfl, rfl, by decide, by decide⟩ rfl rfl b_isinstance rfl (vW 0 rfl rfl)) fun _ => rfl)) (pw_or1D (pt_cmpD (opD_ne hr.units) rfl (PE.seen (pe_isiD ⟨b_list, rfl, rfl, by decide, by decide⟩ rfl b_isinstance rfl (vW 0 rfl rfl))) (PE.seen (pe_isiD ⟨b_list, rfl, rfl, by decide, by decide⟩ rfl b_isinstance rfl (vW 1 rfl rfl)))))))
  (pss_oneD (ps_retD pe_blD))
  pss_nilD)
  (pss_consD (ps_ifD (pt_cmpD (opD_ne hr.units) rfl (PE.seen (pe_callBD crD_len b_len boot_len (by decide) (by decide) rfl (pa_consD (vW 0 rfl rfl) pa_nilD))) (PE.seen (pe_callBD crD_len b_len boot_len (by decide) (by decide) rfl (pa_consD (vW 1 rfl rfl) pa_nilD))))
  (pss_oneD (ps_retD pe_blD))
  pss_nilD)
  (pss_oneD (ps_retD (pe_cmpD (opD_eq hr.units) rfl (PE.seen (PE.ofO (pe_lcO [("_law_k", 2)] rfl hN (pi_range1D b_range rfl (pe_callBD crD_len b_len boot_len (by decide) (by decide) rfl (pa_consD (vW 1 rfl rfl) pa_nilD))) (blkOk_by rfl) (by decide) (fun _ _ _ _ _ => (gt 2 hN rfl rfl rfl)) (fun _ _ _ _ _ => (pts_one (pt_notD (pt_valD (pe_callD (Dfn.cal d__law_alike) (hr.mono (by omega)) TF.takes0 (by decide) rfl rfl (pf_cons (pe_ixD ixD (fun _ _ => rfl) (vW 0 rfl rfl) (vW 2 rfl rfl)) (pf_cons (pe_ixD ixD (fun _ _ => rfl) (vW 1 rfl rfl) (vW 2 rfl rfl)) pf_nil)) rfl) fun _ => rfl)))) (fun _ _ _ _ _ => (vF 2 rfl rfl))))) (PE.seen (pe_lstD pf_nil)))))))
  pss_nilD)
  (pss_consD (ps_ifD (PW.pt (pw_orD (pt_cmpD opD_isN rfl (vW 1 rfl rfl) (PE.seen pe_nonD)) (pw_or1D (pt_valD (pe_isiD ⟨b_str, rfl, rfl, by decide, by decide⟩ rfl b_isinstance rfl (vW 1 rfl rfl)) fun _ => rfl))))
  (pss_oneD (ps_retD (pe_andD (pe_cmpD (opD_eq hr.units) rfl (vW 0 rfl rfl) (vW 1 rfl rfl)) (pe_oneD (pe_cmpD (opD_eq hr.units) rfl (PE.seen (pe_isiD ⟨b_str, rfl, rfl, by decide, by decide⟩ rfl b_isinstance rfl (vW 0 rfl rfl))) (PE.seen (pe_isiD ⟨b_str, rfl, rfl, by decide, by decide⟩ rfl b_isinstance rfl (vW 1 rfl rfl))))))))
  pss_nilD)
  (pss_oneD (ps_retD (pe_andD (pe_isiD ⟨b_int, rfl, rfl, by decide, by decide⟩ rfl b_isinstance rfl (vW 0 rfl rfl)) (pe_andD (pe_cmpD (opD_eq hr.units) rfl (PE.seen (pe_isiD ⟨b_bool, rfl, rfl, by decide, by decide⟩ rfl b_isinstance rfl (vW 0 rfl rfl))) (PE.seen (pe_isiD ⟨b_bool, rfl, rfl, by decide, by decide⟩ rfl b_isinstance rfl (vW 1 rfl rfl)))) (pe_oneD (pe_cmpD (opD_eq hr.units) rfl (vW 0 rfl rfl) (vW 1 rfl rfl))))))))))
theorem dfn_law_alike {P : Program} {w : World} {K : PySem.W.Frag} {mg : Str → Option Value} {base : Heap} {fd : FuncData} {f : Addr} (F : FunD K "_law_alike" "_law_alike" (defArgs st_law_alike) (defBody st_law_alike) (defScope st_law_alike) [] [] f fd) (gx : mg "_law_alike" = some (.ref f)) (b_dict : mg "dict" = none) (b_isinstance : mg "isinstance" = none) (b_sorted : mg "sorted" = none) (b_tuple : mg "tuple" = none) (b_list : mg "list" = none) (b_len : mg "len" = none) (b_range : mg "range" = none) (b_str : mg "str" = none) (b_bool : mg "bool" = none) (b_int : mg "int" = none) : ∀ k, Dfn P w K mg base "_law_alike" k 2 (alkR k)
  | 0 => ⟨f, fd, ["_law_found", "_law_due"], FnOk.absurd spD_stuck, gx, F.kp, F.bindsN fun _ _ _ _ _ _ us hl => match us, hl with | [_, _], _ => rfl⟩
  | k + 1 => ok_law_alike F gx (dfn_law_alike F gx b_dict b_isinstance b_sorted b_tuple b_list b_len b_range b_str b_bool b_int k) b_dict b_isinstance b_sorted b_tuple b_list b_len b_range b_str b_bool b_int

/-! ### _law_keys -/
abbrev st_law_keys : Stmt := top 33
def N_law_keys : List Str := ["_law_h", "_law_most", "_law_left", "_law_found", "_law_k"]
theorem sc_law_keys : FnScope N_law_keys ["_law_h", "_law_most"] (defScope st_law_keys) := ⟨rfl, rfl, rfl, by decide +kernel, rfl, by decide +kernel, by decide +kernel⟩
def m_law_keys (law_next_r : Src → List D → Option (D × Src)) : SX := (sSeq (sPK [(.s, 2, (eN mkL [(eC (.str "aA")), (eC (.str "bB")), (eC (.str "x!")), (eC (.str "?y")), (eC (.str "1.")), (eC (.str "Z-")), (eC (.str "mn")), (eC (.str "0;"))])), (.o, 3, (eN mkL []))])
  (sSeq (sFor (iR1 (e2 dAdd (eC (.int 2)) (eCallS law_next_r 0 [(e2 dSub (eW 1) (eC (.int 1)))]))) (.nm 4) (sApp 3 (ePopS 2 (eCallS law_next_r 0 [(eLenS 2)]))))
  (sOf (eN dTupOf [(eW 3)]) sRet)))
theorem ok_law_keys {P : Program} {w : World} {K : PySem.W.Frag} {mg : Str → Option Value} {base : Heap} {fd : FuncData} {f : Addr} {law_next_r : Src → List D → Option (D × Src)} {r : Src → List D → Option (D × Src)} (F : FunD K "_law_keys" "_law_keys" (defArgs st_law_keys) (defBody st_law_keys) (defScope st_law_keys) [] [] f fd) (gx : mg "_law_keys" = some (.ref f)) (d__law_next : DfS P w K mg base "_law_next" 1 1 law_next_r) (b_range : mg "range" = none) (b_len : mg "len" = none) (b_tuple : mg "tuple" = none)
    (hm : ∀ (p q : Addr) s ds d s', ds.length = 1 → r s ds = some (d, s') → ∃ e, m_law_keys law_next_r (evS 5 p q s ds) = .ret d e ∧ e[0]? = some (.src p q s'.st s'.cells s'.ix)) :
    DfS P w K mg base "_law_keys" 3 1 r := by
  refine ⟨f, fd, ["_law_h", "_law_most"], ?_, gx, F.kp, F.bindsN fun _ _ _ _ _ _ us hl => match us, hl with | [_, _], _ => rfl⟩
  have hN := sc_law_keys.nd
  refine FunD.okS F sc_law_keys rfl (by decide) (fun cdv A outer s H E hr tk po => ?_) hm
  exact (pss_consD (ps_par2K (by decide) (ps_par rfl hN rfl rfl (by decide) rfl rfl (pk_s (pe_lstO (pf_cons pe_strD (pf_cons pe_strD (pf_cons pe_strD (pf_cons pe_strD (pf_cons pe_strD (pf_cons pe_strD (pf_cons pe_strD (pf_cons pe_strD pf_nil))))))))) (pk_o (pe_lstO pf_nil) pk_no)) rfl))
  (pss_consD (ps_forD po rfl (pi_range1D b_range rfl (pe_opD opD_add (PE.seen pe_intD) (PE.seen (pe_callSrc (i := 0) d__law_next (hr.mono (by omega)) tk (by decide) rfl rfl (nmB_of (x := "_law_h") rfl).1 rfl rfl rfl (pf_cons (pe_opD opD_sub (vW 1 rfl rfl) (PE.seen pe_intD)) pf_nil))))) (gt 4 hN rfl rfl rfl) (pss_oneD (ps_appD (i := 3) rfl (nmB_of (x := "_law_found") rfl).1 rfl rfl (pe_popS (i := 2) rfl (nmB_of (x := "_law_left") rfl).1 rfl rfl (pe_callSrc (i := 0) d__law_next (hr.mono (by omega)) tk (by decide) rfl rfl (nmB_of (x := "_law_h") rfl).1 rfl rfl rfl (pf_cons (pe_lenS (i := 2) b_len rfl rfl (nmB_of (x := "_law_left") rfl).1 rfl rfl) pf_nil))))))
  (pss_oneD (ps_retD (pe_callTyD crD_tuple b_tuple boot_tuple (by decide) (by decide) rfl (pa_consD (vW 3 rfl rfl) pa_nilD))))))

/-! ### _law_fault -/
abbrev st_law_fault : Stmt := top 34
def N_law_fault : List Str := ["_law_h", "_law_keys_here", "_law_width", "_law_kind", "_law_key", "_law_other"]
theorem sc_law_fault : FnScope N_law_fault ["_law_h", "_law_keys_here", "_law_width"] (defScope st_law_fault) := ⟨rfl, rfl, rfl, by decide +kernel, rfl, by decide +kernel, by decide +kernel⟩
def m_law_fault (law_next_r : Src → List D → Option (D × Src)) : SX := (sSeq (sPK [(.f, 3, (eCallS law_next_r 0 [(eC (.int 11))])), (.f, 4, (eCallS law_next_r 0 [(eN dLen [(eW 1)])])), (.f, 5, (eCallS law_next_r 0 [(eN dLen [(eW 1)])]))])
  (sSeq (sIf (e2 dLt (eW 3) (eC (.int 4))) (sOf (e2 dIx (eN mkL [(eN mkT [(eC (.str "back"))]), (eN mkT [(eC (.str "space"))]), (eN mkT [(eC (.str "down"))]), (eN mkT [(eC (.str "up"))])]) (eW 3)) sRet) sNext)
  (sSeq (sIf (e2 dEq (eW 3) (eC (.int 4))) (sOf (eN mkT [(eC (.str "feed")), (e2 dIx (eN mkL [(eC (.int 0)), (eC (.int 2))]) (eCallS law_next_r 0 [(eC (.int 2))]))]) sRet) sNext)
  (sSeq (sIf (eAnd (e2 dLt (eW 3) (eC (.int 7))) (e2 dGt (eW 2) (eC (.int 2)))) (sOf (eN mkT [(eC (.str "slip")), (e2 dAdd (eC (.int 1)) (eCallS law_next_r 0 [(e2 dSub (eW 2) (eC (.int 2)))]))]) sRet) sNext)
  (sSeq (sIf (eAnd (e2 dEq (eW 3) (eC (.int 7))) (e2 dNe (eW 4) (eW 5))) (sOf (eN mkT [(eC (.str "swap")), (eN dMin2 [(eW 4), (eW 5)]), (eN dMax2 [(eW 4), (eW 5)])]) sRet) sNext)
  (sOf (eN mkT [(e2 dIx (eN mkL [(eC (.str "dead")), (eC (.str "double")), (eC (.str "stuck"))]) (eCallS law_next_r 0 [(eC (.int 3))])), (eV 4)]) sRet))))))
theorem ok_law_fault {P : Program} {w : World} {K : PySem.W.Frag} {mg : Str → Option Value} {base : Heap} {fd : FuncData} {f : Addr} {law_next_r : Src → List D → Option (D × Src)} {r : Src → List D → Option (D × Src)} (F : FunD K "_law_fault" "_law_fault" (defArgs st_law_fault) (defBody st_law_fault) (defScope st_law_fault) [] [] f fd) (gx : mg "_law_fault" = some (.ref f)) (b_len : mg "len" = none) (d__law_next : DfS P w K mg base "_law_next" 1 1 law_next_r) (b_max : mg "max" = none) (b_min : mg "min" = none)
    (hm : ∀ (p q : Addr) s ds d s', ds.length = 2 → r s ds = some (d, s') → ∃ e, m_law_fault law_next_r (evS 6 p q s ds) = .ret d e ∧ e[0]? = some (.src p q s'.st s'.cells s'.ix)) :
    DfS P w K mg base "_law_fault" 3 2 r := by
  refine ⟨f, fd, ["_law_h", "_law_keys_here", "_law_width"], ?_, gx, F.kp, F.bindsN fun _ _ _ _ _ _ us hl => match us, hl with | [_, _, _], _ => rfl⟩
  have hN := sc_law_fault.nd
  refine FunD.okS F sc_law_fault rfl (by decide) (fun cdv A outer s H E hr tk po => ?_) hm
  exact (pss_consD (ps_par3K (by decide) (by decide) (by decide) (ps_par3 rfl hN rfl rfl rfl (by decide) (by decide) (by decide) rfl rfl rfl (pk_f (pe_callSrc (i := 0) d__law_next (hr.mono (by omega)) tk (by decide) rfl rfl (nmB_of (x := "_law_h") rfl).1 rfl rfl rfl (pf_cons pe_intD pf_nil)) (pk_f (pe_callSrc (i := 0) d__law_next (hr.mono (by omega)) tk (by decide) rfl rfl (nmB_of (x := "_law_h") rfl).1 rfl rfl rfl (pf_cons (pe_callBD crD_len b_len boot_len (by decide) (by decide) rfl (pa_consD (vW 1 rfl rfl) pa_nilD)) pf_nil)) (pk_f (pe_callSrc (i := 0) d__law_next (hr.mono (by omega)) tk (by decide) rfl rfl (nmB_of (x := "_law_h") rfl).1 rfl rfl rfl (pf_cons (pe_callBD crD_len b_len boot_len (by decide) (by decide) rfl (pa_consD (vW 1 rfl rfl) pa_nilD)) pf_nil)) pk_no))) rfl))
  (pss_consD (ps_ifD (pt_cmpD opD_lt rfl (vW 3 rfl rfl) (PE.seen pe_intD))
  (pss_oneD (ps_retD (pe_ixD ixD (fun _ _ => rfl) (PE.seen (pe_lstD (pf_cons (pe_tupD (pf_cons pe_strD pf_nil)) (pf_cons (pe_tupD (pf_cons pe_strD pf_nil)) (pf_cons (pe_tupD (pf_cons pe_strD pf_nil)) (pf_cons (pe_tupD (pf_cons pe_strD pf_nil)) pf_nil)))))) (vW 3 rfl rfl))))
  pss_nilD)
  (pss_consD (ps_ifD (pt_cmpD (opD_eq hr.units) rfl (vW 3 rfl rfl) (PE.seen pe_intD))
  (pss_oneD (ps_retD (pe_tupD (pf_cons pe_strD (pf_cons (pe_ixD ixD (fun _ _ => rfl) (PE.seen (pe_lstD (pf_cons pe_intD (pf_cons pe_intD pf_nil)))) (PE.seen (pe_callSrc (i := 0) d__law_next (hr.mono (by omega)) tk (by decide) rfl rfl (nmB_of (x := "_law_h") rfl).1 rfl rfl rfl (pf_cons pe_intD pf_nil)))) pf_nil)))))
  pss_nilD)
  (pss_consD (ps_ifD (PW.pt (pw_andD (pt_cmpD opD_lt rfl (vW 3 rfl rfl) (PE.seen pe_intD)) (pw_and1D (pt_cmpD opD_gt rfl (vW 2 rfl rfl) (PE.seen pe_intD)))))
  (pss_oneD (ps_retD (pe_tupD (pf_cons pe_strD (pf_cons (pe_opD opD_add (PE.seen pe_intD) (PE.seen (pe_callSrc (i := 0) d__law_next (hr.mono (by omega)) tk (by decide) rfl rfl (nmB_of (x := "_law_h") rfl).1 rfl rfl rfl (pf_cons (pe_opD opD_sub (vW 2 rfl rfl) (PE.seen pe_intD)) pf_nil)))) pf_nil)))))
  pss_nilD)
  (pss_consD (ps_ifD (PW.pt (pw_andD (pt_cmpD (opD_eq hr.units) rfl (vW 3 rfl rfl) (PE.seen pe_intD)) (pw_and1D (pt_cmpD (opD_ne hr.units) rfl (vW 4 rfl rfl) (vW 5 rfl rfl)))))
  (pss_oneD (ps_retD (pe_tupD (pf_cons pe_strD (pf_cons (pe_callBD (crD_min2 rfl) b_min boot_min (by decide) (by decide) rfl (pa_consD (vW 4 rfl rfl) (pa_consD (vW 5 rfl rfl) pa_nilD))) (pf_cons (pe_callBD (crD_max2 rfl) b_max boot_max (by decide) (by decide) rfl (pa_consD (vW 4 rfl rfl) (pa_consD (vW 5 rfl rfl) pa_nilD))) pf_nil))))))
  pss_nilD)
  (pss_oneD (ps_retD (pe_tupD (pf_cons (pe_ixD ixD (fun _ _ => rfl) (PE.seen (pe_lstD (pf_cons pe_strD (pf_cons pe_strD (pf_cons pe_strD pf_nil))))) (PE.seen (pe_callSrc (i := 0) d__law_next (hr.mono (by omega)) tk (by decide) rfl rfl (nmB_of (x := "_law_h") rfl).1 rfl rfl rfl (pf_cons pe_intD pf_nil)))) (pf_cons (vF 4 rfl rfl) pf_nil))))))))))

/-! ### _law_clash -/
abbrev st_law_clash : Stmt := top 35
def N_law_clash : List Str := ["_law_one", "_law_other", "_law_words", "_law_key", "_law_lock"]
theorem sc_law_clash : FnScope N_law_clash ["_law_one", "_law_other"] (defScope st_law_clash) := ⟨rfl, rfl, rfl, by decide +kernel, rfl, by decide +kernel, by decide +kernel⟩
def m_law_clash  : SX := (sSeq (sOf (eN mkT [(eC (.str "dead")), (eC (.str "double")), (eC (.str "stuck")), (eC (.str "swap"))]) (sAsg (.nm 2)))
  (sSeq (sIf (eAnd (e2 dIn (e2 dIx (eW 0) (eC (.int 0))) (eW 2)) (e2 dIn (e2 dIx (eW 1) (eC (.int 0))) (eW 2))) (sOf (e2 dNe (eLc (List.map (·.2) ([("_law_key", 3)] : List (Str × Nat))) (iOf (eSl (eW 0) (some (eC (.int 1))) none)) (.nm 3) (e2 dIn (eW 3) (eSl (eW 1) (some (eC (.int 1))) none)) (eV 3)) (eN mkL [])) sRet) sNext)
  (sSeq (sOf (eAnd (e2 dIn (e2 dIx (eW 0) (eC (.int 0))) (eN mkT [(eC (.str "down")), (eC (.str "up"))])) (e2 dIn (e2 dIx (eW 1) (eC (.int 0))) (eN mkT [(eC (.str "down")), (eC (.str "up"))]))) (sAsg (.nm 4)))
  (sOf (eOr (e2 dEq (eW 0) (eW 1)) (eOr (eV 4) (eAnd (e2 dEq (e2 dIx (eW 0) (eC (.int 0))) (eC (.str "feed"))) (e2 dEq (e2 dIx (eW 1) (eC (.int 0))) (eC (.str "feed")))))) sRet))))
theorem dfn_law_clash {P : Program} {w : World} {K : PySem.W.Frag} {mg : Str → Option Value} {base : Heap} {fd : FuncData} {f : Addr} (F : FunD K "_law_clash" "_law_clash" (defArgs st_law_clash) (defBody st_law_clash) (defScope st_law_clash) [] [] f fd) (gx : mg "_law_clash" = some (.ref f))  : Dfn P w K mg base "_law_clash" 1 2 lclashR := by
  refine ⟨f, fd, ["_law_one", "_law_other"], ?_, gx, F.kp, F.bindsN fun _ _ _ _ _ _ us hl => match us, hl with | [_, _], _ => rfl⟩
  have hN := sc_law_clash.nd
  refine FunD.okD F sc_law_clash (fun cdv A outer s H E hr tk po => ?_)
  exact (pss_consD (ps_asgD (pe_tupD (pf_cons pe_strD (pf_cons pe_strD (pf_cons pe_strD (pf_cons pe_strD pf_nil))))) (gt 2 hN rfl rfl rfl))
  (pss_consD (ps_ifD (PW.pt (pw_andD (pt_cmpD (opD_in (Room.u65 hr)) rfl (PE.seen (pe_ixD ixD (fun _ _ => rfl) (vW 0 rfl rfl) (PE.seen pe_intD))) (vW 2 rfl rfl)) (pw_and1D (pt_cmpD (opD_in (Room.u65 hr)) rfl (PE.seen (pe_ixD ixD (fun _ _ => rfl) (vW 1 rfl rfl) (PE.seen pe_intD))) (vW 2 rfl rfl)))))
  (pss_oneD (ps_retD (pe_cmpD (opD_ne hr.units) rfl (PE.seen (PE.ofO (pe_lcO [("_law_key", 3)] rfl hN (pi_anyD (pe_slcD (vW 0 rfl rfl) (POk.at pe_intD) POk.no)) (blkOk_by rfl) (by decide) (fun _ _ _ _ _ => (gt 3 hN rfl rfl rfl)) (fun _ _ _ _ _ => (pts_one (pt_cmpD (opD_in (Room.u65 hr)) rfl (vW 3 rfl rfl) (PE.seen (pe_slcD (vW 1 rfl rfl) (POk.at pe_intD) POk.no))))) (fun _ _ _ _ _ => (vF 3 rfl rfl))))) (PE.seen (pe_lstD pf_nil)))))
  pss_nilD)
  (pss_consD (ps_asgD (pe_andD (pe_cmpD (opD_in (Room.u65 hr)) rfl (PE.seen (pe_ixD ixD (fun _ _ => rfl) (vW 0 rfl rfl) (PE.seen pe_intD))) (PE.seen (pe_tupD (pf_cons pe_strD (pf_cons pe_strD pf_nil))))) (pe_oneD (pe_cmpD (opD_in (Room.u65 hr)) rfl (PE.seen (pe_ixD ixD (fun _ _ => rfl) (vW 1 rfl rfl) (PE.seen pe_intD))) (PE.seen (pe_tupD (pf_cons pe_strD (pf_cons pe_strD pf_nil))))))) (gt 4 hN rfl rfl rfl))
  (pss_oneD (ps_retD (pe_orD (pe_cmpD (opD_eq hr.units) rfl (vW 0 rfl rfl) (vW 1 rfl rfl)) (pe_orD (vF 4 rfl rfl) (pe_oneD (pe_andD (pe_cmpD (opD_eq hr.units) rfl (PE.seen (pe_ixD ixD (fun _ _ => rfl) (vW 0 rfl rfl) (PE.seen pe_intD))) (PE.seen pe_strD)) (pe_oneD (pe_cmpD (opD_eq hr.units) rfl (PE.seen (pe_ixD ixD (fun _ _ => rfl) (vW 1 rfl rfl) (PE.seen pe_intD))) (PE.seen pe_strD))))))))))))

/-! ### _law_faults -/
abbrev st_law_faults : Stmt := top 36
def N_law_faults : List Str := ["_law_h", "_law_keys_here", "_law_width", "_law_most", "_law_found", "_law_k", "_law_fault_here", "_law_other"]
theorem sc_law_faults : FnScope N_law_faults ["_law_h", "_law_keys_here", "_law_width", "_law_most"] (defScope st_law_faults) := ⟨rfl, rfl, rfl, by decide +kernel, rfl, by decide +kernel, by decide +kernel⟩
def m_law_faults (law_next_r : Src → List D → Option (D × Src)) (law_fault_r : Src → List D → Option (D × Src)) : SX := (sSeq (sOf (eN mkL []) (sOwn 4))
  (sSeq (sFor (iR1 (eCallS law_next_r 0 [(e2 dAdd (eW 3) (eC (.int 1)))])) (.nm 5) (sSeq (sOf (eCallS law_fault_r 0 [(eV 1), (eV 2)]) (sAsg (.nm 6)))
  (sIf (e2 dEq (eLc (List.map (·.2) ([("_law_other", 7)] : List (Str × Nat))) (iOwn 4) (.nm 7) (eCall lclashR [(eV 6), (eV 7)]) (eV 7)) (eN mkL [])) (sApp 4 (eV 6)) sNext)))
  (sOf (eN dTupOf [(eW 4)]) sRet)))
theorem ok_law_faults {P : Program} {w : World} {K : PySem.W.Frag} {mg : Str → Option Value} {base : Heap} {fd : FuncData} {f : Addr} {law_next_r : Src → List D → Option (D × Src)} {law_fault_r : Src → List D → Option (D × Src)} {r : Src → List D → Option (D × Src)} (F : FunD K "_law_faults" "_law_faults" (defArgs st_law_faults) (defBody st_law_faults) (defScope st_law_faults) [] [] f fd) (gx : mg "_law_faults" = some (.ref f)) (d__law_next : DfS P w K mg base "_law_next" 1 1 law_next_r) (b_range : mg "range" = none) (d__law_fault : DfS P w K mg base "_law_fault" 3 2 law_fault_r) (d__law_clash : Dfn P w K mg base "_law_clash" 1 2 lclashR) (b_tuple : mg "tuple" = none)
    (hm : ∀ (p q : Addr) s ds d s', ds.length = 3 → r s ds = some (d, s') → ∃ e, m_law_faults law_next_r law_fault_r (evS 8 p q s ds) = .ret d e ∧ e[0]? = some (.src p q s'.st s'.cells s'.ix)) :
    DfS P w K mg base "_law_faults" 5 3 r := by
  refine ⟨f, fd, ["_law_h", "_law_keys_here", "_law_width", "_law_most"], ?_, gx, F.kp, F.bindsN fun _ _ _ _ _ _ us hl => match us, hl with | [_, _, _, _], _ => rfl⟩
  have hN := sc_law_faults.nd
  refine FunD.okS F sc_law_faults rfl (by decide) (fun cdv A outer s H E hr tk po => ?_) hm
  exact (pss_consD (ps_ownD (i := 4) hN rfl (locB_of rfl) (.inl rfl) (pe_lstO pf_nil))
  (pss_consD (ps_forD po rfl (pi_range1D b_range rfl (pe_callSrc (i := 0) d__law_next (hr.mono (by omega)) tk (by decide) rfl rfl (nmB_of (x := "_law_h") rfl).1 rfl rfl rfl (pf_cons (pe_opD opD_add (vW 3 rfl rfl) (PE.seen pe_intD)) pf_nil))) (gt 5 hN rfl rfl rfl) (pss_consD (ps_asgD (pe_callSrc (i := 0) d__law_fault (hr.mono (by omega)) tk (by decide) rfl rfl (nmB_of (x := "_law_h") rfl).1 rfl rfl rfl (pf_cons (vF 1 rfl rfl) (pf_cons (vF 2 rfl rfl) pf_nil))) (gt 6 hN rfl rfl rfl))
  (pss_oneD (ps_ifD (pt_cmpD (opD_eq hr.units) rfl (PE.seen (PE.ofO (pe_lcE [("_law_other", 7)] rfl hN (pi_ownE (i := 4) rfl (nmB_of (x := "_law_found") rfl).1 rfl rfl) (blkOk_by rfl) (by decide) (fun _ _ _ _ _ => (gt 7 hN rfl rfl rfl)) (fun _ _ _ _ _ => (pts_one (pt_valD (pe_callD (Dfn.cal d__law_clash) (hr.mono (by omega)) TF.takes0 (by decide) rfl rfl (pf_cons (vF 6 rfl rfl) (pf_cons (vF 7 rfl rfl) pf_nil)) rfl) fun _ => rfl))) (fun _ _ _ _ _ => (vF 7 rfl rfl))))) (PE.seen (pe_lstD pf_nil)))
  (pss_oneD (ps_appD (i := 4) rfl (nmB_of (x := "_law_found") rfl).1 rfl rfl (vF 6 rfl rfl)))
  pss_nilD))))
  (pss_oneD (ps_retD (pe_callTyD crD_tuple b_tuple boot_tuple (by decide) (by decide) rfl (pa_consD (vW 4 rfl rfl) pa_nilD))))))

/-! ### _law_drawn -/
abbrev st_law_drawn : Stmt := top 37
def N_law_drawn : List Str := ["_law_h", "_law_most", "_law_keys_here", "_law_width"]
theorem sc_law_drawn : FnScope N_law_drawn ["_law_h", "_law_most"] (defScope st_law_drawn) := ⟨rfl, rfl, rfl, by decide +kernel, rfl, by decide +kernel, by decide +kernel⟩
def m_law_drawn (law_next_r : Src → List D → Option (D × Src)) (law_keys_r : Src → List D → Option (D × Src)) (law_faults_r : Src → List D → Option (D × Src)) : SX := (sSeq (sPK [(.f, 2, (eCallS law_keys_r 0 [(eC (.int 4))])), (.f, 3, (e2 dAdd (eC (.int 2)) (eCallS law_next_r 0 [(eC (.int 6))])))])
  (sOf (eN mkT [(eV 2), (eV 3), (eCallS law_faults_r 0 [(eV 2), (eV 3), (eV 1)])]) sRet))
theorem ok_law_drawn {P : Program} {w : World} {K : PySem.W.Frag} {mg : Str → Option Value} {base : Heap} {fd : FuncData} {f : Addr} {law_next_r : Src → List D → Option (D × Src)} {law_keys_r : Src → List D → Option (D × Src)} {law_faults_r : Src → List D → Option (D × Src)} {r : Src → List D → Option (D × Src)} (F : FunD K "_law_drawn" "_law_drawn" (defArgs st_law_drawn) (defBody st_law_drawn) (defScope st_law_drawn) [] [] f fd) (gx : mg "_law_drawn" = some (.ref f)) (d__law_next : DfS P w K mg base "_law_next" 1 1 law_next_r) (d__law_keys : DfS P w K mg base "_law_keys" 3 1 law_keys_r) (d__law_faults : DfS P w K mg base "_law_faults" 5 3 law_faults_r)
    (hm : ∀ (p q : Addr) s ds d s', ds.length = 1 → r s ds = some (d, s') → ∃ e, m_law_drawn law_next_r law_keys_r law_faults_r (evS 4 p q s ds) = .ret d e ∧ e[0]? = some (.src p q s'.st s'.cells s'.ix)) :
    DfS P w K mg base "_law_drawn" 7 1 r := by
  refine ⟨f, fd, ["_law_h", "_law_most"], ?_, gx, F.kp, F.bindsN fun _ _ _ _ _ _ us hl => match us, hl with | [_, _], _ => rfl⟩
  have hN := sc_law_drawn.nd
  refine FunD.okS F sc_law_drawn rfl (by decide) (fun cdv A outer s H E hr tk po => ?_) hm
  exact (pss_consD (ps_par2K (by decide) (ps_par rfl hN rfl rfl (by decide) rfl rfl (pk_f (pe_callSrc (i := 0) d__law_keys (hr.mono (by omega)) tk (by decide) rfl rfl (nmB_of (x := "_law_h") rfl).1 rfl rfl rfl (pf_cons pe_intD pf_nil)) (pk_f (pe_opD opD_add (PE.seen pe_intD) (PE.seen (pe_callSrc (i := 0) d__law_next (hr.mono (by omega)) tk (by decide) rfl rfl (nmB_of (x := "_law_h") rfl).1 rfl rfl rfl (pf_cons pe_intD pf_nil)))) pk_no)) rfl))
  (pss_oneD (ps_retD (pe_tupD (pf_cons (vF 2 rfl rfl) (pf_cons (vF 3 rfl rfl) (pf_cons (pe_callSrc (i := 0) d__law_faults (hr.mono (by omega)) tk (by decide) rfl rfl (nmB_of (x := "_law_h") rfl).1 rfl rfl rfl (pf_cons (vF 2 rfl rfl) (pf_cons (vF 3 rfl rfl) (pf_cons (vF 1 rfl rfl) pf_nil)))) pf_nil)))))))

/-! ### _law_machine -/
abbrev st_law_machine : Stmt := top 38
def N_law_machine : List Str := ["_law_drawn_here"]
theorem sc_law_machine : FnScope N_law_machine ["_law_drawn_here"] (defScope st_law_machine) := ⟨rfl, rfl, rfl, by decide +kernel, rfl, by decide +kernel, by decide +kernel⟩
def m_law_machine  : SX := (sOf (eMake "Machine" mc_r [(eMake "Keyboard" kb_r [(e2 dIx (eW 0) (eC (.int 0)))]), (e2 dIx (eW 0) (eC (.int 1))), (e2 dIx (eW 0) (eC (.int 2)))]) sRet)
theorem dfn_law_machine {P : Program} {w : World} {K : PySem.W.Frag} {mg : Str → Option Value} {base : Heap} {fd : FuncData} {f : Addr} (F : FunD K "_law_machine" "_law_machine" (defArgs st_law_machine) (defBody st_law_machine) (defScope st_law_machine) [] [] f fd) (gx : mg "_law_machine" = some (.ref f)) (i_Keyboard : DfI P w K mg base "Keyboard" 2 1 kb_r) (i_Machine : DfI P w K mg base "Machine" 5 3 mc_r) : Dfn P w K mg base "_law_machine" 7 1 lmcR := by
  refine ⟨f, fd, ["_law_drawn_here"], ?_, gx, F.kp, F.bindsN fun _ _ _ _ _ _ us hl => match us, hl with | [_], _ => rfl⟩
  have hN := sc_law_machine.nd
  refine FunD.okD F sc_law_machine (fun cdv A outer s H E hr tk po => ?_)
  exact (pss_oneD (ps_retD (pe_makeD i_Machine (hr.mono (by omega)) tk (by decide) rfl rfl (pf_cons (pe_makeD i_Keyboard (hr.mono (by omega)) tk (by decide) rfl rfl (pf_cons (pe_ixD ixD (fun _ _ => rfl) (vW 0 rfl rfl) (PE.seen pe_intD)) pf_nil)) (pf_cons (pe_ixD ixD (fun _ _ => rfl) (vW 0 rfl rfl) (PE.seen pe_intD)) (pf_cons (pe_ixD ixD (fun _ _ => rfl) (vW 0 rfl rfl) (PE.seen pe_intD)) pf_nil))))))

/-! ### law -/
abbrev st_law : Stmt := top 39
def N_law : List Str := ["_law_script", "_law_h", "_law_turn", "_law_drawn_here", "_law_machine_here", "_law_faults_here", "_law_again", "_law_some", "_law_fault_here", "_law_left", "_law_fixed", "_law_plain", "_law_more", "_law_wide", "_law_other"]
theorem sc_law : FnScope N_law ["_law_script"] (defScope st_law) := ⟨rfl, rfl, rfl, by decide +kernel, rfl, by decide +kernel, by decide +kernel⟩
def m_law (law_drawn_r : Src → List D → Option (D × Src)) (law_next_r : Src → List D → Option (D × Src)) (law_fault_r : Src → List D → Option (D × Src)) : SX := (sSeq (sFor (iR1 (eC (.int 4))) (.nm 2) (sSeq (sOf (eCallS law_drawn_r 1 [(eC (.int 5))]) (sAsg (.nm 3)))
  (sSeq (sPK [(.f, 4, (eCall lmcR [(eV 3)])), (.f, 5, (e2 dIx (eW 3) (eC (.int 2))))])
  (sSeq (sIf (eNot (eCall (alkR 5) [(eN mkL [(eProp "Machine" mwR (eV 4)), (eProp "Machine" mfR (eV 4))]), (eN mkL [(e2 dIx (eW 3) (eC (.int 1))), (eN dTupOf [(eN dSorted [(eW 5)])])])])) (sOf (eC (.bl false)) sRet) sNext)
  (sSeq (sOf (eMake "Machine" mc_r [(eMake "Keyboard" kb_r [(e2 dIx (eW 3) (eC (.int 0)))]), (e2 dIx (eW 3) (eC (.int 1))), (eN dListOf [(eRev (eW 5))])]) (sAsg (.nm 6)))
  (sSeq (sIf (eOr (e2 dNe (eProp "Keyboard" ksR (eProp "Machine" mkbR (eV 4))) (e2 dIx (eW 3) (eC (.int 0)))) (e2 (dOwn "Machine" meqR true) (eW 4) (eW 6))) (sOf (eC (.bl false)) sRet) sNext)
  (sSeq (sOf (e2 dAdd (eLc (List.map (·.2) ([("_law_fault_here", 8)] : List (Str × Nat))) (iOf (eV 5)) (.nm 8) (e2 dEq (eCallS law_next_r 1 [(eC (.int 2))]) (eC (.int 0))) (eV 8)) (eN mkL [(eCallS law_fault_r 1 [(e2 dIx (eW 3) (eC (.int 0))), (e2 dIx (eW 3) (eC (.int 1)))])])) (sAsg (.nm 7)))
  (sSeq (sOf (eN dTupOf [(eN dSorted [(eLc (List.map (·.2) ([("_law_fault_here", 8)] : List (Str × Nat))) (iOf (eV 5)) (.nm 8) (e2 dNotIn (eW 8) (eW 7)) (eV 8))])]) (sAsg (.nm 9)))
  (sSeq (sOf (eMeth "Machine" mrepR (eV 4) [(eV 7)]) (sAsg (.nm 10)))
  (sSeq (sIf (eOr (eNot (eCall (alkR 5) [(eProp "Machine" mfR (eV 10)), (eV 9)])) (e2 dNe (e2 (dOwn "Machine" meqR false) (eW 10) (eW 4)) (e2 dEq (eN dLen [(eW 9)]) (eN dLen [(eW 5)])))) (sOf (eC (.bl false)) sRet) sNext)
  (sSeq (sOf (eMake "Machine" mc_r [(eMake "Keyboard" kb_r [(e2 dIx (eW 3) (eC (.int 0)))]), (e2 dIx (eW 3) (eC (.int 1))), (eN mkT [])]) (sAsg (.nm 11)))
  (sSeq (sIf (eOr (e2 dNe (eProp "Machine" mfR (eV 4)) (eN dTupOf [(eN dSorted [(eW 5)])])) (e2 (dOwn "Machine" meqR true) (eMeth "Machine" mrepR (eV 4) [(eV 5)]) (eW 11))) (sOf (eC (.bl false)) sRet) sNext)
  (sSeq (sOf (eLc (List.map (·.2) ([("_law_fault_here", 8)] : List (Str × Nat))) (iOf (eV 5)) (.nm 8) (e2 dNotIn (eW 8) (eW 9)) (eV 8)) (sAsg (.nm 12)))
  (sSeq (sOf (eV 10) (sAsg (.nm 6)))
  (sSeq (sFor (iOf (eRev (eW 12))) (.nm 8) (sOf (eMeth "Machine" mwithR (eV 6) [(eV 8)]) (sAsg (.nm 6))))
  (sSeq (sIf (eOr (e2 (dOwn "Machine" meqR true) (eW 6) (eW 4)) (eNot (eCall (alkR 5) [(eProp "Machine" mfR (eV 6)), (eProp "Machine" mfR (eV 4))]))) (sOf (eC (.bl false)) sRet) sNext)
  (sSeq (sOf (eMake "Machine" mc_r [(eMake "Keyboard" kb_r [(e2 dIx (eW 3) (eC (.int 0)))]), (e2 dAdd (e2 dIx (eW 3) (eC (.int 1))) (eC (.int 1))), (eV 5)]) (sAsg (.nm 13)))
  (sSeq (sOf (eMake "Machine" mc_r [(eMake "Keyboard" kb_r [(eRev (e2 dIx (eW 3) (eC (.int 0))))]), (e2 dIx (eW 3) (eC (.int 1))), (eV 5)]) (sAsg (.nm 14)))
  (sIf (eOr (e2 (dOwn "Machine" meqR false) (eW 13) (eW 4)) (e2 (dOwn "Machine" meqR false) (eW 14) (eW 4))) (sOf (eC (.bl false)) sRet) sNext)))))))))))))))))))
  (sOf (eC (.bl true)) sRet))
theorem ok_law {P : Program} {w : World} {K : PySem.W.Frag} {mg : Str → Option Value} {base : Heap} {fd : FuncData} {f : Addr} {law_drawn_r : Src → List D → Option (D × Src)} {law_next_r : Src → List D → Option (D × Src)} {law_fault_r : Src → List D → Option (D × Src)} {mix_r : List Int → Int → Option Int} (F : FunD K "law" "law" (defArgs st_law) (defBody st_law) (defScope st_law) [] [] f fd) (d_mix : DfMix P w K mg base "_law_mix" 1 mix_r) (b_range : mg "range" = none) (d__law_drawn : DfS P w K mg base "_law_drawn" 7 1 law_drawn_r) (d__law_machine : Dfn P w K mg base "_law_machine" 7 1 lmcR) (b_sorted : mg "sorted" = none) (b_tuple : mg "tuple" = none) (C_Machine : ClS K "Machine") (g_Machine : mg "Machine" = some (.ref (He.ga K "Machine"))) (p_Machine_faults : DfP P w K mg base "Machine" "faults" 1 mfR) (p_Machine_width : DfP P w K mg base "Machine" "width" 1 mwR) (d__law_alike : Dfn P w K mg base "_law_alike" 5 2 (alkR 5)) (b_list : mg "list" = none) (i_Keyboard : DfI P w K mg base "Keyboard" 2 1 kb_r) (i_Machine : DfI P w K mg base "Machine" 5 3 mc_r) (m_Machine___eq__ : DfM P w K mg base "Machine" "__eq__" 5 2 meqR) (ne_Machine : PySem.W.findIn K (.ref (He.ga K "Machine")) "__ne__" = some (some (.builtin "object.__ne__"))) (p_Machine_keyboard : DfP P w K mg base "Machine" "keyboard" 1 mkbR) (C_Keyboard : ClS K "Keyboard") (g_Keyboard : mg "Keyboard" = some (.ref (He.ga K "Keyboard"))) (p_Keyboard_key_signs : DfP P w K mg base "Keyboard" "key_signs" 1 ksR) (d__law_next : DfS P w K mg base "_law_next" 1 1 law_next_r) (d__law_fault : DfS P w K mg base "_law_fault" 3 2 law_fault_r) (m_Machine_repaired : DfM P w K mg base "Machine" "repaired" 7 2 mrepR) (b_len : mg "len" = none) (m_Machine_with_fault : DfM P w K mg base "Machine" "with_fault" 7 2 mwithR) {nn : Nat}
    (hm : ∀ ns : List Int, ns.length ≤ nn → ∃ s0, mix_r ns 4 = some s0 ∧ ∀ p q, ∃ e, m_law law_drawn_r law_next_r law_fault_r ((evLaw 15 ns).set 1 (.src p q s0 ns 0)) = .ret (.bl true) e) :
    FnOk P w K mg base (L2.CX P w) 9 f fd ["_law_script"] (spLaw K nn) := by
  have hN := sc_law.nd
  refine FunD.okLaw F sc_law rfl (by decide) (by decide) (by decide) (fun cdv A outer s H E hr tk po => ?_) hm
  exact (ps_law (fn := "_law_mix") (x := "_law_script") (y := "_law_h") (i := 0) (j := 1) (seed := 4) d_mix (hr.mono (by omega)) hN rfl rfl (nmB_of (x := "_law_script") rfl).1 rfl rfl (locB_of rfl) (.inl rfl) (by decide) rfl
  (pss_consD (ps_forD po rfl (pi_range1D b_range rfl pe_intD) (gt 2 hN rfl rfl rfl) (pss_consD (ps_asgD (pe_callSrc (i := 1) d__law_drawn (hr.mono (by omega)) tk (by decide) rfl rfl (nmB_of (x := "_law_h") rfl).1 rfl rfl rfl (pf_cons pe_intD pf_nil)) (gt 3 hN rfl rfl rfl))
  (pss_consD (ps_par2K (by decide) (ps_par rfl hN rfl rfl (by decide) rfl rfl (pk_f (pe_callD (Dfn.cal d__law_machine) (hr.mono (by omega)) tk (by decide) rfl rfl (pf_cons (vF 3 rfl rfl) pf_nil) rfl) (pk_f (pe_ixD ixD (fun _ _ => rfl) (vW 3 rfl rfl) (PE.seen pe_intD)) pk_no)) rfl))
  (pss_consD (ps_ifD (pt_notD (pt_valD (pe_callD (Dfn.cal d__law_alike) (hr.mono (by omega)) tk (by decide) rfl rfl (pf_cons (pe_lstD (pf_cons (pe_propD C_Machine p_Machine_width (hr.mono (by omega)) (vF 4 rfl rfl)) (pf_cons (pe_propD C_Machine p_Machine_faults (hr.mono (by omega)) (vF 4 rfl rfl)) pf_nil))) (pf_cons (pe_lstD (pf_cons (pe_ixD ixD (fun _ _ => rfl) (vW 3 rfl rfl) (PE.seen pe_intD)) (pf_cons (pe_callTyD crD_tuple b_tuple boot_tuple (by decide) (by decide) rfl (pa_consD (PE.seen (pe_callBD (crD_sorted rfl (Room.u100 hr)) b_sorted PyProof.Rows.boot_sorted (by decide) (by decide) rfl (pa_consD (vW 5 rfl rfl) pa_nilD))) pa_nilD)) pf_nil))) pf_nil)) rfl) fun _ => rfl))
  (pss_oneD (ps_retD pe_blD))
  pss_nilD)
  (pss_consD (ps_asgD (pe_makeD i_Machine (hr.mono (by omega)) tk (by decide) rfl rfl (pf_cons (pe_makeD i_Keyboard (hr.mono (by omega)) tk (by decide) rfl rfl (pf_cons (pe_ixD ixD (fun _ _ => rfl) (vW 3 rfl rfl) (PE.seen pe_intD)) pf_nil)) (pf_cons (pe_ixD ixD (fun _ _ => rfl) (vW 3 rfl rfl) (PE.seen pe_intD)) (pf_cons (pe_callTyD crD_list b_list boot_list (by decide) (by decide) rfl (pa_consD (PE.seen (pe_revD (vW 5 rfl rfl))) pa_nilD)) pf_nil)))) (gt 6 hN rfl rfl rfl))
  (pss_consD (ps_ifD (PW.pt (pw_orD (pt_cmpD (opD_ne hr.units) rfl (PE.seen (pe_propD C_Keyboard p_Keyboard_key_signs (hr.mono (by omega)) (pe_propD C_Machine p_Machine_keyboard (hr.mono (by omega)) (vF 4 rfl rfl)))) (PE.seen (pe_ixD ixD (fun _ _ => rfl) (vW 3 rfl rfl) (PE.seen pe_intD)))) (pw_or1D (pt_cmpD (opD_ownNe C_Machine ne_Machine m_Machine___eq__ (hr.mono (by omega))) rfl (vW 4 rfl rfl) (vW 6 rfl rfl)))))
  (pss_oneD (ps_retD pe_blD))
  pss_nilD)
  (pss_consD (ps_asgD (pe_opD opD_add (PE.seen (PE.ofO (pe_lcO [("_law_fault_here", 8)] rfl hN (pi_anyD (vF 5 rfl rfl)) (blkOk_by rfl) (by decide) (fun _ _ _ _ _ => (gt 8 hN rfl rfl rfl)) (fun _ _ _ _ _ => (pts_one (pt_cmpD (opD_eq hr.units) rfl (PE.seen (pe_callSrc (i := 1) d__law_next (hr.mono (by omega)) TF.takes0 (by decide) rfl rfl (nmB_of (x := "_law_h") rfl).1 rfl rfl rfl (pf_cons pe_intD pf_nil))) (PE.seen pe_intD)))) (fun _ _ _ _ _ => (vF 8 rfl rfl))))) (PE.seen (pe_lstD (pf_cons (pe_callSrc (i := 1) d__law_fault (hr.mono (by omega)) tk (by decide) rfl rfl (nmB_of (x := "_law_h") rfl).1 rfl rfl rfl (pf_cons (pe_ixD ixD (fun _ _ => rfl) (vW 3 rfl rfl) (PE.seen pe_intD)) (pf_cons (pe_ixD ixD (fun _ _ => rfl) (vW 3 rfl rfl) (PE.seen pe_intD)) pf_nil))) pf_nil)))) (gt 7 hN rfl rfl rfl))
  (pss_consD (ps_asgD (pe_callTyD crD_tuple b_tuple boot_tuple (by decide) (by decide) rfl (pa_consD (PE.seen (pe_callBD (crD_sorted rfl (Room.u100 hr)) b_sorted PyProof.Rows.boot_sorted (by decide) (by decide) rfl (pa_consD (PE.seen (PE.ofO (pe_lcO [("_law_fault_here", 8)] rfl hN (pi_anyD (vF 5 rfl rfl)) (blkOk_by rfl) (by decide) (fun _ _ _ _ _ => (gt 8 hN rfl rfl rfl)) (fun _ _ _ _ _ => (pts_one (pt_cmpD (opD_notIn (Room.u65 hr)) rfl (vW 8 rfl rfl) (vW 7 rfl rfl)))) (fun _ _ _ _ _ => (vF 8 rfl rfl))))) pa_nilD))) pa_nilD)) (gt 9 hN rfl rfl rfl))
  (pss_consD (ps_asgD (pe_methD C_Machine m_Machine_repaired (hr.mono (by omega)) tk (vF 4 rfl rfl) rfl (pf_cons (vF 7 rfl rfl) pf_nil)) (gt 10 hN rfl rfl rfl))
  (pss_consD (ps_ifD (PW.pt (pw_orD (pt_notD (pt_valD (pe_callD (Dfn.cal d__law_alike) (hr.mono (by omega)) tk (by decide) rfl rfl (pf_cons (pe_propD C_Machine p_Machine_faults (hr.mono (by omega)) (vF 10 rfl rfl)) (pf_cons (vF 9 rfl rfl) pf_nil)) rfl) fun _ => rfl)) (pw_or1D (pt_cmpD (opD_ne hr.units) rfl (PE.seen (pe_cmpD (opD_ownEq C_Machine m_Machine___eq__ (hr.mono (by omega))) rfl (vW 10 rfl rfl) (vW 4 rfl rfl))) (PE.seen (pe_cmpD (opD_eq hr.units) rfl (PE.seen (pe_callBD crD_len b_len boot_len (by decide) (by decide) rfl (pa_consD (vW 9 rfl rfl) pa_nilD))) (PE.seen (pe_callBD crD_len b_len boot_len (by decide) (by decide) rfl (pa_consD (vW 5 rfl rfl) pa_nilD)))))))))
  (pss_oneD (ps_retD pe_blD))
  pss_nilD)
  (pss_consD (ps_asgD (pe_makeD i_Machine (hr.mono (by omega)) tk (by decide) rfl rfl (pf_cons (pe_makeD i_Keyboard (hr.mono (by omega)) tk (by decide) rfl rfl (pf_cons (pe_ixD ixD (fun _ _ => rfl) (vW 3 rfl rfl) (PE.seen pe_intD)) pf_nil)) (pf_cons (pe_ixD ixD (fun _ _ => rfl) (vW 3 rfl rfl) (PE.seen pe_intD)) (pf_cons (pe_tupD pf_nil) pf_nil)))) (gt 11 hN rfl rfl rfl))
  (pss_consD (ps_ifD (PW.pt (pw_orD (pt_cmpD (opD_ne hr.units) rfl (PE.seen (pe_propD C_Machine p_Machine_faults (hr.mono (by omega)) (vF 4 rfl rfl))) (PE.seen (pe_callTyD crD_tuple b_tuple boot_tuple (by decide) (by decide) rfl (pa_consD (PE.seen (pe_callBD (crD_sorted rfl (Room.u100 hr)) b_sorted PyProof.Rows.boot_sorted (by decide) (by decide) rfl (pa_consD (vW 5 rfl rfl) pa_nilD))) pa_nilD)))) (pw_or1D (pt_cmpD (opD_ownNe C_Machine ne_Machine m_Machine___eq__ (hr.mono (by omega))) rfl (PE.seen (pe_methD C_Machine m_Machine_repaired (hr.mono (by omega)) tk (vF 4 rfl rfl) rfl (pf_cons (vF 5 rfl rfl) pf_nil))) (vW 11 rfl rfl)))))
  (pss_oneD (ps_retD pe_blD))
  pss_nilD)
  (pss_consD (ps_lcFz [("_law_fault_here", 8)] rfl hN (k := 12) rfl rfl rfl (pi_anyD (vF 5 rfl rfl)) (blkOk_by rfl) (by decide) (fun _ _ _ _ _ => (gt 8 hN rfl rfl rfl)) (fun _ _ _ _ _ => (pts_one (pt_cmpD (opD_notIn (Room.u65 hr)) rfl (vW 8 rfl rfl) (vW 9 rfl rfl)))) (fun _ _ _ _ _ => (vF 8 rfl rfl)))
  (pss_consD (ps_asgD (vF 10 rfl rfl) (gt 6 hN rfl rfl rfl))
  (pss_consD (ps_forD po rfl (pi_anyD (pe_revD (vW 12 rfl rfl))) (gt 8 hN rfl rfl rfl) (pss_oneD (ps_asgD (pe_methD C_Machine m_Machine_with_fault (hr.mono (by omega)) tk (vF 6 rfl rfl) rfl (pf_cons (vF 8 rfl rfl) pf_nil)) (gt 6 hN rfl rfl rfl))))
  (pss_consD (ps_ifD (PW.pt (pw_orD (pt_cmpD (opD_ownNe C_Machine ne_Machine m_Machine___eq__ (hr.mono (by omega))) rfl (vW 6 rfl rfl) (vW 4 rfl rfl)) (pw_or1D (pt_notD (pt_valD (pe_callD (Dfn.cal d__law_alike) (hr.mono (by omega)) tk (by decide) rfl rfl (pf_cons (pe_propD C_Machine p_Machine_faults (hr.mono (by omega)) (vF 6 rfl rfl)) (pf_cons (pe_propD C_Machine p_Machine_faults (hr.mono (by omega)) (vF 4 rfl rfl)) pf_nil)) rfl) fun _ => rfl)))))
  (pss_oneD (ps_retD pe_blD))
  pss_nilD)
  (pss_consD (ps_asgD (pe_makeD i_Machine (hr.mono (by omega)) tk (by decide) rfl rfl (pf_cons (pe_makeD i_Keyboard (hr.mono (by omega)) tk (by decide) rfl rfl (pf_cons (pe_ixD ixD (fun _ _ => rfl) (vW 3 rfl rfl) (PE.seen pe_intD)) pf_nil)) (pf_cons (pe_opD opD_add (PE.seen (pe_ixD ixD (fun _ _ => rfl) (vW 3 rfl rfl) (PE.seen pe_intD))) (PE.seen pe_intD)) (pf_cons (vF 5 rfl rfl) pf_nil)))) (gt 13 hN rfl rfl rfl))
  (pss_consD (ps_asgD (pe_makeD i_Machine (hr.mono (by omega)) tk (by decide) rfl rfl (pf_cons (pe_makeD i_Keyboard (hr.mono (by omega)) tk (by decide) rfl rfl (pf_cons (pe_revD (PE.seen (pe_ixD ixD (fun _ _ => rfl) (vW 3 rfl rfl) (PE.seen pe_intD)))) pf_nil)) (pf_cons (pe_ixD ixD (fun _ _ => rfl) (vW 3 rfl rfl) (PE.seen pe_intD)) (pf_cons (vF 5 rfl rfl) pf_nil)))) (gt 14 hN rfl rfl rfl))
  (pss_oneD (ps_ifD (PW.pt (pw_orD (pt_cmpD (opD_ownEq C_Machine m_Machine___eq__ (hr.mono (by omega))) rfl (vW 13 rfl rfl) (vW 4 rfl rfl)) (pw_or1D (pt_cmpD (opD_ownEq C_Machine m_Machine___eq__ (hr.mono (by omega))) rfl (vW 14 rfl rfl) (vW 4 rfl rfl)))))
  (pss_oneD (ps_retD pe_blD))
  pss_nilD))))))))))))))))))))
  (pss_oneD (ps_retD pe_blD))))

end K04
/-! #### text H4 -/
set_option Elab.async false
set_option linter.all false
set_option maxRecDepth 100000
set_option maxHeartbeats 2000000
open TF PySem L2 PySem.Spec PyProof.Rows
namespace K04
theorem ini_InvalidKeyboard : IniT "InvalidKeyboard.__init__" (defArgs ((clsB (top 3)).getD 0 (.Pass ⟨0, 0, 0, 0⟩))) (defBody ((clsB (top 3)).getD 0 (.Pass ⟨0, 0, 0, 0⟩))) (defScope ((clsB (top 3)).getD 0 (.Pass ⟨0, 0, 0, 0⟩))) ["index"] := by
  refine ⟨⟨rfl, rfl, rfl, by decide +kernel, rfl, rfl, rfl⟩, ?_⟩
  refine ⟨(_, _, _, _, _), [], _, _, _, _, _, _, _, _, _, rfl, rfl, rfl, rfl, ?_, ?_, ?_, ?_, ?_, ?_, ?_⟩
  · intro s x us cc cda doc pm an ct hl
    match us, hl with
    | [u0], _ => exact BindsTo.of_eq rfl
  · intro f hf
    cases List.mem_singleton.mp hf
    exact ⟨rfl, rfl, by decide⟩
  · decide
  · decide
  · intro env q hq hs
    cases List.mem_singleton.mp hq
    rfl
  · exact fun _ _ _ _ => ⟨_, rfl⟩
  · exact fun _ _ _ _ => rfl
theorem ini_InvalidMachine : IniT "InvalidMachine.__init__" (defArgs ((clsB (top 4)).getD 0 (.Pass ⟨0, 0, 0, 0⟩))) (defBody ((clsB (top 4)).getD 0 (.Pass ⟨0, 0, 0, 0⟩))) (defScope ((clsB (top 4)).getD 0 (.Pass ⟨0, 0, 0, 0⟩))) ["part", "index"] := by
  refine ⟨⟨rfl, rfl, rfl, by decide +kernel, rfl, rfl, rfl⟩, ?_⟩
  refine ⟨(_, _, _, _, _), [(_, _, _, _, _)], _, _, _, _, _, _, _, _, _, rfl, rfl, rfl, rfl, ?_, ?_, ?_, ?_, ?_, ?_, ?_⟩
  · intro s x us cc cda doc pm an ct hl
    match us, hl with
    | [u0, u1], _ => exact BindsTo.of_eq rfl
  · intro f hf
    rcases List.mem_cons.mp hf with e | e
    · cases e
      exact ⟨rfl, rfl, by decide⟩
    · cases List.mem_singleton.mp e
      exact ⟨rfl, rfl, by decide⟩
  · decide
  · decide
  · intro env q hq hs
    rcases List.mem_cons.mp hq with e | e
    · cases e
      rfl
    · cases List.mem_singleton.mp e
      rfl
  · exact fun _ _ _ _ => ⟨_, rfl⟩
  · exact fun _ _ _ _ => rfl
abbrev P : Program := (PySem.Challenge.rw_typefault_k04_whole_machines_repaired).prog
abbrev R : PySem.W.OpenRow := PySem.W.OpenLaw.row PySem.Challenge.rw_typefault_k04_whole_machines_repaired
def nm0 : List PySem.Str := ["_wall", "WriterError", "InvalidKeyboard", "InvalidMachine", "SIGNS", "MIN_KEYS", "MAX_KEYS", "BACK", "DOWN", "SPACE", "UP", "is_number", "Keyboard", "DEAD", "DOUBLE", "FEED", "SLIP", "STUCK", "SWAP", "OF_KEYS", "OF_LOCK", "MIN_WIDTH", "MAX_WIDTH", "is_fault", "do_clash", "Machine", "_law_mix", "_law_next", "_law_alike", "_law_keys"]
def nm1 : List PySem.Str := ["_law_fault", "_law_clash", "_law_faults", "_law_drawn", "_law_machine"]
def nms : List PySem.Str := nm0 ++ nm1
def fz : List DefZ := [⟨.me "InvalidKeyboard" "__init__", "__init__", "InvalidKeyboard.__init__", defArgs ((clsB (top 3)).getD 0 (.Pass ⟨0, 0, 0, 0⟩)), defBody ((clsB (top 3)).getD 0 (.Pass ⟨0, 0, 0, 0⟩)), defScope ((clsB (top 3)).getD 0 (.Pass ⟨0, 0, 0, 0⟩)), ["__class__"]⟩,
  ⟨.me "Keyboard" "__init__", "__init__", "Keyboard.__init__", defArgs st_Keyboard___init__, defBody st_Keyboard___init__, defScope st_Keyboard___init__, []⟩,
  ⟨.pr "Keyboard" "key_signs", "key_signs", "Keyboard.key_signs", defArgs st_Keyboard_key_signs, defBody st_Keyboard_key_signs, defScope st_Keyboard_key_signs, []⟩,
  ⟨.me "Keyboard" "__len__", "__len__", "Keyboard.__len__", defArgs st_Keyboard___len__, defBody st_Keyboard___len__, defScope st_Keyboard___len__, []⟩,
  ⟨.me "Keyboard" "__eq__", "__eq__", "Keyboard.__eq__", defArgs st_Keyboard___eq__, defBody st_Keyboard___eq__, defScope st_Keyboard___eq__, []⟩,
  ⟨.gl "is_number", "is_number", "is_number", defArgs st_is_number, defBody st_is_number, defScope st_is_number, []⟩,
  ⟨.gl "is_fault", "is_fault", "is_fault", defArgs st_is_fault, defBody st_is_fault, defScope st_is_fault, []⟩,
  ⟨.gl "do_clash", "do_clash", "do_clash", defArgs st_do_clash, defBody st_do_clash, defScope st_do_clash, []⟩,
  ⟨.me "InvalidMachine" "__init__", "__init__", "InvalidMachine.__init__", defArgs ((clsB (top 4)).getD 0 (.Pass ⟨0, 0, 0, 0⟩)), defBody ((clsB (top 4)).getD 0 (.Pass ⟨0, 0, 0, 0⟩)), defScope ((clsB (top 4)).getD 0 (.Pass ⟨0, 0, 0, 0⟩)), ["__class__"]⟩,
  ⟨.me "Machine" "__init__", "__init__", "Machine.__init__", defArgs st_Machine___init__, defBody st_Machine___init__, defScope st_Machine___init__, []⟩,
  ⟨.pr "Machine" "keyboard", "keyboard", "Machine.keyboard", defArgs st_Machine_keyboard, defBody st_Machine_keyboard, defScope st_Machine_keyboard, []⟩,
  ⟨.pr "Machine" "width", "width", "Machine.width", defArgs st_Machine_width, defBody st_Machine_width, defScope st_Machine_width, []⟩,
  ⟨.pr "Machine" "faults", "faults", "Machine.faults", defArgs st_Machine_faults, defBody st_Machine_faults, defScope st_Machine_faults, []⟩,
  ⟨.me "Machine" "with_fault", "with_fault", "Machine.with_fault", defArgs st_Machine_with_fault, defBody st_Machine_with_fault, defScope st_Machine_with_fault, []⟩,
  ⟨.me "Machine" "repaired", "repaired", "Machine.repaired", defArgs st_Machine_repaired, defBody st_Machine_repaired, defScope st_Machine_repaired, []⟩,
  ⟨.me "Machine" "__eq__", "__eq__", "Machine.__eq__", defArgs st_Machine___eq__, defBody st_Machine___eq__, defScope st_Machine___eq__, []⟩,
  ⟨.gl "_law_mix", "_law_mix", "_law_mix", defArgs st_law_mix, defBody st_law_mix, defScope st_law_mix, []⟩,
  ⟨.gl "_law_next", "_law_next", "_law_next", defArgs st_law_next, defBody st_law_next, defScope st_law_next, []⟩,
  ⟨.gl "_law_alike", "_law_alike", "_law_alike", defArgs st_law_alike, defBody st_law_alike, defScope st_law_alike, []⟩,
  ⟨.gl "_law_keys", "_law_keys", "_law_keys", defArgs st_law_keys, defBody st_law_keys, defScope st_law_keys, []⟩,
  ⟨.gl "_law_fault", "_law_fault", "_law_fault", defArgs st_law_fault, defBody st_law_fault, defScope st_law_fault, []⟩,
  ⟨.gl "_law_clash", "_law_clash", "_law_clash", defArgs st_law_clash, defBody st_law_clash, defScope st_law_clash, []⟩,
  ⟨.gl "_law_faults", "_law_faults", "_law_faults", defArgs st_law_faults, defBody st_law_faults, defScope st_law_faults, []⟩,
  ⟨.gl "_law_drawn", "_law_drawn", "_law_drawn", defArgs st_law_drawn, defBody st_law_drawn, defScope st_law_drawn, []⟩,
  ⟨.gl "_law_machine", "_law_machine", "_law_machine", defArgs st_law_machine, defBody st_law_machine, defScope st_law_machine, []⟩,
  ⟨.gl "law", "law", "law", defArgs st_law, defBody st_law, defScope st_law, []⟩]
def fl : List Fct := [fun K => (He.Fa.free "enumerate").ok K,
  fun K => (He.Fa.free "len").ok K,
  fun K => (He.Fa.str "SIGNS" "!,-.0123456789:;?ABCDEFGHIJKLMNOPQRSTUVWXYZabcdefghijklmnopqrstuvwxyz").ok K,
  fun K => (He.Fa.int "MAX_KEYS" 10).ok K,
  fun K => (He.Fa.glo "InvalidKeyboard").ok K,
  fun K => oxkB P K "InvalidKeyboard" "InvalidKeyboard.__init__",
  fun K => (["index"] : List Str).all fun f => fnd K (He.ga K "InvalidKeyboard") f none,
  fun K => (He.Fa.free "super").ok K,
  fun K => (He.Fa.int "MIN_KEYS" 2).ok K,
  fun K => clsZ K "Keyboard",
  fun K => (He.Fa.glo "Keyboard").ok K,
  fun K => (He.Fa.mkr "Keyboard").ok K,
  fun K => prB K "Keyboard" "key_signs",
  fun K => (He.Fa.meth "Keyboard" "__len__").ok K,
  fun K => (He.Fa.free "isinstance").ok K,
  fun K => (He.Fa.meth "Keyboard" "__eq__").ok K,
  fun K => (He.Fa.free "bool").ok K,
  fun K => (He.Fa.free "int").ok K,
  fun K => (He.Fa.glo "is_number").ok K,
  fun K => (He.Fa.str "UP" "up").ok K,
  fun K => (He.Fa.str "DOWN" "down").ok K,
  fun K => (He.Fa.str "SPACE" "space").ok K,
  fun K => (He.Fa.str "BACK" "back").ok K,
  fun K => (He.Fa.str "FEED" "feed").ok K,
  fun K => (He.Fa.str "SLIP" "slip").ok K,
  fun K => (He.Fa.str "SWAP" "swap").ok K,
  fun K => (He.Fa.glo "is_fault").ok K,
  fun K => tupsB K "OF_KEYS" ["dead", "double", "stuck", "swap"],
  fun K => tupsB K "OF_LOCK" ["down", "up"],
  fun K => (He.Fa.glo "do_clash").ok K,
  fun K => (He.Fa.int "MAX_WIDTH" 20).ok K,
  fun K => (He.Fa.int "MIN_WIDTH" 2).ok K,
  fun K => (He.Fa.glo "InvalidMachine").ok K,
  fun K => oxkB P K "InvalidMachine" "InvalidMachine.__init__",
  fun K => (["part", "index"] : List Str).all fun f => fnd K (He.ga K "InvalidMachine") f none,
  fun K => clsZ K "Machine",
  fun K => (He.Fa.glo "Machine").ok K,
  fun K => (He.Fa.free "sorted").ok K,
  fun K => (He.Fa.free "tuple").ok K,
  fun K => (He.Fa.mkr "Machine").ok K,
  fun K => prB K "Machine" "keyboard",
  fun K => prB K "Machine" "width",
  fun K => prB K "Machine" "faults",
  fun K => (He.Fa.meth "Machine" "with_fault").ok K,
  fun K => (He.Fa.meth "Machine" "repaired").ok K,
  fun K => fnd K (He.ga K "Keyboard") "__ne__" (some (.builtin "object.__ne__")),
  fun K => (He.Fa.meth "Machine" "__eq__").ok K,
  fun K => (He.Fa.free "list").ok K,
  fun K => (He.Fa.glo "_law_mix").ok K,
  fun K => (He.Fa.free "max").ok K,
  fun K => (He.Fa.glo "_law_next").ok K,
  fun K => (He.Fa.free "dict").ok K,
  fun K => (He.Fa.free "range").ok K,
  fun K => (He.Fa.free "str").ok K,
  fun K => (He.Fa.glo "_law_alike").ok K,
  fun K => (He.Fa.glo "_law_keys").ok K,
  fun K => (He.Fa.free "min").ok K,
  fun K => (He.Fa.glo "_law_fault").ok K,
  fun K => (He.Fa.glo "_law_clash").ok K,
  fun K => (He.Fa.glo "_law_faults").ok K,
  fun K => (He.Fa.glo "_law_drawn").ok K,
  fun K => (He.Fa.glo "_law_machine").ok K,
  fun K => fnd K (He.ga K "Machine") "__ne__" (some (.builtin "object.__ne__")),
  fun K => (He.Fa.glo "law").ok K]
def fb (K : PySem.W.Frag) : Bool := allF fl K
abbrev hk : PySem.W.Hook := hookZ 7 fb fz
def ob (s : PySem.W.SharedT) : AlZ := obsZ 7 fb fz (HandSHeadRun.getT s)
theorem ob_eq (s : PySem.W.SharedT) : ob s = hk.obs s.abs := obsZ_eq (HandSHeadRun.getT_eq s)
set_option maxHeartbeats 0 in
theorem run (w : World) : HandSHeadRun.RunEq R (PySem.W.view R.prog [39]) hk ob 6000 nms w := by
  intro os
  kernel_rfl
theorem facts {w : World} {K : PySem.W.Frag} {h : Heap} {mg : Str → Option Value} {f : Addr} (KX : K.In h) (G : h.Ns mainGlobals mg) (hfa : mg ("law" : Str) = some (.ref f)) (c : obsK fb fz K = valZ fz) :
    ∃ fd : FuncData, (∀ (s : Shared) (v : Value), BindsTo s fd ⟨[v], []⟩ [("_law_script", v)]) ∧ ∀ base : Heap, FnOk P w K mg base (cxW P) 9 f fd ["_law_script"] (spLaw K 63) := by
  have q := fun (i : Nat) (g : Fct) (hg : fl[i]? = some g) => allF_at (K := K) (saysB c) i hg
  obtain ⟨fd_law, F_law⟩ := saysD c 25 rfl rfl
  have e := hfa.symm.trans (He.glo_ok KX G (q 63 (fun K => (He.Fa.glo "law").ok K) rfl))
  cases e
  have b := FunD.bindsA (ps := ["_law_script"]) F_law fun _ _ _ _ _ _ us hl => match us, hl with | [_], _ => rfl
  refine ⟨fd_law, fun s v => b s [v] rfl, fun base => ?_⟩
  have b_enumerate : mg "enumerate" = none := He.free_ok KX G (q 0 (fun K => (He.Fa.free "enumerate").ok K) rfl)
  have b_len : mg "len" = none := He.free_ok KX G (q 1 (fun K => (He.Fa.free "len").ok K) rfl)
  have c_SIGNS : GlC P w K mg "SIGNS" (.str "!,-.0123456789:;?ABCDEFGHIJKLMNOPQRSTUVWXYZabcdefghijklmnopqrstuvwxyz") := GlC.str (He.str_ok KX G (q 2 (fun K => (He.Fa.str "SIGNS" "!,-.0123456789:;?ABCDEFGHIJKLMNOPQRSTUVWXYZabcdefghijklmnopqrstuvwxyz").ok K) rfl))
  have c_MAX_KEYS : GlC P w K mg "MAX_KEYS" (.int 10) := GlC.int (He.int_ok KX G (q 3 (fun K => (He.Fa.int "MAX_KEYS" 10).ok K) rfl))
  have gl__InvalidKeyboard : mg "InvalidKeyboard" = some (.ref (He.ga K "InvalidKeyboard")) := He.glo_ok KX G (q 4 (fun K => (He.Fa.glo "InvalidKeyboard").ok K) rfl)
  have x_InvalidKeyboard : XcC P K mg "InvalidKeyboard" ["index"] := XcC.of (qual := "InvalidKeyboard.__init__") (st := ((clsB (top 3)).getD 0 (.Pass ⟨0, 0, 0, 0⟩))) gl__InvalidKeyboard (q 5 (fun K => oxkB P K "InvalidKeyboard" "InvalidKeyboard.__init__") rfl) (saysF c 0 rfl) rfl ini_InvalidKeyboard (q 6 (fun K => (["index"] : List Str).all fun f => fnd K (He.ga K "InvalidKeyboard") f none) rfl)
  have b_super : mg "super" = none := He.free_ok KX G (q 7 (fun K => (He.Fa.free "super").ok K) rfl)
  have c_MIN_KEYS : GlC P w K mg "MIN_KEYS" (.int 2) := GlC.int (He.int_ok KX G (q 8 (fun K => (He.Fa.int "MIN_KEYS" 2).ok K) rfl))
  have C_Keyboard : ClS K "Keyboard" := clsZ_ok (q 9 (fun K => clsZ K "Keyboard") rfl)
  have gl__Keyboard : mg "Keyboard" = some (.ref (He.ga K "Keyboard")) := He.glo_ok KX G (q 10 (fun K => (He.Fa.glo "Keyboard").ok K) rfl)
  obtain ⟨fd_Keyboard___init__, F_Keyboard___init__⟩ := saysD c 1 rfl rfl
  have i_Keyboard := dfn_Keyboard___init__ (P := P) (base := base) (w := w) (r := kb_r) F_Keyboard___init__ (He.mkr_ok (q 11 (fun K => (He.Fa.mkr "Keyboard").ok K) rfl)) b_enumerate b_len c_SIGNS c_MAX_KEYS x_InvalidKeyboard b_super c_MIN_KEYS C_Keyboard gl__Keyboard kb_hm
  obtain ⟨fd_Keyboard_key_signs, F_Keyboard_key_signs⟩ := saysD c 2 rfl rfl
  have p_Keyboard_key_signs := dfn_Keyboard_key_signs (P := P) (base := base) (w := w) (prB_ok (q 12 (fun K => prB K "Keyboard" "key_signs") rfl)) F_Keyboard_key_signs C_Keyboard gl__Keyboard
  obtain ⟨fd_Keyboard___len__, F_Keyboard___len__⟩ := saysD c 3 rfl rfl
  have m_Keyboard___len__ := dfn_Keyboard___len__ (P := P) (base := base) (w := w) (He.meth_ok (q 13 (fun K => (He.Fa.meth "Keyboard" "__len__").ok K) rfl)) F_Keyboard___len__ C_Keyboard gl__Keyboard b_len
  have b_isinstance : mg "isinstance" = none := He.free_ok KX G (q 14 (fun K => (He.Fa.free "isinstance").ok K) rfl)
  obtain ⟨fd_Keyboard___eq__, F_Keyboard___eq__⟩ := saysD c 4 rfl rfl
  have m_Keyboard___eq__ := dfn_Keyboard___eq__ (P := P) (base := base) (w := w) (He.meth_ok (q 15 (fun K => (He.Fa.meth "Keyboard" "__eq__").ok K) rfl)) F_Keyboard___eq__ C_Keyboard gl__Keyboard p_Keyboard_key_signs b_isinstance
  have b_bool : mg "bool" = none := He.free_ok KX G (q 16 (fun K => (He.Fa.free "bool").ok K) rfl)
  have b_int : mg "int" = none := He.free_ok KX G (q 17 (fun K => (He.Fa.free "int").ok K) rfl)
  obtain ⟨fd_is_number, F_is_number⟩ := saysD c 5 rfl rfl
  have gl__is_number : mg "is_number" = some (.ref (He.ga K "is_number")) := He.glo_ok KX G (q 18 (fun K => (He.Fa.glo "is_number").ok K) rfl)
  have d_is_number := dfn_is_number (P := P) (base := base) (w := w) F_is_number gl__is_number b_bool b_isinstance b_int
  have c_UP : GlC P w K mg "UP" (.str "up") := GlC.str (He.str_ok KX G (q 19 (fun K => (He.Fa.str "UP" "up").ok K) rfl))
  have c_DOWN : GlC P w K mg "DOWN" (.str "down") := GlC.str (He.str_ok KX G (q 20 (fun K => (He.Fa.str "DOWN" "down").ok K) rfl))
  have c_SPACE : GlC P w K mg "SPACE" (.str "space") := GlC.str (He.str_ok KX G (q 21 (fun K => (He.Fa.str "SPACE" "space").ok K) rfl))
  have c_BACK : GlC P w K mg "BACK" (.str "back") := GlC.str (He.str_ok KX G (q 22 (fun K => (He.Fa.str "BACK" "back").ok K) rfl))
  have c_FEED : GlC P w K mg "FEED" (.str "feed") := GlC.str (He.str_ok KX G (q 23 (fun K => (He.Fa.str "FEED" "feed").ok K) rfl))
  have c_SLIP : GlC P w K mg "SLIP" (.str "slip") := GlC.str (He.str_ok KX G (q 24 (fun K => (He.Fa.str "SLIP" "slip").ok K) rfl))
  have c_SWAP : GlC P w K mg "SWAP" (.str "swap") := GlC.str (He.str_ok KX G (q 25 (fun K => (He.Fa.str "SWAP" "swap").ok K) rfl))
  obtain ⟨fd_is_fault, F_is_fault⟩ := saysD c 6 rfl rfl
  have gl__is_fault : mg "is_fault" = some (.ref (He.ga K "is_fault")) := He.glo_ok KX G (q 26 (fun K => (He.Fa.glo "is_fault").ok K) rfl)
  have d_is_fault := dfn_is_fault (P := P) (base := base) (w := w) F_is_fault gl__is_fault c_UP c_DOWN c_SPACE c_BACK c_FEED b_bool b_isinstance c_SLIP d_is_number C_Keyboard gl__Keyboard m_Keyboard___len__ b_len c_SWAP
  have c_OF_KEYS : GlC P w K mg "OF_KEYS" (.tup [.str "dead", .str "double", .str "stuck", .str "swap"]) := GlC.tups (ys := ["dead", "double", "stuck", "swap"]) KX G (q 27 (fun K => tupsB K "OF_KEYS" ["dead", "double", "stuck", "swap"]) rfl)
  have c_OF_LOCK : GlC P w K mg "OF_LOCK" (.tup [.str "down", .str "up"]) := GlC.tups (ys := ["down", "up"]) KX G (q 28 (fun K => tupsB K "OF_LOCK" ["down", "up"]) rfl)
  obtain ⟨fd_do_clash, F_do_clash⟩ := saysD c 7 rfl rfl
  have gl__do_clash : mg "do_clash" = some (.ref (He.ga K "do_clash")) := He.glo_ok KX G (q 29 (fun K => (He.Fa.glo "do_clash").ok K) rfl)
  have d_do_clash := dfn_do_clash (P := P) (base := base) (w := w) F_do_clash gl__do_clash c_OF_KEYS c_FEED c_OF_LOCK
  have c_MAX_WIDTH : GlC P w K mg "MAX_WIDTH" (.int 20) := GlC.int (He.int_ok KX G (q 30 (fun K => (He.Fa.int "MAX_WIDTH" 20).ok K) rfl))
  have c_MIN_WIDTH : GlC P w K mg "MIN_WIDTH" (.int 2) := GlC.int (He.int_ok KX G (q 31 (fun K => (He.Fa.int "MIN_WIDTH" 2).ok K) rfl))
  have gl__InvalidMachine : mg "InvalidMachine" = some (.ref (He.ga K "InvalidMachine")) := He.glo_ok KX G (q 32 (fun K => (He.Fa.glo "InvalidMachine").ok K) rfl)
  have x_InvalidMachine : XcC P K mg "InvalidMachine" ["part", "index"] := XcC.of (qual := "InvalidMachine.__init__") (st := ((clsB (top 4)).getD 0 (.Pass ⟨0, 0, 0, 0⟩))) gl__InvalidMachine (q 33 (fun K => oxkB P K "InvalidMachine" "InvalidMachine.__init__") rfl) (saysF c 8 rfl) rfl ini_InvalidMachine (q 34 (fun K => (["part", "index"] : List Str).all fun f => fnd K (He.ga K "InvalidMachine") f none) rfl)
  have C_Machine : ClS K "Machine" := clsZ_ok (q 35 (fun K => clsZ K "Machine") rfl)
  have gl__Machine : mg "Machine" = some (.ref (He.ga K "Machine")) := He.glo_ok KX G (q 36 (fun K => (He.Fa.glo "Machine").ok K) rfl)
  have b_sorted : mg "sorted" = none := He.free_ok KX G (q 37 (fun K => (He.Fa.free "sorted").ok K) rfl)
  have b_tuple : mg "tuple" = none := He.free_ok KX G (q 38 (fun K => (He.Fa.free "tuple").ok K) rfl)
  obtain ⟨fd_Machine___init__, F_Machine___init__⟩ := saysD c 9 rfl rfl
  have i_Machine := dfn_Machine___init__ (P := P) (base := base) (w := w) (r := mc_r) F_Machine___init__ (He.mkr_ok (q 39 (fun K => (He.Fa.mkr "Machine").ok K) rfl)) c_MAX_WIDTH c_MIN_WIDTH d_is_number x_InvalidMachine b_super b_enumerate d_do_clash d_is_fault C_Machine gl__Machine b_sorted b_tuple mc_hm
  obtain ⟨fd_Machine_keyboard, F_Machine_keyboard⟩ := saysD c 10 rfl rfl
  have p_Machine_keyboard := dfn_Machine_keyboard (P := P) (base := base) (w := w) (prB_ok (q 40 (fun K => prB K "Machine" "keyboard") rfl)) F_Machine_keyboard C_Machine gl__Machine
  obtain ⟨fd_Machine_width, F_Machine_width⟩ := saysD c 11 rfl rfl
  have p_Machine_width := dfn_Machine_width (P := P) (base := base) (w := w) (prB_ok (q 41 (fun K => prB K "Machine" "width") rfl)) F_Machine_width C_Machine gl__Machine
  obtain ⟨fd_Machine_faults, F_Machine_faults⟩ := saysD c 12 rfl rfl
  have p_Machine_faults := dfn_Machine_faults (P := P) (base := base) (w := w) (prB_ok (q 42 (fun K => prB K "Machine" "faults") rfl)) F_Machine_faults C_Machine gl__Machine
  obtain ⟨fd_Machine_with_fault, F_Machine_with_fault⟩ := saysD c 13 rfl rfl
  have m_Machine_with_fault := dfn_Machine_with_fault (P := P) (base := base) (w := w) (He.meth_ok (q 43 (fun K => (He.Fa.meth "Machine" "with_fault").ok K) rfl)) F_Machine_with_fault C_Machine gl__Machine i_Machine
  obtain ⟨fd_Machine_repaired, F_Machine_repaired⟩ := saysD c 14 rfl rfl
  have m_Machine_repaired := dfn_Machine_repaired (P := P) (base := base) (w := w) (He.meth_ok (q 44 (fun K => (He.Fa.meth "Machine" "repaired").ok K) rfl)) F_Machine_repaired C_Machine gl__Machine i_Machine
  have ne_Keyboard : PySem.W.findIn K (.ref (He.ga K "Keyboard")) "__ne__" = some (some (.builtin "object.__ne__")) := of_decide_eq_true (q 45 (fun K => fnd K (He.ga K "Keyboard") "__ne__" (some (.builtin "object.__ne__"))) rfl)
  obtain ⟨fd_Machine___eq__, F_Machine___eq__⟩ := saysD c 15 rfl rfl
  have m_Machine___eq__ := dfn_Machine___eq__ (P := P) (base := base) (w := w) (He.meth_ok (q 46 (fun K => (He.Fa.meth "Machine" "__eq__").ok K) rfl)) F_Machine___eq__ C_Keyboard gl__Keyboard m_Keyboard___eq__ ne_Keyboard C_Machine gl__Machine p_Machine_keyboard b_isinstance p_Machine_faults p_Machine_width
  have b_list : mg "list" = none := He.free_ok KX G (q 47 (fun K => (He.Fa.free "list").ok K) rfl)
  obtain ⟨fd_law_mix, F_law_mix⟩ := saysD c 16 rfl rfl
  have gl___law_mix : mg "_law_mix" = some (.ref (He.ga K "_law_mix")) := He.glo_ok KX G (q 48 (fun K => (He.Fa.glo "_law_mix").ok K) rfl)
  have d_mix := ok_law_mix (P := P) (base := base) (w := w) F_law_mix gl___law_mix b_list b_int (fun ns seed st h => mix_law _ _ rfl rfl ns seed st h)
  have b_max : mg "max" = none := He.free_ok KX G (q 49 (fun K => (He.Fa.free "max").ok K) rfl)
  obtain ⟨fd_law_next, F_law_next⟩ := saysD c 17 rfl rfl
  have gl___law_next : mg "_law_next" = some (.ref (He.ga K "_law_next")) := He.glo_ok KX G (q 50 (fun K => (He.Fa.glo "_law_next").ok K) rfl)
  have d__law_next := ok_law_next (P := P) (base := base) (w := w) F_law_next gl___law_next b_int b_len b_max next_law
  have b_dict : mg "dict" = none := He.free_ok KX G (q 51 (fun K => (He.Fa.free "dict").ok K) rfl)
  have b_range : mg "range" = none := He.free_ok KX G (q 52 (fun K => (He.Fa.free "range").ok K) rfl)
  have b_str : mg "str" = none := He.free_ok KX G (q 53 (fun K => (He.Fa.free "str").ok K) rfl)
  obtain ⟨fd_law_alike, F_law_alike⟩ := saysD c 18 rfl rfl
  have gl___law_alike : mg "_law_alike" = some (.ref (He.ga K "_law_alike")) := He.glo_ok KX G (q 54 (fun K => (He.Fa.glo "_law_alike").ok K) rfl)
  have d__law_alike := dfn_law_alike (P := P) (base := base) (w := w) F_law_alike gl___law_alike b_dict b_isinstance b_sorted b_tuple b_list b_len b_range b_str b_bool b_int 5
  obtain ⟨fd_law_keys, F_law_keys⟩ := saysD c 19 rfl rfl
  have gl___law_keys : mg "_law_keys" = some (.ref (He.ga K "_law_keys")) := He.glo_ok KX G (q 55 (fun K => (He.Fa.glo "_law_keys").ok K) rfl)
  have d__law_keys := ok_law_keys (P := P) (base := base) (w := w) F_law_keys gl___law_keys d__law_next b_range b_len b_tuple keys_law
  have b_min : mg "min" = none := He.free_ok KX G (q 56 (fun K => (He.Fa.free "min").ok K) rfl)
  obtain ⟨fd_law_fault, F_law_fault⟩ := saysD c 20 rfl rfl
  have gl___law_fault : mg "_law_fault" = some (.ref (He.ga K "_law_fault")) := He.glo_ok KX G (q 57 (fun K => (He.Fa.glo "_law_fault").ok K) rfl)
  have d__law_fault := ok_law_fault (P := P) (base := base) (w := w) F_law_fault gl___law_fault b_len d__law_next b_max b_min fault_law
  obtain ⟨fd_law_clash, F_law_clash⟩ := saysD c 21 rfl rfl
  have gl___law_clash : mg "_law_clash" = some (.ref (He.ga K "_law_clash")) := He.glo_ok KX G (q 58 (fun K => (He.Fa.glo "_law_clash").ok K) rfl)
  have d__law_clash := dfn_law_clash (P := P) (base := base) (w := w) F_law_clash gl___law_clash 
  obtain ⟨fd_law_faults, F_law_faults⟩ := saysD c 22 rfl rfl
  have gl___law_faults : mg "_law_faults" = some (.ref (He.ga K "_law_faults")) := He.glo_ok KX G (q 59 (fun K => (He.Fa.glo "_law_faults").ok K) rfl)
  have d__law_faults := ok_law_faults (P := P) (base := base) (w := w) F_law_faults gl___law_faults d__law_next b_range d__law_fault d__law_clash b_tuple faults_law
  obtain ⟨fd_law_drawn, F_law_drawn⟩ := saysD c 23 rfl rfl
  have gl___law_drawn : mg "_law_drawn" = some (.ref (He.ga K "_law_drawn")) := He.glo_ok KX G (q 60 (fun K => (He.Fa.glo "_law_drawn").ok K) rfl)
  have d__law_drawn := ok_law_drawn (P := P) (base := base) (w := w) F_law_drawn gl___law_drawn d__law_next d__law_keys d__law_faults drawn_law
  obtain ⟨fd_law_machine, F_law_machine⟩ := saysD c 24 rfl rfl
  have gl___law_machine : mg "_law_machine" = some (.ref (He.ga K "_law_machine")) := He.glo_ok KX G (q 61 (fun K => (He.Fa.glo "_law_machine").ok K) rfl)
  have d__law_machine := dfn_law_machine (P := P) (base := base) (w := w) F_law_machine gl___law_machine i_Keyboard i_Machine
  have ne_Machine : PySem.W.findIn K (.ref (He.ga K "Machine")) "__ne__" = some (some (.builtin "object.__ne__")) := of_decide_eq_true (q 62 (fun K => fnd K (He.ga K "Machine") "__ne__" (some (.builtin "object.__ne__"))) rfl)
  exact FnOk.anyW (ok_law F_law d_mix b_range d__law_drawn d__law_machine b_sorted b_tuple C_Machine gl__Machine p_Machine_faults p_Machine_width d__law_alike b_list i_Keyboard i_Machine m_Machine___eq__ ne_Machine p_Machine_keyboard C_Keyboard gl__Keyboard p_Keyboard_key_signs d__law_next d__law_fault m_Machine_repaired b_len m_Machine_with_fault law4_eq)
end K04
open PySem PySem.W PySem.Calls PyProof.Rows
theorem PySem.Challenge.cw_typefault_k04_whole_machines_repaired_holds : PySem.Challenge.rw_typefault_k04_whole_machines_repaired.Holds := by
  w_on; o_law
  refine HandSHeadRun.head_any (r := OpenLaw.row PySem.Challenge.rw_typefault_k04_whole_machines_repaired) (q := view (OpenLaw.row PySem.Challenge.rw_typefault_k04_whole_machines_repaired).prog [39]) (H := K04.hk) (ob := K04.ob) (M := 6000) (loose := K04.nms) (d := HandSHeadRun.topDef (OpenLaw.row PySem.Challenge.rw_typefault_k04_whole_machines_repaired).prog 39) (kwd := []) K04.ob_eq
    (by kernel_rfl) (fun s => by kernel_rfl) K04.run (by kernel_rfl) (by kernel_rfl) (by kernel_rfl) (by rfl) (by first | assumption | decide +kernel) (by decide +kernel) ⟨rfl, rfl, rfl, rfl, rfl, by decide +kernel⟩ ?hw ?hc
  case hw => w_witness2
  case hc =>
    refine L2.walk_ofE (l := PySem.Challenge.rw_typefault_k04_whole_machines_repaired) (n := 63) (k := 9) (x := "_law_script") (CX := TF.cxW K04.P) rfl (by decide) (by kernel_rfl) ⟨rfl, by decide, by decide⟩ ?F TF.cxW_no
    intro w mg fa h Y G hmg0
    obtain ⟨K, KX, c⟩ := Y
    have hmg : mg ("law" : PySem.Str) = some (.ref fa) := by
      have e : (HandSHeadRun.topDef (OpenLaw.row PySem.Challenge.rw_typefault_k04_whole_machines_repaired).prog 39).name = ("law" : PySem.Str) := by kernel_rfl
      rw [← e]
      exact hmg0
    obtain ⟨fd, hb, hF⟩ := K04.facts (w := w) KX G hmg c
    refine ⟨K, fd, TF.spLaw K 63, KX, hb, fun H a ns hl _ hS => ⟨a, ns, rfl, hS, hl, fun _ => rfl⟩, fun base _ _ => hF base⟩
