import PyProof.Rows.All
import Wide.All
import OpenK.AllK
import Wide.FinOn
import HandS.ForMost
import HandS.Exc
import HandS.Property
import HandS.Wide
import HandS.DictComp
import HandS.SetKeys
import HandS.Flow
import HandS.Small
import HandS.IsInst
import KE.KEqNest
import HandS.ListEq
import HandS.CallSlots
import HandS.ExcOwn
import HandS.WordsExc
import HandS.Style
import HandS.More
import HandS.Star
import HandS.SetBool
import KE.KExcInit
import HandS.ExcField
import HandS.TryMany
import PySem.Challenge.RW_countededges_k01_words_and_programs_made
set_option Elab.async false
set_option linter.all false
set_option maxRecDepth 100000
set_option maxHeartbeats 2000000
/-! D1: data, what stands for data on the abstract heap, partial functions with a pool, the judgements. -/
namespace DL
open PySem L2

inductive D where
  | non | bl (b : Bool) | int (i : Int) | str (s : Str)
  | lst (xs : List D) | tup (xs : List D)
  | dk (kvs : List (Key × D)) | dt (kvs : List (List Key × D))
  | ins (C : Addr) (fs : List (Str × D))
  | pool | ob (v : V)
  deriving Inhabited

/-- values that need no heap -/
def D.flat : D → Bool
  | .non => true | .bl _ => true | .int _ => true | .str _ => true | .ob _ => true | _ => false

abbrev Pl := Option (Addr × Addr)
mutual
def Rep (pl : Pl) (K : PySem.W.Frag) (H : Hp) : D → V → Prop
  | .non, v => v = .non
  | .bl b, v => v = .bl b
  | .int i, v => v = .int i
  | .str s, v => v = .str s
  | .lst ds, v => ∃ p vs, v = .ref p ∧ H p = some (.lst vs) ∧ Reps pl K H ds vs
  | .tup ds, v => ∃ p vs, v = .ref p ∧ SqT K H p vs ∧ Reps pl K H ds vs
  | .dk kvs, v => ∃ p vs, v = .ref p ∧ Rd H p (.dK vs) ∧ RepK pl K H kvs vs
  | .dt kvs, v => ∃ p vs, v = .ref p ∧ Rd H p (.dT vs) ∧ RepT pl K H kvs vs
  | .ins C fs, v => ∃ p dx vs, v = .ref p ∧ H p = some (.ins C dx vs) ∧ RepF pl K H fs vs
  | .pool, v => pl.map (fun x => V.ref x.1) = some v
  | .ob w, v => v = w
def Reps (pl : Pl) (K : PySem.W.Frag) (H : Hp) : List D → List V → Prop
  | [], vs => vs = []
  | d :: ds, vs => ∃ v r, vs = v :: r ∧ Rep pl K H d v ∧ Reps pl K H ds r
def RepK (pl : Pl) (K : PySem.W.Frag) (H : Hp) : List (Key × D) → List (Key × V) → Prop
  | [], vs => vs = []
  | (k, d) :: ds, vs => ∃ v r, vs = (k, v) :: r ∧ Rep pl K H d v ∧ RepK pl K H ds r
def RepT (pl : Pl) (K : PySem.W.Frag) (H : Hp) : List (List Key × D) → List (List Key × V) → Prop
  | [], vs => vs = []
  | (k, d) :: ds, vs => ∃ v r, vs = (k, v) :: r ∧ Rep pl K H d v ∧ RepT pl K H ds r
def RepF (pl : Pl) (K : PySem.W.Frag) (H : Hp) : List (Str × D) → List (Str × V) → Prop
  | [], vs => vs = []
  | (k, d) :: ds, vs => ∃ v r, vs = (k, v) :: r ∧ Rep pl K H d v ∧ RepF pl K H ds r
end

/-- all that stands still stands -/
def Ex (H H' : Hp) : Prop := ∀ a o, H a = some o → H' a = some o
theorem Ex.rd {H H' : Hp} {a : Addr} {u : HO} (e : Ex H H') (h : Rd H a u) : Rd H' a u := by
  rcases h with h | ⟨o, h⟩
  · exact .inl (e a _ h)
  · exact .inr ⟨o, e a _ h⟩
theorem Ex.sl {K : PySem.W.Frag} {H H' : Hp} {a : Addr} {xs : List V} (e : Ex H H') (h : SqL K H a xs) : SqL K H' a xs := by
  rcases h with h | h
  · exact .inl (e.rd h)
  · exact .inr h
theorem Ex.st {K : PySem.W.Frag} {H H' : Hp} {a : Addr} {xs : List V} (e : Ex H H') (h : SqT K H a xs) : SqT K H' a xs := by
  rcases h with h | h
  · exact .inl (e.rd h)
  · exact .inr h
section
variable {pl : Pl} {K : PySem.W.Frag} {H H' : Hp}
mutual
theorem Rep.mono (e : Ex H H') : ∀ {d : D} {v : V}, Rep pl K H d v → Rep pl K H' d v
  | .non, _, h => h
  | .bl _, _, h => h
  | .int _, _, h => h
  | .str _, _, h => h
  | .lst _, _, h => by
    unfold Rep at h ⊢
    obtain ⟨p, vs, h1, h2, h3⟩ := h
    exact ⟨p, vs, h1, e _ _ h2, Reps.mono e h3⟩
  | .tup _, _, h => by
    unfold Rep at h ⊢
    obtain ⟨p, vs, h1, h2, h3⟩ := h
    exact ⟨p, vs, h1, e.st h2, Reps.mono e h3⟩
  | .dk _, _, h => by
    unfold Rep at h ⊢
    obtain ⟨p, vs, h1, h2, h3⟩ := h
    exact ⟨p, vs, h1, e.rd h2, RepK.mono e h3⟩
  | .dt _, _, h => by
    unfold Rep at h ⊢
    obtain ⟨p, vs, h1, h2, h3⟩ := h
    exact ⟨p, vs, h1, e.rd h2, RepT.mono e h3⟩
  | .ins _ _, _, h => by
    unfold Rep at h ⊢
    obtain ⟨p, dx, vs, h1, h2, h3⟩ := h
    exact ⟨p, dx, vs, h1, e _ _ h2, RepF.mono e h3⟩
  | .pool, _, h => h
  | .ob _, _, h => h
theorem Reps.mono (e : Ex H H') : ∀ {ds : List D} {vs : List V}, Reps pl K H ds vs → Reps pl K H' ds vs
  | [], _, h => h
  | _ :: _, _, h => by
    unfold Reps at h ⊢
    obtain ⟨v, r, h1, h2, h3⟩ := h
    exact ⟨v, r, h1, Rep.mono e h2, Reps.mono e h3⟩
theorem RepK.mono (e : Ex H H') : ∀ {ds : List (Key × D)} {vs : List (Key × V)}, RepK pl K H ds vs → RepK pl K H' ds vs
  | [], _, h => h
  | (_, _) :: _, _, h => by
    unfold RepK at h ⊢
    obtain ⟨v, r, h1, h2, h3⟩ := h
    exact ⟨v, r, h1, Rep.mono e h2, RepK.mono e h3⟩
theorem RepT.mono (e : Ex H H') : ∀ {ds : List (List Key × D)} {vs : List (List Key × V)}, RepT pl K H ds vs → RepT pl K H' ds vs
  | [], _, h => h
  | (_, _) :: _, _, h => by
    unfold RepT at h ⊢
    obtain ⟨v, r, h1, h2, h3⟩ := h
    exact ⟨v, r, h1, Rep.mono e h2, RepT.mono e h3⟩
theorem RepF.mono (e : Ex H H') : ∀ {ds : List (Str × D)} {vs : List (Str × V)}, RepF pl K H ds vs → RepF pl K H' ds vs
  | [], _, h => h
  | (_, _) :: _, _, h => by
    unfold RepF at h ⊢
    obtain ⟨v, r, h1, h2, h3⟩ := h
    exact ⟨v, r, h1, Rep.mono e h2, RepF.mono e h3⟩
end
theorem Reps.nil : Reps pl K H [] [] := by unfold Reps; rfl
theorem Reps.cons {d : D} {v : V} {ds : List D} {vs : List V} (h : Rep pl K H d v) (t : Reps pl K H ds vs) : Reps pl K H (d :: ds) (v :: vs) := by
  unfold Reps; exact ⟨v, vs, rfl, h, t⟩
theorem Reps.inv_nil {vs : List V} (h : Reps pl K H [] vs) : vs = [] := by unfold Reps at h; exact h
theorem Reps.inv_cons {d : D} {ds : List D} {vs : List V} (h : Reps pl K H (d :: ds) vs) : ∃ v r, vs = v :: r ∧ Rep pl K H d v ∧ Reps pl K H ds r := by
  unfold Reps at h; exact h
theorem Reps.length : ∀ {ds : List D} {vs : List V}, Reps pl K H ds vs → vs.length = ds.length
  | [], _, h => by rw [h.inv_nil]; rfl
  | _ :: _, _, h => by
    obtain ⟨v, r, rfl, _, h3⟩ := h.inv_cons
    rw [List.length_cons, List.length_cons, Reps.length h3]
theorem Reps.get : ∀ {ds : List D} {vs : List V} {i : Nat} {d : D}, Reps pl K H ds vs → ds[i]? = some d → ∃ v, vs[i]? = some v ∧ Rep pl K H d v
  | [], _, _, _, _, e => by simp at e
  | _ :: _, _, 0, _, h, e => by
    obtain ⟨v, r, rfl, h2, _⟩ := h.inv_cons
    simp at e; subst e
    exact ⟨v, rfl, h2⟩
  | _ :: _, _, i + 1, _, h, e => by
    obtain ⟨v, r, rfl, _, h3⟩ := h.inv_cons
    obtain ⟨u, h4, h5⟩ := Reps.get (i := i) h3 (by simpa using e)
    exact ⟨u, by simpa using h4, h5⟩
theorem Reps.getV {ds : List D} {vs : List V} {i : Nat} {v : V} (h : Reps pl K H ds vs) (e : vs[i]? = some v) : ∃ d, ds[i]? = some d ∧ Rep pl K H d v := by
  have hl : i < ds.length := by rw [← h.length]; exact (List.getElem?_eq_some_iff.mp e).1
  obtain ⟨u, h1, h2⟩ := h.get (List.getElem?_eq_getElem hl)
  rw [e] at h1; cases h1
  exact ⟨_, List.getElem?_eq_getElem hl, h2⟩
theorem Reps.append : ∀ {ds es : List D} {vs us : List V}, Reps pl K H ds vs → Reps pl K H es us → Reps pl K H (ds ++ es) (vs ++ us)
  | [], _, _, _, h, t => by rw [h.inv_nil]; exact t
  | _ :: _, _, _, _, h, t => by
    obtain ⟨v, r, rfl, h2, h3⟩ := h.inv_cons
    exact Reps.cons h2 (Reps.append h3 t)
theorem Reps.take : ∀ {ds : List D} {vs : List V} (n : Nat), Reps pl K H ds vs → Reps pl K H (ds.take n) (vs.take n)
  | _, _, 0, _ => Reps.nil
  | [], _, n + 1, h => by rw [h.inv_nil]; exact Reps.nil
  | _ :: _, _, n + 1, h => by
    obtain ⟨v, r, rfl, h2, h3⟩ := h.inv_cons
    exact Reps.cons h2 (Reps.take n h3)
theorem Reps.drop : ∀ {ds : List D} {vs : List V} (n : Nat), Reps pl K H ds vs → Reps pl K H (ds.drop n) (vs.drop n)
  | _, _, 0, h => h
  | [], _, n + 1, h => by rw [h.inv_nil]; exact Reps.nil
  | _ :: _, _, n + 1, h => by
    obtain ⟨v, r, rfl, h2, h3⟩ := h.inv_cons
    exact Reps.drop n h3
theorem Reps.set {ds : List D} {vs : List V} {d : D} {v : V} (n : Nat) (hd : Rep pl K H d v) (h : Reps pl K H ds vs) : Reps pl K H (ds.set n d) (vs.set n v) := by
  induction n generalizing ds vs with
  | zero =>
    cases ds with
    | nil => rw [h.inv_nil]; exact Reps.nil
    | cons a r =>
      obtain ⟨v', r', rfl, h2, h3⟩ := h.inv_cons
      exact Reps.cons hd h3
  | succ n ih =>
    cases ds with
    | nil => rw [h.inv_nil]; exact Reps.nil
    | cons a r =>
      obtain ⟨v', r', rfl, h2, h3⟩ := h.inv_cons
      exact Reps.cons h2 (ih h3)
theorem Reps.reverse {ds : List D} {vs : List V} (h : Reps pl K H ds vs) : Reps pl K H ds.reverse vs.reverse := by
  induction ds generalizing vs with
  | nil => rw [h.inv_nil]; exact Reps.nil
  | cons a r ih =>
    obtain ⟨v', r', rfl, h2, h3⟩ := h.inv_cons
    rw [List.reverse_cons, List.reverse_cons]
    exact (ih h3).append (Reps.cons h2 Reps.nil)
end

/-! ### the hidden part of the heap -/
open Classical in
noncomputable def hid (E : Addr → Prop) (H : Hp) : Hp := fun a => if E a then none else H a
theorem hid_of {E : Addr → Prop} {H : Hp} {a : Addr} {o : HO} (h : hid E H a = some o) : ¬ E a ∧ H a = some o := by
  unfold hid at h
  split at h
  · cases h
  · rename_i hn; exact ⟨hn, h⟩
theorem hid_at {E : Addr → Prop} {H : Hp} {a : Addr} (h : ¬ E a) : hid E H a = H a := by
  unfold hid; rw [if_neg h]
theorem hid_ex {E : Addr → Prop} {H : Hp} : Ex (hid E H) H := fun a o h => (hid_of h).2
/-- outside O all stands still stands -/
def Exo (O : Addr → Prop) (H H' : Hp) : Prop := ∀ a o, H a = some o → ¬ O a → H' a = some o
theorem Exo.refl {O : Addr → Prop} {H : Hp} : Exo O H H := fun _ _ h _ => h
theorem Exo.trans {O : Addr → Prop} {H H1 H2 : Hp} (a : Exo O H H1) (b : Exo O H1 H2) : Exo O H H2 := fun x o h n => b x o (a x o h n) n
theorem Exo.weak {O O' : Addr → Prop} {H H1 : Hp} (a : Exo O H H1) (h : ∀ x, O x → O' x) : Exo O' H H1 := fun x o e n => a x o e fun z => n (h x z)
theorem Exo.new {O : Addr → Prop} {H : Hp} {p : Addr} {o : HO} (h : H p = none) : Exo O H (upd H p o) := fun a u e _ => by
  rw [upd_ne (ne_of_none e h)]; exact e
theorem Exo.hid {O E : Addr → Prop} {H H' : Hp} (e : Exo O H H') (h : ∀ a, O a → E a) : Ex (DL.hid E H) (DL.hid E H') := fun a o q => by
  obtain ⟨n, q⟩ := hid_of q
  rw [hid_at n]
  exact e a o q fun z => n (h a z)
theorem hid_sub {E E' : Addr → Prop} {H : Hp} (h : ∀ a, E' a → E a) : Ex (hid E H) (hid E' H) := fun a o q => by
  obtain ⟨n, q⟩ := hid_of q
  rw [hid_at fun z => n (h a z)]
  exact q
end DL
set_option Elab.async false
set_option linter.all false
set_option maxRecDepth 100000
set_option maxHeartbeats 2000000
/-! D2: the pool, partial functions, the state, expressions. -/
namespace DL
open PySem L2

structure Exn where
  cls : Addr
  fs : List (Str × D)
structure Pool where
  nums : List Int
  at_ : Nat
abbrev Ps := Option Pool
inductive Res (α : Type) where
  | und | exc (x : Exn) (ps : Ps) | ok (a : α) (ps : Ps)
def R (α : Type) : Type := Ps → Res α
namespace R
variable {α β : Type}
def ret (a : α) : R α := fun ps => .ok a ps
def bnd (x : R α) (f : α → R β) : R β := fun ps => match x ps with
  | .und => .und
  | .exc e ps' => .exc e ps'
  | .ok a ps' => f a ps'
def und : R α := fun _ => .und
def exc (x : Exn) : R α := fun ps => .exc x ps
end R
instance : Monad R where
  pure := R.ret
  bind := R.bnd
theorem bind_ok {α β : Type} {x : R α} {f : α → R β} {ps ps' : Ps} {a : α} (h : x ps = .ok a ps') : (x >>= f) ps = f a ps' := by
  show R.bnd x f ps = _
  unfold R.bnd; rw [h]
theorem bind_exc {α β : Type} {x : R α} {f : α → R β} {ps ps' : Ps} {e : Exn} (h : x ps = .exc e ps') : (x >>= f) ps = .exc e ps' := by
  show R.bnd x f ps = _
  unfold R.bnd; rw [h]
theorem bind_und {α β : Type} {x : R α} {f : α → R β} {ps : Ps} (h : x ps = .und) : (x >>= f) ps = .und := by
  show R.bnd x f ps = _
  unfold R.bnd; rw [h]
theorem pure_app {α : Type} (a : α) (ps : Ps) : (pure a : R α) ps = .ok a ps := rfl
def ofO {α : Type} : Option α → R α
  | some a => pure a
  | none => R.und
theorem ofO_ok {α : Type} {o : Option α} {a : α} {ps ps' : Ps} (h : ofO o ps = .ok a ps') : o = some a ∧ ps' = ps := by
  cases o with
  | none => exact nomatch h
  | some b => cases h; exact ⟨rfl, rfl⟩
theorem ofO_ne {α : Type} {o : Option α} {ps : Ps} (h : ofO o ps ≠ .und) : ∃ a, o = some a ∧ ofO o ps = .ok a ps := by
  cases o with
  | none => exact (h rfl).elim
  | some b => exact ⟨b, rfl, rfl⟩

def plS (pl : Pl) : Addr → Prop := fun a => ∃ x, pl = some x ∧ (a = x.1 ∨ a = x.2)
def PoolAt (pl : Pl) (H : Hp) (ps : Ps) : Prop := match pl with
  | none => True
  | some (p, q) => ∃ po : Pool, ps = some po ∧ H p = some (.lst [.ref q, .int (po.at_ : Int)]) ∧ H q = some (.lst (po.nums.map V.int)) ∧ q ≠ p
theorem PoolAt.there {pl : Pl} {H : Hp} {ps : Ps} {a : Addr} (h : PoolAt pl H ps) (ha : plS pl a) : H a ≠ none := by
  obtain ⟨⟨p, q⟩, rfl, e⟩ := ha
  obtain ⟨po, _, h2, h3, _⟩ := h
  rcases e with rfl | rfl
  · rw [h2]; exact fun z => nomatch z
  · rw [h3]; exact fun z => nomatch z
theorem PoolAt.new {pl : Pl} {H : Hp} {ps : Ps} {p : Addr} {o : HO} (h : PoolAt pl H ps) (hp : H p = none) : PoolAt pl (upd H p o) ps := by
  cases pl with
  | none => trivial
  | some x =>
    obtain ⟨a, q⟩ := x
    obtain ⟨po, h1, h2, h3, h4⟩ := h
    exact ⟨po, h1, by rw [upd_ne (ne_of_none h2 hp)]; exact h2, by rw [upd_ne (ne_of_none h3 hp)]; exact h3, h4⟩
theorem PoolAt.keep {pl : Pl} {H H' : Hp} {ps : Ps} (h : PoolAt pl H ps) (e : ∀ a, plS pl a → H' a = H a) : PoolAt pl H' ps := by
  cases pl with
  | none => trivial
  | some x =>
    obtain ⟨a, q⟩ := x
    obtain ⟨po, h1, h2, h3, h4⟩ := h
    exact ⟨po, h1, by rw [e a ⟨_, rfl, .inl rfl⟩]; exact h2, by rw [e q ⟨_, rfl, .inr rfl⟩]; exact h3, h4⟩

abbrev Rho := List (Option D)
abbrev FE := Rho → R D
inductive Md where
  | no | sh | ow | io | sb | xc (a dx : Addr)
  deriving DecidableEq, Inhabited
inductive Kd where
  | fr | cl | bo
  deriving DecidableEq
/-- ghosts: fixed while a def's body runs -/
structure G where
  pl : Pl
  E : Addr → Prop
  B : Hp
  ex : List (D × V) := []
  sx : List (Nat × D) := []

def TopR (pl : Pl) (K : PySem.W.Frag) (Hx : Hp) : D → Option HO → Prop
  | .lst ds, o => ∃ vs, o = some (.lst vs) ∧ Reps pl K Hx ds vs
  | .dk ds, o => ∃ vs, o = some (.dK vs) ∧ RepK pl K Hx ds vs
  | .dt ds, o => ∃ vs, o = some (.dT vs) ∧ RepT pl K Hx ds vs
  | .ins C fs, o => ∃ dx vs, o = some (.ins C dx vs) ∧ RepF pl K Hx fs vs
  | .tup ds, o => ∃ vs, o = some (.tup vs) ∧ Reps pl K Hx ds vs
  | _, _ => False
/-- a caught error: its fields, and its own dict -/
def XcR (pl : Pl) (K : PySem.W.Frag) (Hx : Hp) (d : D) (o : Option HO) : Prop := ∃ C fs vs, d = .ins C fs ∧ o = some (.xd vs) ∧ RepF pl K Hx fs vs
theorem XcR.mono {pl : Pl} {K : PySem.W.Frag} {Hx Hy : Hp} {d : D} {o : Option HO} (e : Ex Hx Hy) (h : XcR pl K Hx d o) : XcR pl K Hy d o :=
  let ⟨C, fs, vs, h1, h2, h3⟩ := h; ⟨C, fs, vs, h1, h2, h3.mono e⟩
theorem XcR.some {pl : Pl} {K : PySem.W.Frag} {Hx : Hp} {d : D} {o : Option HO} (h : XcR pl K Hx d o) : ∃ u, o = some u :=
  let ⟨_, _, vs, _, h2, _⟩ := h; ⟨_, h2⟩
theorem XcR.not_top {pl : Pl} {K : PySem.W.Frag} {Hx Hy : Hp} {d d' : D} {o : Option HO} (h : XcR pl K Hx d o) (t : TopR pl K Hy d' o) : False := by
  obtain ⟨C, fs, vs, h1, h2, h3⟩ := h
  subst h2
  cases d' with
  | lst _ => obtain ⟨vs, e, _⟩ := t; cases e
  | dk _ => obtain ⟨vs, e, _⟩ := t; cases e
  | dt _ => obtain ⟨vs, e, _⟩ := t; cases e
  | tup _ => obtain ⟨vs, e, _⟩ := t; cases e
  | ins _ _ => obtain ⟨dx, vs, e, _⟩ := t; cases e
  | _ => exact t.elim
theorem TopR.some {pl : Pl} {K : PySem.W.Frag} {Hx : Hp} {d : D} {o : Option HO} (h : TopR pl K Hx d o) : ∃ u, o = some u := by
  cases d with
  | lst _ => obtain ⟨vs, e, _⟩ := h; exact ⟨_, e⟩
  | dk _ => obtain ⟨vs, e, _⟩ := h; exact ⟨_, e⟩
  | dt _ => obtain ⟨vs, e, _⟩ := h; exact ⟨_, e⟩
  | tup _ => obtain ⟨vs, e, _⟩ := h; exact ⟨_, e⟩
  | ins _ _ => obtain ⟨dx, vs, e, _⟩ := h; exact ⟨_, e⟩
  | _ => exact h.elim
theorem TopR.mono {pl : Pl} {K : PySem.W.Frag} {Hx Hy : Hp} {d : D} {o : Option HO} (e : Ex Hx Hy) (h : TopR pl K Hx d o) : TopR pl K Hy d o := by
  cases d with
  | lst _ => obtain ⟨vs, q, r⟩ := h; exact ⟨vs, q, r.mono e⟩
  | dk _ => obtain ⟨vs, q, r⟩ := h; exact ⟨vs, q, r.mono e⟩
  | dt _ => obtain ⟨vs, q, r⟩ := h; exact ⟨vs, q, r.mono e⟩
  | tup _ => obtain ⟨vs, q, r⟩ := h; exact ⟨vs, q, r.mono e⟩
  | ins _ _ => obtain ⟨dx, vs, q, r⟩ := h; exact ⟨dx, vs, q, r.mono e⟩
  | _ => exact h.elim
theorem TopR.rep {pl : Pl} {K : PySem.W.Frag} {H : Hp} {d : D} {a : Addr} (h : TopR pl K H d (H a)) : Rep pl K H d (.ref a) := by
  cases d with
  | lst _ => obtain ⟨vs, q, r⟩ := h; unfold Rep; exact ⟨a, vs, rfl, q, r⟩
  | dk _ => obtain ⟨vs, q, r⟩ := h; unfold Rep; exact ⟨a, vs, rfl, .inl q, r⟩
  | dt _ => obtain ⟨vs, q, r⟩ := h; unfold Rep; exact ⟨a, vs, rfl, .inl q, r⟩
  | tup _ => obtain ⟨vs, q, r⟩ := h; unfold Rep; exact ⟨a, vs, rfl, .of q, r⟩
  | ins _ _ => obtain ⟨dx, vs, q, r⟩ := h; unfold Rep; exact ⟨a, dx, vs, rfl, q, r⟩
  | _ => exact h.elim
/-- .. where it is read only: a dict may be locked -/
def TopB (pl : Pl) (K : PySem.W.Frag) (Hx : Hp) (d : D) (o : Option HO) : Prop := TopR pl K Hx d o ∨
  (∃ ds vs ob, d = .dk ds ∧ o = some (.frz ob (.dK vs)) ∧ RepK pl K Hx ds vs) ∨ ∃ ds vs ob, d = .dt ds ∧ o = some (.frz ob (.dT vs)) ∧ RepT pl K Hx ds vs
theorem TopR.b {pl : Pl} {K : PySem.W.Frag} {Hx : Hp} {d : D} {o : Option HO} (h : TopR pl K Hx d o) : TopB pl K Hx d o := .inl h
theorem TopB.some {pl : Pl} {K : PySem.W.Frag} {Hx : Hp} {d : D} {o : Option HO} (h : TopB pl K Hx d o) : ∃ u, o = some u := by
  rcases h with h | ⟨_, _, _, _, h, _⟩ | ⟨_, _, _, _, h, _⟩
  · exact h.some
  · exact ⟨_, h⟩
  · exact ⟨_, h⟩
theorem TopB.mono {pl : Pl} {K : PySem.W.Frag} {Hx Hy : Hp} {d : D} {o : Option HO} (e : Ex Hx Hy) (h : TopB pl K Hx d o) : TopB pl K Hy d o := by
  rcases h with h | ⟨a, b, c, e1, e2, h⟩ | ⟨a, b, c, e1, e2, h⟩
  · exact .inl (h.mono e)
  · exact .inr (.inl ⟨a, b, c, e1, e2, h.mono e⟩)
  · exact .inr (.inr ⟨a, b, c, e1, e2, h.mono e⟩)
theorem TopB.rep {pl : Pl} {K : PySem.W.Frag} {H : Hp} {d : D} {a : Addr} (h : TopB pl K H d (H a)) : Rep pl K H d (.ref a) := by
  rcases h with h | ⟨ds, vs, c, e1, e2, h⟩ | ⟨ds, vs, c, e1, e2, h⟩
  · exact h.rep
  · subst e1; unfold Rep; exact ⟨a, vs, rfl, .inr ⟨c, e2⟩, h⟩
  · subst e1; unfold Rep; exact ⟨a, vs, rfl, .inr ⟨c, e2⟩, h⟩
theorem TopB.r {pl : Pl} {K : PySem.W.Frag} {Hx : Hp} {d : D} {o : Option HO} (h : TopB pl K Hx d o) (n1 : ∀ ds, d ≠ .dk ds) (n2 : ∀ ds, d ≠ .dt ds) : TopR pl K Hx d o := by
  rcases h with h | ⟨ds, vs, c, e1, e2, h⟩ | ⟨ds, vs, c, e1, e2, h⟩
  · exact h
  · exact (n1 _ e1).elim
  · exact (n2 _ e1).elim
/-- a value that is read: clean, or an object whose parts are clean -/
def RepB (pl : Pl) (K : PySem.W.Frag) (O : Addr → Prop) (H : Hp) (d : D) (v : V) : Prop :=
  Rep pl K (hid O H) d v ∨ ∃ a, v = .ref a ∧ ¬ plS pl a ∧ TopB pl K (hid O H) d (H a)
def RepQ (k : Kd) (pl : Pl) (K : PySem.W.Frag) (O : Addr → Prop) (H H' : Hp) (d : D) (v : V) : Prop := match k with
  | .cl => Rep pl K (hid O H') d v
  | .bo => RepB pl K O H' d v
  | .fr => ∃ p, v = .ref p ∧ H p = none ∧ TopR pl K (hid (fun a => O a ∨ a = p) H') d (H' p)

section
variable {pl : Pl} {K : PySem.W.Frag} {O : Addr → Prop} {H H' H2 : Hp} {d : D} {v : V} {ds : List D}
theorem RepB.mono (hO : ∀ a, plS pl a → O a) (e : Exo (plS pl) H H') (h : RepB pl K O H d v) : RepB pl K O H' d v := by
  rcases h with h | ⟨a, rfl, n, t⟩
  · exact .inl (h.mono (e.hid hO))
  · obtain ⟨u, hu⟩ := t.some
    refine .inr ⟨a, rfl, n, ?_⟩
    rw [e a u hu n, ← hu]
    exact t.mono (e.hid hO)
theorem RepB.full (h : RepB pl K O H d v) : Rep pl K H d v := by
  rcases h with h | ⟨a, rfl, n, t⟩
  · exact h.mono hid_ex
  · exact (t.mono hid_ex).rep
theorem RepB.lst (h : RepB pl K O H (.lst ds) v) : ∃ p vs, v = .ref p ∧ H p = some (.lst vs) ∧ Reps pl K (hid O H) ds vs := by
  rcases h with h | ⟨a, rfl, n, t⟩
  · unfold Rep at h
    obtain ⟨p, vs, h1, h2, h3⟩ := h
    exact ⟨p, vs, h1, hid_ex _ _ h2, h3⟩
  · obtain ⟨vs, q, r⟩ := t.r (fun _ z => nomatch z) (fun _ z => nomatch z)
    exact ⟨a, vs, rfl, q, r⟩
theorem RepB.tup (h : RepB pl K O H (.tup ds) v) : ∃ p vs, v = .ref p ∧ SqT K H p vs ∧ Reps pl K (hid O H) ds vs := by
  rcases h with h | ⟨a, rfl, n, t⟩
  · unfold Rep at h
    obtain ⟨p, vs, h1, h2, h3⟩ := h
    exact ⟨p, vs, h1, hid_ex.st h2, h3⟩
  · obtain ⟨vs, q, r⟩ := t.r (fun _ z => nomatch z) (fun _ z => nomatch z)
    exact ⟨a, vs, rfl, .of q, r⟩
theorem RepB.dk {ds : List (Key × D)} (h : RepB pl K O H (.dk ds) v) : ∃ p vs, v = .ref p ∧ Rd H p (.dK vs) ∧ RepK pl K (hid O H) ds vs := by
  rcases h with h | ⟨a, rfl, n, t⟩
  · unfold Rep at h
    obtain ⟨p, vs, h1, h2, h3⟩ := h
    exact ⟨p, vs, h1, hid_ex.rd h2, h3⟩
  · rcases t with ⟨vs, q, r⟩ | ⟨ds', vs, c, e1, e2, r⟩ | ⟨_, _, _, e1, _, _⟩
    · exact ⟨a, vs, rfl, .inl q, r⟩
    · cases e1; exact ⟨a, vs, rfl, .inr ⟨c, e2⟩, r⟩
    · cases e1
theorem RepB.dt {ds : List (List Key × D)} (h : RepB pl K O H (.dt ds) v) : ∃ p vs, v = .ref p ∧ Rd H p (.dT vs) ∧ RepT pl K (hid O H) ds vs := by
  rcases h with h | ⟨a, rfl, n, t⟩
  · unfold Rep at h
    obtain ⟨p, vs, h1, h2, h3⟩ := h
    exact ⟨p, vs, h1, hid_ex.rd h2, h3⟩
  · rcases t with ⟨vs, q, r⟩ | ⟨_, _, _, e1, _, _⟩ | ⟨ds', vs, c, e1, e2, r⟩
    · exact ⟨a, vs, rfl, .inl q, r⟩
    · cases e1
    · cases e1; exact ⟨a, vs, rfl, .inr ⟨c, e2⟩, r⟩
theorem RepB.ins {C : Addr} {fs : List (Str × D)} (h : RepB pl K O H (.ins C fs) v) : ∃ p dx vs, v = .ref p ∧ H p = some (.ins C dx vs) ∧ RepF pl K (hid O H) fs vs := by
  rcases h with h | ⟨a, rfl, n, t⟩
  · unfold Rep at h
    obtain ⟨p, dx, vs, h1, h2, h3⟩ := h
    exact ⟨p, dx, vs, h1, hid_ex _ _ h2, h3⟩
  · obtain ⟨dx, vs, q, r⟩ := t.r (fun _ z => nomatch z) (fun _ z => nomatch z)
    exact ⟨a, dx, vs, rfl, q, r⟩
/-- a value that needs no heap -/
theorem RepB.flat (h : RepB pl K O H d v) (f : d.flat = true) : Rep pl K (hid O H) d v := by
  rcases h with h | ⟨a, _, n, t⟩
  · exact h
  · rcases t with t | ⟨_, _, _, e1, _, _⟩ | ⟨_, _, _, e1, _, _⟩
    · cases d <;> first | exact t.elim | exact (Bool.noConfusion (show false = true from f))
    · subst e1; exact Bool.noConfusion (show false = true from f)
    · subst e1; exact Bool.noConfusion (show false = true from f)
theorem fresh_back {p : Addr} {ps : Ps} (e : Exo (plS pl) H H') (hp : PoolAt pl H' ps) (h : H' p = none) : H p = none := by
  cases q : H p with
  | none => rfl
  | some o =>
    by_cases z : plS pl p
    · exact absurd h (hp.there z)
    · rw [e p o q z] at h; cases h
theorem RepQ.cl_of_fr (hn : ∀ a, O a → H a ≠ none) (h : RepQ .fr pl K O H H' d v) : RepQ .cl pl K O H H' d v := by
  obtain ⟨p, rfl, hp, t⟩ := h
  have np : ¬ O p := fun z => hn p z hp
  have t' : TopR pl K (hid O H') d (hid O H' p) := by
    rw [hid_at np]
    exact t.mono (hid_sub fun a z => .inl z)
  exact t'.rep
theorem RepQ.bo_of_cl (h : RepQ .cl pl K O H H' d v) : RepQ .bo pl K O H H' d v := .inl h
/-- from a later start -/
theorem RepQ.back {k : Kd} {ps : Ps} (e : Exo (plS pl) H H') (hp : PoolAt pl H' ps) (h : RepQ k pl K O H' H2 d v) : RepQ k pl K O H H2 d v := by
  cases k with
  | cl => exact h
  | bo => exact h
  | fr =>
    obtain ⟨p, h1, h2, h3⟩ := h
    exact ⟨p, h1, fresh_back e hp h2, h3⟩
end

/-- what is hidden from clean values -/
def Xs (m : List Md) (own : Nat → Addr) (g : G) : Addr → Prop := fun a => g.E a ∨ plS g.pl a ∨ ∃ i, (m[i]? = some .ow ∨ m[i]? = some .io) ∧ own i = a
structure Rs (K : PySem.W.Frag) (g : G) (m : List Md) (own : Nat → Addr) (σ : L2.St) (ρ : Rho) (H : Hp) (ps : Ps) : Prop where
  len : ρ.length = σ.length
  sh : ∀ (i : Nat) (d : D), m[i]? = some .sh → ρ[i]? = some (some d) → ∃ v, σ[i]? = some (some v) ∧ Rep g.pl K (hid (Xs m own g) H) d v
  ow : ∀ (i : Nat), (m[i]? = some .ow ∨ m[i]? = some .io) → ∃ d, ρ[i]? = some (some d) ∧ σ[i]? = some (some (.ref (own i))) ∧ TopR g.pl K (hid (Xs m own g) H) d (H (own i)) ∧ g.B (own i) = none ∧ ¬ plS g.pl (own i)
  sb : ∀ (i : Nat) (d : D), m[i]? = some .sb → ρ[i]? = some (some d) → ∃ v, σ[i]? = some (some v) ∧ (Rep g.pl K (hid (Xs m own g) H) d v ∨ ∃ a, v = .ref a ∧ ¬ plS g.pl a ∧ (∀ (j : Nat), (m[j]? = some .ow ∨ m[j]? = some .io) → own j ≠ a) ∧ TopB g.pl K (hid (Xs m own g) H) d (H a))
  xc : ∀ (i : Nat) (a dx : Addr), m[i]? = some (.xc a dx) → ∃ d, ρ[i]? = some (some d) ∧ σ[i]? = some (some (.ref a)) ∧ XcR g.pl K (hid (Xs m own g) H) d (H dx) ∧ ¬ plS g.pl dx
  ex : ∀ p ∈ g.ex, Rep g.pl K (hid (Xs m own g) H) p.1 p.2
  sx : ∀ p ∈ g.sx, ∃ v, σ[p.1]? = some (some v) ∧ Rep g.pl K (hid (Xs m own g) H) p.2 v
  inj : ∀ (i j : Nat), (m[i]? = some .ow ∨ m[i]? = some .io) → (m[j]? = some .ow ∨ m[j]? = some .io) → own i = own j → i = j
  nE : ∀ (i : Nat), m[i]? = some .ow → ¬ g.E (own i)
  base : Exo (plS g.pl) g.B H
  pool : PoolAt g.pl H ps
  eT : ∀ a, g.E a → H a ≠ none

section
variable {K : PySem.W.Frag} {g : G} {m : List Md} {own : Nat → Addr} {σ : L2.St} {ρ : Rho} {H H' : Hp} {ps ps' : Ps}
theorem Xs.pl : ∀ a, plS g.pl a → Xs m own g a := fun _ h => .inr (.inl h)
theorem Rs.xT (r : Rs K g m own σ ρ H ps) : ∀ a, Xs m own g a → H a ≠ none := fun a h => by
  rcases h with h | h | ⟨i, h, rfl⟩
  · exact r.eT a h
  · exact r.pool.there h
  · obtain ⟨d, _, _, t, _⟩ := r.ow i h
    obtain ⟨u, hu⟩ := t.some
    rw [hu]; exact fun z => nomatch z
theorem Rs.mono (r : Rs K g m own σ ρ H ps) (e : Exo (plS g.pl) H H') (p : PoolAt g.pl H' ps') : Rs K g m own σ ρ H' ps' where
  len := r.len
  sh := fun i d h1 h2 => by
    obtain ⟨v, h3, h4⟩ := r.sh i d h1 h2
    exact ⟨v, h3, h4.mono (e.hid Xs.pl)⟩
  ow := fun i h => by
    obtain ⟨d, h1, h2, t, h4, h5⟩ := r.ow i h
    obtain ⟨u, hu⟩ := t.some
    refine ⟨d, h1, h2, ?_, h4, h5⟩
    rw [e _ u hu h5, ← hu]
    exact t.mono (e.hid Xs.pl)
  sb := fun i d h1 h2 => by
    obtain ⟨v, h3, h4⟩ := r.sb i d h1 h2
    refine ⟨v, h3, ?_⟩
    rcases h4 with h4 | ⟨a, ea, np, no, t⟩
    · exact .inl (h4.mono (e.hid Xs.pl))
    · obtain ⟨u, hu⟩ := t.some
      refine .inr ⟨a, ea, np, no, ?_⟩
      rw [e a u hu np, ← hu]
      exact t.mono (e.hid Xs.pl)
  xc := fun i a dx h => by
    obtain ⟨d, h1, h2, t, h5⟩ := r.xc i a dx h
    obtain ⟨u, hu⟩ := t.some
    refine ⟨d, h1, h2, ?_, h5⟩
    rw [e _ u hu h5, ← hu]
    exact t.mono (e.hid Xs.pl)
  ex := fun p hp => (r.ex p hp).mono (e.hid Xs.pl)
  sx := fun p hp => let ⟨v, h1, h2⟩ := r.sx p hp; ⟨v, h1, h2.mono (e.hid Xs.pl)⟩
  inj := r.inj
  nE := r.nE
  base := r.base.trans e
  pool := p
  eT := fun a h z => r.eT a h (fresh_back e p z)
end

/-- an exception's own dict -/
def ExR (pl : Pl) (K : PySem.W.Frag) (O : Addr → Prop) (H : Hp) (dx : Addr) (x : Exn) : Prop := ∃ vs, H dx = some (.xd vs) ∧ RepF pl K (hid O H) x.fs vs
/-- what is wanted of an exception holds -/
def WOk {α : Type} (W : WX) (pl : Pl) (K : PySem.W.Frag) (O : Addr → Prop) (σ : L2.St) (H : Hp) (r : Res α) : Prop :=
  ∀ x ps' dx H', r = .exc x ps' → Exo (plS pl) H H' → PoolAt pl H' ps' → ExR pl K O H' dx x → W (.ref x.cls) (some dx) σ H'
/-- what a value is -/
def QV (k : Kd) (pl : Pl) (K : PySem.W.Frag) (O : Addr → Prop) (H : Hp) (r : Res D) : VK := fun v H' =>
  ∃ d ps', r = .ok d ps' ∧ Exo (plS pl) H H' ∧ PoolAt pl H' ps' ∧ RepQ k pl K O H H' d v

/-- an expression is worth f -/
structure Dx (k : Kd) (X : Cx) (W : WX) (m : List Md) (e : Expr) (f : FE) : Prop where
  run : ∀ (g : G) (own : Nat → Addr) (pins : List (Addr × Obj)) (s : Shared) (σ : L2.St) (ρ : Rho) (H : Hp) (ps : Ps), Inv X pins σ H s → Rs X.K g m own σ ρ H ps → f ρ ps ≠ .und →
    WOk W g.pl X.K (Xs m own g) σ H (f ρ ps) → wpAny (model X.prog X.w) X.A (eval e X.env) (EP X pins σ (QV k g.pl X.K (Xs m own g) H (f ρ ps))) X.xe s
theorem epI {X : Cx} {pins : List (Addr × Obj)} {σ : L2.St} {Q Q' : VK} {u : Value} {s : Shared} (h : EP X pins σ Q u s) (q : ∀ v H, Q v H → Q' v H) : EP X pins σ Q' u s := by
  obtain ⟨v, H, I, r, z⟩ := h
  exact ⟨v, H, I, r, q v H z⟩
section
variable {X : Cx} {W : WX} {m : List Md} {e : Expr} {f : FE}
theorem Dx.cl (h : Dx .fr X W m e f) : Dx .cl X W m e f := ⟨fun g own pins s σ ρ H ps I r n w => thn (h.run g own pins s σ ρ H ps I r n w) fun _ _ q => epI q fun v H' ⟨d, ps', h1, h2, h3, h4⟩ => ⟨d, ps', h1, h2, h3, h4.cl_of_fr r.xT⟩⟩
theorem Dx.bo (h : Dx .cl X W m e f) : Dx .bo X W m e f := ⟨fun g own pins s σ ρ H ps I r n w => thn (h.run g own pins s σ ρ H ps I r n w) fun _ _ q => epI q fun v H' ⟨d, ps', h1, h2, h3, h4⟩ => ⟨d, ps', h1, h2, h3, h4.bo_of_cl⟩⟩
theorem Dx.fb (h : Dx .fr X W m e f) : Dx .bo X W m e f := h.cl.bo
/-- the canonical reading -/
def cE (X : Cx) (e : Expr) : TE := fun σ H Q => ∀ pins s, Inv X pins σ H s → wpAny (model X.prog X.w) X.A (eval e X.env) (EP X pins σ Q) X.xe s
theorem pe_c (X : Cx) (e : Expr) : PE X e (cE X e) := ⟨fun pins s σ H Q I h => h pins s I⟩
theorem cE.mono {e : Expr} {σ : L2.St} {H : Hp} {Q Q' : VK} (h : cE X e σ H Q) (q : ∀ v H, Q v H → Q' v H) : cE X e σ H Q' := fun pins s I => thn (h pins s I) fun _ _ z => epI z q
theorem Dx.c {k : Kd} (h : Dx k X W m e f) {g : G} {own : Nat → Addr} {σ : L2.St} {ρ : Rho} {H : Hp} {ps : Ps} (r : Rs X.K g m own σ ρ H ps) (n : f ρ ps ≠ .und) (w : WOk W g.pl X.K (Xs m own g) σ H (f ρ ps)) :
    cE X e σ H (QV k g.pl X.K (Xs m own g) H (f ρ ps)) := fun pins s I => h.run g own pins s σ ρ H ps I r n w
/-- from a HandS rule -/
theorem Dx.of {k : Kd} {t : TE} (h : PE X e t) (q : ∀ (g : G) (own : Nat → Addr) (σ : L2.St) (ρ : Rho) (H : Hp) (ps : Ps), Rs X.K g m own σ ρ H ps → f ρ ps ≠ .und → WOk W g.pl X.K (Xs m own g) σ H (f ρ ps) →
    t σ H (QV k g.pl X.K (Xs m own g) H (f ρ ps))) : Dx k X W m e f := ⟨fun g own pins s σ ρ H ps I r n w => h.run pins s σ H _ I (q g own σ ρ H ps r n w)⟩

/-! ### names, constants -/
def cF (d : D) : FE := fun _ => pure d
def vF (i : Nat) : FE := fun ρ => ofO (ρ[i]?.join)
theorem dx_c {v : V} {d : D} (h : PE X e (tC v)) (hd : ∀ (pl : Pl) (K : PySem.W.Frag) (H : Hp), Rep pl K H d v) : Dx .cl X W m e (cF d) :=
  .of h fun g own σ ρ H ps r n w => ⟨d, ps, rfl, Exo.refl, r.pool, hd _ _ _⟩
theorem dx_int {i j pos} : Dx .cl X W m (.Constant (.int i) j pos) (cF (.int i)) := dx_c pe_int fun _ _ _ => by unfold Rep; rfl
theorem dx_bl {b j pos} : Dx .cl X W m (.Constant (.bool b) j pos) (cF (.bl b)) := dx_c pe_bl fun _ _ _ => by unfold Rep; rfl
theorem dx_non {j pos} : Dx .cl X W m (.Constant .none j pos) (cF .non) := dx_c pe_non fun _ _ _ => by unfold Rep; rfl
theorem dx_str {x j pos} : Dx .cl X W m (.Constant (.str x) j pos) (cF (.str x)) := dx_c pe_str fun _ _ _ => by unfold Rep; rfl
theorem join_some {ρ : Rho} {i : Nat} {d : D} (h : ρ[i]?.join = some d) : ρ[i]? = some (some d) := by
  cases e : ρ[i]? with
  | none => rw [e] at h; cases h
  | some o => rw [e] at h; cases o with
    | none => cases h
    | some d' => cases h; rfl
theorem dx_v {i : Nat} {x : Str} {pos : Pos} (hN : X.N[i]? = some x) (hv : Vis X.env.scope x) (hm : m[i]? = some .sh) (hd : (x == ("__debug__" : Str)) = false := by decide) (hcd : (x == ("__classdict__" : Str)) = false := by decide) :
    Dx .cl X W m (.Name x pos) (vF i) := .of (pe_var hN hv hd hcd) fun g own σ ρ H ps r n w => by
  obtain ⟨d, h1, h2⟩ := ofO_ne n
  obtain ⟨v, h3, h4⟩ := r.sh i d hm (join_some h1)
  exact ⟨v, h3, d, ps, h2, Exo.refl, r.pool, h4⟩
/-- a mode whose value may be read -/
def Md.rd : Option Md → Bool
  | some .sh => true | some .ow => true | some .io => true | some .sb => true | _ => false
theorem dx_b {i : Nat} {x : Str} {pos : Pos} (hN : X.N[i]? = some x) (hv : Vis X.env.scope x) (hm : Md.rd m[i]? = true) (hd : (x == ("__debug__" : Str)) = false := by decide) (hcd : (x == ("__classdict__" : Str)) = false := by decide) :
    Dx .bo X W m (.Name x pos) (vF i) := .of (pe_var hN hv hd hcd) fun g own σ ρ H ps r n w => by
  obtain ⟨d, h1, h2⟩ := ofO_ne n
  have h1 := join_some h1
  have own_case : (m[i]? = some .ow ∨ m[i]? = some .io) → tVar i σ H (QV .bo g.pl X.K (Xs m own g) H (vF i ρ ps)) := fun q => by
    obtain ⟨d', h3, h4, h5, h6, h7⟩ := r.ow i q
    rw [h1] at h3; cases h3
    exact ⟨_, h4, d, ps, h2, Exo.refl, r.pool, .inr ⟨own i, rfl, h7, h5.b⟩⟩
  cases q : m[i]? with
  | none => rw [q] at hm; cases hm
  | some z => cases z with
    | no => rw [q] at hm; cases hm
    | xc a dx => rw [q] at hm; cases hm
    | sh =>
      obtain ⟨v, h3, h4⟩ := r.sh i d q h1
      exact ⟨v, h3, d, ps, h2, Exo.refl, r.pool, .inl h4⟩
    | sb =>
      obtain ⟨v, h3, h4⟩ := r.sb i d q h1
      refine ⟨v, h3, d, ps, h2, Exo.refl, r.pool, ?_⟩
      rcases h4 with h4 | ⟨a, ea, np, no, t⟩
      · exact .inl h4
      · exact .inr ⟨a, ea, np, t⟩
    | ow => exact own_case (.inl q)
    | io => exact own_case (.inr q)
/-- a name of the module -/
theorem dx_gl {x : Str} {v : V} {u : Value} {pos : Pos} {d : D} (hg : Gl X x) (hm : X.mg x = some u) (r : RelV v u) (hd : ∀ (pl : Pl) (H : Hp), Rep pl X.K H d v) (hdb : (x == ("__debug__" : Str)) = false := by decide) : Dx .cl X W m (.Name x pos) (cF d) :=
  .of (pe_glob hg hm r hdb) fun g own σ ρ H ps r n w => ⟨d, ps, rfl, Exo.refl, r.pool, hd _ _⟩

/-! ### two operands -/
section
variable {f1 f2 : FE} {α : Type}
theorem ne_of_bind {x : R α} {β : Type} {h : α → R β} {ps : Ps} (n : (x >>= h) ps ≠ .und) : x ps ≠ .und := fun z => n (bind_und z)
theorem WOk.left {W : WX} {pl : Pl} {K : PySem.W.Frag} {O : Addr → Prop} {σ : L2.St} {H : Hp} {x : R α} {β : Type} {h : α → R β} {ps : Ps} (w : WOk W pl K O σ H ((x >>= h) ps)) : WOk W pl K O σ H (x ps) :=
  fun e ps' dx H' q => w e ps' dx H' (bind_exc q)
theorem WOk.later {W : WX} {pl : Pl} {K : PySem.W.Frag} {O : Addr → Prop} {σ : L2.St} {H H1 : Hp} {r : Res α} (w : WOk W pl K O σ H r) (e : Exo (plS pl) H H1) : WOk W pl K O σ H1 r :=
  fun x ps' dx H' q e' => w x ps' dx H' q (e.trans e')
/-- an operator's D-function -/
def OpD (k : Kd) (X : Cx) (f : Value → Value → Sem Value) (F : D → D → R D) : Prop :=
  ∀ (pl : Pl) (O : Addr → Prop) (pins : List (Addr × Obj)) (s : Shared) (σ : L2.St) (H : Hp) (ps : Ps) (d1 d2 : D) (x y : V) (u v : Value), Inv X pins σ H s → (∀ a, plS pl a → O a) → (∀ a, O a → H a ≠ none) → PoolAt pl H ps → RepB pl X.K O H d1 x → RepB pl X.K O H d2 y → RelV x u → RelV y v →
    F d1 d2 ps ≠ .und → wpAny (model X.prog X.w) X.A (f u v) (EP X pins σ (QV k pl X.K O H (F d1 d2 ps))) X.xe s
def op2F (F : D → D → R D) (f1 f2 : FE) : FE := fun ρ => do let a ← f1 ρ; let b ← f2 ρ; F a b
theorem QV.back {k : Kd} {pl : Pl} {K : PySem.W.Frag} {O : Addr → Prop} {H H1 : Hp} {r r' : Res D} {ps : Ps} (e : Exo (plS pl) H H1) (hp : PoolAt pl H1 ps) (hr : r = r') : ∀ v H', QV k pl K O H1 r v H' → QV k pl K O H r' v H' := by
  subst hr
  exact fun v H' ⟨d, ps', h1, h2, h3, h4⟩ => ⟨d, ps', h1, e.trans h2, h3, h4.back e hp⟩
theorem dx_op2 {k : Kd} {a b : Expr} {e : Expr} {fv : Value → Value → Sem Value} {F : D → D → R D} (ho : OpD k X fv F) (ha : Dx .bo X W m a f1) (hb : Dx .bo X W m b f2)
    (he : ∀ {r : R2} {ta tb : TE}, OpR X fv r → PE X a ta → PE X b tb → PE X e (tOp r ta tb)) : Dx k X W m e (op2F F f1 f2) := by
  refine ⟨fun g own pins s σ ρ H ps I r n w => ?_⟩
  have hr : OpR X fv (fun x y H Q => ∀ pins s σ u v, Inv X pins σ H s → RelV x u → RelV y v → wpAny (model X.prog X.w) X.A (fv u v) (EP X pins σ Q) X.xe s) := fun pins s σ H x y u v Q I rx ry h => h pins s σ u v I rx ry
  refine (he hr (pe_c X a) (pe_c X b)).run pins s σ H _ I ?_
  have n1 : f1 ρ ps ≠ .und := ne_of_bind n
  refine cE.mono (ha.c r n1 (WOk.left w)) fun x H1 ⟨d1, ps1, e1, x1, p1, q1⟩ => ?_
  have r1 := r.mono x1 p1
  have c1 : op2F F f1 f2 ρ ps = (f2 ρ >>= fun b => F d1 b) ps1 := bind_ok e1
  have n2 : f2 ρ ps1 ≠ .und := ne_of_bind (by rw [← c1]; exact n)
  have w1 := WOk.later w x1
  rw [c1] at w1
  refine cE.mono (hb.c r1 n2 (WOk.left w1)) fun y H2 ⟨d2, ps2, e2, x2, p2, q2⟩ => ?_
  have c2 : (f2 ρ >>= fun b => F d1 b) ps1 = F d1 d2 ps2 := bind_ok e2
  intro pins2 s2 σ2 u v I2 rx ry
  have q1' := RepB.mono Xs.pl x2 q1
  have r2 := r1.mono x2 p2
  refine thn (ho g.pl (Xs m own g) pins2 s2 σ2 H2 ps2 d1 d2 x y u v I2 Xs.pl r2.xT p2 q1' q2 rx ry (by rw [← c2, ← c1]; exact n)) fun z s3 hz => epI hz ?_
  exact QV.back (x1.trans x2) p2 (c2.symm.trans c1.symm)
theorem dx_bin {k : Kd} {a b : Expr} {op : Operator} {F : D → D → R D} {pos : Pos} (ho : OpD k X (binaryOp op) F) (ha : Dx .bo X W m a f1) (hb : Dx .bo X W m b f2) : Dx k X W m (.BinOp a op b pos) (op2F F f1 f2) :=
  dx_op2 ho ha hb fun h1 h2 h3 => pe_op h1 h2 h3
theorem dx_cmp {k : Kd} {a b : Expr} {op : CmpOp} {F : D → D → R D} {pos : Pos} (ho : OpD k X (compareOp op) F) (ha : Dx .bo X W m a f1) (hb : Dx .bo X W m b f2) (hm : behindInMarks op b = false := by first | exact nomark _ | rfl) : Dx k X W m (.Compare a [op] [b] pos) (op2F F f1 f2) :=
  dx_op2 ho ha hb fun h1 h2 h3 => pe_cmpR h1 h2 h3 hm
end
end
end DL
set_option Elab.async false
set_option linter.all false
set_option maxRecDepth 100000
set_option maxHeartbeats 2000000
/-! D3: operators. -/
namespace DL
open PySem L2

/-- a value's own V, where it needs no heap -/
def D.fv : D → Option V
  | .non => some .non | .bl b => some (.bl b) | .int i => some (.int i) | .str s => some (.str s) | _ => none
theorem D.fv_rep {pl : Pl} {K : PySem.W.Frag} {H : Hp} {d : D} {v x : V} (h : Rep pl K H d v) (e : d.fv = some x) : v = x ∧ flatV x = true := by
  cases d <;> first | (unfold Rep at h; cases e; exact ⟨h, rfl⟩) | cases e
theorem D.fv_flat {d : D} {x : V} (e : d.fv = some x) : d.flat = true := by
  cases d <;> first | rfl | cases e

/-- ints in, an int out -/
def D.ints (C : Int → Int → Bool) (g : Int → Int → Int) : D → D → R D
  | .int i, .int j => if C i j = true then pure (.int (g i j)) else R.und
  | _, _ => R.und
section
variable {X : Cx}
theorem od_ints {f : Value → Value → Sem Value} {C' : Int → Int → Prop} {C : Int → Int → Bool} {g : Int → Int → Int} (h : OpR X f (rI C' fun i j => .int (g i j))) (hc : ∀ i j, C i j = true → C' i j) : OpD .cl X f (D.ints C g) := by
  intro pl O pins s σ H ps d1 d2 x y u v I hO hT p r1 r2 rx ry n
  cases d1 with
  | int i =>
    cases d2 with
    | int j =>
      have e1 := r1.flat rfl
      have e2 := r2.flat rfl
      unfold Rep at e1 e2
      subst e1 e2
      have hn : C i j = true := by
        cases q : C i j with
        | true => rfl
        | false =>
          refine (n ?_).elim
          show (if C i j = true then (pure (.int (g i j)) : R D) else R.und) ps = _
          rw [q]; rfl
      refine h pins s σ H _ _ u v _ I rx ry ⟨i, j, rfl, rfl, hc i j hn, .int (g i j), ps, ?_, Exo.refl, p, ?_⟩
      · show (if C i j = true then (pure (.int (g i j)) : R D) else R.und) ps = _
        rw [if_pos hn]; rfl
      · show Rep _ _ _ _ _
        unfold Rep; rfl
    | _ => exact (n rfl).elim
  | _ => exact (n rfl).elim
theorem od_sub : OpD .cl X (binaryOp .Sub) (D.ints (fun _ _ => true) fun i j => i - j) := od_ints (C' := fun _ _ => True) (by
  intro pins s σ H x y u v Q I rx ry ⟨i, j, e1, e2, _, q⟩
  exact op_sub pins s σ H x y u v Q I rx ry ⟨i, j, e1, e2, q⟩) fun _ _ _ => trivial
/-- how many bits -/
def bits (i : Int) : Nat := i.natAbs.log2 + 1
theorem bits_lt (i : Int) : i.natAbs < 2 ^ bits i := Nat.lt_log2_self
def D.mulC (i j : Int) : Bool := decide (bits i + bits j ≤ 1000000)
theorem od_mulI : OpD .cl X (binaryOp .Mult) (D.ints D.mulC fun i j => i * j) := od_ints op_mulW fun i j h =>
  wide_mul (bits_lt i) (bits_lt j) (Nat.succ_pos _) (Nat.succ_pos _) (of_decide_eq_true h)
def D.divC (_ : Int) (j : Int) : Bool := decide (0 < j) && decide (bits j ≤ 9000)
theorem od_fdiv : OpD .cl X (binaryOp .FloorDiv) (D.ints D.divC fun i j => i / j) := od_ints op_fdivW fun i j h => by
  unfold D.divC at h
  rw [Bool.and_eq_true] at h
  exact wide_div (of_decide_eq_true h.1) (bits_lt j) (Nat.succ_pos _) (of_decide_eq_true h.2)
theorem od_mod : OpD .cl X (binaryOp .Mod) (D.ints (fun _ j => decide (0 < j)) fun i j => i % j) := od_ints (C' := fun _ j => 0 < j) (by
  intro pins s σ H x y u v Q I rx ry ⟨i, j, e1, e2, c, q⟩
  refine op_modN pins s σ H x y u v Q I rx ry ⟨i, j, e1, e2, by omega, ?_⟩
  show Q (V.int (i.fmod j)) H
  rw [Int.fmod_eq_emod_of_nonneg _ (Int.le_of_lt c)]
  exact q) fun _ _ h => of_decide_eq_true h
theorem od_pow : OpD .cl X (binaryOp .Pow) (D.ints (fun i j => decide (0 ≤ j ∧ j ≤ 1000000 ∧ i.natAbs < 2 ^ 64)) fun i j => i ^ j.toNat) := od_ints op_pow fun i j h => by
  have h := of_decide_eq_true h
  exact h

/-- a new list -/
theorem laid_fr {pl : Pl} {K : PySem.W.Frag} {O : Addr → Prop} {H : Hp} {ps : Ps} {p : Addr} {vs : List V} {ds : List D} {r : Res D} (hO : ∀ a, O a → H a ≠ none) (hP : PoolAt pl H ps) (hp : H p = none) (hr : Reps pl K (hid O H) ds vs) (e : r = .ok (.lst ds) ps) :
    QV .fr pl K O H r (.ref p) (upd H p (.lst vs)) := by
  refine ⟨_, _, e, Exo.new hp, hP.new hp, p, rfl, hp, vs, upd_same, hr.mono fun a o q => ?_⟩
  obtain ⟨n, q⟩ := hid_of q
  have na : a ≠ p := ne_of_none q hp
  rw [hid_at (by rintro (z | z); exact n z; exact na z), upd_ne na]
  exact q
theorem QV.cl {pl : Pl} {K : PySem.W.Frag} {O : Addr → Prop} {H H' : Hp} {r : Res D} {v : V} (hn : ∀ a, O a → H a ≠ none) (h : QV .fr pl K O H r v H') : QV .cl pl K O H r v H' := by
  obtain ⟨d, ps, h1, h2, h3, h4⟩ := h
  exact ⟨d, ps, h1, h2, h3, h4.cl_of_fr hn⟩
def lenC (n : Nat) : Bool := decide (n ≤ 1000000)
theorem lenC_ok {n : Nat} (h : lenC n = true) : n ≤ sizeLine := Nat.le_trans (of_decide_eq_true h) (by decide)
def D.add : D → D → R D
  | .int i, .int j => pure (.int (i + j))
  | .str a, .str b => if lenC (a.length + b.length) = true then pure (.str (a ++ b)) else R.und
  | .lst a, .lst b => if lenC (a.length + b.length) = true then pure (.lst (a ++ b)) else R.und
  | _, _ => R.und
theorem if_und {c : Bool} {x : R D} {ps : Ps} (n : (if c = true then x else R.und) ps ≠ .und) : c = true ∧ (if c = true then x else R.und) ps = x ps := by
  cases c with
  | true => exact ⟨rfl, rfl⟩
  | false => exact (n rfl).elim
theorem od_add : OpD .cl X (binaryOp .Add) D.add := by
  intro pl O pins s σ H ps d1 d2 x y u v I hO hT p r1 r2 rx ry n
  cases d1 with
  | int i =>
    cases d2 with
    | int j =>
      have e1 := r1.flat rfl
      have e2 := r2.flat rfl
      unfold Rep at e1 e2
      subst e1 e2
      refine op_add pins s σ H _ _ u v _ I rx ry ⟨i, j, rfl, rfl, .int (i + j), ps, rfl, Exo.refl, p, ?_⟩
      show Rep _ _ _ _ _
      unfold Rep; rfl
    | _ => exact (n rfl).elim
  | str i =>
    cases d2 with
    | str j =>
      have e1 := r1.flat rfl
      have e2 := r2.flat rfl
      unfold Rep at e1 e2
      subst e1 e2
      obtain ⟨hc, he⟩ := if_und n
      refine op_add_str pins s σ H _ _ u v _ I rx ry ⟨i, j, rfl, rfl, lenC_ok hc, .str (i ++ j), ps, he, Exo.refl, p, ?_⟩
      show Rep _ _ _ _ _
      unfold Rep; rfl
    | _ => exact (n rfl).elim
  | lst a =>
    cases d2 with
    | lst b =>
      obtain ⟨hc, he⟩ := if_und n
      obtain ⟨q1, xs, rfl, h1, t1⟩ := r1.lst
      obtain ⟨q2, ys, rfl, h2, t2⟩ := r2.lst
      refine op_cat pins s σ H _ _ u v _ I rx ry ⟨q1, q2, xs, ys, rfl, rfl, h1, h2, ?_, fun z hz => QV.cl hT (laid_fr hT p hz (t1.append t2) he)⟩
      rw [t1.length, t2.length]
      exact lenC_ok hc
    | _ => exact (n rfl).elim
  | _ => exact (n rfl).elim
/-- a list many times -/
def rep (ds : List D) : Nat → List D
  | 0 => []
  | n + 1 => ds ++ rep ds n
def D.mul : D → D → R D
  | .int i, .int j => if D.mulC i j = true then pure (.int (i * j)) else R.und
  | .lst a, .int k => if decide (k < 1000000) && lenC (a.length * k.toNat) = true then pure (.lst (List.replicate k.toNat a).flatten) else R.und
  | _, _ => R.und
theorem Reps.many {pl : Pl} {K : PySem.W.Frag} {H : Hp} {ds : List D} {vs : List V} (h : Reps pl K H ds vs) : ∀ n : Nat, Reps pl K H (List.replicate n ds).flatten (List.replicate n vs).flatten
  | 0 => Reps.nil
  | n + 1 => by
    rw [List.replicate_succ, List.replicate_succ, List.flatten_cons, List.flatten_cons]
    exact h.append (h.many n)
/-- true and false -/
theorem qv_bl {pl : Pl} {K : PySem.W.Frag} {O : Addr → Prop} {H : Hp} {ps : Ps} {b : Bool} {r : Res D} (p : PoolAt pl H ps) (e : r = .ok (.bl b) ps) : QV .cl pl K O H r (.bl b) H := by
  refine ⟨_, _, e, Exo.refl, p, ?_⟩
  show Rep _ _ _ _ _
  unfold Rep; rfl
theorem qv_int {pl : Pl} {K : PySem.W.Frag} {O : Addr → Prop} {H : Hp} {ps : Ps} {b : Int} {r : Res D} (p : PoolAt pl H ps) (e : r = .ok (.int b) ps) : QV .cl pl K O H r (.int b) H := by
  refine ⟨_, _, e, Exo.refl, p, ?_⟩
  show Rep _ _ _ _ _
  unfold Rep; rfl
theorem qv_str {pl : Pl} {K : PySem.W.Frag} {O : Addr → Prop} {H : Hp} {ps : Ps} {b : Str} {r : Res D} (p : PoolAt pl H ps) (e : r = .ok (.str b) ps) : QV .cl pl K O H r (.str b) H := by
  refine ⟨_, _, e, Exo.refl, p, ?_⟩
  show Rep _ _ _ _ _
  unfold Rep; rfl
/-- comparisons of ints -/
def D.cmp (g : Int → Int → Bool) : D → D → R D
  | .int i, .int j => pure (.bl (g i j))
  | _, _ => R.und
theorem od_cmp {f : Value → Value → Sem Value} {g : Int → Int → Bool} (h : OpR X f (rI0 fun i j => .bl (g i j))) : OpD .cl X f (D.cmp g) := by
  intro pl O pins s σ H ps d1 d2 x y u v I hO hT p r1 r2 rx ry n
  cases d1 with
  | int i =>
    cases d2 with
    | int j =>
      have e1 := r1.flat rfl
      have e2 := r2.flat rfl
      unfold Rep at e1 e2
      subst e1 e2
      exact h pins s σ H _ _ u v _ I rx ry ⟨i, j, rfl, rfl, qv_bl p rfl⟩
    | _ => exact (n rfl).elim
  | _ => exact (n rfl).elim
theorem od_lt : OpD .cl X (compareOp .Lt) (D.cmp fun i j => decide (i < j)) := od_cmp op_lt
theorem od_le : OpD .cl X (compareOp .LtE) (D.cmp fun i j => decide (i ≤ j)) := od_cmp op_le
theorem od_gt : OpD .cl X (compareOp .Gt) (D.cmp fun i j => decide (j < i)) := od_cmp op_gt
theorem od_ge : OpD .cl X (compareOp .GtE) (D.cmp fun i j => decide (j ≤ i)) := od_cmp op_ge

/-! ### == of data -/
def eqAll (e : D → D → Option Bool) : List D → List D → Option Bool
  | a :: r, b :: t => match e a b, eqAll e r t with
    | some x, some y => some (x && y)
    | _, _ => none
  | _, _ => some true
/-- all pairs of the first are in the second -/
def eqPairs {κ : Type} [DecidableEq κ] (e : D → D → Option Bool) (kb : List (κ × D)) : List (κ × D) → Option Bool
  | [] => some true
  | (k, a) :: r => match kb.find? (fun p => decide (p.1 = k)), eqPairs e kb r with
    | none, some _ => some false
    | some (_, b), some y => match e a b with
      | some x => some (x && y)
      | none => none
    | _, none => none
def D.eqn : Nat → D → D → Option Bool
  | 0 => fun _ _ => none
  | n + 1 => fun x y => match x, y with
    | .lst a, .lst b => if a.length = b.length then eqAll (D.eqn n) a b else some false
    | .tup a, .tup b => (eqAll (D.eqn n) a b).map fun q => q && a.length == b.length
    | .dk a, .dk b => (eqPairs (D.eqn n) b a).map fun q => a.length == b.length && q
    | x, y => match x.fv, y.fv with
      | some u, some v => some (eqV u v)
      | _, _ => none
end
end DL
set_option Elab.async false
set_option linter.all false
set_option maxRecDepth 100000
set_option maxHeartbeats 2000000
/-! D4: == of data. -/
namespace DL
open PySem L2

theorem eqAll_spec {e : D → D → Option Bool} : ∀ {a b : List D} {r : Bool}, eqAll e a b = some r →
    (∀ (j : Nat) x y, a[j]? = some x → b[j]? = some y → ∃ c, e x y = some c) ∧ (r = true ↔ ∀ (j : Nat) x y, a[j]? = some x → b[j]? = some y → e x y = some true)
  | [], b, r, h => by
    have : r = true := by cases b <;> (unfold eqAll at h; exact (Option.some.inj h).symm)
    exact ⟨fun j x y q => by simp at q, by simp [this]⟩
  | x :: a, [], r, h => by
    have : r = true := by unfold eqAll at h; exact (Option.some.inj h).symm
    exact ⟨fun j x y _ q => by simp at q, by simp [this]⟩
  | x :: a, y :: b, r, h => by
    unfold eqAll at h
    cases h1 : e x y with
    | none => rw [h1] at h; simp at h
    | some c =>
      cases h2 : eqAll e a b with
      | none => rw [h1, h2] at h; simp at h
      | some c2 =>
        rw [h1, h2] at h
        have h := Option.some.inj h
        obtain ⟨i1, i2⟩ := eqAll_spec h2
        refine ⟨fun j x' y' q1 q2 => ?_, ?_⟩
        · cases j with
          | zero => simp at q1 q2; subst q1 q2; exact ⟨c, h1⟩
          | succ j => exact i1 j x' y' (by simpa using q1) (by simpa using q2)
        · rw [← h, Bool.and_eq_true]
          refine ⟨fun ⟨q1, q2⟩ j x' y' q3 q4 => ?_, fun q => ⟨?_, i2.mpr fun j x' y' q3 q4 => q (j + 1) x' y' (by simpa using q3) (by simpa using q4)⟩⟩
          · cases j with
            | zero => simp at q3 q4; subst q3 q4; rw [h1, q1]
            | succ j => exact i2.mp q2 j x' y' (by simpa using q3) (by simpa using q4)
          · have := q 0 x y rfl rfl
            rw [h1] at this
            exact Option.some.inj this
def findD {κ : Type} [DecidableEq κ] (kb : List (κ × D)) (k : κ) : Option D := (kb.find? fun p => decide (p.1 = k)).map (·.2)
theorem eqPairs_spec {κ : Type} [DecidableEq κ] {e : D → D → Option Bool} {kb : List (κ × D)} : ∀ {a : List (κ × D)} {r : Bool}, eqPairs e kb a = some r →
    (∀ k x y, (k, x) ∈ a → findD kb k = some y → ∃ c, e x y = some c) ∧ (r = true ↔ ∀ k x, (k, x) ∈ a → ∃ y, findD kb k = some y ∧ e x y = some true)
  | [], r, h => by
    unfold eqPairs at h
    have := (Option.some.inj h).symm
    exact ⟨fun k x y q => by simp at q, by simp [this]⟩
  | (k, x) :: a, r, h => by
    unfold eqPairs at h
    cases h2 : eqPairs e kb a with
    | none => rw [h2] at h; cases h1 : kb.find? (fun p => decide (p.1 = k)) <;> (rw [h1] at h; simp at h)
    | some c2 =>
      obtain ⟨i1, i2⟩ := eqPairs_spec h2
      cases h1 : kb.find? (fun p => decide (p.1 = k)) with
      | none =>
        have hf : findD kb k = none := by unfold findD; rw [h1]; rfl
        rw [h1, h2] at h
        have h := (Option.some.inj h).symm
        subst h
        refine ⟨fun k' x' y q1 q2 => ?_, by simp, fun q => ?_⟩
        · rcases List.mem_cons.mp q1 with q | q
          · cases q; rw [hf] at q2; cases q2
          · exact i1 k' x' y q q2
        · obtain ⟨y, q1, _⟩ := q k x (List.mem_cons_self ..)
          rw [hf] at q1; cases q1
      | some p =>
        obtain ⟨k', y⟩ := p
        have hf : findD kb k = some y := by unfold findD; rw [h1]; rfl
        rw [h1, h2] at h
        cases h3 : e x y with
        | none => simp only [h3] at h; cases h
        | some c =>
          simp only [h3] at h
          have h := Option.some.inj h
          refine ⟨fun k' x' y' q1 q2 => ?_, ?_⟩
          · rcases List.mem_cons.mp q1 with q | q
            · cases q; rw [hf] at q2; cases q2; exact ⟨c, h3⟩
            · exact i1 k' x' y' q q2
          · rw [← h, Bool.and_eq_true]
            refine ⟨fun ⟨q1, q2⟩ k' x' q => ?_, fun q => ⟨?_, i2.mpr fun k' x' z => q k' x' (List.mem_cons_of_mem _ z)⟩⟩
            · rcases List.mem_cons.mp q with z | z
              · cases z; exact ⟨y, hf, by rw [h3, q1]⟩
              · exact i2.mp q2 k' x' z
            · obtain ⟨y', q1, q2⟩ := q k x (List.mem_cons_self ..)
              rw [hf] at q1; cases q1
              rw [h3] at q2
              exact Option.some.inj q2

section
variable {pl : Pl} {K : PySem.W.Frag} {H : Hp}
theorem RepK.length : ∀ {ds : List (Key × D)} {vs : List (Key × V)}, RepK pl K H ds vs → vs.length = ds.length
  | [], _, h => by unfold RepK at h; rw [h]; rfl
  | (_, _) :: _, _, h => by
    unfold RepK at h
    obtain ⟨v, r, rfl, _, h3⟩ := h
    rw [List.length_cons, List.length_cons, RepK.length h3]
theorem RepK.keys : ∀ {ds : List (Key × D)} {vs : List (Key × V)}, RepK pl K H ds vs → vs.map (·.1) = ds.map (·.1)
  | [], _, h => by unfold RepK at h; rw [h]; rfl
  | (_, _) :: _, _, h => by
    unfold RepK at h
    obtain ⟨v, r, rfl, _, h3⟩ := h
    rw [List.map_cons, List.map_cons, RepK.keys h3]
theorem RepK.val : ∀ {ds : List (Key × D)} {vs : List (Key × V)} (k : Key), RepK pl K H ds vs →
    (findD ds k = none ∧ valV vs k = none) ∨ ∃ d v, findD ds k = some d ∧ valV vs k = some v ∧ Rep pl K H d v
  | [], _, k, h => by unfold RepK at h; rw [h]; exact .inl ⟨rfl, rfl⟩
  | (k', d) :: ds, _, k, h => by
    unfold RepK at h
    obtain ⟨v, r, rfl, h2, h3⟩ := h
    by_cases e : k' = k
    · refine .inr ⟨d, v, ?_, valV_pos e, h2⟩
      unfold findD; rw [List.find?_cons_of_pos (by simpa using e)]; rfl
    · have q1 : findD ((k', d) :: ds) k = findD ds k := by unfold findD; rw [List.find?_cons_of_neg (by simpa using e)]
      rw [q1, valV_neg e]
      exact RepK.val k h3
theorem RepK.mem : ∀ {ds : List (Key × D)} {vs : List (Key × V)} {k : Key} {v : V}, RepK pl K H ds vs → (k, v) ∈ vs → ∃ d, (k, d) ∈ ds ∧ Rep pl K H d v
  | [], _, k, v, h, q => by unfold RepK at h; rw [h] at q; cases q
  | (k', d) :: ds, _, k, v, h, q => by
    unfold RepK at h
    obtain ⟨v', r, rfl, h2, h3⟩ := h
    rcases List.mem_cons.mp q with q | q
    · cases q; exact ⟨d, List.mem_cons_self .., h2⟩
    · obtain ⟨d', m, q'⟩ := RepK.mem h3 q
      exact ⟨d', List.mem_cons_of_mem _ m, q'⟩
theorem RepK.memD : ∀ {ds : List (Key × D)} {vs : List (Key × V)} {k : Key} {d : D}, RepK pl K H ds vs → (k, d) ∈ ds → ∃ v, (k, v) ∈ vs ∧ Rep pl K H d v
  | [], _, k, v, h, q => nomatch q
  | (k', d) :: ds, _, k, v, h, q => by
    unfold RepK at h
    obtain ⟨v', r, rfl, h2, h3⟩ := h
    rcases List.mem_cons.mp q with q | q
    · cases q; exact ⟨v', List.mem_cons_self .., h2⟩
    · obtain ⟨d', m, q'⟩ := RepK.memD h3 q
      exact ⟨d', List.mem_cons_of_mem _ m, q'⟩
end
theorem valV_of_mem {κ : Type} [DecidableEq κ] : ∀ {us : List (κ × V)} {k : κ} {v : V}, (us.map (·.1)).Nodup → (k, v) ∈ us → valV us k = some v
  | a :: r, k, v, nd, h => by
    have nd' := List.nodup_cons.mp nd
    rcases List.mem_cons.mp h with z | z
    · subst z; exact valV_pos rfl
    · have hne : ¬ a.1 = k := fun e => nd'.1 (by show a.1 ∈ _; rw [e]; exact List.mem_map_of_mem (f := (·.1)) z)
      rw [valV_neg hne]
      exact valV_of_mem nd'.2 z
theorem kv_at {κ : Type} : ∀ {kvs : List (κ × V)} {vs : List (κ × Value)} {i : Nat} {k : κ} {v : Value}, KV kvs vs → vs[i]? = some (k, v) → ∃ x, kvs[i]? = some (k, x) ∧ RelV x v
  | _, _, _, _, _, .nil, h => by simp at h
  | (k', x) :: _, (k2, u) :: _, 0, k, v, .cons r t, h => by
    simp at h
    obtain ⟨rfl, rfl⟩ := h
    obtain ⟨e, q⟩ := r
    have e : k' = k2 := e
    subst e
    exact ⟨x, rfl, q⟩
  | _, _, i + 1, k, v, .cons r t, h => by
    obtain ⟨x, h1, h2⟩ := kv_at (i := i) t (by simpa using h)
    exact ⟨x, by simpa using h1, h2⟩
theorem eqV_refl : ∀ {v : V}, flatV v = true → eqV v v = true := by
  intro v h
  cases v <;> first | rfl | (show (_ == _) = true; exact beq_self_eq_true _) | exact Bool.noConfusion (show false = true from h)

section
variable {X : Cx} {pins : List (Addr × Obj)} {σ : L2.St} {H : Hp} {s : Shared} {pl : Pl}
theorem eqn_flat {n : Nat} {a b : D} {r : Bool} (h : D.eqn (n + 1) a b = some r) : (∃ x y, a = .lst x ∧ b = .lst y) ∨ (∃ x y, a = .tup x ∧ b = .tup y) ∨ (∃ x y, a = .dk x ∧ b = .dk y) ∨ ∃ x y, a.fv = some x ∧ b.fv = some y ∧ r = eqV x y := by
  have go : ∀ {x y : Option V}, (match x, y with | some u, some v => some (eqV u v) | _, _ => none) = some r → ∃ u v, x = some u ∧ y = some v ∧ r = eqV u v := by
    intro x y q
    cases x with
    | none => cases q
    | some u => cases y with
      | none => cases q
      | some v => cases q; exact ⟨u, v, rfl, rfl, rfl⟩
  cases a <;> cases b <;> first
    | exact .inl ⟨_, _, rfl, rfl⟩
    | exact .inr (.inl ⟨_, _, rfl, rfl⟩)
    | exact .inr (.inr (.inl ⟨_, _, rfl, rfl⟩))
    | (refine .inr (.inr (.inr ?_)); unfold D.eqn at h; exact go h)
/-- one object is equal to itself -/
theorem eqn_same (hok : HOk X.prog X.w H s.heap) (I : Inv X pins σ H s) : ∀ (n : Nat) (a b : D) (v : V) (r : Bool), Rep pl X.K H a v → Rep pl X.K H b v → D.eqn n a b = some r → r = true
  | 0, _, _, _, _, _, _, h => nomatch h
  | n + 1, a, b, v, r, ra, rb, h => by
    have items : ∀ {x y : List D} {vs : List V} {c : Bool}, Reps pl X.K H x vs → Reps pl X.K H y vs → eqAll (D.eqn n) x y = some c → c = true := fun {x y vs c} h1 h2 q => by
      obtain ⟨i1, i2⟩ := eqAll_spec q
      refine i2.mpr fun j x' y' q1 q2 => ?_
      obtain ⟨u1, e1, t1⟩ := h1.get q1
      obtain ⟨u2, e2, t2⟩ := h2.get q2
      rw [e1] at e2; cases e2
      obtain ⟨c', hc⟩ := i1 j x' y' q1 q2
      rw [hc, eqn_same hok I n x' y' u1 c' t1 t2 hc]
    rcases eqn_flat h with ⟨x, y, rfl, rfl⟩ | ⟨x, y, rfl, rfl⟩ | ⟨x, y, rfl, rfl⟩ | ⟨x, y, ex, ey, rfl⟩
    · unfold Rep at ra rb
      obtain ⟨p, vs, rfl, h1, t1⟩ := ra
      obtain ⟨q, us, e, h2, t2⟩ := rb
      cases e
      rw [h1] at h2; cases h2
      have hl : x.length = y.length := by rw [← t1.length, ← t2.length]
      have h' : (if x.length = y.length then eqAll (D.eqn n) x y else some false) = some r := h
      rw [if_pos hl] at h'
      exact items t1 t2 h'
    · unfold Rep at ra rb
      obtain ⟨p, vs, rfl, h1, t1⟩ := ra
      obtain ⟨q, us, e, h2, t2⟩ := rb
      cases e
      have e := I.tuple_inj h1 h2
      subst e
      have hl : x.length = y.length := by rw [← t1.length, ← t2.length]
      have h' : (eqAll (D.eqn n) x y).map (fun q => q && x.length == y.length) = some r := h
      cases hc : eqAll (D.eqn n) x y with
      | none => rw [hc] at h'; cases h'
      | some c =>
        rw [hc] at h'
        have h' := Option.some.inj h'
        rw [← h', items t1 t2 hc, hl]; simp
    · unfold Rep at ra rb
      obtain ⟨p, vs, rfl, h1, t1⟩ := ra
      obtain ⟨q, us, e, h2, t2⟩ := rb
      cases e
      have e : us = vs := by
        rcases h1 with h1 | ⟨o, h1⟩ <;> rcases h2 with h2 | ⟨o', h2⟩ <;> (rw [h1] at h2; cases h2) <;> rfl
      subst e
      have hl : x.length = y.length := by rw [← t1.length, ← t2.length]
      obtain ⟨_, _, ws, kw, hd⟩ := dk_rd hok h1
      have nd : (us.map (·.1)).Nodup := by
        rw [kw.keys]
        obtain ⟨_, _, _, _, _, _, _, _, nd⟩ := hd
        exact nd
      have h' : (eqPairs (D.eqn n) y x).map (fun q => x.length == y.length && q) = some r := h
      cases hc : eqPairs (D.eqn n) y x with
      | none => rw [hc] at h'; cases h'
      | some c =>
        rw [hc] at h'
        have h' := Option.some.inj h'
        obtain ⟨i1, i2⟩ := eqPairs_spec hc
        have hc' : c = true := i2.mpr fun k d hm => by
          obtain ⟨v, hv, tv⟩ := t1.memD hm
          have q : valV us k = some v := valV_of_mem nd hv
          rcases t2.val k with ⟨_, z⟩ | ⟨d', v', z1, z2, z3⟩
          · rw [q] at z; cases z
          · rw [q] at z2; cases z2
            obtain ⟨c', hc'⟩ := i1 k d d' hm z1
            exact ⟨d', z1, by rw [hc', eqn_same hok I n d d' v c' tv z3 hc']⟩
        rw [← h', hc', hl]; simp
    · obtain ⟨e1, f1⟩ := D.fv_rep ra ex
      obtain ⟨e2, f2⟩ := D.fv_rep rb ey
      subst e1 e2
      exact eqV_refl f1
theorem eqn_tree (I : Inv X pins σ H s) : ∀ (n : Nat) (a b : D) (x y : V) (u v : Value) (r : Bool), Rep pl X.K H a x → Rep pl X.K H b y → RelV x u → RelV y v → D.eqn n a b = some r → PySem.W.EqTree X.prog X.w s n u v r
  | 0, _, _, _, _, _, _, _, _, _, _, _, h => nomatch h
  | n + 1, a, b, x, y, u, v, r, ra, rb, rx, ry, h => by
    by_cases hxy : x = y
    · subst hxy
      have huv : u = v ∨ flatV x = true := by
        cases x with
        | ref q => left; rw [show u = Value.ref q from rx, show v = Value.ref q from ry]
        | non => exact .inr rfl
        | bl _ => exact .inr rfl
        | int _ => exact .inr rfl
        | str _ => exact .inr rfl
        | byt _ => left; rcases eqn_flat h with ⟨x, y, rfl, rfl⟩ | ⟨x, y, rfl, rfl⟩ | ⟨x, y, rfl, rfl⟩ | ⟨x, y, ex, ey, rfl⟩ <;> first
          | (unfold Rep at ra; obtain ⟨p, vs, e, _⟩ := ra; cases e)
          | (obtain ⟨e1, f1⟩ := D.fv_rep ra ex; subst e1; cases f1)
        | flt _ => left; rcases eqn_flat h with ⟨x, y, rfl, rfl⟩ | ⟨x, y, rfl, rfl⟩ | ⟨x, y, rfl, rfl⟩ | ⟨x, y, ex, ey, rfl⟩ <;> first
          | (unfold Rep at ra; obtain ⟨p, vs, e, _⟩ := ra; cases e)
          | (obtain ⟨e1, f1⟩ := D.fv_rep ra ex; subst e1; cases f1)
        | ty _ => left; rcases eqn_flat h with ⟨x, y, rfl, rfl⟩ | ⟨x, y, rfl, rfl⟩ | ⟨x, y, rfl, rfl⟩ | ⟨x, y, ex, ey, rfl⟩ <;> first
          | (unfold Rep at ra; obtain ⟨p, vs, e, _⟩ := ra; cases e)
          | (obtain ⟨e1, f1⟩ := D.fv_rep ra ex; subst e1; cases f1)
      have hr := eqn_same I.hok I (n + 1) a b x r ra rb h
      subst hr
      rcases huv with rfl | f
      · exact .same
      · refine .leaf fun A _ => ?_
        have q := L2.eqAt_V (A := A) (s := s) rx ry f f
        rw [eqV_refl f] at q
        exact q
    rcases eqn_flat h with ⟨xs, ys, rfl, rfl⟩ | ⟨xs, ys, rfl, rfl⟩ | ⟨xs, ys, rfl, rfl⟩ | ⟨x', y', ex, ey, rfl⟩
    · unfold Rep at ra rb
      obtain ⟨p, vs, rfl, h1, t1⟩ := ra
      obtain ⟨q, us, rfl, h2, t2⟩ := rb
      cases rx
      cases ry
      have hpq : p ≠ q := fun e => hxy (by rw [e])
      obtain ⟨its, v1, l1, _⟩ := I.list (.of h1)
      obtain ⟨its2, v2, l2, _⟩ := I.list (.of h2)
      have e1 : its.length = xs.length := by rw [← v1.length, t1.length]
      have e2 : its2.length = ys.length := by rw [← v2.length, t2.length]
      have h' : (if xs.length = ys.length then eqAll (D.eqn n) xs ys else some false) = some r := h
      by_cases hl : xs.length = ys.length
      · rw [if_pos hl] at h'
        obtain ⟨i1, i2⟩ := eqAll_spec h'
        have key := PySem.W.EqTree.lists (n := n) (prog := X.prog) (w := X.w) (e := fun j => match xs[j]?, ys[j]? with | some a, some b => D.eqn n a b == some true | _, _ => false) hpq l1.isList l2.isList (by simp [e1, e2, hl]) fun j z1 z2 => by
          have z1' : j < xs.length := by simpa [e1] using z1
          have z2' : j < ys.length := by simpa [e2] using z2
          obtain ⟨c, hc⟩ := i1 j _ _ (List.getElem?_eq_getElem z1') (List.getElem?_eq_getElem z2')
          obtain ⟨w1, g1, k1⟩ := t1.get (List.getElem?_eq_getElem z1')
          obtain ⟨w2, g2, k2⟩ := t2.get (List.getElem?_eq_getElem z2')
          obtain ⟨a1, b1, c1⟩ := v1.get g1
          obtain ⟨a2, b2, c2⟩ := v2.get g2
          have q1 : its.toArray[j] = a1 := by
            have := List.getElem?_eq_some_iff.mp b1
            simpa using this.2
          have q2 : its2.toArray[j] = a2 := by
            have := List.getElem?_eq_some_iff.mp b2
            simpa using this.2
          rw [q1, q2, List.getElem?_eq_getElem z1', List.getElem?_eq_getElem z2']
          show PySem.W.EqTree _ _ _ _ _ _ (D.eqn n xs[j] ys[j] == some true)
          rw [hc]
          have hcc : (some c == some true) = c := by cases c <;> rfl
          rw [hcc]
          exact eqn_tree I n _ _ _ _ _ _ _ k1 k2 c1 c2 hc
        have er : r = (List.range its.toArray.size).all (fun j => match xs[j]?, ys[j]? with | some a, some b => D.eqn n a b == some true | _, _ => false) := by
          rw [Bool.eq_iff_iff, i2, List.all_eq_true]
          constructor
          · intro q j hj
            have z1' : j < xs.length := by have := List.mem_range.mp hj; simpa [e1] using this
            have z2' : j < ys.length := hl ▸ z1'
            rw [List.getElem?_eq_getElem z1', List.getElem?_eq_getElem z2']
            simp [q j _ _ (List.getElem?_eq_getElem z1') (List.getElem?_eq_getElem z2')]
          · intro q j a b g1 g2
            have z1' : j < xs.length := (List.getElem?_eq_some_iff.mp g1).1
            have := q j (List.mem_range.mpr (by simpa [e1] using z1'))
            rw [g1, g2] at this
            simpa using this
        rw [er]
        exact key
      · rw [if_neg hl] at h'
        cases h'
        exact .listsLen hpq l1.isList l2.isList (by simp [e1, e2, hl])
    · unfold Rep at ra rb
      obtain ⟨p, vs, rfl, h1, t1⟩ := ra
      obtain ⟨q, us, rfl, h2, t2⟩ := rb
      cases rx
      cases ry
      have hpq : p ≠ q := fun e => hxy (by rw [e])
      obtain ⟨its, v1, l1, _⟩ := I.tuple h1
      obtain ⟨its2, v2, l2, _⟩ := I.tuple h2
      have e1 : its.length = xs.length := by rw [← v1.length, t1.length]
      have e2 : its2.length = ys.length := by rw [← v2.length, t2.length]
      have h' : (eqAll (D.eqn n) xs ys).map (fun q => q && xs.length == ys.length) = some r := h
      cases hc0 : eqAll (D.eqn n) xs ys with
      | none => rw [hc0] at h'; cases h'
      | some c0 =>
        rw [hc0] at h'
        have h' := Option.some.inj h'
        obtain ⟨i1, i2⟩ := eqAll_spec hc0
        have key := PySem.W.EqTree.tuples (n := n) (prog := X.prog) (w := X.w) (e := fun j => match xs[j]?, ys[j]? with | some a, some b => D.eqn n a b == some true | _, _ => false) hpq (show s.heap.IsTuple p its.toArray from l1) (show s.heap.IsTuple q its2.toArray from l2) fun j z1 z2 => by
          have z1' : j < xs.length := by simpa [e1] using z1
          have z2' : j < ys.length := by simpa [e2] using z2
          obtain ⟨c, hc⟩ := i1 j _ _ (List.getElem?_eq_getElem z1') (List.getElem?_eq_getElem z2')
          obtain ⟨w1, g1, k1⟩ := t1.get (List.getElem?_eq_getElem z1')
          obtain ⟨w2, g2, k2⟩ := t2.get (List.getElem?_eq_getElem z2')
          obtain ⟨a1, b1, c1⟩ := v1.get g1
          obtain ⟨a2, b2, c2⟩ := v2.get g2
          have q1 : its.toArray[j] = a1 := by
            have := List.getElem?_eq_some_iff.mp b1
            simpa using this.2
          have q2 : its2.toArray[j] = a2 := by
            have := List.getElem?_eq_some_iff.mp b2
            simpa using this.2
          rw [q1, q2, List.getElem?_eq_getElem z1', List.getElem?_eq_getElem z2']
          show PySem.W.EqTree _ _ _ _ _ _ (D.eqn n xs[j] ys[j] == some true)
          rw [hc]
          have hcc : (some c == some true) = c := by cases c <;> rfl
          rw [hcc]
          exact eqn_tree I n _ _ _ _ _ _ _ k1 k2 c1 c2 hc
        have er : r = ((List.range (min its.toArray.size its2.toArray.size)).all (fun j => match xs[j]?, ys[j]? with | some a, some b => D.eqn n a b == some true | _, _ => false) && its.toArray.size == its2.toArray.size) := by
          rw [← h']
          have sz : (its.toArray.size == its2.toArray.size) = (xs.length == ys.length) := by simp [e1, e2]
          rw [sz]
          congr 1
          rw [Bool.eq_iff_iff, i2, List.all_eq_true]
          constructor
          · intro q j hj
            have z := List.mem_range.mp hj
            have z1' : j < xs.length := by simp [e1] at z; omega
            have z2' : j < ys.length := by simp [e2] at z; omega
            rw [List.getElem?_eq_getElem z1', List.getElem?_eq_getElem z2']
            simp [q j _ _ (List.getElem?_eq_getElem z1') (List.getElem?_eq_getElem z2')]
          · intro q j a b g1 g2
            have z1' : j < xs.length := (List.getElem?_eq_some_iff.mp g1).1
            have z2' : j < ys.length := (List.getElem?_eq_some_iff.mp g2).1
            have := q j (List.mem_range.mpr (by simp [e1, e2]; omega))
            rw [g1, g2] at this
            simpa using this
        rw [er]
        exact key
    · unfold Rep at ra rb
      obtain ⟨p, vs, rfl, h1, t1⟩ := ra
      obtain ⟨q, us, rfl, h2, t2⟩ := rb
      cases rx
      cases ry
      have hpq : p ≠ q := fun e => hxy (by rw [e])
      obtain ⟨_, n1, ws, kw, hd⟩ := dk_rd I.hok h1
      obtain ⟨_, n2, ws2, kw2, hd2⟩ := dk_rd I.hok h2
      have nd : (ws.map (·.1)).Nodup := by
        obtain ⟨_, _, _, _, _, _, _, _, nd⟩ := hd
        exact nd
      have h' : (eqPairs (D.eqn n) ys xs).map (fun q => xs.length == ys.length && q) = some r := h
      cases hc0 : eqPairs (D.eqn n) ys xs with
      | none => rw [hc0] at h'; cases h'
      | some c0 =>
        rw [hc0] at h'
        have h' := Option.some.inj h'
        obtain ⟨i1, i2⟩ := eqPairs_spec hc0
        -- a pair of the model's dict, by data
        have fst : ∀ k w', (k, w') ∈ ws → ∃ d v', (k, d) ∈ xs ∧ findD xs k = some d ∧ Rep pl X.K H d v' ∧ RelV v' w' := fun k w' hm => by
          obtain ⟨i, hi, he⟩ := List.getElem_of_mem hm
          obtain ⟨v', g1, g2⟩ := kv_at kw (i := i) (k := k) (v := w') (by rw [List.getElem?_eq_getElem hi, he])
          have hmv : (k, v') ∈ vs := List.mem_of_getElem? g1
          have hv : valV vs k = some v' := valV_of_mem (by rw [kw.keys]; exact nd) hmv
          rcases t1.val k with ⟨_, z⟩ | ⟨d', v2, z1, z2, z3⟩
          · rw [hv] at z; cases z
          · rw [hv] at z2; cases z2
            refine ⟨d', v', ?_, z1, z3, g2⟩
            unfold findD at z1
            cases q : xs.find? (fun p => decide (p.1 = k)) with
            | none => rw [q] at z1; cases z1
            | some pr =>
              rw [q] at z1
              cases z1
              have := List.find?_some q
              have hk : pr.1 = k := of_decide_eq_true this
              have hm2 := List.mem_of_find?_eq_some q
              rw [← hk]
              exact hm2
        have key := PySem.W.EqTree.dicts (n := n) (prog := X.prog) (w := X.w) (e := fun k => match findD xs k, findD ys k with | some a, some b => D.eqn n a b == some true | _, _ => false) hpq n1 n2 hd hd2 fun k w1 w2 hm hv => by
          obtain ⟨d, v', hmd, hf, hr1, hr2⟩ := fst k w1 hm
          have rel := kw2.val k
          rw [hv] at rel
          rcases t2.val k with ⟨_, z⟩ | ⟨d', v2, z1, z2, z3⟩
          · rw [z] at rel; exact rel.elim
          · rw [z2] at rel
            have rel : RelV v2 w2 := rel
            obtain ⟨c, hc⟩ := i1 k d d' hmd z1
            rw [hf, z1]
            show PySem.W.EqTree _ _ _ _ _ _ (D.eqn n d d' == some true)
            rw [hc]
            have hcc : (some c == some true) = c := by cases c <;> rfl
            rw [hcc]
            exact eqn_tree I n _ _ _ _ _ _ _ hr1 z3 hr2 rel hc
        have er : r = (ws.length == ws2.length && ws.all fun p => (valueAt ws2 p.1).isSome && (match findD xs p.1, findD ys p.1 with | some a, some b => D.eqn n a b == some true | _, _ => false)) := by
          rw [← h']
          have sz : (ws.length == ws2.length) = (xs.length == ys.length) := by rw [← kw.length, ← kw2.length, t1.length, t2.length]
          rw [sz]
          congr 1
          rw [Bool.eq_iff_iff, i2, List.all_eq_true]
          constructor
          · intro q pr hm
            obtain ⟨k, w1⟩ := pr
            obtain ⟨d, v', hmd, hf, hr1, hr2⟩ := fst k w1 hm
            obtain ⟨d', g1, g2⟩ := q k d hmd
            rcases t2.val k with ⟨z, _⟩ | ⟨d2, v2, z1, z2, z3⟩
            · rw [g1] at z; cases z
            · have rel := kw2.val k
              rw [z2] at rel
              cases hva : valueAt ws2 k with
              | none => rw [hva] at rel; exact rel.elim
              | some w2 => simp [hva, hf, g1, g2]
          · intro q k d hmd
            obtain ⟨v', hmv, hr1⟩ := t1.memD hmd
            have hk : k ∈ ws.map (·.1) := by rw [← kw.keys]; exact List.mem_map_of_mem (f := (·.1)) hmv
            obtain ⟨pr, hp, hpk⟩ := List.mem_map.mp hk
            obtain ⟨k0, w1⟩ := pr
            have hpk : k0 = k := hpk
            subst hpk
            obtain ⟨d0, v0, hmd0, hf0, hr0, _⟩ := fst k0 w1 hp
            have ndx : (xs.map (·.1)).Nodup := by rw [← t1.keys, kw.keys]; exact nd
            have hdd : d0 = d := by
              have f : ∀ {l : List (Key × D)} {d d0 : D}, (l.map (·.1)).Nodup → (k0, d) ∈ l → (k0, d0) ∈ l → d0 = d := by
                intro l d d0 ndl m1 m2
                induction l with
                | nil => cases m1
                | cons a t ih =>
                  have nd' := List.nodup_cons.mp ndl
                  rcases List.mem_cons.mp m1 with z1 | z1 <;> rcases List.mem_cons.mp m2 with z2 | z2
                  · rw [← z1] at z2; cases z2; rfl
                  · exact (nd'.1 (by rw [← z1]; exact List.mem_map_of_mem (f := (·.1)) z2)).elim
                  · exact (nd'.1 (by rw [← z2]; exact List.mem_map_of_mem (f := (·.1)) z1)).elim
                  · exact ih nd'.2 z1 z2
              exact f ndx hmd hmd0
            subst hdd
            have := q (k0, w1) hp
            rw [Bool.and_eq_true] at this
            obtain ⟨_, g2⟩ := this
            simp only [hf0] at g2
            cases hfy : findD ys k0 with
            | none => rw [hfy] at g2; cases g2
            | some d' => rw [hfy] at g2; exact ⟨d', rfl, by simpa using g2⟩
        rw [er]
        exact key
    · obtain ⟨e1, f1⟩ := D.fv_rep ra ex
      obtain ⟨e2, f2⟩ := D.fv_rep rb ey
      subst e1 e2
      exact .leaf fun A _ => L2.eqAt_V rx ry f1 f2
end
end DL
set_option Elab.async false
set_option linter.all false
set_option maxRecDepth 100000
set_option maxHeartbeats 2000000
/-! D5: ==, !=, in, not in; tests. -/
namespace DL
open PySem L2
section
variable {pl : Pl} {K : PySem.W.Frag} {H : Hp}
theorem items_of {P : Value → Value → Bool → Prop} {e : D → D → Option Bool} {xs ys : List D} {vs us : List V} {its its2 : List Value} {c : Bool}
    (ih : ∀ a b x y u v r, a ∈ xs → Rep pl K H a x → Rep pl K H b y → RelV x u → RelV y v → e a b = some r → P u v r) (t1 : Reps pl K H xs vs) (t2 : Reps pl K H ys us) (v1 : Vals vs its) (v2 : Vals us its2) (hc : eqAll e xs ys = some c) :
    ∃ e' : Nat → Bool, (∀ j (h1 : j < its.toArray.size) (h2 : j < its2.toArray.size), P its.toArray[j] its2.toArray[j] (e' j)) ∧ c = (List.range (min its.toArray.size its2.toArray.size)).all e' := by
  have e1 : its.length = xs.length := by rw [← v1.length, t1.length]
  have e2 : its2.length = ys.length := by rw [← v2.length, t2.length]
  obtain ⟨i1, i2⟩ := eqAll_spec hc
  refine ⟨fun j => match xs[j]?, ys[j]? with | some a, some b => e a b == some true | _, _ => false, fun j z1 z2 => ?_, ?_⟩
  · have z1' : j < xs.length := by simpa [e1] using z1
    have z2' : j < ys.length := by simpa [e2] using z2
    obtain ⟨c, hc⟩ := i1 j _ _ (List.getElem?_eq_getElem z1') (List.getElem?_eq_getElem z2')
    obtain ⟨w1, g1, k1⟩ := t1.get (List.getElem?_eq_getElem z1')
    obtain ⟨w2, g2, k2⟩ := t2.get (List.getElem?_eq_getElem z2')
    obtain ⟨a1, b1, c1⟩ := v1.get g1
    obtain ⟨a2, b2, c2⟩ := v2.get g2
    have q1 : its.toArray[j] = a1 := by
      have := List.getElem?_eq_some_iff.mp b1
      simpa using this.2
    have q2 : its2.toArray[j] = a2 := by
      have := List.getElem?_eq_some_iff.mp b2
      simpa using this.2
    have q3 : (match xs[j]?, ys[j]? with | some a, some b => e a b == some true | _, _ => false) = (e xs[j] ys[j] == some true) := by rw [List.getElem?_eq_getElem z1', List.getElem?_eq_getElem z2']
    show P _ _ (match xs[j]?, ys[j]? with | some a, some b => e a b == some true | _, _ => false)
    rw [q1, q2, q3]
    rw [hc]
    have hcc : (some c == some true) = c := by cases c <;> rfl
    rw [hcc]
    exact ih _ _ _ _ _ _ _ (List.getElem_mem z1') k1 k2 c1 c2 hc
  · rw [Bool.eq_iff_iff, i2, List.all_eq_true]
    constructor
    · intro q j hj
      have z := List.mem_range.mp hj
      have z1' : j < xs.length := by simp [e1] at z; omega
      have z2' : j < ys.length := by simp [e2] at z; omega
      rw [List.getElem?_eq_getElem z1', List.getElem?_eq_getElem z2']
      simp [q j _ _ (List.getElem?_eq_getElem z1') (List.getElem?_eq_getElem z2')]
    · intro q j a b g1 g2
      have z1' : j < xs.length := (List.getElem?_eq_some_iff.mp g1).1
      have z2' : j < ys.length := (List.getElem?_eq_some_iff.mp g2).1
      have := q j (List.mem_range.mpr (by simp [e1, e2]; omega))
      rw [g1, g2] at this
      simpa using this
end
/-- no dict in it (to a depth) -/
def D.nod : Nat → D → Bool
  | 0 => fun _ => false
  | n + 1 => fun x => match x with
    | .lst a => a.all (D.nod n)
    | .tup a => a.all (D.nod n)
    | .dk _ => false
    | _ => true
section
variable {X : Cx} {pins : List (Addr × Obj)} {σ : L2.St} {H : Hp} {s : Shared} {pl : Pl}
theorem eqn_at (I : Inv X pins σ H s) : ∀ (n : Nat) (a b : D) (x y : V) (u v : Value) (r : Bool), D.nod n a = true → Rep pl X.K H a x → Rep pl X.K H b y → RelV x u → RelV y v → D.eqn n a b = some r → ∀ A : Around, A.units + n < cLine → PySem.SeqAt.EqAt A s u v r
  | 0, _, _, _, _, _, _, _, _, _, _, _, _, h => nomatch h
  | n + 1, a, b, x, y, u, v, r, hn, ra, rb, rx, ry, h => by
    intro A hu
    by_cases hxy : x = y ∧ ∃ q, x = .ref q
    · obtain ⟨rfl, q, rfl⟩ := hxy
      cases rx
      cases ry
      have hr := eqn_same I.hok I (n + 1) a b _ r ra rb h
      subst hr
      exact PySem.SeqAt.EqAt.same _
    rcases eqn_flat h with ⟨xs, ys, rfl, rfl⟩ | ⟨xs, ys, rfl, rfl⟩ | ⟨xs, ys, rfl, rfl⟩ | ⟨x', y', ex, ey, rfl⟩
    · have hn' : xs.all (D.nod n) = true := hn
      unfold Rep at ra rb
      obtain ⟨p, vs, rfl, h1, t1⟩ := ra
      obtain ⟨q, us, rfl, h2, t2⟩ := rb
      cases rx
      cases ry
      have hpq : p ≠ q := fun e => hxy ⟨by rw [e], _, rfl⟩
      obtain ⟨its, v1, l1, _⟩ := I.list (.of h1)
      obtain ⟨its2, v2, l2, _⟩ := I.list (.of h2)
      have e1 : its.length = xs.length := by rw [← v1.length, t1.length]
      have e2 : its2.length = ys.length := by rw [← v2.length, t2.length]
      have h' : (if xs.length = ys.length then eqAll (D.eqn n) xs ys else some false) = some r := h
      refine .of_refs hpq ?_
      by_cases hl : xs.length = ys.length
      · rw [if_pos hl] at h'
        obtain ⟨e', k1, k2⟩ := items_of (P := fun u v r => PySem.SeqAt.EqAt A.in1 s u v r) (fun a b x y u v r hm ra rb rx ry he => eqn_at I n a b x y u v r (List.all_eq_true.mp hn' a hm) ra rb rx ry he A.in1 (by show A.units + 1 + n < cLine; omega)) t1 t2 v1 v2 h'
        rw [k2]
        have hsz : its.toArray.size = its2.toArray.size := by simp [e1, e2, hl]
        rw [← hsz, Nat.min_self]
        exact .lists l1.isList l2.isList hsz (by omega) k1
      · rw [if_neg hl] at h'
        cases h'
        exact .lists_lengths l1.isList l2.isList (by simp [e1, e2, hl]) (by omega)
    · have hn' : xs.all (D.nod n) = true := hn
      unfold Rep at ra rb
      obtain ⟨p, vs, rfl, h1, t1⟩ := ra
      obtain ⟨q, us, rfl, h2, t2⟩ := rb
      cases rx
      cases ry
      have hpq : p ≠ q := fun e => hxy ⟨by rw [e], _, rfl⟩
      obtain ⟨its, v1, l1, _⟩ := I.tuple h1
      obtain ⟨its2, v2, l2, _⟩ := I.tuple h2
      have e1 : its.length = xs.length := by rw [← v1.length, t1.length]
      have e2 : its2.length = ys.length := by rw [← v2.length, t2.length]
      have h' : (eqAll (D.eqn n) xs ys).map (fun q => q && xs.length == ys.length) = some r := h
      cases hc0 : eqAll (D.eqn n) xs ys with
      | none => rw [hc0] at h'; cases h'
      | some c0 =>
        rw [hc0] at h'
        have h' := Option.some.inj h'
        obtain ⟨e', k1, k2⟩ := items_of (P := fun u v r => PySem.SeqAt.EqAt A.in1 s u v r) (fun a b x y u v r hm ra rb rx ry he => eqn_at I n a b x y u v r (List.all_eq_true.mp hn' a hm) ra rb rx ry he A.in1 (by show A.units + 1 + n < cLine; omega)) t1 t2 v1 v2 hc0
        have sz : (its.toArray.size == its2.toArray.size) = (xs.length == ys.length) := by simp [e1, e2]
        rw [← h', k2, ← sz]
        exact .of_refs hpq (.tuples l1 l2 (by omega) k1)
    · exact Bool.noConfusion (show false = true from hn)
    · obtain ⟨e1, f1⟩ := D.fv_rep ra ex
      obtain ⟨e2, f2⟩ := D.fv_rep rb ey
      subst e1 e2
      exact L2.eqAt_V rx ry f1 f2
/-- == as an operator -/
def D.eqO (a b : D) : Option Bool := match a, b with
  | .lst _, .lst _ => D.eqn 40 a b
  | .tup _, .tup _ => D.eqn 40 a b
  | .dk _, .dk _ => D.eqn 40 a b
  | _, _ => match a.fv, b.fv with
    | some u, some v => if scal u v = true then some (decide (u = v)) else none
    | _, _ => none
def D.eq (a b : D) : R D := ofO ((D.eqO a b).map .bl)
def neF : Option V → Option V → R D
  | some u, some v => if scal u v = true then pure (.bl (!decide (u = v))) else R.und
  | _, _ => R.und
def D.ne (a b : D) : R D := match a, b with
  | .lst _, .lst _ => if D.nod 40 a = true then ofO ((D.eqn 40 a b).map fun r => .bl (!r)) else R.und
  | .tup _, .tup _ => if D.nod 40 a = true then ofO ((D.eqn 40 a b).map fun r => .bl (!r)) else R.und
  | .dk _, .dk _ => ofO ((D.eqn 40 a b).map fun r => .bl (!r))
  | _, _ => neF a.fv b.fv
theorem eqO_cases {a b : D} {r : Bool} (h : D.eqO a b = some r) : (∃ x y, a = .lst x ∧ b = .lst y ∧ D.eqn 40 a b = some r) ∨ (∃ x y, a = .tup x ∧ b = .tup y ∧ D.eqn 40 a b = some r) ∨ (∃ x y, a = .dk x ∧ b = .dk y ∧ D.eqn 40 a b = some r) ∨
    ∃ x y, a.fv = some x ∧ b.fv = some y ∧ scal x y = true ∧ r = decide (x = y) := by
  have go : ∀ {x y : Option V}, (match x, y with | some u, some v => if scal u v = true then some (decide (u = v)) else none | _, _ => none) = some r → ∃ u v, x = some u ∧ y = some v ∧ scal u v = true ∧ r = decide (u = v) := by
    intro x y q
    cases x with
    | none => cases q
    | some u => cases y with
      | none => cases q
      | some v =>
        by_cases hs : scal u v = true
        · have q : (if scal u v = true then some (decide (u = v)) else none) = some r := q
          rw [if_pos hs] at q
          exact ⟨u, v, rfl, rfl, hs, (Option.some.inj q).symm⟩
        · have q : (if scal u v = true then some (decide (u = v)) else none) = some r := q
          rw [if_neg hs] at q; cases q
  cases a <;> cases b <;> first
    | exact .inl ⟨_, _, rfl, rfl, h⟩
    | exact .inr (.inl ⟨_, _, rfl, rfl, h⟩)
    | exact .inr (.inr (.inl ⟨_, _, rfl, rfl, h⟩))
    | (refine .inr (.inr (.inr ?_)); unfold D.eqO at h; exact go h)
theorem pairs_of {n : Nat} {xs ys : List (Key × D)} {vs us : List (Key × V)} {ws ws2 : List (Key × Value)} {c : Bool} (I : Inv X pins σ H s) (t1 : RepK pl X.K H xs vs) (t2 : RepK pl X.K H ys us) (kw : KV vs ws) (kw2 : KV us ws2)
    (nd : (ws.map (·.1)).Nodup) (hc : eqPairs (D.eqn n) ys xs = some c) :
    ∃ e : Key → Bool, (∀ k v y, (k, v) ∈ ws → valueAt ws2 k = some y → PySem.W.EqTree X.prog X.w s n v y (e k)) ∧ c = ws.all fun p => (valueAt ws2 p.1).isSome && e p.1 := by
  obtain ⟨i1, i2⟩ := eqPairs_spec hc
  have fst : ∀ k w', (k, w') ∈ ws → ∃ d v', (k, d) ∈ xs ∧ findD xs k = some d ∧ Rep pl X.K H d v' ∧ RelV v' w' := fun k w' hm => by
    obtain ⟨i, hi, he⟩ := List.getElem_of_mem hm
    obtain ⟨v', g1, g2⟩ := kv_at kw (i := i) (k := k) (v := w') (by rw [List.getElem?_eq_getElem hi, he])
    have hmv : (k, v') ∈ vs := List.mem_of_getElem? g1
    have hv : valV vs k = some v' := valV_of_mem (by rw [kw.keys]; exact nd) hmv
    rcases t1.val k with ⟨_, z⟩ | ⟨d', v2, z1, z2, z3⟩
    · rw [hv] at z; cases z
    · rw [hv] at z2; cases z2
      refine ⟨d', v', ?_, z1, z3, g2⟩
      unfold findD at z1
      cases q : xs.find? (fun p => decide (p.1 = k)) with
      | none => rw [q] at z1; cases z1
      | some pr =>
        rw [q] at z1
        cases z1
        have q' := List.find?_some q
        have hk : pr.1 = k := of_decide_eq_true q'
        have hm2 := List.mem_of_find?_eq_some q
        rw [← hk]
        exact hm2
  refine ⟨fun k => match findD xs k, findD ys k with | some a, some b => D.eqn n a b == some true | _, _ => false, fun k w1 w2 hm hv => ?_, ?_⟩
  · obtain ⟨d, v', hmd, hf, hr1, hr2⟩ := fst k w1 hm
    have rel := kw2.val k
    rw [hv] at rel
    rcases t2.val k with ⟨_, z⟩ | ⟨d', v2, z1, z2, z3⟩
    · rw [z] at rel; exact rel.elim
    · rw [z2] at rel
      have rel : RelV v2 w2 := rel
      obtain ⟨c, hc⟩ := i1 k d d' hmd z1
      show PySem.W.EqTree _ _ _ _ _ _ (match findD xs k, findD ys k with | some a, some b => D.eqn n a b == some true | _, _ => false)
      rw [hf, z1]
      show PySem.W.EqTree _ _ _ _ _ _ (D.eqn n d d' == some true)
      rw [hc]
      have hcc : (some c == some true) = c := by cases c <;> rfl
      rw [hcc]
      exact eqn_tree I n _ _ _ _ _ _ _ hr1 z3 hr2 rel hc
  · rw [Bool.eq_iff_iff, i2, List.all_eq_true]
    constructor
    · intro q pr hm
      obtain ⟨k, w1⟩ := pr
      obtain ⟨d, v', hmd, hf, hr1, hr2⟩ := fst k w1 hm
      obtain ⟨d', g1, g2⟩ := q k d hmd
      rcases t2.val k with ⟨z, _⟩ | ⟨d2, v2, z1, z2, z3⟩
      · rw [g1] at z; cases z
      · have rel := kw2.val k
        rw [z2] at rel
        cases hva : valueAt ws2 k with
        | none => rw [hva] at rel; exact rel.elim
        | some w2 => simp [hva, hf, g1, g2]
    · intro q k d hmd
      obtain ⟨v', hmv, hr1⟩ := t1.memD hmd
      have hk : k ∈ ws.map (·.1) := by rw [← kw.keys]; exact List.mem_map_of_mem (f := (·.1)) hmv
      obtain ⟨pr, hp, hpk⟩ := List.mem_map.mp hk
      obtain ⟨k0, w1⟩ := pr
      have hpk : k0 = k := hpk
      subst hpk
      obtain ⟨d0, v0, hmd0, hf0, hr0, _⟩ := fst k0 w1 hp
      have ndx : (xs.map (·.1)).Nodup := by rw [← t1.keys, kw.keys]; exact nd
      have hdd : d0 = d := by
        have f : ∀ {l : List (Key × D)} {d d0 : D}, (l.map (·.1)).Nodup → (k0, d) ∈ l → (k0, d0) ∈ l → d0 = d := by
          intro l d d0 ndl m1 m2
          induction l with
          | nil => cases m1
          | cons a t ih =>
            have nd' := List.nodup_cons.mp ndl
            rcases List.mem_cons.mp m1 with z1 | z1 <;> rcases List.mem_cons.mp m2 with z2 | z2
            · rw [← z1] at z2; cases z2; rfl
            · exact (nd'.1 (by rw [← z1]; exact List.mem_map_of_mem (f := (·.1)) z2)).elim
            · exact (nd'.1 (by rw [← z2]; exact List.mem_map_of_mem (f := (·.1)) z1)).elim
            · exact ih nd'.2 z1 z2
        exact f ndx hmd hmd0
      subst hdd
      have := q (k0, w1) hp
      rw [Bool.and_eq_true] at this
      obtain ⟨_, g2⟩ := this
      simp only [hf0] at g2
      cases hfy : findD ys k0 with
      | none => rw [hfy] at g2; cases g2
      | some d' => rw [hfy] at g2; exact ⟨d', rfl, by simpa using g2⟩
theorem map_ok {o : Option Bool} {f : Bool → D} {ps : Ps} (n : ofO (o.map f) ps ≠ .und) : ∃ r, o = some r ∧ ofO (o.map f) ps = .ok (f r) ps := by
  cases o with
  | none => exact (n rfl).elim
  | some r => exact ⟨r, rfl, rfl⟩
theorem od_eq (hu : X.A.units + 64 < cLine) : OpD .cl X (compareOp .Eq) D.eq := by
  intro pl O pins s σ H ps d1 d2 x y u v I hO hT p r1 r2 rx ry n
  obtain ⟨r, hr, ho⟩ := map_ok n
  have fin : ∀ {s' : Shared}, s' = s → EP X pins σ (QV .cl pl X.K O H (D.eq d1 d2 ps)) (.bool r) s' := fun e => ⟨.bl r, H, by rw [e]; exact I, rfl, qv_bl p ho⟩
  have f1 := r1.full
  have f2 := r2.full
  rcases eqO_cases hr with ⟨xs, ys, rfl, rfl, h⟩ | ⟨xs, ys, rfl, rfl, h⟩ | ⟨xs, ys, rfl, rfl, h⟩ | ⟨x', y', ex, ey, hs, er⟩
  · unfold Rep at f1 f2
    obtain ⟨p', vs, rfl, h1, t1⟩ := f1
    obtain ⟨q, us, rfl, h2, t2⟩ := f2
    cases rx
    cases ry
    obtain ⟨its, v1, l1, _⟩ := I.list (.of h1)
    obtain ⟨its2, v2, l2, _⟩ := I.list (.of h2)
    have e1 : its.length = xs.length := by rw [← v1.length, t1.length]
    have e2 : its2.length = ys.length := by rw [← v2.length, t2.length]
    have h' : (if xs.length = ys.length then eqAll (D.eqn 39) xs ys else some false) = some r := h
    by_cases hl : xs.length = ys.length
    · rw [if_pos hl] at h'
      obtain ⟨e', k1, k2⟩ := items_of (P := fun u v r => PySem.W.EqTree X.prog X.w s 39 u v r) (fun a b x y u v r _ ra rb rx ry he => eqn_tree I 39 a b x y u v r ra rb rx ry he) t1 t2 v1 v2 h'
      have hsz : its.toArray.size = its2.toArray.size := by simp [e1, e2, hl]
      rw [← hsz, Nat.min_self] at k2
      refine PySem.W.eq_listsT l1.isList l2.isList hsz k1 (by omega) ?_
      rw [← k2]
      exact fin rfl
    · rw [if_neg hl] at h'
      cases h'
      have := PySem.SeqAt.RcAt.lists_lengths (A := X.A) (s := s) l1.isList l2.isList (by simp [e1, e2, hl]) (by omega)
      exact this X.prog X.w X.xe _ (fin rfl)
  · unfold Rep at f1 f2
    obtain ⟨p', vs, rfl, h1, t1⟩ := f1
    obtain ⟨q, us, rfl, h2, t2⟩ := f2
    cases rx
    cases ry
    obtain ⟨its, v1, l1, _⟩ := I.tuple h1
    obtain ⟨its2, v2, l2, _⟩ := I.tuple h2
    have e1 : its.length = xs.length := by rw [← v1.length, t1.length]
    have e2 : its2.length = ys.length := by rw [← v2.length, t2.length]
    have h' : (eqAll (D.eqn 39) xs ys).map (fun q => q && xs.length == ys.length) = some r := h
    cases hc0 : eqAll (D.eqn 39) xs ys with
    | none => rw [hc0] at h'; cases h'
    | some c0 =>
      rw [hc0] at h'
      have h' : (c0 && xs.length == ys.length) = r := Option.some.inj h'
      obtain ⟨e', k1, k2⟩ := items_of (P := fun u v r => PySem.W.EqTree X.prog X.w s 39 u v r) (fun a b x y u v r _ ra rb rx ry he => eqn_tree I 39 a b x y u v r ra rb rx ry he) t1 t2 v1 v2 hc0
      have sz : (its.toArray.size == its2.toArray.size) = (xs.length == ys.length) := by simp [e1, e2]
      refine PySem.W.eq_tuplesT l1 l2 k1 (by omega) ?_
      rw [← k2, sz, h']
      exact fin rfl
  · unfold Rep at f1 f2
    obtain ⟨p', vs, rfl, h1, t1⟩ := f1
    obtain ⟨q, us, rfl, h2, t2⟩ := f2
    cases rx
    cases ry
    obtain ⟨_, n1, ws, kw, hd⟩ := dk_rd I.hok h1
    obtain ⟨_, n2, ws2, kw2, hd2⟩ := dk_rd I.hok h2
    have nd : (ws.map (·.1)).Nodup := by
      obtain ⟨_, _, _, _, _, _, _, _, nd⟩ := hd
      exact nd
    have h' : (eqPairs (D.eqn 39) ys xs).map (fun q => xs.length == ys.length && q) = some r := h
    cases hc0 : eqPairs (D.eqn 39) ys xs with
    | none => rw [hc0] at h'; cases h'
    | some c0 =>
      rw [hc0] at h'
      have h' : (xs.length == ys.length && c0) = r := Option.some.inj h'
      obtain ⟨e', k1, k2⟩ := pairs_of I t1 t2 kw kw2 nd hc0
      have sz : (ws.length == ws2.length) = (xs.length == ys.length) := by rw [← kw.length, ← kw2.length, t1.length, t2.length]
      refine PySem.W.eq_dictsT n1 n2 hd hd2 k1 (by omega) ?_
      rw [← k2, sz, h']
      exact fin rfl
  · obtain ⟨e1, _⟩ := D.fv_rep f1 ex
    obtain ⟨e2, _⟩ := D.fv_rep f2 ey
    subst e1 e2
    rw [er] at ho
    exact op_eq pins s σ H _ _ u v _ I rx ry ⟨hs, qv_bl p ho⟩
end
end DL
set_option Elab.async false
set_option linter.all false
set_option maxRecDepth 100000
set_option maxHeartbeats 2000000
/-! D6: !=, in, not in, is None; tests; conditional expressions. -/
namespace DL
open PySem L2
theorem keq_neIn {prog : Program} {w : World} {K : Type} [DecidableEq K] {knd : PySem.KeyKind prog w K} {A : Around} {E : Value → Shared → Prop} {s : Shared} {a b : Addr} {ka kb : List (K × Value)} {r : Bool} {Q : Value → Shared → Prop} (ha : (a == sysModules) = false) (hb : (b == sysModules) = false)
    (da : s.heap.DictOf knd a ka) (db : s.heap.DictOf knd b kb) (hu : A.units < cLine) (hits : ka.length = kb.length → PySem.W.KeqHitsIn prog w A.in1 s kb ka r) (h : Q (.bool (!(ka.length == kb.length && r))) s) :
    wpAny (model prog w) A (compareOp .NotEq (.ref a) (.ref b)) Q E s := by
  refine wpAny_richCompare_same_room (op := .NotEq) da.typeIs db.typeIs PySem.F.slot_dict_ne (wpAny_call_entry PySem.F.slot_dict_ne da.typeIs PySem.F.entry_dict_ne ?_ (PySem.F.args_dict_ne_2 _ _)) hu
  show wpAny _ _ (Builtin.Dict.dictSlotArgs "__ne__" ⟨[.ref a, .ref b], []⟩ >>= _) _ _ s
  refine wpAny_bind ?_
  unfold Builtin.Dict.dictSlotArgs
  refine wpAny_bind (wpAny_notOrdered_dict da.typeIs ?_)
  show wpAny _ _ (pure (Value.ref a, Value.ref b)) _ _ s
  refine wpAny_pure ?_
  refine wpAny_bind (wpAny_isInstance (T := "dict") db.typeIs PySem.F.sub_dict_dict ?_)
  simp only [Bool.not_true, Bool.false_eq_true, if_false]
  refine wpAny_bind (wpAny_pure (wpAny_bind (wpAny_pure ?_)))
  refine wpAny_bind (PySem.W.keq_samePairsIn ha hb da db hits ?_)
  refine wpAny_pure ⟨_, rfl, ?_, ?_⟩
  · exact fun x => nomatch x
  · simpa using h
section
variable {X : Cx}
theorem ne_cases {a b : D} {ps : Ps} (n : D.ne a b ps ≠ .und) : ∃ r, D.ne a b ps = .ok (.bl (!r)) ps ∧ ((∃ x y, a = .lst x ∧ b = .lst y ∧ D.nod 40 a = true ∧ D.eqn 40 a b = some r) ∨ (∃ x y, a = .tup x ∧ b = .tup y ∧ D.nod 40 a = true ∧ D.eqn 40 a b = some r) ∨ (∃ x y, a = .dk x ∧ b = .dk y ∧ D.eqn 40 a b = some r) ∨
    ∃ x y, a.fv = some x ∧ b.fv = some y ∧ scal x y = true ∧ r = decide (x = y)) := by
  have go : ∀ {x y : Option V}, neF x y ps ≠ .und → ∃ u v, x = some u ∧ y = some v ∧ scal u v = true ∧ neF x y ps = .ok (.bl (!decide (u = v))) ps := by
    intro x y q
    cases x with
    | none => exact (q rfl).elim
    | some u => cases y with
      | none => exact (q rfl).elim
      | some v =>
        obtain ⟨h1, h2⟩ := if_und q
        exact ⟨u, v, rfl, rfl, h1, h2⟩
  have big : ∀ {c : Bool} {o : Option Bool}, (if c = true then ofO (o.map fun r => D.bl (!r)) else R.und) ps ≠ .und → c = true ∧ ∃ r, o = some r ∧ (if c = true then ofO (o.map fun r => D.bl (!r)) else R.und) ps = .ok (.bl (!r)) ps := by
    intro c o q
    obtain ⟨h1, h2⟩ := if_und q
    rw [h2] at q
    obtain ⟨r, h3, h4⟩ := map_ok q
    exact ⟨h1, r, h3, h2.trans h4⟩
  cases a <;> cases b <;> first
    | (obtain ⟨h1, r, h2, h3⟩ := big n; exact ⟨r, h3, .inl ⟨_, _, rfl, rfl, h1, h2⟩⟩)
    | (obtain ⟨h1, r, h2, h3⟩ := big n; exact ⟨r, h3, .inr (.inl ⟨_, _, rfl, rfl, h1, h2⟩)⟩)
    | (obtain ⟨r, h2, h3⟩ := map_ok n; exact ⟨r, h3, .inr (.inr (.inl ⟨_, _, rfl, rfl, h2⟩))⟩)
    | (unfold D.ne at n ⊢; dsimp only at n ⊢; obtain ⟨u, v, h1, h2, h3, h4⟩ := go n; exact ⟨_, h4, .inr (.inr (.inr ⟨u, v, h1, h2, h3, rfl⟩))⟩)
theorem od_ne (hu : X.A.units + 64 < cLine) : OpD .cl X (compareOp .NotEq) D.ne := by
  intro pl O pins s σ H ps d1 d2 x y u v I hO hT p r1 r2 rx ry n
  obtain ⟨r, ho, hr⟩ := ne_cases n
  have fin : ∀ {s' : Shared}, s' = s → EP X pins σ (QV .cl pl X.K O H (D.ne d1 d2 ps)) (.bool (!r)) s' := fun e => ⟨.bl (!r), H, by rw [e]; exact I, rfl, qv_bl p ho⟩
  have f1 := r1.full
  have f2 := r2.full
  rcases hr with ⟨xs, ys, rfl, rfl, hn, h⟩ | ⟨xs, ys, rfl, rfl, hn, h⟩ | ⟨xs, ys, rfl, rfl, h⟩ | ⟨x', y', ex, ey, hs, er⟩
  · unfold Rep at f1 f2
    obtain ⟨p', vs, rfl, h1, t1⟩ := f1
    obtain ⟨q, us, rfl, h2, t2⟩ := f2
    cases rx
    cases ry
    have hn' : xs.all (D.nod 39) = true := hn
    obtain ⟨its, v1, l1, _⟩ := I.list (.of h1)
    obtain ⟨its2, v2, l2, _⟩ := I.list (.of h2)
    have e1 : its.length = xs.length := by rw [← v1.length, t1.length]
    have e2 : its2.length = ys.length := by rw [← v2.length, t2.length]
    have h' : (if xs.length = ys.length then eqAll (D.eqn 39) xs ys else some false) = some r := h
    by_cases hl : xs.length = ys.length
    · rw [if_pos hl] at h'
      obtain ⟨e', k1, k2⟩ := items_of (P := fun u v r => PySem.SeqAt.EqAt X.A.in1 s u v r) (fun a b x y u v r hm ra rb rx ry he => eqn_at I 39 a b x y u v r (List.all_eq_true.mp hn' a hm) ra rb rx ry he X.A.in1 (by show X.A.units + 1 + 39 < cLine; omega)) t1 t2 v1 v2 h'
      have hsz : its.toArray.size = its2.toArray.size := by simp [e1, e2, hl]
      rw [← hsz, Nat.min_self] at k2
      refine PySem.SeqAt.RcNeAt.lists l1.isList l2.isList hsz (by omega) k1 X.prog X.w X.xe _ ?_
      rw [← k2]
      exact fin rfl
    · rw [if_neg hl] at h'
      cases h'
      exact PySem.SeqAt.RcNeAt.lists_lengths (A := X.A) (s := s) l1.isList l2.isList (by simp [e1, e2, hl]) (by omega) X.prog X.w X.xe _ (fin rfl)
  · unfold Rep at f1 f2
    obtain ⟨p', vs, rfl, h1, t1⟩ := f1
    obtain ⟨q, us, rfl, h2, t2⟩ := f2
    cases rx
    cases ry
    have hn' : xs.all (D.nod 39) = true := hn
    obtain ⟨its, v1, l1, _⟩ := I.tuple h1
    obtain ⟨its2, v2, l2, _⟩ := I.tuple h2
    have e1 : its.length = xs.length := by rw [← v1.length, t1.length]
    have e2 : its2.length = ys.length := by rw [← v2.length, t2.length]
    have h' : (eqAll (D.eqn 39) xs ys).map (fun q => q && xs.length == ys.length) = some r := h
    cases hc0 : eqAll (D.eqn 39) xs ys with
    | none => rw [hc0] at h'; cases h'
    | some c0 =>
      rw [hc0] at h'
      have h' : (c0 && xs.length == ys.length) = r := Option.some.inj h'
      obtain ⟨e', k1, k2⟩ := items_of (P := fun u v r => PySem.SeqAt.EqAt X.A.in1 s u v r) (fun a b x y u v r hm ra rb rx ry he => eqn_at I 39 a b x y u v r (List.all_eq_true.mp hn' a hm) ra rb rx ry he X.A.in1 (by show X.A.units + 1 + 39 < cLine; omega)) t1 t2 v1 v2 hc0
      have sz : (its.toArray.size == its2.toArray.size) = (xs.length == ys.length) := by simp [e1, e2]
      refine PySem.SeqAt.RcNeAt.tuples l1 l2 (by omega) k1 X.prog X.w X.xe _ ?_
      rw [← k2, sz, h']
      exact fin rfl
  · unfold Rep at f1 f2
    obtain ⟨p', vs, rfl, h1, t1⟩ := f1
    obtain ⟨q, us, rfl, h2, t2⟩ := f2
    cases rx
    cases ry
    obtain ⟨_, n1, ws, kw, hd⟩ := dk_rd I.hok h1
    obtain ⟨_, n2, ws2, kw2, hd2⟩ := dk_rd I.hok h2
    have nd : (ws.map (·.1)).Nodup := by
      obtain ⟨_, _, _, _, _, _, _, _, nd⟩ := hd
      exact nd
    have h' : (eqPairs (D.eqn 39) ys xs).map (fun q => xs.length == ys.length && q) = some r := h
    cases hc0 : eqPairs (D.eqn 39) ys xs with
    | none => rw [hc0] at h'; cases h'
    | some c0 =>
      rw [hc0] at h'
      have h' : (xs.length == ys.length && c0) = r := Option.some.inj h'
      obtain ⟨e', k1, k2⟩ := pairs_of I t1 t2 kw kw2 nd hc0
      have sz : (ws.length == ws2.length) = (xs.length == ys.length) := by rw [← kw.length, ← kw2.length, t1.length, t2.length]
      refine keq_neIn n1 n2 hd hd2 (by omega) (fun _ => PySem.W.KeqHitsIn.of _ fun k v y hm hv => (k1 k v y hm hv).at X.A.in1 (by show X.A.units + 1 + _ < cLine; omega)) ?_
      rw [← k2, sz, h']
      exact fin rfl
  · obtain ⟨e1, _⟩ := D.fv_rep f1 ex
    obtain ⟨e2, _⟩ := D.fv_rep f2 ey
    subst e1 e2
    rw [er] at ho
    exact op_ne pins s σ H _ _ u v _ I rx ry ⟨hs, qv_bl p ho⟩

/-! ### in -/
def strIn (i j : Str) : Bool := !(Builtin.Str.occurrences j i 0 j.length 1).isEmpty
def keyOf : D → Option Key
  | .int i => some (.inl i) | .str s => some (.inr s) | _ => none
/-- some item is equal -/
def anyEq (x : V) : List D → Option Bool
  | [] => some false
  | d :: r => match d.fv, anyEq x r with
    | some y, some b => some (eqV y x || b)
    | _, _ => none
/-- the key of a tuple -/
def keysOf : List D → Option (List Key)
  | [] => some []
  | d :: r => match keyOf d, keysOf r with
    | some k, some t => some (k :: t)
    | _, _ => none
def D.inO (a b : D) : Option Bool := match b with
  | .lst ys => (a.fv).bind fun x => anyEq x ys
  | .tup ys => (a.fv).bind fun x => anyEq x ys
  | .dk kvs => (keyOf a).map fun k => (findD kvs k).isSome
  | .str j => match a with | .str i => some (strIn i j) | _ => none
  | _ => none
theorem anyEq_spec {pl : Pl} {K : PySem.W.Frag} {H : Hp} {x : V} : ∀ {ys : List D} {vs : List V} {b : Bool}, Reps pl K H ys vs → anyEq x ys = some b → vs.all flatV = true ∧ b = inV x vs
  | [], _, b, h, e => by rw [h.inv_nil]; cases e; exact ⟨rfl, rfl⟩
  | d :: r, _, b, h, e => by
    obtain ⟨v, t, rfl, h2, h3⟩ := h.inv_cons
    unfold anyEq at e
    cases h4 : d.fv with
    | none => rw [h4] at e; cases e
    | some y =>
      cases h5 : anyEq x r with
      | none => rw [h4, h5] at e; cases e
      | some c =>
        rw [h4, h5] at e
        obtain ⟨q1, q2⟩ := D.fv_rep h2 h4
        obtain ⟨q3, q4⟩ := anyEq_spec h3 h5
        subst q1
        refine ⟨by rw [List.all_cons, q2, q3]; rfl, ?_⟩
        rw [← Option.some.inj e, q4]
        show _ = List.any _ _
        rw [List.any_cons]; rfl
theorem keyOf_rep {pl : Pl} {K : PySem.W.Frag} {H : Hp} {d : D} {v : V} {k : Key} (h : Rep pl K H d v) (e : keyOf d = some k) : v = kV k := by
  cases d <;> first | (cases e; unfold Rep at h; exact h) | cases e
def D.in_ (neg : Bool) (a b : D) : R D := ofO ((D.inO a b).map fun r => .bl (if neg then !r else r))
theorem ind {α : Type} {o : Option α} {β : Type} {f : α → β} {b : β} (h : o.map f = some b) : ∃ a, o = some a ∧ b = f a := by
  cases o with
  | none => cases h
  | some a => cases h; exact ⟨a, rfl, rfl⟩
theorem od_in (hu : X.A.units + 64 < cLine) : OpD .cl X (compareOp .In) (D.in_ false) := by
  intro pl O pins s σ H ps d1 d2 x y u v I hO hT p r1 r2 rx ry n
  obtain ⟨r, hr, ho⟩ := map_ok n
  have ho : D.in_ false d1 d2 ps = .ok (.bl r) ps := ho
  have f1 := r1.full
  have f2 := r2.full
  cases d2 with
  | lst ys =>
    obtain ⟨x', e1, e2⟩ := Option.bind_eq_some_iff.mp (show (d1.fv).bind (fun x => anyEq x ys) = some r from hr)
    unfold Rep at f2
    obtain ⟨q, vs, rfl, h1, t1⟩ := f2
    obtain ⟨q1, q2⟩ := D.fv_rep f1 e1
    subst q1
    obtain ⟨k1, k2⟩ := anyEq_spec t1 e2
    exact op_in_seq pins s σ H _ _ u v _ I rx ry ⟨q, vs, rfl, .inl (.of h1), q2, k1, qv_bl p (by rw [ho, k2]; rfl)⟩
  | tup ys =>
    obtain ⟨x', e1, e2⟩ := Option.bind_eq_some_iff.mp (show (d1.fv).bind (fun x => anyEq x ys) = some r from hr)
    unfold Rep at f2
    obtain ⟨q, vs, rfl, h1, t1⟩ := f2
    obtain ⟨q1, q2⟩ := D.fv_rep f1 e1
    subst q1
    obtain ⟨k1, k2⟩ := anyEq_spec t1 e2
    exact op_in_seq pins s σ H _ _ u v _ I rx ry ⟨q, vs, rfl, .inr h1, q2, k1, qv_bl p (by rw [ho, k2]; rfl)⟩
  | dk kvs =>
    obtain ⟨k, e1, e2⟩ := ind (show (keyOf d1).map (fun k => (findD kvs k).isSome) = some r from hr)
    unfold Rep at f2
    obtain ⟨q, vs, rfl, h1, t1⟩ := f2
    have ek := keyOf_rep f1 e1
    subst ek
    cases ry
    refine L2.d_in (by omega) I (o := valV vs k) (.inl ⟨vs, k, h1, rfl, rfl⟩) rx fun s' I' => ⟨.bl _, H, I', rfl, qv_bl p ?_⟩
    rw [ho, e2]
    rcases t1.val k with ⟨z1, z2⟩ | ⟨d, w, z1, z2, _⟩ <;> rw [z1, z2] <;> rfl
  | str j =>
    cases d1 with
    | str i =>
      have hr : some (strIn i j) = some r := hr
      unfold Rep at f1 f2
      subst f1 f2
      exact op_in_str pins s σ H _ _ u v _ I rx ry ⟨i, j, rfl, rfl, qv_bl p (by rw [ho, ← Option.some.inj hr]; rfl)⟩
    | _ => cases hr
  | _ => cases hr
theorem od_notin (hu : X.A.units + 64 < cLine) : OpD .cl X (compareOp .NotIn) (D.in_ true) := by
  intro pl O pins s σ H ps d1 d2 x y u v I hO hT p r1 r2 rx ry n
  obtain ⟨r, hr, ho⟩ := map_ok n
  have ho : D.in_ true d1 d2 ps = .ok (.bl (!r)) ps := ho
  have f1 := r1.full
  have f2 := r2.full
  cases d2 with
  | lst ys =>
    obtain ⟨x', e1, e2⟩ := Option.bind_eq_some_iff.mp (show (d1.fv).bind (fun x => anyEq x ys) = some r from hr)
    unfold Rep at f2
    obtain ⟨q, vs, rfl, h1, t1⟩ := f2
    obtain ⟨q1, q2⟩ := D.fv_rep f1 e1
    subst q1
    obtain ⟨k1, k2⟩ := anyEq_spec t1 e2
    exact op_notIn_seq pins s σ H _ _ u v _ I rx ry ⟨q, vs, rfl, .inl (.of h1), q2, k1, qv_bl p (by rw [ho, k2]; rfl)⟩
  | tup ys =>
    obtain ⟨x', e1, e2⟩ := Option.bind_eq_some_iff.mp (show (d1.fv).bind (fun x => anyEq x ys) = some r from hr)
    unfold Rep at f2
    obtain ⟨q, vs, rfl, h1, t1⟩ := f2
    obtain ⟨q1, q2⟩ := D.fv_rep f1 e1
    subst q1
    obtain ⟨k1, k2⟩ := anyEq_spec t1 e2
    exact op_notIn_seq pins s σ H _ _ u v _ I rx ry ⟨q, vs, rfl, .inr h1, q2, k1, qv_bl p (by rw [ho, k2]; rfl)⟩
  | dk kvs =>
    obtain ⟨k, e1, e2⟩ := ind (show (keyOf d1).map (fun k => (findD kvs k).isSome) = some r from hr)
    unfold Rep at f2
    obtain ⟨q, vs, rfl, h1, t1⟩ := f2
    have ek := keyOf_rep f1 e1
    subst ek
    cases ry
    refine L2.d_notIn (by omega) I (o := valV vs k) (.inl ⟨vs, k, h1, rfl, rfl⟩) rx fun s' I' => ⟨.bl _, H, I', rfl, qv_bl p ?_⟩
    rw [ho, e2]
    rcases t1.val k with ⟨z1, z2⟩ | ⟨d, w, z1, z2, _⟩ <;> rw [z1, z2] <;> rfl
  | str j =>
    cases d1 with
    | str i =>
      have hr : some (strIn i j) = some r := hr
      unfold Rep at f1 f2
      subst f1 f2
      exact op_notin_str pins s σ H _ _ u v _ I rx ry ⟨i, j, rfl, rfl, qv_bl p (by rw [ho, ← Option.some.inj hr]; rfl)⟩
    | _ => cases hr
  | _ => cases hr
end

/-! ### tests -/
abbrev FT := Rho → R Bool
def QB (pl : Pl) (H : Hp) (r : Res Bool) : Bool → Hp → Prop := fun b H' => ∃ ps', r = .ok b ps' ∧ Exo (plS pl) H H' ∧ PoolAt pl H' ps'
/-- a test is worth f -/
structure Tx (X : Cx) (W : WX) (m : List Md) (e : Expr) (f : FT) : Prop where
  run : ∀ (g : G) (own : Nat → Addr) (pins : List (Addr × Obj)) (s : Shared) (σ : L2.St) (ρ : Rho) (H : Hp) (ps : Ps), Inv X pins σ H s → Rs X.K g m own σ ρ H ps → f ρ ps ≠ .und →
    WOk W g.pl X.K (Xs m own g) σ H (f ρ ps) → wpAny (model X.prog X.w) X.A (isTrue e X.env (eval e X.env)) (TP X pins σ (QB g.pl H (f ρ ps))) X.xe s
/-- .. whatever its whole is -/
structure Tw (X : Cx) (W : WX) (m : List Md) (e : Expr) (f : FT) : Prop where
  run : ∀ (whole : Sem Value) (g : G) (own : Nat → Addr) (pins : List (Addr × Obj)) (s : Shared) (σ : L2.St) (ρ : Rho) (H : Hp) (ps : Ps), Inv X pins σ H s → Rs X.K g m own σ ρ H ps → f ρ ps ≠ .und →
    WOk W g.pl X.K (Xs m own g) σ H (f ρ ps) → wpAny (model X.prog X.w) X.A (isTrue e X.env whole) (TP X pins σ (QB g.pl H (f ρ ps))) X.xe s
def asB : D → R Bool
  | .bl b => pure b
  | _ => R.und
theorem asB_ok {d : D} {ps : Ps} (n : asB d ps ≠ .und) : ∃ b, d = .bl b ∧ asB d ps = .ok b ps := by
  cases d with
  | bl b => exact ⟨b, rfl, rfl⟩
  | _ => exact (n rfl).elim
def tvF (f : FE) : FT := fun ρ => do let d ← f ρ; asB d
section
variable {X : Cx} {W : WX} {m : List Md} {e a b c : Expr} {f f1 f2 : FE} {t t1 t2 : FT} {pos : Pos}
theorem epT {pins : List (Addr × Obj)} {σ : L2.St} {Q Q' : Bool → Hp → Prop} {u : Bool} {s : Shared} (h : TP X pins σ Q u s) (q : ∀ v H, Q v H → Q' v H) : TP X pins σ Q' u s := by
  obtain ⟨H, I, z⟩ := h
  exact ⟨H, I, q _ H z⟩
/-- a bool's value as a test -/
theorem tx_v (h : Dx .bo X W m e f) (he : ∀ whole, isTrue e X.env whole = (do let v ← whole; standAt e.pos; holding [v] (truthy v)) := by intro _; rfl) : Tx X W m e (tvF f) := by
  refine ⟨fun g own pins s σ ρ H ps I r n w => ?_⟩
  have n1 := ne_of_bind n
  refine (pt_val (pe_c X e) he).run pins s σ H _ I (cE.mono (h.c r n1 (WOk.left w)) fun v H' ⟨d, ps', e1, x1, p1, q1⟩ => ?_)
  have e2 : tvF f ρ ps = asB d ps' := bind_ok e1
  obtain ⟨b, rfl, e3⟩ := asB_ok (by rw [← e2]; exact n)
  have q2 := q1.flat rfl
  unfold Rep at q2
  exact ⟨b, q2, ps', by rw [e2, e3], x1, p1⟩
def notF (t : FT) : FT := fun ρ => do let b ← t ρ; pure (!b)
def andF (t1 t2 : FT) : FT := fun ρ => do let b ← t1 ρ; if b = true then t2 ρ else pure false
def orF (t1 t2 : FT) : FT := fun ρ => do let b ← t1 ρ; if b = true then pure true else t2 ρ
def cT (X : Cx) (e : Expr) : TT := fun σ H Q => ∀ pins s, Inv X pins σ H s → wpAny (model X.prog X.w) X.A (isTrue e X.env (eval e X.env)) (TP X pins σ Q) X.xe s
theorem pt_c (X : Cx) (e : Expr) : PT X e (cT X e) := ⟨fun pins s σ H Q I h => h pins s I⟩
def cW (X : Cx) (e : Expr) : TT := fun σ H Q => ∀ whole pins s, Inv X pins σ H s → wpAny (model X.prog X.w) X.A (isTrue e X.env whole) (TP X pins σ Q) X.xe s
theorem pw_c (X : Cx) (e : Expr) : PW X e (cW X e) := ⟨fun wh pins s σ H Q I h => h wh pins s I⟩
theorem cT.mono {σ : L2.St} {H : Hp} {Q Q' : Bool → Hp → Prop} (h : cT X e σ H Q) (q : ∀ v H, Q v H → Q' v H) : cT X e σ H Q' := fun pins s I => thn (h pins s I) fun _ _ z => epT z q
theorem cW.mono {σ : L2.St} {H : Hp} {Q Q' : Bool → Hp → Prop} (h : cW X e σ H Q) (q : ∀ v H, Q v H → Q' v H) : cW X e σ H Q' := fun wh pins s I => thn (h wh pins s I) fun _ _ z => epT z q
theorem Tx.can (h : Tx X W m e t) {g : G} {own : Nat → Addr} {σ : L2.St} {ρ : Rho} {H : Hp} {ps : Ps} (r : Rs X.K g m own σ ρ H ps) (n : t ρ ps ≠ .und) (w : WOk W g.pl X.K (Xs m own g) σ H (t ρ ps)) :
    cT X e σ H (QB g.pl H (t ρ ps)) := fun pins s I => h.run g own pins s σ ρ H ps I r n w
theorem Tw.can (h : Tw X W m e t) {g : G} {own : Nat → Addr} {σ : L2.St} {ρ : Rho} {H : Hp} {ps : Ps} (r : Rs X.K g m own σ ρ H ps) (n : t ρ ps ≠ .und) (w : WOk W g.pl X.K (Xs m own g) σ H (t ρ ps)) :
    cW X e σ H (QB g.pl H (t ρ ps)) := fun wh pins s I => h.run wh g own pins s σ ρ H ps I r n w
theorem Tw.tx (h : Tw X W m e t) : Tx X W m e t := ⟨fun g own pins s σ ρ H ps I r n w => h.run _ g own pins s σ ρ H ps I r n w⟩
theorem tx_not (h : Tx X W m a t) : Tx X W m (.UnaryOp .Not a pos) (notF t) := by
  refine ⟨fun g own pins s σ ρ H ps I r n w => ?_⟩
  have n1 := ne_of_bind n
  refine (pt_not (pos := pos) (pt_c X a)).run pins s σ H _ I (cT.mono (h.can r n1 (WOk.left w)) fun v H' ⟨ps', e1, x1, p1⟩ => ⟨ps', bind_ok e1, x1, p1⟩)
theorem tw_and1 (h : Tx X W m a t) : Tw X W m (.BoolOp .And [a] pos) t :=
  ⟨fun wh g own pins s σ ρ H ps I r n w => (pw_and1 (pt_c X a)).run wh pins s σ H _ I (h.can r n w)⟩
theorem tw_or1 (h : Tx X W m a t) : Tw X W m (.BoolOp .Or [a] pos) t :=
  ⟨fun wh g own pins s σ ρ H ps I r n w => (pw_or1 (pt_c X a)).run wh pins s σ H _ I (h.can r n w)⟩
theorem QB.back {pl : Pl} {H H1 : Hp} {r r' : Res Bool} (e : Exo (plS pl) H H1) (hr : r = r') : ∀ v H', QB pl H1 r v H' → QB pl H r' v H' := by
  subst hr
  exact fun v H' ⟨ps', h1, h2, h3⟩ => ⟨ps', h1, e.trans h2, h3⟩
theorem tw_and {rest : List Expr} (h1 : Tx X W m a t1) (h2 : Tw X W m (.BoolOp .And (b :: rest) pos) t2) : Tw X W m (.BoolOp .And (a :: b :: rest) pos) (andF t1 t2) := by
  refine ⟨fun wh g own pins s σ ρ H ps I r n w => ?_⟩
  have n1 := ne_of_bind n
  refine (pw_and (pt_c X a) (pw_c X _)).run wh pins s σ H _ I (cT.mono (h1.can r n1 (WOk.left w)) fun v H' ⟨ps', e1, x1, p1⟩ => ?_)
  have e2 : andF t1 t2 ρ ps = (if v = true then t2 ρ else pure false) ps' := bind_ok e1
  cases v with
  | true =>
    have w1 := WOk.later w x1
    rw [e2] at w1
    exact cW.mono (h2.can (r.mono x1 p1) (by rw [e2] at n; exact n) w1) (QB.back x1 e2.symm)
  | false => exact ⟨ps', e2, x1, p1⟩
theorem tw_or {rest : List Expr} (h1 : Tx X W m a t1) (h2 : Tw X W m (.BoolOp .Or (b :: rest) pos) t2) : Tw X W m (.BoolOp .Or (a :: b :: rest) pos) (orF t1 t2) := by
  refine ⟨fun wh g own pins s σ ρ H ps I r n w => ?_⟩
  have n1 := ne_of_bind n
  refine (pw_or (pt_c X a) (pw_c X _)).run wh pins s σ H _ I (cT.mono (h1.can r n1 (WOk.left w)) fun v H' ⟨ps', e1, x1, p1⟩ => ?_)
  have e2 : orF t1 t2 ρ ps = (if v = true then pure true else t2 ρ) ps' := bind_ok e1
  cases v with
  | true => exact ⟨ps', e2, x1, p1⟩
  | false =>
    have w1 := WOk.later w x1
    rw [e2] at w1
    exact cW.mono (h2.can (r.mono x1 p1) (by rw [e2] at n; exact n) w1) (QB.back x1 e2.symm)
def ifeF (t : FT) (f1 f2 : FE) : FE := fun ρ => do let b ← t ρ; if b = true then f1 ρ else f2 ρ
theorem dx_ife {k : Kd} (h : Tx X W m c t) (h1 : Dx k X W m a f1) (h2 : Dx k X W m b f2) : Dx k X W m (.IfExp c a b pos) (ifeF t f1 f2) := by
  refine ⟨fun g own pins s σ ρ H ps I r n w => ?_⟩
  have n1 := ne_of_bind n
  refine (pe_ifExp (pos := pos) (pt_c X c) (pe_c X a) (pe_c X b)).run pins s σ H _ I (cT.mono (h.can r n1 (WOk.left w)) fun v H' ⟨ps', e1, x1, p1⟩ => ?_)
  have e2 : ifeF t f1 f2 ρ ps = (if v = true then f1 ρ else f2 ρ) ps' := bind_ok e1
  have w1 := WOk.later w x1
  rw [e2] at w1 n
  cases v with
  | true => exact cE.mono (h1.c (r.mono x1 p1) n w1) (QV.back x1 p1 e2.symm)
  | false => exact cE.mono (h2.c (r.mono x1 p1) n w1) (QV.back x1 p1 e2.symm)
/-- a value that is a bool -/
def bvF (t : FT) : FE := fun ρ => do let b ← t ρ; pure (.bl b)
end
end DL
set_option Elab.async false
set_option linter.all false
set_option maxRecDepth 100000
set_option maxHeartbeats 2000000
/-! D7: arguments, calls, subscripts, attributes. -/
namespace DL
open PySem L2
def ArgsR (pl : Pl) (K : PySem.W.Frag) (O : Addr → Prop) (H : Hp) : List Md → List D → List V → Prop
  | [], [], vs => vs = []
  | .sh :: ms, d :: ds, vs => ∃ v r, vs = v :: r ∧ Rep pl K (hid O H) d v ∧ ArgsR pl K O H ms ds r
  | .sb :: ms, d :: ds, vs => ∃ v r, vs = v :: r ∧ RepB pl K O H d v ∧ ArgsR pl K O H ms ds r
  | _, _, _ => False
theorem ArgsR.mono {pl : Pl} {K : PySem.W.Frag} {O : Addr → Prop} {H H' : Hp} (hO : ∀ a, plS pl a → O a) (e : Exo (plS pl) H H') : ∀ {ms : List Md} {ds : List D} {vs : List V}, ArgsR pl K O H ms ds vs → ArgsR pl K O H' ms ds vs
  | [], [], _, h => h
  | .sh :: ms, d :: ds, _, h => by
    obtain ⟨v, r, rfl, h2, h3⟩ := h
    exact ⟨v, r, rfl, h2.mono (e.hid hO), ArgsR.mono hO e h3⟩
  | .sb :: ms, d :: ds, _, h => by
    obtain ⟨v, r, rfl, h2, h3⟩ := h
    exact ⟨v, r, rfl, h2.mono hO e, ArgsR.mono hO e h3⟩
  | [], _ :: _, _, h => h.elim
  | _ :: _, [], _, h => by rename_i m _ _; cases m <;> exact h.elim
  | .no :: _, _ :: _, _, h => h.elim
  | .ow :: _, _ :: _, _, h => h.elim
  | .io :: _, _ :: _, _, h => h.elim
theorem ArgsR.len {pl : Pl} {K : PySem.W.Frag} {O : Addr → Prop} {H : Hp} : ∀ {ms : List Md} {ds : List D} {vs : List V}, ArgsR pl K O H ms ds vs → vs.length = ms.length ∧ ds.length = ms.length
  | [], [], _, h => by rw [show _ = ([] : List V) from h]; exact ⟨rfl, rfl⟩
  | .sh :: ms, d :: ds, _, h => by
    obtain ⟨v, r, rfl, h2, h3⟩ := h
    obtain ⟨q1, q2⟩ := ArgsR.len h3
    exact ⟨by rw [List.length_cons, List.length_cons, q1], by rw [List.length_cons, List.length_cons, q2]⟩
  | .sb :: ms, d :: ds, _, h => by
    obtain ⟨v, r, rfl, h2, h3⟩ := h
    obtain ⟨q1, q2⟩ := ArgsR.len h3
    exact ⟨by rw [List.length_cons, List.length_cons, q1], by rw [List.length_cons, List.length_cons, q2]⟩
  | [], _ :: _, _, h => h.elim
  | _ :: _, [], _, h => by rename_i m _ _; cases m <;> exact h.elim
  | .no :: _, _ :: _, _, h => h.elim
  | .ow :: _, _ :: _, _, h => h.elim
  | .io :: _, _ :: _, _, h => h.elim
/-- what arguments are -/
def QA (ms : List Md) (pl : Pl) (K : PySem.W.Frag) (O : Addr → Prop) (H : Hp) (r : Res (List D)) : List V → Hp → Prop := fun vs H' =>
  ∃ ds ps', r = .ok ds ps' ∧ Exo (plS pl) H H' ∧ PoolAt pl H' ps' ∧ ArgsR pl K O H' ms ds vs
abbrev FA := Rho → R (List D)
structure Ax (X : Cx) (W : WX) (m : List Md) (ms : List Md) (es : List Expr) (f : FA) : Prop where
  run : ∀ (g : G) (own : Nat → Addr) (pos : Pos) (pins : List (Addr × Obj)) (s : Shared) (σ : L2.St) (ρ : Rho) (H : Hp) (ps : Ps), Inv X pins σ H s → Rs X.K g m own σ ρ H ps → f ρ ps ≠ .und →
    WOk W g.pl X.K (Xs m own g) σ H (f ρ ps) → wpAny (model X.prog X.w) X.A (spliced (backTo pos (starEach es X.env))) (AP X pins σ (QA ms g.pl X.K (Xs m own g) H (f ρ ps))) X.xe s
def cA (X : Cx) (es : List Expr) : TA := fun σ H Q => ∀ pos pins s, Inv X pins σ H s → wpAny (model X.prog X.w) X.A (spliced (backTo pos (starEach es X.env))) (AP X pins σ Q) X.xe s
theorem pa_c (X : Cx) (es : List Expr) : PA X es (cA X es) := ⟨fun pos pins s σ H Q I h => h pos pins s I⟩
theorem apI {X : Cx} {pins : List (Addr × Obj)} {σ : L2.St} {Q Q' : List V → Hp → Prop} {u : List Value} {s : Shared} (h : AP X pins σ Q u s) (q : ∀ v H, Q v H → Q' v H) : AP X pins σ Q' u s := by
  obtain ⟨v, H, I, r, z⟩ := h
  exact ⟨v, H, I, r, q v H z⟩
theorem cA.mono {X : Cx} {es : List Expr} {σ : L2.St} {H : Hp} {Q Q' : List V → Hp → Prop} (h : cA X es σ H Q) (q : ∀ v H, Q v H → Q' v H) : cA X es σ H Q' := fun pos pins s I => thn (h pos pins s I) fun _ _ z => apI z q
section
variable {X : Cx} {W : WX} {m ms : List Md} {e a b : Expr} {es : List Expr} {f f1 f2 : FE} {fs : FA} {pos p : Pos}
theorem Ax.can (h : Ax X W m ms es fs) {g : G} {own : Nat → Addr} {σ : L2.St} {ρ : Rho} {H : Hp} {ps : Ps} (r : Rs X.K g m own σ ρ H ps) (n : fs ρ ps ≠ .und) (w : WOk W g.pl X.K (Xs m own g) σ H (fs ρ ps)) :
    cA X es σ H (QA ms g.pl X.K (Xs m own g) H (fs ρ ps)) := fun pos pins s I => h.run g own pos pins s σ ρ H ps I r n w
def nilF : FA := fun _ => pure []
def consF (f : FE) (fs : FA) : FA := fun ρ => do let d ← f ρ; let ds ← fs ρ; pure (d :: ds)
theorem ax_nil : Ax X W m [] [] nilF := ⟨fun g own pos pins s σ ρ H ps I r n w => pa_nil.run pos pins s σ H _ I ⟨[], ps, rfl, Exo.refl, r.pool, rfl⟩⟩
theorem QA.back {pl : Pl} {K : PySem.W.Frag} {O : Addr → Prop} {H H1 : Hp} {r r' : Res (List D)} (e : Exo (plS pl) H H1) (hr : r = r') : ∀ v H', QA ms pl K O H1 r v H' → QA ms pl K O H r' v H' := by
  subst hr
  exact fun v H' ⟨d, ps', h1, h2, h3, h4⟩ => ⟨d, ps', h1, e.trans h2, h3, h4⟩
theorem ax_cons {k : Kd} {md : Md} (h1 : Dx k X W m e f) (h2 : Ax X W m ms es fs) (hk : (k = .cl ∧ md = .sh) ∨ (k = .bo ∧ md = .sb))
    (hs : starEach (e :: es) X.env = (false, eval e X.env) :: starEach es X.env := by rfl) : Ax X W m (md :: ms) (e :: es) (consF f fs) := by
  refine ⟨fun g own pos pins s σ ρ H ps I r n w => ?_⟩
  have n1 := ne_of_bind n
  refine (pa_cons (pe_c X e) (pa_c X es) hs).run pos pins s σ H _ I (cE.mono (h1.c r n1 (WOk.left w)) fun v H1 ⟨d, ps1, e1, x1, p1, q1⟩ => ?_)
  have c1 : consF f fs ρ ps = (fs ρ >>= fun ds => pure (d :: ds)) ps1 := bind_ok e1
  have n2 : fs ρ ps1 ≠ .und := ne_of_bind (by rw [← c1]; exact n)
  have w1 := WOk.later w x1
  rw [c1] at w1
  refine cA.mono (h2.can (r.mono x1 p1) n2 (WOk.left w1)) fun vs H2 ⟨ds, ps2, e2, x2, p2, q2⟩ => ?_
  refine ⟨d :: ds, ps2, by rw [c1]; exact bind_ok e2, x1.trans x2, p2, ?_⟩
  rcases hk with ⟨rfl, rfl⟩ | ⟨rfl, rfl⟩
  · exact ⟨v, vs, rfl, Rep.mono (x2.hid Xs.pl) q1, q2⟩
  · exact ⟨v, vs, rfl, RepB.mono Xs.pl x2 q1, q2⟩
theorem ax_s {fs : FA} (h1 : Dx .cl X W m e f) (h2 : Ax X W m ms es fs) (hs : starEach (e :: es) X.env = (false, eval e X.env) :: starEach es X.env := by rfl) : Ax X W m (.sh :: ms) (e :: es) (consF f fs) := ax_cons h1 h2 (.inl ⟨rfl, rfl⟩) hs
theorem ax_b {fs : FA} (h1 : Dx .bo X W m e f) (h2 : Ax X W m ms es fs) (hs : starEach (e :: es) X.env = (false, eval e X.env) :: starEach es X.env := by rfl) : Ax X W m (.sb :: ms) (e :: es) (consF f fs) := ax_cons h1 h2 (.inr ⟨rfl, rfl⟩) hs

/-! ### calls of defs -/
/-- what is wanted of what is raised -/
def EOk (E : XK) (pl : Pl) (K : PySem.W.Frag) (O : Addr → Prop) (H : Hp) (r : Res D) : Prop := ∀ x ps' dx H', r = .exc x ps' → Exo (plS pl) H H' → PoolAt pl H' ps' → ExR pl K O H' dx x → E (.ref x.cls) (some dx) H'
/-- the promise of a def that changes nothing that stood -/
def spD (K : PySem.W.Frag) (kr : Kd) (ms : List Md) (F : List D → R D) : Sp := fun vs H Q E => ∃ (pl : Pl) (O : Addr → Prop) (ds : List D) (ps : Ps),
  ArgsR pl K O H ms ds vs ∧ (∀ a, plS pl a → O a) ∧ (∀ a, O a → H a ≠ none) ∧ PoolAt pl H ps ∧ F ds ps ≠ .und ∧ (∀ v H', QV kr pl K O H (F ds ps) v H' → Q v H') ∧ EOk E pl K O H (F ds ps)
/-- a def keeps it -/
abbrev FnDk (X : Cx) (kr : Kd) (k : Nat) (f : Addr) (fd : FuncData) (nms : List Str) (ms : List Md) (F : List D → R D) : Prop := FnOk X.prog X.w X.K X.mg X.base (L2.CX X.prog X.w) k f fd nms (spD X.K kr ms F)
abbrev FnD (X : Cx) (k : Nat) (f : Addr) (fd : FuncData) (nms : List Str) (ms : List Md) (F : List D → R D) : Prop := FnDk X .cl k f fd nms ms F
def callF (F : List D → R D) (fs : FA) : FE := fun ρ => do let ds ← fs ρ; F ds
theorem spD_of {F : List D → R D} {g : G} {own : Nat → Addr} {σ : L2.St} {ρ : Rho} {H H1 : Hp} {ps ps1 : Ps} {ds : List D} {vs : List V} (r : Rs X.K g m own σ ρ H ps) (x1 : Exo (plS g.pl) H H1) (p1 : PoolAt g.pl H1 ps1) (q : ArgsR g.pl X.K (Xs m own g) H1 ms ds vs)
    {R0 : Res D} {kr : Kd} (e : R0 = F ds ps1) (n : R0 ≠ .und) (w : WOk W g.pl X.K (Xs m own g) σ H R0) : spD X.K kr ms F vs H1 (QV kr g.pl X.K (Xs m own g) H R0) (WE W σ) := by
  subst e
  exact ⟨g.pl, Xs m own g, ds, ps1, q, Xs.pl, (r.mono x1 p1).xT, p1, n, QV.back x1 p1 rfl, fun x ps' dx H' e1 e2 => w x ps' dx H' e1 (x1.trans e2)⟩
theorem dx_call {kr : Kd} {F : List D → R D} {k : Nat} {f : Addr} {fd : FuncData} {nms : List Str} {x : Str} (hF : FnDk X kr k f fd nms ms F) (hr : Room k X.A) (hm : X.mg x = some (.ref f)) (hk : PySem.W.keepIn X.K (.ref f) = true) (hb : Binds X.K fd nms []) (tk : Takes X W) (ha : Ax X W m ms (e :: es) fs)
    (hg : Gl X x := by rfl) (hdb : (x == ("__debug__" : Str)) = false := by decide) (he : starEach (e :: es) X.env = (false, eval e X.env) :: starEach es X.env := by rfl) (hpl : (backTo pos (starEach es X.env)).any (·.1) = false := by rfl) :
    Dx kr X W m (.Call (.Name x p) (e :: es) [] pos) (callF F fs) := by
  refine ⟨fun g own pins s σ ρ H ps I r n w => ?_⟩
  refine (pe_callSD hF hr hg hm hk hb .nil (fun σ => passAt tk σ) (pa_c X _) hdb he hpl).run pins s σ H _ I (cA.mono (ha.can r (ne_of_bind n) (WOk.left w)) fun vs H1 ⟨ds, ps1, e1, x1, p1, q1⟩ => ?_)
  rw [List.append_nil]
  exact spD_of r x1 p1 q1 (bind_ok e1) n w
theorem dx_call0 {kr : Kd} {F : List D → R D} {k : Nat} {f : Addr} {fd : FuncData} {nms : List Str} {x : Str} (hF : FnDk X kr k f fd nms [] F) (hr : Room k X.A) (hm : X.mg x = some (.ref f)) (hk : PySem.W.keepIn X.K (.ref f) = true) (hb : Binds X.K fd nms []) (tk : Takes X W)
    (hg : Gl X x := by rfl) (hdb : (x == ("__debug__" : Str)) = false := by decide) : Dx kr X W m (.Call (.Name x p) [] [] pos) (callF F nilF) := by
  refine ⟨fun g own pins s σ ρ H ps I r n w => ?_⟩
  refine wpAny_Call_Name_kw (ld_glob I hg hm ?_ hdb)
  exact PySem.W.callWith_K0 I.kIn hk (run_fnSD (us := []) (vs := []) (E := fun σ => WE W σ) hF hr hb .nil (passAt tk σ) I .nil (spD_of r Exo.refl r.pool (by rfl) (R0 := callF F nilF ρ ps) rfl n w))

end
end DL
set_option Elab.async false
set_option linter.all false
set_option maxRecDepth 100000
set_option maxHeartbeats 2000000
/-! D8: fields, methods, makers, own special methods. -/
namespace DL
open PySem PySem.Spec PyProof.Rows L2
section
variable {X : Cx} {W : WX} {m ms : List Md} {e a b o : Expr} {es : List Expr} {f f1 f2 fo : FE} {fs : FA} {pos p : Pos}

/-! ### a field -/
def D.fld (nm : Str) : D → R D
  | .ins _ fs => ofO (fs.lookup nm)
  | _ => R.und
theorem RepF.look {pl : Pl} {K : PySem.W.Frag} {H : Hp} {nm : Str} : ∀ {ds : List (Str × D)} {vs : List (Str × V)} {d : D}, RepF pl K H ds vs → ds.lookup nm = some d → ∃ v, vs.lookup nm = some v ∧ Rep pl K H d v
  | [], _, d, h, q => nomatch q
  | (k, d') :: ds, _, d, h, q => by
    unfold RepF at h
    obtain ⟨v, r, rfl, h2, h3⟩ := h
    rw [List.lookup_cons] at q ⊢
    by_cases e : (nm == k) = true
    · rw [e] at q ⊢; cases q; exact ⟨v, rfl, h2⟩
    · have e : (nm == k) = false := by simpa using e
      rw [e] at q ⊢; exact RepF.look h3 q
theorem RepF.nolook {pl : Pl} {K : PySem.W.Frag} {H : Hp} {nm : Str} : ∀ {ds : List (Str × D)} {vs : List (Str × V)}, RepF pl K H ds vs → ds.lookup nm = none → vs.lookup nm = none
  | [], _, h, q => by unfold RepF at h; rw [h]; rfl
  | (k, d') :: ds, _, h, q => by
    unfold RepF at h
    obtain ⟨v, r, rfl, h2, h3⟩ := h
    rw [List.lookup_cons] at q ⊢
    by_cases e : (nm == k) = true
    · rw [e] at q; cases q
    · have e : (nm == k) = false := by simpa using e
      rw [e] at q ⊢; exact RepF.nolook h3 q
/-- the class, its fields: only of one class -/
def D.insOf (C : Addr) (d : D) : Bool := match d with
  | .ins C' _ => C' == C
  | _ => false
theorem D.insOf_eq {C : Addr} {d : D} (h : D.insOf C d = true) : ∃ fs, d = .ins C fs := by
  cases d with
  | ins C' fs => exact ⟨fs, by rw [show C' = C from eq_of_beq h]⟩
  | _ => exact Bool.noConfusion (show false = true from h)
def fldF (C : Addr) (nm : Str) (f : FE) : FE := fun ρ => do let d ← f ρ; if D.insOf C d = true then D.fld nm d else R.und
theorem ifB_und {α : Type} {c : Bool} {x : R α} {ps : Ps} (n : (if c = true then x else R.und) ps ≠ .und) : c = true ∧ (if c = true then x else R.und) ps = x ps := by
  cases c with
  | true => exact ⟨rfl, rfl⟩
  | false => exact (n rfl).elim
theorem dx_fld {C : Addr} {nm : Str} (h : Dx .bo X W m o fo) (c : Cls X.K C) (na : NoAttr X.K C nm) (hb : attributeBase o nm X.env (eval o X.env) = eval o X.env := by rfl) : Dx .cl X W m (.Attribute o nm pos) (fldF C nm fo) := by
  refine ⟨fun g own pins s σ ρ H ps I r n w => ?_⟩
  refine (pe_fld (pe_c X o) hb).run pins s σ H _ I (cE.mono (h.c r (ne_of_bind n) (WOk.left w)) fun v H1 ⟨d, ps1, e1, x1, p1, q1⟩ => ?_)
  have e2 : fldF C nm fo ρ ps = (if D.insOf C d = true then D.fld nm d else R.und) ps1 := bind_ok e1
  rw [e2] at n ⊢
  obtain ⟨h1, h2⟩ := ifB_und n
  obtain ⟨fl, rfl⟩ := D.insOf_eq h1
  rw [h2] at n ⊢
  obtain ⟨d', l1, l2⟩ := ofO_ne n
  obtain ⟨q, dx, vs, rfl, g1, g2⟩ := q1.ins
  obtain ⟨v', l3, l4⟩ := g2.look l1
  exact ⟨q, C, dx, vs, v', rfl, g1, c, na, l3, d', ps1, l2, x1, p1, l4⟩

/-! ### o.m(..) -/
def D.noF (nm : Str) : D → Bool
  | .ins _ fs => (fs.lookup nm).isNone
  | _ => false
def methF (C : Addr) (nm : Str) (F : List D → R D) (fo : FE) (fs : FA) : FE := fun ρ => do let d ← fo ρ; if D.insOf C d && D.noF nm d = true then (do let ds ← fs ρ; F (d :: ds)) else R.und
theorem dx_meth_run {kr : Kd} {F : List D → R D} {k : Nat} {f : Addr} {fd : FuncData} {nms : List Str} {md : Md} {g : G} {own : Nat → Addr} {pins : List (Addr × Obj)} {s : Shared} {σ : L2.St} {ρ : Rho} {H H1 H2 : Hp} {ps ps2 : Ps} {d : D} {x : V} {u : Value} {ds : List D} {vs : List V} {us : List Value} {R0 : Res D}
    (hF : FnDk X kr k f fd nms (md :: ms) F) (hr : Room k X.A) (hb : Binds X.K fd nms []) (tk : Takes X W) (r : Rs X.K g m own σ ρ H ps) (I : Inv X pins σ H2 s) (x1 : Exo (plS g.pl) H H1) (x2 : Exo (plS g.pl) H1 H2) (p2 : PoolAt g.pl H2 ps2)
    (q1 : (md = .sb ∧ RepB g.pl X.K (Xs m own g) H1 d x) ∨ (md = .sh ∧ Rep g.pl X.K (hid (Xs m own g) H1) d x)) (q2 : ArgsR g.pl X.K (Xs m own g) H2 ms ds vs) (rx : RelV x u) (rs : Vals vs us) (e : R0 = F (d :: ds) ps2) (n : R0 ≠ .und) (w : WOk W g.pl X.K (Xs m own g) σ H R0) :
    wpAny (model X.prog X.w) X.A (call (.ref f) (u :: us)) (EP X pins σ (QV kr g.pl X.K (Xs m own g) H R0)) X.xe s := by
  have x12 := x1.trans x2
  have qa : ArgsR g.pl X.K (Xs m own g) H2 (md :: ms) (d :: ds) (x :: vs) := by
    rcases q1 with ⟨rfl, q1⟩ | ⟨rfl, q1⟩
    · exact ⟨x, vs, rfl, q1.mono Xs.pl x2, q2⟩
    · exact ⟨x, vs, rfl, q1.mono (x2.hid Xs.pl), q2⟩
  have sp := spD_of (kr := kr) (ms := md :: ms) (F := F) r x12 p2 qa e n w
  exact run_fnSD (us := u :: us) (vs := x :: vs) (E := fun σ => WE W σ) hF hr hb .nil (passAt tk σ) I (.cons rx rs) (by rw [List.append_nil]; exact sp)
def KdMd (k : Kd) (md : Md) : Prop := (k = .bo ∧ md = .sb) ∨ (k = .cl ∧ md = .sh)
theorem KdMd.q {k : Kd} {md : Md} (h : KdMd k md) {pl : Pl} {K : PySem.W.Frag} {O : Addr → Prop} {H H' : Hp} {d : D} {v : V} (q : RepQ k pl K O H H' d v) : (md = .sb ∧ RepB pl K O H' d v) ∨ (md = .sh ∧ Rep pl K (hid O H') d v) := by
  rcases h with ⟨rfl, rfl⟩ | ⟨rfl, rfl⟩
  · exact .inl ⟨rfl, q⟩
  · exact .inr ⟨rfl, q⟩
theorem KdMd.rb {k : Kd} {md : Md} (h : KdMd k md) {pl : Pl} {K : PySem.W.Frag} {O : Addr → Prop} {H H' : Hp} {d : D} {v : V} (q : RepQ k pl K O H H' d v) : RepB pl K O H' d v := by
  rcases h with ⟨rfl, rfl⟩ | ⟨rfl, rfl⟩
  · exact q
  · exact .inl q
theorem kd_b : KdMd .bo .sb := .inl ⟨rfl, rfl⟩
theorem kd_s : KdMd .cl .sh := .inr ⟨rfl, rfl⟩
theorem dx_meth {kr : Kd} {F : List D → R D} {k : Nat} {kd : Kd} {md : Md} {f C : Addr} {fd : FuncData} {nms : List Str} {nm : Str} {apos : Pos} {pl : Sem Bool} (ho : Dx kd X W m o fo) (hk : KdMd kd md) (hF : FnDk X kr k f fd nms (md :: ms) F) (c : Cls X.K C) (hm : Meth X.K C nm f) (hr : Room k X.A) (hb : Binds X.K fd nms []) (tk : Takes X W)
    (ha : Ax X W m ms (e :: es) fs) (hst : starEach (e :: es) X.env = (false, eval e X.env) :: starEach es X.env := by rfl) (hpl : (backTo pos (starEach es X.env)).any (·.1) = false := by rfl)
    (ht : eval (.Call (.Attribute o nm apos) (e :: es) [] pos) X.env = (do
      let ov ← eval o X.env
      standAt apos.atName
      let (f, first) ← holding [ov] (getMethod ov nm pl)
      callWith pos f first (backTo pos (starEach (e :: es) X.env)) (backToKw pos (keywordEach [] X.env))) := by rfl) : Dx kr X W m (.Call (.Attribute o nm apos) (e :: es) [] pos) (methF C nm F fo fs) := by
  refine ⟨fun g own pins s σ ρ H ps I r n w => ?_⟩
  refine PySem.W.methodCall_KW (pl := pl) (thn (ho.run g own pins s σ ρ H ps I r (ne_of_bind n) (WOk.left w)) fun u s1 ⟨x, H1, I1, rx, d, ps1, e1, x1, p1, q1⟩ => ?_) ht
  have e2 : methF C nm F fo fs ρ ps = (if D.insOf C d && D.noF nm d = true then (do let ds ← fs ρ; F (d :: ds)) else R.und) ps1 := bind_ok e1
  rw [e2] at n w ⊢
  obtain ⟨h1, h2⟩ := ifB_und n
  rw [h2] at n w ⊢
  rw [Bool.and_eq_true] at h1
  obtain ⟨fl, rfl⟩ := D.insOf_eq h1.1
  obtain ⟨q, dx, vs, ev, g1, g2⟩ := (KdMd.rb hk q1).ins
  subst ev
  obtain rfl : u = Value.ref q := rx
  refine getmeth_ok I1 g1 c hm (g2.nolook (by have := h1.2; unfold D.noF at this; simpa using this)) ?_
  have w1 := WOk.later w x1
  refine PySem.W.callWith_K (first := [.ref q]) (h₀ := X.base) I1.ok.mod.kin hm.kp (thn (ha.run g own pos pins s1 σ ρ H1 ps1 I1 (r.mono x1 p1) (ne_of_bind n) (WOk.left w1)) fun us s2 ⟨ws, H2, I2, rs, ds, ps2, e3, x2, p2, q2⟩ => ⟨I2.kIn, ?_⟩) hst hpl
  have e4 : (fs ρ >>= fun ds => F (D.ins C fl :: ds)) ps1 = F (D.ins C fl :: ds) ps2 := bind_ok e3
  exact dx_meth_run (u := .ref q) hF hr hb tk r I2 x1 x2 p2 (KdMd.q hk q1) q2 rfl rs e4 n w
theorem dx_meth0 {kr : Kd} {F : List D → R D} {k : Nat} {kd : Kd} {md : Md} {f C : Addr} {fd : FuncData} {nms : List Str} {nm : Str} {apos : Pos} {pl : Sem Bool} (ho : Dx kd X W m o fo) (hk : KdMd kd md) (hF : FnDk X kr k f fd nms [md] F) (c : Cls X.K C) (hm : Meth X.K C nm f) (hr : Room k X.A) (hb : Binds X.K fd nms []) (tk : Takes X W)
    (ht : eval (.Call (.Attribute o nm apos) [] [] pos) X.env = (do
      let ov ← eval o X.env
      standAt apos.atName
      let (f, first) ← holding [ov] (getMethod ov nm pl)
      callWith pos f first (backTo pos (starEach [] X.env)) (backToKw pos (keywordEach [] X.env))) := by rfl) : Dx kr X W m (.Call (.Attribute o nm apos) [] [] pos) (methF C nm F fo nilF) := by
  refine ⟨fun g own pins s σ ρ H ps I r n w => ?_⟩
  refine PySem.W.methodCall_KW (pl := pl) (thn (ho.run g own pins s σ ρ H ps I r (ne_of_bind n) (WOk.left w)) fun u s1 ⟨x, H1, I1, rx, d, ps1, e1, x1, p1, q1⟩ => ?_) ht
  have e2 : methF C nm F fo nilF ρ ps = (if D.insOf C d && D.noF nm d = true then (do let ds ← nilF ρ; F (d :: ds)) else R.und) ps1 := bind_ok e1
  rw [e2] at n w ⊢
  obtain ⟨h1, h2⟩ := ifB_und n
  rw [h2] at n w ⊢
  rw [Bool.and_eq_true] at h1
  obtain ⟨fl, rfl⟩ := D.insOf_eq h1.1
  obtain ⟨q, dx, vs, ev, g1, g2⟩ := (KdMd.rb hk q1).ins
  subst ev
  obtain rfl : u = Value.ref q := rx
  refine getmeth_ok I1 g1 c hm (g2.nolook (by have := h1.2; unfold D.noF at this; simpa using this)) ?_
  exact PySem.W.callWith_K0 (first := [.ref q]) I1.kIn hm.kp (dx_meth_run (u := .ref q) (us := []) (vs := []) (ds := []) hF hr hb tk r I1 x1 Exo.refl p1 (KdMd.q hk q1) rfl rfl .nil rfl n w)

/-! ### own special methods -/
/-- o[e], by an own __getitem__ -/
def subOF (C : Addr) (F : List D → R D) (fo f : FE) : FE := fun ρ => do let d ← fo ρ; let i ← f ρ; if D.insOf C d = true then F [d, i] else R.und
theorem fnIn_of {K : PySem.W.Frag} {f : Addr} {oc : Value} {od : Option Addr} {fd : FuncData} {osl : Array (Option Value)} (l : K.lookup f = some ⟨oc, od, .func fd, osl⟩) : PySem.W.fnIn K f = true := by
  unfold PySem.W.fnIn; rw [l]
/-- the own special method runs -/
theorem spec_run {F : List D → R D} {k : Nat} {f : Addr} {fd : FuncData} {nms : List Str} {mds : List Md} {A' : Around} {pl : Pl} {O : Addr → Prop} {pins : List (Addr × Obj)} {s : Shared} {σ : L2.St} {H : Hp} {ps : Ps} {ds : List D} {vs : List V} {us : List Value} (Q : VK) (E : XK)
    (hF : FnD X k f fd nms mds F) (hr : Room k A') (hA : A'.frames = X.A.frames) (hb : Binds X.K fd nms []) (hx : ∀ (e : Value) (s' : Shared), L2.CX X.prog X.w X.stack H s E e s' → X.xe e s') (I : Inv X pins σ H s) (rs : Vals vs us)
    (qa : ArgsR pl X.K O H mds ds vs) (hO : ∀ a, plS pl a → O a) (hT : ∀ a, O a → H a ≠ none) (hp : PoolAt pl H ps) (n : F ds ps ≠ .und) (hE : EOk E pl X.K O H (F ds ps)) (hQ : ∀ v H', QV .cl pl X.K O H (F ds ps) v H' → Q v H') :
    wpAny (model X.prog X.w) A' (call (.ref f) us) (EP X pins σ Q) X.xe s := by
  have sp : spD X.K .cl mds F vs H Q E := ⟨pl, O, ds, ps, qa, hO, hT, hp, n, hQ, hE⟩
  have hl : us.length = nms.length := by rw [← rs.length]; exact hF.len _ _ _ _ sp
  have e0 : Env0 X.prog X.w X.K X.mg X.base A' X.stack s H := ⟨by rw [hA]; exact I.env0.frames, I.env0.mod, I.env0.bs, I.env0.bsz, I.env0.funs, I.env0.frf, I.env0.hok, I.env0.bare⟩
  have hb' := hb s us I.kIn (by rw [List.append_nil]; exact hl)
  rw [List.append_nil] at hb'
  refine wpAny_call (codeAny_mono (hF.run A' X.stack s H ⟨us, []⟩ us vs Q E hr e0 hb' rs sp) fun r s' hq => ?_)
  cases r with
  | error e => exact hx e s' hq
  | ok fl =>
    cases fl with
    | ret u => exact I.after hq
    | next => exact False.elim hq
    | brk => exact False.elim hq
    | cont => exact False.elim hq
theorem inst_at {pins : List (Addr × Obj)} {s : Shared} {σ : L2.St} {H : Hp} {q C dx : Addr} {vs : List (Str × V)} (I : Inv X pins σ H s) (h : H q = some (.ins C dx vs)) : ∃ od, PySem.W.InstAt s.heap q (PySem.W.instObj C dx) C od := by
  obtain ⟨mA, O, _⟩ := ins_get I.hok h
  obtain ⟨od, J, _⟩ := O.look
  exact ⟨_, J⟩
theorem hx_of (tk : Takes X W) {pins : List (Addr × Obj)} {s : Shared} {σ : L2.St} {H : Hp} (I : Inv X pins σ H s) : ∀ (e : Value) (s' : Shared), L2.CX X.prog X.w X.stack H s (WE W σ) e s' → X.xe e s' :=
  fun e s' hq => passAt tk σ pins H s e s' I hq
structure Spec (K : PySem.W.Frag) (C : Addr) (nm : Str) (f : Addr) : Prop where
  at_ : PySem.W.findIn K (.ref C) nm = some (some (.ref f))
  fn : PySem.W.isFn K (.ref f) = true
def noX {α : Type} (x : R α) : R α := fun ps => match x ps with
  | .ok a ps' => .ok a ps'
  | _ => .und
theorem noX_ok {α : Type} {x : R α} {ps : Ps} (n : noX x ps ≠ .und) : ∃ a ps', x ps = .ok a ps' ∧ noX x ps = .ok a ps' := by
  unfold noX at n ⊢
  cases h : x ps with
  | und => rw [h] at n; exact (n rfl).elim
  | exc e q => rw [h] at n; exact (n rfl).elim
  | ok a q => exact ⟨a, q, rfl, rfl⟩
def WF : WX := fun _ _ _ _ => False
def EF : XK := fun _ _ _ => False
theorem no_exc {P : Program} {w : World} {l : List Env} {H : Hp} {s : Shared} {e : Value} {s' : Shared} : ¬ L2.CX P w l H s EF e s' := fun ⟨_, _, _, _, _, _, _, _, _, _, _, _, z⟩ => z
theorem takesF {X : Cx} : Takes X WF := fun u s' ⟨_, _, _, _, _, _, _, _, _, _, _, _, _, _, _, _, z⟩ => z.elim
def D.inOwn (C : Addr) (F : List D → R D) (neg : Bool) (a b : D) : R D := if D.insOf C b = true then (do let c ← noX (do let r ← F [b, a]; asB r); pure (.bl (if neg then !c else c))) else R.und
theorem own_run {F : List D → R D} {k : Nat} {f C : Addr} {fd : FuncData} {nms : List Str} {A' : Around} {neg : Bool} {pl : Pl} {O : Addr → Prop} {pins : List (Addr × Obj)} {s : Shared} {σ : L2.St} {H : Hp} {ps : Ps} {d1 d2 : D} {x y : V} {u v : Value}
    (hF : FnD X k f fd nms [.sb, .sb] F) (hr : Room k A') (hA : A'.frames = X.A.frames) (hb : Binds X.K fd nms []) (I : Inv X pins σ H s) (hO : ∀ a, plS pl a → O a) (hT : ∀ a, O a → H a ≠ none) (hp : PoolAt pl H ps) (r1 : RepB pl X.K O H d1 x) (r2 : RepB pl X.K O H d2 y) (rx : RelV x u) (ry : RelV y v)
    (n : D.inOwn C F neg d1 d2 ps ≠ .und) : ∃ (c : Bool) (ps' : Ps), D.inOwn C F neg d1 d2 ps = .ok (.bl (if neg then !c else c)) ps' ∧ (∃ fl, d2 = .ins C fl) ∧
      wpAny (model X.prog X.w) A' (call (.ref f) [v, u]) (fun r s' => r = .bool c ∧ ∃ H', Inv X pins σ H' s' ∧ Exo (plS pl) H H' ∧ PoolAt pl H' ps') X.xe s := by
  unfold D.inOwn at n ⊢
  obtain ⟨h1, h2⟩ := ifB_und n
  rw [h2] at n ⊢
  obtain ⟨c, ps', h3, h4⟩ := noX_ok (ne_of_bind n)
  refine ⟨c, ps', bind_ok h4, D.insOf_eq h1, ?_⟩
  have n2 : F [d2, d1] ps ≠ .und := fun z => by rw [bind_und z] at h3; cases h3
  cases h5 : F [d2, d1] ps with
  | und => exact (n2 h5).elim
  | exc e q => rw [bind_exc h5] at h3; cases h3
  | ok r q =>
    rw [bind_ok h5] at h3
    obtain ⟨c', rfl, h6⟩ := asB_ok (d := r) (ps := q) (by rw [h3]; exact fun z => nomatch z)
    rw [h3] at h6
    cases h6
    refine thn (spec_run (Q := fun v H' => v = .bl c ∧ Exo (plS pl) H H' ∧ PoolAt pl H' ps') (E := EF) hF hr hA hb (fun _ _ z => (no_exc z).elim) I (.cons ry (.cons rx .nil)) (ds := [d2, d1]) (vs := [y, x]) ⟨_, _, rfl, r2, _, _, rfl, r1, rfl⟩ hO hT hp n2 (fun x' ps'' dx H' e => by rw [h5] at e; cases e) fun v' H' ⟨d, ps'', e, e2, e3, e4⟩ => ?_) fun r s' ⟨v', H', I', rv, ev, e2, e3⟩ => ?_
    · rw [h5] at e
      cases e
      have e4 : Rep pl X.K (hid O H') (.bl c) v' := e4
      unfold Rep at e4
      exact ⟨e4, e2, e3⟩
    · subst ev
      exact ⟨rv, H', I', e2, e3⟩
theorem od_inO {F : List D → R D} {k : Nat} {f C : Addr} {fd : FuncData} {nms : List Str} (hF : FnD X k f fd nms [.sb, .sb] F) (hr : Room k X.A) (hb : Binds X.K fd nms []) (sp : Spec X.K C "__contains__" f) : OpD .cl X (compareOp .In) (D.inOwn C F false) := by
  intro pl O pins s σ H ps d1 d2 x y u v I hO hT p r1 r2 rx ry n
  obtain ⟨c, ps', h1, ⟨fl, rfl⟩, h2⟩ := own_run hF hr rfl hb I hO hT p r1 r2 rx ry n
  obtain ⟨q, dx, vs, rfl, g1, g2⟩ := r2.ins
  cases ry
  obtain ⟨od, J⟩ := inst_at I g1
  obtain ⟨mm, Fr⟩ := I.fr
  refine PySem.W.in_K Fr I.ok.mod.kin J sp.at_ sp.fn (thn h2 fun r s' ⟨er, H', I', e2, e3⟩ => ?_)
  subst er
  exact wpAny_truthy_bool ⟨.bl c, H', I', rfl, .bl c, ps', h1, e2, e3, by show Rep _ _ _ _ _; unfold Rep; rfl⟩
theorem od_notinO {F : List D → R D} {k : Nat} {f C : Addr} {fd : FuncData} {nms : List Str} (hF : FnD X k f fd nms [.sb, .sb] F) (hr : Room k X.A) (hb : Binds X.K fd nms []) (sp : Spec X.K C "__contains__" f) : OpD .cl X (compareOp .NotIn) (D.inOwn C F true) := by
  intro pl O pins s σ H ps d1 d2 x y u v I hO hT p r1 r2 rx ry n
  obtain ⟨c, ps', h1, ⟨fl, rfl⟩, h2⟩ := own_run hF hr rfl hb I hO hT p r1 r2 rx ry n
  obtain ⟨q, dx, vs, rfl, g1, g2⟩ := r2.ins
  cases ry
  obtain ⟨od, J⟩ := inst_at I g1
  obtain ⟨mm, Fr⟩ := I.fr
  refine PySem.W.notIn_K Fr I.ok.mod.kin J sp.at_ sp.fn (thn h2 fun r s' ⟨er, H', I', e2, e3⟩ => ?_)
  subst er
  exact wpAny_truthy_bool ⟨.bl (!c), H', I', rfl, .bl (!c), ps', h1, e2, e3, by show Rep _ _ _ _ _; unfold Rep; rfl⟩
/-- o[e], by an own __getitem__ -/
theorem dx_subO {F : List D → R D} {k : Nat} {f C : Addr} {fd : FuncData} {nms : List Str} (ho : Dx .bo X W m o fo) (hi : Dx .bo X W m e f1) (hF : FnD X k f fd nms [.sb, .sb] F) (hr : Room (k + 1) X.A) (hb : Binds X.K fd nms []) (sp : Spec X.K C "__getitem__" f) (hfn : PySem.W.fnIn X.K f = true) (tk : Takes X W)
    (hsl : ∀ ov iv, subscripted e true ov iv = runValue (.builtin "lifetime.subscript" ⟨[ov, iv], []⟩) := by intro _ _; with_unfolding_all rfl) :
    Dx .cl X W m (.Subscript o e pos) (subOF C F fo f1) := by
  refine ⟨fun g own pins s σ ρ H ps I r n w => ?_⟩
  refine Subscript_ (thn (ho.run g own pins s σ ρ H ps I r (ne_of_bind n) (WOk.left w)) fun u s1 ⟨x, H1, I1, rx, d, ps1, e1, x1, p1, q1⟩ => ?_)
  have e2 : subOF C F fo f1 ρ ps = (f1 ρ >>= fun i => if D.insOf C d = true then F [d, i] else R.und) ps1 := bind_ok e1
  rw [e2] at n w ⊢
  have w1 := WOk.later w x1
  have r1 := r.mono x1 p1
  refine thn (hi.run g own pins s1 σ ρ H1 ps1 I1 r1 (ne_of_bind n) (WOk.left w1)) fun v s2 ⟨y, H2, I2, ry, i, ps2, e3, x2, p2, q2⟩ => ?_
  have e4 : (f1 ρ >>= fun i => if D.insOf C d = true then F [d, i] else R.und) ps1 = (if D.insOf C d = true then F [d, i] else R.und) ps2 := bind_ok e3
  rw [e4] at n w ⊢
  obtain ⟨h1, h2⟩ := ifB_und n
  rw [h2] at n w ⊢
  obtain ⟨fl, rfl⟩ := D.insOf_eq h1
  have q1' := q1.mono Xs.pl x2
  obtain ⟨q, dx, vs, rfl, g1, g2⟩ := q1'.ins
  obtain rfl : u = Value.ref q := rx
  obtain ⟨od, J⟩ := inst_at I2 g1
  obtain ⟨mm, Fr⟩ := I2.fr
  have w2 := WOk.later w (x1.trans x2)
  refine PySem.W.sub_K Fr I2.ok.mod.kin J sp.at_ hfn sp.fn ?_ (hsl _ _)
  exact spec_run (E := WE W σ) (Q := QV .cl g.pl X.K (Xs m own g) H (F [D.ins C fl, i] ps2)) hF hr.in1 rfl hb (hx_of tk I2) I2 (.cons rfl (.cons ry .nil)) (ds := [.ins C fl, i]) (vs := [.ref q, y]) ⟨_, _, rfl, q1', _, _, rfl, q2, rfl⟩ Xs.pl (r1.mono x2 p2).xT p2 n (fun x' ps' dx' H' a1 a2 => w2 x' ps' dx' H' a1 a2) (QV.back (x1.trans x2) p2 rfl)
end
end DL
set_option Elab.async false
set_option linter.all false
set_option maxRecDepth 100000
set_option maxHeartbeats 2000000
/-! D9: own ==, len; properties; makers; built-ins by name; subscripts. -/
namespace DL
open PySem PySem.Spec PyProof.Rows L2
section
variable {X : Cx} {W : WX} {m ms : List Md} {e a b o : Expr} {es : List Expr} {f f1 f2 fo : FE} {fs : FA} {pos p : Pos}

/-! ### a property -/
def propF (C : Addr) (F : List D → R D) (fo : FE) : FE := fun ρ => do let d ← fo ρ; if D.insOf C d = true then noX (F [d]) else R.und
theorem pass_F {Y : Cx} : Passes (L2.CX Y.prog Y.w) Y EF := fun _ _ _ _ _ _ _ z => (no_exc z).elim
theorem dx_prop {F : List D → R D} {k : Nat} {C q g0 : Addr} {fd : FuncData} {nms : List Str} {nm : Str} (ho : Dx .bo X W m o fo) (c : Cls X.K C) (hp : PropOf X.K C nm q g0) (hF : FnD X k g0 fd nms [.sb] F) (hr : Room (k + 1) X.A) (hb : Binds X.K fd nms [])
    (hab : attributeBase o nm X.env (eval o X.env) = eval o X.env := by rfl) : Dx .cl X W m (.Attribute o nm pos) (propF C F fo) := by
  refine ⟨fun g own pins s σ ρ H ps I r n w => ?_⟩
  refine (pe_prop (pe_c X o) c hp hF hr hb .nil (fun pins σ H s e s' I z => (no_exc z).elim) (E := EF) hab).run pins s σ H _ I (cE.mono (ho.c r (ne_of_bind n) (WOk.left w)) fun v H1 ⟨d, ps1, e1, x1, p1, q1⟩ => ?_)
  have e2 : propF C F fo ρ ps = (if D.insOf C d = true then noX (F [d]) else R.und) ps1 := bind_ok e1
  rw [e2] at n ⊢
  obtain ⟨h1, h2⟩ := ifB_und n
  rw [h2] at n ⊢
  obtain ⟨d', ps', h3, h4⟩ := noX_ok n
  obtain ⟨fl, rfl⟩ := D.insOf_eq h1
  obtain ⟨q', dx, vs, rfl, g1, g2⟩ := q1.ins
  refine ⟨q', dx, vs, rfl, g1, g.pl, Xs m own g, [.ins C fl], ps1, ⟨_, _, rfl, q1, rfl⟩, Xs.pl, (r.mono x1 p1).xT, p1, (by rw [h3]; exact fun z => nomatch z), fun v' H' z => ?_, fun x ps'' dx' H' z => by rw [h3] at z; cases z⟩
  obtain ⟨d2, ps2, z1, z2, z3, z4⟩ := z
  exact ⟨d2, ps2, by rw [h4, ← h3]; exact z1, x1.trans z2, z3, z4⟩

/-! ### C(..) -/
theorem run_makeS {CX : CXT} {k : Nat} {f C : Addr} {fd : FuncData} {nms : List Str} {sp : Sp} {E : XK} {pins : List (Addr × Obj)} {σ : L2.St} {H : Hp} {s : Shared} {Q : VK} {us : List Value} {vs : List V} (M : Mk X.K C f) (F : FnOk X.prog X.w X.K X.mg X.base CX k f fd nms sp) (hr : Room (k + 1) X.A) (hb : Binds X.K fd nms [])
    (hx : PassesAt CX X σ E) (I : Inv X pins σ H s) (r : Vals vs us)
    (h : ∀ x dx, H x = none → H dx = none → dx ≠ x → sp (.ref x :: vs) (upd (upd H dx (.own x)) x (.ins C dx [])) (fun v H2 => v = .non ∧ Q (.ref x) H2) E) :
    wpAny (model X.prog X.w) X.A (call (.ref C) us) (EP X pins σ Q) X.xe s := by
  have hq := h (s.heap.objs.size + 1) s.heap.objs.size (I.hok.fresh (Nat.le_succ _)) (I.hok.fresh (Nat.le_refl _)) (Nat.ne_of_lt (Nat.lt_succ_self _))
  have I2 := Inv.made (C := C) I
  have r2 : Vals (V.ref (s.heap.objs.size + 1) :: vs) (Value.ref (s.heap.objs.size + 1) :: us) := .cons rfl r
  have hl : (Value.ref (s.heap.objs.size + 1) :: us).length = nms.length := by
    have e := r2.length
    rw [F.len _ _ _ _ hq] at e
    exact e.symm
  have hb' := hb _ (Value.ref (s.heap.objs.size + 1) :: us) I2.kIn (by rw [List.append_nil]; exact hl)
  rw [List.append_nil] at hb'
  refine wpAny_call (make_map (f := f) I.kIn M.makes M.init (beq_iff_eq.mp M.fn) (codeAny_mono (F.run _ X.stack _ _ ⟨Value.ref (s.heap.objs.size + 1) :: us, []⟩ (Value.ref (s.heap.objs.size + 1) :: us) _ _ E (hr.make C us [])
    (I2.env0.make C us []) hb' r2 hq) fun r s' hq' => ?_))
  cases r with
  | error e => exact hx pins _ _ e s' I2 hq'
  | ok fl =>
    cases fl with
    | ret u =>
      obtain ⟨v, H', I3, rv, ev, q3⟩ := I2.after hq'
      subst ev
      exact ⟨rv, ⟨V.ref (s.heap.objs.size + 1), H', I3, rfl, q3⟩⟩
    | next => exact False.elim hq'
    | brk => exact False.elim hq'
    | cont => exact False.elim hq'
/-- an __init__'s promise: the fields that it stores -/
def spI (K : PySem.W.Frag) (C : Addr) (ms : List Md) (F : List D → R (List (Str × D))) : Sp := fun vs H Q E => ∃ (pl : Pl) (O : Addr → Prop) (ds : List D) (ps : Ps) (x dx : Addr) (ws : List V),
  vs = .ref x :: ws ∧ H x = some (.ins C dx []) ∧ O x ∧ ¬ plS pl x ∧
  ArgsR pl K O (hid (fun a => a = x) H) ms ds ws ∧ (∀ a, plS pl a → O a) ∧ (∀ a, O a → H a ≠ none) ∧ PoolAt pl H ps ∧ F ds ps ≠ .und ∧
  (∀ fs ps' dx' vs' H', F ds ps = .ok fs ps' → Exo (fun a => plS pl a ∨ a = x) H H' → PoolAt pl H' ps' → H' x = some (.ins C dx' vs') → RepF pl K (hid O H') fs vs' → Q .non H') ∧
  (∀ y ps' dy H', F ds ps = .exc y ps' → Exo (fun a => plS pl a ∨ a = x) H H' → PoolAt pl H' ps' → ExR pl K O H' dy y → E (.ref y.cls) (some dy) H')
abbrev FnI (X : Cx) (k : Nat) (f : Addr) (fd : FuncData) (nms : List Str) (C : Addr) (ms : List Md) (F : List D → R (List (Str × D))) : Prop := FnOk X.prog X.w X.K X.mg X.base (L2.CX X.prog X.w) k f fd nms (spI X.K C ms F)
def mkF (C : Addr) (F : List D → R (List (Str × D))) (fs : FA) : FE := fun ρ => do let ds ← fs ρ; let fl ← F ds; pure (.ins C fl)
theorem make_sp {F : List D → R (List (Str × D))} {C : Addr} {g : G} {own : Nat → Addr} {σ : L2.St} {ρ : Rho} {H H1 : Hp} {ps ps1 : Ps} {ds : List D} {vs : List V} {R0 : Res D} (r : Rs X.K g m own σ ρ H ps) (x1 : Exo (plS g.pl) H H1) (p1 : PoolAt g.pl H1 ps1) (q1 : ArgsR g.pl X.K (Xs m own g) H1 ms ds vs)
    (e : R0 = (F ds >>= fun fl => (pure (.ins C fl) : R D)) ps1) (n : R0 ≠ .und) (w : WOk W g.pl X.K (Xs m own g) σ H R0) (x dx : Addr) (nx : H1 x = none) (ndx : H1 dx = none) (ne : dx ≠ x) :
    spI X.K C ms F (.ref x :: vs) (upd (upd H1 dx (.own x)) x (.ins C dx [])) (fun v H2 => v = .non ∧ QV .cl g.pl X.K (Xs m own g) H R0 (.ref x) H2) (WE W σ) := by
  subst e
  have r1 := r.mono x1 p1
  have nOx : ¬ Xs m own g x := fun z => r1.xT x z nx
  have old : Exo (plS g.pl) H1 (upd (upd H1 dx (.own x)) x (.ins C dx [])) := fun a o h _ => by
    rw [upd_ne (ne_of_none h nx), upd_ne (ne_of_none h ndx)]; exact h
  have hsub : ∀ {H' : Hp}, Ex (hid (fun a => Xs m own g a ∨ a = x) H') (hid (Xs m own g) H') := hid_sub fun a z => .inl z
  have lift : ∀ {ms : List Md} {ds : List D} {vs : List V}, ArgsR g.pl X.K (Xs m own g) H1 ms ds vs → ArgsR g.pl X.K (fun a => Xs m own g a ∨ a = x) (hid (fun a => a = x) (upd (upd H1 dx (.own x)) x (.ins C dx []))) ms ds vs := by
    have ex : Ex (hid (Xs m own g) H1) (hid (fun a => Xs m own g a ∨ a = x) (hid (fun a => a = x) (upd (upd H1 dx (.own x)) x (.ins C dx [])))) := fun a o q => by
      obtain ⟨n1, q⟩ := hid_of q
      have na : a ≠ x := ne_of_none q nx
      rw [hid_at (by rintro (z | z); exact n1 z; exact na z), hid_at (E := fun a => a = x) na, upd_ne na, upd_ne (ne_of_none q ndx)]
      exact q
    intro ms
    induction ms with
    | nil => intro ds vs h; cases ds with
      | nil => exact h
      | cons _ _ => exact h.elim
    | cons md ms ih =>
      intro ds vs h
      cases ds with
      | nil => cases md <;> exact h.elim
      | cons d ds =>
        cases md with
        | sh =>
          obtain ⟨v, t, rfl, h2, h3⟩ := h
          exact ⟨v, t, rfl, h2.mono ex, ih h3⟩
        | sb =>
          obtain ⟨v, t, rfl, h2, h3⟩ := h
          refine ⟨v, t, rfl, ?_, ih h3⟩
          rcases h2 with h2 | ⟨a, rfl, na, t2⟩
          · exact .inl (h2.mono ex)
          · obtain ⟨u, hu⟩ := t2.some
            refine .inr ⟨a, rfl, na, ?_⟩
            rw [hid_at (E := fun a => a = x) (ne_of_none hu nx), old a u hu na, ← hu]
            exact t2.mono ex
        | no => exact h.elim
        | ow => exact h.elim
        | io => exact h.elim
        | xc _ _ => exact h.elim
  have n' := ne_of_bind n
  refine ⟨g.pl, fun a => Xs m own g a ∨ a = x, ds, ps1, x, dx, vs, rfl, upd_same, .inr rfl, fun z => ?_, lift q1, fun a z => .inl (Xs.pl a z), fun a z => ?_, (p1.new ndx).new (by rw [upd_ne (Ne.symm ne)]; exact nx), n', fun fl ps' dx' vs' H' e1 e2 e3 e4 e5 => ⟨rfl, ?_⟩, fun y ps' dy H' e1 e2 e3 e4 => ?_⟩
  · exact p1.there z nx
  · rcases z with z | z
    · have := r1.xT a z
      cases h : H1 a with
      | none => exact (this h).elim
      | some o =>
        rw [upd_ne (ne_of_none h nx), upd_ne (ne_of_none h ndx), h]
        exact fun z => nomatch z
    · rw [z, upd_same]; exact fun z => nomatch z
  · have back : Exo (plS g.pl) H H' := fun a o h np => e2 a o (old a o (x1 a o h np) np) (by rintro (z | z); exact np z; exact ne_of_none (x1 a o h np) nx z)
    refine ⟨.ins C fl, ps', bind_ok e1, back, e3, ?_⟩
    show Rep _ _ _ _ _
    unfold Rep
    exact ⟨x, dx', vs', rfl, by rw [hid_at nOx]; exact e4, e5.mono hsub⟩
  · have back : Exo (plS g.pl) H H' := fun a o h np => e2 a o (old a o (x1 a o h np) np) (by rintro (z | z); exact np z; exact ne_of_none (x1 a o h np) nx z)
    obtain ⟨ws, h1, h2⟩ := e4
    exact w y ps' dy H' (bind_exc e1) back e3 ⟨ws, h1, h2.mono hsub⟩
theorem dx_make {F : List D → R (List (Str × D))} {k : Nat} {f C : Addr} {fd : FuncData} {nms : List Str} {x : Str} (M : Mk X.K C f) (hF : FnI X k f fd nms C ms F) (hr : Room (k + 1) X.A) (hm : X.mg x = some (.ref C)) (hb : Binds X.K fd nms []) (tk : Takes X W) (ha : Ax X W m ms (e :: es) fs)
    (hg : Gl X x := by rfl) (hdb : (x == ("__debug__" : Str)) = false := by decide) (he : starEach (e :: es) X.env = (false, eval e X.env) :: starEach es X.env := by rfl) (hpl : (backTo pos (starEach es X.env)).any (·.1) = false := by rfl) :
    Dx .cl X W m (.Call (.Name x p) (e :: es) [] pos) (mkF C F fs) := by
  refine ⟨fun g own pins s σ ρ H ps I r n w => ?_⟩
  refine wpAny_Call_Name_kw (ld_glob I hg hm ?_ hdb)
  refine PySem.W.callWith_K (h₀ := X.base) I.ok.mod.kin M.kp (thn (ha.run g own pos pins s σ ρ H ps I r (ne_of_bind n) (WOk.left w)) fun us s1 ⟨vs, H1, I1, rv, ds, ps1, e1, x1, p1, q1⟩ => ⟨I1.kIn, ?_⟩) he hpl
  have e2 : mkF C F fs ρ ps = (F ds >>= fun fl => (pure (.ins C fl) : R D)) ps1 := bind_ok e1
  exact run_makeS M hF hr hb (passAt tk σ) I1 rv fun x dx nx ndx ne => make_sp r x1 p1 q1 e2 n w x dx nx ndx ne
end
end DL
set_option Elab.async false
set_option linter.all false
set_option maxRecDepth 100000
set_option maxHeartbeats 2000000
/-! D10: built-ins by name; subscripts, slices, displays. -/
namespace DL
open PySem PySem.Spec PyProof.Rows L2
section
variable {X : Cx} {W : WX} {m ms : List Md} {e a b o : Expr} {es : List Expr} {f f1 f2 fo : FE} {fs : FA} {pos p : Pos}
def CallD (k : Kd) (X : Cx) (fv : Value) (ms : List Md) (F : List D → R D) : Prop :=
  ∀ (pl : Pl) (O : Addr → Prop) (pins : List (Addr × Obj)) (s : Shared) (σ : L2.St) (H : Hp) (ps : Ps) (ds : List D) (vs : List V) (us : List Value), Inv X pins σ H s → (∀ a, plS pl a → O a) → (∀ a, O a → H a ≠ none) → PoolAt pl H ps → ArgsR pl X.K O H ms ds vs → Vals vs us → F ds ps ≠ .und →
    wpAny (model X.prog X.w) X.A (call fv us) (EP X pins σ (QV k pl X.K O H (F ds ps))) X.xe s
theorem call_go {k : Kd} {F : List D → R D} {fv : Value} {g : G} {own : Nat → Addr} {pins : List (Addr × Obj)} {s : Shared} {σ : L2.St} {ρ : Rho} {H H1 : Hp} {ps ps1 : Ps} {ds : List D} {vs : List V} {us : List Value} {R0 : Res D} (hc : CallD k X fv ms F) (r : Rs X.K g m own σ ρ H ps) (I : Inv X pins σ H1 s) (x1 : Exo (plS g.pl) H H1) (p1 : PoolAt g.pl H1 ps1)
    (q1 : ArgsR g.pl X.K (Xs m own g) H1 ms ds vs) (rv : Vals vs us) (e : R0 = F ds ps1) (n : R0 ≠ .und) : wpAny (model X.prog X.w) X.A (call fv us) (EP X pins σ (QV k g.pl X.K (Xs m own g) H R0)) X.xe s := by
  subst e
  exact thn (hc g.pl (Xs m own g) pins s σ H1 ps1 ds vs us I Xs.pl (r.mono x1 p1).xT p1 q1 rv n) fun _ _ z => epI z (QV.back x1 p1 rfl)
theorem dx_blt {k : Kd} {F : List D → R D} {x : Str} {id : String} (hc : CallD k X (.builtin id) ms F) (hm : X.mg x = none) (hv : bootBuiltins x = some (.builtin id)) (ha : Ax X W m ms (e :: es) fs)
    (hg : Gl X x := by rfl) (hn : x ≠ "__name__" := by decide) (hdb : (x == ("__debug__" : Str)) = false := by decide) (he : starEach (e :: es) X.env = (false, eval e X.env) :: starEach es X.env := by rfl) (hpl : (backTo pos (starEach es X.env)).any (·.1) = false := by rfl) :
    Dx k X W m (.Call (.Name x p) (e :: es) [] pos) (callF F fs) := by
  refine ⟨fun g own pins s σ ρ H ps I r n w => ?_⟩
  refine wpAny_Call_Name_kw (ld_blt I hg hm hv ?_ hn hdb)
  refine PyProof.Rows.callWith_builtin1 (thn (ha.run g own pos pins s σ ρ H ps I r (ne_of_bind n) (WOk.left w)) fun us s1 ⟨vs, H1, I1, rv, ds, ps1, e1, x1, p1, q1⟩ => ?_) he hpl
  have e2 : callF F fs ρ ps = F ds ps1 := bind_ok e1
  exact call_go hc r I1 x1 p1 q1 rv e2 n
theorem dx_bty {k : Kd} {F : List D → R D} {x : Str} {T : String} (hc : CallD k X (.type T) ms F) (hm : X.mg x = none) (hv : bootBuiltins x = some (.type T)) (ha : Ax X W m ms (e :: es) fs)
    (hg : Gl X x := by rfl) (hn : x ≠ "__name__" := by decide) (hdb : (x == ("__debug__" : Str)) = false := by decide) (he : starEach (e :: es) X.env = (false, eval e X.env) :: starEach es X.env := by rfl) (hpl : (backTo pos (starEach es X.env)).any (·.1) = false := by rfl) :
    Dx k X W m (.Call (.Name x p) (e :: es) [] pos) (callF F fs) := by
  refine ⟨fun g own pins s σ ρ H ps I r n w => ?_⟩
  refine wpAny_Call_Name_kw (ld_blt I hg hm hv ?_ hn hdb)
  refine PyProof.Rows.callWith_type1 (thn (ha.run g own pos pins s σ ρ H ps I r (ne_of_bind n) (WOk.left w)) fun us s1 ⟨vs, H1, I1, rv, ds, ps1, e1, x1, p1, q1⟩ => ?_) he hpl
  have e2 : callF F fs ρ ps = F ds ps1 := bind_ok e1
  exact call_go hc r I1 x1 p1 q1 rv e2 n
/-- one argument, read -/
theorem args1 {pl : Pl} {K : PySem.W.Frag} {O : Addr → Prop} {H : Hp} {ds : List D} {vs : List V} (h : ArgsR pl K O H [.sb] ds vs) : ∃ d v, ds = [d] ∧ vs = [v] ∧ RepB pl K O H d v := by
  cases ds with
  | nil => exact h.elim
  | cons d ds =>
    obtain ⟨v, r, rfl, h2, h3⟩ := h
    cases ds with
    | nil => rw [show r = [] from h3]; exact ⟨d, v, rfl, rfl, h2⟩
    | cons _ _ => exact h3.elim
theorem args2 {pl : Pl} {K : PySem.W.Frag} {O : Addr → Prop} {H : Hp} {ds : List D} {vs : List V} (h : ArgsR pl K O H [.sb, .sb] ds vs) : ∃ d1 d2 v1 v2, ds = [d1, d2] ∧ vs = [v1, v2] ∧ RepB pl K O H d1 v1 ∧ RepB pl K O H d2 v2 := by
  cases ds with
  | nil => exact h.elim
  | cons d ds =>
    obtain ⟨v, r, rfl, h2, h3⟩ := h
    obtain ⟨d', v', rfl, rfl, h4⟩ := args1 h3
    exact ⟨d, d', v, v', rfl, rfl, h2, h4⟩
def one (F : D → R D) : List D → R D
  | [d] => F d
  | _ => R.und
def two (F : D → D → R D) : List D → R D
  | [a, b] => F a b
  | _ => R.und
def D.len : D → R D
  | .lst ds => pure (.int ds.length)
  | .tup ds => pure (.int ds.length)
  | .dk kvs => pure (.int kvs.length)
  | .str z => if lenC z.length = true then pure (.int z.length) else R.und
  | _ => R.und
theorem cd_len : CallD .cl X (.builtin "len") [.sb] (one D.len) := by
  intro pl O pins s σ H ps ds vs us I hO hT p ha rv n
  obtain ⟨d, v, rfl, rfl, h⟩ := args1 ha
  have n : D.len d ps ≠ .und := n
  show wpAny _ _ _ (EP X pins σ (QV .cl pl X.K O H (D.len d ps))) _ _
  cases d with
  | lst xs =>
    obtain ⟨q, ws, rfl, h1, t1⟩ := h.lst
    exact call_len_seq pins s σ H _ us _ I rv ⟨q, ws, rfl, .inl (.of h1), qv_int p (by rw [t1.length]; rfl)⟩
  | tup xs =>
    obtain ⟨q, ws, rfl, h1, t1⟩ := h.tup
    exact call_len_seq pins s σ H _ us _ I rv ⟨q, ws, rfl, .inr h1, qv_int p (by rw [t1.length]; rfl)⟩
  | dk kvs =>
    obtain ⟨q, ws, rfl, h1, t1⟩ := h.dk
    obtain ⟨u, rfl, ru⟩ := vals1 rv
    cases ru
    exact L2.d_len I h1 fun t s' I' => ⟨.int _, H, I', ⟨t, rfl⟩, qv_int p (by rw [t1.length]; rfl)⟩
  | str z =>
    obtain ⟨h1, h2⟩ := if_und (x := (pure (.int z.length) : R D)) n
    have h := h.flat rfl
    unfold Rep at h
    subst h
    refine call_len_str pins s σ H _ us _ I rv ⟨z, rfl, lenC_ok h1, ?_⟩
    exact qv_int p h2
  | _ => exact (n rfl).elim

/-- a list of boolsOf, of intsOf, of texts -/
def boolsOf : List D → Option (List Bool)
  | [] => some []
  | .bl b :: r => (boolsOf r).map (b :: ·)
  | _ => none
def intsOf : List D → Option (List Int)
  | [] => some []
  | .int b :: r => (intsOf r).map (b :: ·)
  | _ => none
def strsOf : List D → Option (List Str)
  | [] => some []
  | .str b :: r => (strsOf r).map (b :: ·)
  | _ => none
theorem bools_rep {pl : Pl} {K : PySem.W.Frag} {H : Hp} : ∀ {ds : List D} {vs : List V} {bs : List Bool}, Reps pl K H ds vs → boolsOf ds = some bs → vs = bs.map V.bl
  | [], _, _, h, e => by cases e; exact h.inv_nil
  | d :: r, _, bs, h, e => by
    obtain ⟨v, t, rfl, h2, h3⟩ := h.inv_cons
    cases d with
    | bl b =>
      obtain ⟨l, h4, rfl⟩ := ind (show (boolsOf r).map (b :: ·) = some bs from e)
      unfold Rep at h2
      rw [h2, bools_rep h3 h4]; rfl
    | _ => cases e
theorem ints_rep {pl : Pl} {K : PySem.W.Frag} {H : Hp} : ∀ {ds : List D} {vs : List V} {bs : List Int}, Reps pl K H ds vs → intsOf ds = some bs → vs = bs.map V.int
  | [], _, _, h, e => by cases e; exact h.inv_nil
  | d :: r, _, bs, h, e => by
    obtain ⟨v, t, rfl, h2, h3⟩ := h.inv_cons
    cases d with
    | int b =>
      obtain ⟨l, h4, rfl⟩ := ind (show (intsOf r).map (b :: ·) = some bs from e)
      unfold Rep at h2
      rw [h2, ints_rep h3 h4]; rfl
    | _ => cases e
theorem strs_rep {pl : Pl} {K : PySem.W.Frag} {H : Hp} : ∀ {ds : List D} {vs : List V} {bs : List Str}, Reps pl K H ds vs → strsOf ds = some bs → vs = bs.map V.str
  | [], _, _, h, e => by cases e; exact h.inv_nil
  | d :: r, _, bs, h, e => by
    obtain ⟨v, t, rfl, h2, h3⟩ := h.inv_cons
    cases d with
    | str b =>
      obtain ⟨l, h4, rfl⟩ := ind (show (strsOf r).map (b :: ·) = some bs from e)
      unfold Rep at h2
      rw [h2, strs_rep h3 h4]; rfl
    | _ => cases e
theorem reps_strs {pl : Pl} {K : PySem.W.Frag} {H : Hp} : ∀ (ss : List Str), Reps pl K H (ss.map D.str) (ss.map V.str)
  | [] => Reps.nil
  | s :: r => Reps.cons (by unfold Rep; rfl) (reps_strs r)
theorem reps_ints {pl : Pl} {K : PySem.W.Frag} {H : Hp} : ∀ (ss : List Int), Reps pl K H (ss.map D.int) (ss.map V.int)
  | [] => Reps.nil
  | s :: r => Reps.cons (by unfold Rep; rfl) (reps_ints r)
def D.all : D → R D
  | .lst ds => ofO ((boolsOf ds).map fun bs => .bl (bs.all id))
  | _ => R.und
def D.any : D → R D
  | .lst ds => ofO ((boolsOf ds).map fun bs => .bl (bs.any id))
  | _ => R.und
def D.sum : D → R D
  | .lst ds => ofO ((intsOf ds).map fun bs => .int bs.sum)
  | _ => R.und
theorem mapD_ok {α : Type} {o : Option α} {f : α → D} {ps : Ps} (n : ofO (o.map f) ps ≠ .und) : ∃ r, o = some r ∧ ofO (o.map f) ps = .ok (f r) ps := by
  cases o with
  | none => exact (n rfl).elim
  | some r => exact ⟨r, rfl, rfl⟩
theorem cd_all (hc : X.calm = true) : CallD .cl X (.builtin "all") [.sb] (one D.all) := by
  intro pl O pins s σ H ps ds vs us I hO hT p ha rv n
  obtain ⟨d, v, rfl, rfl, h⟩ := args1 ha
  cases d with
  | lst xs =>
    obtain ⟨bs, e1, e2⟩ := mapD_ok n
    obtain ⟨q, ws, rfl, h1, t1⟩ := h.lst
    exact cr_all hc pins s σ H _ us _ I rv ⟨q, bs, rfl, .of (by rw [← bools_rep t1 e1]; exact h1), qv_bl p e2⟩
  | _ => exact (n rfl).elim
theorem cd_any (hc : X.calm = true) : CallD .cl X (.builtin "any") [.sb] (one D.any) := by
  intro pl O pins s σ H ps ds vs us I hO hT p ha rv n
  obtain ⟨d, v, rfl, rfl, h⟩ := args1 ha
  cases d with
  | lst xs =>
    obtain ⟨bs, e1, e2⟩ := mapD_ok n
    obtain ⟨q, ws, rfl, h1, t1⟩ := h.lst
    exact cr_any hc pins s σ H _ us _ I rv ⟨q, bs, rfl, .of (by rw [← bools_rep t1 e1]; exact h1), qv_bl p e2⟩
  | _ => exact (n rfl).elim
theorem cd_sum (hc : X.calm = true) : CallD .cl X (.builtin "sum") [.sb] (one D.sum) := by
  intro pl O pins s σ H ps ds vs us I hO hT p ha rv n
  obtain ⟨d, v, rfl, rfl, h⟩ := args1 ha
  cases d with
  | lst xs =>
    obtain ⟨bs, e1, e2⟩ := mapD_ok n
    obtain ⟨q, ws, rfl, h1, t1⟩ := h.lst
    exact cr_sum hc pins s σ H _ us _ I rv ⟨q, bs, rfl, .of (by rw [← ints_rep t1 e1]; exact h1), qv_int p e2⟩
  | _ => exact (n rfl).elim
def D.toInt : D → R D
  | .int i => pure (.int i)
  | .bl b => pure (.int (if b then 1 else 0))
  | _ => R.und
theorem cd_int : CallD .cl X (.type "int") [.sb] (one D.toInt) := by
  intro pl O pins s σ H ps ds vs us I hO hT p ha rv n
  obtain ⟨d, v, rfl, rfl, h⟩ := args1 ha
  cases d with
  | int i =>
    have h := h.flat rfl
    unfold Rep at h
    subst h
    exact call_int1 pins s σ H _ us _ I rv (.inl ⟨i, rfl, qv_int p rfl⟩)
  | bl i =>
    have h := h.flat rfl
    unfold Rep at h
    subst h
    exact call_int1 pins s σ H _ us _ I rv (.inr ⟨i, rfl, qv_int p rfl⟩)
  | _ => exact (n rfl).elim
def D.max2 : D → D → R D
  | .int i, .int j => pure (.int (if j > i then j else i))
  | _, _ => R.und
def D.min2 : D → D → R D
  | .int i, .int j => pure (.int (if j < i then j else i))
  | _, _ => R.und
theorem two_ints {F : Int → Int → Int} {G : D → D → R D} (hG : ∀ i j, G (.int i) (.int j) = pure (.int (F i j))) (hn : ∀ a b ps, G a b ps ≠ .und → ∃ i j, a = .int i ∧ b = .int j) {id : String} (hc : CallR X (.builtin id) fun xs H Q => ∃ i j, xs = [.int i, .int j] ∧ Q (.int (F i j)) H) : CallD .cl X (.builtin id) [.sb, .sb] (two G) := by
  intro pl O pins s σ H ps ds vs us I hO hT p ha rv n
  obtain ⟨d1, d2, v1, v2, rfl, rfl, h1, h2⟩ := args2 ha
  obtain ⟨i, j, rfl, rfl⟩ := hn d1 d2 ps n
  have h1 := h1.flat rfl
  have h2 := h2.flat rfl
  unfold Rep at h1 h2
  subst h1 h2
  refine hc pins s σ H _ us _ I rv ⟨i, j, rfl, qv_int p ?_⟩
  show G (.int i) (.int j) ps = _
  rw [hG]; rfl
theorem cd_max2 (hc : X.calm = true) : CallD .cl X (.builtin "max") [.sb, .sb] (two D.max2) := two_ints (F := fun i j => if j > i then j else i) (fun _ _ => rfl) (fun a b ps n => by cases a <;> cases b <;> first | exact ⟨_, _, rfl, rfl⟩ | exact (n rfl).elim) (call_max2 hc)
theorem cd_min2 (hc : X.calm = true) : CallD .cl X (.builtin "min") [.sb, .sb] (two D.min2) := two_ints (F := fun i j => if j < i then j else i) (fun _ _ => rfl) (fun a b ps n => by cases a <;> cases b <;> first | exact ⟨_, _, rfl, rfl⟩ | exact (n rfl).elim) (call_min2 hc)
/-- list(..) of a list, of a tuple: a new one -/
def D.toList : D → R D
  | .lst ds => pure (.lst ds)
  | .tup ds => pure (.lst ds)
  | _ => R.und
theorem cd_list : CallD .fr X (.type "list") [.sb] (one D.toList) := by
  intro pl O pins s σ H ps ds vs us I hO hT p ha rv n
  obtain ⟨d, v, rfl, rfl, h⟩ := args1 ha
  cases d with
  | lst xs =>
    obtain ⟨q, ws, rfl, h1, t1⟩ := h.lst
    exact call_list_of pins s σ H _ us _ I rv ⟨q, ws, rfl, .inl (.of h1), fun l hl => laid_fr hT p hl t1 rfl⟩
  | tup xs =>
    obtain ⟨q, ws, rfl, h1, t1⟩ := h.tup
    exact call_list_of pins s σ H _ us _ I rv ⟨q, ws, rfl, .inr h1, fun l hl => laid_fr hT p hl t1 rfl⟩
  | _ => exact (n rfl).elim

/-! ### sorted texts -/
def leS (a b : Str) : Bool := !ltCps b.cps.toList a.cps.toList
def insS (x : Str) : List Str → List Str
  | [] => [x]
  | y :: r => if leS x y = true then x :: y :: r else y :: insS x r
def sortS : List Str → List Str
  | [] => []
  | x :: r => insS x (sortS r)
end
end DL
set_option Elab.async false
set_option linter.all false
set_option maxRecDepth 100000
set_option maxHeartbeats 2000000
/-! D11: sorted; isinstance; subscripts, slices, displays; is None. -/
namespace DL
open PySem PySem.Spec PyProof.Rows L2
theorem leS_iff {a b : Str} : leS a b = true ↔ a.cps.toList ≤ b.cps.toList := by
  unfold leS
  rw [PyProof.Rows.ltCps_eq]
  simp
theorem leS_trans {a b c : Str} (h : leS a b = true) (h' : leS b c = true) : leS a c = true := leS_iff.mpr (List.le_trans (leS_iff.mp h) (leS_iff.mp h'))
theorem leS_total (a b : Str) : leS a b = true ∨ leS b a = true := by
  rw [leS_iff, leS_iff]; exact List.le_total ..
theorem leS_anti {a b : Str} (h : leS a b = true) (h' : leS b a = true) : a = b := by
  have e := List.le_antisymm (leS_iff.mp h) (leS_iff.mp h')
  obtain ⟨x⟩ := a
  obtain ⟨y⟩ := b
  exact congrArg Str.mk (Array.toList_inj.mp e)
theorem insS_perm (x : Str) : ∀ l : List Str, (insS x l).Perm (x :: l)
  | [] => .refl _
  | y :: r => by
    unfold insS
    by_cases h : leS x y = true
    · rw [if_pos h]
    · rw [if_neg h]
      exact ((insS_perm x r).cons y).trans (.swap x y r)
theorem sortS_perm : ∀ l : List Str, (sortS l).Perm l
  | [] => .refl _
  | x :: r => (insS_perm x (sortS r)).trans ((sortS_perm r).cons x)
theorem insS_sorted (x : Str) : ∀ {l : List Str}, l.Pairwise (fun a b => leS a b = true) → (insS x l).Pairwise (fun a b => leS a b = true)
  | [], _ => by unfold insS; exact List.pairwise_singleton _ _
  | y :: r, h => by
    unfold insS
    have h' := List.pairwise_cons.mp h
    by_cases e : leS x y = true
    · rw [if_pos e]
      refine List.pairwise_cons.mpr ⟨fun z hz => ?_, h⟩
      rcases List.mem_cons.mp hz with rfl | hz
      · exact e
      · exact leS_trans e (h'.1 z hz)
    · rw [if_neg e]
      have e' : leS y x = true := (leS_total y x).resolve_right e
      refine List.pairwise_cons.mpr ⟨fun z hz => ?_, insS_sorted x h'.2⟩
      rcases List.mem_cons.mp ((insS_perm x r).mem_iff.mp hz) with rfl | hz
      · exact e'
      · exact h'.1 z hz
theorem sortS_sorted : ∀ l : List Str, (sortS l).Pairwise (fun a b => leS a b = true)
  | [] => .nil
  | x :: r => insS_sorted x (sortS_sorted r)
theorem rising_pw : ∀ {l : List Str} {p : Str}, risingS p l = true → (p :: l).Pairwise (fun a b => leS a b = true)
  | [], p, _ => List.pairwise_singleton _ _
  | x :: r, p, h => by
    unfold risingS at h
    rw [Bool.and_eq_true] at h
    have ih := rising_pw h.2
    have e : leS p x = true := h.1
    refine List.pairwise_cons.mpr ⟨fun z hz => ?_, ih⟩
    rcases List.mem_cons.mp hz with rfl | hz
    · exact e
    · exact leS_trans e ((List.pairwise_cons.mp ih).1 z hz)
theorem sorted_pw {l : List Str} (h : sortedS l = true) : l.Pairwise (fun a b => leS a b = true) := by
  cases l with
  | nil => exact .nil
  | cons x r => exact rising_pw h
theorem sort_uniq {l l' : List Str} (hp : l.Perm l') (h : l.Pairwise (fun a b => leS a b = true)) (h' : l'.Pairwise (fun a b => leS a b = true)) : l = l' :=
  hp.eq_of_pairwise (fun a b _ _ x y => leS_anti x y) h h'
theorem sort_is {ys xs : List Str} (hp : ys.Perm xs) (h : sortedS ys = true) : ys = sortS xs := sort_uniq (hp.trans (sortS_perm xs).symm) (sorted_pw h) (sortS_sorted xs)
section
variable {X : Cx} {W : WX} {m ms : List Md} {e a b o : Expr} {es : List Expr} {f f1 f2 fo : FE} {fs : FA} {pos p : Pos}
/-- the text keys of a dict -/
def keyStrs : List (Key × D) → Option (List Str)
  | [] => some []
  | (.inr k, _) :: r => (keyStrs r).map (k :: ·)
  | _ => none
theorem keyStrs_ok : ∀ {kvs : List (Key × D)} {ks : List Str}, keyStrs kvs = some ks → kvs.map (·.1) = ks.map Sum.inr
  | [], ks, h => by cases h; rfl
  | (.inr k, d) :: r, ks, h => by
    obtain ⟨l, h1, rfl⟩ := ind (show (keyStrs r).map (k :: ·) = some ks from h)
    rw [List.map_cons, List.map_cons, keyStrs_ok h1]
  | (.inl k, d) :: r, ks, h => nomatch h
def sortD (ss : List Str) : Option D := if ss.length < 64 then some (.lst ((sortS ss).map D.str)) else none
def D.sorted : D → R D
  | .lst ds => ofO ((strsOf ds).bind sortD)
  | .dk kvs => ofO ((keyStrs kvs).bind sortD)
  | _ => R.und
theorem cd_sorted (hc : X.calm = true) : CallD .fr X (.builtin "sorted") [.sb] (one D.sorted) := by
  intro pl O pins s σ H ps ds vs us I hO hT p ha rv n
  obtain ⟨d, v, rfl, rfl, h⟩ := args1 ha
  have sd : ∀ {ss : List Str} {r : D}, sortD ss = some r → ss.length < 64 ∧ r = .lst ((sortS ss).map D.str) := fun {ss r} q => by
    unfold sortD at q
    by_cases hl : ss.length < 64
    · rw [if_pos hl] at q; cases q; exact ⟨hl, rfl⟩
    · rw [if_neg hl] at q; cases q
  cases d with
  | lst xs =>
    obtain ⟨r, e1, e2⟩ := ofO_ne (show ofO ((strsOf xs).bind sortD) ps ≠ .und from n)
    obtain ⟨ss, e3, e4⟩ := Option.bind_eq_some_iff.mp e1
    obtain ⟨hl, rfl⟩ := sd e4
    obtain ⟨q, ws, rfl, h1, t1⟩ := h.lst
    refine cr_sortedS pins s σ H _ us _ I rv ⟨q, ss, rfl, .of (by rw [← strs_rep t1 e3]; exact h1), hl, fun ys l hp hs hn => ?_⟩
    rw [sort_is hp hs]
    exact laid_fr hT p hn (reps_strs _) e2
  | dk kvs =>
    obtain ⟨r, e1, e2⟩ := ofO_ne (show ofO ((keyStrs kvs).bind sortD) ps ≠ .und from n)
    obtain ⟨ss, e3, e4⟩ := Option.bind_eq_some_iff.mp e1
    obtain ⟨hl, rfl⟩ := sd e4
    obtain ⟨q, ws, rfl, h1, t1⟩ := h.dk
    refine call_sortedD hc pins s σ H _ us _ I rv ⟨q, ws, ss, rfl, h1, by rw [t1.keys]; exact keyStrs_ok e3, hl, fun ys l hp hs hn => ?_⟩
    rw [sort_is hp hs]
    exact laid_fr hT p hn (reps_strs _) e2
  | _ => exact (n rfl).elim

/-! ### subscripts -/
def D.item : D → D → R D
  | .lst ds, .int i => ofO (atI ds i)
  | .tup ds, .int i => ofO (atI ds i)
  | .str z, .int i => if lenC z.length = true then ofO ((atI z.cps.toList i).map fun c => .str ⟨#[c]⟩) else R.und
  | .dk kvs, k => ofO ((keyOf k).bind fun k => findD kvs k)
  | _, _ => R.und
theorem atI_reps {pl : Pl} {K : PySem.W.Frag} {H : Hp} {ds : List D} {vs : List V} {i : Int} {d : D} (h : Reps pl K H ds vs) (e : atI ds i = some d) : ∃ v, atI vs i = some v ∧ Rep pl K H d v := by
  unfold atI at e ⊢
  rw [h.length]
  obtain ⟨j, h1, h2⟩ := Option.bind_eq_some_iff.mp e
  obtain ⟨v, h3, h4⟩ := h.get h2
  exact ⟨v, by rw [h1]; exact h3, h4⟩
theorem dx_sub (h1 : Dx .bo X W m a f1) (h2 : Dx .bo X W m b f2) (hu : X.A.units + 64 < cLine) (hs : PlainIx b := by intro _ _; rfl) : Dx .cl X W m (.Subscript a b pos) (op2F D.item f1 f2) := by
  refine ⟨fun g own pins s σ ρ H ps I r n w => ?_⟩
  have n1 := ne_of_bind n
  have go : ∀ {d1 : D} {ps1 : Ps}, f1 ρ ps = .ok d1 ps1 → (∃ kvs, d1 = .dk kvs) → wpAny (model X.prog X.w) X.A (eval (.Subscript a b pos) X.env) (EP X pins σ (QV .cl g.pl X.K (Xs m own g) H (op2F D.item f1 f2 ρ ps))) X.xe s := by
    rintro d1 ps1 e1 ⟨kvs, rfl⟩
    refine (pe_dget (by omega) (pe_c X a) (pe_c X b) hs).run pins s σ H _ I (cE.mono (h1.c r n1 (WOk.left w)) fun x H1 ⟨d1, ps1, e1', x1, p1, q1⟩ => ?_)
    rw [e1] at e1'
    cases e1'
    have c1 : op2F D.item f1 f2 ρ ps = (f2 ρ >>= fun b => D.item (.dk kvs) b) ps1 := bind_ok e1
    have w1 := WOk.later w x1
    rw [c1] at w1 n ⊢
    refine cE.mono (h2.c (r.mono x1 p1) (ne_of_bind n) (WOk.left w1)) fun y H2 ⟨d2, ps2, e2, x2, p2, q2⟩ => ?_
    have c2 : (f2 ρ >>= fun b => D.item (.dk kvs) b) ps1 = D.item (.dk kvs) d2 ps2 := bind_ok e2
    rw [c2] at n ⊢
    obtain ⟨d, e3, e4⟩ := ofO_ne (show ofO ((keyOf d2).bind fun k => findD kvs k) ps2 ≠ .und from n)
    obtain ⟨k, e5, e6⟩ := Option.bind_eq_some_iff.mp e3
    have q1' := q1.mono Xs.pl x2
    obtain ⟨q, vs, rfl, g1, t1⟩ := q1'.dk
    have ek := keyOf_rep q2.full e5
    rcases t1.val k with ⟨z, _⟩ | ⟨d', v, z1, z2, z3⟩
    · rw [z] at e6; cases e6
    · rw [e6] at z1
      cases z1
      exact ⟨q, v, rfl, .inl ⟨vs, k, g1, ek, z2.symm⟩, d, ps2, e4, x1.trans x2, p2, z3⟩
  have alt : ∀ {ir : R2}, IxR X ir → (∀ d1 ps1, f1 ρ ps = .ok d1 ps1 → ∀ d2 x y H2 ps2, RepB g.pl X.K (Xs m own g) H2 d1 x → RepB g.pl X.K (Xs m own g) H2 d2 y → PoolAt g.pl H2 ps2 → D.item d1 d2 ps2 ≠ .und → ∀ Q : VK, (∀ v H', QV .cl g.pl X.K (Xs m own g) H2 (D.item d1 d2 ps2) v H' → Q v H') → ir x y H2 Q) →
      wpAny (model X.prog X.w) X.A (eval (.Subscript a b pos) X.env) (EP X pins σ (QV .cl g.pl X.K (Xs m own g) H (op2F D.item f1 f2 ρ ps))) X.xe s := by
    intro ir hi hr
    refine (pe_ix hi (pe_c X a) (pe_c X b) hs).run pins s σ H _ I (cE.mono (h1.c r n1 (WOk.left w)) fun x H1 ⟨d1, ps1, e1, x1, p1, q1⟩ => ?_)
    have c1 : op2F D.item f1 f2 ρ ps = (f2 ρ >>= fun b => D.item d1 b) ps1 := bind_ok e1
    have w1 := WOk.later w x1
    rw [c1] at w1 n ⊢
    refine cE.mono (h2.c (r.mono x1 p1) (ne_of_bind n) (WOk.left w1)) fun y H2 ⟨d2, ps2, e2, x2, p2, q2⟩ => ?_
    have c2 : (f2 ρ >>= fun b => D.item d1 b) ps1 = D.item d1 d2 ps2 := bind_ok e2
    rw [c2] at n ⊢
    exact hr d1 ps1 e1 d2 x y H2 ps2 (q1.mono Xs.pl x2) q2 p2 n _ (QV.back (x1.trans x2) p2 rfl)
  cases e1 : f1 ρ ps with
  | und => exact (n1 e1).elim
  | exc x q => exact alt ix_list fun d1 ps1 e => by rw [e1] at e; cases e
  | ok d1 ps1 =>
    cases d1 with
    | dk kvs => exact go e1 ⟨kvs, rfl⟩
    | lst ds =>
      refine alt ix_list fun d1' ps1' e d2 x y H2 ps2 q1 q2 p2 n Q hQ => ?_
      rw [e1] at e; cases e
      cases d2 with
      | int i =>
        obtain ⟨d, e3, e4⟩ := ofO_ne (show ofO (atI ds i) ps2 ≠ .und from n)
        obtain ⟨q, vs, rfl, g1, t1⟩ := q1.lst
        obtain ⟨v, g2, g3⟩ := atI_reps t1 e3
        have q2 := q2.flat rfl
        unfold Rep at q2
        exact ⟨q, vs, i, v, rfl, q2, .of g1, g2, hQ v H2 ⟨d, ps2, e4, Exo.refl, p2, g3⟩⟩
      | _ => exact (n rfl).elim
    | tup ds =>
      refine alt ix_tup fun d1' ps1' e d2 x y H2 ps2 q1 q2 p2 n Q hQ => ?_
      rw [e1] at e; cases e
      cases d2 with
      | int i =>
        obtain ⟨d, e3, e4⟩ := ofO_ne (show ofO (atI ds i) ps2 ≠ .und from n)
        obtain ⟨q, vs, rfl, g1, t1⟩ := q1.tup
        obtain ⟨v, g2, g3⟩ := atI_reps t1 e3
        have q2 := q2.flat rfl
        unfold Rep at q2
        exact ⟨q, vs, i, v, rfl, q2, g1, g2, hQ v H2 ⟨d, ps2, e4, Exo.refl, p2, g3⟩⟩
      | _ => exact (n rfl).elim
    | str z =>
      refine alt ix_str fun d1' ps1' e d2 x y H2 ps2 q1 q2 p2 n Q hQ => ?_
      rw [e1] at e; cases e
      cases d2 with
      | int i =>
        obtain ⟨hc, he⟩ := if_und (show (if lenC z.length = true then ofO ((atI z.cps.toList i).map fun c => D.str ⟨#[c]⟩) else R.und) ps2 ≠ .und from n)
        have n' := n
        rw [show D.item (.str z) (.int i) ps2 = _ from he] at n'
        obtain ⟨c, e3, e4⟩ := mapD_ok n'
        have q1 := q1.flat rfl
        have q2 := q2.flat rfl
        unfold Rep at q1 q2
        exact ⟨z, i, c, q1, q2, lenC_ok hc, e3, hQ _ H2 (qv_str p2 (he.trans e4))⟩
      | _ => exact (n rfl).elim
    | _ =>
      refine alt ix_list fun d1' ps1' e d2 x y H2 ps2 q1 q2 p2 n Q hQ => ?_
      rw [e1] at e; cases e
      exact (n rfl).elim

/-! ### displays -/
def lstF (fs : FA) : FE := fun ρ => do let ds ← fs ρ; if lenC ds.length = true then pure (.lst ds) else R.und
def tupF (fs : FA) : FE := fun ρ => do let ds ← fs ρ; if lenC ds.length = true then pure (.tup ds) else R.und
theorem args_reps {pl : Pl} {K : PySem.W.Frag} {O : Addr → Prop} {H : Hp} : ∀ {ds : List D} {vs : List V}, ArgsR pl K O H (ds.map fun _ => .sh) ds vs → Reps pl K (hid O H) ds vs
  | [], _, h => by rw [show _ = [] from h]; exact Reps.nil
  | d :: ds, _, h => by
    obtain ⟨v, r, rfl, h2, h3⟩ := h
    exact Reps.cons h2 (args_reps h3)
theorem args_all {pl : Pl} {K : PySem.W.Frag} {O : Addr → Prop} {H : Hp} : ∀ {ms : List Md} {ds : List D} {vs : List V}, ms.all (· == .sh) = true → ArgsR pl K O H ms ds vs → Reps pl K (hid O H) ds vs
  | [], [], _, _, h => by rw [show _ = [] from h]; exact Reps.nil
  | .sh :: ms, d :: ds, _, hm, h => by
    obtain ⟨v, r, rfl, h2, h3⟩ := h
    exact Reps.cons h2 (args_all (by simpa using hm) h3)
  | [], _ :: _, _, _, h => h.elim
  | md :: _, [], _, _, h => by cases md <;> exact h.elim
  | .no :: _, _ :: _, _, _, h => h.elim
  | .ow :: _, _ :: _, _, _, h => h.elim
  | .io :: _, _ :: _, _, _, h => h.elim
  | .sb :: _, _ :: _, _, hm, _ => by simp at hm
theorem dx_lst (h : Ax X W m ms es fs) (hm : ms.all (· == .sh) = true := by rfl) : Dx .fr X W m (.List es pos) (lstF fs) := by
  refine ⟨fun g own pins s σ ρ H ps I r n w => ?_⟩
  refine (pe_lst (pa_c X es)).run pins s σ H _ I (cA.mono (h.can r (ne_of_bind n) (WOk.left w)) fun vs H1 ⟨ds, ps1, e1, x1, p1, q1⟩ => ?_)
  have e2 : lstF fs ρ ps = (if lenC ds.length = true then pure (.lst ds) else R.und) ps1 := bind_ok e1
  rw [e2] at n ⊢
  obtain ⟨hc, he⟩ := if_und n
  rw [he]
  have t1 := args_all hm q1
  refine ⟨by rw [t1.length]; exact lenC_ok hc, fun l hl => ?_⟩
  exact QV.back x1 p1 rfl _ _ (laid_fr (r.mono x1 p1).xT p1 hl t1 rfl)
theorem laid_tup {pl : Pl} {K : PySem.W.Frag} {O : Addr → Prop} {H : Hp} {ps : Ps} {p : Addr} {vs : List V} {ds : List D} {r : Res D} (hO : ∀ a, O a → H a ≠ none) (hP : PoolAt pl H ps) (hp : H p = none) (hr : Reps pl K (hid O H) ds vs) (e : r = .ok (.tup ds) ps) :
    QV .cl pl K O H r (.ref p) (upd H p (.tup vs)) := by
  have np : ¬ O p := fun z => hO p z hp
  refine ⟨_, _, e, Exo.new hp, hP.new hp, ?_⟩
  show Rep _ _ _ _ _
  unfold Rep
  refine ⟨p, vs, rfl, .of (by rw [hid_at np]; exact upd_same), hr.mono fun a o q => ?_⟩
  obtain ⟨n, q⟩ := hid_of q
  rw [hid_at n, upd_ne (ne_of_none q hp)]
  exact q
theorem dx_tup {x1 : Nat} (h : Ax X W m ms es fs) (hm : ms.all (· == .sh) = true := by rfl) : Dx .cl X W m (.Tuple es x1 pos) (tupF fs) := by
  refine ⟨fun g own pins s σ ρ H ps I r n w => ?_⟩
  refine (pe_tup (pa_c X es)).run pins s σ H _ I (cA.mono (h.can r (ne_of_bind n) (WOk.left w)) fun vs H1 ⟨ds, ps1, e1, x1, p1, q1⟩ => ?_)
  have e2 : tupF fs ρ ps = (if lenC ds.length = true then pure (.tup ds) else R.und) ps1 := bind_ok e1
  rw [e2] at n ⊢
  obtain ⟨hc, he⟩ := if_und n
  rw [he]
  have t1 := args_all hm q1
  refine ⟨by rw [t1.length]; exact lenC_ok hc, fun l hl => ?_⟩
  exact QV.back x1 p1 rfl _ _ (laid_tup (r.mono x1 p1).xT p1 hl t1 rfl)
end
end DL
set_option Elab.async false
set_option linter.all false
set_option maxRecDepth 100000
set_option maxHeartbeats 2000000
/-! D12: statements. -/
namespace DL
open PySem PySem.Spec PyProof.Rows L2

inductive Fl where
  | nx (ρ : Rho) | rt (d : D) (ρ : Rho) | bk (ρ : Rho) | ct (ρ : Rho)
abbrev SF := Rho → R Fl
/-- the modes at a loop's break and continue, at the return; the slots that are not to be stored -/
structure JP where
  mb : List Md
  mr : List Md
  px : List Nat := []
  fr : Bool := false
def Ow (m : List Md) (i : Nat) : Prop := m[i]? = some .ow ∨ m[i]? = some .io
def OwnK (m : List Md) (own own' : Nat → Addr) : Prop := ∀ (i : Nat), m[i]? = some .io → own' i = own i
def Eo (g : G) : Addr → Prop := fun a => g.E a ∨ plS g.pl a
/-- what is returned: a clean value, or an object just made -/
def RtQ (K : PySem.W.Frag) (J : JP) (g : G) (own : Nat → Addr) (H : Hp) (d : D) (v : V) : Prop := match J.fr with
  | false => Rep g.pl K (hid (Xs J.mr own g) H) d v
  | true => ∃ p, v = .ref p ∧ g.B p = none ∧ ¬ plS g.pl p ∧ TopR g.pl K (hid (fun a => Xs J.mr own g a ∨ a = p) H) d (H p)
/-- what is wanted behind a statement, as HandS's Ends -/
def DD (X : Cx) (J : JP) (m m' : List Md) (g : G) (own : Nat → Addr) (r : Res Fl) : Ends where
  nx := fun σ' H' => ∃ ρ' ps' own', r = .ok (.nx ρ') ps' ∧ Rs X.K g m' own' σ' ρ' H' ps' ∧ OwnK m own own'
  bk := fun σ' H' => ∃ ρ' ps' own', r = .ok (.bk ρ') ps' ∧ Rs X.K g J.mb own' σ' ρ' H' ps' ∧ OwnK m own own'
  ct := fun σ' H' => ∃ ρ' ps' own', r = .ok (.ct ρ') ps' ∧ Rs X.K g J.mb own' σ' ρ' H' ps' ∧ OwnK m own own'
  rt := fun v H' => ∃ d ρ' ps' own' σ', r = .ok (.rt d ρ') ps' ∧ Rs X.K g J.mr own' σ' ρ' H' ps' ∧ OwnK m own own' ∧ RtQ X.K J g own' H' d v
/-- what is wanted of what a statement raises -/
def WS (W : WX) (K : PySem.W.Frag) (g : G) (r : Res Fl) : Prop :=
  ∀ x ps' dx H' σ', r = .exc x ps' → Exo (plS g.pl) g.B H' → PoolAt g.pl H' ps' → ExR g.pl K (Eo g) H' dx x → (∀ p ∈ g.sx, ∃ v, σ'[p.1]? = some (some v) ∧ Rep g.pl K (hid (Eo g) H') p.2 v) → W (.ref x.cls) (some dx) σ' H'
structure Ds (X : Cx) (W : WX) (J : JP) (m m' : List Md) (st : Stmt) (f : SF) : Prop where
  run : ∀ (g : G) (own : Nat → Addr) (pins : List (Addr × Obj)) (s : Shared) (σ : L2.St) (ρ : Rho) (H : Hp) (ps : Ps), Inv X pins σ H s → Rs X.K g m own σ ρ H ps → (∀ p ∈ g.sx, p.1 ∈ J.px) → f ρ ps ≠ .und → WS W X.K g (f ρ ps) →
    wpAny (model X.prog X.w) X.A (exec st X.env) (SP X pins (DD X J m m' g own (f ρ ps))) X.xe s
structure Dss (X : Cx) (W : WX) (J : JP) (m m' : List Md) (st : List Stmt) (f : SF) : Prop where
  run : ∀ (g : G) (own : Nat → Addr) (pins : List (Addr × Obj)) (s : Shared) (σ : L2.St) (ρ : Rho) (H : Hp) (ps : Ps), Inv X pins σ H s → Rs X.K g m own σ ρ H ps → (∀ p ∈ g.sx, p.1 ∈ J.px) → f ρ ps ≠ .und → WS W X.K g (f ρ ps) →
    wpAny (model X.prog X.w) X.A (execs st X.env) (SP X pins (DD X J m m' g own (f ρ ps))) X.xe s
theorem OwnK.refl {m : List Md} {own : Nat → Addr} : OwnK m own own := fun _ _ => rfl
theorem Xs.eo {m : List Md} {own : Nat → Addr} {g : G} : ∀ a, Eo g a → Xs m own g a := fun a z => by
  rcases z with z | z
  · exact .inl z
  · exact .inr (.inl z)
/-- the exceptions of an expression -/
theorem WS.ex {α : Type} {W : WX} {K : PySem.W.Frag} {m : List Md} {own : Nat → Addr} {g : G} {σ : L2.St} {ρ : Rho} {H : Hp} {x : R α} {h : α → R Fl} {ps ps1 : Ps} (w : WS W K g ((x >>= h) ps)) (r : Rs K g m own σ ρ H ps1) : WOk W g.pl K (Xs m own g) σ H (x ps) :=
  fun e ps' dx H' q e2 p ⟨vs, h1, h2⟩ => w e ps' dx H' σ (bind_exc q) (r.base.trans e2) p ⟨vs, h1, h2.mono (hid_sub Xs.eo)⟩ fun p' hp =>
    let ⟨v, h3, h4⟩ := r.sx p' hp
    ⟨v, h3, (h4.mono (e2.hid Xs.pl)).mono (hid_sub Xs.eo)⟩
theorem spI' {X : Cx} {pins : List (Addr × Obj)} {D1 D2 : Ends} {f : Flow} {s : Shared} (h : SP X pins D1 f s) (h1 : ∀ σ H, D1.nx σ H → D2.nx σ H) (h2 : ∀ σ H, D1.bk σ H → D2.bk σ H) (h3 : ∀ σ H, D1.ct σ H → D2.ct σ H) (h4 : ∀ v H, D1.rt v H → D2.rt v H) : SP X pins D2 f s := by
  cases f with
  | next => obtain ⟨σ, H, I, q⟩ := h; exact ⟨σ, H, I, h1 _ _ q⟩
  | brk => obtain ⟨σ, H, I, q⟩ := h; exact ⟨σ, H, I, h2 _ _ q⟩
  | cont => obtain ⟨σ, H, I, q⟩ := h; exact ⟨σ, H, I, h3 _ _ q⟩
  | ret u => obtain ⟨v, σ, H, I, rv, q⟩ := h; exact ⟨v, σ, H, I, rv, h4 _ _ q⟩
/-- ow, io may become less -/
def le1 : Md → Md → Bool
  | _, .no => true
  | a, b => a == b
def leM : List Md → List Md → Bool
  | [], [] => true
  | a :: r, b :: t => le1 a b && leM r t
  | _, _ => false
theorem leM_at : ∀ {m m' : List Md}, leM m m' = true → ∀ (i : Nat) (x : Md), m'[i]? = some x → x ≠ .no → m[i]? = some x
  | [], [], _, i, x, h, _ => by simp at h
  | a :: r, b :: t, h, 0, x, e, n => by
    simp at e; subst e
    unfold leM at h
    rw [Bool.and_eq_true] at h
    have h1 := h.1
    unfold le1 at h1
    split at h1
    · exact (n rfl).elim
    · rw [eq_of_beq h1]; rfl
  | a :: r, b :: t, h, i + 1, x, e, n => by
    unfold leM at h
    rw [Bool.and_eq_true] at h
    simpa using leM_at h.2 i x (by simpa using e) n
  | [], _ :: _, h, _, _, _, _ => Bool.noConfusion (show false = true from h)
  | _ :: _, [], h, _, _, _, _ => Bool.noConfusion (show false = true from h)
section
variable {K : PySem.W.Frag} {g : G} {m m' : List Md} {own : Nat → Addr} {σ : L2.St} {ρ : Rho} {H : Hp} {ps : Ps}
theorem Rs.weak (r : Rs K g m own σ ρ H ps) (h : leM m m' = true) : Rs K g m' own σ ρ H ps := by
  have at_ : ∀ (i : Nat), (m'[i]? = some .ow ∨ m'[i]? = some .io) → (m[i]? = some .ow ∨ m[i]? = some .io) := fun i q => by
    rcases q with q | q
    · exact .inl (leM_at h i _ q (by decide))
    · exact .inr (leM_at h i _ q (by decide))
  have sub : ∀ a, Xs m' own g a → Xs m own g a := fun a q => by
    rcases q with q | q | ⟨i, q, e⟩
    · exact .inl q
    · exact .inr (.inl q)
    · exact .inr (.inr ⟨i, at_ i q, e⟩)
  have ex : Ex (hid (Xs m own g) H) (hid (Xs m' own g) H) := hid_sub sub
  exact {
    len := r.len
    sh := fun i d h1 h2 => let ⟨v, h3, h4⟩ := r.sh i d (leM_at h i _ h1 (by decide)) h2; ⟨v, h3, h4.mono ex⟩
    ow := fun i q => let ⟨d, h1, h2, h3, h4⟩ := r.ow i (at_ i q); ⟨d, h1, h2, h3.mono ex, h4⟩
    sb := fun i d h1 h2 => by
      obtain ⟨v, h3, h4⟩ := r.sb i d (leM_at h i _ h1 (by decide)) h2
      refine ⟨v, h3, ?_⟩
      rcases h4 with h4 | ⟨a, ea, np, no, t⟩
      · exact .inl (h4.mono ex)
      · exact .inr ⟨a, ea, np, fun j q => no j (at_ j q), t.mono ex⟩
    xc := fun i a dx q => let ⟨d, h1, h2, h3, h4⟩ := r.xc i a dx (leM_at h i _ q (fun z => nomatch z)); ⟨d, h1, h2, h3.mono ex, h4⟩
    ex := fun p hp => (r.ex p hp).mono ex
    sx := fun p hp => let ⟨v, h1, h2⟩ := r.sx p hp; ⟨v, h1, h2.mono ex⟩
    inj := fun i j h1 h2 => r.inj i j (at_ i h1) (at_ j h2)
    nE := fun i q => r.nE i (leM_at h i _ q (by decide))
    base := r.base
    pool := r.pool
    eT := r.eT }
theorem set_at {α : Type} {l : List α} {i j : Nat} {x y : α} (h : (l.set i x)[j]? = some y) : (j = i ∧ y = x ∧ i < l.length) ∨ (j ≠ i ∧ l[j]? = some y) := by
  by_cases e : j = i
  · subst e
    by_cases hl : j < l.length
    · rw [List.getElem?_set_self hl] at h; cases h; exact .inl ⟨rfl, rfl, hl⟩
    · rw [List.getElem?_eq_none (by rw [List.length_set]; omega)] at h; cases h
  · rw [List.getElem?_set_ne (Ne.symm e)] at h; exact .inr ⟨e, h⟩
theorem set_ow {l : List Md} {i j : Nat} {x : Md} (h : ((l.set i x)[j]? = some .ow ∨ (l.set i x)[j]? = some .io)) (hx : x ≠ .ow ∧ x ≠ .io) : j ≠ i ∧ (l[j]? = some .ow ∨ l[j]? = some .io) := by
  rcases h with h | h
  · rcases set_at h with ⟨_, e, _⟩ | ⟨n, e⟩
    · exact (hx.1 e.symm).elim
    · exact ⟨n, .inl e⟩
  · rcases set_at h with ⟨_, e, _⟩ | ⟨n, e⟩
    · exact (hx.2 e.symm).elim
    · exact ⟨n, .inr e⟩
/-- a name gets a clean value -/
theorem Rs.store (r : Rs K g m own σ ρ H ps) {i : Nat} {d : D} {v : V} (h : Rep g.pl K (hid (Xs m own g) H) d v) (hp : ∀ p ∈ g.sx, p.1 ≠ i) (hi : i < σ.length) : Rs K g (m.set i .sh) own (σ.set i (some v)) (ρ.set i (some d)) H ps := by
  have at_ : ∀ (j : Nat), ((m.set i .sh)[j]? = some .ow ∨ (m.set i .sh)[j]? = some .io) → j ≠ i ∧ (m[j]? = some .ow ∨ m[j]? = some .io) := fun j q => set_ow q ⟨by decide, by decide⟩
  have sub : ∀ a, Xs (m.set i .sh) own g a → Xs m own g a := fun a q => by
    rcases q with q | q | ⟨j, q, e⟩
    · exact .inl q
    · exact .inr (.inl q)
    · exact .inr (.inr ⟨j, (at_ j q).2, e⟩)
  have ex : Ex (hid (Xs m own g) H) (hid (Xs (m.set i .sh) own g) H) := hid_sub sub
  exact {
    len := by rw [List.length_set, List.length_set]; exact r.len
    sh := fun j d' h1 h2 => by
      by_cases e : j = i
      · subst e
        rw [List.getElem?_set_self (by rw [r.len]; exact hi)] at h2
        cases h2
        exact ⟨v, List.getElem?_set_self hi, h.mono ex⟩
      · rw [List.getElem?_set_ne (Ne.symm e)] at h1 h2 ⊢
        obtain ⟨w, h3, h4⟩ := r.sh j d' h1 h2
        exact ⟨w, h3, h4.mono ex⟩
    ow := fun j q => by
      obtain ⟨ne, q⟩ := at_ j q
      obtain ⟨d', h1, h2, h3, h4⟩ := r.ow j q
      exact ⟨d', by rw [List.getElem?_set_ne (Ne.symm ne)]; exact h1, by rw [List.getElem?_set_ne (Ne.symm ne)]; exact h2, h3.mono ex, h4⟩
    sb := fun j d' h1 h2 => by
      by_cases e : j = i
      · subst e
        rcases set_at h1 with ⟨_, z, _⟩ | ⟨z, _⟩
        · cases z
        · exact (z rfl).elim
      · rw [List.getElem?_set_ne (Ne.symm e)] at h1 h2 ⊢
        obtain ⟨w, h3, h4⟩ := r.sb j d' h1 h2
        refine ⟨w, h3, ?_⟩
        rcases h4 with h4 | ⟨a, ea, np, no, t⟩
        · exact .inl (h4.mono ex)
        · exact .inr ⟨a, ea, np, fun j q => no j (at_ j q).2, t.mono ex⟩
    xc := fun j a dx q => by
      rcases set_at q with ⟨_, z, _⟩ | ⟨ne, q⟩
      · cases z
      · obtain ⟨d', h1, h2, h3, h4⟩ := r.xc j a dx q
        exact ⟨d', by rw [List.getElem?_set_ne (Ne.symm ne)]; exact h1, by rw [List.getElem?_set_ne (Ne.symm ne)]; exact h2, h3.mono ex, h4⟩
    ex := fun p hp => (r.ex p hp).mono ex
    sx := fun p hp' => by
      obtain ⟨w, h1, h2⟩ := r.sx p hp'
      exact ⟨w, by rw [List.getElem?_set_ne (Ne.symm (hp p hp'))]; exact h1, h2.mono ex⟩
    inj := fun j k h1 h2 => r.inj j k (at_ j h1).2 (at_ k h2).2
    nE := fun j q => r.nE j (by
      rcases set_at q with ⟨_, z, _⟩ | ⟨_, z⟩
      · cases z
      · exact z)
    base := r.base
    pool := r.pool
    eT := r.eT }
def own2 (own : Nat → Addr) (i : Nat) (p : Addr) : Nat → Addr := fun j => if j = i then p else own j
theorem own2_eq {own : Nat → Addr} {i : Nat} {p : Addr} {j : Nat} (h : j = i) : own2 own i p j = p := if_pos h
theorem own2_ne {own : Nat → Addr} {i : Nat} {p : Addr} {j : Nat} (h : j ≠ i) : own2 own i p j = own j := if_neg h
/-- a name gets a new object that is its own -/
theorem Rs.storeO (r : Rs K g m own σ ρ H ps) {i : Nat} {d : D} {p : Addr} {H0 : Hp} (h0 : Exo (plS g.pl) H0 H) (hB : Exo (plS g.pl) g.B H0) (hxT : ∀ a, Xs m own g a → H0 a ≠ none) (hn : H0 p = none) (t : TopR g.pl K (hid (fun a => Xs m own g a ∨ a = p) H) d (H p)) (hp : ∀ p ∈ g.sx, p.1 ≠ i) (hi : i < σ.length)
    {ps0 : Ps} (old : Rs K g m own σ ρ H0 ps0) : Rs K g (m.set i .ow) (own2 own i p) (σ.set i (some (.ref p))) (ρ.set i (some d)) H ps := by
  have np : ¬ Xs m own g p := fun z => hxT p z hn
  have at_ : ∀ (j : Nat), ((m.set i .ow)[j]? = some .ow ∨ (m.set i .ow)[j]? = some .io) → j = i ∨ (j ≠ i ∧ (m[j]? = some .ow ∨ m[j]? = some .io)) := fun j q => by
    by_cases e : j = i
    · exact .inl e
    · rw [List.getElem?_set_ne (Ne.symm e)] at q; exact .inr ⟨e, q⟩
  have sub : ∀ a, Xs (m.set i .ow) (own2 own i p) g a → Xs m own g a ∨ a = p := fun a q => by
    rcases q with q | q | ⟨j, q, e⟩
    · exact .inl (.inl q)
    · exact .inl (.inr (.inl q))
    · rcases at_ j q with z | ⟨z, q⟩
      · right; rw [← e]; exact own2_eq z
      · left; rw [own2_ne z] at e; exact .inr (.inr ⟨j, q, e⟩)
  -- what stood ahead of the new object
  have ex0 : Ex (hid (Xs m own g) H0) (hid (Xs (m.set i .ow) (own2 own i p) g) H) := fun a o q => by
    obtain ⟨n, q⟩ := hid_of q
    have na : a ≠ p := ne_of_none q hn
    rw [hid_at fun z => (sub a z).elim n na]
    exact h0 a o q fun z => n (Xs.pl a z)
  have ext : Ex (hid (fun a => Xs m own g a ∨ a = p) H) (hid (Xs (m.set i .ow) (own2 own i p) g) H) := hid_sub sub
  have opl : ¬ plS g.pl p := fun z => np (.inr (.inl z))
  exact {
    len := by rw [List.length_set, List.length_set]; exact r.len
    sh := fun j d' h1 h2 => by
      by_cases e : j = i
      · subst e
        rcases set_at h1 with ⟨_, z, _⟩ | ⟨z, _⟩
        · cases z
        · exact (z rfl).elim
      · rw [List.getElem?_set_ne (Ne.symm e)] at h1 h2 ⊢
        obtain ⟨w, h3, h4⟩ := old.sh j d' h1 h2
        exact ⟨w, h3, h4.mono ex0⟩
    ow := fun j q => by
      rcases at_ j q with rfl | ⟨ne, q⟩
      · refine ⟨d, List.getElem?_set_self (by rw [r.len]; exact hi), by rw [List.getElem?_set_self hi, own2_eq rfl], ?_, ?_, ?_⟩
        · rw [own2_eq rfl]; exact t.mono ext
        · rw [own2_eq rfl]
          cases hb : g.B p with
          | none => rfl
          | some o => rw [hB p o hb opl] at hn; cases hn
        · rw [own2_eq rfl]; exact opl
      · obtain ⟨d', h1, h2, h3, h4, h5⟩ := old.ow j q
        refine ⟨d', by rw [List.getElem?_set_ne (Ne.symm ne)]; exact h1, by rw [List.getElem?_set_ne (Ne.symm ne), own2_ne ne]; exact h2, ?_, by rw [own2_ne ne]; exact h4, by rw [own2_ne ne]; exact h5⟩
        rw [own2_ne ne]
        obtain ⟨u, hu⟩ := h3.some
        rw [h0 _ u hu h5, ← hu]
        exact h3.mono ex0
    sb := fun j d' h1 h2 => by
      by_cases e : j = i
      · subst e
        rcases set_at h1 with ⟨_, z, _⟩ | ⟨z, _⟩
        · cases z
        · exact (z rfl).elim
      · rw [List.getElem?_set_ne (Ne.symm e)] at h1 h2 ⊢
        obtain ⟨w, h3, h4⟩ := old.sb j d' h1 h2
        refine ⟨w, h3, ?_⟩
        rcases h4 with h4 | ⟨a, ea, npl, no, t⟩
        · exact .inl (h4.mono ex0)
        · obtain ⟨u, hu⟩ := t.some
          refine .inr ⟨a, ea, npl, fun j q => ?_, ?_⟩
          · rcases at_ j q with z | ⟨z, q⟩
            · rw [own2_eq z]; exact Ne.symm (ne_of_none hu hn)
            · rw [own2_ne z]; exact no j q
          · rw [h0 a u hu npl, ← hu]; exact t.mono ex0
    xc := fun j a dx q => by
      rcases set_at q with ⟨_, z, _⟩ | ⟨ne, q⟩
      · cases z
      · obtain ⟨d', h1, h2, h3, h4⟩ := old.xc j a dx q
        obtain ⟨u, hu⟩ := h3.some
        refine ⟨d', by rw [List.getElem?_set_ne (Ne.symm ne)]; exact h1, by rw [List.getElem?_set_ne (Ne.symm ne)]; exact h2, ?_, h4⟩
        rw [h0 _ u hu h4, ← hu]
        exact h3.mono ex0
    ex := fun p hp => (old.ex p hp).mono ex0
    sx := fun q hq => by
      obtain ⟨w, h1, h2⟩ := old.sx q hq
      exact ⟨w, by rw [List.getElem?_set_ne (Ne.symm (hp q hq))]; exact h1, h2.mono ex0⟩
    inj := fun j k h1 h2 e => by
      have far : ∀ {j : Nat}, (m[j]? = some .ow ∨ m[j]? = some .io) → own j ≠ p := fun {j} q z => np (.inr (.inr ⟨j, q, z⟩))
      rcases at_ j h1 with z1 | ⟨z1, q1⟩ <;> rcases at_ k h2 with z2 | ⟨z2, q2⟩
      · rw [z1, z2]
      · rw [own2_eq z1, own2_ne z2] at e; exact (far q2 e.symm).elim
      · rw [own2_ne z1, own2_eq z2] at e; exact (far q1 e).elim
      · rw [own2_ne z1, own2_ne z2] at e; exact r.inj j k q1 q2 e
    nE := fun j q => by
      rcases at_ j (.inl q) with z | ⟨z, _⟩
      · rw [own2_eq z]; exact fun z => np (.inl z)
      · rw [own2_ne z]
        rw [List.getElem?_set_ne (Ne.symm z)] at q
        exact r.nE j q
    base := r.base
    pool := r.pool
    eT := r.eT }
end
end DL
set_option Elab.async false
set_option linter.all false
set_option maxRecDepth 100000
set_option maxHeartbeats 2000000
/-! D13: statements. -/
namespace DL
open PySem PySem.Spec PyProof.Rows L2
section
variable {K : PySem.W.Frag} {g : G} {m m' : List Md} {own : Nat → Addr} {σ : L2.St} {ρ : Rho} {H : Hp} {ps : Ps}
/-- an object of its own has changed -/
theorem Rs.mut (r : Rs K g m own σ ρ H ps) {i : Nat} {d : D} {o : HO} (hi : m[i]? = some .ow ∨ m[i]? = some .io) (t : TopR g.pl K (hid (Xs m own g) H) d (some o)) : Rs K g m own σ (ρ.set i (some d)) (upd H (own i) o) ps := by
  have hx : Xs m own g (own i) := .inr (.inr ⟨i, hi, rfl⟩)
  have ex : Ex (hid (Xs m own g) H) (hid (Xs m own g) (upd H (own i) o)) := fun a u q => by
    obtain ⟨n, q⟩ := hid_of q
    rw [hid_at n, upd_ne (fun z => n (by rw [z]; exact hx))]
    exact q
  obtain ⟨d0, h1, h2, h3, h4, h5⟩ := r.ow i hi
  have hil : i < ρ.length := (List.getElem?_eq_some_iff.mp h1).1
  exact {
    len := by rw [List.length_set]; exact r.len
    sh := fun j d' k1 k2 => by
      by_cases e : j = i
      · subst e; rcases hi with z | z <;> (rw [z] at k1; cases k1)
      · rw [List.getElem?_set_ne (Ne.symm e)] at k2
        obtain ⟨v, k3, k4⟩ := r.sh j d' k1 k2
        exact ⟨v, k3, k4.mono ex⟩
    ow := fun j k => by
      by_cases e : j = i
      · subst e
        exact ⟨d, List.getElem?_set_self hil, h2, by rw [upd_same]; exact t.mono ex, h4, h5⟩
      · obtain ⟨d', k1, k2, k3, k4⟩ := r.ow j k
        exact ⟨d', by rw [List.getElem?_set_ne (Ne.symm e)]; exact k1, k2, by rw [upd_ne (fun z => e (r.inj j i k hi z))]; exact k3.mono ex, k4⟩
    sb := fun j d' k1 k2 => by
      by_cases e : j = i
      · subst e; rcases hi with z | z <;> (rw [z] at k1; cases k1)
      · rw [List.getElem?_set_ne (Ne.symm e)] at k2
        obtain ⟨v, k3, k4⟩ := r.sb j d' k1 k2
        refine ⟨v, k3, ?_⟩
        rcases k4 with k4 | ⟨a, ea, np, no, t⟩
        · exact .inl (k4.mono ex)
        · exact .inr ⟨a, ea, np, no, by rw [upd_ne (Ne.symm (no i hi))]; exact t.mono ex⟩
    xc := fun j a dx k => by
      obtain ⟨d', k1, k2, k3, k4⟩ := r.xc j a dx k
      have e : j ≠ i := fun z => by subst z; rcases hi with z | z <;> (rw [z] at k; cases k)
      have e2 : dx ≠ own i := fun z => by rw [z] at k3; exact k3.not_top h3
      exact ⟨d', by rw [List.getElem?_set_ne (Ne.symm e)]; exact k1, k2, by rw [upd_ne e2]; exact k3.mono ex, k4⟩
    ex := fun p hp => (r.ex p hp).mono ex
    sx := fun p hp => let ⟨v, k1, k2⟩ := r.sx p hp; ⟨v, k1, k2.mono ex⟩
    inj := r.inj
    nE := r.nE
    base := fun a u q n => by
      rw [upd_ne (fun z => by rw [z, h4] at q; cases q)]
      exact r.base a u q n
    pool := r.pool.keep fun a ha => upd_ne fun z => h5 (by rw [← z]; exact ha)
    eT := fun a ha => by
      by_cases e : a = own i
      · rw [e, upd_same]; exact fun z => nomatch z
      · rw [upd_ne e]; exact r.eT a ha }
/-- an object of its own is given away -/
theorem Rs.share (r : Rs K g m own σ ρ H ps) {i : Nat} (hi : m[i]? = some .ow) : Rs K g (m.set i .sh) own σ ρ H ps := by
  have at_ : ∀ (j : Nat), ((m.set i .sh)[j]? = some .ow ∨ (m.set i .sh)[j]? = some .io) → j ≠ i ∧ (m[j]? = some .ow ∨ m[j]? = some .io) := fun j q => set_ow q ⟨by decide, by decide⟩
  have sub : ∀ a, Xs (m.set i .sh) own g a → Xs m own g a := fun a q => by
    rcases q with q | q | ⟨j, q, e⟩
    · exact .inl q
    · exact .inr (.inl q)
    · exact .inr (.inr ⟨j, (at_ j q).2, e⟩)
  have ex : Ex (hid (Xs m own g) H) (hid (Xs (m.set i .sh) own g) H) := hid_sub sub
  have far : ∀ j, j ≠ i → (m[j]? = some .ow ∨ m[j]? = some .io) → own j ≠ own i := fun j n q z => n (r.inj j i q (.inl hi) z)
  obtain ⟨d0, h1, h2, h3, h4, h5⟩ := r.ow i (.inl hi)
  have nx : ¬ Xs (m.set i .sh) own g (own i) := fun z => by
    rcases z with z | z | ⟨j, q, e⟩
    · exact r.nE i hi z
    · exact h5 z
    · obtain ⟨n, q⟩ := at_ j q
      exact far j n q e
  exact {
    len := r.len
    sh := fun j d' k1 k2 => by
      by_cases e : j = i
      · subst e
        rw [h1] at k2; cases k2
        refine ⟨_, h2, ?_⟩
        have t := h3.mono ex
        rw [← hid_at (H := H) nx] at t
        exact t.rep
      · rw [List.getElem?_set_ne (Ne.symm e)] at k1
        obtain ⟨v, k3, k4⟩ := r.sh j d' k1 k2
        exact ⟨v, k3, k4.mono ex⟩
    ow := fun j k => by
      obtain ⟨n, k⟩ := at_ j k
      obtain ⟨d', k1, k2, k3, k4⟩ := r.ow j k
      exact ⟨d', k1, k2, k3.mono ex, k4⟩
    sb := fun j d' k1 k2 => by
      rcases set_at k1 with ⟨_, z, _⟩ | ⟨_, k1⟩
      · cases z
      · obtain ⟨v, k3, k4⟩ := r.sb j d' k1 k2
        refine ⟨v, k3, ?_⟩
        rcases k4 with k4 | ⟨a, ea, np, no, t⟩
        · exact .inl (k4.mono ex)
        · exact .inr ⟨a, ea, np, fun j q => no j (at_ j q).2, t.mono ex⟩
    xc := fun j a dx k => by
      rcases set_at k with ⟨_, z, _⟩ | ⟨_, k⟩
      · cases z
      · obtain ⟨d', k1, k2, k3, k4⟩ := r.xc j a dx k
        exact ⟨d', k1, k2, k3.mono ex, k4⟩
    ex := fun p hp => (r.ex p hp).mono ex
    sx := fun p hp => let ⟨v, k1, k2⟩ := r.sx p hp; ⟨v, k1, k2.mono ex⟩
    inj := fun j k h1 h2 => r.inj j k (at_ j h1).2 (at_ k h2).2
    nE := fun j q => by
      rcases set_at q with ⟨_, z, _⟩ | ⟨_, q⟩
      · cases z
      · exact r.nE j q
    base := r.base
    pool := r.pool
    eT := r.eT }
end
section
variable {X : Cx} {W : WX} {J : JP} {m m' m2 : List Md} {e a b c : Expr} {f f1 f2 : FE} {t : FT} {st : Stmt} {sts sts2 : List Stmt} {g1 g2 : SF} {pos : Pos} {fs : FA}
/-! ### blocks -/
def skF : SF := fun ρ => pure (.nx ρ)
def thF (g2 : SF) : Fl → R Fl
  | .nx ρ => g2 ρ
  | r => pure r
def sqF (g1 g2 : SF) : SF := fun ρ => do let fl ← g1 ρ; thF g2 fl
theorem dss_nil : Dss X W J m m [] skF := ⟨fun g own pins s σ ρ H ps I r hx n w => wpAny_execs_nil ⟨σ, H, I, ρ, ps, own, rfl, r, .refl⟩⟩
theorem OwnK.trans {m m2 : List Md} {own own1 own2 : Nat → Addr} (h : OwnK m own own1) (h' : OwnK m2 own1 own2) (hm : ∀ (i : Nat), m[i]? = some .io → m2[i]? = some .io) : OwnK m own own2 := fun i q => (h' i (hm i q)).trans (h i q)
/-- what is lent stays lent -/
def ioK (m m2 : List Md) : Bool := match m, m2 with
  | [], _ => true
  | .io :: r, .io :: t => ioK r t
  | .io :: _, _ => false
  | _ :: r, _ :: t => ioK r t
  | _ :: r, [] => ioK r []
theorem ioK_at : ∀ {m m2 : List Md}, ioK m m2 = true → ∀ (i : Nat), m[i]? = some .io → m2[i]? = some .io
  | [], _, _, i, e => by simp at e
  | .io :: r, .io :: t, h, 0, e => rfl
  | .io :: r, .io :: t, h, i + 1, e => by simpa using ioK_at (m := r) (m2 := t) h i (by simpa using e)
  | .io :: r, [], h, _, _ => Bool.noConfusion (show false = true from h)
  | .io :: r, .no :: t, h, _, _ => Bool.noConfusion (show false = true from h)
  | .io :: r, .sh :: t, h, _, _ => Bool.noConfusion (show false = true from h)
  | .io :: r, .ow :: t, h, _, _ => Bool.noConfusion (show false = true from h)
  | .io :: r, .sb :: t, h, _, _ => Bool.noConfusion (show false = true from h)
  | .io :: r, .xc _ _ :: t, h, _, _ => Bool.noConfusion (show false = true from h)
  | .no :: r, b :: t, h, 0, e => by simp at e
  | .sh :: r, b :: t, h, 0, e => by simp at e
  | .ow :: r, b :: t, h, 0, e => by simp at e
  | .sb :: r, b :: t, h, 0, e => by simp at e
  | .xc _ _ :: r, b :: t, h, 0, e => by simp at e
  | .no :: r, b :: t, h, i + 1, e => by simpa using ioK_at (m := r) (m2 := t) h i (by simpa using e)
  | .sh :: r, b :: t, h, i + 1, e => by simpa using ioK_at (m := r) (m2 := t) h i (by simpa using e)
  | .ow :: r, b :: t, h, i + 1, e => by simpa using ioK_at (m := r) (m2 := t) h i (by simpa using e)
  | .sb :: r, b :: t, h, i + 1, e => by simpa using ioK_at (m := r) (m2 := t) h i (by simpa using e)
  | .xc _ _ :: r, b :: t, h, i + 1, e => by simpa using ioK_at (m := r) (m2 := t) h i (by simpa using e)
  | .no :: r, [], h, 0, e => by simp at e
  | .sh :: r, [], h, 0, e => by simp at e
  | .ow :: r, [], h, 0, e => by simp at e
  | .sb :: r, [], h, 0, e => by simp at e
  | .xc _ _ :: r, [], h, 0, e => by simp at e
  | .no :: r, [], h, i + 1, e => by have := ioK_at (m := r) (m2 := []) h i (by simpa using e); simp at this
  | .sh :: r, [], h, i + 1, e => by have := ioK_at (m := r) (m2 := []) h i (by simpa using e); simp at this
  | .ow :: r, [], h, i + 1, e => by have := ioK_at (m := r) (m2 := []) h i (by simpa using e); simp at this
  | .sb :: r, [], h, i + 1, e => by have := ioK_at (m := r) (m2 := []) h i (by simpa using e); simp at this
  | .xc _ _ :: r, [], h, i + 1, e => by have := ioK_at (m := r) (m2 := []) h i (by simpa using e); simp at this
theorem sq_nx {fl : Fl} {ps ps' : Ps} {ρ ρ' : Rho} (h : g1 ρ ps = .ok (.nx ρ') ps') : sqF g1 g2 ρ ps = g2 ρ' ps' := bind_ok h
theorem dss_cons (h1 : Ds X W J m m2 st g1) (h2 : Dss X W J m2 m' sts g2) (hm : ioK m m2 = true := by rfl) : Dss X W J m m' (st :: sts) (sqF g1 g2) := by
  refine ⟨fun g own pins s σ ρ H ps I r hx n w => ?_⟩
  have n1 := ne_of_bind n
  have w1 : WS W X.K g (g1 ρ ps) := fun x ps' dx H' σ' e => w x ps' dx H' σ' (bind_exc e)
  refine wpAny_execs_cons (thn (h1.run g own pins s σ ρ H ps I r hx n1 w1) fun fl s1 q => ?_)
  cases fl with
  | next =>
    obtain ⟨σ1, H1, I1, ρ1, ps1, own1, e1, r1, k1⟩ := q
    have e2 : sqF g1 g2 ρ ps = g2 ρ1 ps1 := bind_ok e1
    rw [e2] at n w ⊢
    exact thn (h2.run g own1 pins s1 σ1 ρ1 H1 ps1 I1 r1 hx n w) fun f s2 q2 => spI' q2 (fun σ H ⟨ρ', ps', own', a, b, c⟩ => ⟨ρ', ps', own', a, b, k1.trans c (ioK_at hm)⟩) (fun σ H ⟨ρ', ps', own', a, b, c⟩ => ⟨ρ', ps', own', a, b, k1.trans c (ioK_at hm)⟩)
      (fun σ H ⟨ρ', ps', own', a, b, c⟩ => ⟨ρ', ps', own', a, b, k1.trans c (ioK_at hm)⟩) (fun v H ⟨d, ρ', ps', own', σ', a, b, c, z⟩ => ⟨d, ρ', ps', own', σ', a, b, k1.trans c (ioK_at hm), z⟩)
  | brk =>
    obtain ⟨σ1, H1, I1, ρ1, ps1, own1, e1, r1, k1⟩ := q
    have e2 : sqF g1 g2 ρ ps = .ok (.bk ρ1) ps1 := bind_ok e1
    exact ⟨σ1, H1, I1, ρ1, ps1, own1, e2, r1, k1⟩
  | cont =>
    obtain ⟨σ1, H1, I1, ρ1, ps1, own1, e1, r1, k1⟩ := q
    have e2 : sqF g1 g2 ρ ps = .ok (.ct ρ1) ps1 := bind_ok e1
    exact ⟨σ1, H1, I1, ρ1, ps1, own1, e2, r1, k1⟩
  | ret u =>
    obtain ⟨v, σ1, H1, I1, rv, d, ρ1, ps1, own1, σ', e1, r1, k1, z⟩ := q
    have e2 : sqF g1 g2 ρ ps = .ok (.rt d ρ1) ps1 := bind_ok e1
    exact ⟨v, σ1, H1, I1, rv, d, ρ1, ps1, own1, σ', e2, r1, k1, z⟩
/-- less is known ahead -/
theorem dss_weak (h : Dss X W J m2 m' sts g1) (hl : leM m m2 = true := by rfl) (hm : ioK m m2 = true := by rfl) : Dss X W J m m' sts g1 := by
  refine ⟨fun g own pins s σ ρ H ps I r hx n w => ?_⟩
  have k : ∀ {own1}, OwnK m2 own own1 → OwnK m own own1 := fun k i q => k i (ioK_at hm i q)
  exact thn (h.run g own pins s σ ρ H ps I (r.weak hl) hx n w) fun f s2 q2 => spI' q2 (fun σ H ⟨ρ', ps', own', a, b, c⟩ => ⟨ρ', ps', own', a, b, k c⟩) (fun σ H ⟨ρ', ps', own', a, b, c⟩ => ⟨ρ', ps', own', a, b, k c⟩)
      (fun σ H ⟨ρ', ps', own', a, b, c⟩ => ⟨ρ', ps', own', a, b, k c⟩) (fun v H ⟨d, ρ', ps', own', σ', a, b, c, z⟩ => ⟨d, ρ', ps', own', σ', a, b, k c, z⟩)
theorem dss_share (i : Nat) (h : Dss X W J (m.set i .sh) m' sts g1) (hi : m[i]? = some .ow := by rfl) : Dss X W J m m' sts g1 := by
  refine ⟨fun g own pins s σ ρ H ps I r hx n w => ?_⟩
  have k : ∀ {own1}, OwnK (m.set i .sh) own own1 → OwnK m own own1 := fun k j q => k j (by
    rw [List.getElem?_set_ne (fun z => by subst z; rw [hi] at q; cases q)]; exact q)
  exact thn (h.run g own pins s σ ρ H ps I (r.share hi) hx n w) fun f s2 q2 => spI' q2 (fun σ H ⟨ρ', ps', own', a, b, c⟩ => ⟨ρ', ps', own', a, b, k c⟩) (fun σ H ⟨ρ', ps', own', a, b, c⟩ => ⟨ρ', ps', own', a, b, k c⟩)
      (fun σ H ⟨ρ', ps', own', a, b, c⟩ => ⟨ρ', ps', own', a, b, k c⟩) (fun v H ⟨d, ρ', ps', own', σ', a, b, c, z⟩ => ⟨d, ρ', ps', own', σ', a, b, k c, z⟩)

/-! ### single statements -/
def exF (f : FE) : SF := fun ρ => do let _ ← f ρ; pure (.nx ρ)
theorem ds_expr {k : Kd} (h : Dx k X W m e f) (hs : swapsWith e none pos.line X.env = pure false := by rfl) : Ds X W J m m (.Expr e pos) (exF f) := by
  refine ⟨fun g own pins s σ ρ H ps I r hx n w => ?_⟩
  refine (ps_expr (pe_c X e) hs).run pins s σ H _ I (cE.mono (h.c r (ne_of_bind n) (WS.ex w r)) fun v H' ⟨d, ps', e1, x1, p1, q1⟩ => ?_)
  exact ⟨ρ, ps', own, bind_ok e1, r.mono x1 p1, .refl⟩
def stF (i : Nat) (f : FE) : SF := fun ρ => do let d ← f ρ; pure (.nx (ρ.set i (some d)))
theorem sx_ne {g : G} {i : Nat} (hx : ∀ p ∈ g.sx, p.1 ∈ J.px) (hp : J.px.contains i = false) : ∀ p ∈ g.sx, p.1 ≠ i := fun p q z => by
  have := hx p q
  rw [z] at this
  have h2 : J.px.contains i = true := by simpa using this
  rw [hp] at h2; cases h2
theorem ds_set {i : Nat} {x : Str} {py : Pos} (h : Dx .cl X W m e f) (hN : X.N.Nodup) (hi : X.N[i]? = some x) (hl : Loc X.env.scope x) (hp : J.px.contains i = false := by rfl) (hs : swapsWith e (some (.Name x py)) pos.line X.env = pure false := by rfl) (hf : X.fn x = true ∨ X.env.scope.names.lookup x = some .local := by first | exact .inl rfl | exact .inr rfl) :
    Ds X W J m (m.set i .sh) (.Assign [.Name x py] e pos) (stF i f) := by
  refine ⟨fun g own pins s σ ρ H ps I r hx n w => ?_⟩
  have hiσ : i < σ.length := by rw [I.len]; exact (List.getElem?_eq_some_iff.mp hi).1
  refine (ps_set hN hi hl (pe_c X e) hs hf).run pins s σ H _ I (cE.mono (h.c r (ne_of_bind n) (WS.ex w r)) fun v H' ⟨d, ps', e1, x1, p1, q1⟩ => ?_)
  exact ⟨_, ps', own, bind_ok e1, (r.mono x1 p1).store q1 (sx_ne hx hp) hiσ, .refl⟩
theorem ds_own {i : Nat} {x : Str} {py : Pos} (h : Dx .fr X W m e f) (hN : X.N.Nodup) (hi : X.N[i]? = some x) (hl : Loc X.env.scope x) (hio : (m[i]? == some .io) = false := by rfl) (hp : J.px.contains i = false := by rfl) (hs : swapsWith e (some (.Name x py)) pos.line X.env = pure false := by rfl) (hf : X.fn x = true ∨ X.env.scope.names.lookup x = some .local := by first | exact .inl rfl | exact .inr rfl) :
    Ds X W J m (m.set i .ow) (.Assign [.Name x py] e pos) (stF i f) := by
  refine ⟨fun g own pins s σ ρ H ps I r hx n w => ?_⟩
  have hiσ : i < σ.length := by rw [I.len]; exact (List.getElem?_eq_some_iff.mp hi).1
  refine (ps_set hN hi hl (pe_c X e) hs hf).run pins s σ H _ I (cE.mono (h.c r (ne_of_bind n) (WS.ex w r)) fun v H' ⟨d, ps', e1, x1, p1, p, ev, hn, t⟩ => ?_)
  subst ev
  have nio : m[i]? ≠ some .io := fun z => by rw [z] at hio; cases hio
  exact ⟨_, ps', own2 own i p, bind_ok e1, Rs.storeO (r.mono x1 p1) (d := d) x1 r.base r.xT hn t (sx_ne hx hp) hiσ r, fun j q => own2_ne fun z => nio (by rw [← z]; exact q)⟩
end
end DL
set_option Elab.async false
set_option linter.all false
set_option maxRecDepth 100000
set_option maxHeartbeats 2000000
/-! D14: stores into objects; if, while, for, return. -/
namespace DL
open PySem PySem.Spec PyProof.Rows L2
section
variable {X : Cx} {W : WX} {J : JP} {m m' m2 : List Md} {e a b c o : Expr} {f f1 f2 : FE} {t : FT} {st : Stmt} {sts sts2 : List Stmt} {g1 g2 : SF} {pos p1' : Pos} {fs : FA}
/-- the list, the dict, the instance at a slot -/
def lstAt (ρ : Rho) (i : Nat) : R (List D) := match ρ[i]?.join with
  | some (.lst ds) => pure ds
  | _ => R.und
def apF (i : Nat) (f : FE) : SF := fun ρ => do
  let ds ← lstAt ρ i
  let d ← f ρ
  if lenC (ds.length + 1) = true then pure (.nx (ρ.set i (some (.lst (ds ++ [d]))))) else R.und
theorem lstAt_ne {ρ : Rho} {i : Nat} {ps : Ps} (n : lstAt ρ i ps ≠ .und) : ∃ ds, ρ[i]? = some (some (.lst ds)) ∧ lstAt ρ i ps = .ok ds ps := by
  unfold lstAt at n ⊢
  cases h : ρ[i]?.join with
  | none => rw [h] at n; exact (n rfl).elim
  | some d =>
    cases d with
    | lst ds => exact ⟨ds, join_some h, rfl⟩
    | _ => rw [h] at n; exact (n rfl).elim
theorem ifF_und {α : Type} {c : Bool} {x : R α} {ps : Ps} (n : (if c = true then x else R.und) ps ≠ .und) : c = true ∧ (if c = true then x else R.und) ps = x ps := by
  cases c with
  | true => exact ⟨rfl, rfl⟩
  | false => exact (n rfl).elim
theorem ds_app {i : Nat} {x : Str} {px apos cpos : Pos} (h : Dx .cl X W m e f) (hN : X.N[i]? = some x) (hv : Vis X.env.scope x) (hm : m[i]? = some .ow ∨ m[i]? = some .io)
    (hd : (x == ("__debug__" : Str)) = false := by decide) (hcd : (x == ("__classdict__" : Str)) = false := by decide) (hbase : attributeBase (.Name x px) "append" X.env (eval (.Name x px) X.env) = eval (.Name x px) X.env := by rfl)
    (hfew : ((backTo cpos (starEach [e] X.env)).all (fun x => !x.1) && (backToKw cpos (keywordEach [] X.env)).all (fun x => x.1.isSome)
      && decide ([e].length + ([] : List Keyword).length + (if ([] : List Keyword).isEmpty then 0 else 1) < 30)) = true := by rfl)
    (hline : (apos.endLine == cpos.line) = true := by rfl) (hs : starEach [e] X.env = (false, eval e X.env) :: starEach [] X.env := by rfl) (hplain : (backTo cpos (starEach [] X.env)).any (·.1) = false := by rfl)
    (hsw : swapsWith (.Call (.Attribute (.Name x px) "append" apos) [e] [] cpos) none pos.line X.env = pure false := by rfl) :
    Ds X W J m m (.Expr (.Call (.Attribute (.Name x px) "append" apos) [e] [] cpos) pos) (apF i f) := by
  refine ⟨fun g own pins s σ ρ H ps I r hx n w => ?_⟩
  obtain ⟨ds, hds, he0⟩ := lstAt_ne (ne_of_bind n)
  obtain ⟨d0, h1, h2, h3, h4, h5⟩ := r.ow i hm
  rw [hds] at h1
  cases h1
  have e0 : apF i f ρ ps = (f ρ >>= fun d => if lenC (ds.length + 1) = true then (pure (.nx (ρ.set i (some (.lst (ds ++ [d]))))) : R Fl) else R.und) ps := bind_ok he0
  rw [e0] at n w ⊢
  refine (ps_expr (pe_bm PySem.F.plainAttrs_list PySem.F.slot_list_append PySem.F.type_list_append mt_append (pe_var hN hv hd hcd) (pa_cons (pe_c X e) pa_nil hs) hbase hfew hline hs hplain) hsw).run pins s σ H _ I ?_
  obtain ⟨vs, hvs, t1⟩ := h3
  refine ⟨_, h2, .inl ⟨rfl, _, .of hvs⟩, cE.mono (h.c r (ne_of_bind n) (WS.ex w r)) fun v H1 ⟨d, ps1, e1, x1, p1, q1⟩ => ?_⟩
  have e2 : (f ρ >>= fun d => if lenC (ds.length + 1) = true then (pure (.nx (ρ.set i (some (.lst (ds ++ [d]))))) : R Fl) else R.und) ps = (if lenC (ds.length + 1) = true then (pure (.nx (ρ.set i (some (.lst (ds ++ [d]))))) : R Fl) else R.und) ps1 := bind_ok e1
  rw [e2] at n
  obtain ⟨hc, he⟩ := ifF_und n
  have r1 := r.mono x1 p1
  have hvs1 : H1 (own i) = some (.lst vs) := x1 _ _ hvs h5
  refine ⟨own i, vs, v, rfl, rfl, hvs1, ?_, ?_⟩
  · rw [t1.length]; exact Nat.lt_of_lt_of_le (Nat.lt_succ_self _) (lenC_ok hc)
  · refine ⟨_, ps1, own, e2.trans he, ?_, .refl⟩
    exact r1.mut hm ⟨_, rfl, (t1.mono (x1.hid Xs.pl)).append (Reps.cons q1 Reps.nil)⟩
/-- d[k] = v, xs[i] = v, the object one of its own -/
def dkAt (ρ : Rho) (i : Nat) : R (List (Key × D)) := match ρ[i]?.join with
  | some (.dk ds) => pure ds
  | _ => R.und
theorem dkAt_ne {ρ : Rho} {i : Nat} {ps : Ps} (n : dkAt ρ i ps ≠ .und) : ∃ ds, ρ[i]? = some (some (.dk ds)) ∧ dkAt ρ i ps = .ok ds ps := by
  unfold dkAt at n ⊢
  cases h : ρ[i]?.join with
  | none => rw [h] at n; exact (n rfl).elim
  | some d =>
    cases d with
    | dk ds => exact ⟨ds, join_some h, rfl⟩
    | _ => rw [h] at n; exact (n rfl).elim
def putD (kvs : List (Key × D)) (k : Key) (d : D) : List (Key × D) := if (kvs.any fun kv => decide (kv.1 = k)) = true then kvs.map (fun kv => if kv.1 = k then (kv.1, d) else kv) else kvs ++ [(k, d)]
theorem RepK.put {pl : Pl} {K : PySem.W.Frag} {H : Hp} {kvs : List (Key × D)} {vs : List (Key × V)} (h : RepK pl K H kvs vs) (k : Key) {d : D} {v : V} (hd : Rep pl K H d v) : RepK pl K H (putD kvs k d) (putK vs k v) := by
  have hany : (kvs.any fun kv => decide (kv.1 = k)) = (vs.any fun kv => decide (kv.1 = k)) := by
    induction kvs generalizing vs with
    | nil => unfold RepK at h; rw [h]; rfl
    | cons a r ih =>
      obtain ⟨k', d'⟩ := a
      unfold RepK at h
      obtain ⟨v', r', rfl, h2, h3⟩ := h
      rw [List.any_cons, List.any_cons, ih h3]
  unfold putD putK
  rw [hany]
  split
  · rename_i hh; clear hany hh
    induction kvs generalizing vs with
    | nil => unfold RepK at h; rw [h]; unfold RepK; rfl
    | cons a r ih =>
      obtain ⟨k', d'⟩ := a
      unfold RepK at h
      obtain ⟨v', r', rfl, h2, h3⟩ := h
      rw [List.map_cons, List.map_cons]
      by_cases e : k' = k
      · rw [if_pos e, if_pos e]
        unfold RepK
        exact ⟨v, _, rfl, hd, ih h3⟩
      · rw [if_neg e, if_neg e]
        unfold RepK
        exact ⟨v', _, rfl, h2, ih h3⟩
  · rename_i hh; clear hany hh
    induction kvs generalizing vs with
    | nil =>
      unfold RepK at h; rw [h]
      show RepK pl K H [(k, d)] [(k, v)]
      unfold RepK
      exact ⟨v, [], rfl, hd, by unfold RepK; rfl⟩
    | cons a r ih =>
      obtain ⟨k', d'⟩ := a
      unfold RepK at h
      obtain ⟨v', r', rfl, h2, h3⟩ := h
      rw [List.cons_append, List.cons_append]
      unfold RepK
      exact ⟨v', _, rfl, h2, ih h3⟩
def putF' (i : Nat) (fk f : FE) : SF := fun ρ => do
  let kvs ← dkAt ρ i
  let d ← f ρ
  let k ← fk ρ
  match keyOf k with
  | some k => if lenC (kvs.length + 1) = true then pure (.nx (ρ.set i (some (.dk (putD kvs k d))))) else R.und
  | none => R.und
theorem key_und {k : Option Key} {x : Key → R Fl} {ps : Ps} (n : (match k with | some k => x k | none => R.und) ps ≠ .und) : ∃ k', k = some k' ∧ (match k with | some k => x k | none => R.und) ps = x k' ps := by
  cases k with
  | none => exact (n rfl).elim
  | some k => exact ⟨k, rfl, rfl⟩
theorem ds_put {i : Nat} {x : Str} {px p2 : Pos} {fk : FE} (hv0 : Dx .cl X W m e f) (hk : Dx .bo X W m b fk) (hu : X.A.units + 64 < cLine) (hN : X.N[i]? = some x) (hv : Vis X.env.scope x) (hm : m[i]? = some .ow ∨ m[i]? = some .io)
    (hd : (x == ("__debug__" : Str)) = false := by decide) (hcd : (x == ("__classdict__" : Str)) = false := by decide) (hs : swapsWith e (some (.Subscript (.Name x px) b p2)) pos.line X.env = pure false := by rfl) :
    Ds X W J m m (.Assign [.Subscript (.Name x px) b p2] e pos) (putF' i fk f) := by
  refine ⟨fun g own pins s σ ρ H ps I r hx n w => ?_⟩
  obtain ⟨ds, hds, he0⟩ := dkAt_ne (ne_of_bind n)
  obtain ⟨d0, h1, h2, h3, h4, h5⟩ := r.ow i hm
  rw [hds] at h1
  cases h1
  have e0 : putF' i fk f ρ ps = (f ρ >>= fun d => fk ρ >>= fun k => match keyOf k with
    | some k => if lenC (ds.length + 1) = true then (pure (.nx (ρ.set i (some (.dk (putD ds k d))))) : R Fl) else R.und
    | none => R.und) ps := bind_ok he0
  rw [e0] at n w ⊢
  obtain ⟨vs, hvs, t1⟩ := h3
  refine (ps_dput (by omega) (pe_var hN hv hd hcd) (pe_c X b) (pe_c X e) hs).run pins s σ H _ I (cE.mono (hv0.c r (ne_of_bind n) (WS.ex w r)) fun v H1 ⟨d, ps1, e1, x1, p1, q1⟩ => ⟨_, h2, ?_⟩)
  rw [bind_ok e1] at n w ⊢
  have r1 := r.mono x1 p1
  refine cE.mono (hk.c r1 (ne_of_bind n) (WS.ex w r1)) fun y H2 ⟨k, ps2, e2, x2, p2, q2⟩ => ?_
  rw [bind_ok e2] at n w ⊢
  obtain ⟨k', hk', he'⟩ := key_und n
  rw [he'] at n ⊢
  obtain ⟨hc, he⟩ := ifF_und n
  have hvs2 : H2 (own i) = some (.dK vs) := (x1.trans x2) _ _ hvs h5
  have ey := keyOf_rep q2.full hk'
  refine ⟨own i, _, rfl, .inl ⟨vs, k', hvs2, ey, ?_, rfl⟩, ?_⟩
  · rw [t1.length]; exact Nat.lt_of_lt_of_le (Nat.lt_succ_self _) (lenC_ok hc)
  · exact ⟨_, ps2, own, he, (r1.mono x2 p2).mut hm ⟨_, rfl, (t1.mono ((x1.trans x2).hid Xs.pl)).put k' (Rep.mono (x2.hid Xs.pl) q1)⟩, .refl⟩
/-- self.f = v, the object lent or of its own -/
def insAt (C : Addr) (ρ : Rho) (i : Nat) : R (List (Str × D)) := match ρ[i]?.join with
  | some (.ins C' fs) => if C' = C then pure fs else R.und
  | _ => R.und
theorem insAt_ne {C : Addr} {ρ : Rho} {i : Nat} {ps : Ps} (n : insAt C ρ i ps ≠ .und) : ∃ fs, ρ[i]? = some (some (.ins C fs)) ∧ insAt C ρ i ps = .ok fs ps := by
  unfold insAt at n ⊢
  cases h : ρ[i]?.join with
  | none => rw [h] at n; exact (n rfl).elim
  | some d =>
    cases d with
    | ins C' fs =>
      rw [h] at n
      by_cases e : C' = C
      · subst e; exact ⟨fs, join_some h, by simp; rfl⟩
      · simp only [if_neg e] at n; exact (n rfl).elim
    | _ => rw [h] at n; exact (n rfl).elim
def setFl (nm : Str) (d : D) : List (Str × D) → List (Str × D)
  | [] => [(nm, d)]
  | (g, x) :: r => if g = nm then (g, d) :: r else (g, x) :: setFl nm d r
theorem RepF.put {pl : Pl} {K : PySem.W.Frag} {H : Hp} {nm : Str} {d : D} {v : V} (hd : Rep pl K H d v) : ∀ {fs : List (Str × D)} {vs : List (Str × V)}, RepF pl K H fs vs → RepF pl K H (setFl nm d fs) (putF nm v vs)
  | [], _, h => by
    unfold RepF at h; rw [h]
    show RepF pl K H [(nm, d)] [(nm, v)]
    unfold RepF
    exact ⟨v, [], rfl, hd, by unfold RepF; rfl⟩
  | (g, x) :: r, _, h => by
    unfold RepF at h
    obtain ⟨v', t, rfl, h2, h3⟩ := h
    unfold setFl putF
    by_cases e : g = nm
    · rw [if_pos e, if_pos e]; unfold RepF; exact ⟨v, t, rfl, hd, h3⟩
    · rw [if_neg e, if_neg e]; unfold RepF; exact ⟨v', _, rfl, h2, RepF.put hd h3⟩
theorem RepF.length {pl : Pl} {K : PySem.W.Frag} {H : Hp} : ∀ {fs : List (Str × D)} {vs : List (Str × V)}, RepF pl K H fs vs → vs.length = fs.length
  | [], _, h => by unfold RepF at h; rw [h]; rfl
  | (g, x) :: r, _, h => by
    unfold RepF at h
    obtain ⟨v', t, rfl, h2, h3⟩ := h
    rw [List.length_cons, List.length_cons, RepF.length h3]
def fsF (C : Addr) (i : Nat) (nm : Str) (f : FE) : SF := fun ρ => do
  let d ← f ρ
  let fs ← insAt C ρ i
  if decide (fs.length < 900) = true then pure (.nx (ρ.set i (some (.ins C (setFl nm d fs))))) else R.und
theorem ds_fld {C : Addr} {i : Nat} {x nm : Str} {px p2 : Pos} (hv0 : Dx .cl X W m e f) (c : Cls X.K C) (na : NoAttr X.K C nm) (hN : X.N[i]? = some x) (hv : Vis X.env.scope x) (hm : m[i]? = some .ow ∨ m[i]? = some .io)
    (hd : (x == ("__debug__" : Str)) = false := by decide) (hcd : (x == ("__classdict__" : Str)) = false := by decide) (hs : swapsWith e (some (.Attribute (.Name x px) nm p2)) pos.line X.env = pure false := by rfl) :
    Ds X W J m m (.Assign [.Attribute (.Name x px) nm p2] e pos) (fsF C i nm f) := by
  refine ⟨fun g own pins s σ ρ H ps I r hx n w => ?_⟩
  obtain ⟨d0, h1, h2, h3, h4, h5⟩ := r.ow i hm
  refine (ps_fld (pe_var hN hv hd hcd) (pe_c X e) hs).run pins s σ H _ I (cE.mono (hv0.c r (ne_of_bind n) (WS.ex w r)) fun v H1 ⟨d, ps1, e1, x1, p1, q1⟩ => ⟨_, h2, ?_⟩)
  have e2 : fsF C i nm f ρ ps = (insAt C ρ i >>= fun fs => if decide (fs.length < 900) = true then (pure (.nx (ρ.set i (some (.ins C (setFl nm d fs))))) : R Fl) else R.und) ps1 := bind_ok e1
  rw [e2] at n ⊢
  obtain ⟨fs, hf, hf2⟩ := insAt_ne (ne_of_bind n)
  rw [bind_ok hf2] at n ⊢
  obtain ⟨hc, he⟩ := ifF_und n
  rw [hf] at h1
  cases h1
  obtain ⟨dx, vs, hvs, t1⟩ := h3
  have hvs1 := x1 _ _ hvs h5
  refine ⟨own i, C, dx, vs, rfl, hvs1, c, na, ?_, ?_⟩
  · rw [t1.length]; have := of_decide_eq_true hc; omega
  · exact ⟨_, ps1, own, he, (r.mono x1 p1).mut hm ⟨dx, _, rfl, (t1.mono (x1.hid Xs.pl)).put q1⟩, .refl⟩

/-! ### return, if, while -/
def reF (f : FE) : SF := fun ρ => do let d ← f ρ; pure (.rt d ρ)
theorem ds_ret (h : Dx .cl X W m e f) (hl : leM m J.mr = true := by rfl) (hf : J.fr = false := by rfl) : Ds X W J m m' (.Return (some e) pos) (reF f) := by
  refine ⟨fun g own pins s σ ρ H ps I r hx n w => ?_⟩
  refine (ps_ret (pe_c X e)).run pins s σ H _ I (cE.mono (h.c r (ne_of_bind n) (WS.ex w r)) fun v H' ⟨d, ps', e1, x1, p1, q1⟩ => ?_)
  have r1 := r.mono x1 p1
  refine ⟨d, ρ, ps', own, σ, bind_ok e1, r1.weak hl, .refl, ?_⟩
  unfold RtQ; rw [hf]
  refine Rep.mono (hid_sub fun a z => ?_) q1
  rcases z with z | z | ⟨i, z, q⟩
  · exact .inl z
  · exact .inr (.inl z)
  · refine .inr (.inr ⟨i, ?_, q⟩)
    rcases z with z | z
    · exact .inl (leM_at hl i _ z (by decide))
    · exact .inr (leM_at hl i _ z (by decide))
def nonF : FE := fun _ => pure .non
theorem ds_retN (hl : leM m J.mr = true := by rfl) (hf : J.fr = false := by rfl) : Ds X W J m m' (.Return none pos) (reF nonF) := by
  refine ⟨fun g own pins s σ ρ H ps I r hx n w => ?_⟩
  exact ps_retN.run pins s σ H _ I ⟨.non, ρ, ps, own, σ, rfl, r.weak hl, .refl, by unfold RtQ; rw [hf]; show Rep _ _ _ _ _; unfold Rep; rfl⟩
theorem xs_weak {m m' : List Md} {own : Nat → Addr} {g : G} (hl : leM m m' = true) : ∀ a, Xs m' own g a → Xs m own g a := fun a z => by
  rcases z with z | z | ⟨i, z, q⟩
  · exact .inl z
  · exact .inr (.inl z)
  · refine .inr (.inr ⟨i, ?_, q⟩)
    rcases z with z | z
    · exact .inl (leM_at hl i _ z (by decide))
    · exact .inr (leM_at hl i _ z (by decide))
/-- a new object is returned -/
theorem ds_retF (h : Dx .fr X W m e f) (hl : leM m J.mr = true := by rfl) (hf : J.fr = true := by rfl) : Ds X W J m m' (.Return (some e) pos) (reF f) := by
  refine ⟨fun g own pins s σ ρ H ps I r hx n w => ?_⟩
  refine (ps_ret (pe_c X e)).run pins s σ H _ I (cE.mono (h.c r (ne_of_bind n) (WS.ex w r)) fun v H' ⟨d, ps', e1, x1, p1, p, ev, hn, t⟩ => ?_)
  refine ⟨d, ρ, ps', own, σ, bind_ok e1, (r.mono x1 p1).weak hl, .refl, ?_⟩
  unfold RtQ; rw [hf]
  have np : ¬ plS g.pl p := fun z => r.pool.there z hn
  refine ⟨p, ev, ?_, np, t.mono (hid_sub fun a z => z.imp (xs_weak hl a) id)⟩
  cases z : g.B p with
  | none => rfl
  | some o => rw [r.base p o z np] at hn; cases hn
/-- an object of its own is returned -/
theorem ds_retO {i : Nat} {x : Str} {px : Pos} (hN : X.N[i]? = some x) (hv : Vis X.env.scope x) (hm : m[i]? = some .ow) (hd : (x == ("__debug__" : Str)) = false := by decide) (hcd : (x == ("__classdict__" : Str)) = false := by decide) (hl : leM m J.mr = true := by rfl) (hf : J.fr = true := by rfl) : Ds X W J m m' (.Return (some (.Name x px)) pos) (reF (vF i)) := by
  refine ⟨fun g own pins s σ ρ H ps I r hx n w => ?_⟩
  obtain ⟨d0, e0, e1⟩ := ofO_ne (show vF i ρ ps ≠ .und from ne_of_bind n)
  obtain ⟨d, h1, h2, t, h4, h5⟩ := r.ow i (.inl hm)
  rw [join_some e0] at h1
  cases h1
  refine (ps_ret (pe_var hN hv hd hcd)).run pins s σ H _ I ⟨_, h2, d0, ρ, ps, own, σ, bind_ok e1, r.weak hl, .refl, ?_⟩
  unfold RtQ; rw [hf]
  refine ⟨own i, rfl, h4, h5, t.mono (hid_sub fun a z => ?_)⟩
  rcases z with z | z
  · exact xs_weak hl a z
  · exact .inr (.inr ⟨i, .inl hm, z.symm⟩)
def ifF (t : FT) (g1 g2 : SF) : SF := fun ρ => do let b ← t ρ; if b = true then g1 ρ else g2 ρ
theorem ds_if (h : Tx X W m c t) (h1 : Dss X W J m m' sts g1) (h2 : Dss X W J m m' sts2 g2) : Ds X W J m m' (.If c sts sts2 pos) (ifF t g1 g2) := by
  refine ⟨fun g own pins s σ ρ H ps I r hx n w => ?_⟩
  refine wpAny_If (thn (h.run g own pins s σ ρ H ps I r (ne_of_bind n) (WS.ex w r)) fun d s1 ⟨H1, I1, ps1, e1, x1, p1⟩ => ?_)
  have e2 : ifF t g1 g2 ρ ps = (if d = true then g1 ρ else g2 ρ) ps1 := bind_ok e1
  rw [e2] at n w ⊢
  cases d with
  | true => exact h1.run g own pins s1 σ ρ H1 ps1 I1 (r.mono x1 p1) hx n w
  | false => exact h2.run g own pins s1 σ ρ H1 ps1 I1 (r.mono x1 p1) hx n w
theorem ds_pass : Ds X W J m m (.Pass pos) skF := ⟨fun g own pins s σ ρ H ps I r hx n w => ps_pass.run pins s σ H _ I ⟨ρ, ps, own, rfl, r, .refl⟩⟩
def bkF : SF := fun ρ => pure (.bk ρ)
def ctF : SF := fun ρ => pure (.ct ρ)
theorem ds_brk (hl : leM m J.mb = true := by rfl) : Ds X W J m m' (.Break pos) bkF := ⟨fun g own pins s σ ρ H ps I r hx n w => ps_break.run pins s σ H _ I ⟨ρ, ps, own, rfl, r.weak hl, .refl⟩⟩
theorem ds_cnt (hl : leM m J.mb = true := by rfl) : Ds X W J m m' (.Continue pos) ctF := ⟨fun g own pins s σ ρ H ps I r hx n w => ps_continue.run pins s σ H _ I ⟨ρ, ps, own, rfl, r.weak hl, .refl⟩⟩
/-- code that is never come to (the function is nowhere defined there) -/
def neF' : SF := fun _ => R.und
theorem ds_never : Ds X W J m m' st neF' := ⟨fun g own pins s σ ρ H ps I r hx n w => (n rfl).elim⟩
theorem dss_never : Dss X W J m m' sts neF' := ⟨fun g own pins s σ ρ H ps I r hx n w => (n rfl).elim⟩
end
end DL
set_option Elab.async false
set_option linter.all false
set_option maxRecDepth 100000
set_option maxHeartbeats 2000000
/-! D15: while; targets; for over lists and tuples; defs. -/
namespace DL
open PySem PySem.Spec PyProof.Rows L2
section
variable {X : Cx} {W : WX} {J : JP} {m m' m2 mT : List Md} {e a b c o tg : Expr} {f f1 f2 : FE} {t : FT} {st : Stmt} {sts sts2 : List Stmt} {g1 g2 : SF} {pos p1' : Pos} {fs : FA}
/-- what follows a turn -/
def lpK (k : SF) : Fl → R Fl
  | .nx ρ => k ρ
  | .ct ρ => k ρ
  | .bk ρ => pure (.nx ρ)
  | .rt d ρ => pure (.rt d ρ)
def whN (t : FT) (body : SF) : Nat → SF
  | 0 => fun _ => R.und
  | n + 1 => fun ρ => do let b ← t ρ; if b = true then (do let fl ← body ρ; lpK (whN t body n) fl) else pure (.nx ρ)
def fuel : Nat := 1000000
def whF (t : FT) (body : SF) : SF := whN t body fuel
def cSs (X : Cx) (sts : List Stmt) : TS := fun D σ H => ∀ pins s, Inv X pins σ H s → wpAny (model X.prog X.w) X.A (execs sts X.env) (SP X pins D) X.xe s
theorem pss_c (X : Cx) (sts : List Stmt) : PSs X sts (cSs X sts) := ⟨fun pins s σ H D I h => h pins s I⟩
/-- within a loop -/
def JP.lp (J : JP) (m : List Md) : JP := { J with mb := m }
theorem ds_while (hp : PassesOwn (model X.prog X.w) X.A X.env X.xe) (h : Tx X W m c t) (hb : Dss X W (J.lp m) m m sts g1) : Ds X W J m m (.While c sts [] pos) (whF t g1) := by
  refine ⟨fun g own pins s σ ρ H ps I r hx n w => ?_⟩
  refine (ps_while hp (pt_c X c) (pss_c X sts)).run pins s σ H _ I ⟨fun k σ1 H1 => ∃ ρ1 ps1 own1, Rs X.K g m own1 σ1 ρ1 H1 ps1 ∧ whF t g1 ρ ps = whN t g1 k ρ1 ps1 ∧ OwnK m own own1, ⟨fuel, ρ, ps, own, r, rfl, .refl⟩, ?_⟩
  rintro k σ1 H1 ⟨ρ1, ps1, own1, r1, e1, k1⟩
  have n1 := n
  have w1 := w
  rw [e1] at n1 w1
  cases k with
  | zero => exact (n1 rfl).elim
  | succ k =>
    refine cT.mono (h.can r1 (ne_of_bind n1) (WS.ex w1 r1)) fun bb H2 ⟨ps2, e2, x2, p2⟩ => ?_
    have e3 : whN t g1 (k + 1) ρ1 ps1 = (if bb = true then (do let fl ← g1 ρ1; lpK (whN t g1 k) fl) else pure (.nx ρ1)) ps2 := bind_ok e2
    rw [e3] at n1 w1 e1
    have r2 := r1.mono x2 p2
    cases bb with
    | false => exact ⟨ρ1, ps2, own1, e1, r2, k1⟩
    | true =>
      rw [if_pos rfl] at n1 w1 e1 ⊢
      refine ⟨fun σ' H' => ∃ ρ' ps' own', Rs X.K g m own' σ' ρ' H' ps' ∧ whF t g1 ρ ps = whN t g1 k ρ' ps' ∧ OwnK m own own', fun σ' H' q => ⟨k, Nat.lt_succ_self k, q⟩, fun pins2 s2 I2 => ?_⟩
      have w2 : WS W X.K g (g1 ρ1 ps2) := fun x ps' dx H' σ' e => w1 x ps' dx H' σ' (bind_exc e)
      refine thn (hb.run g own1 pins2 s2 σ1 ρ1 H2 ps2 I2 r2 hx (ne_of_bind n1) w2) fun fl s3 q => spI' q (fun σ' H' ⟨ρ', ps', own', a1, a2, a3⟩ => ⟨ρ', ps', own', a2, ?_, k1.trans a3 fun _ z => z⟩) (fun σ' H' ⟨ρ', ps', own', a1, a2, a3⟩ => ⟨ρ', ps', own', ?_, a2, k1.trans a3 fun _ z => z⟩)
        (fun σ' H' ⟨ρ', ps', own', a1, a2, a3⟩ => ⟨ρ', ps', own', a2, ?_, k1.trans a3 fun _ z => z⟩) (fun v H' ⟨d, ρ', ps', own', σ', a1, a2, a3, a4⟩ => ⟨d, ρ', ps', own', σ', ?_, a2, k1.trans a3 fun _ z => z, a4⟩)
      · rw [e1]; exact bind_ok a1
      · rw [e1]; exact bind_ok a1
      · rw [e1]; exact bind_ok a1
      · rw [e1]; exact bind_ok a1

/-! ### targets -/
/-- only these slots are stored -/
def SameBut (is : List Nat) (σ σ' : L2.St) : Prop := σ'.length = σ.length ∧ ∀ j, j ∉ is → σ'[j]? = σ[j]?
theorem SameBut.set {i : Nat} {σ : L2.St} {v : Option V} : SameBut [i] σ (σ.set i v) := ⟨List.length_set .., fun j h => List.getElem?_set_ne (fun z => h (by rw [z]; exact List.mem_cons_self ..))⟩
def TQ (X : Cx) (mT : List Md) (g : G) (own : Nat → Addr) (pins : List (Addr × Obj)) (σ : L2.St) (is : List Nat) (H : Hp) (ps : Ps) (r : Res Rho) (s' : Shared) : Prop := ∃ ρ' σ', r = .ok ρ' ps ∧ Inv X pins σ' H s' ∧ Rs X.K g mT own σ' ρ' H ps ∧ SameBut is σ σ'
structure TgD (X : Cx) (J : JP) (m mT : List Md) (tg : Expr) (is : List Nat) (F : D → Rho → R Rho) : Prop where
  run : ∀ (g : G) (own : Nat → Addr) (pins : List (Addr × Obj)) (s : Shared) (σ : L2.St) (ρ : Rho) (H : Hp) (ps : Ps) (d : D) (v : V) (u : Value), Inv X pins σ H s → Rs X.K g m own σ ρ H ps → (∀ p ∈ g.sx, p.1 ∈ J.px) → Rep g.pl X.K (hid (Xs m own g) H) d v → RelV v u → F d ρ ps ≠ .und →
    wpAny (model X.prog X.w) X.A (assign tg X.env u) (fun _ s' => TQ X mT g own pins σ is H ps (F d ρ ps) s') X.xe s
  io : ∀ (i : Nat), m[i]? = some .io → mT[i]? = some .io
def nmF (i : Nat) : D → Rho → R Rho := fun d ρ => pure (ρ.set i (some d))
theorem set_io {m : List Md} {i : Nat} (hio : (m[i]? == some .io) = false) : ∀ (j : Nat), m[j]? = some .io → (m.set i .sh)[j]? = some .io := fun j q => by
  rw [List.getElem?_set_ne (fun z => by subst z; rw [q] at hio; cases hio)]; exact q
theorem tg_name {i : Nat} {x : Str} {py : Pos} (hN : X.N.Nodup) (hi : X.N[i]? = some x) (hl : Loc X.env.scope x) (hio : (m[i]? == some .io) = false := by rfl) (hp : J.px.contains i = false := by rfl) (hf : X.fn x = true ∨ X.env.scope.names.lookup x = some .local := by first | exact .inl rfl | exact .inr rfl) : TgD X J m (m.set i .sh) (.Name x py) [i] (nmF i) := by
  refine ⟨fun g own pins s σ ρ H ps d v u I r hx hd rv n => ?_, set_io hio⟩
  exact wpAny_assign_Name (store_ok I hN hi hl rv (fun s' I' => ⟨_, _, rfl, I', r.store hd (sx_ne hx hp) (by rw [I.len]; exact (List.getElem?_eq_some_iff.mp hi).1), .set⟩) hf)
/-- names, one after another -/
def nmsF : List Nat → List D → Rho → R Rho
  | [], [], ρ => pure ρ
  | i :: is, d :: ds, ρ => nmsF is ds (ρ.set i (some d))
  | _, _, _ => R.und
theorem nmsF_len : ∀ {is : List Nat} {ds : List D} {ρ : Rho} {ps : Ps}, nmsF is ds ρ ps ≠ .und → ds.length = is.length
  | [], [], _, _, _ => rfl
  | i :: is, d :: ds, ρ, ps, n => by rw [List.length_cons, List.length_cons, nmsF_len (show nmsF is ds (ρ.set i (some d)) ps ≠ .und from n)]
  | [], _ :: _, _, _, n => (n rfl).elim
  | _ :: _, [], _, _, n => (n rfl).elim
structure TgsD (X : Cx) (J : JP) (m mT : List Md) (tgs : List Expr) (is : List Nat) (F : List D → Rho → R Rho) : Prop where
  run : ∀ (g : G) (own : Nat → Addr) (pins : List (Addr × Obj)) (s : Shared) (σ : L2.St) (ρ : Rho) (H : Hp) (ps : Ps) (ds : List D) (vs : List V) (us : List Value), Inv X pins σ H s → Rs X.K g m own σ ρ H ps → (∀ p ∈ g.sx, p.1 ∈ J.px) → Reps g.pl X.K (hid (Xs m own g) H) ds vs → Vals vs us → F ds ρ ps ≠ .und →
    wpAny (model X.prog X.w) X.A (assignInOrder ((assignEach tgs X.env).map (·.2)) us) (fun _ s' => TQ X mT g own pins σ is H ps (F ds ρ ps) s') X.xe s
  io : ∀ (i : Nat), m[i]? = some .io → mT[i]? = some .io
theorem tgs_nil : TgsD X J m m [] [] (nmsF []) := by
  refine ⟨fun g own pins s σ ρ H ps ds vs us I r hx hd rv n => ?_, fun _ z => z⟩
  cases ds with
  | nil =>
    rw [hd.inv_nil] at rv
    cases rv
    exact assignInOrder_nil ⟨ρ, σ, rfl, I, r, rfl, fun _ _ => rfl⟩
  | cons _ _ => exact (n rfl).elim
theorem Xs.set {i : Nat} {g : G} {own : Nat → Addr} {H : Hp} : Ex (hid (Xs m own g) H) (hid (Xs (m.set i .sh) own g) H) := hid_sub fun a q => by
  rcases q with q | q | ⟨j, q, e⟩
  · exact .inl q
  · exact .inr (.inl q)
  · exact .inr (.inr ⟨j, (set_ow q ⟨by decide, by decide⟩).2, e⟩)
theorem tgs_cons {i : Nat} {is : List Nat} {x : Str} {py : Pos} {tgs : List Expr} (hN : X.N.Nodup) (hi : X.N[i]? = some x) (hl : Loc X.env.scope x) (ht : TgsD X J (m.set i .sh) mT tgs is (nmsF is)) (hio : (m[i]? == some .io) = false := by rfl) (hp : J.px.contains i = false := by rfl) (hf : X.fn x = true ∨ X.env.scope.names.lookup x = some .local := by first | exact .inl rfl | exact .inr rfl)
    (hs : (assignEach (.Name x py :: tgs) X.env).map (·.2) = assign (.Name x py) X.env :: (assignEach tgs X.env).map (·.2) := by rfl) : TgsD X J m mT (.Name x py :: tgs) (i :: is) (nmsF (i :: is)) := by
  refine ⟨fun g own pins s σ ρ H ps ds vs us I r hx hd rv n => ?_, fun j z => ht.io j (set_io hio j z)⟩
  cases ds with
  | nil => exact (n rfl).elim
  | cons d ds =>
    obtain ⟨v, vs', rfl, h2, h3⟩ := hd.inv_cons
    cases rv with
    | cons r1 r2 =>
      rw [hs]
      refine assignInOrder_cons (wpAny_assign_Name (store_ok I hN hi hl r1 (fun s1 I1 => ?_) hf))
      refine thn (ht.run g own pins s1 _ _ H ps ds vs' _ I1 (r.store h2 (sx_ne hx hp) (by rw [I.len]; exact (List.getElem?_eq_some_iff.mp hi).1)) hx (h3.mono Xs.set) r2 n) fun _ s2 ⟨ρ', σ', a1, a2, a3, a4⟩ => ⟨ρ', σ', a1, a2, a3, by rw [a4.1, List.length_set], fun j hj => ?_⟩
      rw [a4.2 j (fun z => hj (List.mem_cons_of_mem _ z)), List.getElem?_set_ne (fun z => hj (by rw [z]; exact List.mem_cons_self ..))]
/-- (a, b, ..) = a tuple -/
def tpF (is : List Nat) : D → Rho → R Rho := fun d ρ => match d with
  | .tup ds => nmsF is ds ρ
  | _ => R.und
theorem tg_tup {is : List Nat} {tgs : List Expr} {k : Nat} {py : Pos} (hc : X.calm = true) (h : TgsD X J m mT tgs is (nmsF is)) (hn : (assignEach tgs X.env).length = is.length := by rfl) (hst : (assignEach tgs X.env).findIdx? (·.1) = none := by rfl) : TgD X J m mT (.Tuple tgs k py) is (tpF is) := by
  refine ⟨fun g own pins s σ ρ H ps d v u I r hx hd rv n => ?_, h.io⟩
  cases d with
  | tup ds =>
    unfold Rep at hd
    obtain ⟨a, xs, rfl, hq, t1⟩ := hd
    have hq := hid_ex.st hq
    obtain rfl : u = Value.ref a := rv
    obtain ⟨its, rv, ht, hz⟩ := I.tuple hq
    have hl := nmsF_len (show nmsF is ds ρ ps ≠ .und from n)
    refine assign_Tuple_tuple (I.ok.hd hc) ht (by simp [hn, ← hl, ← t1.length, rv.length]) hst fun h' hx' => ?_
    have I1 : Inv X pins σ H { s with heap := h' } := I.kept (t' := s.toks) fun b o e => hx' b o (Nat.ne_of_lt (Heap.lt_size e)) e
    exact h.run g own pins _ σ ρ H ps ds xs _ I1 r hx t1 (by simpa using rv) n
  | _ => exact (n rfl).elim
/-- a, b = e -/
def asF (f : FE) (F : D → Rho → R Rho) : SF := fun ρ => do let d ← f ρ; let ρ' ← F d ρ; pure (.nx ρ')
theorem ds_asg {F : D → Rho → R Rho} (h : Dx .cl X W m e f) {is : List Nat} (ht : TgD X J m mT tg is F) (hs : swapsWithSole [tg] e pos.line X.env = pure false := by rfl) (hw : swappedStores [tg] e X.env = pure none := by rfl)
    (h1 : (assignEach [tg] X.env).map (·.2) = [assign tg X.env] := by rfl) : Ds X W J m mT (.Assign [tg] e pos) (asF f F) := by
  refine ⟨fun g own pins s σ ρ H ps I r hx n w => ?_⟩
  refine wpAny_Assign_stores (thn (h.run g own pins s σ ρ H ps I r (ne_of_bind n) (WS.ex w r)) fun v s1 ⟨x, H1, I1, rv, d, ps1, e1, x1, p1, q1⟩ => ?_) hs hw
  rw [h1]
  have e2 : asF f F ρ ps = (F d ρ >>= fun ρ' => (pure (.nx ρ') : R Fl)) ps1 := bind_ok e1
  rw [e2] at n ⊢
  refine thn (ht.run g own pins s1 σ ρ H1 ps1 d x v I1 (r.mono x1 p1) hx q1 rv (ne_of_bind n)) fun _ s2 ⟨ρ', σ', e3, I2, r2, _⟩ => ?_
  exact ⟨σ', H1, I2, ρ', ps1, own, bind_ok e3, r2, .refl⟩
end
end DL
set_option Elab.async false
set_option linter.all false
set_option maxRecDepth 100000
set_option maxHeartbeats 2000000
/-! D16: what is walked; for. -/
namespace DL
open PySem PySem.Spec PyProof.Rows L2
/-- what a turn yields: a value, or a new tuple of values -/
inductive Item where
  | one (d : D) (v : V) | tup (ds : List D) (vs : List V)
def Item.d : Item → D
  | .one d _ => d
  | .tup ds _ => .tup ds
def Item.ps : Item → List (D × V)
  | .one d v => [(d, v)]
  | .tup ds vs => ds.zip vs
def Item.R (pl : Pl) (K : PySem.W.Frag) (H : Hp) : Item → Prop
  | .one d v => Rep pl K H d v
  | .tup ds vs => Reps pl K H ds vs
def Item.Y (it : Item) (H : Hp) (x : V) (H' : Hp) : Prop := match it with
  | .one _ v => x = v ∧ H' = H
  | .tup _ vs => ∃ T, x = .ref T ∧ H T = none ∧ H' = upd H T (.tup vs)
def KeepH (ks : List (Addr × HO)) (H : Hp) : Prop := ∀ p ∈ ks, H p.1 = some p.2
structure WalkOk (J : It) (ks : List (Addr × HO)) (its : List Item) : Prop where
  go : ∀ i H, i < its.length → KeepH ks H → J.go i H
  stop : ∀ H, KeepH ks H → J.stop its.length H
  yld : ∀ i x H H' it, its[i]? = some it → KeepH ks H → J.yld i H x H' → it.Y H x H'
  ne : ∀ p ∈ ks, ∀ φ, p.2 ≠ .ext φ
def UOw (m : List Md) (own : Nat → Addr) : Addr → Prop := fun a => ∃ i, (m[i]? = some .ow ∨ m[i]? = some .io) ∧ own i = a
def QI (m : List Md) (own : Nat → Addr) (pl : Pl) (K : PySem.W.Frag) (O : Addr → Prop) (H : Hp) (r : Res (List D)) : It → Hp → Prop := fun J H1 =>
  ∃ its ps1 ks, r = .ok (its.map Item.d) ps1 ∧ Exo (plS pl) H H1 ∧ PoolAt pl H1 ps1 ∧ WalkOk J ks its ∧ (∀ p ∈ ks, H1 p.1 = some p.2 ∧ ¬ plS pl p.1 ∧ ¬ UOw m own p.1) ∧ ∀ it ∈ its, it.R pl K (hid O H1)
def cI (X : Cx) (tg iter : Expr) : TI := fun σ H R => ∀ pins s, Inv X pins σ H s → wpAny (model X.prog X.w) X.A (eval iter X.env) (fun v s1 => wpAny (model X.prog X.w) X.A (pyIter v) (PIE X pins σ tg R) X.xe s1) X.xe s
theorem pi_c (X : Cx) (tg iter : Expr) : PI X tg iter (cI X tg iter) := ⟨fun pins s σ H R I h => h pins s I⟩
structure DI (X : Cx) (W : WX) (m : List Md) (tg iter : Expr) (f : FA) : Prop where
  run : ∀ (g : G) (own : Nat → Addr) (pins : List (Addr × Obj)) (s : Shared) (σ : L2.St) (ρ : Rho) (H : Hp) (ps : Ps), Inv X pins σ H s → Rs X.K g m own σ ρ H ps → f ρ ps ≠ .und → WOk W g.pl X.K (Xs m own g) σ H (f ρ ps) →
    wpAny (model X.prog X.w) X.A (eval iter X.env) (fun v s1 => wpAny (model X.prog X.w) X.A (pyIter v) (PIE X pins σ tg (QI m own g.pl X.K (Xs m own g) H (f ρ ps))) X.xe s1) X.xe s
theorem DI.can {X : Cx} {W : WX} {m : List Md} {tg iter : Expr} {f : FA} (h : DI X W m tg iter f) {g : G} {own : Nat → Addr} {σ : L2.St} {ρ : Rho} {H : Hp} {ps : Ps} (r : Rs X.K g m own σ ρ H ps) (n : f ρ ps ≠ .und) (w : WOk W g.pl X.K (Xs m own g) σ H (f ρ ps)) :
    cI X tg iter σ H (QI m own g.pl X.K (Xs m own g) H (f ρ ps)) := fun pins s I => h.run g own pins s σ ρ H ps I r n w

/-! ### the ghosts of a walk -/
def overB (B : Hp) (ks : List (Addr × HO)) : Hp := fun b => match ks.find? (fun p => decide (p.1 = b)) with
  | some p => some p.2
  | none => B b
theorem overB_in {B : Hp} {ks : List (Addr × HO)} {H : Hp} {p : Addr × HO} (hk : ∀ p ∈ ks, H p.1 = some p.2) (hp : p ∈ ks) : overB B ks p.1 = some p.2 := by
  unfold overB
  cases h : ks.find? (fun q => decide (q.1 = p.1)) with
  | none =>
    have := List.find?_eq_none.mp h p hp
    simp at this
  | some q =>
    have h1 := List.find?_some h
    have e : q.1 = p.1 := of_decide_eq_true h1
    have h2 := hk q (List.mem_of_find?_eq_some h)
    rw [e, hk p hp] at h2
    show some q.2 = some p.2
    exact h2.symm
theorem overB_cases {B : Hp} {ks : List (Addr × HO)} {b : Addr} {o : HO} (h : overB B ks b = some o) : (b, o) ∈ ks ∨ B b = some o := by
  unfold overB at h
  cases q : ks.find? (fun p => decide (p.1 = b)) with
  | none => rw [q] at h; exact .inr h
  | some p =>
    rw [q] at h
    have q1 := List.find?_some q
    have e : p.1 = b := of_decide_eq_true q1
    have h : p.2 = o := Option.some.inj h
    left
    rw [← e, ← h]
    exact List.mem_of_find?_eq_some q
def G.wk (g : G) (ks : List (Addr × HO)) (its : List Item) : G := { g with B := overB g.B ks, ex := its.flatMap Item.ps ++ g.ex }
section
variable {K : PySem.W.Frag} {g : G} {m m' : List Md} {own : Nat → Addr} {σ : L2.St} {ρ : Rho} {H : Hp} {ps : Ps} {ks : List (Addr × HO)} {its : List Item}
theorem zip_reps {pl : Pl} {H : Hp} : ∀ {ds : List D} {vs : List V}, Reps pl K H ds vs → ∀ p ∈ ds.zip vs, Rep pl K H p.1 p.2
  | [], _, _, p, hp => by simp at hp
  | d :: ds, _, h, p, hp => by
    obtain ⟨v, r, rfl, h2, h3⟩ := h.inv_cons
    rw [List.zip_cons_cons] at hp
    rcases List.mem_cons.mp hp with rfl | hp
    · exact h2
    · exact zip_reps h3 p hp
theorem reps_zip {pl : Pl} {H : Hp} : ∀ {ds : List D} {vs : List V}, vs.length = ds.length → (∀ p ∈ ds.zip vs, Rep pl K H p.1 p.2) → Reps pl K H ds vs
  | [], [], _, _ => Reps.nil
  | d :: ds, v :: vs, hl, h => Reps.cons (h (d, v) (List.mem_cons_self ..)) (reps_zip (by simpa using hl) fun p hp => h p (List.mem_cons_of_mem _ hp))
  | [], _ :: _, hl, _ => by simp at hl
  | _ :: _, [], hl, _ => by simp at hl
theorem Rs.wk (r : Rs K g m own σ ρ H ps) (hk : ∀ p ∈ ks, H p.1 = some p.2 ∧ ¬ plS g.pl p.1 ∧ ¬ UOw m own p.1) (hi : ∀ it ∈ its, it.R g.pl K (hid (Xs m own g) H)) : Rs K (g.wk ks its) m own σ ρ H ps :=
  { r with
    ow := fun i q => by
      obtain ⟨d, h1, h2, h3, h4, h5⟩ := r.ow i q
      refine ⟨d, h1, h2, h3, ?_, h5⟩
      show overB g.B ks (own i) = none
      cases hb : overB g.B ks (own i) with
      | none => rfl
      | some o =>
        rcases overB_cases hb with z | z
        · exact ((hk _ z).2.2 ⟨i, q, rfl⟩).elim
        · rw [h4] at z; cases z
    ex := fun p hp => by
      rcases List.mem_append.mp hp with hp | hp
      · obtain ⟨it, h1, h2⟩ := List.mem_flatMap.mp hp
        have := hi it h1
        cases it with
        | one d v =>
          rw [show p = (d, v) from by simpa [Item.ps] using h2]
          exact this
        | tup ds vs => exact zip_reps this p h2
      · exact r.ex p hp
    base := fun a o h n => by
      rcases overB_cases h with z | z
      · exact (hk _ z).1
      · exact r.base a o z n }
theorem Rs.unwk {own' : Nat → Addr} (r : Rs K (g.wk ks its) m own' σ ρ H ps) {H0 : Hp} (hk : ∀ p ∈ ks, H0 p.1 = some p.2 ∧ ¬ plS g.pl p.1) (hB : Exo (plS g.pl) g.B H0) : Rs K g m own' σ ρ H ps :=
  have up : ∀ a o, g.B a = some o → ¬ plS g.pl a → overB g.B ks a = some o := fun a o h n => by
    unfold overB
    cases q : ks.find? (fun p => decide (p.1 = a)) with
    | none => exact h
    | some p =>
      have q1 := List.find?_some q
      have e : p.1 = a := of_decide_eq_true q1
      have h2 := (hk p (List.mem_of_find?_eq_some q)).1
      rw [e, hB a o h n] at h2
      show some p.2 = some o
      exact h2.symm
  { r with
    ow := fun i q => by
      obtain ⟨d, h1, h2, h3, h4, h5⟩ := r.ow i q
      refine ⟨d, h1, h2, h3, ?_, h5⟩
      cases hb : g.B (own' i) with
      | none => rfl
      | some o => rw [show (g.wk ks its).B (own' i) = overB g.B ks (own' i) from rfl, up _ o hb h5] at h4; cases h4
    ex := fun p hp => r.ex p (List.mem_append_right _ hp)
    base := fun a o h n => r.base a o (up a o h n) n }
theorem Rs.keep {own' : Nat → Addr} (r : Rs K (g.wk ks its) m own' σ ρ H ps) {H0 : Hp} (hk : ∀ p ∈ ks, H0 p.1 = some p.2 ∧ ¬ plS g.pl p.1) : KeepH ks H := fun p hp =>
  r.base p.1 p.2 (overB_in (fun q hq => (hk q hq).1) hp) (hk p hp).2
end
section
variable {X : Cx} {W : WX} {J : JP} {m m' m2 mT : List Md} {e a b c o tg iter : Expr} {f f1 f2 : FE} {t : FT} {st : Stmt} {sts sts2 : List Stmt} {g1 g2 : SF} {pos p1' : Pos} {fs : FA} {F : D → Rho → R Rho}
def foN (F : D → Rho → R Rho) (body : SF) : List D → SF
  | [] => fun ρ => pure (.nx ρ)
  | d :: ds => fun ρ => do let ρ1 ← F d ρ; let fl ← body ρ1; lpK (foN F body ds) fl
def foF (fs : FA) (F : D → Rho → R Rho) (body : SF) : SF := fun ρ => do let ds ← fs ρ; foN F body ds ρ
def cG (X : Cx) (tg : Expr) : TG := fun v σ H Q => ∀ pins s u, Inv X pins σ H s → RelV v u → wpAny (model X.prog X.w) X.A (assign tg X.env u) (fun _ s' => ∃ σ' H', Inv X pins σ' H' s' ∧ Q σ' H') X.xe s
theorem pg_c (X : Cx) (tg : Expr) : PG X tg (cG X tg) := ⟨fun pins s σ H v u Q I rv h => h pins s u I rv⟩
theorem WS.wk {K : PySem.W.Frag} {g : G} {ks : List (Addr × HO)} {its : List Item} {r : Res Fl} (w : WS W K g r) {H0 : Hp} (hk : ∀ p ∈ ks, H0 p.1 = some p.2 ∧ ¬ plS g.pl p.1) (hB : Exo (plS g.pl) g.B H0) : WS W K (g.wk ks its) r :=
  fun x ps' dx H' σ' e1 e2 => w x ps' dx H' σ' e1 fun a o h n => e2 a o (by
    show overB g.B ks a = some o
    unfold overB
    cases q : ks.find? (fun p => decide (p.1 = a)) with
    | none => exact h
    | some p =>
      have q1 := List.find?_some q
      have e : p.1 = a := of_decide_eq_true q1
      have h2 := (hk p (List.mem_of_find?_eq_some q)).1
      rw [e, hB a o h n] at h2
      show some p.2 = some o
      exact h2.symm) n
theorem RtQ.unwk {K : PySem.W.Frag} {J : JP} {g : G} {m : List Md} {own : Nat → Addr} {H H0 : Hp} {d : D} {v : V} {ks : List (Addr × HO)} {its : List Item} (h : RtQ K (J.lp m) (g.wk ks its) own H d v) (hk : ∀ p ∈ ks, H0 p.1 = some p.2 ∧ ¬ plS g.pl p.1) (hB : Exo (plS g.pl) g.B H0) : RtQ K J g own H d v := by
  unfold RtQ at h ⊢
  have e : (J.lp m).fr = J.fr := rfl
  rw [e] at h
  cases hf : J.fr with
  | false => rw [hf] at h; exact h
  | true =>
    rw [hf] at h
    obtain ⟨p, e1, e2, e3, e4⟩ := h
    refine ⟨p, e1, ?_, e3, e4⟩
    cases hb : g.B p with
    | none => rfl
    | some o =>
      have e2 : overB g.B ks p = none := e2
      unfold overB at e2
      cases q : ks.find? (fun z => decide (z.1 = p)) with
      | none => rw [q] at e2; rw [hb] at e2; cases e2
      | some z => rw [q] at e2; cases e2
theorem for_core (hp : PassesOwn (model X.prog X.w) X.A X.env X.xe) (hc : X.calm = true) {is : List Nat} (ht : TgD X (J.lp m) m mT tg is F) (hb : Dss X W (J.lp m) mT m sts g1) (hs : ∀ x, foldedSetIterable iter X.env x = pure x)
    {g : G} {own : Nat → Addr} {pins : List (Addr × Obj)} {s : Shared} {σ : L2.St} {ρ : Rho} {H : Hp} {ps : Ps} (I : Inv X pins σ H s) (r : Rs X.K g m own σ ρ H ps) (hx : ∀ p ∈ g.sx, p.1 ∈ J.px) (hcI : cI X tg iter σ H (QI m own g.pl X.K (Xs m own g) H (fs ρ ps)))
    (n : foF fs F g1 ρ ps ≠ .und) (w : WS W X.K g (foF fs F g1 ρ ps)) : wpAny (model X.prog X.w) X.A (exec (.For tg iter sts [] pos) X.env) (SP X pins (DD X J m m g own (foF fs F g1 ρ ps))) X.xe s := by
  refine (ps_for hp hc (pi_c X tg iter) (pg_c X tg) (pss_c X sts) hs).run pins s σ H _ I fun pins0 s0 I0 => ?_
  refine thn (hcI pins0 s0 I0) fun v s1 h1 => thn h1 fun itv s2 h2 => ?_
  obtain ⟨it, fp, tn, JJ, H1, e1, I1, T, st2, f2, its, ps1, ks, e2, x1, p1, wk, hk, hits⟩ := h2
  refine ⟨it, fp, tn, JJ, H1, e1, I1, T, st2, f2, ?_⟩
  have e3 : foF fs F g1 ρ ps = foN F g1 (its.map Item.d) ρ ps1 := bind_ok e2
  have r1 := (r.mono x1 p1).wk hk hits
  have hk' : ∀ p ∈ ks, H1 p.1 = some p.2 ∧ ¬ plS g.pl p.1 := fun p hp => ⟨(hk p hp).1, (hk p hp).2.1⟩
  have hB := r.base.trans x1
  have w' := WS.wk (its := its) w hk' hB
  have unw : ∀ {mm : List Md} {own1 : Nat → Addr} {σ1 : L2.St} {ρ1 : Rho} {H2 : Hp} {ps2 : Ps}, Rs X.K (g.wk ks its) mm own1 σ1 ρ1 H2 ps2 → Rs X.K g mm own1 σ1 ρ1 H2 ps2 := fun q => q.unwk hk' hB
  refine ⟨fun i k σ1 H2 => k = its.length - i ∧ i ≤ its.length ∧ ∃ ρ1 ps2 own1, Rs X.K (g.wk ks its) m own1 σ1 ρ1 H2 ps2 ∧ foF fs F g1 ρ ps = foN F g1 ((its.map Item.d).drop i) ρ1 ps2 ∧ OwnK m own own1, ⟨its.length, by simp, Nat.zero_le _, ρ, ps1, own, r1, e3, .refl⟩, ?_⟩
  rintro i k σ1 H2 ⟨rfl, hil, ρ1, ps2, own1, r2, e4, k1⟩
  have kH := r2.keep hk'
  by_cases hlt : i < its.length
  · right
    refine ⟨wk.go i H2 hlt kH, fun σ' H' => (i + 1 ≤ its.length) ∧ ∃ ρ' ps' own', Rs X.K (g.wk ks its) m own' σ' ρ' H' ps' ∧ foF fs F g1 ρ ps = foN F g1 ((its.map Item.d).drop (i + 1)) ρ' ps' ∧ OwnK m own own', fun σ' H' ⟨q1, q2⟩ => ⟨its.length - (i + 1), by omega, rfl, q1, q2⟩, fun x H' hy => ?_⟩
    have hit := List.getElem?_eq_getElem hlt
    have hY := wk.yld i x H2 H' its[i] hit kH hy
    have hdrop : (its.map Item.d).drop i = its[i].d :: (its.map Item.d).drop (i + 1) := by
      rw [List.drop_eq_getElem_cons (by simpa using hlt)]; simp
    rw [hdrop] at e4
    have e4 : foF fs F g1 ρ ps = (F its[i].d ρ1 >>= fun ρ1 => g1 ρ1 >>= fun fl => lpK (foN F g1 ((its.map Item.d).drop (i + 1))) fl) ps2 := e4
    have n4 := n
    have w4 := w'
    rw [e4] at n4 w4
    -- the turn's value
    have hval : Exo (plS g.pl) H2 H' ∧ PoolAt g.pl H' ps2 ∧ Rep g.pl X.K (hid (Xs m own1 (g.wk ks its)) H') its[i].d x := by
      cases hc' : its[i] with
      | one d v =>
        rw [hc'] at hY
        obtain ⟨rfl, rfl⟩ := hY
        refine ⟨Exo.refl, r2.pool, ?_⟩
        exact r2.ex (d, x) (List.mem_append_left _ (List.mem_flatMap.mpr ⟨its[i], List.getElem_mem hlt, by rw [hc']; exact List.mem_cons_self ..⟩))
      | tup ds vs =>
        rw [hc'] at hY
        obtain ⟨T', rfl, hT, rfl⟩ := hY
        have hl : vs.length = ds.length := by
          have := hits its[i] (List.getElem_mem hlt)
          rw [hc'] at this
          exact Reps.length (show Reps g.pl X.K _ ds vs from this)
        have hr : Reps g.pl X.K (hid (Xs m own1 (g.wk ks its)) H2) ds vs := reps_zip hl fun p hp => r2.ex p (List.mem_append_left _ (List.mem_flatMap.mpr ⟨its[i], List.getElem_mem hlt, by rw [hc']; exact hp⟩))
        refine ⟨Exo.new hT, r2.pool.new hT, ?_⟩
        have np : ¬ Xs m own1 (g.wk ks its) T' := fun z => r2.xT T' z hT
        show Rep _ _ _ (.tup ds) _
        unfold Rep
        refine ⟨T', vs, rfl, .of (by rw [hid_at np]; exact upd_same), hr.mono fun a o q => ?_⟩
        obtain ⟨n1, q⟩ := hid_of q
        rw [hid_at n1, upd_ne (ne_of_none q hT)]
        exact q
    obtain ⟨x2, p2, hrep⟩ := hval
    have r3 := r2.mono x2 p2
    intro pins3 s3 u I3 rv
    refine thn (ht.run (g.wk ks its) own1 pins3 s3 σ1 ρ1 H' ps2 its[i].d x u I3 r3 hx hrep rv (ne_of_bind n4)) fun _ s4 ⟨ρ2, σ2, e5, I4, r4, _⟩ => ⟨σ2, H', I4, fun pins5 s5 I5 => ?_⟩
    rw [bind_ok e5] at e4 n4 w4
    have w5 : WS W X.K (g.wk ks its) (g1 ρ2 ps2) := fun x ps' dx H' σ' e => w4 x ps' dx H' σ' (bind_exc e)
    have kk : ∀ {own'}, OwnK mT own1 own' → OwnK m own own' := fun z i q => (z i (ht.io i q)).trans (k1 i q)
    refine thn (hb.run (g.wk ks its) own1 pins5 s5 σ2 ρ2 H' ps2 I5 r4 hx (ne_of_bind n4) w5) fun fl s6 q => spI' q (fun σ' H' ⟨ρ', ps', own', a1, a2, a3⟩ => ⟨hlt, ρ', ps', own', a2, ?_, kk a3⟩) (fun σ' H' ⟨ρ', ps', own', a1, a2, a3⟩ => ⟨ρ', ps', own', ?_, unw a2, kk a3⟩)
        (fun σ' H' ⟨ρ', ps', own', a1, a2, a3⟩ => ⟨hlt, ρ', ps', own', a2, ?_, kk a3⟩) (fun v H' ⟨d, ρ', ps', own', σ', a1, a2, a3, a4⟩ => ⟨d, ρ', ps', own', σ', ?_, unw a2, kk a3, a4.unwk hk' hB⟩)
    · rw [e4]; exact bind_ok a1
    · rw [e4]; exact bind_ok a1
    · rw [e4]; exact bind_ok a1
    · rw [e4]; exact bind_ok a1
  · left
    have hie : i = its.length := by omega
    subst hie
    refine ⟨wk.stop H2 kH, ρ1, ps2, own1, ?_, unw r2, k1⟩
    rw [e4, List.drop_eq_nil_of_le (by simp)]
    rfl
theorem ds_for (hp : PassesOwn (model X.prog X.w) X.A X.env X.xe) (hc : X.calm = true) (hi : DI X W m tg iter fs) {is : List Nat} (ht : TgD X (J.lp m) m mT tg is F) (hb : Dss X W (J.lp m) mT m sts g1) (hs : ∀ x, foldedSetIterable iter X.env x = pure x := by intro _; rfl) :
    Ds X W J m m (.For tg iter sts [] pos) (foF fs F g1) :=
  ⟨fun g own pins s σ ρ H ps I r hx n w => for_core hp hc ht hb hs I r hx (hi.can r (ne_of_bind n) (WS.ex w r)) n w⟩
/-- a list, a tuple that is walked -/
def D.items : D → R (List D)
  | .lst ds => pure ds
  | .tup ds => pure ds
  | _ => R.und
def itF (f : FE) : FA := fun ρ => do let d ← f ρ; D.items d
theorem ones_d : ∀ {ds : List D} {vs : List V}, vs.length = ds.length → ((ds.zip vs).map fun p => Item.one p.1 p.2).map Item.d = ds
  | [], [], _ => rfl
  | d :: ds, v :: vs, h => by
    rw [List.zip_cons_cons, List.map_cons, List.map_cons, ones_d (by simpa using h)]; rfl
  | [], _ :: _, h => by simp at h
  | _ :: _, [], h => by simp at h
theorem zip_at {ds : List D} {vs : List V} {i : Nat} {it : Item} (h : ((ds.zip vs).map fun p => Item.one p.1 p.2)[i]? = some it) : ∃ d v, it = .one d v ∧ ds[i]? = some d ∧ vs[i]? = some v := by
  rw [List.getElem?_map] at h
  cases q : (ds.zip vs)[i]? with
  | none => rw [q] at h; cases h
  | some p =>
    rw [q] at h
    cases h
    obtain ⟨a, b⟩ := List.getElem?_zip_eq_some.mp q
    exact ⟨p.1, p.2, rfl, a, b⟩
theorem di_seq (h : Dx .cl X W m iter f) : DI X W m tg iter (itF f) := by
  refine ⟨fun g own pins s σ ρ H ps I r n w => ?_⟩
  have n1 := ne_of_bind n
  have fin : ∀ {JJ : It} {H1 : Hp} {d : D} {ps1 : Ps} {ds : List D} {vs : List V} {ks : List (Addr × HO)}, f ρ ps = .ok d ps1 → D.items d = pure ds → Exo (plS g.pl) H H1 → PoolAt g.pl H1 ps1 → Reps g.pl X.K (hid (Xs m own g) H1) ds vs →
      WalkOk JJ ks ((ds.zip vs).map fun p => Item.one p.1 p.2) → (∀ p ∈ ks, H1 p.1 = some p.2 ∧ ¬ plS g.pl p.1 ∧ ¬ UOw m own p.1) → QI m own g.pl X.K (Xs m own g) H (itF f ρ ps) JJ H1 := fun {JJ H1 d ps1 ds vs ks} e1 e2 x1 p1 t1 wk hk => by
    refine ⟨_, ps1, ks, ?_, x1, p1, wk, hk, fun it hit => ?_⟩
    · rw [ones_d t1.length]
      have : itF f ρ ps = D.items d ps1 := bind_ok e1
      rw [this, e2]; rfl
    · obtain ⟨p, hp, rfl⟩ := List.mem_map.mp hit
      exact zip_reps t1 p hp
  cases e1 : f ρ ps with
  | und => exact (n1 e1).elim
  | exc x q =>
    refine (pi_list (tg := tg) (pe_c X iter)).run pins s σ H _ I (cE.mono (h.c r n1 (WOk.left w)) fun v H1 ⟨d, ps1, e2, _⟩ => ?_)
    rw [e1] at e2; cases e2
  | ok d ps1 =>
    have e2 : itF f ρ ps = D.items d ps1 := bind_ok e1
    cases d with
    | lst ds =>
      refine (pi_list (tg := tg) (pe_c X iter)).run pins s σ H _ I (cE.mono (h.c r n1 (WOk.left w)) fun v H1 ⟨d, ps1', e3, x1, p1, q1⟩ => ?_)
      rw [e1] at e3; cases e3
      have q1 : Rep g.pl X.K (hid (Xs m own g) H1) (.lst ds) v := q1
      unfold Rep at q1
      obtain ⟨a, vs, rfl, h1, t1⟩ := q1
      obtain ⟨nx, h1⟩ := hid_of h1
      refine ⟨a, rfl, ⟨vs, .of h1⟩, fin (ks := [(a, .lst vs)]) e1 rfl x1 p1 t1 ⟨fun i H2 hi hk => ?_, fun H2 hk => ?_, fun i x H2 H3 it hit hk hy => ?_, fun p hp φ z => ?_⟩ fun p hp => ?_⟩
      · have hk := hk _ (List.mem_cons_self ..)
        rw [List.length_map, List.length_zip, t1.length, Nat.min_self] at hi
        exact ⟨vs, vs[i]'(by rw [t1.length]; exact hi), .of hk, List.getElem?_eq_getElem _⟩
      · have hk := hk _ (List.mem_cons_self ..)
        exact ⟨vs, .of hk, by rw [List.length_map, List.length_zip, t1.length, Nat.min_self]; exact Nat.le_refl _⟩
      · have hk := hk _ (List.mem_cons_self ..)
        obtain ⟨d, v, rfl, g1, g2⟩ := zip_at hit
        obtain ⟨rfl, hy⟩ := hy
        have := hy vs (.of hk)
        rw [g2] at this
        exact ⟨(Option.some.inj this).symm, rfl⟩
      · have e : p = (a, .lst vs) := by simpa using hp
        subst e; cases z
      · have e : p = (a, .lst vs) := by simpa using hp
        subst e
        exact ⟨h1, fun z => nx (Xs.pl _ z), fun z => nx (.inr (.inr z))⟩
    | tup ds =>
      refine (L2.pi_tup (tg := tg) (pe_c X iter)).run pins s σ H _ I (cE.mono (h.c r n1 (WOk.left w)) fun v H1 ⟨d, ps1', e3, x1, p1, q1⟩ => ?_)
      rw [e1] at e3; cases e3
      have q1 : Rep g.pl X.K (hid (Xs m own g) H1) (.tup ds) v := q1
      unfold Rep at q1
      obtain ⟨a, vs, rfl, h1, t1⟩ := q1
      -- a tuple of the heap is kept, one of the module stands
      have hks : ∃ ks : List (Addr × HO), (∀ p ∈ ks, H1 p.1 = some p.2 ∧ ¬ plS g.pl p.1 ∧ ¬ UOw m own p.1) ∧ (∀ p ∈ ks, ∀ φ, p.2 ≠ .ext φ) ∧ ∀ H2, KeepH ks H2 → SqT X.K H2 a vs := by
        rcases h1 with h1 | h1
        · obtain ⟨o, ho, hr, hne⟩ : ∃ o, hid (Xs m own g) H1 a = some o ∧ (∀ H2 : Hp, H2 a = some o → Rd H2 a (.tup vs)) ∧ ∀ φ, o ≠ .ext φ := by
            rcases h1 with h1 | ⟨o, h1⟩
            · exact ⟨_, h1, fun H2 q => .inl q, fun _ z => nomatch z⟩
            · exact ⟨_, h1, fun H2 q => .inr ⟨o, q⟩, fun _ z => nomatch z⟩
          obtain ⟨nx, ho⟩ := hid_of ho
          refine ⟨[(a, o)], fun p hp => ?_, fun p hp => ?_, fun H2 hk => .inl (hr H2 (hk _ (List.mem_cons_self ..)))⟩
          · have e : p = (a, o) := by simpa using hp
            subst e
            exact ⟨ho, fun z => nx (Xs.pl _ z), fun z => nx (.inr (.inr z))⟩
          · have e : p = (a, o) := by simpa using hp
            subst e
            exact hne
        · exact ⟨[], fun p hp => by simp at hp, fun p hp => by simp at hp, fun H2 _ => .inr h1⟩
      obtain ⟨ks, hk1, hk3, hk2⟩ := hks
      refine ⟨a, rfl, ⟨vs, hk2 H1 fun p hp => (hk1 p hp).1⟩, fin (ks := ks) e1 rfl x1 p1 t1 ⟨fun i H2 hi hk => ?_, fun H2 hk => ?_, fun i x H2 H3 it hit hk hy => ?_, hk3⟩ hk1⟩
      · rw [List.length_map, List.length_zip, t1.length, Nat.min_self] at hi
        exact ⟨vs, vs[i]'(by rw [t1.length]; exact hi), hk2 H2 hk, List.getElem?_eq_getElem _⟩
      · exact ⟨vs, hk2 H2 hk, by rw [List.length_map, List.length_zip, t1.length, Nat.min_self]; exact Nat.le_refl _⟩
      · obtain ⟨d, v, rfl, g1, g2⟩ := zip_at hit
        obtain ⟨rfl, hy⟩ := hy
        have := hy vs (hk2 _ hk)
        rw [g2] at this
        exact ⟨(Option.some.inj this).symm, rfl⟩
    | _ => rw [e2] at n; exact (n rfl).elim
end
end DL
set_option Elab.async false
set_option linter.all false
set_option maxRecDepth 100000
set_option maxHeartbeats 2000000
/-! D17: defs. -/
namespace DL
open PySem PySem.Spec PyProof.Rows L2
def padM (n : Nat) (ms : List Md) : List Md := ms ++ List.replicate (n - ms.length) .no
def padR (n : Nat) (ds : List D) : Rho := ds.map some ++ List.replicate (n - ds.length) none
def finD : Fl → R D
  | .rt d _ => pure d
  | .nx _ => pure .non
  | _ => R.und
/-- a def's worth: its body's, run at the arguments -/
def runD (n : Nat) (G : SF) (ds : List D) : R D := do let fl ← G (padR n ds); finD fl
theorem pad_at {α : Type} {ms : List α} {k i : Nat} {x y : α} (h : (ms ++ List.replicate k y)[i]? = some x) (n : x ≠ y) : ms[i]? = some x := by
  by_cases hl : i < ms.length
  · rw [List.getElem?_append_left hl] at h; exact h
  · rw [List.getElem?_append_right (by omega), List.getElem?_replicate] at h
    split at h
    · cases h; exact (n rfl).elim
    · cases h
theorem ArgsR.at_ {pl : Pl} {K : PySem.W.Frag} {O : Addr → Prop} {H : Hp} : ∀ {ms : List Md} {ds : List D} {vs : List V}, ArgsR pl K O H ms ds vs → ∀ (i : Nat) (d : D), ds[i]? = some d → ∃ v, vs[i]? = some v ∧ ((ms[i]? = some .sh ∧ Rep pl K (hid O H) d v) ∨ (ms[i]? = some .sb ∧ RepB pl K O H d v))
  | [], [], _, h, i, d, e => by simp at e
  | .sh :: ms, d' :: ds, _, h, i, d, e => by
    obtain ⟨v, r, rfl, h2, h3⟩ := h
    cases i with
    | zero => simp at e; subst e; exact ⟨v, rfl, .inl ⟨rfl, h2⟩⟩
    | succ i => simpa using ArgsR.at_ h3 i d (by simpa using e)
  | .sb :: ms, d' :: ds, _, h, i, d, e => by
    obtain ⟨v, r, rfl, h2, h3⟩ := h
    cases i with
    | zero => simp at e; subst e; exact ⟨v, rfl, .inr ⟨rfl, h2⟩⟩
    | succ i => simpa using ArgsR.at_ h3 i d (by simpa using e)
  | [], _ :: _, _, h, _, _, _ => h.elim
  | md :: _, [], _, h, _, _, _ => by cases md <;> exact h.elim
  | .no :: _, _ :: _, _, h, _, _, _ => h.elim
  | .ow :: _, _ :: _, _, h, _, _, _ => h.elim
  | .io :: _, _ :: _, _, h, _, _, _ => h.elim
theorem ArgsR.kinds {pl : Pl} {K : PySem.W.Frag} {O : Addr → Prop} {H : Hp} : ∀ {ms : List Md} {ds : List D} {vs : List V}, ArgsR pl K O H ms ds vs → ∀ (i : Nat) (x : Md), ms[i]? = some x → x = .sh ∨ x = .sb
  | [], [], _, h, i, x, e => by simp at e
  | .sh :: ms, d' :: ds, _, h, i, x, e => by
    obtain ⟨v, r, rfl, h2, h3⟩ := h
    cases i with
    | zero => simp at e; exact .inl e.symm
    | succ i => exact ArgsR.kinds h3 i x (by simpa using e)
  | .sb :: ms, d' :: ds, _, h, i, x, e => by
    obtain ⟨v, r, rfl, h2, h3⟩ := h
    cases i with
    | zero => simp at e; exact .inr e.symm
    | succ i => exact ArgsR.kinds h3 i x (by simpa using e)
  | [], _ :: _, _, h, _, _, _ => h.elim
  | md :: _, [], _, h, _, _, _ => by cases md <;> exact h.elim
  | .no :: _, _ :: _, _, h, _, _, _ => h.elim
  | .ow :: _, _ :: _, _, h, _, _, _ => h.elim
  | .io :: _, _ :: _, _, h, _, _, _ => h.elim
theorem pad_some {α : Type} {l : List α} {k i : Nat} {x : α} (h : (l.map some ++ List.replicate k none)[i]? = some (some x)) : l[i]? = some x := by
  have := pad_at (ms := l.map some) (y := none) h (fun z => nomatch z)
  rw [List.getElem?_map] at this
  cases q : l[i]? with
  | none => rw [q] at this; cases this
  | some a => rw [q] at this; cases this; rfl
theorem at_pad {α : Type} {l : List α} {k i : Nat} {x : α} (h : l[i]? = some x) : (l.map some ++ List.replicate k none)[i]? = some (some x) := by
  have hl : i < l.length := (List.getElem?_eq_some_iff.mp h).1
  rw [List.getElem?_append_left (by simpa using hl), List.getElem?_map, h]; rfl
section
variable {P : Program} {w : World} {K : PySem.W.Frag} {mg : Str → Option Value} {base : Heap}
/-- the modes at the end: nothing -/
def mrOf (n : Nat) : List Md := List.replicate n .no
theorem leM_no : ∀ (m : List Md), leM m (mrOf m.length) = true
  | [] => rfl
  | a :: r => by
    show leM (a :: r) (List.replicate (r.length + 1) .no) = true
    rw [List.replicate_succ]
    unfold leM
    rw [Bool.and_eq_true]
    exact ⟨by cases a <;> rfl, leM_no r⟩
theorem fnD_mk {x qual : Str} {st : Stmt} {f : Addr} {fd : FuncData} {N nms : List Str} {k : Nat} {ms mE : List Md} {G0 : SF} (Fn : Fun K x qual st f fd) (S : FnScope N nms (defScope st)) (hms : ms.length = nms.length) (hN : nms.length ≤ N.length)
    (body : ∀ (cdv : Value) (A : Around) (outer : List Env) (s : Shared) (H : Hp) (E : XK), Room k (A.deeper (envOfC qual (defScope st) s.heap.objs.size f cdv)) → Takes (cxOf (L2.CX P w) P w K mg base N qual (defScope st) f cdv A outer s H E) (fun cls d _ H => E cls d H) →
      Dss (cxOf (L2.CX P w) P w K mg base N qual (defScope st) f cdv A outer s H E) (fun cls d _ H => E cls d H) { mb := [], mr := mrOf N.length } (padM N.length ms) mE (defBody st) G0) : FnOk P w K mg base (L2.CX P w) (k + 1) f fd nms (spD K .cl ms (runD N.length G0)) := by
  refine Fn.okX S (fun vs H Q E h => ?_) (fun cdv A outer s H vs Q E hr h => ?_)
  · obtain ⟨pl, O, ds, ps, ha, _⟩ := h
    rw [ha.len.1, hms]
  · obtain ⟨pl, O, ds, ps, ha, hO, hT, hp, hn, hQ, hE⟩ := h
    have hl := ha.len
    let g : G := { pl := pl, E := O, B := H }
    have tk : Takes (cxOf (L2.CX P w) P w K mg base N qual (defScope st) f cdv A outer s H E) (fun cls d _ H => E cls d H) := takes_of rfl rfl rfl rfl
    have noOw : ∀ (i : Nat), ¬ ((padM N.length ms)[i]? = some .ow ∨ (padM N.length ms)[i]? = some .io) := fun i z => by
      rcases z with z | z
      · rcases ha.kinds i _ (pad_at z (by decide)) with e | e <;> cases e
      · rcases ha.kinds i _ (pad_at z (by decide)) with e | e <;> cases e
    have sub : ∀ own a, Xs (padM N.length ms) own g a → O a := fun own a z => by
      rcases z with z | z | ⟨i, z, _⟩
      · exact z
      · exact hO a z
      · exact (noOw i z).elim
    have r0 : Rs K g (padM N.length ms) (fun _ => 0) (L2.start N vs) (padR N.length ds) H ps := {
      len := by
        unfold padR L2.start
        rw [List.length_append, List.length_append, List.length_map, List.length_map, List.length_replicate, List.length_replicate, hl.1, hl.2]
      sh := fun i d h1 h2 => by
        obtain ⟨v, h3, h4⟩ := ha.at_ i d (pad_some h2)
        have h1 := pad_at h1 (by decide)
        rcases h4 with ⟨_, h4⟩ | ⟨h5, _⟩
        · exact ⟨v, at_pad h3, h4.mono (hid_sub (sub _))⟩
        · rw [h1] at h5; cases h5
      ow := fun i q => (noOw i q).elim
      sb := fun i d h1 h2 => by
        obtain ⟨v, h3, h4⟩ := ha.at_ i d (pad_some h2)
        have h1 := pad_at h1 (by decide)
        rcases h4 with ⟨h5, _⟩ | ⟨_, h4⟩
        · rw [h1] at h5; cases h5
        · refine ⟨v, at_pad h3, ?_⟩
          rcases h4 with h4 | ⟨a, ea, np, t⟩
          · exact .inl (h4.mono (hid_sub (sub _)))
          · exact .inr ⟨a, ea, np, fun j q => (noOw j q).elim, t.mono (hid_sub (sub _))⟩
      xc := fun i b dx z => by rcases ha.kinds i _ (pad_at z (fun y => nomatch y)) with e | e <;> cases e
      ex := fun p hp => by cases hp
      sx := fun p hp => by cases hp
      inj := fun i j q _ _ => (noOw i q).elim
      nE := fun i q => (noOw i (.inl q)).elim
      base := Exo.refl
      pool := hp
      eT := hT }
    refine ⟨_, pss_c _ _, fun pins s1 I1 => ?_⟩
    have e0 : ∀ {fl : Fl} {ps' : Ps}, G0 (padR N.length ds) ps = .ok fl ps' → runD N.length G0 ds ps = finD fl ps' := fun e => bind_ok e
    have n0 : G0 (padR N.length ds) ps ≠ .und := ne_of_bind hn
    have wsub : ∀ {mm : List Md} {own : Nat → Addr} {H' : Hp}, Ex (hid (Xs mm own g) H') (hid O H') := hid_sub fun a z => .inl z
    refine thn ((body cdv A outer s H E hr tk).run g (fun _ => 0) pins s1 _ _ H ps I1 r0 (fun p hp => by cases hp) n0 ?_) fun fl s2 q => spI' q ?_ ?_ ?_ ?_
    · intro y ps' dx H' σ' e1 e2 e3 ⟨ws, e4, e5⟩ _
      exact hE y ps' dx H' (bind_exc e1) e2 e3 ⟨ws, e4, e5.mono (hid_sub fun a z => .inl z)⟩
    · rintro σ' H' ⟨ρ', ps', own', a1, a2, a3⟩
      refine hQ _ _ ⟨.non, ps', (e0 a1).trans rfl, a2.base, a2.pool, ?_⟩
      show Rep _ _ _ _ _
      unfold Rep; rfl
    · rintro σ' H' ⟨ρ', ps', own', a1, a2, a3⟩
      exact (hn ((e0 a1).trans rfl)).elim
    · rintro σ' H' ⟨ρ', ps', own', a1, a2, a3⟩
      exact (hn ((e0 a1).trans rfl)).elim
    · rintro v H' ⟨d, ρ', ps', own', σ', a1, a2, a3, a4⟩
      have a4 : Rep g.pl K (hid (Xs (mrOf N.length) own' g) H') d v := a4
      exact hQ _ _ ⟨d, ps', (e0 a1).trans rfl, a2.base, a2.pool, a4.mono wsub⟩

/-! ### __init__ -/
def insO (C : Addr) : Option D → R (List (Str × D))
  | some (D.ins C' fs) => if C' = C then pure fs else R.und
  | _ => R.und
def finI (C : Addr) : Fl → R (List (Str × D))
  | .nx ρ => insO C (ρ[0]?.join)
  | _ => R.und
def runI (n : Nat) (C : Addr) (G : SF) (ds : List D) : R (List (Str × D)) := do let fl ← G (padR n (.ins C [] :: ds)); finI C fl
theorem fnI_mk {x qual : Str} {st : Stmt} {f C : Addr} {fd : FuncData} {N nms : List Str} {k : Nat} {ms mE : List Md} {G0 : SF} (Fn : Fun K x qual st f fd) (S : FnScope N nms (defScope st)) (hms : ms.length + 1 = nms.length) (hN : nms.length ≤ N.length) (hE0 : mE[0]? = some .io)
    (body : ∀ (cdv : Value) (A : Around) (outer : List Env) (s : Shared) (H : Hp) (E : XK), Room k (A.deeper (envOfC qual (defScope st) s.heap.objs.size f cdv)) → Takes (cxOf (L2.CX P w) P w K mg base N qual (defScope st) f cdv A outer s H E) (fun cls d _ H => E cls d H) →
      Dss (cxOf (L2.CX P w) P w K mg base N qual (defScope st) f cdv A outer s H E) (fun cls d _ H => E cls d H) { mb := [], mr := mrOf N.length } (padM N.length (.io :: ms)) mE (defBody st) G0) : FnOk P w K mg base (L2.CX P w) (k + 1) f fd nms (spI K C ms (runI N.length C G0)) := by
  refine Fn.okX S (fun vs H Q E h => ?_) (fun cdv A outer s H vs Q E hr h => ?_)
  · obtain ⟨pl, O, ds, ps, x, dx, ws, rfl, _, _, _, ha, _⟩ := h
    rw [List.length_cons, ha.len.1, hms]
  · obtain ⟨pl, O, ds, ps, x, dx, ws, rfl, hx, hOx, npx, ha, hO, hT, hp, hn, hQ, hE⟩ := h
    have hl := ha.len
    let g : G := { pl := pl, E := O, B := hid (fun a => a = x) H }
    have tk : Takes (cxOf (L2.CX P w) P w K mg base N qual (defScope st) f cdv A outer s H E) (fun cls d _ H => E cls d H) := takes_of rfl rfl rfl rfl
    have ow0 : ∀ (i : Nat), ((padM N.length (.io :: ms))[i]? = some .ow ∨ (padM N.length (.io :: ms))[i]? = some .io) → i = 0 := fun i z => by
      cases i with
      | zero => rfl
      | succ i =>
        have : ms[i]? = some .ow ∨ ms[i]? = some .io := by
          rcases z with z | z
          · exact .inl (by simpa using pad_at z (by decide))
          · exact .inr (by simpa using pad_at z (by decide))
        rcases this with z | z <;> rcases ha.kinds i _ z with e | e <;> cases e
    have at0 : (padM N.length (.io :: ms))[0]? = some .io := rfl
    have sub : ∀ a, Xs (padM N.length (.io :: ms)) (fun _ => x) g a → O a := fun a z => by
      rcases z with z | z | ⟨i, z, e⟩
      · exact z
      · exact hO a z
      · rw [← e]; exact hOx
    have sub2 : Ex (hid O (hid (fun a => a = x) H)) (hid (Xs (padM N.length (.io :: ms)) (fun _ => x) g) H) := fun a o q => by
      obtain ⟨n1, q⟩ := hid_of q
      rw [hid_at fun z => n1 (sub a z)]
      exact (hid_of q).2
    have r0 : Rs K g (padM N.length (.io :: ms)) (fun _ => x) (L2.start N (.ref x :: ws)) (padR N.length (.ins C [] :: ds)) H ps := {
      len := by
        unfold padR L2.start
        rw [List.length_append, List.length_append, List.length_map, List.length_map, List.length_replicate, List.length_replicate, List.length_cons, List.length_cons, hl.1, hl.2]
      sh := fun i d h1 h2 => by
        cases i with
        | zero => rw [at0] at h1; cases h1
        | succ i =>
          have h2 : ds[i]? = some d := by simpa using pad_some h2
          obtain ⟨v, h3, h4⟩ := ha.at_ i d h2
          have h1 : ms[i]? = some .sh := by simpa using pad_at h1 (by decide)
          rcases h4 with ⟨_, h4⟩ | ⟨h5, _⟩
          · exact ⟨v, at_pad (l := .ref x :: ws) (by simpa using h3), h4.mono sub2⟩
          · rw [h1] at h5; cases h5
      ow := fun i q => by
        have e := ow0 i q
        subst e
        refine ⟨.ins C [], rfl, rfl, ⟨dx, [], hx, by unfold RepF; rfl⟩, ?_, npx⟩
        show hid (fun a => a = x) H x = none
        unfold hid; rw [if_pos rfl]
      sb := fun i d h1 h2 => by
        cases i with
        | zero => rw [at0] at h1; cases h1
        | succ i =>
          have h2 : ds[i]? = some d := by simpa using pad_some h2
          obtain ⟨v, h3, h4⟩ := ha.at_ i d h2
          have h1 : ms[i]? = some .sb := by simpa using pad_at h1 (by decide)
          rcases h4 with ⟨h5, _⟩ | ⟨_, h4⟩
          · rw [h1] at h5; cases h5
          · refine ⟨v, at_pad (l := .ref x :: ws) (by simpa using h3), ?_⟩
            rcases h4 with h4 | ⟨a, ea, np, t⟩
            · exact .inl (h4.mono sub2)
            · obtain ⟨u, hu⟩ := t.some
              obtain ⟨hax, hu'⟩ := hid_of hu
              refine .inr ⟨a, ea, np, fun j q z => hax z.symm, ?_⟩
              rw [hu', ← hu]
              exact t.mono sub2
      xc := fun i b dx z => by
        cases i with
        | zero => rw [at0] at z; cases z
        | succ i =>
          have z2 : ms[i]? = some (.xc b dx) := by simpa using pad_at z (fun y => nomatch y)
          rcases ha.kinds i _ z2 with e | e <;> cases e
      ex := fun p hp => by cases hp
      sx := fun p hp => by cases hp
      inj := fun i j q q' _ => by rw [ow0 i q, ow0 j q']
      nE := fun i q => by have e := ow0 i (.inl q); subst e; rw [at0] at q; cases q
      base := fun a o h _ => (hid_of (show hid (fun a => a = x) H a = some o from h)).2
      pool := hp
      eT := hT }
    refine ⟨_, pss_c _ _, fun pins s1 I1 => ?_⟩
    have e0 : ∀ {fl : Fl} {ps' : Ps}, G0 (padR N.length (.ins C [] :: ds)) ps = .ok fl ps' → runI N.length C G0 ds ps = finI C fl ps' := fun e => bind_ok e
    have n0 : G0 (padR N.length (.ins C [] :: ds)) ps ≠ .und := ne_of_bind hn
    have bb : ∀ {H' : Hp}, Exo (plS pl) (hid (fun a => a = x) H) H' → Exo (fun a => plS pl a ∨ a = x) H H' := fun e a o h n => e a o (by rw [hid_at (E := fun a => a = x) (fun z => n (.inr z))]; exact h) fun z => n (.inl z)
    refine thn ((body cdv A outer s H E hr tk).run g (fun _ => x) pins s1 _ _ H ps I1 r0 (fun p hp => by cases hp) n0 ?_) fun fl s2 q => spI' q ?_ ?_ ?_ ?_
    · intro y ps' dy H' σ' e1 e2 e3 ⟨ws, e4, e5⟩ _
      exact hE y ps' dy H' (bind_exc e1) (bb e2) e3 ⟨ws, e4, e5.mono (hid_sub fun a z => .inl z)⟩
    · rintro σ' H' ⟨ρ', ps', own', a1, a2, a3⟩
      have e1 := e0 a1
      obtain ⟨d, h1, h2, h3, h4, h5⟩ := a2.ow 0 (.inr hE0)
      have ex0 : own' 0 = x := a3 0 at0
      have hf : insO C (some d) ps' ≠ .und := by
        have : finI C (.nx ρ') ps' ≠ .und := by rw [← e1]; exact hn
        have q : finI C (.nx ρ') = insO C (some d) := by
          show insO C (ρ'[0]?.join) = _
          rw [h1]; rfl
        rw [q] at this
        exact this
      have q : finI C (.nx ρ') = insO C (some d) := by
        show insO C (ρ'[0]?.join) = _
        rw [h1]; rfl
      cases d with
      | ins C' fs =>
        obtain ⟨dx', vs', g1, g2⟩ := h3
        by_cases hC : C' = C
        · subst hC
          have e2 : insO C' (some (D.ins C' fs)) ps' = .ok fs ps' := by
            show (if C' = C' then (pure fs : R (List (Str × D))) else R.und) ps' = _
            rw [if_pos rfl]; rfl
          rw [ex0] at g1
          exact hQ fs ps' dx' vs' H' (e1.trans (by rw [q]; exact e2)) (bb a2.base) a2.pool g1 (g2.mono (hid_sub fun a z => .inl z))
        · refine (hf ?_).elim
          show (if C' = C then (pure fs : R (List (Str × D))) else R.und) ps' = _
          rw [if_neg hC]; rfl
      | _ => exact (hf rfl).elim
    · rintro σ' H' ⟨ρ', ps', own', a1, a2, a3⟩
      exact (hn ((e0 a1).trans rfl)).elim
    · rintro σ' H' ⟨ρ', ps', own', a1, a2, a3⟩
      exact (hn ((e0 a1).trans rfl)).elim
    · rintro v H' ⟨d, ρ', ps', own', σ', a1, a2, a3, a4⟩
      exact (hn ((e0 a1).trans rfl)).elim
end
end DL
set_option Elab.async false
set_option linter.all false
set_option maxRecDepth 100000
set_option maxHeartbeats 2000000
/-! D18: x += e; d.get; chains; isinstance; is None; slices; len and == of own. -/
namespace DL
open PySem PySem.Spec PyProof.Rows L2
section
variable {X : Cx} {W : WX} {J : JP} {m m' m2 mT ms : List Md} {e a b c o tg iter : Expr} {f f1 f2 f3 fo : FE} {t : FT} {st : Stmt} {sts sts2 : List Stmt} {g1 g2 : SF} {pos p1' : Pos} {fs : FA} {F : D → Rho → R Rho}
/-! ### x += e -/
def auF (F : D → D → R D) (i : Nat) (f : FE) : SF := fun ρ => do
  let x ← vF i ρ
  let y ← f ρ
  let z ← F x y
  pure (.nx (ρ.set i (some z)))
theorem ds_aug {i : Nat} {x : Str} {op : Operator} {g : Int → Int → Int} {pos' : Pos} (h : Dx .cl X W m e f) (hN : X.N.Nodup) (hi : X.N[i]? = some x) (hl : Loc X.env.scope x) (hm : m[i]? = some .sh) (ho : PIp X op (ipI g)) (hp : J.px.contains i = false := by rfl) (hf : X.fn x = true ∨ X.env.scope.names.lookup x = some .local := by first | exact .inl rfl | exact .inr rfl) :
    Ds X W J m m (.AugAssign (.Name x pos') op e pos) (auF (D.ints (fun _ _ => true) g) i f) := by
  refine ⟨fun g0 own pins s σ ρ H ps I r hx n w => ?_⟩
  obtain ⟨d1, h1, h2⟩ := ofO_ne (show vF i ρ ps ≠ .und from ne_of_bind n)
  have h2 : vF i ρ ps = .ok d1 ps := h2
  obtain ⟨v1, h3, h4⟩ := r.sh i d1 hm (join_some h1)
  have e0 : auF (D.ints (fun _ _ => true) g) i f ρ ps = (f ρ >>= fun y => D.ints (fun _ _ => true) g d1 y >>= fun z => (pure (.nx (ρ.set i (some z))) : R Fl)) ps := bind_ok h2
  rw [e0] at n w ⊢
  refine (ps_aug hN hi hl (pe_c X e) ho hf).run pins s σ H _ I ⟨v1, h3, cE.mono (h.c r (ne_of_bind n) (WS.ex w r)) fun v H1 ⟨d2, ps1, e1, x1, p1, q1⟩ => ?_⟩
  rw [bind_ok e1] at n ⊢
  have n2 : D.ints (fun _ _ => true) g d1 d2 ps1 ≠ .und := ne_of_bind n
  cases d1 with
  | int a =>
    cases d2 with
    | int b =>
      have q1 : Rep g0.pl X.K (hid (Xs m own g0) H1) (.int b) v := q1
      unfold Rep at h4 q1
      subst h4 q1
      refine ⟨a, b, rfl, rfl, ?_⟩
      have hs := (r.mono x1 p1).store (i := i) (d := .int (g a b)) (v := .int (g a b)) (by unfold Rep; rfl) (sx_ne hx hp) (by rw [I.len]; exact (List.getElem?_eq_some_iff.mp hi).1)
      rw [show m.set i .sh = m from by
        apply List.ext_getElem?
        intro j
        by_cases ej : j = i
        · subst ej; rw [List.getElem?_set_self (List.getElem?_eq_some_iff.mp hm).1, hm]
        · rw [List.getElem?_set_ne (Ne.symm ej)]] at hs
      exact ⟨_, ps1, own, rfl, hs, .refl⟩
    | _ => exact (n2 rfl).elim
  | _ => exact (n2 rfl).elim

/-! ### d.get(k, x) -/
def asDk : D → R (List (Key × D))
  | .dk kvs => pure kvs
  | _ => R.und
theorem asDk_ok {d : D} {ps : Ps} (n : asDk d ps ≠ .und) : ∃ kvs, d = .dk kvs ∧ asDk d ps = .ok kvs ps := by
  cases d with
  | dk kvs => exact ⟨kvs, rfl, rfl⟩
  | _ => exact (n rfl).elim
def getF (fo fk fx : FE) : FE := fun ρ => do
  let d ← fo ρ
  let kvs ← asDk d
  let k ← fk ρ
  let x ← fx ρ
  let k ← ofO (keyOf k)
  pure ((findD kvs k).getD x)
theorem isD_of {pl : Pl} {K : PySem.W.Frag} {O : Addr → Prop} {H : Hp} {kvs : List (Key × D)} {v : V} (h : RepB pl K O H (.dk kvs) v) : ∃ q, v = .ref q ∧ IsD H q := by
  obtain ⟨q, vs, e, h1, _⟩ := h.dk
  exact ⟨q, e, .inl ⟨vs, h1⟩⟩
theorem dx_get {fk fx : FE} {apos cpos : Pos} (ho : Dx .bo X W m o fo) (hk : Dx .bo X W m a fk) (hd : Dx .cl X W m b fx) (hu : X.A.units + 64 < cLine)
    (hb : attributeBase o "get" X.env (eval o X.env) = eval o X.env := by rfl)
    (hfew : ((backTo cpos (starEach [a, b] X.env)).all (fun x => !x.1) && (backToKw cpos (keywordEach [] X.env)).all (fun x => x.1.isSome)
      && decide (([a, b] : List Expr).length + ([] : List Keyword).length + (if ([] : List Keyword).isEmpty then 0 else 1) < 30)) = true := by rfl)
    (hline : (apos.endLine == cpos.line) = true := by rfl) (htr : backTo cpos (starEach [a, b] X.env) = [(false, eval a X.env), (false, eval b X.env)] := by rfl) :
    Dx .cl X W m (.Call (.Attribute o "get" apos) [a, b] [] cpos) (getF fo fk fx) := by
  refine ⟨fun g own pins s σ ρ H ps I r n w => ?_⟩
  refine (pe_dget2 (by omega) (pe_c X o) (pe_c X a) (pe_c X b) ⟨hb, hfew, hline, htr⟩).run pins s σ H _ I ?_
  refine cE.mono (ho.c r (ne_of_bind n) (WOk.left w)) fun x H1 ⟨d1, ps1, e1, x1, p1, q1⟩ => ?_
  have c1 : getF fo fk fx ρ ps = (asDk d1 >>= fun kvs => fk ρ >>= fun k => fx ρ >>= fun x => ofO (keyOf k) >>= fun k => (pure ((findD kvs k).getD x) : R D)) ps1 := bind_ok e1
  have w1 := WOk.later w x1
  rw [c1] at n w1 ⊢
  obtain ⟨kvs, rfl, e2⟩ := asDk_ok (ne_of_bind n)
  rw [bind_ok e2] at n w1 ⊢
  have r1 := r.mono x1 p1
  obtain ⟨q, vs, rfl, h1, t1⟩ := q1.dk
  refine ⟨q, rfl, .inl ⟨vs, h1⟩, cE.mono (hk.c r1 (ne_of_bind n) (WOk.left w1)) fun y H2 ⟨d2, ps2, e3, x2, p2, q2⟩ => ?_⟩
  have w2 := WOk.later w1 x2
  rw [bind_ok e3] at n w2 ⊢
  have r2 := r1.mono x2 p2
  refine cE.mono (hd.c r2 (ne_of_bind n) (WOk.left w2)) fun z H3 ⟨d3, ps3, e4, x3, p3, q3⟩ => ?_
  rw [bind_ok e4] at n ⊢
  obtain ⟨k, hk1, hk2⟩ := ofO_ne (ne_of_bind n)
  rw [bind_ok hk2]
  have q1' := (q1.mono Xs.pl x2).mono Xs.pl x3
  obtain ⟨q', vs', eq', h1', t1'⟩ := q1'.dk
  cases eq'
  have ey := keyOf_rep (RepB.mono Xs.pl x3 q2).full hk1
  refine ⟨valV vs' k, .inl ⟨vs', k, h1', ey, rfl⟩, ?_⟩
  have x123 := (x1.trans x2).trans x3
  rcases t1'.val k with ⟨z1, z2⟩ | ⟨d', v', z1, z2, z3⟩
  · rw [z1, z2]
    exact ⟨d3, ps3, rfl, x123, p3, q3⟩
  · rw [z1, z2]
    exact ⟨d', ps3, rfl, x123, p3, z3⟩
/-! ### chains -/
def chF (F F' : D → D → R D) (f1 f2 f3 : FE) : FT := fun ρ => do
  let x ← f1 ρ
  let y ← f2 ρ
  let z ← F x y
  let k ← asB z
  if k = true then (do let w ← f3 ρ; let z ← F' y w; asB z) else pure false
theorem tx_chain {op op' : CmpOp} {F F' : D → D → R D} (ho : OpD .cl X (compareOp op) F) (ho' : OpD .cl X (compareOp op') F') (ha : Dx .bo X W m a f1) (hb : Dx .bo X W m b f2) (hc : Dx .bo X W m c f3)
    (hm : lastMarks [op, op'] [b, c] = false := by with_unfolding_all rfl) : Tx X W m (.Compare a [op, op'] [b, c] pos) (chF F F' f1 f2 f3) := by
  refine ⟨fun g own pins s σ ρ H ps I r n w => ?_⟩
  have hr : ∀ {fv : Value → Value → Sem Value}, OpR X fv (fun x y H Q => ∀ pins s σ u v, Inv X pins σ H s → RelV x u → RelV y v → wpAny (model X.prog X.w) X.A (fv u v) (EP X pins σ Q) X.xe s) := fun {fv} pins s σ H x y u v Q I rx ry h => h pins s σ u v I rx ry
  refine (pt_chain (pos := pos) hr hr (pe_c X a) (pe_c X b) (pe_c X c) hm).run pins s σ H _ I ?_
  refine cE.mono (ha.c r (ne_of_bind n) (WOk.left w)) fun x H1 ⟨d1, ps1, e1, x1, p1, q1⟩ => ?_
  have c1 : chF F F' f1 f2 f3 ρ ps = (f2 ρ >>= fun y => F d1 y >>= fun z => asB z >>= fun k => if k = true then (do let w ← f3 ρ; let z ← F' y w; asB z) else pure false) ps1 := bind_ok e1
  have w1 := WOk.later w x1
  rw [c1] at n w1 ⊢
  have r1 := r.mono x1 p1
  refine cE.mono (hb.c r1 (ne_of_bind n) (WOk.left w1)) fun y H2 ⟨d2, ps2, e2, x2, p2, q2⟩ => ?_
  have w2 := WOk.later w1 x2
  rw [bind_ok e2] at n w2 ⊢
  have r2 := r1.mono x2 p2
  have q1' := RepB.mono Xs.pl x2 q1
  intro pins2 s2 σ2 u v I2 rx ry
  refine thn (ho g.pl (Xs m own g) pins2 s2 σ2 H2 ps2 d1 d2 x y u v I2 Xs.pl r2.xT p2 q1' q2 rx ry (ne_of_bind n)) fun z s3 hz => epI hz fun zv H3 ⟨d3, ps3, e3, x3, p3, q3⟩ => ?_
  rw [bind_ok e3] at n w2 ⊢
  obtain ⟨k, rfl, e4⟩ := asB_ok (ne_of_bind n)
  rw [bind_ok e4] at n w2 ⊢
  have q3 : Rep g.pl X.K (hid (Xs m own g) H3) (.bl k) zv := q3
  unfold Rep at q3
  refine ⟨k, q3, ?_⟩
  have w3 := WOk.later w2 x3
  have r3 := r2.mono x3 p3
  have x123 := (x1.trans x2).trans x3
  cases k with
  | false => exact ⟨false, rfl, ps3, rfl, x123, p3⟩
  | true =>
    simp only [↓reduceIte] at n w3 ⊢
    intro pins4 s4 I4
    refine thn ((hc.c r3 (ne_of_bind n) (WOk.left w3)) pins4 s4 I4) fun wv s5 hw => epI hw fun wv H4 ⟨d4, ps4, e5, x4, p4, q4⟩ => ?_
    rw [bind_ok e5] at n ⊢
    intro pins6 s6 σ6 u6 v6 I6 ry6 rw6
    have r4 := r3.mono x4 p4
    refine thn (ho' g.pl (Xs m own g) pins6 s6 σ6 H4 ps4 d2 d4 y wv u6 v6 I6 Xs.pl r4.xT p4 (RepB.mono Xs.pl (x3.trans x4) q2) q4 ry6 rw6 (ne_of_bind n)) fun z s7 hz => epI hz fun zv H5 ⟨d5, ps5, e6, x5, p5, q5⟩ => ?_
    rw [bind_ok e6] at n ⊢
    obtain ⟨k2, rfl, e7⟩ := asB_ok n
    have q5 : Rep g.pl X.K (hid (Xs m own g) H5) (.bl k2) zv := q5
    unfold Rep at q5
    exact ⟨k2, q5, ps5, e7, (x123.trans x4).trans x5, p5⟩

/-! ### is None -/
def D.isN (neg : Bool) (a b : D) : R D := match b with
  | .non => match a with
    | .non => pure (.bl (!neg))
    | .ob _ => R.und
    | .pool => R.und
    | _ => pure (.bl neg)
  | _ => R.und
theorem isN_val {pl : Pl} {K : PySem.W.Frag} {H : Hp} {d : D} {x : V} {ps : Ps} {neg : Bool} (h : Rep pl K H d x) (n : D.isN neg d .non ps ≠ .und) : D.isN neg d .non ps = .ok (.bl (if neg then !decide (x = .non) else decide (x = .non))) ps := by
  cases d <;> unfold Rep at h <;> first
    | (subst h; cases neg <;> rfl)
    | (obtain ⟨p, vs, rfl, _⟩ := h; cases neg <;> rfl)
    | (obtain ⟨p, dx, vs, rfl, _⟩ := h; cases neg <;> rfl)
    | exact (n rfl).elim
theorem od_isN : OpD .cl X (compareOp .Is) (D.isN false) := by
  intro pl O pins s σ H ps d1 d2 x y u v I hO hT p r1 r2 rx ry n
  cases d2 with
  | non =>
    have h2 := r2.flat rfl
    unfold Rep at h2
    subst h2
    exact op_isN pins s σ H _ _ u v _ I rx ry ⟨rfl, qv_bl p (isN_val r1.full n)⟩
  | _ => exact (n rfl).elim
theorem od_notN : OpD .cl X (compareOp .IsNot) (D.isN true) := by
  intro pl O pins s σ H ps d1 d2 x y u v I hO hT p r1 r2 rx ry n
  cases d2 with
  | non =>
    have h2 := r2.flat rfl
    unfold Rep at h2
    subst h2
    exact op_notN pins s σ H _ _ u v _ I rx ry ⟨rfl, qv_bl p (isN_val r1.full n)⟩
  | _ => exact (n rfl).elim
end
end DL
set_option Elab.async false
set_option linter.all false
set_option maxRecDepth 100000
set_option maxHeartbeats 2000000
/-! D19: and/or/not as values; slices; isinstance. -/
namespace DL
open PySem PySem.Spec PyProof.Rows L2
section
variable {X : Cx} {W : WX} {J : JP} {m m' m2 ms : List Md} {e a b c o : Expr} {lo hi : Option Expr} {f f1 f2 f3 fo fl fh : FE} {t : FT} {pos p2 p1' : Pos} {fs : FA}
/-! ### and, or, not: bools -/
def notV (f : FE) : FE := fun ρ => do let d ← f ρ; let b ← asB d; pure (.bl (!b))
def andV (f1 f2 : FE) : FE := fun ρ => do let d ← f1 ρ; let b ← asB d; if b = true then f2 ρ else pure (.bl false)
def orV (f1 f2 : FE) : FE := fun ρ => do let d ← f1 ρ; let b ← asB d; if b = true then pure (.bl true) else f2 ρ
theorem rep_bl {pl : Pl} {K : PySem.W.Frag} {H : Hp} {b : Bool} : Rep pl K H (.bl b) (.bl b) := by unfold Rep; rfl
theorem rep_int {pl : Pl} {K : PySem.W.Frag} {H : Hp} {b : Int} : Rep pl K H (.int b) (.int b) := by unfold Rep; rfl
theorem rep_str {pl : Pl} {K : PySem.W.Frag} {H : Hp} {b : Str} : Rep pl K H (.str b) (.str b) := by unfold Rep; rfl
theorem rq_bl {pl : Pl} {K : PySem.W.Frag} {O : Addr → Prop} {H H' : Hp} {b : Bool} : RepQ .cl pl K O H H' (.bl b) (.bl b) := by show Rep _ _ _ _ _; exact rep_bl
theorem rq_str {pl : Pl} {K : PySem.W.Frag} {O : Addr → Prop} {H H' : Hp} {b : Str} : RepQ .cl pl K O H H' (.str b) (.str b) := by show Rep _ _ _ _ _; exact rep_str
theorem dx_not (h : Dx .bo X W m a f) : Dx .cl X W m (.UnaryOp .Not a pos) (notV f) := by
  refine ⟨fun g own pins s σ ρ H ps I r n w => ?_⟩
  refine (pe_not (pos := pos) (pe_c X a)).run pins s σ H _ I (cE.mono (h.c r (ne_of_bind n) (WOk.left w)) fun v H' ⟨d, ps', e1, x1, p1, q1⟩ => ?_)
  have e2 : notV f ρ ps = (asB d >>= fun b => (pure (.bl (!b)) : R D)) ps' := bind_ok e1
  rw [e2] at n ⊢
  obtain ⟨b, rfl, e3⟩ := asB_ok (ne_of_bind n)
  rw [bind_ok e3]
  have q1 := q1.flat rfl
  unfold Rep at q1
  exact ⟨b, q1, .bl (!b), ps', rfl, x1, p1, rq_bl⟩
theorem dx_bop1 {k : Kd} {op : BoolOp} (h : Dx k X W m a f) : Dx k X W m (.BoolOp op [a] pos) f := ⟨fun g own pins s σ ρ H ps I r n w => (pe_one (pe_c X a)).run pins s σ H _ I (h.c r n w)⟩
theorem dx_and {rest : List Expr} (h1 : Dx .bo X W m a f1) (h2 : Dx .cl X W m (.BoolOp .And (b :: rest) pos) f2) : Dx .cl X W m (.BoolOp .And (a :: b :: rest) pos) (andV f1 f2) := by
  refine ⟨fun g own pins s σ ρ H ps I r n w => ?_⟩
  refine (pe_and (pe_c X a) (pe_c X _)).run pins s σ H _ I (cE.mono (h1.c r (ne_of_bind n) (WOk.left w)) fun v H' ⟨d, ps', e1, x1, p1, q1⟩ => ?_)
  have e2 : andV f1 f2 ρ ps = (asB d >>= fun b => if b = true then f2 ρ else (pure (.bl false) : R D)) ps' := bind_ok e1
  have w1 := WOk.later w x1
  rw [e2] at n w1 ⊢
  obtain ⟨b, rfl, e3⟩ := asB_ok (ne_of_bind n)
  rw [bind_ok e3] at n w1 ⊢
  have q1 := q1.flat rfl
  unfold Rep at q1
  refine ⟨b, q1, ?_⟩
  cases b with
  | false => exact ⟨.bl false, ps', rfl, x1, p1, rq_bl⟩
  | true => exact cE.mono (h2.c (r.mono x1 p1) n w1) (QV.back x1 p1 rfl)
theorem dx_or {rest : List Expr} (h1 : Dx .bo X W m a f1) (h2 : Dx .cl X W m (.BoolOp .Or (b :: rest) pos) f2) : Dx .cl X W m (.BoolOp .Or (a :: b :: rest) pos) (orV f1 f2) := by
  refine ⟨fun g own pins s σ ρ H ps I r n w => ?_⟩
  refine (pe_or (pe_c X a) (pe_c X _)).run pins s σ H _ I (cE.mono (h1.c r (ne_of_bind n) (WOk.left w)) fun v H' ⟨d, ps', e1, x1, p1, q1⟩ => ?_)
  have e2 : orV f1 f2 ρ ps = (asB d >>= fun b => if b = true then (pure (.bl true) : R D) else f2 ρ) ps' := bind_ok e1
  have w1 := WOk.later w x1
  rw [e2] at n w1 ⊢
  obtain ⟨b, rfl, e3⟩ := asB_ok (ne_of_bind n)
  rw [bind_ok e3] at n w1 ⊢
  have q1 := q1.flat rfl
  unfold Rep at q1
  refine ⟨b, q1, ?_⟩
  cases b with
  | true => exact ⟨.bl true, ps', rfl, x1, p1, rq_bl⟩
  | false => exact cE.mono (h2.c (r.mono x1 p1) n w1) (QV.back x1 p1 rfl)

/-! ### slices -/
abbrev FO := Rho → R (Option Int)
def asI : D → R Int
  | .int i => pure i
  | _ => R.und
theorem asI_ok {d : D} {ps : Ps} (n : asI d ps ≠ .und) : ∃ b, d = .int b ∧ asI d ps = .ok b ps := by
  cases d with
  | int b => exact ⟨b, rfl, rfl⟩
  | _ => exact (n rfl).elim
/-- a slice's bound -/
def cO (X : Cx) (e : Option Expr) : TO := fun σ H Q => ∀ pins s, Inv X pins σ H s → wpAny (model X.prog X.w) X.A (evalPart e X.env) (fun u s' => ∃ o H', Inv X pins σ H' s' ∧ IsPart u o ∧ Q o H') X.xe s
theorem po_c (X : Cx) (e : Option Expr) : PO X e (cO X e) := ⟨fun pins s σ H Q I h => h pins s I⟩
theorem cO.mono {e : Option Expr} {σ : L2.St} {H : Hp} {Q Q' : Option Int → Hp → Prop} (h : cO X e σ H Q) (q : ∀ v H, Q v H → Q' v H) : cO X e σ H Q' := fun pins s I => thn (h pins s I) fun _ _ ⟨o, H', I', p, z⟩ => ⟨o, H', I', p, q _ _ z⟩
def QO (pl : Pl) (H : Hp) (r : Res (Option Int)) : Option Int → Hp → Prop := fun o H' => ∃ ps', r = .ok o ps' ∧ Exo (plS pl) H H' ∧ PoolAt pl H' ps'
structure Ox (X : Cx) (W : WX) (m : List Md) (e : Option Expr) (f : FO) : Prop where
  can : ∀ {g : G} {own : Nat → Addr} {σ : L2.St} {ρ : Rho} {H : Hp} {ps : Ps}, Rs X.K g m own σ ρ H ps → f ρ ps ≠ .und → WOk W g.pl X.K (Xs m own g) σ H (f ρ ps) → cO X e σ H (QO g.pl H (f ρ ps))
def noO : FO := fun _ => pure none
def soO (f : FE) : FO := fun ρ => do let d ← f ρ; let i ← asI d; pure (some i)
theorem ox_no : Ox X W m none noO := ⟨fun r n w pins s I => po_none.run pins s _ _ _ I ⟨_, rfl, Exo.refl, r.pool⟩⟩
theorem ox_so (h : Dx .bo X W m e f) : Ox X W m (some e) (soO f) := ⟨fun {g own σ ρ H ps} r n w pins s I => (po_some (pe_c X e)).run pins s _ _ _ I (cE.mono (h.c r (ne_of_bind n) (WOk.left w)) fun v H' ⟨d, ps', e1, x1, p1, q1⟩ => by
  have e2 : soO f ρ ps = (asI d >>= fun i => (pure (some i) : R (Option Int))) ps' := bind_ok e1
  rw [e2] at n ⊢
  obtain ⟨i, rfl, e3⟩ := asI_ok (ne_of_bind n)
  have q1 := q1.flat rfl
  unfold Rep at q1
  exact ⟨i, q1, ps', bind_ok e3, x1, p1⟩)⟩
def cutD (xs : List D) (lo hi : Option Int) : List D := (xs.drop (HT.sIx xs.length 0 lo)).take (HT.sIx xs.length xs.length hi - HT.sIx xs.length 0 lo)
def D.cut (lo hi : Option Int) : D → R D
  | .lst xs => pure (.lst (cutD xs lo hi))
  | _ => R.und
def D.cutT (lo hi : Option Int) : D → R D
  | .str z => if lenC z.length = true then pure (.str (cutS z lo hi)) else R.und
  | _ => R.und
def cutF (G : Option Int → Option Int → D → R D) (f : FE) (fl fh : FO) : FE := fun ρ => do let d ← f ρ; let l ← fl ρ; let h ← fh ρ; G l h d
def SlD (k : Kd) (X : Cx) (r : V → Option Int → Option Int → Hp → VK → Prop) (G : Option Int → Option Int → D → R D) : Prop := ∀ (pl : Pl) (O : Addr → Prop) (H : Hp) (ps : Ps) (d : D) (v : V) (l h : Option Int), (∀ a, O a → H a ≠ none) → PoolAt pl H ps → RepB pl X.K O H d v → G l h d ps ≠ .und → r v l h H (QV k pl X.K O H (G l h d ps))
theorem dx_slice {k : Kd} {r0 : V → Option Int → Option Int → Hp → VK → Prop} {G : Option Int → Option Int → D → R D} {fl fh : FO} (hr0 : SlR X r0) (hG : SlD k X r0 G) (hm : ∀ {v l h H Q Q'}, r0 v l h H Q → (∀ v H, Q v H → Q' v H) → r0 v l h H Q') (h : Dx .bo X W m e f) (hl : Ox X W m lo fl) (hh : Ox X W m hi fh) : Dx k X W m (.Subscript e (.Slice lo hi none p2) pos) (cutF G f fl fh) := by
  refine ⟨fun g own pins s σ ρ H ps I r n w => ?_⟩
  refine (pe_slice hr0 (pe_c X e) (po_c X lo) (po_c X hi)).run pins s σ H _ I (cE.mono (h.c r (ne_of_bind n) (WOk.left w)) fun v H1 ⟨d, ps1, e1, x1, p1, q1⟩ => ?_)
  have e2 : cutF G f fl fh ρ ps = (fl ρ >>= fun l => fh ρ >>= fun h => G l h d) ps1 := bind_ok e1
  have w1 := WOk.later w x1
  rw [e2] at n w1 ⊢
  have r1 := r.mono x1 p1
  refine cO.mono (hl.can r1 (ne_of_bind n) (WOk.left w1)) fun l H2 ⟨ps2, e3, x2, p2, ⟩ => ?_
  have w2 := WOk.later w1 x2
  rw [bind_ok e3] at n w2 ⊢
  have r2 := r1.mono x2 p2
  refine cO.mono (hh.can r2 (ne_of_bind n) (WOk.left w2)) fun l2 H3 ⟨ps3, e4, x3, p3, ⟩ => ?_
  rw [bind_ok e4] at n ⊢
  have r3 := r2.mono x3 p3
  exact hm (hG g.pl (Xs m own g) H3 ps3 d v l l2 r3.xT p3 (RepB.mono Xs.pl (x2.trans x3) q1) n) (QV.back ((x1.trans x2).trans x3) p3 rfl)
theorem sd_list : SlD .fr X (rSlL X.K) D.cut := by
  intro pl O H ps d v l h hT hp q n
  cases d with
  | lst xs =>
    obtain ⟨a, vs, rfl, h1, t1⟩ := q.lst
    refine ⟨a, vs, rfl, .inl (.of h1), fun p hpn => laid_fr hT hp hpn (ds := cutD xs l h) ?_ rfl⟩
    unfold cutV cutD
    rw [t1.length]
    exact (t1.drop _).take _
  | _ => exact (n rfl).elim
theorem sd_str : SlD .cl X rSlS D.cutT := by
  intro pl O H ps d v l h hT hp q n
  cases d with
  | str z =>
    have q := q.flat rfl
    unfold Rep at q
    obtain ⟨h1, h2⟩ := if_und n
    exact ⟨z, q, lenC_ok h1, .str (cutS z l h), ps, h2, Exo.refl, hp, rq_str⟩
  | _ => exact (n rfl).elim
theorem dx_cut {fl fh : FO} (h : Dx .bo X W m e f) (hl : Ox X W m lo fl) (hh : Ox X W m hi fh) : Dx .fr X W m (.Subscript e (.Slice lo hi none p2) pos) (cutF D.cut f fl fh) :=
  dx_slice sl_list sd_list (fun ⟨a, xs, h1, h2, h3⟩ q => ⟨a, xs, h1, h2, fun p z => q _ _ (h3 p z)⟩) h hl hh
theorem dx_cutT {fl fh : FO} (h : Dx .bo X W m e f) (hl : Ox X W m lo fl) (hh : Ox X W m hi fh) : Dx .cl X W m (.Subscript e (.Slice lo hi none p2) pos) (cutF D.cutT f fl fh) :=
  dx_slice sl_str sd_str (fun ⟨z, h1, h2, h3⟩ q => ⟨z, h1, h2, q _ _ h3⟩) h hl hh
/-- xs[::-1] -/
def D.rev : D → R D
  | .lst xs => pure (.lst xs.reverse)
  | _ => R.und
def revF (f : FE) : FE := fun ρ => do let d ← f ρ; D.rev d
theorem dx_rev {k : Nat} {p1 p2 p3 pos : Pos} (h : Dx .bo X W m e f) : Dx .fr X W m (.Subscript e (.Slice none none (some (.UnaryOp .USub (.Constant (.int 1) k p1) p2)) p3) pos) (revF f) := by
  refine ⟨fun g own pins s σ ρ H ps I r n w => ?_⟩
  refine (pe_revL (pe_c X e)).run pins s σ H _ I (cE.mono (h.c r (ne_of_bind n) (WOk.left w)) fun v H1 ⟨d, ps1, e1, x1, p1, q1⟩ => ?_)
  have e2 : revF f ρ ps = D.rev d ps1 := bind_ok e1
  rw [e2] at n ⊢
  cases d with
  | lst xs =>
    obtain ⟨a, vs, rfl, h1, t1⟩ := q1.lst
    exact ⟨a, vs, rfl, .inl (.of h1), fun p hpn => QV.back x1 p1 rfl _ _ (laid_fr (r.mono x1 p1).xT p1 hpn t1.reverse rfl)⟩
  | _ => exact (n rfl).elim

/-! ### isinstance -/
inductive Tk where
  | non | bl | int | str | lst | tup | dct | ins (C : Addr)
  deriving DecidableEq
def Tk.val : Tk → Value
  | .non => .type "NoneType" | .bl => .type "bool" | .int => .type "int" | .str => .type "str" | .lst => .type "list" | .tup => .type "tuple" | .dct => .type "dict" | .ins C => .ref C
def D.tk : D → Option Tk
  | .non => some .non | .bl _ => some .bl | .int _ => some .int | .str _ => some .str | .lst _ => some .lst | .tup _ => some .tup | .dk _ => some .dct | .ins C _ => some (.ins C) | _ => none
structure InsOk (K : PySem.W.Frag) (C : Addr) : Prop where
  cl : Cls K C
  ha : PySem.W.findIn K (.ref C) "__class__" = some (some (.builtin "object.__class__"))
  hn : PySem.W.specialIn K (.builtin "object.__class__") "__get__" = some (some (.builtin "getset_descriptor.__get__"))
  htk : PySem.W.takesIn K (.builtin "object.__class__") = some true
  hm : PySem.W.mroIn K C (.type "object") = some true
/-- which types' instances a class has: ans -/
structure IsTb (K : PySem.W.Frag) (c : V) (ans : Tk → Option Bool) : Prop where
  ok : ∃ u, ClsV c u ∧ ∀ t b, ans t = some b → PySem.W.kitOne K t.val u = some b
  ins : ∀ C b, ans (.ins C) = some b → InsOk K C
def D.isi (ans : Tk → Option Bool) (d : D) : R D := ofO ((d.tk.bind ans).map .bl)
theorem tyx_of {pl : Pl} {K : PySem.W.Frag} {O : Addr → Prop} {H : Hp} {d : D} {v : V} {t : Tk} (h : RepB pl K O H d v) (e : d.tk = some t) (hi : ∀ C, t = .ins C → InsOk K C) : TyX K H v t.val := by
  cases d with
  | non => cases e; have h := h.flat rfl; unfold Rep at h; subst h; exact .base .non
  | bl b => cases e; have h := h.flat rfl; unfold Rep at h; subst h; exact .base (.bl _)
  | int b => cases e; have h := h.flat rfl; unfold Rep at h; subst h; exact .base (.int _)
  | str b => cases e; have h := h.flat rfl; unfold Rep at h; subst h; exact .base (.str _)
  | lst xs => cases e; obtain ⟨p, vs, rfl, h1, _⟩ := h.lst; exact .base (.lst h1)
  | tup xs =>
    cases e
    obtain ⟨p, vs, rfl, h1, _⟩ := h.tup
    rcases h1 with (h1 | ⟨o, h1⟩) | ⟨o, its, n, h1, h2, _⟩
    · exact .base (.tup h1)
    · exact .fTuple h1
    · exact .kTuple h1 h2
  | dk kvs =>
    cases e
    obtain ⟨p, vs, rfl, h1, _⟩ := h.dk
    rcases h1 with h1 | ⟨o, h1⟩
    · exact .base (.dK h1)
    · exact .fDict h1
  | ins C fs =>
    cases e
    obtain ⟨p, dx, vs, rfl, h1, _⟩ := h.ins
    obtain ⟨a1, a2, a3, a4, a5⟩ := hi C rfl
    exact .base (.ins h1 a1 a2 a3 a4 a5)
  | _ => cases e
/-- isinstance(x, c), c a class by name -/
theorem cd_isi {c : V} {ans : Tk → Option Bool} (hT : IsTb X.K c ans) : CallD .cl X (.builtin "isinstance") [.sb, .sb] (two fun d k => match k with | .ob v => if v = c then D.isi ans d else R.und | _ => R.und) := by
  intro pl O pins s σ H ps ds vs us I hO hT' p ha rv n
  obtain ⟨d1, d2, v1, v2, rfl, rfl, h1, h2⟩ := args2 ha
  cases d2 with
  | ob v =>
    have h2 := h2.flat rfl
    unfold Rep at h2
    subst h2
    by_cases e : v2 = c
    · subst e
      have en : (two fun d k => match k with | .ob v => if v = v2 then D.isi ans d else R.und | _ => R.und) [d1, .ob v2] ps = D.isi ans d1 ps := by
        show (if v2 = v2 then D.isi ans d1 else R.und) ps = _
        rw [if_pos rfl]
      rw [en] at n ⊢
      obtain ⟨b, e1, e2⟩ := mapD_ok n
      obtain ⟨t, e3, e4⟩ := Option.bind_eq_some_iff.mp e1
      obtain ⟨u, k1, k2⟩ := hT.ok
      exact call_isi pins s σ H _ us _ I rv ⟨v1, v2, t.val, u, b, rfl, k1, tyx_of h1 e3 (fun C z => by subst z; exact hT.ins C b e4), k2 t b e4, qv_bl p e2⟩
    · refine (n ?_).elim
      show (if v2 = c then D.isi ans d1 else R.und) ps = _
      rw [if_neg e]; rfl
  | _ => exact (n rfl).elim
end
end DL
set_option Elab.async false
set_option linter.all false
set_option maxRecDepth 100000
set_option maxHeartbeats 2000000
/-! D20: a hidden object; dict displays; star displays; list * int; dict(..), list(dict). -/
namespace DL
open PySem PySem.Spec PyProof.Rows L2
/-- one more object is hidden -/
def G.hd (g : G) (p : Addr) : G := { g with E := fun a => g.E a ∨ a = p }
section
variable {K : PySem.W.Frag} {g : G} {m : List Md} {own : Nat → Addr} {σ : L2.St} {ρ : Rho} {H : Hp} {ps : Ps} {p : Addr} {o : HO}
theorem Xs.hd_in : ∀ a, Xs m own g a → Xs m own (g.hd p) a := fun a h => by
  rcases h with h | h | h
  · exact .inl (.inl h)
  · exact .inr (.inl h)
  · exact .inr (.inr h)
theorem Xs.hd_out : ∀ a, Xs m own (g.hd p) a → Xs m own g a ∨ a = p := fun a h => by
  rcases h with (h | h) | h | h
  · exact .inl (.inl h)
  · exact .inr h
  · exact .inl (.inr (.inl h))
  · exact .inl (.inr (.inr h))
theorem Rs.hide (r : Rs K g m own σ ρ H ps) (hp : H p = none) : Rs K (g.hd p) m own σ ρ (upd H p o) ps := by
  have ex : Ex (hid (Xs m own g) H) (hid (Xs m own (g.hd p)) (upd H p o)) := fun a u q => by
    obtain ⟨n, q⟩ := hid_of q
    have na : a ≠ p := ne_of_none q hp
    rw [hid_at (fun z => (Xs.hd_out a z).elim n na), upd_ne na]
    exact q
  have far : ∀ (i : Nat), (m[i]? = some .ow ∨ m[i]? = some .io) → own i ≠ p := fun i q z => by
    obtain ⟨d, _, _, t, _⟩ := r.ow i q
    obtain ⟨u, hu⟩ := t.some
    rw [z, hp] at hu; cases hu
  exact {
    len := r.len
    sh := fun i d h1 h2 => let ⟨v, h3, h4⟩ := r.sh i d h1 h2; ⟨v, h3, h4.mono ex⟩
    ow := fun i q => by
      obtain ⟨d, h1, h2, t, h4, h5⟩ := r.ow i q
      exact ⟨d, h1, h2, by rw [upd_ne (far i q)]; exact t.mono ex, h4, h5⟩
    sb := fun i d h1 h2 => by
      obtain ⟨v, h3, h4⟩ := r.sb i d h1 h2
      refine ⟨v, h3, ?_⟩
      rcases h4 with h4 | ⟨a, ea, np, no, t⟩
      · exact .inl (h4.mono ex)
      · obtain ⟨u, hu⟩ := t.some
        exact .inr ⟨a, ea, np, no, by rw [upd_ne (ne_of_none hu hp)]; exact t.mono ex⟩
    xc := fun i a dx q => by
      obtain ⟨d, h1, h2, t, h4⟩ := r.xc i a dx q
      obtain ⟨u, hu⟩ := t.some
      exact ⟨d, h1, h2, by rw [upd_ne (ne_of_none hu hp)]; exact t.mono ex, h4⟩
    ex := fun q hq => (r.ex q hq).mono ex
    sx := fun q hq => let ⟨v, h1, h2⟩ := r.sx q hq; ⟨v, h1, h2.mono ex⟩
    inj := r.inj
    nE := fun i q z => by
      rcases z with z | z
      · exact r.nE i q z
      · exact far i (.inl q) z
    base := r.base.trans (Exo.new hp)
    pool := r.pool.new hp
    eT := fun a z => by
      rcases z with z | z
      · by_cases e : a = p
        · rw [e, upd_same]; exact fun z => nomatch z
        · rw [upd_ne e]; exact r.eT a z
      · rw [z, upd_same]; exact fun z => nomatch z }
theorem WOk.hide {α : Type} {W : WX} {r : Res α} (w : WOk W g.pl K (Xs m own g) σ H r) (hp : H p = none) : WOk W (g.hd p).pl K (Xs m own (g.hd p)) σ (upd H p o) r :=
  fun x ps' dx H' e e2 e3 ⟨vs, e4, e5⟩ => w x ps' dx H' e ((Exo.new hp).trans e2) e3 ⟨vs, e4, e5.mono (hid_sub Xs.hd_in)⟩
/-- back: the object gets what it is to hold -/
theorem ex_unhide {H2 : Hp} {o2 : HO} (np : ¬ Xs m own g p) : Ex (hid (Xs m own (g.hd p)) H2) (hid (Xs m own g) (upd H2 p o2)) := fun a u q => by
  obtain ⟨n, q⟩ := hid_of q
  have na : a ≠ p := fun z => n (.inl (.inr z))
  rw [hid_at (fun z => n (Xs.hd_in a z)), upd_ne na]
  exact q
theorem ex_unhideF {H2 : Hp} {o2 : HO} : Ex (hid (Xs m own (g.hd p)) H2) (hid (fun a => Xs m own g a ∨ a = p) (upd H2 p o2)) := fun a u q => by
  obtain ⟨n, q⟩ := hid_of q
  have na : a ≠ p := fun z => n (.inl (.inr z))
  rw [hid_at (fun z => z.elim (fun z => n (Xs.hd_in a z)) na), upd_ne na]
  exact q
theorem exo_unhide {H2 : Hp} {pl : Pl} {o2 : HO} (hp : H p = none) (e : Exo (plS pl) (upd H p o) H2) : Exo (plS pl) H (upd H2 p o2) := fun a u h n => by
  have na : a ≠ p := ne_of_none h hp
  rw [upd_ne na]
  exact e a u (by rw [upd_ne na]; exact h) n
theorem pool_unhide {H2 : Hp} {o2 : HO} {pl : Pl} {ps2 : Ps} (np : ¬ plS pl p) (h : PoolAt pl H2 ps2) : PoolAt pl (upd H2 p o2) ps2 := h.keep fun a ha => upd_ne fun z => np (by rw [← z]; exact ha)
theorem Rs.npl (r : Rs K g m own σ ρ H ps) (hp : H p = none) : ¬ plS g.pl p := fun z => r.pool.there z hp
end
section
variable {X : Cx} {W : WX} {J : JP} {m m' m2 ms : List Md} {e a b c o : Expr} {es : List Expr} {f f1 f2 f3 fo fk fv : FE} {t : FT} {pos p2 p1' : Pos} {fs : FA}
theorem laid_dk {pl : Pl} {K : PySem.W.Frag} {O : Addr → Prop} {H : Hp} {ps : Ps} {p : Addr} {vs : List (Key × V)} {ds : List (Key × D)} {r : Res D} (hO : ∀ a, O a → H a ≠ none) (hP : PoolAt pl H ps) (hp : H p = none) (hr : RepK pl K (hid O H) ds vs) (e : r = .ok (.dk ds) ps) :
    QV .fr pl K O H r (.ref p) (upd H p (.dK vs)) := by
  refine ⟨_, _, e, Exo.new hp, hP.new hp, p, rfl, hp, vs, upd_same, hr.mono fun a o q => ?_⟩
  obtain ⟨n, q⟩ := hid_of q
  have na : a ≠ p := ne_of_none q hp
  rw [hid_at (by rintro (z | z); exact n z; exact na z), upd_ne na]
  exact q
def dnF : FE := fun _ => pure (.dk [])
theorem dx_dnew : Dx .fr X W m (.Dict [] [] pos) dnF := .of pe_dnewK fun g own σ ρ H ps r n w => fun p hp => laid_dk r.xT r.pool hp (by unfold RepK; rfl) rfl

/-! ### {k: v, ..} -/
abbrev FP := Rho → R (List (Key × D))
def cP (X : Cx) (pos : Pos) (ks : List (Option Expr)) (vs : List Expr) (σ : L2.St) (H : Hp) (Q : List (V × V) → Hp → Prop) : Prop := ∀ pins s, Inv X pins σ H s →
  wpAny (model X.prog X.w) X.A (evalPairs (pairTrees ks vs X.env pos)) (fun us s' => ∃ ps H', Inv X pins σ H' s' ∧ VV ps us ∧ Q ps H') X.xe s
def repPairs (pl : Pl) (K : PySem.W.Frag) (H : Hp) : List (Key × D) → List (V × V) → Prop
  | [], vs => vs = []
  | (k, d) :: r, vs => ∃ v t, vs = (kV k, v) :: t ∧ Rep pl K H d v ∧ repPairs pl K H r t
theorem repPairs.mono {pl : Pl} {K : PySem.W.Frag} {H H' : Hp} (e : Ex H H') : ∀ {ds : List (Key × D)} {vs : List (V × V)}, repPairs pl K H ds vs → repPairs pl K H' ds vs
  | [], _, h => h
  | (k, d) :: r, _, ⟨v, t, e1, e2, e3⟩ => ⟨v, t, e1, e2.mono e, repPairs.mono e e3⟩
theorem repPairs.kvs {pl : Pl} {K : PySem.W.Frag} {H : Hp} : ∀ {ds : List (Key × D)} {vs : List (V × V)}, repPairs pl K H ds vs → ∃ kvs : List (Key × V), vs = kvs.map (fun kv => (kV kv.1, kv.2)) ∧ RepK pl K H ds kvs
  | [], _, h => ⟨[], by rw [show _ = [] from h]; rfl, by unfold RepK; rfl⟩
  | (k, d) :: r, _, ⟨v, t, e1, e2, e3⟩ => by
    obtain ⟨kvs, e4, e5⟩ := repPairs.kvs e3
    exact ⟨(k, v) :: kvs, by rw [e1, e4]; rfl, by unfold RepK; exact ⟨v, kvs, rfl, e2, e5⟩⟩
def QP (pl : Pl) (K : PySem.W.Frag) (O : Addr → Prop) (H : Hp) (r : Res (List (Key × D))) : List (V × V) → Hp → Prop := fun vs H' => ∃ ds ps', r = .ok ds ps' ∧ Exo (plS pl) H H' ∧ PoolAt pl H' ps' ∧ repPairs pl K (hid O H') ds vs
/-- the pairs of a display -/
structure Px (X : Cx) (W : WX) (m : List Md) (pos : Pos) (ks : List (Option Expr)) (vs : List Expr) (f : FP) : Prop where
  can : ∀ {g : G} {own : Nat → Addr} {σ : L2.St} {ρ : Rho} {H : Hp} {ps : Ps}, Rs X.K g m own σ ρ H ps → f ρ ps ≠ .und → WOk W g.pl X.K (Xs m own g) σ H (f ρ ps) → cP X pos ks vs σ H (QP g.pl X.K (Xs m own g) H (f ρ ps))
def pnF : FP := fun _ => pure []
def pcF (fk fv : FE) (fr : FP) : FP := fun ρ => do let k ← fk ρ; let v ← fv ρ; let r ← fr ρ; let k ← ofO (keyOf k); pure ((k, v) :: r)
theorem px_nil : Px X W m pos [] [] pnF := ⟨fun r n w pins s I => pairTrees_nil_walk ⟨[], _, I, .nil, [], _, rfl, Exo.refl, r.pool, rfl⟩⟩
theorem px_cons {ks : List (Option Expr)} {vs : List Expr} {fr : FP} (hk : Dx .bo X W m a fk) (hv : Dx .cl X W m b fv) (hr : Px X W m pos ks vs fr) : Px X W m pos (some a :: ks) (b :: vs) (pcF fk fv fr) := by
  refine ⟨fun {g own σ ρ H ps} r n w pins s I => ?_⟩
  refine pairTrees_cons_walk (thn (hk.run g own pins s σ ρ H ps I r (ne_of_bind n) (WOk.left w)) fun u s1 ⟨x, H1, I1, rx, d1, ps1, e1, x1, p1, q1⟩ => ?_)
  have w1 := WOk.later w x1
  have c1 : pcF fk fv fr ρ ps = (fv ρ >>= fun v => fr ρ >>= fun r => ofO (keyOf d1) >>= fun k => (pure ((k, v) :: r) : R (List (Key × D)))) ps1 := bind_ok e1
  rw [c1] at n w1 ⊢
  have r1 := r.mono x1 p1
  refine thn (hv.run g own pins s1 σ ρ H1 ps1 I1 r1 (ne_of_bind n) (WOk.left w1)) fun u2 s2 ⟨y, H2, I2, ry, d2, ps2, e2, x2, p2, q2⟩ => ?_
  have w2 := WOk.later w1 x2
  rw [bind_ok e2] at n w2 ⊢
  have r2 := r1.mono x2 p2
  refine thn (hr.can r2 (ne_of_bind n) (WOk.left w2) pins s2 I2) fun ws s3 ⟨vs, H3, I3, rel, ds, ps3, e3, x3, p3, q3⟩ => ?_
  rw [bind_ok e3] at n ⊢
  obtain ⟨k, k1, k2⟩ := ofO_ne (ne_of_bind n)
  rw [bind_ok k2]
  have ek := keyOf_rep (RepB.mono Xs.pl (x2.trans x3) q1).full k1
  subst ek
  exact ⟨(kV k, y) :: vs, H3, I3, .cons ⟨rx, ry⟩ rel, (k, d2) :: ds, ps3, rfl, (x1.trans x2).trans x3, p3, y, vs, rfl, Rep.mono (x3.hid Xs.pl) q2, q3⟩
def mergeD (kvs more : List (Key × D)) : List (Key × D) := more.foldl (fun acc kv => putD acc kv.1 kv.2) kvs
theorem RepK.merge {pl : Pl} {K : PySem.W.Frag} {H : Hp} : ∀ {more : List (Key × D)} {mv : List (Key × V)} {kvs : List (Key × D)} {vs : List (Key × V)}, RepK pl K H kvs vs → RepK pl K H more mv → RepK pl K H (mergeD kvs more) (mergeK vs mv)
  | [], _, _, _, h, t => by unfold RepK at t; rw [t]; exact h
  | (k, d) :: r, _, _, _, h, t => by
    unfold RepK at t
    obtain ⟨v, r', rfl, h2, h3⟩ := t
    exact RepK.merge (kvs := putD _ k d) (vs := putK _ k v) (h.put k h2) h3
def dsF (fp : FP) : FE := fun ρ => do let kvs ← fp ρ; if decide (kvs.length ≤ 15) = true then pure (.dk (mergeD [] kvs)) else R.und
theorem dx_disp {ks : List (Option Expr)} {vs : List Expr} {fp : FP} (h : Px X W m pos ks vs fp) (hall : ks.all (·.isSome) = true := by rfl) (hl : ks.length = vs.length := by rfl) (h0 : ks ≠ [] := by exact fun z => nomatch z) (h15 : ks.length ≤ 15 := by decide) : Dx .fr X W m (.Dict ks vs pos) (dsF fp) := by
  refine ⟨fun g own pins s σ ρ H ps I r n w => ?_⟩
  have hn := I.hok.fresh (Nat.le_refl s.heap.objs.size)
  have I1 := I.laid (a := s.heap.objs.size) (o := .dK []) (h' := s.heap.push { cls := .type "dict", data := .dict #[] }) (t' := s.toks) (fun _ _ q => Heap.get?_push_of_some _ q) (Nat.le_refl _) (dk_empty s.heap I.big)
  have np : ¬ Xs m own g s.heap.objs.size := fun z => r.xT _ z hn
  have npl := r.npl hn
  refine wpAny_Dict_walk (knd := mixKind X.prog X.w) hall hl h0 h15 (thn (h.can (g := g.hd s.heap.objs.size) (own := own) (r.hide (o := .dK []) hn) (ne_of_bind n) ((WOk.left w).hide hn) pins _ I1) fun ws s2 ⟨vs, H2, I2, rel, ds, ps2, e2, x2, p2, q2⟩ => ?_)
  obtain ⟨kvs, rfl, q3⟩ := q2.kvs
  have hfix : H2 s.heap.objs.size = some (.dK []) := x2 _ _ upd_same npl
  obtain ⟨rs, c, rk⟩ := carries_of (P := X.prog) (w := X.w) rel
  obtain ⟨z, hd, vs0, r0, dd⟩ := dk_of I2.hok hfix
  cases r0
  have c2 : dsF fp ρ ps = (if decide (ds.length ≤ 15) = true then (pure (.dk (mergeD [] ds)) : R D) else R.und) ps2 := bind_ok e2
  rw [c2] at n ⊢
  obtain ⟨hc, he⟩ := if_und n
  rw [he]
  have hc := of_decide_eq_true hc
  refine ⟨rs, c, dd, fun h' dd' hs => ⟨.ref s.heap.objs.size, upd H2 s.heap.objs.size (.dK (mergeK [] kvs)), ?_, rfl, .dk (mergeD [] ds), ps2, rfl, exo_unhide hn x2, pool_unhide npl p2, s.heap.objs.size, rfl, hn, mergeK [] kvs, upd_same, ?_⟩⟩
  · have hz : (mergeK [] kvs).length ≤ sizeLine := by
      have h1 := length_mergeK kvs []
      rw [List.length_nil, q3.length] at h1
      rw [sizeLine_eq]; omega
    have he : ∃ q, h'.get? s.heap.objs.size = some q := let ⟨q, _, _, hq, _⟩ := dd'; ⟨q, hq⟩
    exact d_write I2 (by rw [hfix]; exact True.intro) hs he (dk_new hz hd (rk.merge .nil) dd')
  · exact RepK.mono ex_unhideF (RepK.merge (by unfold RepK; rfl) q3)

/-! ### [*xs, y] -/
def QL (pl : Pl) (K : PySem.W.Frag) (O : Addr → Prop) (H : Hp) (r : Res (List D)) : List V → Hp → Prop := fun vs H' => ∃ ds ps', r = .ok ds ps' ∧ Exo (plS pl) H H' ∧ PoolAt pl H' ps' ∧ Reps pl K (hid O H') ds vs
structure Lx (X : Cx) (W : WX) (m : List Md) (es : List Expr) (f : FA) : Prop where
  can : ∀ {g : G} {own : Nat → Addr} {σ : L2.St} {ρ : Rho} {H : Hp} {ps : Ps}, Rs X.K g m own σ ρ H ps → f ρ ps ≠ .und → WOk W g.pl X.K (Xs m own g) σ H (f ρ ps) → cA X es σ H (QL g.pl X.K (Xs m own g) H (f ρ ps))
theorem lx_nil : Lx X W m [] nilF := ⟨fun r n w pos pins s I => pa_nil.run pos pins s _ _ _ I ⟨[], _, rfl, Exo.refl, r.pool, Reps.nil⟩⟩
theorem lx_cons (h1 : Dx .cl X W m e f) (h2 : Lx X W m es fs) (hs : starEach (e :: es) X.env = (false, eval e X.env) :: starEach es X.env := by rfl) : Lx X W m (e :: es) (consF f fs) := by
  refine ⟨fun {g own σ ρ H ps} r n w pos pins s I => ?_⟩
  refine (pa_cons (pe_c X e) (pa_c X es) hs).run pos pins s σ H _ I (cE.mono (h1.c r (ne_of_bind n) (WOk.left w)) fun v H1 ⟨d, ps1, e1, x1, p1, q1⟩ => ?_)
  have c1 : consF f fs ρ ps = (fs ρ >>= fun ds => pure (d :: ds)) ps1 := bind_ok e1
  have w1 := WOk.later w x1
  rw [c1] at n w1 ⊢
  refine cA.mono (h2.can (r.mono x1 p1) (ne_of_bind n) (WOk.left w1)) fun vs H2 ⟨ds, ps2, e2, x2, p2, q2⟩ => ?_
  exact ⟨d :: ds, ps2, bind_ok e2, x1.trans x2, p2, Reps.cons (Rep.mono (x2.hid Xs.pl) q1) q2⟩
def seqOf : D → R (List D)
  | .lst xs => pure xs
  | .tup xs => pure xs
  | _ => R.und
def starF (f : FE) (fs : FA) : FA := fun ρ => do let d ← f ρ; let xs ← seqOf d; let ds ← fs ρ; pure (xs ++ ds)
theorem seqOf_ne {d : D} {ps : Ps} (n : seqOf d ps ≠ .und) : ∃ xs, (d = .lst xs ∨ d = .tup xs) ∧ seqOf d ps = .ok xs ps := by
  cases d with
  | lst xs => exact ⟨xs, .inl rfl, rfl⟩
  | tup xs => exact ⟨xs, .inr rfl, rfl⟩
  | _ => exact (n rfl).elim
theorem lx_star (h1 : Dx .bo X W m e f) (h2 : Lx X W m es fs) (hs : starEach (.Starred e pos :: es) X.env = (true, eval e X.env) :: starEach es X.env := by rfl) : Lx X W m (.Starred e pos :: es) (starF f fs) := by
  refine ⟨fun {g own σ ρ H ps} r n w pos pins s I => ?_⟩
  refine (StX.pa_star (pe_c X e) (pa_c X es) hs).run pos pins s σ H _ I (cE.mono (h1.c r (ne_of_bind n) (WOk.left w)) fun v H1 ⟨d, ps1, e1, x1, p1, q1⟩ => ?_)
  have c1 : starF f fs ρ ps = (seqOf d >>= fun xs => fs ρ >>= fun ds => (pure (xs ++ ds) : R (List D))) ps1 := bind_ok e1
  have w1 := WOk.later w x1
  rw [c1] at n w1 ⊢
  obtain ⟨xs, hd, e2⟩ := seqOf_ne (ne_of_bind n)
  rw [bind_ok e2] at n w1 ⊢
  have fin : ∀ {vs : List V}, Reps g.pl X.K (hid (Xs m own g) H1) xs vs → cA X es σ H1 fun ys H2 => QL g.pl X.K (Xs m own g) H ((fs ρ >>= fun ds => (pure (xs ++ ds) : R (List D))) ps1) (vs ++ ys) H2 := fun t1 =>
    cA.mono (h2.can (r.mono x1 p1) (ne_of_bind n) (WOk.left w1)) fun ys H2 ⟨ds, ps2, e3, x2, p2, q2⟩ => ⟨xs ++ ds, ps2, bind_ok e3, x1.trans x2, p2, (t1.mono (x2.hid Xs.pl)).append q2⟩
  rcases hd with rfl | rfl
  · obtain ⟨p, vs, rfl, h1, t1⟩ := q1.lst
    exact ⟨p, vs, rfl, .inr (.inl (.of h1)), fin t1⟩
  · obtain ⟨p, vs, rfl, h1, t1⟩ := q1.tup
    exact ⟨p, vs, rfl, .inl h1, fin t1⟩
theorem dx_lstX (h : Lx X W m es fs) : Dx .fr X W m (.List es pos) (lstF fs) := by
  refine ⟨fun g own pins s σ ρ H ps I r n w => ?_⟩
  refine (pe_lst (pa_c X es)).run pins s σ H _ I (cA.mono (h.can r (ne_of_bind n) (WOk.left w)) fun vs H1 ⟨ds, ps1, e1, x1, p1, t1⟩ => ?_)
  have e2 : lstF fs ρ ps = (if lenC ds.length = true then pure (.lst ds) else R.und) ps1 := bind_ok e1
  rw [e2] at n ⊢
  obtain ⟨hc, he⟩ := if_und n
  rw [he]
  refine ⟨by rw [t1.length]; exact lenC_ok hc, fun l hl => ?_⟩
  exact QV.back x1 p1 rfl _ _ (laid_fr (r.mono x1 p1).xT p1 hl t1 rfl)
theorem dx_tupX {x1 : Nat} (h : Lx X W m es fs) : Dx .cl X W m (.Tuple es x1 pos) (tupF fs) := by
  refine ⟨fun g own pins s σ ρ H ps I r n w => ?_⟩
  refine (pe_tup (pa_c X es)).run pins s σ H _ I (cA.mono (h.can r (ne_of_bind n) (WOk.left w)) fun vs H1 ⟨ds, ps1, e1, x1, p1, t1⟩ => ?_)
  have e2 : tupF fs ρ ps = (if lenC ds.length = true then pure (.tup ds) else R.und) ps1 := bind_ok e1
  rw [e2] at n ⊢
  obtain ⟨hc, he⟩ := if_und n
  rw [he]
  refine ⟨by rw [t1.length]; exact lenC_ok hc, fun l hl => ?_⟩
  exact QV.back x1 p1 rfl _ _ (laid_tup (r.mono x1 p1).xT p1 hl t1 rfl)

/-! ### xs * k; dict(..); list(..) -/
def D.rep : D → D → R D
  | .lst xs, .int k => if (decide (-1000000 ≤ k) && decide (k ≤ 1000000) && lenC (xs.length * k.toNat)) = true then pure (.lst (List.replicate k.toNat xs).flatten) else R.und
  | _, _ => R.und
theorem od_rep : OpD .fr X (binaryOp .Mult) D.rep := by
  intro pl O pins s σ H ps d1 d2 x y u v I hO hT p r1 r2 rx ry n
  cases d1 with
  | lst xs =>
    cases d2 with
    | int k =>
      obtain ⟨hc, he⟩ := if_und n
      rw [Bool.and_eq_true, Bool.and_eq_true] at hc
      obtain ⟨⟨h1, h2⟩, h3⟩ := hc
      have h1 := of_decide_eq_true h1
      have h2 := of_decide_eq_true h2
      obtain ⟨q, vs, rfl, g1, t1⟩ := r1.lst
      have r2 := r2.flat rfl
      unfold Rep at r2
      subst r2
      exact op_rep pins s σ H _ _ u v _ I rx ry ⟨q, k, vs, rfl, rfl, g1, by omega, by omega, by rw [t1.length]; exact lenC_ok h3, fun z hz => laid_fr hT p hz (t1.many _) he⟩
    | _ => exact (n rfl).elim
  | _ => exact (n rfl).elim
def D.toDict : D → R D
  | .dk kvs => pure (.dk kvs)
  | _ => R.und
theorem cd_dict : CallD .fr X (.type "dict") [.sb] (one D.toDict) := by
  intro pl O pins s σ H ps ds vs us I hO hT p ha rv n
  obtain ⟨d, v, rfl, rfl, h⟩ := args1 ha
  cases d with
  | dk kvs =>
    obtain ⟨q, ws, rfl, h1, t1⟩ := h.dk
    exact call_dictD pins s σ H _ us _ I rv ⟨q, ws, rfl, h1, fun l hl => laid_dk hT p hl t1 rfl⟩
  | _ => exact (n rfl).elim
def keyD : Key → D
  | .inl i => .int i
  | .inr s => .str s
theorem keyD_rep {pl : Pl} {K : PySem.W.Frag} {H : Hp} (k : Key) : Rep pl K H (keyD k) (kV k) := by
  cases k <;> (unfold Rep keyD; rfl)
theorem RepK.keysR {pl : Pl} {K : PySem.W.Frag} {H H' : Hp} : ∀ {kvs : List (Key × D)} {vs : List (Key × V)}, RepK pl K H kvs vs → Reps pl K H' (kvs.map fun kv => keyD kv.1) (vs.map fun kv => kV kv.1)
  | [], _, h => by unfold RepK at h; rw [h]; exact Reps.nil
  | (k, d) :: r, _, h => by
    unfold RepK at h
    obtain ⟨v, r', rfl, h2, h3⟩ := h
    exact Reps.cons (keyD_rep k) (RepK.keysR h3)
def D.keysL : D → R D
  | .dk kvs => pure (.lst (kvs.map fun kv => keyD kv.1))
  | _ => R.und
theorem cd_listK (hc : X.calm = true) : CallD .fr X (.type "list") [.sb] (one D.keysL) := by
  intro pl O pins s σ H ps ds vs us I hO hT p ha rv n
  obtain ⟨d, v, rfl, rfl, h⟩ := args1 ha
  cases d with
  | dk kvs =>
    obtain ⟨q, ws, rfl, h1, t1⟩ := h.dk
    exact call_listD hc pins s σ H _ us _ I rv ⟨q, ws, rfl, h1, fun l hl => laid_fr hT p hl t1.keysR rfl⟩
  | _ => exact (n rfl).elim
/-- dict([(k, v), ..]) -/
def pairsD : List D → Option (List (Key × D))
  | [] => some []
  | .tup [a, b] :: r => match keyOf a, pairsD r with
    | some k, some t => some ((k, b) :: t)
    | _, _ => none
  | _ => none
theorem pairsD_rep {pl : Pl} {K : PySem.W.Frag} {H : Hp} : ∀ {ds : List D} {vs : List V} {kvs : List (Key × D)}, Reps pl K H ds vs → pairsD ds = some kvs → ∃ (as : List Addr) (ws : List (Key × V)), vs = as.map V.ref ∧ Paired (fun p kv => SqT K H p [kV kv.1, kv.2]) as ws ∧ RepK pl K H kvs ws
  | [], _, kvs, h, e => by
    cases e; exact ⟨[], [], h.inv_nil, .nil, by unfold RepK; rfl⟩
  | d :: r, _, kvs, h, e => by
    obtain ⟨v, t, rfl, h2, h3⟩ := h.inv_cons
    unfold pairsD at e
    split at e
    · cases ‹_ :: _ = []›
    · rename_i a b r' heq
      cases heq
      cases h4 : keyOf a with
      | none => rw [h4] at e; cases e
      | some k =>
        cases h5 : pairsD r with
        | none => rw [h4, h5] at e; cases e
        | some t' =>
          rw [h4, h5] at e
          cases e
          obtain ⟨as, ws, rfl, q1, q2⟩ := pairsD_rep h3 h5
          unfold Rep at h2
          obtain ⟨p, us, rfl, g1, g2⟩ := h2
          obtain ⟨u1, us1, rfl, g3, g4⟩ := g2.inv_cons
          obtain ⟨u2, us2, rfl, g5, g6⟩ := g4.inv_cons
          have g6 := g6.inv_nil
          subst g6
          have := keyOf_rep g3 h4
          subst this
          exact ⟨p :: as, (k, u2) :: ws, rfl, .cons g1 q1, by unfold RepK; exact ⟨u2, ws, rfl, g5, q2⟩⟩
    · cases e
def D.pairs : D → R D
  | .lst ds => ofO ((pairsD ds).map fun kvs => .dk (mergeD [] kvs))
  | _ => R.und
theorem cd_dictP (hc : X.calm = true) : CallD .fr X (.type "dict") [.sb] (one D.pairs) := by
  intro pl O pins s σ H ps ds vs us I hO hT p ha rv n
  obtain ⟨d, v, rfl, rfl, h⟩ := args1 ha
  cases d with
  | lst ds =>
    obtain ⟨kvs, e1, e2⟩ := mapD_ok n
    obtain ⟨q, ws, rfl, h1, t1⟩ := h.lst
    obtain ⟨as, us', rfl, q1, q2⟩ := pairsD_rep t1 e1
    have up : ∀ {as : List Addr} {us : List (Key × V)}, Paired (fun p kv => SqT X.K (hid O H) p [kV kv.1, kv.2]) as us → Paired (fun p kv => SqT X.K H p [kV kv.1, kv.2]) as us := by
      intro as us h
      induction h with
      | nil => exact .nil
      | cons a b ih => exact .cons (Ex.st hid_ex a) ih
    exact call_dictP hc pins s σ H _ us _ I rv ⟨q, as, us', rfl, .inl (.of h1), up q1, fun l hl => laid_dk hT p hl (RepK.merge (by unfold RepK; rfl) q2) e2⟩
  | _ => exact (n rfl).elim
end
end DL
set_option Elab.async false
set_option linter.all false
set_option maxRecDepth 100000
set_option maxHeartbeats 2000000
/-! D21: own len, own ==. -/
namespace DL
open PySem PySem.Spec PyProof.Rows L2
section
variable {X : Cx} {W : WX} {m ms : List Md} {pos p : Pos}
/-- what an own special method's run gives, no exception -/
theorem ownF_run {α : Type} {F : List D → R D} {as : D → R α} {k : Nat} {f : Addr} {fd : FuncData} {nms : List Str} {A' : Around} {pl : Pl} {O : Addr → Prop} {pins : List (Addr × Obj)} {s : Shared} {σ : L2.St} {H : Hp} {ps : Ps} {ds : List D} {vs : List V} {us : List Value} {ms : List Md}
    (hF : FnD X k f fd nms ms F) (hr : Room k A') (hA : A'.frames = X.A.frames) (hb : Binds X.K fd nms []) (I : Inv X pins σ H s) (hO : ∀ a, plS pl a → O a) (hT : ∀ a, O a → H a ≠ none) (hp : PoolAt pl H ps) (ra : ArgsR pl X.K O H ms ds vs) (rv : Vals vs us)
    (n : noX (F ds >>= as) ps ≠ .und) : ∃ (d : D) (c : α) (ps1 ps' : Ps), F ds ps = .ok d ps1 ∧ as d ps1 = .ok c ps' ∧ noX (F ds >>= as) ps = .ok c ps' ∧
      wpAny (model X.prog X.w) A' (call (.ref f) us) (fun r s' => ∃ v H', Inv X pins σ H' s' ∧ RelV v r ∧ Exo (plS pl) H H' ∧ PoolAt pl H' ps1 ∧ Rep pl X.K (hid O H') d v) X.xe s := by
  obtain ⟨c, ps', h3, h4⟩ := noX_ok n
  have n2 : F ds ps ≠ .und := fun z => by rw [bind_und z] at h3; cases h3
  cases h5 : F ds ps with
  | und => exact (n2 h5).elim
  | exc e q => rw [bind_exc h5] at h3; cases h3
  | ok d q =>
    rw [bind_ok h5] at h3
    refine ⟨d, c, q, ps', rfl, h3, h4, ?_⟩
    refine thn (spec_run (Q := fun v H' => Exo (plS pl) H H' ∧ PoolAt pl H' q ∧ Rep pl X.K (hid O H') d v) (E := EF) hF hr hA hb (fun _ _ z => (no_exc z).elim) I rv ra hO hT hp n2 (fun x' ps'' dx H' e => by rw [h5] at e; cases e) fun v' H' ⟨d', ps'', e, e2, e3, e4⟩ => ?_) fun r s' ⟨v', H', I', rv, e1, e2, e3⟩ => ⟨v', H', I', rv, e1, e2, e3⟩
    rw [h5] at e
    cases e
    exact ⟨e2, e3, e4⟩
theorem rq_int {pl : Pl} {K : PySem.W.Frag} {O : Addr → Prop} {H H' : Hp} {b : Int} : RepQ .cl pl K O H H' (.int b) (.int b) := by show Rep _ _ _ _ _; exact rep_int
def D.lenO (C : Addr) (F : List D → R D) (d : D) : R D := if D.insOf C d = true then (do let i ← noX (do let r ← F [d]; asI r); if (decide (0 ≤ i) && decide (i ≤ 1000000)) = true then pure (.int i) else R.und) else R.und
theorem cd_lenO {F : List D → R D} {k : Nat} {f C : Addr} {fd : FuncData} {nms : List Str} (hF : FnD X k f fd nms [.sb] F) (hr : Room (k + 1) X.A) (hb : Binds X.K fd nms []) (sp : Spec X.K C "__len__" f) : CallD .cl X (.builtin "len") [.sb] (one (D.lenO C F)) := by
  intro pl O pins s σ H ps ds vs us I hO hT p ha rv n
  obtain ⟨d, v, rfl, rfl, h⟩ := args1 ha
  have n : D.lenO C F d ps ≠ .und := n
  show wpAny _ _ _ (EP X pins σ (QV .cl pl X.K O H (D.lenO C F d ps))) _ _
  unfold D.lenO at n ⊢
  obtain ⟨h1, h2⟩ := ifB_und n
  rw [h2] at n ⊢
  obtain ⟨d1, i, ps1, ps', e1, e2, e3, e4⟩ := ownF_run (as := asI) hF hr.in1 rfl hb I hO hT p ha rv (ne_of_bind n)
  rw [bind_ok e3] at n ⊢
  obtain ⟨h3, h4⟩ := ifB_und n
  rw [h4]
  obtain ⟨i', rfl, e5⟩ := asI_ok (d := d1) (ps := ps1) (by rw [e2]; exact fun z => nomatch z)
  rw [e2] at e5
  cases e5
  obtain ⟨fl, rfl⟩ := D.insOf_eq h1
  obtain ⟨q, dx, vs, rfl, g1, g2⟩ := h.ins
  obtain ⟨u, rfl, ru⟩ := vals1 rv
  cases ru
  obtain ⟨od, J⟩ := inst_at I g1
  obtain ⟨mm, Fr⟩ := I.fr
  rw [Bool.and_eq_true] at h3
  have h5 := of_decide_eq_true h3.1
  have h6 := of_decide_eq_true h3.2
  refine PySem.W.len_K Fr I.ok.mod.kin J sp.at_ sp.fn (thn e4 fun r s' ⟨v', H', I', rv', x1, p1, r1⟩ => ?_)
  unfold Rep at r1
  subst r1
  obtain ⟨t, rfl⟩ := rv'
  exact ⟨⟨h5, by omega⟩, .int i, H', I'.tok _, ⟨_, rfl⟩, .int i, _, rfl, x1, p1, rq_int⟩
/-- own == -/
def D.eqOwn (C : Addr) (nf : Tk → Bool) (F : List D → R D) (a b : D) : R D := if (D.insOf C a && (b.tk.map nf).getD false) = true then (do let c ← noX (do let r ← F [a, b]; asB r); pure (.bl c)) else R.und
structure NfOk (K : PySem.W.Frag) (C : Addr) (nf : Tk → Bool) : Prop where
  ok : ∀ t, nf t = true → PySem.W.notFirst K C t.val = true
  ins : ∀ C', nf (.ins C') = true → InsOk K C'
theorem od_eqO {F : List D → R D} {k : Nat} {f C : Addr} {fd : FuncData} {nms : List Str} {nf : Tk → Bool} (hF : FnD X k f fd nms [.sb, .sb] F) (hr : Room k X.A) (hu : X.A.units + 64 < cLine) (hb : Binds X.K fd nms []) (sp : Spec X.K C "__eq__" f) (hn : NfOk X.K C nf) : OpD .cl X (compareOp .Eq) (D.eqOwn C nf F) := by
  intro pl O pins s σ H ps d1 d2 x y u v I hO hT p r1 r2 rx ry n
  unfold D.eqOwn at n ⊢
  obtain ⟨h1, h2⟩ := ifB_und n
  rw [h2] at n ⊢
  rw [Bool.and_eq_true] at h1
  obtain ⟨d, c, ps1, ps', e1, e2, e3, e4⟩ := ownF_run (as := asB) hF hr rfl hb I hO hT p (ds := [d1, d2]) (vs := [x, y]) ⟨_, _, rfl, r1, _, _, rfl, r2, rfl⟩ (.cons rx (.cons ry .nil)) (ne_of_bind n)
  rw [bind_ok e3] at n ⊢
  obtain ⟨i', rfl, e5⟩ := asB_ok (d := d) (ps := ps1) (by rw [e2]; exact fun z => nomatch z)
  rw [e2] at e5
  cases e5
  obtain ⟨fl, rfl⟩ := D.insOf_eq h1.1
  obtain ⟨q, dx, vs, rfl, g1, g2⟩ := r1.ins
  cases rx
  obtain ⟨od, J⟩ := inst_at I g1
  obtain ⟨mm, Fr⟩ := I.fr
  cases ht : d2.tk with
  | none => rw [ht] at h1; exact Bool.noConfusion h1.2
  | some t =>
    rw [ht] at h1
    obtain ⟨P, Z, p', hx⟩ := kit_of I ry (tyx_of r2 ht fun C' z => by subst z; exact hn.ins C' h1.2)
    refine PySem.W.cmp_K (op := .Eq) (by omega) Fr I.ok.mod.kin J (Z.ty _ _ I.kIn p') (hn.ok t h1.2) sp.at_ sp.fn (thn e4 fun r s' ⟨v', H', I', rv', x1, p1, r1⟩ => ?_)
    unfold Rep at r1
    subst r1
    cases rv'
    exact ⟨.bl c, H', I', rfl, .bl c, _, rfl, x1, p1, rq_bl⟩
end
end DL
set_option Elab.async false
set_option linter.all false
set_option maxRecDepth 100000
set_option maxHeartbeats 2000000
/-! D22: a dict that is walked: locked. -/
namespace DL
open PySem PySem.Spec PyProof.Rows L2
def DkO : HO → Prop
  | .dK _ => True
  | .dT _ => True
  | _ => False
theorem DkO.mut {u : HO} (h : DkO u) : Mut (some u) := by cases u <;> first | exact True.intro | exact h.elim
/-- what stands stands, dicts may be locked or unlocked -/
def ExM (H H' : Hp) : Prop := ∀ a o, H a = some o → H' a = some o ∨ (∃ od, DkO o ∧ H' a = some (.frz od o)) ∨ (∃ od u, DkO u ∧ o = .frz od u ∧ H' a = some u)
theorem ExM.of {H H' : Hp} (e : Ex H H') : ExM H H' := fun a o h => .inl (e a o h)
theorem ExM.rd {H H' : Hp} {a : Addr} {u : HO} (e : ExM H H') (hn : ∀ od u', u ≠ .frz od u') (h : Rd H a u) : Rd H' a u := by
  rcases h with h | ⟨o, h⟩
  · rcases e a _ h with q | ⟨od, _, q⟩ | ⟨od, u', d, z, q⟩
    · exact .inl q
    · exact .inr ⟨od, q⟩
    · exact (hn _ _ z).elim
  · rcases e a _ h with q | ⟨od, z, q⟩ | ⟨od, u', d, z, q⟩
    · exact .inr ⟨o, q⟩
    · exact z.elim
    · cases z; exact .inl q
theorem ExM.at {H H' : Hp} {a : Addr} {u : HO} (e : ExM H H') (hn : ∀ od u', u ≠ .frz od u') (hd : ¬ DkO u) (h : H a = some u) : H' a = some u := by
  rcases e a _ h with q | ⟨od, z, q⟩ | ⟨od, u', d, z, q⟩
  · exact q
  · exact (hd z).elim
  · exact (hn _ _ z).elim
theorem ExM.st {K : PySem.W.Frag} {H H' : Hp} {a : Addr} {xs : List V} (e : ExM H H') (h : SqT K H a xs) : SqT K H' a xs := by
  rcases h with h | h
  · exact .inl (e.rd (fun _ _ z => nomatch z) h)
  · exact .inr h
section
variable {pl : Pl} {K : PySem.W.Frag} {H H' : Hp}
mutual
theorem Rep.monoM (e : ExM H H') : ∀ {d : D} {v : V}, Rep pl K H d v → Rep pl K H' d v
  | .non, _, h => h
  | .bl _, _, h => h
  | .int _, _, h => h
  | .str _, _, h => h
  | .lst _, _, h => by
    unfold Rep at h ⊢
    obtain ⟨p, vs, h1, h2, h3⟩ := h
    exact ⟨p, vs, h1, e.at (fun _ _ z => nomatch z) (fun z => z) h2, Reps.monoM e h3⟩
  | .tup _, _, h => by
    unfold Rep at h ⊢
    obtain ⟨p, vs, h1, h2, h3⟩ := h
    exact ⟨p, vs, h1, e.st h2, Reps.monoM e h3⟩
  | .dk _, _, h => by
    unfold Rep at h ⊢
    obtain ⟨p, vs, h1, h2, h3⟩ := h
    exact ⟨p, vs, h1, e.rd (fun _ _ z => nomatch z) h2, RepK.monoM e h3⟩
  | .dt _, _, h => by
    unfold Rep at h ⊢
    obtain ⟨p, vs, h1, h2, h3⟩ := h
    exact ⟨p, vs, h1, e.rd (fun _ _ z => nomatch z) h2, RepT.monoM e h3⟩
  | .ins _ _, _, h => by
    unfold Rep at h ⊢
    obtain ⟨p, dx, vs, h1, h2, h3⟩ := h
    exact ⟨p, dx, vs, h1, e.at (fun _ _ z => nomatch z) (fun z => z) h2, RepF.monoM e h3⟩
  | .pool, _, h => h
  | .ob _, _, h => h
theorem Reps.monoM (e : ExM H H') : ∀ {ds : List D} {vs : List V}, Reps pl K H ds vs → Reps pl K H' ds vs
  | [], _, h => h
  | _ :: _, _, h => by
    unfold Reps at h ⊢
    obtain ⟨v, r, h1, h2, h3⟩ := h
    exact ⟨v, r, h1, Rep.monoM e h2, Reps.monoM e h3⟩
theorem RepK.monoM (e : ExM H H') : ∀ {ds : List (Key × D)} {vs : List (Key × V)}, RepK pl K H ds vs → RepK pl K H' ds vs
  | [], _, h => h
  | (_, _) :: _, _, h => by
    unfold RepK at h ⊢
    obtain ⟨v, r, h1, h2, h3⟩ := h
    exact ⟨v, r, h1, Rep.monoM e h2, RepK.monoM e h3⟩
theorem RepT.monoM (e : ExM H H') : ∀ {ds : List (List Key × D)} {vs : List (List Key × V)}, RepT pl K H ds vs → RepT pl K H' ds vs
  | [], _, h => h
  | (_, _) :: _, _, h => by
    unfold RepT at h ⊢
    obtain ⟨v, r, h1, h2, h3⟩ := h
    exact ⟨v, r, h1, Rep.monoM e h2, RepT.monoM e h3⟩
theorem RepF.monoM (e : ExM H H') : ∀ {ds : List (Str × D)} {vs : List (Str × V)}, RepF pl K H ds vs → RepF pl K H' ds vs
  | [], _, h => h
  | (_, _) :: _, _, h => by
    unfold RepF at h ⊢
    obtain ⟨v, r, h1, h2, h3⟩ := h
    exact ⟨v, r, h1, Rep.monoM e h2, RepF.monoM e h3⟩
end
end
theorem TopR.monoM {pl : Pl} {K : PySem.W.Frag} {Hx Hy : Hp} {d : D} {o : Option HO} (e : ExM Hx Hy) (h : TopR pl K Hx d o) : TopR pl K Hy d o := by
  cases d with
  | lst _ => obtain ⟨vs, q, r⟩ := h; exact ⟨vs, q, r.monoM e⟩
  | dk _ => obtain ⟨vs, q, r⟩ := h; exact ⟨vs, q, r.monoM e⟩
  | dt _ => obtain ⟨vs, q, r⟩ := h; exact ⟨vs, q, r.monoM e⟩
  | tup _ => obtain ⟨vs, q, r⟩ := h; exact ⟨vs, q, r.monoM e⟩
  | ins _ _ => obtain ⟨dx, vs, q, r⟩ := h; exact ⟨dx, vs, q, r.monoM e⟩
  | _ => exact h.elim
theorem XcR.monoM {pl : Pl} {K : PySem.W.Frag} {Hx Hy : Hp} {d : D} {o : Option HO} (e : ExM Hx Hy) (h : XcR pl K Hx d o) : XcR pl K Hy d o :=
  let ⟨C, fs, vs, h1, h2, h3⟩ := h; ⟨C, fs, vs, h1, h2, h3.monoM e⟩
theorem TopB.monoM {pl : Pl} {K : PySem.W.Frag} {Hx Hy : Hp} {d : D} {o : Option HO} (e : ExM Hx Hy) (h : TopB pl K Hx d o) : TopB pl K Hy d o := by
  rcases h with h | ⟨a, b, c, e1, e2, h⟩ | ⟨a, b, c, e1, e2, h⟩
  · exact .inl (h.monoM e)
  · exact .inr (.inl ⟨a, b, c, e1, e2, h.monoM e⟩)
  · exact .inr (.inr ⟨a, b, c, e1, e2, h.monoM e⟩)
/-- .. where the object itself is locked, unlocked -/
theorem topB_lock {pl : Pl} {K : PySem.W.Frag} {Hx : Hp} {d : D} {u : HO} {od : Obj} (hu : DkO u) (h : TopB pl K Hx d (some u)) : TopB pl K Hx d (some (.frz od u)) := by
  rcases h with h | ⟨a, b, c, e1, e2, h⟩ | ⟨a, b, c, e1, e2, h⟩
  · cases d with
    | dk _ => obtain ⟨vs, q, r⟩ := h; cases q; exact .inr (.inl ⟨_, vs, od, rfl, rfl, r⟩)
    | dt _ => obtain ⟨vs, q, r⟩ := h; cases q; exact .inr (.inr ⟨_, vs, od, rfl, rfl, r⟩)
    | lst _ => obtain ⟨vs, q, r⟩ := h; cases q; exact hu.elim
    | tup _ => obtain ⟨vs, q, r⟩ := h; cases q; exact hu.elim
    | ins _ _ => obtain ⟨dx, vs, q, r⟩ := h; cases q; exact hu.elim
    | _ => exact h.elim
  · cases e2; exact hu.elim
  · cases e2; exact hu.elim
theorem topB_unlock {pl : Pl} {K : PySem.W.Frag} {Hx : Hp} {d : D} {u : HO} {od : Obj} (h : TopB pl K Hx d (some (.frz od u))) : TopB pl K Hx d (some u) := by
  rcases h with h | ⟨a, b, c, e1, e2, h⟩ | ⟨a, b, c, e1, e2, h⟩
  · cases d with
    | dk _ => obtain ⟨vs, q, r⟩ := h; cases q
    | dt _ => obtain ⟨vs, q, r⟩ := h; cases q
    | lst _ => obtain ⟨vs, q, r⟩ := h; cases q
    | tup _ => obtain ⟨vs, q, r⟩ := h; cases q
    | ins _ _ => obtain ⟨dx, vs, q, r⟩ := h; cases q
    | _ => exact h.elim
  · cases e2; subst e1; exact .inl ⟨_, rfl, h⟩
  · cases e2; subst e1; exact .inl ⟨_, rfl, h⟩
def G.lk (g : G) (q : Addr) (o : HO) : G := { g with B := upd g.B q o }
section
variable {K : PySem.W.Frag} {g : G} {m m' : List Md} {own own' : Nat → Addr} {σ : L2.St} {ρ : Rho} {H : Hp} {ps : Ps} {q : Addr} {u : HO} {od : Obj}
theorem ExM.lock {O : Addr → Prop} (hu : DkO u) (hq : H q = some u) : ExM (hid O H) (hid O (upd H q (.frz od u))) := fun a o h => by
  obtain ⟨n, h⟩ := hid_of h
  rw [hid_at n]
  by_cases e : a = q
  · subst e; rw [hq] at h; cases h; exact .inr (.inl ⟨od, hu, upd_same⟩)
  · exact .inl (by rw [upd_ne e]; exact h)
theorem ExM.unlock {O : Addr → Prop} (hu : DkO u) (hq : H q = some (.frz od u)) : ExM (hid O H) (hid O (upd H q u)) := fun a o h => by
  obtain ⟨n, h⟩ := hid_of h
  rw [hid_at n]
  by_cases e : a = q
  · subst e; rw [hq] at h; cases h; exact .inr (.inr ⟨od, u, hu, rfl, upd_same⟩)
  · exact .inl (by rw [upd_ne e]; exact h)
theorem Rs.lock (r : Rs K g m own σ ρ H ps) (hu : DkO u) (hq : H q = some u) (np : ¬ plS g.pl q) (no : ¬ UOw m own q) : Rs K (g.lk q (.frz od u)) m own σ ρ (upd H q (.frz od u)) ps := by
  have ex : ExM (hid (Xs m own g) H) (hid (Xs m own g) (upd H q (.frz od u))) := .lock hu hq
  have far : ∀ (i : Nat), (m[i]? = some .ow ∨ m[i]? = some .io) → own i ≠ q := fun i h z => no ⟨i, h, z⟩
  exact {
    len := r.len
    sh := fun i d h1 h2 => let ⟨v, h3, h4⟩ := r.sh i d h1 h2; ⟨v, h3, h4.monoM ex⟩
    ow := fun i h => by
      obtain ⟨d, h1, h2, t, h4, h5⟩ := r.ow i h
      exact ⟨d, h1, h2, by rw [upd_ne (far i h)]; exact t.monoM ex, by show upd g.B q _ (own i) = none; rw [upd_ne (far i h)]; exact h4, h5⟩
    sb := fun i d h1 h2 => by
      obtain ⟨v, h3, h4⟩ := r.sb i d h1 h2
      refine ⟨v, h3, ?_⟩
      rcases h4 with h4 | ⟨a, ea, npa, noa, t⟩
      · exact .inl (h4.monoM ex)
      · refine .inr ⟨a, ea, npa, noa, ?_⟩
        by_cases e : a = q
        · subst e; rw [upd_same]; rw [hq] at t; exact topB_lock hu (t.monoM ex)
        · rw [upd_ne e]; exact t.monoM ex
    xc := fun i b dx h => by
      obtain ⟨d, h1, h2, t, h4⟩ := r.xc i b dx h
      have e : dx ≠ q := fun z => by obtain ⟨_, _, _, _, k, _⟩ := t; rw [z, hq] at k; cases k; exact hu
      exact ⟨d, h1, h2, by rw [upd_ne e]; exact t.monoM ex, h4⟩
    ex := fun p hp => (r.ex p hp).monoM ex
    sx := fun p hp => let ⟨v, h1, h2⟩ := r.sx p hp; ⟨v, h1, h2.monoM ex⟩
    inj := r.inj
    nE := r.nE
    base := fun a o h n => by
      by_cases e : a = q
      · subst e; rw [show (g.lk a (.frz od u)).B a = upd g.B a (.frz od u) a from rfl, upd_same] at h; rw [upd_same]; exact h
      · rw [show (g.lk q (.frz od u)).B a = upd g.B q (.frz od u) a from rfl, upd_ne e] at h; rw [upd_ne e]; exact r.base a o h n
    pool := r.pool.keep fun a ha => upd_ne fun z => np (by rw [← z]; exact ha)
    eT := fun a h => by
      by_cases e : a = q
      · rw [e, upd_same]; exact fun z => nomatch z
      · rw [upd_ne e]; exact r.eT a h }
theorem Rs.locked (r : Rs K (g.lk q (.frz od u)) m own σ ρ H ps) (np : ¬ plS g.pl q) : H q = some (.frz od u) := r.base q _ upd_same np
theorem exo_unlock {H0 H' : Hp} {pl : Pl} {B : Hp} (hB : Exo (plS pl) B H0) (hq : H0 q = some u) (np : ¬ plS pl q) (h : Exo (plS pl) (upd B q (.frz od u)) H') : Exo (plS pl) B (upd H' q u) := fun a o e n => by
  by_cases z : a = q
  · subst z
    have := hB a o e n
    rw [hq] at this
    cases this
    exact upd_same
  · rw [upd_ne z]
    exact h a o (by rw [upd_ne z]; exact e) n
theorem Rs.unlock (r : Rs K (g.lk q (.frz od u)) m own σ ρ H ps) (hu : DkO u) (np : ¬ plS g.pl q) {H0 : Hp} (hB : Exo (plS g.pl) g.B H0) (hq0 : H0 q = some u) : Rs K g m own σ ρ (upd H q u) ps := by
  have hq := r.locked np
  have ex : ExM (hid (Xs m own g) H) (hid (Xs m own g) (upd H q u)) := .unlock hu hq
  have far : ∀ (i : Nat), (m[i]? = some .ow ∨ m[i]? = some .io) → own i ≠ q := fun i h z => by
    obtain ⟨d, h1, h2, t, h4, h5⟩ := r.ow i h
    rw [z, show (g.lk q (.frz od u)).B q = upd g.B q (.frz od u) q from rfl, upd_same] at h4
    cases h4
  exact {
    len := r.len
    sh := fun i d h1 h2 => let ⟨v, h3, h4⟩ := r.sh i d h1 h2; ⟨v, h3, h4.monoM ex⟩
    ow := fun i h => by
      obtain ⟨d, h1, h2, t, h4, h5⟩ := r.ow i h
      rw [show (g.lk q (.frz od u)).B (own i) = upd g.B q (.frz od u) (own i) from rfl, upd_ne (far i h)] at h4
      exact ⟨d, h1, h2, by rw [upd_ne (far i h)]; exact t.monoM ex, h4, h5⟩
    sb := fun i d h1 h2 => by
      obtain ⟨v, h3, h4⟩ := r.sb i d h1 h2
      refine ⟨v, h3, ?_⟩
      rcases h4 with h4 | ⟨a, ea, npa, noa, t⟩
      · exact .inl (h4.monoM ex)
      · refine .inr ⟨a, ea, npa, noa, ?_⟩
        by_cases e : a = q
        · subst e; rw [upd_same]; rw [hq] at t; exact topB_unlock (t.monoM ex)
        · rw [upd_ne e]; exact t.monoM ex
    xc := fun i b dx h => by
      obtain ⟨d, h1, h2, t, h4⟩ := r.xc i b dx h
      have e : dx ≠ q := fun z => by obtain ⟨_, _, _, _, k, _⟩ := t; rw [z, hq] at k; cases k
      exact ⟨d, h1, h2, by rw [upd_ne e]; exact t.monoM ex, h4⟩
    ex := fun p hp => (r.ex p hp).monoM ex
    sx := fun p hp => let ⟨v, h1, h2⟩ := r.sx p hp; ⟨v, h1, h2.monoM ex⟩
    inj := r.inj
    nE := r.nE
    base := exo_unlock hB hq0 np r.base
    pool := r.pool.keep fun a ha => upd_ne fun z => np (by rw [← z]; exact ha)
    eT := fun a h => by
      by_cases e : a = q
      · rw [e, upd_same]; exact fun z => nomatch z
      · rw [upd_ne e]; exact r.eT a h }
end
/-- what is raised while q is locked -/
def lkW (W : WX) (q : Addr) (od : Obj) (u : HO) : WX := fun c d σ H => H q = some (.frz od u) ∧ W c d σ (upd H q u)
theorem takes_lk {X : Cx} {W : WX} {q : Addr} {od : Obj} {u : HO} (tk : Takes X W) (hn : ∀ o' u', X.H_0 q ≠ some (.frz o' u')) : Takes X (lkW W q od u) := by
  rintro v s' ⟨a, B, sI, pins, σ, H, cls, d, e, I, nb, up, sky, na, os, ag, h1, h2⟩
  refine tk v s' ⟨a, B, sI, pins, σ, upd H q u, cls, d, e, I.unlock h1 hn, nb, up, sky, ?_, os, ag, h2⟩
  rw [upd_ne (fun z => by rw [z, h1] at na; cases na)]
  exact na
theorem WS.lk {W : WX} {K : PySem.W.Frag} {g : G} {r : Res Fl} {q : Addr} {od : Obj} {u : HO} (w : WS W K g r) (hu : DkO u) (np : ¬ plS g.pl q) {H0 : Hp} (hB : Exo (plS g.pl) g.B H0) (hq0 : H0 q = some u) : WS (lkW W q od u) K (g.lk q (.frz od u)) r := by
  intro x ps' dx H' σ' e1 e2 p ⟨vs, h1, h2⟩ sx
  have hq : H' q = some (.frz od u) := e2 q _ upd_same np
  have ex : ExM (hid (Eo g) H') (hid (Eo g) (upd H' q u)) := .unlock hu hq
  refine ⟨hq, w x ps' dx (upd H' q u) σ' e1 (exo_unlock hB hq0 np e2) (p.keep fun a ha => upd_ne fun z => np (by rw [← z]; exact ha)) ⟨vs, ?_, h2.monoM ex⟩ fun p' hp => let ⟨v, h3, h4⟩ := sx p' hp; ⟨v, h3, h4.monoM ex⟩⟩
  rw [upd_ne (fun z => by rw [z, hq] at h1; cases h1)]
  exact h1
end DL
set_option Elab.async false
set_option linter.all false
set_option maxRecDepth 100000
set_option maxHeartbeats 2000000
/-! D23: dicts that are walked. -/
namespace DL
open PySem PySem.Spec PyProof.Rows L2
section
variable {X : Cx} {W : WX} {J : JP} {m m' m2 mT : List Md} {e a b c o tg iter : Expr} {f f1 f2 : FE} {t : FT} {st : Stmt} {sts sts2 : List Stmt} {g1 g2 : SF} {pos p1' apos cpos : Pos} {fs : FA} {F : D → Rho → R Rho}
theorem rs_name {g : G} {own : Nat → Addr} {σ : L2.St} {ρ : Rho} {H : Hp} {ps : Ps} {i : Nat} {d : D} (r : Rs X.K g m own σ ρ H ps) (hm : Md.rd m[i]? = true) (h1 : ρ[i]? = some (some d)) : ∃ v, σ[i]? = some (some v) ∧ RepB g.pl X.K (Xs m own g) H d v := by
  have own_case : (m[i]? = some .ow ∨ m[i]? = some .io) → ∃ v, σ[i]? = some (some v) ∧ RepB g.pl X.K (Xs m own g) H d v := fun q => by
    obtain ⟨d', h3, h4, h5, h6, h7⟩ := r.ow i q
    rw [h1] at h3; cases h3
    exact ⟨_, h4, .inr ⟨own i, rfl, h7, h5.b⟩⟩
  cases q : m[i]? with
  | none => rw [q] at hm; cases hm
  | some z => cases z with
    | no => rw [q] at hm; cases hm
    | xc a dx => rw [q] at hm; cases hm
    | sh =>
      obtain ⟨v, h3, h4⟩ := r.sh i d q h1
      exact ⟨v, h3, .inl h4⟩
    | sb =>
      obtain ⟨v, h3, h4⟩ := r.sb i d q h1
      refine ⟨v, h3, ?_⟩
      rcases h4 with h4 | ⟨a, ea, np, no, t⟩
      · exact .inl h4
      · exact .inr ⟨a, ea, np, t⟩
    | ow => exact own_case (.inl q)
    | io => exact own_case (.inr q)
/-- a dict at a place that is read without any change -/
structure PlD (X : Cx) (m : List Md) (e : Expr) (f : FE) : Prop where
  run : ∀ {g : G} {own : Nat → Addr} {σ : L2.St} {ρ : Rho} {H : Hp} {ps : Ps}, Rs X.K g m own σ ρ H ps → (f ρ >>= asDk) ps ≠ .und → ∃ (kvs : List (Key × D)) (q : Addr) (vs : List (Key × V)),
    f ρ ps = .ok (.dk kvs) ps ∧ Rd H q (.dK vs) ∧ ¬ plS g.pl q ∧ ¬ UOw m own q ∧ RepK g.pl X.K (hid (Xs m own g) H) kvs vs ∧
    ∀ (H1 : Hp) (od : Obj), (∀ a, a ≠ q → H1 a = H a) → H1 q = some (.frz od (.dK vs)) → cE X e σ H1 (fun v H2 => v = .ref q ∧ H2 = H1)
theorem rep_dk {pl : Pl} {K : PySem.W.Frag} {O : Addr → Prop} {H : Hp} {kvs : List (Key × D)} {v : V} (h : Rep pl K (hid O H) (.dk kvs) v) : ∃ q vs, v = .ref q ∧ ¬ O q ∧ Rd H q (.dK vs) ∧ RepK pl K (hid O H) kvs vs := by
  unfold Rep at h
  obtain ⟨p, vs, rfl, h1, h2⟩ := h
  refine ⟨p, vs, rfl, ?_, hid_ex.rd h1, h2⟩
  rcases h1 with h1 | ⟨o, h1⟩ <;> exact (hid_of h1).1
theorem dk_und {f : FE} {ρ : Rho} {ps : Ps} {d : D} (n : (f ρ >>= asDk) ps ≠ .und) (e : f ρ ps = .ok d ps) : ∃ kvs, d = .dk kvs := by
  rw [bind_ok e] at n
  obtain ⟨kvs, h, _⟩ := asDk_ok n
  exact ⟨kvs, h⟩
theorem pl_name {i : Nat} {x : Str} (hN : X.N[i]? = some x) (hv : Vis X.env.scope x) (hm : m[i]? = some .sh ∨ m[i]? = some .sb) (hd : (x == ("__debug__" : Str)) = false := by decide) (hcd : (x == ("__classdict__" : Str)) = false := by decide) : PlD X m (.Name x pos) (vF i) := by
  refine ⟨fun {g own σ ρ H ps} r n => ?_⟩
  obtain ⟨d, h1, h2⟩ := ofO_ne (show vF i ρ ps ≠ .und from ne_of_bind n)
  obtain ⟨kvs, rfl⟩ := dk_und n h2
  have h1 := join_some h1
  have fin : ∀ {v : V}, σ[i]? = some (some v) → ∀ {q : Addr}, v = .ref q → ∀ (H1 : Hp), cE X (.Name x pos) σ H1 (fun v H2 => v = .ref q ∧ H2 = H1) := fun {v} h {q} e H1 pins s I => (pe_var hN hv hd hcd).run pins s σ H1 _ I ⟨v, h, e, rfl⟩
  rcases hm with hm | hm
  · obtain ⟨v, h3, h4⟩ := r.sh i _ hm h1
    obtain ⟨q, vs, rfl, nx, hr, ht⟩ := rep_dk h4
    exact ⟨kvs, q, vs, h2, hr, fun z => nx (Xs.pl _ z), fun z => nx (.inr (.inr z)), ht, fun H1 od _ _ => fin h3 rfl H1⟩
  · obtain ⟨v, h3, h4⟩ := r.sb i _ hm h1
    rcases h4 with h4 | ⟨a, rfl, np, no, t⟩
    · obtain ⟨q, vs, rfl, nx, hr, ht⟩ := rep_dk h4
      exact ⟨kvs, q, vs, h2, hr, fun z => nx (Xs.pl _ z), fun z => nx (.inr (.inr z)), ht, fun H1 od _ _ => fin h3 rfl H1⟩
    · have no' : ¬ UOw m own a := fun ⟨j, z, e⟩ => no j z e
      rcases t with t | ⟨ds, vs, ob, e1, e2, t⟩ | ⟨ds, vs, ob, e1, e2, t⟩
      · obtain ⟨vs, q, t⟩ := t
        exact ⟨kvs, a, vs, h2, .inl q, np, no', t, fun H1 od _ _ => fin h3 rfl H1⟩
      · cases e1; exact ⟨_, a, vs, h2, .inr ⟨ob, e2⟩, np, no', t, fun H1 od _ _ => fin h3 rfl H1⟩
      · cases e1
theorem pl_fld {C : Addr} {i : Nat} {x nm : Str} {pn : Pos} (hN : X.N[i]? = some x) (hv : Vis X.env.scope x) (hm : Md.rd m[i]? = true) (c : Cls X.K C) (na : NoAttr X.K C nm) (hd : (x == ("__debug__" : Str)) = false := by decide) (hcd : (x == ("__classdict__" : Str)) = false := by decide)
    (hb : attributeBase (.Name x pn) nm X.env (eval (.Name x pn) X.env) = eval (.Name x pn) X.env := by rfl) : PlD X m (.Attribute (.Name x pn) nm pos) (fldF C nm (vF i)) := by
  refine ⟨fun {g own σ ρ H ps} r n => ?_⟩
  obtain ⟨d, h1, h2⟩ := ofO_ne (show vF i ρ ps ≠ .und from ne_of_bind (ne_of_bind n))
  have e2 : fldF C nm (vF i) ρ ps = (if D.insOf C d = true then D.fld nm d else R.und) ps := bind_ok h2
  have n1 := ne_of_bind n
  rw [e2] at n1
  obtain ⟨k1, k2⟩ := ifB_und n1
  obtain ⟨fl, rfl⟩ := D.insOf_eq k1
  rw [k2] at n1 e2
  obtain ⟨d', l1, l2⟩ := ofO_ne n1
  have l2 : D.fld nm (.ins C fl) ps = .ok d' ps := l2
  rw [l2] at e2
  obtain ⟨kvs, rfl⟩ := dk_und n e2
  obtain ⟨v, h3, h4⟩ := rs_name r hm (join_some h1)
  obtain ⟨p, dx, vs, rfl, g1, g2⟩ := h4.ins
  obtain ⟨w, l3, l4⟩ := g2.look l1
  obtain ⟨q, us, rfl, nx, hr, ht⟩ := rep_dk l4
  refine ⟨kvs, q, us, e2, hr, fun z => nx (Xs.pl _ z), fun z => nx (.inr (.inr z)), ht, fun H1 od hH _ pins s I => ?_⟩
  have ne : p ≠ q := fun z => by subst z; rcases hr with z | ⟨o, z⟩ <;> (rw [g1] at z; cases z)
  exact (pe_fld (pe_var hN hv hd hcd) hb).run pins s σ H1 _ I ⟨_, h3, p, C, dx, vs, _, rfl, (hH p ne).trans g1, c, na, l3, rfl, rfl⟩
theorem pl_itm {i : Nat} {x y : Str} {pn p2 : Pos} {k : Nat} (hN : X.N[i]? = some x) (hv : Vis X.env.scope x) (hm : Md.rd m[i]? = true) (hu : X.A.units + 64 < cLine) (hd : (x == ("__debug__" : Str)) = false := by decide) (hcd : (x == ("__classdict__" : Str)) = false := by decide)
    (hs : PlainIx (.Constant (.str y) k p2) := by intro _ _; rfl) : PlD X m (.Subscript (.Name x pn) (.Constant (.str y) k p2) pos) (op2F D.item (vF i) (cF (.str y))) := by
  refine ⟨fun {g own σ ρ H ps} r n => ?_⟩
  obtain ⟨d, h1, h2⟩ := ofO_ne (show vF i ρ ps ≠ .und from ne_of_bind (ne_of_bind n))
  have e2 : op2F D.item (vF i) (cF (.str y)) ρ ps = D.item d (.str y) ps := bind_ok h2
  have n1 := ne_of_bind n
  rw [e2] at n1
  cases d with
  | dk kv0 =>
    obtain ⟨d', l1, l2⟩ := ofO_ne (show ofO ((keyOf (.str y)).bind fun k => findD kv0 k) ps ≠ .und from n1)
    have l2 : D.item (.dk kv0) (.str y) ps = .ok d' ps := l2
    rw [l2] at e2
    obtain ⟨kvs, rfl⟩ := dk_und n e2
    obtain ⟨v, h3, h4⟩ := rs_name r hm (join_some h1)
    obtain ⟨p, vs, rfl, g1, g2⟩ := h4.dk
    have l1 : findD kv0 (.inr y) = some (.dk kvs) := l1
    rcases g2.val (.inr y) with ⟨z, _⟩ | ⟨d'', w, z1, z2, z3⟩
    · rw [z] at l1; cases l1
    · rw [z1] at l1
      cases l1
      obtain ⟨q, us, rfl, nx, hr, ht⟩ := rep_dk z3
      refine ⟨kvs, q, us, e2, hr, fun z => nx (Xs.pl _ z), fun z => nx (.inr (.inr z)), ht, fun H1 od hH hq pins s I => ?_⟩
      have g1' : Rd H1 p (.dK vs) := by
        by_cases ne : p = q
        · subst ne
          have : us = vs := by
            rcases hr with z | ⟨o, z⟩ <;> rcases g1 with z' | ⟨o', z'⟩ <;> (rw [z] at z'; cases z'; try rfl)
          subst this
          exact .inr ⟨od, hq⟩
        · rcases g1 with z | ⟨o, z⟩
          · exact .inl ((hH p ne).trans z)
          · exact .inr ⟨o, (hH p ne).trans z⟩
      exact (pe_dget (by omega) (pe_var hN hv hd hcd) pe_str hs).run pins s σ H1 _ I ⟨_, h3, p, _, rfl, .inl ⟨vs, .inr y, g1', rfl, z2.symm⟩, rfl, rfl⟩
  | _ => exact (n1 rfl).elim

/-! ### the walks -/
/-- what a walk of a dict yields -/
structure KWk (X : Cx) (tg e iter : Expr) (Gk : List (Key × D) → List D) : Prop where
  run : ∀ {m : List Md} {g : G} {own : Nat → Addr} {σ : L2.St} {ρ : Rho} {H : Hp} {ps : Ps} {kvs : List (Key × D)} {vs : List (Key × V)} {q : Addr} {od : Obj}, Rs X.K g m own σ ρ H ps → H q = some (.frz od (.dK vs)) → ¬ plS g.pl q → ¬ UOw m own q → RepK g.pl X.K (hid (Xs m own g) H) kvs vs →
    cE X e σ H (fun v H2 => v = .ref q ∧ H2 = H) → cI X tg iter σ H (QI m own g.pl X.K (Xs m own g) H (.ok (Gk kvs) ps))
theorem RepK.get {pl : Pl} {K : PySem.W.Frag} {H : Hp} : ∀ {kvs : List (Key × D)} {vs : List (Key × V)} {i : Nat} {k : Key} {v : V}, RepK pl K H kvs vs → vs[i]? = some (k, v) → ∃ d, kvs[i]? = some (k, d) ∧ Rep pl K H d v
  | [], _, i, k, v, h, e => by unfold RepK at h; rw [h] at e; simp at e
  | (k', d) :: r, _, 0, k, v, h, e => by
    unfold RepK at h
    obtain ⟨v', t, rfl, h2, h3⟩ := h
    simp at e
    obtain ⟨rfl, rfl⟩ := e
    exact ⟨d, rfl, h2⟩
  | (k', d) :: r, _, i + 1, k, v, h, e => by
    unfold RepK at h
    obtain ⟨v', t, rfl, h2, h3⟩ := h
    obtain ⟨d', h4, h5⟩ := RepK.get (i := i) h3 (by simpa using e)
    exact ⟨d', by simpa using h4, h5⟩
/-- items laid along a dict -/
theorem kwk_core {g : G} {own : Nat → Addr} {H : Hp} {ps : Ps} {kvs : List (Key × D)} {vs : List (Key × V)} {q : Addr} {od : Obj} {JJ : It} (it : (Key × D) → (Key × V) → Item) (hg : ∀ i H, JJ.go i H ↔ (H q = some (.frz od (.dK vs)) ∧ i < vs.length)) (hs : ∀ i H, JJ.stop i H ↔ (H q = some (.frz od (.dK vs)) ∧ vs.length ≤ i))
    (hy : ∀ i x H H' kd kv, kvs[i]? = some kd → vs[i]? = some kv → JJ.yld i H x H' → (it kd kv).Y H x H') (hR : ∀ kd kv, kd.1 = kv.1 → Rep g.pl X.K (hid (Xs m own g) H) kd.2 kv.2 → (it kd kv).R g.pl X.K (hid (Xs m own g) H)) (r : PoolAt g.pl H ps) (hq : H q = some (.frz od (.dK vs))) (np : ¬ plS g.pl q) (no : ¬ UOw m own q) (ht : RepK g.pl X.K (hid (Xs m own g) H) kvs vs) (Gk : List (Key × D) → List D) (hG : ((kvs.zip vs).map fun p => it p.1 p.2).map Item.d = Gk kvs) :
    QI m own g.pl X.K (Xs m own g) H (.ok (Gk kvs) ps) JJ H := by
  have hl := ht.length
  have hlen : ((kvs.zip vs).map fun p => it p.1 p.2).length = vs.length := by rw [List.length_map, List.length_zip, hl, Nat.min_self]
  have kq : ∀ {H2 : Hp}, KeepH [(q, HO.frz od (.dK vs))] H2 → H2 q = some (.frz od (.dK vs)) := fun h => h _ (List.mem_cons_self ..)
  refine ⟨(kvs.zip vs).map fun p => it p.1 p.2, ps, [(q, .frz od (.dK vs))], by rw [hG], Exo.refl, r, ⟨fun i H2 hi hk => (hg i H2).mpr ⟨kq hk, by rw [← hlen]; exact hi⟩, fun H2 hk => (hs _ H2).mpr ⟨kq hk, by rw [hlen]; exact Nat.le_refl _⟩, fun i x H2 H3 it' hit hk hyy => ?_, fun p hp φ z => by
    have e : p = (q, .frz od (.dK vs)) := by simpa using hp
    subst e; cases z⟩, fun p hp => ?_, fun it' hit => ?_⟩
  · rw [List.getElem?_map] at hit
    cases z : (kvs.zip vs)[i]? with
    | none => rw [z] at hit; cases hit
    | some p =>
      rw [z] at hit
      cases hit
      obtain ⟨a, b⟩ := List.getElem?_zip_eq_some.mp z
      exact hy i x H2 H3 p.1 p.2 a b hyy
  · have e : p = (q, .frz od (.dK vs)) := by simpa using hp
    subst e
    exact ⟨hq, np, no⟩
  · obtain ⟨p, hp, rfl⟩ := List.mem_map.mp hit
    obtain ⟨i, hi⟩ := List.mem_iff_getElem?.mp hp
    obtain ⟨a, b⟩ := List.getElem?_zip_eq_some.mp hi
    obtain ⟨⟨k1, d1⟩, ⟨k2, v2⟩⟩ := p
    obtain ⟨d', h4, h5⟩ := ht.get b
    rw [a] at h4
    cases h4
    exact hR _ _ rfl h5
theorem zip_map {β : Type} (F : Key × D → β) : ∀ {kvs : List (Key × D)} {vs : List (Key × V)}, vs.length = kvs.length → (kvs.zip vs).map (fun p => F p.1) = kvs.map F
  | [], [], _ => rfl
  | a :: r, b :: t, h => by rw [List.zip_cons_cons, List.map_cons, List.map_cons, zip_map F (by simpa using h)]
  | [], _ :: _, h => by simp at h
  | _ :: _, [], h => by simp at h
def keysG (kvs : List (Key × D)) : List D := kvs.map fun kv => keyD kv.1
def valsG (kvs : List (Key × D)) : List D := kvs.map fun kv => kv.2
def itemsG (kvs : List (Key × D)) : List D := kvs.map fun kv => .tup [keyD kv.1, kv.2]
theorem kw_keys : KWk X tg e e keysG := by
  refine ⟨fun {m g own σ ρ H ps kvs vs q od} r hq np no ht hc pins s I => ?_⟩
  refine (pi_keys (tg := tg) (pe_c X e)).run pins s σ H _ I (cE.mono hc fun v H2 ⟨e1, e2⟩ => ?_)
  subst e1 e2
  refine ⟨q, od, rfl, .inl ⟨vs, hq, ?_⟩⟩
  refine kwk_core (it := fun kd kv => .one (keyD kd.1) (kV kd.1)) (fun i H => Iff.rfl) (fun i H => Iff.rfl) (fun i x H H' kd kv h1 h2 hy => ?_) (fun kd kv h1 h2 => keyD_rep _) r.pool hq np no ht keysG ?_
  · obtain ⟨rfl, k, v, h3, h4⟩ := hy
    obtain ⟨d', h5, _⟩ := ht.get h3
    rw [h1] at h5
    cases h5
    exact ⟨h4, rfl⟩
  · rw [List.map_map]; exact zip_map (fun kd => keyD kd.1) ht.length
theorem kw_vals (hbase : attributeBase e "values" X.env (eval e X.env) = eval e X.env := by rfl) (hline : (apos.endLine == cpos.line) = true := by rfl) : KWk X tg e (.Call (.Attribute e "values" apos) [] [] cpos) valsG := by
  refine ⟨fun {m g own σ ρ H ps kvs vs q od} r hq np no ht hc pins s I => ?_⟩
  refine (pi_values (tg := tg) (pe_c X e) hbase hline).run pins s σ H _ I (cE.mono hc fun v H2 ⟨e1, e2⟩ => ?_)
  subst e1 e2
  refine ⟨q, od, vs, rfl, hq, ?_⟩
  refine kwk_core (it := fun kd kv => .one kd.2 kv.2) (fun i H => Iff.rfl) (fun i H => Iff.rfl) (fun i x H H' kd kv h1 h2 hy => ?_) (fun kd kv h1 h2 => h2) r.pool hq np no ht valsG ?_
  · obtain ⟨rfl, k, h3⟩ := hy
    rw [h2] at h3
    cases h3
    exact ⟨rfl, rfl⟩
  · rw [List.map_map]; exact zip_map (fun kd => kd.2) ht.length
theorem kw_items {elts : List Expr} {kk : Nat} {tpos : Pos} (hbase : attributeBase e "items" X.env (eval e X.env) = eval e X.env := by rfl) (hline : (apos.endLine == cpos.line) = true := by rfl) : KWk X (.Tuple elts kk tpos) e (.Call (.Attribute e "items" apos) [] [] cpos) itemsG := by
  refine ⟨fun {m g own σ ρ H ps kvs vs q od} r hq np no ht hc pins s I => ?_⟩
  refine (pi_items (pe_c X e) hbase hline).run pins s σ H _ I (cE.mono hc fun v H2 ⟨e1, e2⟩ => ?_)
  subst e1 e2
  refine ⟨q, od, vs, rfl, hq, ?_⟩
  refine kwk_core (it := fun kd kv => .tup [keyD kd.1, kd.2] [kV kv.1, kv.2]) (fun i H => Iff.rfl) (fun i H => Iff.rfl) (fun i x H H' kd kv h1 h2 hy => ?_) (fun kd kv h1 h2 => Reps.cons (by rw [h1]; exact keyD_rep _) (Reps.cons h2 Reps.nil)) r.pool hq np no ht itemsG ?_
  · obtain ⟨T, k, v, h3, h4, h5, h6⟩ := hy
    rw [h2] at h3
    cases h3
    exact ⟨T, h4, h5, h6⟩
  · rw [List.map_map]; exact zip_map (fun kd => D.tup [keyD kd.1, kd.2]) ht.length

/-! ### for over a dict -/
def kwF (Gk : List (Key × D) → List D) (f : FE) : FA := fun ρ => do let d ← f ρ; let kvs ← asDk d; pure (Gk kvs)
theorem kwF_ne {Gk : List (Key × D) → List D} {ρ : Rho} {ps : Ps} (n : kwF Gk f ρ ps ≠ .und) : (f ρ >>= asDk) ps ≠ .und := fun z => n (by
  cases h : f ρ ps with
  | und => exact bind_und h
  | exc x q => rw [bind_exc h] at z; cases z
  | ok d q =>
    rw [bind_ok h] at z
    have : kwF Gk f ρ ps = (asDk d >>= fun kvs => (pure (Gk kvs) : R (List D))) q := bind_ok h
    rw [this]; exact bind_und z)
def cS (X : Cx) (st : Stmt) : TS := fun D σ H => ∀ pins s, Inv X pins σ H s → wpAny (model X.prog X.w) X.A (exec st X.env) (SP X pins D) X.xe s
theorem ps_c (X : Cx) (st : Stmt) : PS X st (cS X st) := ⟨fun pins s σ H D I h => h pins s I⟩
theorem ds_forK {Gk : List (Key × D) → List D} (hp : PassesOwn (model X.prog X.w) X.A X.env X.xe) (hc : X.calm = true) (tk : Takes X W) (hk : KWk X tg e iter Gk) (hpl : PlD X m e f) {is : List Nat} (ht : TgD X (J.lp m) m mT tg is F) (hb : ∀ W', Takes X W' → Dss X W' (J.lp m) mT m sts g1) (hs : ∀ x, foldedSetIterable iter X.env x = pure x := by intro _; rfl) :
    Ds X W J m m (.For tg iter sts [] pos) (foF (kwF Gk f) F g1) := by
  refine ⟨fun g own pins s σ ρ H ps I r hx n w => ?_⟩
  obtain ⟨kvs, q, vs, e1, hr, np, no, t1, hE⟩ := hpl.run r (kwF_ne (ne_of_bind n))
  have e2 : kwF Gk f ρ ps = .ok (Gk kvs) ps := bind_ok e1
  rcases hr with hr | ⟨od, hr⟩
  · refine (ps_lock (ps_c X _)).run pins s σ H _ I ⟨q, .dK vs, hr, True.intro, fun od pins1 s1 I1 => ?_⟩
    have hn := I.nofrz hr True.intro
    have r1 := r.lock (od := od) (u := .dK vs) True.intro hr np no
    have hq1 : (upd H q (.frz od (.dK vs))) q = some (.frz od (.dK vs)) := upd_same
    refine thn (for_core (W := lkW W q od (.dK vs)) (fs := kwF Gk f) (g1 := g1) hp hc ht (hb _ (takes_lk tk hn)) hs I1 r1 hx (by rw [e2]; exact hk.run (g := g.lk q (.frz od (.dK vs))) r1 hq1 np no (t1.monoM (ExM.lock (u := .dK vs) True.intro hr)) (hE _ od (fun a ha => upd_ne ha) upd_same)) n (w.lk (u := .dK vs) (H0 := H) True.intro np r.base hr)) fun fl s2 h => spI' h ?_ ?_ ?_ ?_
    · rintro σ' H' ⟨ρ', ps', own', a1, a2, a3⟩
      exact ⟨a2.locked np, ρ', ps', own', a1, a2.unlock True.intro np r.base hr, a3⟩
    · rintro σ' H' ⟨ρ', ps', own', a1, a2, a3⟩
      exact ⟨a2.locked np, ρ', ps', own', a1, a2.unlock True.intro np r.base hr, a3⟩
    · rintro σ' H' ⟨ρ', ps', own', a1, a2, a3⟩
      exact ⟨a2.locked np, ρ', ps', own', a1, a2.unlock True.intro np r.base hr, a3⟩
    · rintro v H' ⟨d, ρ', ps', own', σ', a1, a2, a3, a4⟩
      refine ⟨a2.locked np, d, ρ', ps', own', σ', a1, a2.unlock True.intro np r.base hr, a3, ?_⟩
      have ex : ∀ {O : Addr → Prop}, ExM (hid O H') (hid O (upd H' q (.dK vs))) := ExM.unlock (u := .dK vs) True.intro (a2.locked np)
      unfold RtQ at a4 ⊢
      cases hf : J.fr with
      | false =>
        rw [hf] at a4
        exact Rep.monoM ex a4
      | true =>
        rw [hf] at a4
        obtain ⟨p, e1, e2, e3, e4⟩ := a4
        have npq : p ≠ q := fun z => by subst z; rw [show (g.lk p (.frz od (.dK vs))).B p = upd g.B p (.frz od (.dK vs)) p from rfl, upd_same] at e2; cases e2
        rw [show (g.lk q (.frz od (.dK vs))).B p = upd g.B q (.frz od (.dK vs)) p from rfl, upd_ne npq] at e2
        exact ⟨p, e1, e2, e3, by rw [upd_ne npq]; exact TopR.monoM ex e4⟩
  · exact for_core hp hc ht (hb W tk) hs I r hx (by rw [e2]; exact hk.run r hr np no t1 (hE H od (fun _ _ => rfl) hr)) n w
end
end DL
set_option Elab.async false
set_option linter.all false
set_option maxRecDepth 100000
set_option maxHeartbeats 2000000
/-! D24: list comprehensions. -/
namespace DL
open PySem PySem.Spec PyProof.Rows L2
def wipeM (m : List Md) : List Nat → List Md
  | [] => m
  | v :: vs => (wipeM m vs).set v .no
def wipeR (ρ : Rho) : List Nat → Rho
  | [] => ρ
  | v :: vs => (wipeR ρ vs).set v none
theorem wipe_at {σ : L2.St} {j : Nat} : ∀ {vs : List Nat}, j ∈ vs → (wipe σ vs)[j]? = if j < σ.length then some none else none
  | v :: vs, h => by
    unfold wipe
    by_cases e : v = j
    · subst e
      by_cases hl : v < σ.length
      · rw [if_pos hl, List.getElem?_set_self (by rw [wipe_length]; exact hl)]
      · rw [if_neg hl, List.getElem?_eq_none (by rw [List.length_set, wipe_length]; omega)]
    · rw [List.getElem?_set_ne e]
      exact wipe_at ((List.mem_cons.mp h).resolve_left fun z => e z.symm)
theorem wipe_same {is vs : List Nat} {σ σ' : L2.St} (h : SameBut is σ σ') (hi : ∀ i ∈ is, i ∈ vs) : wipe σ' vs = wipe σ vs := by
  apply List.ext_getElem?
  intro j
  by_cases hj : j ∈ vs
  · rw [wipe_at hj, wipe_at hj, h.1]
  · rw [wipe_out hj, wipe_out hj, h.2 j fun z => hj (hi j z)]
theorem wipe_idem {vs : List Nat} {σ : L2.St} : wipe (wipe σ vs) vs = wipe σ vs := by
  apply List.ext_getElem?
  intro j
  by_cases hj : j ∈ vs
  · rw [wipe_at hj, wipe_at hj, wipe_length]
  · rw [wipe_out hj]
section
variable {K : PySem.W.Frag} {g : G} {m : List Md} {own : Nat → Addr} {σ : L2.St} {ρ : Rho} {H : Hp} {ps : Ps}
def G.ns (g : G) : G := { g with sx := [] }
theorem Rs.ns (r : Rs K g m own σ ρ H ps) : Rs K g.ns m own σ ρ H ps := { r with sx := fun p hp => by cases hp }
theorem le1_iff {a b : Md} : le1 a b = true ↔ b = .no ∨ a = b := by
  by_cases hb : b = .no
  · subst hb; exact ⟨fun _ => .inl rfl, fun _ => by cases a <;> rfl⟩
  · constructor
    · intro h
      have h2 : le1 a b = (a == b) := by cases b <;> first | exact (hb rfl).elim | (cases a <;> rfl)
      rw [h2] at h
      exact .inr (eq_of_beq h)
    · rintro (h | h)
      · exact (hb h).elim
      · have h2 : le1 a b = (a == b) := by cases b <;> first | exact (hb rfl).elim | (cases a <;> rfl)
        rw [h2, h]; exact beq_self_eq_true _
theorem leM_refl : ∀ (m : List Md), leM m m = true
  | [] => rfl
  | a :: r => by unfold leM; rw [leM_refl r, le1_iff.mpr (.inr rfl)]; rfl
theorem leM_set : ∀ (m : List Md) (v : Nat), leM m (m.set v .no) = true
  | [], _ => rfl
  | a :: r, 0 => by show (le1 a .no && leM r r) = true; rw [leM_refl]; cases a <;> rfl
  | a :: r, v + 1 => by show (le1 a a && leM r (r.set v .no)) = true; rw [leM_set, le1_iff.mpr (.inr rfl)]; rfl
theorem le1_tr : ∀ {x y z : Md}, le1 x y = true → le1 y z = true → le1 x z = true := by
  intro x y z h1 h2
  rcases le1_iff.mp h2 with e | e
  · exact le1_iff.mpr (.inl e)
  · rw [← e]; exact h1
theorem leM_tr : ∀ {a b c : List Md}, leM a b = true → leM b c = true → leM a c = true
  | [], [], _, _, h2 => h2
  | [], _ :: _, _, h1, _ => Bool.noConfusion (show false = true from h1)
  | _ :: _, [], _, h1, _ => Bool.noConfusion (show false = true from h1)
  | _ :: _, _ :: _, [], _, h2 => Bool.noConfusion (show false = true from h2)
  | x :: a, y :: b, z :: c, h1, h2 => by
    unfold leM at h1 h2 ⊢
    rw [Bool.and_eq_true] at h1 h2 ⊢
    exact ⟨le1_tr h1.1 h2.1, leM_tr h1.2 h2.2⟩
theorem leM_wipe (m : List Md) : ∀ vs : List Nat, leM m (wipeM m vs) = true
  | [] => leM_refl m
  | v :: vs => leM_tr (leM_wipe m vs) (leM_set _ v)
theorem Rs.wipe1 (r : Rs K g m own σ ρ H ps) (hs : g.sx = []) (v : Nat) : Rs K g (m.set v .no) own (σ.set v none) (ρ.set v none) H ps := by
  have r1 := r.weak (leM_set m v)
  have ne : ∀ {j : Nat} {x : Md}, (m.set v .no)[j]? = some x → x ≠ .no → j ≠ v := fun {j x} h hx z => by
    subst z
    rcases set_at h with ⟨_, z, _⟩ | ⟨z, _⟩
    · exact hx z
    · exact z rfl
  exact {
    len := by rw [List.length_set, List.length_set]; exact r.len
    sh := fun j d h1 h2 => by
      have e := ne h1 (by decide)
      rw [List.getElem?_set_ne (Ne.symm e)] at h2
      obtain ⟨w, h3, h4⟩ := r1.sh j d h1 h2
      exact ⟨w, by rw [List.getElem?_set_ne (Ne.symm e)]; exact h3, h4⟩
    ow := fun j h => by
      have e : j ≠ v := by rcases h with h | h <;> exact ne h (by decide)
      obtain ⟨d, h1, h2, h3⟩ := r1.ow j h
      exact ⟨d, by rw [List.getElem?_set_ne (Ne.symm e)]; exact h1, by rw [List.getElem?_set_ne (Ne.symm e)]; exact h2, h3⟩
    sb := fun j d h1 h2 => by
      have e := ne h1 (by decide)
      rw [List.getElem?_set_ne (Ne.symm e)] at h2
      obtain ⟨w, h3, h4⟩ := r1.sb j d h1 h2
      exact ⟨w, by rw [List.getElem?_set_ne (Ne.symm e)]; exact h3, h4⟩
    xc := fun j a dx h => by
      have e : j ≠ v := ne h (fun z => nomatch z)
      obtain ⟨d, h1, h2, h3⟩ := r1.xc j a dx h
      exact ⟨d, by rw [List.getElem?_set_ne (Ne.symm e)]; exact h1, by rw [List.getElem?_set_ne (Ne.symm e)]; exact h2, h3⟩
    ex := r1.ex
    sx := fun p hp => by rw [hs] at hp; cases hp
    inj := r1.inj
    nE := r1.nE
    base := r1.base
    pool := r1.pool
    eT := r1.eT }
theorem Rs.wipe (r : Rs K g m own σ ρ H ps) (hs : g.sx = []) : ∀ vs : List Nat, Rs K g (wipeM m vs) own (L2.wipe σ vs) (wipeR ρ vs) H ps
  | [] => r
  | v :: vs => (r.wipe hs vs).wipe1 hs v
theorem Rs.hideTo {p : Addr} {o : HO} {H' : Hp} {ps' : Ps} (r : Rs K g m own σ ρ H ps) (hp : H p = none) (hx : Exo (plS g.pl) H H') (ho : H' p = some o) (pp : PoolAt g.pl H' ps') : Rs K (g.hd p) m own σ ρ H' ps' :=
  (r.hide (o := o) hp).mono (g := g.hd p) (fun a u e n => by
    by_cases z : a = p
    · subst z; rw [upd_same] at e; cases e; exact ho
    · rw [upd_ne z] at e; exact hx a u e n) pp
end
/-- what an item is worth at its turn -/
theorem item_val {pl : Pl} {K : PySem.W.Frag} {O : Addr → Prop} {H H' : Hp} {ps : Ps} {it : Item} {x : V} (hO : ∀ a, O a → H a ≠ none) (hp : PoolAt pl H ps) (hR : it.R pl K (hid O H)) (hY : it.Y H x H') : Exo (plS pl) H H' ∧ PoolAt pl H' ps ∧ Rep pl K (hid O H') it.d x := by
  cases it with
  | one d v =>
    obtain ⟨rfl, rfl⟩ := hY
    exact ⟨Exo.refl, hp, hR⟩
  | tup ds vs =>
    obtain ⟨T', rfl, hT, rfl⟩ := hY
    have np : ¬ O T' := fun z => hO T' z hT
    have hR : Reps pl K (hid O H) ds vs := hR
    refine ⟨Exo.new hT, hp.new hT, ?_⟩
    show Rep _ _ _ (.tup ds) _
    unfold Rep
    refine ⟨T', vs, rfl, .of (by rw [hid_at np]; exact upd_same), hR.mono fun a o q => ?_⟩
    obtain ⟨n1, q⟩ := hid_of q
    rw [hid_at n1, upd_ne (ne_of_none q hT)]
    exact q
theorem Item.R.mono {pl : Pl} {K : PySem.W.Frag} {H H' : Hp} {it : Item} (e : Ex H H') (h : it.R pl K H) : it.R pl K H' := by
  cases it with
  | one d v => exact Rep.mono e h
  | tup ds vs => exact Reps.mono e h

/-! ### within a block -/
abbrev blkOf (X : Cx) (scope : Scope) (s : Shared) (H : Hp) (C : Addr) (cl : List (Str × Addr)) (fp : List Addr) : Cx := X.blk s H scope (compEnvC scope cl C X.env) fp
def bE (X : Cx) (scope : Scope) (e : Expr) : TE := fun σ H Q => ∀ s H0 C cl fp, cE (blkOf X scope s H0 C cl fp) e σ H Q
def bG (X : Cx) (scope : Scope) (e : Expr) : TG := fun v σ H Q => ∀ s H0 C cl fp, cG (blkOf X scope s H0 C cl fp) e v σ H Q
def cTs (X : Cx) (ifs : List Expr) : TT := fun σ H Q => ∀ pins s, Inv X pins σ H s →
    wpAny (model X.prog X.w) X.A (forIn ifs true fun c r => if r = true then do let ok ← isTrue c X.env (eval c X.env); pure (ForInStep.yield ok) else pure (ForInStep.yield r)) (TP X pins σ Q) X.xe s
def bTs (X : Cx) (scope : Scope) (ifs : List Expr) : TT := fun σ H Q => ∀ s H0 C cl fp, cTs (blkOf X scope s H0 C cl fp) ifs σ H Q
structure Txs (X : Cx) (m : List Md) (ifs : List Expr) (f : FT) : Prop where
  can : ∀ {g : G} {own : Nat → Addr} {σ : L2.St} {ρ : Rho} {H : Hp} {ps : Ps}, Rs X.K g m own σ ρ H ps → noX (f ρ) ps ≠ .und → cTs X ifs σ H (QB g.pl H (noX (f ρ) ps))
def yesF : FT := fun _ => pure true
theorem txs_nil {X : Cx} {m : List Md} : Txs X m [] yesF := ⟨fun r n pins s I => pts_nil.run pins s _ _ _ I ⟨_, rfl, Exo.refl, r.pool⟩⟩
theorem WF_ok {α : Type} {pl : Pl} {K : PySem.W.Frag} {O : Addr → Prop} {σ : L2.St} {H : Hp} {x : R α} {ps : Ps} (n : noX x ps ≠ .und) : WOk WF pl K O σ H (x ps) ∧ x ps ≠ .und ∧ noX x ps = x ps := by
  obtain ⟨a, ps', h1, h2⟩ := noX_ok n
  refine ⟨fun y ps'' dx H' e => (by rw [h1] at e; cases e), (by rw [h1]; exact fun z => nomatch z), h2.trans h1.symm⟩
theorem txs_one {X : Cx} {m : List Md} {c : Expr} {t : FT} (h : Tx X WF m c t) : Txs X m [c] t := ⟨fun r n pins s I => by
  obtain ⟨w, n1, e⟩ := WF_ok n
  rw [e]
  exact (pts_one (pt_c X c)).run pins s _ _ _ I (h.can r n1 w)⟩
theorem Dx.cX {X : Cx} {k : Kd} {m : List Md} {e : Expr} {f : FE} (h : Dx k X WF m e f) {g : G} {own : Nat → Addr} {σ : L2.St} {ρ : Rho} {H : Hp} {ps : Ps} (r : Rs X.K g m own σ ρ H ps) (n : noX (f ρ) ps ≠ .und) : cE X e σ H (QV k g.pl X.K (Xs m own g) H (noX (f ρ) ps)) := by
  obtain ⟨w, n1, e⟩ := WF_ok n
  rw [e]
  exact h.c r n1 w
end DL
set_option Elab.async false
set_option linter.all false
set_option maxRecDepth 100000
set_option maxHeartbeats 2000000
/-! D25: list comprehensions over what is walked. -/
namespace DL
open PySem PySem.Spec PyProof.Rows L2
section
variable {X : Cx} {W : WX} {m mT : List Md} {elt tg iter kx vx : Expr} {ifs : List Expr} {scope : Scope} {own0 : List (Str × Nat)} {pos : Pos} {F : D → Rho → R Rho} {fc : FT} {fe fk fv : FE} {fi : FA} {is : List Nat} {Jc : JP}
/-- a turn's beginning: the target, the tests -/
def tuF {α : Type} (F : D → Rho → R Rho) (fc : FT) (d : D) (k : Rho → Bool → R α) : Rho → R α := fun ρ => do let ρ1 ← noX (F d ρ); let b ← noX (fc ρ1); k ρ1 b
/-- owned slots stay owned -/
def owM : Md → Bool
  | .ow => true
  | .io => true
  | _ => false
def keepM : List Md → List Md → Bool
  | [], _ => true
  | a :: r, b :: t => (!owM a || owM b) && keepM r t
  | a :: r, [] => !owM a && keepM r []
theorem owM_iff {a : Md} : owM a = true ↔ a = .ow ∨ a = .io := by cases a <;> simp [owM]
theorem keepM_at : ∀ {m m2 : List Md}, keepM m m2 = true → ∀ (i : Nat), (m[i]? = some .ow ∨ m[i]? = some .io) → (m2[i]? = some .ow ∨ m2[i]? = some .io)
  | [], _, _, i, h => by simp at h
  | a :: r, b :: t, h, 0, q => by
    unfold keepM at h
    rw [Bool.and_eq_true] at h
    have ha : owM a = true := owM_iff.mpr (by simpa using q)
    have hb : owM b = true := by simpa [ha] using h.1
    simpa using owM_iff.mp hb
  | a :: r, b :: t, h, i + 1, q => by
    unfold keepM at h
    rw [Bool.and_eq_true] at h
    simpa using keepM_at h.2 i (by simpa using q)
  | a :: r, [], h, 0, q => by
    unfold keepM at h
    rw [Bool.and_eq_true] at h
    have ha : owM a = true := owM_iff.mpr (by simpa using q)
    rw [ha] at h
    exact Bool.noConfusion h.1
  | a :: r, [], h, i + 1, q => by
    unfold keepM at h
    rw [Bool.and_eq_true] at h
    have := keepM_at h.2 i (by simpa using q)
    simp at this
theorem keepM_xs {m m2 : List Md} {own : Nat → Addr} {g : G} (h : keepM m m2 = true) : ∀ a, Xs m own g a → Xs m2 own g a := fun a z => by
  rcases z with z | z | ⟨i, z, e⟩
  · exact .inl z
  · exact .inr (.inl z)
  · exact .inr (.inr ⟨i, keepM_at h i z, e⟩)
/-- what is seen of a comprehension's block -/
structure Blk (X : Cx) (scope : Scope) (m : List Md) (vs : List Nat) (tg : Expr) (ifs : List Expr) (Jc : JP) (mT : List Md) (is : List Nat) (F : D → Rho → R Rho) (fc : FT) : Prop where
  tg : ∀ (s : Shared) (H : Hp) (C : Addr) (cl : List (Str × Addr)) (fp : List Addr), TgD (blkOf X scope s H C cl fp) Jc (wipeM m vs) mT tg is F
  ifs : ∀ (s : Shared) (H : Hp) (C : Addr) (cl : List (Str × Addr)) (fp : List Addr), Txs (blkOf X scope s H C cl fp) mT ifs fc
  sub : ∀ i ∈ is, i ∈ vs
  keep1 : keepM m (wipeM m vs) = true
  keep2 : keepM (wipeM m vs) mT = true
theorem turn_go {vs : List Nat} {α : Type} {k : Rho → Bool → R α} (B : Blk X scope m vs tg ifs Jc mT is F fc) {g : G} {own : Nat → Addr} {σ : L2.St} {ρ : Rho} {H H' : Hp} {ps : Ps} {it : Item} {x : V} {Post : Bool → L2.St → Hp → Prop} (hs : g.sx = [])
    (r : Rs X.K g (wipeM m vs) own (wipe σ vs) (wipeR ρ vs) H ps) (hR : it.R g.pl X.K (hid (Xs (wipeM m vs) own g) H)) (hY : it.Y H x H') (n : tuF F fc it.d k (wipeR ρ vs) ps ≠ .und)
    (hq : ∀ ρ1 σ1 b H4 ps4, Rs X.K g mT own σ1 ρ1 H4 ps4 → Exo (plS g.pl) H H4 → tuF F fc it.d k (wipeR ρ vs) ps = k ρ1 b ps4 → Post b σ1 H4) :
    bG X scope tg x (wipe σ vs) H' fun σ2 H2 => wipe σ2 vs = wipe σ vs ∧ bTs X scope ifs σ2 H2 fun b H3 => Post b σ2 H3 := by
  obtain ⟨x1, p1, hd⟩ := item_val r.xT r.pool hR hY
  have r1 := r.mono x1 p1
  intro s0 H0 C cl fp pins s u I rv
  obtain ⟨ρ', ps', h1, h2⟩ := noX_ok (ne_of_bind n)
  refine thn ((B.tg s0 H0 C cl fp).run g own pins s (wipe σ vs) (wipeR ρ vs) H' ps it.d x u I r1 (fun p hp => by rw [hs] at hp; cases hp) hd rv (by rw [h1]; exact fun z => nomatch z)) fun _ s2 ⟨ρ1, σ1, e1, I1, r2, sb⟩ => ?_
  rw [h1] at e1
  cases e1
  refine ⟨σ1, H', I1, by rw [wipe_same sb B.sub, wipe_idem], fun s0' H0' C' cl' fp' => ?_⟩
  have e2 : tuF F fc it.d k (wipeR ρ vs) ps = (noX (fc ρ') >>= fun b => k ρ' b) ps := bind_ok h2
  rw [e2] at n
  have hk := (B.ifs s0' H0' C' cl' fp').can (σ := σ1) r2 (ne_of_bind n)
  intro pins3 s3 I3
  refine thn (hk pins3 s3 I3) fun b s4 ⟨H4, I4, ps4, e4, x4, p4⟩ => ⟨H4, I4, ?_⟩
  exact hq ρ' σ1 b H4 ps4 (r2.mono x4 p4) (x1.trans x4) (by rw [e2]; exact bind_ok e4)

def lcGo (F : D → Rho → R Rho) (fc : FT) (fe : FE) : List D → Rho → R (List D)
  | [], _ => pure []
  | d :: r, ρ => tuF F fc d (fun ρ1 b => if b = true then (do let y ← noX (fe ρ1); let t ← lcGo F fc fe r ρ; pure (y :: t)) else lcGo F fc fe r ρ) ρ
def lcF (vs : List Nat) (fi : FA) (F : D → Rho → R Rho) (fc : FT) (fe : FE) : FE := fun ρ => do let its ← fi ρ; let ds ← noX (lcGo F fc fe its (wipeR ρ vs)); if lenC ds.length = true then pure (.lst ds) else R.und
/-- a list comprehension, its iterator's walk given -/
theorem lc_t {vs : List Nat} {Q : VK} (B : Blk X scope m vs tg ifs Jc mT is F fc) (he : ∀ (s : Shared) (H : Hp) (C : Addr) (cl : List (Str × Addr)) (fp : List Addr), Dx .cl (blkOf X scope s H C cl fp) WF mT elt fe)
    {g : G} {own : Nat → Addr} {σ : L2.St} {ρ : Rho} {H : Hp} {ps : Ps} (r : Rs X.K g m own σ ρ H ps) (hcI : cI X tg iter σ H (QI m own g.pl X.K (Xs m own g) H (fi ρ ps))) (n : lcF vs fi F fc fe ρ ps ≠ .und) (hQ : ∀ v H', QV .fr g.pl X.K (Xs m own g) H (lcF vs fi F fc fe ρ ps) v H' → Q v H') :
    tLc (cI X tg iter) (bG X scope tg) (bTs X scope ifs) (bE X scope elt) vs σ H Q := by
  intro pins0 s0 I0
  refine thn (hcI pins0 s0 I0) fun v s1 h1 => thn h1 fun itv s2 h2 => ?_
  obtain ⟨it, fp, tn, JJ, H1, e1, I1, T, st2, f2, its, ps1, ks, e2, x1, p1, wk, hk, hits⟩ := h2
  refine ⟨it, fp, tn, JJ, H1, e1, I1, T, st2, f2, fun Da hDa => ?_⟩
  have e3 : lcF vs fi F fc fe ρ ps = (noX (lcGo F fc fe (its.map Item.d) (wipeR ρ vs)) >>= fun ds => if lenC ds.length = true then (pure (.lst ds) : R D) else R.und) ps1 := bind_ok e2
  rw [e3] at n hQ
  obtain ⟨fin, psf, hfin, hfin'⟩ := noX_ok (ne_of_bind n)
  rw [bind_ok hfin'] at n hQ
  obtain ⟨hlen, hret⟩ := ifB_und n
  rw [hret] at hQ
  have r0 := (r.mono x1 p1).ns.wipe rfl vs
  have r1 := r.mono x1 p1
  have npl : ¬ plS g.pl Da := r1.npl hDa
  have nX : ¬ Xs m own g Da := fun z => r1.xT _ z hDa
  have xsw : ∀ a, Xs (wipeM m vs) own g.ns a → Xs m own g a := fun a z => by
    rcases z with z | z | ⟨i, z, e⟩
    · exact .inl z
    · exact .inr (.inl z)
    · refine .inr (.inr ⟨i, ?_, e⟩)
      rcases z with z | z
      · exact .inl (leM_at (leM_wipe m vs) i _ z (by decide))
      · exact .inr (leM_at (leM_wipe m vs) i _ z (by decide))
  -- the state at a turn
  have stt : ∀ {H2 : Hp} {ps2 : Ps} {acc : List V}, Exo (plS g.pl) H1 H2 → PoolAt g.pl H2 ps2 → H2 Da = some (.lst acc) → Rs X.K (g.ns.hd Da) (wipeM m vs) own (wipe σ vs) (wipeR ρ vs) H2 ps2 := fun x2 p2 hd => r0.hideTo hDa x2 hd p2
  have lift : ∀ {H2 : Hp}, Exo (plS g.pl) H1 H2 → Ex (hid (Xs m own g) H1) (hid (Xs (wipeM m vs) own (g.ns.hd Da)) H2) := fun {H2} x2 a o q => by
    obtain ⟨n1, q⟩ := hid_of q
    have na : a ≠ Da := ne_of_none q hDa
    rw [hid_at (fun z => (Xs.hd_out a z).elim (fun z => n1 (xsw a z)) na)]
    exact x2 a o q fun z => n1 (Xs.pl _ z)
  let P : Nat → Hp → Prop := fun i H2 => i ≤ its.length ∧ ∃ (acc : List D) (av : List V) (ps2 : Ps), Exo (plS g.pl) H1 H2 ∧ PoolAt g.pl H2 ps2 ∧ H2 Da = some (.lst av) ∧ Reps g.pl X.K (hid (Xs (wipeM m vs) own (g.ns.hd Da)) H2) acc av ∧
    (lcGo F fc fe ((its.map Item.d).drop i) (wipeR ρ vs) >>= fun t => (pure (acc ++ t) : R (List D))) ps2 = .ok fin psf
  refine ⟨fun i k H2 => k = its.length - i ∧ P i H2, ⟨its.length, by simp, Nat.zero_le _, [], [], ps1, Exo.new hDa, p1.new hDa, upd_same, Reps.nil, ?_⟩, ?_⟩
  · rw [List.drop_zero, bind_ok hfin]; rfl
  rintro i k H2 ⟨rfl, hil, acc, av, ps2, x2, p2, hav, hreps, heq⟩
  have kH : KeepH ks H2 := fun p hp => x2 _ _ (hk p hp).1 (hk p hp).2.1
  by_cases hlt : i < its.length
  · right
    refine ⟨wk.go i H2 hlt kH, fun H' => P (i + 1) H', fun H' q => ⟨its.length - (i + 1), by omega, rfl, q⟩, fun x H' hy => ?_⟩
    have hit := List.getElem?_eq_getElem hlt
    have hY := wk.yld i x H2 H' its[i] hit kH hy
    have hdrop : (its.map Item.d).drop i = its[i].d :: (its.map Item.d).drop (i + 1) := by
      rw [List.drop_eq_getElem_cons (by simpa using hlt)]; simp
    rw [hdrop] at heq
    have ntot := ne_of_bind (show (lcGo F fc fe (its[i].d :: (its.map Item.d).drop (i + 1)) (wipeR ρ vs) >>= fun t => (pure (acc ++ t) : R (List D))) ps2 ≠ .und by rw [heq]; exact fun z => nomatch z)
    have rr := stt x2 p2 hav
    refine turn_go B rfl rr ((hits _ (List.getElem_mem hlt)).mono (lift x2)) hY ntot fun ρ1 σ1 b H4 ps4 r4 x4 e4 => ?_
    have x14 := x2.trans x4
    have hav4 : H4 Da = some (.lst av) := x4 _ _ hav npl
    have ex4 : Ex (hid (Xs (wipeM m vs) own (g.ns.hd Da)) H2) (hid (Xs (wipeM m vs) own (g.ns.hd Da)) H4) := x4.hid Xs.pl
    have heq4 : ((if b = true then (do let y ← noX (fe ρ1); let t ← lcGo F fc fe ((its.map Item.d).drop (i + 1)) (wipeR ρ vs); pure (y :: t)) else lcGo F fc fe ((its.map Item.d).drop (i + 1)) (wipeR ρ vs)) >>= fun t => (pure (acc ++ t) : R (List D))) ps4 = .ok fin psf := by
      rw [← heq]
      show R.bnd _ _ ps4 = R.bnd _ _ ps2
      unfold R.bnd
      rw [show lcGo F fc fe (its[i].d :: (its.map Item.d).drop (i + 1)) (wipeR ρ vs) ps2 = _ from e4]
    cases b with
    | false =>
      exact ⟨hlt, acc, av, ps4, x14, r4.pool, hav4, hreps.mono ex4, heq4⟩
    | true =>
      rw [if_pos rfl] at heq4 ⊢
      have n5 : noX (fe ρ1) ps4 ≠ .und := ne_of_bind (ne_of_bind (show ((do let y ← noX (fe ρ1); let t ← lcGo F fc fe ((its.map Item.d).drop (i + 1)) (wipeR ρ vs); pure (y :: t) : R (List D)) >>= fun t => (pure (acc ++ t) : R (List D))) ps4 ≠ .und by rw [heq4]; exact fun z => nomatch z))
      intro s5 H5 C5 cl5 fp5
      refine cE.mono ((he s5 H5 C5 cl5 fp5).cX r4 n5) fun y H6 ⟨d6, ps6, e6, x6, p6, q6⟩ => ?_
      have heq6 : (lcGo F fc fe ((its.map Item.d).drop (i + 1)) (wipeR ρ vs) >>= fun t => (pure (acc ++ d6 :: t) : R (List D))) ps6 = .ok fin psf := by
        rw [← heq4]
        show R.bnd _ _ ps6 = R.bnd (R.bnd (noX (fe ρ1)) _) _ ps4
        unfold R.bnd
        rw [e6]
        show _ = R.bnd (R.bnd _ _) _ ps6
        unfold R.bnd
        cases lcGo F fc fe ((its.map Item.d).drop (i + 1)) (wipeR ρ vs) ps6 <;> rfl
      have hav6 : H6 Da = some (.lst av) := x6 _ _ hav4 npl
      have hacc : acc.length < fin.length := by
        cases z : lcGo F fc fe ((its.map Item.d).drop (i + 1)) (wipeR ρ vs) ps6 with
        | und => rw [bind_und z] at heq6; cases heq6
        | exc e q => rw [bind_exc z] at heq6; cases heq6
        | ok t q =>
          rw [bind_ok z] at heq6
          have : Res.ok (acc ++ d6 :: t) q = Res.ok fin psf := heq6
          cases this
          simp
      refine ⟨av, hav6, ?_, hlt, acc ++ [d6], av ++ [y], ps6, ?_, pool_unhide npl p6, upd_same, ?_, ?_⟩
      · rw [hreps.length]; exact Nat.lt_of_lt_of_le hacc (lenC_ok hlen)
      · exact fun a o h nn => by rw [upd_ne (ne_of_none h hDa)]; exact (x14.trans x6) a o h nn
      · have hm : Ex (hid (Xs (wipeM m vs) own (g.ns.hd Da)) H6) (hid (Xs (wipeM m vs) own (g.ns.hd Da)) (upd H6 Da (.lst (av ++ [y])))) := fun a o q => by
          obtain ⟨n1, q⟩ := hid_of q
          rw [hid_at n1, upd_ne (fun z => n1 (.inl (.inr z)))]
          exact q
        refine Reps.mono hm (((hreps.mono ex4).mono (x6.hid Xs.pl)).append (Reps.cons ?_ Reps.nil))
        exact Rep.mono (hid_sub (keepM_xs B.keep2)) q6
      · rw [← heq6]; simp
  · left
    have hie : i = its.length := by omega
    subst hie
    refine ⟨wk.stop H2 kH, ?_⟩
    rw [List.drop_eq_nil_of_le (by simp)] at heq
    have : Res.ok (acc ++ []) ps2 = Res.ok fin psf := heq
    rw [List.append_nil] at this
    cases this
    refine hQ _ _ ⟨.lst fin, psf, rfl, x1.trans x2, p2, Da, rfl, ?_, av, hav, hreps.mono fun a o q => ?_⟩
    · cases z : H Da with
      | none => rfl
      | some o => rw [x1 _ _ z npl] at hDa; cases hDa
    · obtain ⟨n1, q⟩ := hid_of q
      rw [hid_at (fun z => z.elim (fun z => n1 (Xs.hd_in a (keepM_xs (g := g.ns) B.keep1 a z))) fun z => n1 (.inl (.inr z)))]
      exact q
theorem lc_run (hc : X.calm = true) (hN : X.N.Nodup) (ok : BlkOk X.N X.env.scope scope own0) (B : Blk X scope m (own0.map (·.2)) tg ifs Jc mT is F fc) (he : ∀ (s : Shared) (H : Hp) (C : Addr) (cl : List (Str × Addr)) (fp : List Addr), Dx .cl (blkOf X scope s H C cl fp) WF mT elt fe) (hsf : ∀ x, foldedSetIterable iter X.env x = pure x)
    {g : G} {own : Nat → Addr} {pins : List (Addr × Obj)} {s : Shared} {σ : L2.St} {ρ : Rho} {H : Hp} {ps : Ps} (I : Inv X pins σ H s) (r : Rs X.K g m own σ ρ H ps) (hcI : cI X tg iter σ H (QI m own g.pl X.K (Xs m own g) H (fi ρ ps))) (n : lcF (own0.map (·.2)) fi F fc fe ρ ps ≠ .und) :
    wpAny (model X.prog X.w) X.A (eval (.ListComp elt [⟨tg, iter, ifs, 0⟩] scope pos) X.env) (EP X pins σ (QV .fr g.pl X.K (Xs m own g) H (lcF (own0.map (·.2)) fi F fc fe ρ ps))) X.xe s :=
  (pe_lc (te := bE X scope elt) (g := bG X scope tg) (tt := bTs X scope ifs) hc hN (pi_c X tg iter) ok (fun s H0 C cl fp => ⟨fun pins s' σ H v u Q I rv h => h s H0 C cl fp pins s' u I rv⟩) (fun s H0 C cl fp => ⟨fun pins s' σ H Q I h => h s H0 C cl fp pins s' I⟩) (fun s H0 C cl fp => ⟨fun pins s' σ H Q I h => h s H0 C cl fp pins s' I⟩) hsf).run pins s σ H _ I (lc_t B he r hcI n fun _ _ z => z)
end
end DL
set_option Elab.async false
set_option linter.all false
set_option maxRecDepth 100000
set_option maxHeartbeats 2000000
/-! D26: comprehensions over lists and dicts. -/
namespace DL
open PySem PySem.Spec PyProof.Rows L2
theorem QV.unlockF {pl : Pl} {K : PySem.W.Frag} {O : Addr → Prop} {H H' : Hp} {r : Res D} {v : V} {q : Addr} {u : HO} {od : Obj} (hu : DkO u) (hq : H q = some u) (np : ¬ plS pl q) (h : QV .fr pl K O (upd H q (.frz od u)) r v H') : H' q = some (.frz od u) ∧ QV .fr pl K O H r v (upd H' q u) := by
  obtain ⟨d, ps', e, x, p, a, ev, ha, t⟩ := h
  have hq' : H' q = some (.frz od u) := x q _ upd_same np
  have naq : a ≠ q := fun z => by subst z; rw [upd_same] at ha; cases ha
  rw [upd_ne naq] at ha
  refine ⟨hq', d, ps', e, exo_unlock (B := H) Exo.refl hq np x, p.keep fun b hb => upd_ne fun z => np (by rw [← z]; exact hb), a, ev, ha, ?_⟩
  rw [upd_ne naq]
  exact t.monoM (ExM.unlock hu hq')
section
variable {X : Cx} {W : WX} {m mT : List Md} {elt tg iter kx vx e : Expr} {ifs : List Expr} {scope : Scope} {own0 : List (Str × Nat)} {pos : Pos} {F : D → Rho → R Rho} {fc : FT} {fe fk fv f : FE} {fi : FA} {is : List Nat} {Jc : JP}
theorem dx_lc (hc : X.calm = true) (hN : X.N.Nodup) (ok : blkC X.N X.env.scope scope own0 = true) (hi : DI X W m tg iter fi) (B : Blk X scope m (own0.map (·.2)) tg ifs Jc mT is F fc) (he : ∀ (s : Shared) (H : Hp) (C : Addr) (cl : List (Str × Addr)) (fp : List Addr), Dx .cl (blkOf X scope s H C cl fp) WF mT elt fe) (hsf : ∀ x, foldedSetIterable iter X.env x = pure x := by intro _; rfl) :
    Dx .fr X W m (.ListComp elt [⟨tg, iter, ifs, 0⟩] scope pos) (lcF (own0.map (·.2)) fi F fc fe) :=
  ⟨fun g own pins s σ ρ H ps I r n w => lc_run hc hN (blkOk_by ok) B he hsf I r (hi.can r (ne_of_bind n) (WOk.left w)) n⟩
theorem dx_lcK {Gk : List (Key × D) → List D} (hc : X.calm = true) (hN : X.N.Nodup) (ok : blkC X.N X.env.scope scope own0 = true) (hk : KWk X tg e iter Gk) (hpl : PlD X m e f) (B : Blk X scope m (own0.map (·.2)) tg ifs Jc mT is F fc) (he : ∀ (s : Shared) (H : Hp) (C : Addr) (cl : List (Str × Addr)) (fp : List Addr), Dx .cl (blkOf X scope s H C cl fp) WF mT elt fe) (hsf : ∀ x, foldedSetIterable iter X.env x = pure x := by intro _; rfl) :
    Dx .fr X W m (.ListComp elt [⟨tg, iter, ifs, 0⟩] scope pos) (lcF (own0.map (·.2)) (kwF Gk f) F fc fe) := by
  refine ⟨fun g own pins s σ ρ H ps I r n w => ?_⟩
  obtain ⟨kvs, q, vs, e1, hr, np, no, t1, hE⟩ := hpl.run r (kwF_ne (ne_of_bind n))
  have e2 : kwF Gk f ρ ps = .ok (Gk kvs) ps := bind_ok e1
  rcases hr with hr | ⟨od, hr⟩
  · refine (pe_lock (pe_c X _)).run pins s σ H _ I ⟨q, .dK vs, hr, True.intro, fun od pins1 s1 I1 => ?_⟩
    have r1 := r.lock (od := od) (u := .dK vs) True.intro hr np no
    refine thn (lc_run (fi := kwF Gk f) hc hN (blkOk_by ok) B he hsf I1 r1 (by rw [e2]; exact hk.run (g := g.lk q (.frz od (.dK vs))) r1 upd_same np no (t1.monoM (ExM.lock (u := .dK vs) True.intro hr)) (hE _ od (fun a ha => upd_ne ha) upd_same)) n) fun v s2 h => epI h fun v H' z => ?_
    exact QV.unlockF (u := .dK vs) True.intro hr np z
  · exact lc_run hc hN (blkOk_by ok) B he hsf I r (by rw [e2]; exact hk.run r hr np no t1 (hE H od (fun _ _ => rfl) hr)) n

/-! ### dict comprehensions -/
def dcGo (F : D → Rho → R Rho) (fc : FT) (fk fv : FE) : List D → Rho → List (Key × D) → R (List (Key × D))
  | [], _, acc => pure acc
  | d :: r, ρ, acc => tuF F fc d (fun ρ1 b => if b = true then (do
      let k ← noX (fk ρ1)
      let y ← noX (fv ρ1)
      let k ← ofO (keyOf k)
      if lenC (acc.length + 1) = true then dcGo F fc fk fv r ρ (putD acc k y) else R.und) else dcGo F fc fk fv r ρ acc) ρ
def dcF (vs : List Nat) (fi : FA) (F : D → Rho → R Rho) (fc : FT) (fk fv : FE) : FE := fun ρ => do let its ← fi ρ; let kvs ← noX (dcGo F fc fk fv its (wipeR ρ vs) []); pure (.dk kvs)
theorem dc_t {vs : List Nat} {Q : VK} (B : Blk X scope m vs tg ifs Jc mT is F fc) (hk0 : ∀ (s : Shared) (H : Hp) (C : Addr) (cl : List (Str × Addr)) (fp : List Addr), Dx .bo (blkOf X scope s H C cl fp) WF mT kx fk)
    (he : ∀ (s : Shared) (H : Hp) (C : Addr) (cl : List (Str × Addr)) (fp : List Addr), Dx .cl (blkOf X scope s H C cl fp) WF mT vx fv)
    {g : G} {own : Nat → Addr} {σ : L2.St} {ρ : Rho} {H : Hp} {ps : Ps} (r : Rs X.K g m own σ ρ H ps) (hcI : cI X tg iter σ H (QI m own g.pl X.K (Xs m own g) H (fi ρ ps))) (n : dcF vs fi F fc fk fv ρ ps ≠ .und) (hQ : ∀ v H', QV .fr g.pl X.K (Xs m own g) H (dcF vs fi F fc fk fv ρ ps) v H' → Q v H') :
    tDc (cI X tg iter) (bG X scope tg) (bTs X scope ifs) (bE X scope kx) (bE X scope vx) vs σ H Q := by
  intro pins0 s0 I0
  refine thn (hcI pins0 s0 I0) fun v s1 h1 => thn h1 fun itv s2 h2 => ?_
  obtain ⟨it, fp, tn, JJ, H1, e1, I1, T, st2, f2, its, ps1, ks, e2, x1, p1, wk, hk, hits⟩ := h2
  refine ⟨it, fp, tn, JJ, H1, e1, I1, T, st2, f2, fun Da hDa => ?_⟩
  have e3 : dcF vs fi F fc fk fv ρ ps = (noX (dcGo F fc fk fv (its.map Item.d) (wipeR ρ vs) []) >>= fun kvs => (pure (.dk kvs) : R D)) ps1 := bind_ok e2
  rw [e3] at n hQ
  obtain ⟨fin, psf, hfin, hfin'⟩ := noX_ok (ne_of_bind n)
  rw [bind_ok hfin'] at hQ
  have r0 := (r.mono x1 p1).ns.wipe rfl vs
  have r1 := r.mono x1 p1
  have npl : ¬ plS g.pl Da := r1.npl hDa
  have nX : ¬ Xs m own g Da := fun z => r1.xT _ z hDa
  have xsw : ∀ a, Xs (wipeM m vs) own g.ns a → Xs m own g a := fun a z => by
    rcases z with z | z | ⟨i, z, e⟩
    · exact .inl z
    · exact .inr (.inl z)
    · refine .inr (.inr ⟨i, ?_, e⟩)
      rcases z with z | z
      · exact .inl (leM_at (leM_wipe m vs) i _ z (by decide))
      · exact .inr (leM_at (leM_wipe m vs) i _ z (by decide))
  have stt : ∀ {H2 : Hp} {ps2 : Ps} {o : HO}, Exo (plS g.pl) H1 H2 → PoolAt g.pl H2 ps2 → H2 Da = some o → Rs X.K (g.ns.hd Da) (wipeM m vs) own (wipe σ vs) (wipeR ρ vs) H2 ps2 := fun x2 p2 hd => r0.hideTo hDa x2 hd p2
  have lift : ∀ {H2 : Hp}, Exo (plS g.pl) H1 H2 → Ex (hid (Xs m own g) H1) (hid (Xs (wipeM m vs) own (g.ns.hd Da)) H2) := fun {H2} x2 a o q => by
    obtain ⟨n1, q⟩ := hid_of q
    have na : a ≠ Da := ne_of_none q hDa
    rw [hid_at (fun z => (Xs.hd_out a z).elim (fun z => n1 (xsw a z)) na)]
    exact x2 a o q fun z => n1 (Xs.pl _ z)
  let P : Nat → Hp → Prop := fun i H2 => i ≤ its.length ∧ ∃ (acc : List (Key × D)) (av : List (Key × V)) (ps2 : Ps), Exo (plS g.pl) H1 H2 ∧ PoolAt g.pl H2 ps2 ∧ H2 Da = some (.dK av) ∧ RepK g.pl X.K (hid (Xs (wipeM m vs) own (g.ns.hd Da)) H2) acc av ∧
    dcGo F fc fk fv ((its.map Item.d).drop i) (wipeR ρ vs) acc ps2 = .ok fin psf
  refine ⟨fun i k H2 => k = its.length - i ∧ P i H2, ⟨its.length, by simp, Nat.zero_le _, [], [], ps1, Exo.new hDa, p1.new hDa, upd_same, by unfold RepK; rfl, by rw [List.drop_zero]; exact hfin⟩, ?_⟩
  rintro i k H2 ⟨rfl, hil, acc, av, ps2, x2, p2, hav, hreps, heq⟩
  have kH : KeepH ks H2 := fun p hp => x2 _ _ (hk p hp).1 (hk p hp).2.1
  by_cases hlt : i < its.length
  · right
    refine ⟨wk.go i H2 hlt kH, fun H' => P (i + 1) H', fun H' q => ⟨its.length - (i + 1), by omega, rfl, q⟩, fun x H' hy => ?_⟩
    have hit := List.getElem?_eq_getElem hlt
    have hY := wk.yld i x H2 H' its[i] hit kH hy
    have hdrop : (its.map Item.d).drop i = its[i].d :: (its.map Item.d).drop (i + 1) := by
      rw [List.drop_eq_getElem_cons (by simpa using hlt)]; simp
    rw [hdrop] at heq
    have ntot : dcGo F fc fk fv (its[i].d :: (its.map Item.d).drop (i + 1)) (wipeR ρ vs) acc ps2 ≠ .und := by rw [heq]; exact fun z => nomatch z
    have rr := stt x2 p2 hav
    refine turn_go B rfl rr ((hits _ (List.getElem_mem hlt)).mono (lift x2)) hY ntot fun ρ1 σ1 b H4 ps4 r4 x4 e4 => ?_
    have x14 := x2.trans x4
    have hav4 : H4 Da = some (.dK av) := x4 _ _ hav npl
    have ex4 : Ex (hid (Xs (wipeM m vs) own (g.ns.hd Da)) H2) (hid (Xs (wipeM m vs) own (g.ns.hd Da)) H4) := x4.hid Xs.pl
    have heq4 := e4.symm.trans (show dcGo F fc fk fv (its[i].d :: (its.map Item.d).drop (i + 1)) (wipeR ρ vs) acc ps2 = _ from heq)
    cases b with
    | false =>
      exact ⟨hlt, acc, av, ps4, x14, r4.pool, hav4, hreps.mono ex4, heq4⟩
    | true =>
      rw [if_pos rfl] at heq4 ⊢
      have n5 : noX (fk ρ1) ps4 ≠ .und := ne_of_bind (by rw [heq4]; exact fun z => nomatch z)
      intro s5 H5 C5 cl5 fp5
      refine cE.mono ((hk0 s5 H5 C5 cl5 fp5).cX r4 n5) fun y H6 ⟨d6, ps6, e6, x6, p6, q6⟩ => ?_
      rw [bind_ok e6] at heq4
      have n7 : noX (fv ρ1) ps6 ≠ .und := ne_of_bind (by rw [heq4]; exact fun z => nomatch z)
      have r6 := r4.mono x6 p6
      intro s7 H7 C7 cl7 fp7
      refine cE.mono ((he s7 H7 C7 cl7 fp7).cX r6 n7) fun z H8 ⟨d8, ps8, e8, x8, p8, q8⟩ => ?_
      rw [bind_ok e8] at heq4
      obtain ⟨kk, k1, k2⟩ := ofO_ne (ne_of_bind (show (ofO (keyOf d6) >>= _) ps8 ≠ .und by rw [heq4]; exact fun z => nomatch z))
      rw [bind_ok k2] at heq4
      obtain ⟨hl1, hl2⟩ := ifB_und (show (if lenC (acc.length + 1) = true then dcGo F fc fk fv ((its.map Item.d).drop (i + 1)) (wipeR ρ vs) (putD acc kk d8) else R.und) ps8 ≠ .und by rw [heq4]; exact fun z => nomatch z)
      rw [hl2] at heq4
      have x68 := x6.trans x8
      have hav8 : H8 Da = some (.dK av) := x68 _ _ hav4 npl
      have ek := keyOf_rep (RepB.mono Xs.pl x8 q6).full k1
      refine ⟨av, kk, ek, hav8, ?_, hlt, putD acc kk d8, putK av kk z, ps8, ?_, pool_unhide npl p8, upd_same, ?_, heq4⟩
      · rw [hreps.length]; exact Nat.lt_of_lt_of_le (Nat.lt_succ_self _) (lenC_ok hl1)
      · exact fun a o h nn => by rw [upd_ne (ne_of_none h hDa)]; exact (x14.trans x68) a o h nn
      · have hm : Ex (hid (Xs (wipeM m vs) own (g.ns.hd Da)) H8) (hid (Xs (wipeM m vs) own (g.ns.hd Da)) (upd H8 Da (.dK (putK av kk z)))) := fun a o q => by
          obtain ⟨n1, q⟩ := hid_of q
          rw [hid_at n1, upd_ne (fun z => n1 (.inl (.inr z)))]
          exact q
        refine RepK.mono hm (((hreps.mono ex4).mono (x68.hid Xs.pl)).put kk ?_)
        exact Rep.mono (hid_sub (keepM_xs B.keep2)) q8
  · left
    have hie : i = its.length := by omega
    subst hie
    refine ⟨wk.stop H2 kH, ?_⟩
    rw [List.drop_eq_nil_of_le (by simp)] at heq
    have : Res.ok acc ps2 = Res.ok fin psf := heq
    cases this
    refine hQ _ _ ⟨.dk fin, psf, rfl, x1.trans x2, p2, Da, rfl, ?_, av, hav, hreps.mono fun a o q => ?_⟩
    · cases z : H Da with
      | none => rfl
      | some o => rw [x1 _ _ z npl] at hDa; cases hDa
    · obtain ⟨n1, q⟩ := hid_of q
      rw [hid_at (fun z => z.elim (fun z => n1 (Xs.hd_in a (keepM_xs (g := g.ns) B.keep1 a z))) fun z => n1 (.inl (.inr z)))]
      exact q
theorem dc_run (hc : X.calm = true) (hN : X.N.Nodup) (ok : BlkOk X.N X.env.scope scope own0) (B : Blk X scope m (own0.map (·.2)) tg ifs Jc mT is F fc) (hk0 : ∀ (s : Shared) (H : Hp) (C : Addr) (cl : List (Str × Addr)) (fp : List Addr), Dx .bo (blkOf X scope s H C cl fp) WF mT kx fk)
    (he : ∀ (s : Shared) (H : Hp) (C : Addr) (cl : List (Str × Addr)) (fp : List Addr), Dx .cl (blkOf X scope s H C cl fp) WF mT vx fv) (hsf : ∀ x, foldedSetIterable iter X.env x = pure x)
    {g : G} {own : Nat → Addr} {pins : List (Addr × Obj)} {s : Shared} {σ : L2.St} {ρ : Rho} {H : Hp} {ps : Ps} (I : Inv X pins σ H s) (r : Rs X.K g m own σ ρ H ps) (hcI : cI X tg iter σ H (QI m own g.pl X.K (Xs m own g) H (fi ρ ps))) (n : dcF (own0.map (·.2)) fi F fc fk fv ρ ps ≠ .und) :
    wpAny (model X.prog X.w) X.A (eval (.DictComp kx vx [⟨tg, iter, ifs, 0⟩] scope pos) X.env) (EP X pins σ (QV .fr g.pl X.K (Xs m own g) H (dcF (own0.map (·.2)) fi F fc fk fv ρ ps))) X.xe s :=
  (pe_dc (tk := bE X scope kx) (tv := bE X scope vx) (g := bG X scope tg) (tt := bTs X scope ifs) hc hN (pi_c X tg iter) ok (fun s H0 C cl fp => ⟨fun pins s' σ H v u Q I rv h => h s H0 C cl fp pins s' u I rv⟩) (fun s H0 C cl fp => ⟨fun pins s' σ H Q I h => h s H0 C cl fp pins s' I⟩) (fun s H0 C cl fp => ⟨fun pins s' σ H Q I h => h s H0 C cl fp pins s' I⟩) (fun s H0 C cl fp => ⟨fun pins s' σ H Q I h => h s H0 C cl fp pins s' I⟩) hsf).run pins s σ H _ I (dc_t B hk0 he r hcI n fun _ _ z => z)
theorem dx_dc (hc : X.calm = true) (hN : X.N.Nodup) (ok : blkC X.N X.env.scope scope own0 = true) (hi : DI X W m tg iter fi) (B : Blk X scope m (own0.map (·.2)) tg ifs Jc mT is F fc) (hk0 : ∀ (s : Shared) (H : Hp) (C : Addr) (cl : List (Str × Addr)) (fp : List Addr), Dx .bo (blkOf X scope s H C cl fp) WF mT kx fk)
    (he : ∀ (s : Shared) (H : Hp) (C : Addr) (cl : List (Str × Addr)) (fp : List Addr), Dx .cl (blkOf X scope s H C cl fp) WF mT vx fv) (hsf : ∀ x, foldedSetIterable iter X.env x = pure x := by intro _; rfl) :
    Dx .fr X W m (.DictComp kx vx [⟨tg, iter, ifs, 0⟩] scope pos) (dcF (own0.map (·.2)) fi F fc fk fv) :=
  ⟨fun g own pins s σ ρ H ps I r n w => dc_run hc hN (blkOk_by ok) B hk0 he hsf I r (hi.can r (ne_of_bind n) (WOk.left w)) n⟩
theorem dx_dcK {Gk : List (Key × D) → List D} (hc : X.calm = true) (hN : X.N.Nodup) (ok : blkC X.N X.env.scope scope own0 = true) (hk : KWk X tg e iter Gk) (hpl : PlD X m e f) (B : Blk X scope m (own0.map (·.2)) tg ifs Jc mT is F fc) (hk0 : ∀ (s : Shared) (H : Hp) (C : Addr) (cl : List (Str × Addr)) (fp : List Addr), Dx .bo (blkOf X scope s H C cl fp) WF mT kx fk)
    (he : ∀ (s : Shared) (H : Hp) (C : Addr) (cl : List (Str × Addr)) (fp : List Addr), Dx .cl (blkOf X scope s H C cl fp) WF mT vx fv) (hsf : ∀ x, foldedSetIterable iter X.env x = pure x := by intro _; rfl) :
    Dx .fr X W m (.DictComp kx vx [⟨tg, iter, ifs, 0⟩] scope pos) (dcF (own0.map (·.2)) (kwF Gk f) F fc fk fv) := by
  refine ⟨fun g own pins s σ ρ H ps I r n w => ?_⟩
  obtain ⟨kvs, q, vs, e1, hr, np, no, t1, hE⟩ := hpl.run r (kwF_ne (ne_of_bind n))
  have e2 : kwF Gk f ρ ps = .ok (Gk kvs) ps := bind_ok e1
  rcases hr with hr | ⟨od, hr⟩
  · refine (pe_lock (pe_c X _)).run pins s σ H _ I ⟨q, .dK vs, hr, True.intro, fun od pins1 s1 I1 => ?_⟩
    have r1 := r.lock (od := od) (u := .dK vs) True.intro hr np no
    refine thn (dc_run (fi := kwF Gk f) hc hN (blkOk_by ok) B hk0 he hsf I1 r1 (by rw [e2]; exact hk.run (g := g.lk q (.frz od (.dK vs))) r1 upd_same np no (t1.monoM (ExM.lock (u := .dK vs) True.intro hr)) (hE _ od (fun a ha => upd_ne ha) upd_same)) n) fun v s2 h => epI h fun v H' z => ?_
    exact QV.unlockF (u := .dK vs) True.intro hr np z
  · exact dc_run hc hN (blkOk_by ok) B hk0 he hsf I r (by rw [e2]; exact hk.run r hr np no t1 (hE H od (fun _ _ => rfl) hr)) n
end
end DL
set_option Elab.async false
set_option linter.all false
set_option maxRecDepth 100000
set_option maxHeartbeats 2000000
/-! D27: sets of ints and texts whose members can be gathered. -/
namespace DL
open PySem PySem.Spec PyProof.Rows L2
section
variable {P : Program} {w : World} {A : Around} {E : Value → Shared → Prop} {s : Shared} {a : Addr} {S : Key → Bool} {n : Nat} {h h' : Heap}
/-- two entries hold no key in common -/
def Apart (P : Program) (w : World) (x y : Int × Value) : Prop := ∀ k : Key, ¬ ((mixKind P w).is k x.2 = true ∧ (mixKind P w).is k y.2 = true)
theorem Apart.symm {x y : Int × Value} (q : Apart P w x y) : Apart P w y x := fun k z => q k ⟨z.2, z.1⟩
/-- the set at a: its keys, their number; a table that can be walked -/
def SetG (P : Program) (w : World) (h : Heap) (a : Addr) (S : Key → Bool) (n : Nat) : Prop :=
  ∃ o es ep t, h.get? a = some o ∧ o.ExactSet ∧ o.data = .set es ep t ∧ ElemsOf (mixKind P w) es.toList ∧ es.toList.Pairwise (Apart P w) ∧ (∀ k, S k = true ↔ ∃ e ∈ es.toList, (mixKind P w).is k e.2 = true) ∧
    es.size < scanBound ∧ t.fits es.size = true ∧ es.size = n ∧ Ris t.place.toList ∧ (w.params.followText "set-order" = true ∨ t.led = true)
theorem SetG.at (R : SetG P w h a S n) (k : ∀ o, h.get? a = some o → h'.get? a = some o) : SetG P w h' a S n := by
  obtain ⟨o, es, ep, t, ho, r⟩ := R
  exact ⟨o, es, ep, t, k o ho, r⟩
theorem SetG.setOf (R : SetG P w h a S n) : h.SetOf (mixKind P w) a S n := by
  obtain ⟨o, es, ep, t, ho, hx, hd, g, nd, hm, hb, hf, hn, _⟩ := R
  exact ⟨o, es, ep, t, ho, hx, hd, g, hm, hb, hf, hn⟩
theorem apart_perm {l l' : List (Int × Value)} (p : l'.Perm l) (h : l.Pairwise (Apart P w)) : l'.Pairwise (Apart P w) := (p.pairwise_iff fun q => q.symm).mpr h
/-- what a table's renewal leaves -/
theorem setG_stored {g : Bool → Sem Unit} (hg : ∀ (b : Bool) (s₁ : Shared) (Q' : Unit → Shared → Prop), Q' () s₁ → wpAny (model P w) A (g b) Q' E s₁)
    {o : Obj} {es : Array (Int × Value)} {ep : Nat} {t : SetTable} (ho : s.heap.get? a = some o) (hex : o.ExactSet) (hd : o.data = .set es ep t)
    {es1 : Array (Int × Value)} {t2 : SetTable} {S' : Key → Bool} (g1 : ElemsOf (mixKind P w) es1.toList) (nd1 : es1.toList.Pairwise (Apart P w)) (m1 : ∀ k, S' k = true ↔ ∃ e ∈ es1.toList, (mixKind P w).is k e.2 = true)
    (hb1 : es1.size < scanBound) (hf2 : t2.fits es1.size = true) (hr : Ris t2.place.toList) (hl : w.params.followText "set-order" = true ∨ t2.led = true) {wasDummy : Bool} {R : Option Bool → Shared → Prop}
    (hR : ∀ h', Heap.SameBut a s.heap h' → SetG P w h' a S' es1.size → R (some true) { s with heap := h' }) :
    wpAny (model P w) A (do
        storeSet a es1 t2
        if (!wasDummy && t2.tooFull) = true then do
            g (relayAll t2 es1 (SetTable.grown es1.size)).2.2
            storeSet a (relayAll t2 es1 (SetTable.grown es1.size)).1 (relayAll t2 es1 (SetTable.grown es1.size)).2.1
            pure (some true)
          else pure (some true)) R E s := by
  refine wpAny_bind (wpAny_storeSet_of ho hd ?_ (fits_of_scanBound hb1))
  have ho1 := PpSet.storeB_at (es' := es1) (t' := t2) ho hd
  have sb1 := Heap.SameBut.update s.heap a (Obj.putSet es1 t2)
  split
  · have pm := relayAll_perm t2 es1 (SetTable.grown es1.size)
    have hf3 := relayAll_fits t2 es1 (SetTable.grown es1.size)
    have hr3 := relayAll_ris t2 es1 (SetTable.grown es1.size)
    have hl3 := relayAll_led t2 es1 (SetTable.grown es1.size)
    generalize relayAll t2 es1 (SetTable.grown es1.size) = Z at pm hf3 hr3 hl3 ⊢
    obtain ⟨es2, t3, gave⟩ := Z
    dsimp only at pm hf3 hr3 hl3 ⊢
    have hsz : es2.size = es1.size := by rw [← Array.length_toList, pm.length_eq, Array.length_toList]
    have hb2 : es2.size < scanBound := by rw [hsz]; exact hb1
    refine wpAny_bind (hg _ _ _ ?_)
    refine wpAny_bind (wpAny_storeSet_of ho1 rfl ?_ (fits_of_scanBound hb2))
    have ho2 := PpSet.storeB_at (es' := es2) (t' := t3) ho1 rfl
    refine wpAny_pure (hR _ (sb1.trans (Heap.SameBut.update _ a _)) ?_)
    refine ⟨_, es2, _, t3, ho2, hex, rfl, fun e he => g1 e (pm.mem_iff.mp he), apart_perm pm nd1, fun k => (m1 k).trans ⟨fun ⟨e, he, q⟩ => ⟨e, pm.mem_iff.mpr he, q⟩, fun ⟨e, he, q⟩ => ⟨e, pm.mem_iff.mp he, q⟩⟩, hb2, hf3, hsz, hr3, hl.imp id fun z => by rw [hl3]; exact z⟩
  · exact wpAny_pure (hR _ sb1 ⟨_, es1, _, t2, ho1, hex, rfl, g1, nd1, m1, hb1, hf2, rfl, hr, hl⟩)
/-- found.add(key), its hash known -/
theorem setG_hashed {k : Key} {x : Value} {Q : Bool → Shared → Prop} (R : SetG P w s.heap a S n) (hkey : (mixKind P w).is k x = true) (hsc : x.scannable = true) (room : n + 1 < scanBound)
    (hQ : ∀ h', Heap.SameBut a s.heap h' → SetG P w h' a (fun j => S j || decide (j = k)) (if S k = true then n else n + 1) → Q (!S k) { s with heap := h' }) :
    wpAny (model P w) A (setAddHashed a x ((mixKind P w).hash k)) Q E s := by
  obtain ⟨o, es, ep, t, ho, hex, hd, g, nd, hm, hb, hf, hn, hr, hl⟩ := R
  unfold setAddHashed setAddHashedIn
  refine wpAny_holding (wpAny_bind (wpAny_setState_of ho hd hf ?_))
  dsimp only
  rw [byScan_of hsc hb g]
  simp only [↓reduceIte]
  unfold setAddByScan
  refine wpAny_bind (wpAny_bind (wpAny_rule (wpAny_bind (wpAny_setScan_of hkey ho hd hf g ?_))))
  cases hfi : List.findIdx? (fun e => (mixKind P w).is k e.2) es.toList with
  | some j =>
    dsimp only
    obtain ⟨hj, pj, _⟩ := List.findIdx?_eq_some_iff_getElem.mp hfi
    have hSk : S k = true := (hm k).2 ⟨es.toList[j], List.getElem_mem hj, pj⟩
    refine wpAny_pure (wpAny_pure ?_)
    have q := hQ s.heap (Heap.SameBut.refl a s.heap) ⟨o, es, ep, t, ho, hex, hd, g, nd, fun i => by
      rw [Bool.or_eq_true, decide_eq_true_eq, ← hm i]
      exact ⟨fun z => z.elim id (fun e => e ▸ hSk), .inl⟩, hb, hf, by rw [if_pos hSk]; exact hn, hr, hl⟩
    rw [hSk] at q
    exact q
  | none =>
    dsimp only
    have hnk : ∀ e ∈ es.toList, (mixKind P w).is k e.2 = false := fun e he => by simpa using List.findIdx?_eq_none_iff.mp hfi e he
    have hSk : S k = false := by
      cases q : S k with
      | false => rfl
      | true =>
        obtain ⟨e, he, z⟩ := (hm k).1 q
        rw [hnk e he] at z; cases z
    have hgw : ∀ (b : Bool) {s₁ : Shared} {Q' : Unit → Shared → Prop}, Q' () s₁ → wpAny (model P w) A (match b with | true => rule "set.scan.the-table-gave-way" | false => pure ()) Q' E s₁ :=
      fun b s₁ Q' q => by cases b <;> first | exact wpAny_pure q | exact wpAny_rule q
    have pm := layNew_perm t es ((mixKind P w).hash k) x
    have hf1 := layNew_fits t es ((mixKind P w).hash k) x
    have hr1 := layNew_ris t es ((mixKind P w).hash k) x hr
    have hl1 := layNew_led t es ((mixKind P w).hash k) x
    generalize layNew t es ((mixKind P w).hash k) x = Z at pm hf1 hr1 hl1 ⊢
    obtain ⟨es1, t1, wasDummy, gave⟩ := Z
    dsimp only at pm hf1 hr1 hl1 ⊢
    rw [Array.toList_push] at pm
    have pc : es1.toList.Perm (((mixKind P w).hash k, x) :: es.toList) := pm.trans (List.perm_append_singleton _ _)
    have g1 : ElemsOf (mixKind P w) es1.toList := (g.push hkey hsc).perm pm
    have nd1 : es1.toList.Pairwise (Apart P w) := apart_perm pc (List.pairwise_cons.mpr ⟨fun e he k' z => by
      have e1 := (mixKind P w).inj x k' k z.1 hkey
      have z2 := z.2
      rw [e1, hnk e he] at z2
      exact Bool.noConfusion z2, nd⟩)
    have m1 : ∀ i, (S i || decide (i = k)) = true ↔ ∃ e ∈ es1.toList, (mixKind P w).is i e.2 = true := fun i => by
      rw [Bool.or_eq_true, decide_eq_true_eq, hm i]
      constructor
      · rintro (⟨e, he, z⟩ | rfl)
        · exact ⟨e, pc.mem_iff.mpr (List.mem_cons_of_mem _ he), z⟩
        · exact ⟨_, pc.mem_iff.mpr (List.mem_cons_self ..), hkey⟩
      · rintro ⟨e, he, z⟩
        rcases List.mem_cons.mp (pc.mem_iff.mp he) with rfl | he
        · exact .inr ((mixKind P w).inj x i k z hkey)
        · exact .inl ⟨e, he, z⟩
    have hsz : es1.size = n + 1 := by rw [← Array.length_toList, pc.length_eq, List.length_cons, Array.length_toList, hn]
    have hb1 : es1.size < scanBound := by rw [hsz]; exact room
    have hled : w.params.followText "set-order" = true ∨ t1.led = true := hl.imp id fun z => by rw [hl1]; exact z
    have fin : ∀ h', Heap.SameBut a s.heap h' → SetG P w h' a (fun j => S j || decide (j = k)) es1.size → Q true { s with heap := h' } := fun h' sb r => by
      have q := hQ h' sb
      rw [hSk] at q
      rw [hsz] at r
      exact q r
    have hgb : ∀ (b : Bool) (s₁ : Shared) (Q' : Unit → Shared → Prop), Q' () s₁ → wpAny (model P w) A (match b with | true => rule "set.scan.the-table-gave-way" | false => pure ()) Q' E s₁ := fun b s₁ Q' q => hgw b q
    refine wpAny_bind (hgw _ ?_)
    split
    · refine wpAny_bind ?_
      rw [hashByValue_scannable 8 hsc]
      refine wpAny_pure ?_
      refine setG_stored ?_ ho hex hd g1 nd1 m1 hb1 ?_ ?_ ?_ ?_
      · intro b s₁ Q' q; cases b <;> first | exact wpAny_pure q | exact wpAny_rule q
      · first | (split <;> first | exact hf1 | exact SetTable.fits_plain_off hf1) | exact hf1
      · first | (split <;> exact hr1) | exact hr1
      · first | (split <;> exact hled) | exact hled
      · intro h' sb r; dsimp only; exact wpAny_pure (fin h' sb r)
    · refine wpAny_bind (wpAny_pure ?_)
      simp only [↓reduceIte]
      refine setG_stored ?_ ho hex hd g1 nd1 m1 hb1 hf1 hr1 hled ?_
      · intro b s₁ Q' q; cases b <;> first | exact wpAny_pure q | exact wpAny_rule q
      · intro h' sb r; dsimp only; exact wpAny_pure (fin h' sb r)
theorem setG_add {k : Key} {x : Value} {Q : Value → Shared → Prop} (R : SetG P w s.heap a S n) (hkey : (mixKind P w).is k x = true) (hsc : x.scannable = true) (room : n + 1 < scanBound)
    (hQ : ∀ h', Heap.SameBut a s.heap h' → SetG P w h' a (fun j => S j || decide (j = k)) (if S k = true then n else n + 1) → Q .none { s with heap := h', toks := s.toks + 1 }) :
    wpAny (model P w) A (call (.builtin "set.add") [.ref a, x]) Q E s := by
  refine wpAny_call_entry F.slot_set_add R.setOf.typeIs F.entry_set_add ?_ (F.args_set_add_2 _ _)
  unfold Builtin.«set.add» Builtin.Frozenset.oneOther
  simp only [List.isEmpty_nil, bind_assoc]
  unfold Builtin.Frozenset.addrOf setAdd
  refine wpAny_bind (wpAny_pure ?_)
  try dsimp only
  refine wpAny_bind (wpAny_pure ?_)
  try dsimp only
  refine wpAny_bind (wpAny_holding (wpAny_bind ((mixKind P w).pyHash hkey ?_)))
  refine setG_hashed (s := { s with toks := s.toks + 1 }) R hkey hsc room fun h' sb r => ?_
  show wpAny _ _ (ret Value.none) _ _ _
  exact wpAny_pure ⟨_, rfl, hQ h' sb r⟩
theorem setG_fresh {h : Heap} : SetG P w (h.push { cls := .type "set", dict := none, data := .set #[] 0 (.fresh 0 0 (!w.params.followText "set-order")) }) h.objs.size (fun _ => false) 0 :=
  ⟨_, #[], 0, _, Heap.get?_push_size _ rfl, ⟨rfl, rfl, rfl⟩, rfl, (fun e he => by simp at he), (by simp), (fun k => by simp), (by decide), (by rfl), rfl, List.Pairwise.nil, by
    show _ ∨ (!w.params.followText "set-order") = true
    cases w.params.followText "set-order"
    · exact .inr rfl
    · exact .inl rfl⟩
/-- as a tracked thing -/
def SetGO (P : Program) (w : World) (a : Addr) (S : Key → Bool) (n : Nat) : HO := .ext fun h => SetG P w h a S n
theorem setGO_new {H : Hp} (R : SetG P w h a S n) : ObjOk P w H h a (SetGO P w a S n) := by
  have ⟨o, _, _, _, ho, _⟩ := R
  exact ⟨R, ⟨o, ho⟩, fun h1 h2 p k => p.at k⟩
end
section
variable {X : Cx}
theorem setGO_get {pins : List (Addr × Obj)} {σ : L2.St} {H : Hp} {s : Shared} {a : Addr} {S : Key → Bool} {n : Nat} (I : Inv X pins σ H s) (ha : H a = some (SetGO X.prog X.w a S n)) : SetG X.prog X.w s.heap a S n := (I.hok a _ ha).1
theorem addG_ok {pins : List (Addr × Obj)} {σ : L2.St} {H : Hp} {s : Shared} {E : Value → Shared → Prop} {Da : Addr} {S : Key → Bool} {n : Nat} {k : Key} {x : Value} {Q : Value → Shared → Prop} (I : Inv X pins σ H s) (hD : H Da = some (SetGO X.prog X.w Da S n)) (rx : RelV (kV k) x) (room : n + 1 < scanBound)
    (h : ∀ s', Inv X pins σ (upd H Da (SetGO X.prog X.w Da (fun j => S j || decide (j = k)) (if S k = true then n else n + 1))) s' → Q .none s') : wpAny (model X.prog X.w) X.A (call (.builtin "set.add") [.ref Da, x]) Q E s := by
  refine setG_add (setGO_get I hD) (kV_is rx) (key_scan rx) room fun h' sb new => ?_
  have he : ∃ u, h'.get? Da = some u := by
    have ⟨o, _, _, _, ho, _⟩ := new
    exact ⟨o, ho⟩
  exact h _ (I.write (e := Da) (t' := s.toks + 1) (by rw [hD]; trivial) (.inl rfl) (fun b u hb hu => (sb.2 b hb).trans hu) he (setGO_new new))
end
end DL
set_option Elab.async false
set_option linter.all false
set_option maxRecDepth 100000
set_option maxHeartbeats 2000000
/-! D28: sorted and len of such a set. -/
namespace DL
open PySem PySem.Spec PyProof.Rows L2
def txtOf : Value → Str
  | .str x _ => x
  | _ => Str.empty
theorem strs_all : ∀ (l : List Value), (∀ v ∈ l, ∃ x t, v = Value.str x t) → StrsAre l (l.map txtOf)
  | [], _ => .nil
  | v :: l, h => by
    obtain ⟨x, t, rfl⟩ := h v List.mem_cons_self
    exact .cons x t (strs_all l fun u hu => h u (List.mem_cons_of_mem _ hu))
theorem keyIs_str {P : Program} {w : World} {x : Str} {v : Value} (h : (mixKind P w).is (.inr x) v = true) : ∃ t, v = .str x t := Value.isStrOf_shape (x := x) (v := v) h
theorem keyIs_int {P : Program} {w : World} {i : Int} {v : Value} (h : (mixKind P w).is (.inl i) v = true) : ∃ t, v = .int i t := by
  have h : Value.isInt i v = true := h
  cases v with
  | int j t =>
    have h : (i == j) = true ∨ (j == i) = true := by
      unfold Value.isInt at h
      first | exact .inl h | exact .inr h
    rcases h with h | h
    · rw [eq_of_beq h]; exact ⟨t, rfl⟩
    · rw [eq_of_beq h]; exact ⟨t, rfl⟩
  | _ => exact Bool.noConfusion (show false = true from h)
section
variable {P : Program} {w : World} {A : Around} {E : Value → Shared → Prop} {s : Shared} {a : Addr} {S : Key → Bool} {n : Nat}
theorem collectG {Q : List Value → Shared → Prop} (R : SetG P w s.heap a S n) (hh : A.handled = none)
    (hQ : ∀ s' out, (∀ b o, s.heap.get? b = some o → s'.heap.get? b = some o) → s.heap.objs.size ≤ s'.heap.objs.size → s'.gens = s.gens → s'.os = s.os → out.length = n → out.Pairwise (fun u v => ∀ k : Key, ¬ ((mixKind P w).is k u = true ∧ (mixKind P w).is k v = true)) →
      (∀ v ∈ out, ∃ k, S k = true ∧ (mixKind P w).is k v = true) → (∀ k, S k = true → ∃ v ∈ out, (mixKind P w).is k v = true) → Q out s') :
    wpAny (model P w) A (collect (.ref a)) Q E s := by
  obtain ⟨o, es, ep, t, ho, hex, hd, g, nd, hm, hb, hf, hn, hr, hl⟩ := R
  refine collect_set hh ⟨o, ho, hex.1, hd⟩ hf hb hr hl fun s1 vs k1 hz g1 o1 pm => ?_
  refine hQ s1 vs k1 hz g1 o1 (by rw [pm.length_eq, List.length_map, Array.length_toList]; exact hn) ?_ (fun v hv => ?_) fun k hk => ?_
  · refine (pm.pairwise_iff (R := fun u v => ∀ k : Key, ¬ ((mixKind P w).is k u = true ∧ (mixKind P w).is k v = true)) fun q k z => q k ⟨z.2, z.1⟩).mpr ?_
    exact List.pairwise_map.mpr nd
  · obtain ⟨e, he, rfl⟩ := List.mem_map.mp (pm.mem_iff.mp hv)
    obtain ⟨⟨k, hk, _⟩, _⟩ := g e he
    exact ⟨k, (hm k).mpr ⟨e, he, hk⟩, hk⟩
  · obtain ⟨e, he, z⟩ := (hm k).mp hk
    exact ⟨e.2, pm.mem_iff.mpr (List.mem_map_of_mem he), z⟩
end
section
variable {X : Cx}
theorem call_sortedG (hcalm : X.calm = true) : CallR X (.builtin "sorted") (fun xs H Q => ∃ (a : Addr) (S : Key → Bool) (n : Nat), xs = [.ref a] ∧ H a = some (SetGO X.prog X.w a S n) ∧ n < 64 ∧ (∀ k, S k = true → ∃ x, k = .inr x) ∧
    ∀ (ys : List Str) p, ys.Nodup → sortedS ys = true → (∀ x, x ∈ ys ↔ S (.inr x) = true) → H p = none → Q (.ref p) (upd H p (.lst (ys.map V.str)))) := by
  intro pins s σ H xs us Q I r q
  obtain ⟨a, S, n, rfl, ha, h64, hS, q⟩ := q
  have R := setGO_get I ha
  rw [Vals.ref1 r]
  refine Calls.call_function_entry PyProof.Rows.kind_sorted PyProof.Rows.plain_sorted PyProof.Rows.entry_sorted (PyProof.Rows.args_sorted1 _) ?_
  unfold Builtin.«sorted»
  refine wpAny_bind (m := checkCount "sorted" 1 1 _) (wpAny_pure ?_)
  refine wpAny_bind (collectG (A := X.A.in1) R (I.ok.hd hcalm) fun s1 vs k1 hz g1 o1 hlen hap hin hout => ?_)
  have hvs : ∀ v ∈ vs, ∃ x t, v = Value.str x t := fun v hv => by
    obtain ⟨k, h1, h2⟩ := hin v hv
    obtain ⟨x, rfl⟩ := hS k h1
    obtain ⟨t, e⟩ := keyIs_str h2
    exact ⟨x, t, e⟩
  have hst := strs_all vs hvs
  have I1 : Inv X pins σ H s1 := I.call' (ch := []) o1 (Un.kept k1) (I.hok.kept k1) (by rw [g1]; exact I.bare) (fun _ z => nomatch z)
  refine wpAny_bind (wpAny_newList ?_ (by rw [hlen, sizeLine_eq]; omega))
  have hoL : (s1.heap.push (seqObj "list" vs.toArray 0)).get? s1.heap.objs.size = some (seqObj "list" vs.toArray 0) := Heap.get?_push_size _ rfl
  show wpAny _ _ _ _ _ { s1 with heap := s1.heap.push (seqObj "list" vs.toArray 0) }
  refine wpAny_bind (wpAny_holding (wpAny_call_entry PyProof.Rows.slot_list_sort ⟨_, hoL, rfl⟩ PyProof.Rows.entry_list_sort
    (list_sort_treeK strKind_oneLt (s := { s1 with heap := s1.heap.push (seqObj "list" vs.toArray 0) }) hoL hst.keysOf (fun v₁ v₂ rest e => keyKind_strs (by rw [← e]; exact hst)) (by rw [hlen]; exact h64) fun st' hp hs => ⟨_, rfl, ?_⟩)
    (PyProof.Rows.args_list_sort _)))
  obtain ⟨ys, q1, q2, q3⟩ := sorted_out_str hst hp hs
  obtain ⟨e', he'⟩ := PyProof.Rows.sortedHeap_at (vs := vs) (out := (arrOf st').map (·.2)) hoL
  have hl2 : (ys.map V.str).length ≤ sizeLine := by
    rw [List.length_map, q2.length_eq, List.length_map, hlen]
    exact Nat.le_trans (Nat.le_of_lt h64) (by decide)
  have nd : (vs.map txtOf).Nodup := by
    refine List.pairwise_map.mpr (hap.imp_of_mem fun {u v} hu hv z e => ?_)
    obtain ⟨x, t, rfl⟩ := hvs u hu
    obtain ⟨y, t', rfl⟩ := hvs v hv
    have e : x = y := e
    subst e
    exact z (.inr x) ⟨mixKind_str _ _ x t, mixKind_str _ _ x t'⟩
  have mem : ∀ x, x ∈ vs.map txtOf ↔ S (.inr x) = true := fun x => by
    constructor
    · intro hx
      obtain ⟨v, hv, rfl⟩ := List.mem_map.mp hx
      obtain ⟨k, h1, h2⟩ := hin v hv
      obtain ⟨y, rfl⟩ := hS k h1
      obtain ⟨t, rfl⟩ := keyIs_str h2
      exact h1
    · intro hx
      obtain ⟨v, hv, h2⟩ := hout _ hx
      obtain ⟨t, rfl⟩ := keyIs_str h2
      exact List.mem_map.mpr ⟨_, hv, rfl⟩
  refine wpAny_pure ⟨_, rfl, .ref s1.heap.objs.size, upd H s1.heap.objs.size (.lst (ys.map V.str)), I1.laid (t' := s1.toks) (fun b u e => ?_) (Nat.le_refl _)
    (show ObjOk X.prog X.w _ _ _ (.lst (ys.map V.str)) from ⟨hl2, ((arrOf st').map (·.2)).toList, e', vals_of_strs q1, by rw [Array.toArray_toList]; exact he'⟩), rfl, q ys _ (q2.nodup_iff.mpr nd) q3 (fun x => by rw [q2.mem_iff]; exact mem x) (I1.hok.fresh (Nat.le_refl _))⟩
  have hb : b < s1.heap.objs.size := Heap.lt_size e
  rw [PyProof.Rows.sortedHeap_old (Nat.ne_of_lt hb) (by rw [size_push']; exact Nat.lt_succ_of_lt hb)]
  exact Heap.get?_push_of_some _ e
theorem call_sortedGI (hcalm : X.calm = true) : CallR X (.builtin "sorted") (fun xs H Q => ∃ (a : Addr) (S : Key → Bool) (n : Nat), xs = [.ref a] ∧ H a = some (SetGO X.prog X.w a S n) ∧ n < 64 ∧ (∀ k, S k = true → ∃ i, k = .inl i) ∧
    ∀ (ys : List Int) p, ys.Nodup → ys.Pairwise (· ≤ ·) → (∀ x, x ∈ ys ↔ S (.inl x) = true) → H p = none → Q (.ref p) (upd H p (.lst (ys.map V.int)))) := by
  intro pins s σ H xs us Q I r q
  obtain ⟨a, S, n, rfl, ha, h64, hS, q⟩ := q
  have R := setGO_get I ha
  rw [Vals.ref1 r]
  refine Calls.call_function_entry PyProof.Rows.kind_sorted PyProof.Rows.plain_sorted PyProof.Rows.entry_sorted (PyProof.Rows.args_sorted1 _) ?_
  unfold Builtin.«sorted»
  refine wpAny_bind (m := checkCount "sorted" 1 1 _) (wpAny_pure ?_)
  refine wpAny_bind (collectG (A := X.A.in1) R (I.ok.hd hcalm) fun s1 vs k1 hz g1 o1 hlen hap hin hout => ?_)
  have hvs : ∀ v ∈ vs, ∃ x t, v = Value.int x t := fun v hv => by
    obtain ⟨k, h1, h2⟩ := hin v hv
    obtain ⟨x, rfl⟩ := hS k h1
    obtain ⟨t, e⟩ := keyIs_int h2
    exact ⟨x, t, e⟩
  have hI : IntsAre vs (vs.map Builtin.Re.reRawOf) := ints_of vs hvs
  have I1 : Inv X pins σ H s1 := I.call' (ch := []) o1 (Un.kept k1) (I.hok.kept k1) (by rw [g1]; exact I.bare) (fun _ z => nomatch z)
  refine wpAny_bind (wpAny_newList ?_ (by rw [hlen, sizeLine_eq]; omega))
  have hoL : (s1.heap.push (seqObj "list" vs.toArray 0)).get? s1.heap.objs.size = some (seqObj "list" vs.toArray 0) := Heap.get?_push_size _ rfl
  refine wpAny_bind (wpAny_holding (wpAny_call_entry slot_list_sort ⟨_, hoL, rfl⟩ entry_list_sort (list_sort_tree hoL hI (by rw [hlen]; exact h64) fun out ns' a1 a2 a3 => ⟨_, rfl, ?_⟩) (args_list_sort _)))
  obtain ⟨c, hc⟩ := sortedHeap_at (vs := vs) (out := out) hoL
  have nd : (vs.map Builtin.Re.reRawOf).Nodup := by
    refine List.pairwise_map.mpr (hap.imp_of_mem fun {u v} hu hv z e => ?_)
    obtain ⟨x, t, rfl⟩ := hvs u hu
    obtain ⟨y, t', rfl⟩ := hvs v hv
    have e : x = y := e
    subst e
    exact z (.inl x) ⟨mixKind_int _ _ x t, mixKind_int _ _ x t'⟩
  have mem : ∀ x, x ∈ vs.map Builtin.Re.reRawOf ↔ S (.inl x) = true := fun x => by
    constructor
    · intro hx
      obtain ⟨v, hv, rfl⟩ := List.mem_map.mp hx
      obtain ⟨k, h1, h2⟩ := hin v hv
      obtain ⟨y, rfl⟩ := hS k h1
      obtain ⟨t, rfl⟩ := keyIs_int h2
      exact h1
    · intro hx
      obtain ⟨v, hv, h2⟩ := hout _ hx
      obtain ⟨t, rfl⟩ := keyIs_int h2
      exact List.mem_map.mpr ⟨_, hv, rfl⟩
  have hl2 : (ns'.map V.int).length ≤ sizeLine := by
    rw [List.length_map, a2.length_eq, List.length_map, hlen]
    exact Nat.le_trans (Nat.le_of_lt h64) (by decide)
  refine wpAny_pure ⟨_, rfl, .ref s1.heap.objs.size, upd H s1.heap.objs.size (.lst (ns'.map V.int)), I1.laid (t' := s1.toks) (fun b u e => ?_) (Nat.le_refl _)
    (show ObjOk X.prog X.w _ _ _ (.lst (ns'.map V.int)) from ⟨hl2, out.toList, c, vals_of_ints a1, by rw [Array.toArray_toList]; exact hc⟩), rfl, q ns' _ (a2.nodup_iff.mpr nd) a3 (fun x => by rw [a2.mem_iff]; exact mem x) (I1.hok.fresh (Nat.le_refl _))⟩
  have hb : b < s1.heap.objs.size := Heap.lt_size e
  rw [sortedHeap_old (Nat.ne_of_lt hb) (by rw [size_push']; exact Nat.lt_succ_of_lt hb)]
  exact Heap.get?_push_of_some _ e
/-- len of such a set -/
theorem call_lenG : CallR X (.builtin "len") (fun xs H Q => ∃ (a : Addr) (S : Key → Bool) (n : Nat), xs = [.ref a] ∧ H a = some (SetGO X.prog X.w a S n) ∧ n < 4096 ∧ Q (.int n) H) := by
  intro pins s σ H xs us Q I r q
  obtain ⟨a, S, n, rfl, ha, hn, q⟩ := q
  rw [Vals.ref1 r]
  obtain ⟨o, es, ep, t, ho, hex, hd, _, _, _, hf, hsz⟩ := (setGO_get I ha).setOf
  exact call_len_set ho hex hd hf (by rw [hsz] <;> omega) ⟨.int n, H, I.tok _, ⟨_, by rw [hsz]⟩, q⟩
end
end DL
set_option Elab.async false
set_option linter.all false
set_option maxRecDepth 100000
set_option maxHeartbeats 2000000
/-! D29: a walk's step in any context; set comprehensions of ints and texts. -/
namespace DL
open PySem PySem.Spec PyProof.Rows L2
/-! ### a step of a walk -/
section
variable {B : Cx} {pn : List (Addr × Obj)} {tg : Expr} {J : It} {fp : List Addr} {it : Addr} {tn : Nat → Heap → Prop}
/-- the walk stands ahead of turn i -/
def AtT (B : Cx) (pn : List (Addr × Obj)) (fp : List Addr) (tn : Nat → Heap → Prop) (i : Nat) (σ : L2.St) (H : Hp) (s : Shared) : Prop := Inv B pn σ H s ∧ tn i s.heap ∧ ∀ b ∈ fp, H b = none
/-- an iterator's objects are no one's -/
def FpS (B : Cx) (pn : List (Addr × Obj)) (fp : List Addr) : Prop := ∀ b ∈ fp, ∀ H : Hp, H b = none → FpOk B pn H b
theorem FpS.of {H : Hp} (h : ∀ b ∈ fp, FpOk B pn H b) : FpS B pn fp := fun b hb H' e => ⟨e, (h b hb).2⟩
theorem AtT.stop {i : Nat} {σ : L2.St} {H : Hp} {s : Shared} (T : Turn B.prog B.w B.K tg J fp it tn) (hc : B.calm = true) (hf : FpS B pn fp) (a : AtT B pn fp tn i σ H s) (h : J.stop i H) : wpAny (model B.prog B.w) B.A (pyNext (.ref it)) (fun r s1 => r = none ∧ Inv B pn σ H s1) (fun _ _ => False) s :=
  T.done B rfl rfl rfl hc i pn s σ H _ a.1 (fun b hb => hf b hb H (a.2.2 b hb)) a.2.1 h
theorem AtT.go {i : Nat} {σ : L2.St} {H : Hp} {s : Shared} (T : Turn B.prog B.w B.K tg J fp it tn) (hc : B.calm = true) (hf : FpS B pn fp) (a : AtT B pn fp tn i σ H s) (h : J.go i H) : wpAny (model B.prog B.w) B.A (pyNext (.ref it)) (fun r s1 => ∃ u, r = some u ∧
    wpAny (model B.prog B.w) B.A (letOwnedTupleGo tg (.ref it) u) (fun _ s2 => ∃ x H', RelV x u ∧ J.yld i H x H' ∧ ∃ pl, Inv B (pn ++ pl) σ H' s2 ∧ ∀ σ3 H3 s3, Inv B (pn ++ pl) σ3 H3 s3 → AtT B pn fp tn (i + 1) σ3 H3 s3) (fun _ _ => False) s1) (fun _ _ => False) s := by
  refine thnF (T.item B rfl rfl rfl hc i pn s σ H _ a.1 (fun b hb => hf b hb H (a.2.2 b hb)) a.2.1 h) fun r s1 ⟨u, e, q⟩ => ⟨u, e, thnF q fun _ s2 ⟨x, H', I', rx, y, st, nf⟩ => ?_⟩
  refine ⟨x, H', rx, y, pinsAt fp s2.heap, I'.pinned (fun b hb => hf b hb H' (nf b hb)) (T.obj _ _ st), fun σ3 H3 s3 I3 => ?_⟩
  have key : ∀ b ∈ fp, ∀ o, s2.heap.get? b = some o → s3.heap.get? b = some o ∧ H3 b = none := fun b hb o e =>
    let z := I3.pin (b, o) (List.mem_append_right _ (List.mem_append_right _ (mem_pinsAt hb e)))
    ⟨z.1, z.2.1⟩
  refine ⟨I3.unpinned, T.keep _ _ _ st fun b hb o e => (key b hb o e).1, fun b hb => ?_⟩
  obtain ⟨o, e, _⟩ := T.obj _ _ st b hb
  exact (key b hb o e).2
theorem AtT.weak {i : Nat} {σ σ' : L2.St} {H : Hp} {s : Shared} (a : AtT B pn fp tn i σ H s) (hl : σ'.length = σ.length) (h : ∀ (j : Nat) v, σ'[j]? = some (some v) → σ[j]? = some (some v)) : AtT B pn fp tn i σ' H s := ⟨a.1.weak hl h, a.2⟩
end
/-! ### the block -/
section
variable {X : Cx} {scope : Scope} {own0 : List (Str × Nat)} {elt tg iter tg1 iter1 : Expr} {ifs ifs1 : List Expr} {pos : Pos}
theorem wipe_weak {σ σ8 : L2.St} {vs : List Nat} (h : wipe σ8 vs = wipe σ vs) : (wipe σ vs).length = σ8.length ∧ ∀ (j : Nat) v, (wipe σ vs)[j]? = some (some v) → σ8[j]? = some (some v) :=
  ⟨by rw [← h, wipe_length], fun j v e => by rw [← h] at e; exact (wipe_some e).1⟩
def gNew (X : Cx) (Da : Addr) : HO := SetGO X.prog X.w Da (fun _ => false) 0
def gAdd (X : Cx) (Da : Addr) (S : Key → Bool) (n : Nat) (k : Key) : HO := SetGO X.prog X.w Da (fun j => S j || decide (j = k)) (if S k = true then n else n + 1)
/-- {elt for tg in iter if ..}: Da the new set -/
def tGc (X : Cx) (wi : TI) (g : TG) (tt : TT) (te : TE) (vs : List Nat) : TE := fun σ H Q => wi σ H fun J H1 => ∀ Da, H1 Da = none → ∃ M : Nat → Nat → Hp → Prop, (∃ m, M 0 m (upd H1 Da (gNew X Da))) ∧ ∀ i m H, M i m H →
  (J.stop i H ∧ Q (.ref Da) H) ∨ (J.go i H ∧ ∃ Nx : Hp → Prop, (∀ H', Nx H' → ∃ m', m' < m ∧ M (i + 1) m' H') ∧ ∀ x H', J.yld i H x H' → g x (wipe σ vs) H' fun σ2 H2 => wipe σ2 vs = wipe σ vs ∧ tt σ2 H2 fun b H3 =>
    if b = true then te σ2 H3 fun y H4 => ∃ (k : Key) (S : Key → Bool) (n : Nat), y = kV k ∧ H4 Da = some (SetGO X.prog X.w Da S n) ∧ n + 1 < scanBound ∧ Nx (upd H4 Da (gAdd X Da S n k)) else Nx H3)
/-- into the block and out of it: what is to be shown of the loop -/
theorem set_block {pins : List (Addr × Obj)} {s : Shared} {σ : L2.St} {H : Hp} {Q : VK} {wi : TI} {rest : List Comprehension} {R : It → Hp → Prop} (hc : X.calm = true) (hN : X.N.Nodup) (I : Inv X pins σ H s) (hi : PI X tg iter wi) (ok : BlkOk X.N X.env.scope scope own0) (hs : ∀ x, foldedSetIterable iter X.env x = pure x)
    (h : wi σ H R)
    (loop : ∀ (J : It) (H1 : Hp), R J H1 → ∀ (Da it : Addr) (fp : List Addr) (tn : Nat → Heap → Prop) (s3 : Shared) (H3 : Hp) (cl : List (Str × Addr)) (C : Addr) (s4 : Shared) (Rr : PySem.Result → Shared → Prop), H1 Da = none → H3 = upd H1 Da (gNew X Da) → Turn X.prog X.w X.K tg J fp it tn →
      AtT (blkOf X scope s3 H3 C cl fp) [] fp tn 0 (wipe σ (own0.map (·.2))) H3 s4 → FpS (blkOf X scope s3 H3 C cl fp) [] fp → (∀ σ5 H5 s5, Inv (blkOf X scope s3 H3 C cl fp) [] σ5 H5 s5 → Q (.ref Da) H5 → Rr (.ok .next) s5) →
      codeAny (model X.prog X.w) X.A (.compLoop (.SetComp elt (⟨tg, iter, ifs, 0⟩ :: rest) scope pos) 0 (.ref it) (.ref Da) (compEnvC scope cl C X.env)) Rr s4) :
    wpAny (model X.prog X.w) X.A (eval (.SetComp elt (⟨tg, iter, ifs, 0⟩ :: rest) scope pos) X.env) (EP X pins σ Q) X.xe s := by
  rw [PpSet.eval_SetComp]
  have hfree : ∀ y ∈ scope.names, y.2 = .free → ∃ c, X.env.cells.lookup y.1 = some c := fun y hy e => (ok.free y hy e).elim (fun k => I.ok.has _ (.inl k)) fun k => I.ok.has _ (.inr k)
  refine wpAny_comprehension_free (use := none) rfl hs (closure_ok hfree) ok.kind (fun y hy e => by rw [ok.uniq y hy, e]) (thn (hi.run pins s σ H _ I h) fun xv s1 hx => thn hx fun itv s2 ⟨it, fp, tn, J, H1, e, I2, T, st2, f2, q⟩ => ?_)
  subst e
  refine PpSet.newSet_ok (newEnv_comp ?_)
  have hDn : H1 s2.heap.objs.size = none := I2.hok.fresh (Nat.le_refl _)
  have I3 : Inv X pins σ (upd H1 s2.heap.objs.size (gNew X s2.heap.objs.size)) { s2 with heap := s2.heap.push { cls := .type "set", dict := none, data := .set #[] 0 (.fresh 0 0 (!X.w.params.followText "set-order")) } } :=
    I2.laid (t' := s2.toks) (fun b o e => Heap.get?_push_of_some _ e) (Nat.le_refl _) (setGO_new setG_fresh)
  have f3 : ∀ b ∈ fp, FpOk X pins (upd H1 s2.heap.objs.size (gNew X s2.heap.objs.size)) b ∧ b < (s2.heap.push { cls := .type "set", dict := none, data := .set #[] 0 (.fresh 0 0 (!X.w.params.followText "set-order")) }).objs.size := fun b hb => by
    obtain ⟨o, e, _⟩ := T.obj _ _ st2 b hb
    have hlt := Heap.lt_size e
    exact ⟨⟨by rw [upd_ne (Nat.ne_of_lt hlt)]; exact (f2 b hb).1, (f2 b hb).2⟩, by rw [Heap.size_push]; exact Nat.lt_succ_of_lt hlt⟩
  have I4 := block_start I3 ok hN f3
  have st4 := T.keep _ _ (pushCells ((s2.heap.push { cls := .type "set", dict := none, data := .set #[] 0 (.fresh 0 0 (!X.w.params.followText "set-order")) }).push { cls := .type "dict", data := .dict #[] }) scope.names) st2 fun b _ o e => pushCells_keeps _ _ _ _ (Heap.get?_push_of_some _ (Heap.get?_push_of_some _ e))
  have at4 := (⟨I4, st4, fun b hb => (f3 b hb).1.1⟩ : AtT _ [] fp tn 0 _ _ _)
  have fs : FpS (blkOf X scope { s2 with heap := s2.heap.push { cls := .type "set", dict := none, data := .set #[] 0 (.fresh 0 0 (!X.w.params.followText "set-order")) } } (upd H1 s2.heap.objs.size (gNew X s2.heap.objs.size)) (s2.heap.push { cls := .type "set", dict := none, data := .set #[] 0 (.fresh 0 0 (!X.w.params.followText "set-order")) }).objs.size (cellsFrom ((s2.heap.push { cls := .type "set", dict := none, data := .set #[] 0 (.fresh 0 0 (!X.w.params.followText "set-order")) }).objs.size + 1) scope.names (cloFrom X.env.cells scope.names [])) fp) [] fp := fun b hb H' e =>
    ⟨e, (I4.ok.exf b hb).1, I4.ok.exfs b hb, .inl hb, fun x c z => (I4.ok.exf b hb).2 x c z, fun p hp => absurd (show p ∈ ([] : List (Addr × Obj)) ++ [] from hp) (by simp)⟩
  refine PpSet.codeAny_compStart_set (loop J H1 q _ it fp tn _ _ _ _ _ _ hDn rfl T at4 fs fun σ5 H5 s5 I5 hq => ?_) (T.self X.A 0 _ _ _ st4 (loop J H1 q _ it fp tn _ _ _ _ _ _ hDn rfl T at4 fs fun σ5 H5 s5 I5 hq => ?_))
  all_goals
    have nC : H5 (s2.heap.push { cls := .type "set", dict := none, data := .set #[] 0 (.fresh 0 0 (!X.w.params.followText "set-order")) }).objs.size = none := I5.free
    obtain ⟨m, hn, _⟩ := I5.loc
    have I7 : Inv X pins σ H5 s5 := I3.call' (ch := fp) I5.os I5.base I5.hok I5.bare fun b hb => ⟨(f3 b hb).1.2.2.2.1, (f3 b hb).1.2.1, (f3 b hb).1.2.2.2.2.1, (f3 b hb).1.2.2.2.2.2⟩
    obtain ⟨f0, f1, f2', f3', f4, f5⟩ := I3.fpOk (H' := H5) (Nat.le_refl _) nC
    exact ⟨m, hn, fun h'' sb => ⟨.ref s2.heap.objs.size, H5, I7.turned (t' := s5.toks) (fun b o hb e => (sb.2 b hb).trans e) f0 f1 f3' f4 f5, rfl, hq⟩⟩
end
end DL
set_option Elab.async false
set_option linter.all false
set_option maxRecDepth 100000
set_option maxHeartbeats 2000000
/-! D30: set comprehensions of one and of two clauses. -/
namespace DL
open PySem PySem.Spec PyProof.Rows L2
section
variable {X : Cx} {scope : Scope} {own0 : List (Str × Nat)} {elt tg iter tg1 iter1 : Expr} {ifs ifs1 : List Expr} {pos : Pos}
theorem pe_gc {wi : TI} {g : TG} {tt : TT} {te : TE} (hc : X.calm = true) (hN : X.N.Nodup) (hi : PI X tg iter wi) (ok : BlkOk X.N X.env.scope scope own0)
    (hg : ∀ s H C cl fp, PG (blkOf X scope s H C cl fp) tg g) (ht : ∀ s H C cl fp, PTs (blkOf X scope s H C cl fp) ifs tt) (he : ∀ s H C cl fp, PE (blkOf X scope s H C cl fp) elt te) (hs : ∀ x, foldedSetIterable iter X.env x = pure x) :
    PE X (.SetComp elt [⟨tg, iter, ifs, 0⟩] scope pos) (tGc X wi g tt te (own0.map (·.2))) := by
  refine ⟨fun pins s σ H Q I h => set_block hc hN I hi ok hs h fun J H1 hR Da it fp tn s3 H3 cl C s4 Rr hDn e3 T at4 fs fin => ?_⟩
  obtain ⟨M, ⟨m0, w0⟩, turn⟩ := hR Da hDn
  refine PpSet.compLoopS_any (fun n s' => ∃ i H', AtT (blkOf X scope s3 H3 C cl fp) [] fp tn i (wipe σ (own0.map (·.2))) H' s' ∧ M i n H') ?_ m0 ⟨0, H3, at4, by rw [e3]; exact w0⟩
  rintro n s5 ⟨i, H5, a5, w5⟩
  rcases turn i n H5 w5 with ⟨stop, q⟩ | ⟨go, Nx, hNx, step⟩
  · refine thnF (AtT.stop (B := blkOf X scope s3 H3 C cl fp) T hc fs a5 stop) fun r s6 ⟨hr, I6⟩ => ?_
    subst hr
    exact fin _ H5 s6 I6 q
  · refine thnF (AtT.go (B := blkOf X scope s3 H3 C cl fp) T hc fs a5 go) fun r s6 ⟨u, hr, h6⟩ => ?_
    subst hr
    refine thnF h6 fun _ s7 ⟨x, H7, rx, y7, pl, I7, back⟩ => ?_
    refine thnF ((hg s3 H3 C cl fp).run _ s7 _ H7 x u _ I7 rx (step x H7 y7)) fun _ s8 ⟨σ8, H8, I8, hw8, q8⟩ => ?_
    obtain ⟨l8, k8⟩ := wipe_weak hw8
    refine thnF ((ht s3 H3 C cl fp).run _ s8 σ8 H8 _ I8 q8) fun b s9 ⟨H9, I9, q9⟩ => ?_
    have next : ∀ {s' : Shared} {H' : Hp}, Inv (blkOf X scope s3 H3 C cl fp) ([] ++ pl) σ8 H' s' → Nx H' → ∃ m, m < n ∧ ∃ i H', AtT (blkOf X scope s3 H3 C cl fp) [] fp tn i (wipe σ (own0.map (·.2))) H' s' ∧ M i m H' := fun {s' H'} I' nx => by
      obtain ⟨m', hm, w'⟩ := hNx H' nx
      exact ⟨m', hm, i + 1, H', (back σ8 H' s' I').weak l8 k8, w'⟩
    cases b with
    | false =>
      simp only [Bool.false_eq_true, if_false] at q9 ⊢
      exact next I9 q9
    | true =>
      simp only [if_true] at q9 ⊢
      refine thnF ((he s3 H3 C cl fp).run _ s9 σ8 H9 _ I9 q9) fun z s10 ⟨yv, H10, I10, r10, k, S, n', ey, hD, room, nx⟩ => ?_
      subst ey
      exact addG_ok (X := blkOf X scope s3 H3 C cl fp) I10 hD r10 room fun s11 I11 => next I11 nx

/-! ### two clauses -/
theorem turn2_out (elt t0 i0 t1 i1 : Expr) (ifs0 ifs1 : List Expr) (scope : Scope) (pos : Pos) (it acc : Value) (env : Env) :
    compTurn (.SetComp elt [⟨t0, i0, ifs0, 0⟩, ⟨t1, i1, ifs1, 0⟩] scope pos) 0 it acc env = (do
      standAt i0.pos
      match ← pyNext it with
      | none => pure (.done .next)
      | some v =>
        letOwnedTupleGo t0 it v
        assign t0 env v
        let mut ok := true
        for c in ifs0 do
          if ok then ok ← isTrue c env (eval c env)
        if ok then
          let x ← eval i1 env
          standAt i1.pos
          let x ← foldedSetIterable i1 env x
          let _ ← runOwn (.compStart (.SetComp elt [⟨t0, i0, ifs0, 0⟩, ⟨t1, i1, ifs1, 0⟩] scope pos) 1 (← holding [x] (pyIter x)) acc env) env
        again (.compLoop (.SetComp elt [⟨t0, i0, ifs0, 0⟩, ⟨t1, i1, ifs1, 0⟩] scope pos) 0 it acc env)) := by rfl
theorem turn2_in (elt t0 i0 t1 i1 : Expr) (ifs0 ifs1 : List Expr) (scope : Scope) (pos : Pos) (it acc : Value) (env : Env) :
    compTurn (.SetComp elt [⟨t0, i0, ifs0, 0⟩, ⟨t1, i1, ifs1, 0⟩] scope pos) 1 it acc env = (do
      standAt i1.pos
      match ← pyNext it with
      | none => pure (.done .next)
      | some v =>
        letOwnedTupleGo t1 it v
        assign t1 env v
        let mut ok := true
        for c in ifs1 do
          if ok then ok ← isTrue c env (eval c env)
        if ok then
          (do let v ← eval elt env; standAt elt.pos; let _ ← call (.builtin "set.add") [acc, v])
        again (.compLoop (.SetComp elt [⟨t0, i0, ifs0, 0⟩, ⟨t1, i1, ifs1, 0⟩] scope pos) 1 it acc env)) := by rfl
section
variable {prog : Program} {w : World} {A : Around} {R : PySem.Result → Shared → Prop} {s : Shared} {t0 i0 t1 i1 : Expr} {ifs0 ifs1 : List Expr} {it acc : Value} {env : Env}
/-- raised in a comprehension's own frame -/
abbrev Nb (prog : Program) (w : World) (A : Around) (env : Env) (R : PySem.Result → Shared → Prop) : Value → Shared → Prop := notedBy (model prog w) A env fun e s' => R (.error e) s'
theorem loop2_out (hs : ∀ x, foldedSetIterable i1 env x = pure x) (Iv : Nat → Shared → Prop)
    (turn : ∀ n s, Iv n s → wpAny (model prog w) A (pyNext it) (fun r s₁ => match r with
      | none => R (.ok .next) s₁
      | some v => wpAny (model prog w) A (letOwnedTupleGo t0 it v) (fun _ s₁' => wpAny (model prog w) A (assign t0 env v) (fun _ s₂ =>
          wpAny (model prog w) A (forIn ifs0 true fun c r => if r = true then do let ok ← isTrue c env (eval c env); pure (ForInStep.yield ok) else pure (ForInStep.yield r)) (fun ok s₃ =>
            if ok = true then wpAny (model prog w) A (eval i1 env) (fun x s₄ => wpAny (model prog w) A (pyIter x) (fun it1 s₅ =>
              codeAny (model prog w) A (.compStart (.SetComp elt [⟨t0, i0, ifs0, 0⟩, ⟨t1, i1, ifs1, 0⟩] scope pos) 1 it1 acc env) (fun r s' => match r with
                | .ok _ => ∃ m, m < n ∧ Iv m s'
                | .error _ => False) s₅) (Nb prog w A env R) s₄) (Nb prog w A env R) s₃
            else ∃ m, m < n ∧ Iv m s₃) (Nb prog w A env R) s₂) (Nb prog w A env R) s₁') (Nb prog w A env R) s₁) (Nb prog w A env R) s)
    (n : Nat) (h : Iv n s) : codeAny (model prog w) A (.compLoop (.SetComp elt [⟨t0, i0, ifs0, 0⟩, ⟨t1, i1, ifs1, 0⟩] scope pos) 0 it acc env) R s := by
  have same : ∀ {α : Type} {x : Sem α} {P Q : α → Shared → Prop} {E : Value → Shared → Prop} {s : Shared}, wpAny (model prog w) A x P E s → (∀ a s, P a s → Q a s) → wpAny (model prog w) A x Q E s := fun h q => wpAny_mono h q fun _ _ z => z
  refine codeAny_loop rfl Iv (fun n s hI => ?_) n h
  show wpAny _ A ((compTurn (.SetComp elt [⟨t0, i0, ifs0, 0⟩, ⟨t1, i1, ifs1, 0⟩] scope pos) 0 it acc env).onRaise (fun x => do noteFrame x env; theTreesLotGoes x)) _ _ s
  refine wpAny_noted ?_
  rw [turn2_out]
  refine wpAny_bind (wpAny_standAt (wpAny_bind (same (turn n s hI) fun r s₁ h₁ => ?_)))
  cases r with
  | none => exact wpAny_pure h₁
  | some v =>
    refine wpAny_bind (same h₁ fun _ s₂ h₂ => wpAny_bind (same h₂ fun _ s₃ h₃ => wpAny_bind (same h₃ fun ok s₄ h₄ => ?_)))
    cases ok with
    | false => exact wpAny_pure ⟨rfl, h₄⟩
    | true =>
      refine wpAny_bind (same h₄ fun x s₅ h₅ => wpAny_bind (wpAny_standAt (wpAny_bind (wpAny_of_eq (hs x) (wpAny_bind (wpAny_holding (same h₅ fun it1 s₆ h₆ => ?_)))))))
      refine wpAny_bind (wpAny_runOwn ?_)
      rw [Around.mark_none]
      refine codeAny_mono h₆ fun r s' hr => ?_
      cases r with
      | error e => exact hr.elim
      | ok f => first
        | exact wpAny_pure ⟨rfl, hr⟩
        | exact wpAny_bind (wpAny_pure (wpAny_pure ⟨rfl, hr⟩))
theorem loop2_in (Iv : Nat → Shared → Prop)
    (turn : ∀ n s, Iv n s → wpAny (model prog w) A (pyNext it) (fun r s₁ => match r with
      | none => R (.ok .next) s₁
      | some v => wpAny (model prog w) A (letOwnedTupleGo t1 it v) (fun _ s₁' => wpAny (model prog w) A (assign t1 env v) (fun _ s₂ =>
          wpAny (model prog w) A (forIn ifs1 true fun c r => if r = true then do let ok ← isTrue c env (eval c env); pure (ForInStep.yield ok) else pure (ForInStep.yield r)) (fun ok s₃ =>
            if ok = true then wpAny (model prog w) A (eval elt env) (fun x s₄ =>
              wpAny (model prog w) A (call (.builtin "set.add") [acc, x]) (fun _ s₅ => ∃ m, m < n ∧ Iv m s₅) (Nb prog w A env R) s₄) (Nb prog w A env R) s₃
            else ∃ m, m < n ∧ Iv m s₃) (Nb prog w A env R) s₂) (Nb prog w A env R) s₁') (Nb prog w A env R) s₁) (Nb prog w A env R) s)
    (n : Nat) (h : Iv n s) : codeAny (model prog w) A (.compLoop (.SetComp elt [⟨t0, i0, ifs0, 0⟩, ⟨t1, i1, ifs1, 0⟩] scope pos) 1 it acc env) R s := by
  have same : ∀ {α : Type} {x : Sem α} {P Q : α → Shared → Prop} {E : Value → Shared → Prop} {s : Shared}, wpAny (model prog w) A x P E s → (∀ a s, P a s → Q a s) → wpAny (model prog w) A x Q E s := fun h q => wpAny_mono h q fun _ _ z => z
  refine codeAny_loop rfl Iv (fun n s hI => ?_) n h
  show wpAny _ A ((compTurn (.SetComp elt [⟨t0, i0, ifs0, 0⟩, ⟨t1, i1, ifs1, 0⟩] scope pos) 1 it acc env).onRaise (fun x => do noteFrame x env; theTreesLotGoes x)) _ _ s
  refine wpAny_noted ?_
  rw [turn2_in]
  refine wpAny_bind (wpAny_standAt (wpAny_bind (same (turn n s hI) fun r s₁ h₁ => ?_)))
  cases r with
  | none => exact wpAny_pure h₁
  | some v =>
    refine wpAny_bind (same h₁ fun _ s₂ h₂ => wpAny_bind (same h₂ fun _ s₃ h₃ => wpAny_bind (same h₃ fun ok s₄ h₄ => ?_)))
    cases ok with
    | false => exact wpAny_pure ⟨rfl, h₄⟩
    | true => exact wpAny_bind (wpAny_bind (same h₄ fun x s₅ h₅ => wpAny_bind (wpAny_standAt (wpAny_bind (same h₅ fun _ s₆ h₆ => wpAny_pure (wpAny_pure ⟨rfl, h₆⟩))))))
theorem start2 (h0 : codeAny (model prog w) A (.compLoop (.SetComp elt [⟨t0, i0, ifs0, 0⟩, ⟨t1, i1, ifs1, 0⟩] scope pos) 1 it acc env) R s)
    (h : wpAny (model prog w) A (pyIter it) (fun it' s' => codeAny (model prog w) A (.compLoop (.SetComp elt [⟨t0, i0, ifs0, 0⟩, ⟨t1, i1, ifs1, 0⟩] scope pos) 1 it' acc env) R s') (notedBy (model prog w) A env fun x s' => R (.error x) s') s) :
    codeAny (model prog w) A (.compStart (.SetComp elt [⟨t0, i0, ifs0, 0⟩, ⟨t1, i1, ifs1, 0⟩] scope pos) 1 it acc env) R s := by
  refine codeAny_of_tree ?_
  show wpAny _ _ ((compStart (.SetComp elt [⟨t0, i0, ifs0, 0⟩, ⟨t1, i1, ifs1, 0⟩] scope pos) 1 it acc env).onRaise (fun x => do noteFrame x env; standAt theWindowsPlace)) _ _ s
  refine wpAny_notedAt ?_
  unfold compStart
  show wpAny _ _ (ask >>= _) _ _ s
  refine wpAny_bind (wpAny_askSetting (wpAny_ite ?_))
  split
  · first
      | exact wpAny_bind (wpAny_pure (wpAny_pure (And.intro rfl h0)))
      | exact wpAny_pure (And.intro rfl h0)
  · first
      | exact wpAny_bind (wpAny_rule (wpAny_bind (wpAny_standAt (wpAny_bind (wpAny_mono h (fun it' s' h' => wpAny_pure (And.intro rfl h')) fun _ _ x => x)))))
      | (refine wpAny_bind (wpAny_rule ?_); show wpAny _ _ (standAt i1.pos >>= _) _ _ s; exact wpAny_bind (wpAny_standAt (wpAny_bind (wpAny_mono h (fun it' s' h' => wpAny_pure (And.intro rfl h')) fun _ _ x => x))))
end
/-- {elt for tg in iter if .. for tg1 in iter1 if ..} -/
def tGc2 (X : Cx) (wi : TI) (g : TG) (tt : TT) (wi1 : TI) (g1 : TG) (tt1 : TT) (te : TE) (vs vs1 : List Nat) : TE := fun σ H Q => wi σ H fun J H1 => ∀ Da, H1 Da = none → ∃ M : Nat → Nat → Hp → Prop, (∃ m, M 0 m (upd H1 Da (gNew X Da))) ∧ ∀ i m H, M i m H →
  (J.stop i H ∧ Q (.ref Da) H) ∨ (J.go i H ∧ ∃ Nx : Hp → Prop, (∀ H', Nx H' → ∃ m', m' < m ∧ M (i + 1) m' H') ∧ ∀ x H', J.yld i H x H' → g x (wipe σ vs) H' fun σ2 H2 => wipe σ2 vs = wipe σ vs ∧ tt σ2 H2 fun b H3 =>
    if b = true then wi1 σ2 H3 fun J1 H4 => ∃ M1 : Nat → Nat → Hp → Prop, (∃ m, M1 0 m H4) ∧ ∀ j k H, M1 j k H →
      (J1.stop j H ∧ Nx H) ∨ (J1.go j H ∧ ∃ Nx1 : Hp → Prop, (∀ H', Nx1 H' → ∃ k', k' < k ∧ M1 (j + 1) k' H') ∧ ∀ x H', J1.yld j H x H' → g1 x (wipe σ2 vs1) H' fun σ3 H5 => wipe σ3 vs1 = wipe σ2 vs1 ∧ tt1 σ3 H5 fun b H6 =>
        if b = true then te σ3 H6 fun y H7 => ∃ (k : Key) (S : Key → Bool) (n : Nat), y = kV k ∧ H7 Da = some (SetGO X.prog X.w Da S n) ∧ n + 1 < scanBound ∧ Nx1 (upd H7 Da (gAdd X Da S n k)) else Nx1 H6)
    else Nx H3)
theorem pe_gc2 {vs1 : List Nat} {wi wi1 : TI} {g g1 : TG} {tt tt1 : TT} {te : TE} (hc : X.calm = true) (hN : X.N.Nodup) (hi : PI X tg iter wi) (ok : BlkOk X.N X.env.scope scope own0) (hv : ∀ i ∈ vs1, i ∈ own0.map (·.2))
    (hg : ∀ s H C cl fp, PG (blkOf X scope s H C cl fp) tg g) (ht : ∀ s H C cl fp, PTs (blkOf X scope s H C cl fp) ifs tt) (hi1 : ∀ s H C cl fp, PI (blkOf X scope s H C cl fp) tg1 iter1 wi1)
    (hg1 : ∀ s H C cl fp, PG (blkOf X scope s H C cl fp) tg1 g1) (ht1 : ∀ s H C cl fp, PTs (blkOf X scope s H C cl fp) ifs1 tt1) (he : ∀ s H C cl fp, PE (blkOf X scope s H C cl fp) elt te)
    (hs : ∀ x, foldedSetIterable iter X.env x = pure x) (hs1 : ∀ env x, foldedSetIterable iter1 env x = pure x) :
    PE X (.SetComp elt [⟨tg, iter, ifs, 0⟩, ⟨tg1, iter1, ifs1, 0⟩] scope pos) (tGc2 X wi g tt wi1 g1 tt1 te (own0.map (·.2)) vs1) := by
  refine ⟨fun pins s σ H Q I h => set_block hc hN I hi ok hs h fun J H1 hR Da it fp tn s3 H3 cl C s4 Rr hDn e3 T at4 fs fin => ?_⟩
  obtain ⟨M, ⟨m0, w0⟩, turn⟩ := hR Da hDn
  refine loop2_out (hs1 _) (fun n s' => ∃ i H', AtT (blkOf X scope s3 H3 C cl fp) [] fp tn i (wipe σ (own0.map (·.2))) H' s' ∧ M i n H') ?_ m0 ⟨0, H3, at4, by rw [e3]; exact w0⟩
  rintro n s5 ⟨i, H5, a5, w5⟩
  rcases turn i n H5 w5 with ⟨stop, q⟩ | ⟨go, Nx, hNx, step⟩
  · refine thnF (AtT.stop (B := blkOf X scope s3 H3 C cl fp) T hc fs a5 stop) fun r s6 ⟨hr, I6⟩ => ?_
    subst hr
    exact fin _ H5 s6 I6 q
  · refine thnF (AtT.go (B := blkOf X scope s3 H3 C cl fp) T hc fs a5 go) fun r s6 ⟨u, hr, h6⟩ => ?_
    subst hr
    refine thnF h6 fun _ s7 ⟨x, H7, rx, y7, pl, I7, back⟩ => ?_
    refine thnF ((hg s3 H3 C cl fp).run _ s7 _ H7 x u _ I7 rx (step x H7 y7)) fun _ s8 ⟨σ8, H8, I8, hw8, q8⟩ => ?_
    obtain ⟨l8, k8⟩ := wipe_weak hw8
    refine thnF ((ht s3 H3 C cl fp).run _ s8 σ8 H8 _ I8 q8) fun b s9 ⟨H9, I9, q9⟩ => ?_
    have next : ∀ {σ9 : L2.St} {s' : Shared} {H' : Hp}, Inv (blkOf X scope s3 H3 C cl fp) ([] ++ pl) σ9 H' s' → (wipe σ (own0.map (·.2))).length = σ9.length → (∀ (j : Nat) v, (wipe σ (own0.map (·.2)))[j]? = some (some v) → σ9[j]? = some (some v)) → Nx H' →
        ∃ m, m < n ∧ ∃ i H', AtT (blkOf X scope s3 H3 C cl fp) [] fp tn i (wipe σ (own0.map (·.2))) H' s' ∧ M i m H' := fun {σ9 s' H'} I' hl hk nx => by
      obtain ⟨m', hm, w'⟩ := hNx H' nx
      exact ⟨m', hm, i + 1, H', (back σ9 H' s' I').weak hl hk, w'⟩
    cases b with
    | false =>
      simp only [Bool.false_eq_true, if_false] at q9 ⊢
      exact next I9 l8 k8 q9
    | true =>
      simp only [if_true] at q9 ⊢
      refine thnF ((hi1 s3 H3 C cl fp).run _ s9 σ8 H9 _ I9 q9) fun xv s10 hx => thnF hx fun itv s11 ⟨it1, fp1, tn1, J1, H11, e1, I11, T1, st11, f11, M1, ⟨m1, w1⟩, turn1⟩ => ?_
      subst e1
      have fs1 : FpS (blkOf X scope s3 H3 C cl fp) ([] ++ pl) fp1 := .of f11
      have k9 : ∀ (j : Nat) v, (wipe σ (own0.map (·.2)))[j]? = some (some v) → (wipe σ8 vs1)[j]? = some (some v) := fun j v e => by
        rw [← hw8] at e
        obtain ⟨e1, e2⟩ := wipe_some e
        rw [wipe_out fun z => e2 (hv j z)]
        exact e1
      have loop1 : codeAny (model X.prog X.w) X.A (.compLoop (.SetComp elt [⟨tg, iter, ifs, 0⟩, ⟨tg1, iter1, ifs1, 0⟩] scope pos) 1 (.ref it1) (.ref Da) (compEnvC scope cl C X.env))
          (fun r s' => match r with
            | .ok _ => ∃ m, m < n ∧ ∃ i H', AtT (blkOf X scope s3 H3 C cl fp) [] fp tn i (wipe σ (own0.map (·.2))) H' s' ∧ M i m H'
            | .error _ => False) s11 := by
        refine loop2_in (fun k s' => ∃ j H', AtT (blkOf X scope s3 H3 C cl fp) ([] ++ pl) fp1 tn1 j (wipe σ8 vs1) H' s' ∧ M1 j k H') ?_ m1 ⟨0, H11, ⟨I11.weak (wipe_length _ _) (fun j v e => (wipe_some e).1), st11, fun b hb => (f11 b hb).1⟩, w1⟩
        rintro k s12 ⟨j, H12, a12, w12⟩
        rcases turn1 j k H12 w12 with ⟨stop1, nx1⟩ | ⟨go1, Nx1, hNx1, step1⟩
        · refine thnF (AtT.stop (B := blkOf X scope s3 H3 C cl fp) T1 hc fs1 a12 stop1) fun r s13 ⟨hr, I13⟩ => ?_
          subst hr
          exact next I13 (l8.trans (wipe_length σ8 vs1).symm) k9 nx1
        · refine thnF (AtT.go (B := blkOf X scope s3 H3 C cl fp) T1 hc fs1 a12 go1) fun r s13 ⟨u1, hr, h13⟩ => ?_
          subst hr
          refine thnF h13 fun _ s14 ⟨x1, H14, rx1, y14, pl1, I14, back1⟩ => ?_
          refine thnF ((hg1 s3 H3 C cl fp).run _ s14 _ H14 x1 u1 _ I14 rx1 (step1 x1 H14 y14)) fun _ s15 ⟨σ15, H15, I15, hw15, q15⟩ => ?_
          obtain ⟨l15, k15⟩ := wipe_weak hw15
          refine thnF ((ht1 s3 H3 C cl fp).run _ s15 σ15 H15 _ I15 q15) fun b1 s16 ⟨H16, I16, q16⟩ => ?_
          have next1 : ∀ {s' : Shared} {H' : Hp}, Inv (blkOf X scope s3 H3 C cl fp) (([] ++ pl) ++ pl1) σ15 H' s' → Nx1 H' → ∃ m, m < k ∧ ∃ j H', AtT (blkOf X scope s3 H3 C cl fp) ([] ++ pl) fp1 tn1 j (wipe σ8 vs1) H' s' ∧ M1 j m H' := fun {s' H'} I' nx => by
            obtain ⟨m', hm, w'⟩ := hNx1 H' nx
            exact ⟨m', hm, j + 1, H', (back1 σ15 H' s' I').weak l15 k15, w'⟩
          cases b1 with
          | false =>
            simp only [Bool.false_eq_true, if_false] at q16 ⊢
            exact next1 I16 q16
          | true =>
            simp only [if_true] at q16 ⊢
            refine thnF ((he s3 H3 C cl fp).run _ s16 σ15 H16 _ I16 q16) fun z s17 ⟨yv, H17, I17, r17, kk, S, n', ey, hD, room, nx⟩ => ?_
            subst ey
            exact addG_ok (X := blkOf X scope s3 H3 C cl fp) I17 hD r17 room fun s18 I18 => next1 I18 nx
      exact start2 loop1 (T1.self X.A 0 _ _ _ st11 loop1)
end
end DL
set_option Elab.async false
set_option linter.all false
set_option maxRecDepth 100000
set_option maxHeartbeats 2000000
/-! D31: sorted and len of set comprehensions. -/
namespace DL
open PySem PySem.Spec PyProof.Rows L2
theorem Rs.hmutX {K : PySem.W.Frag} {g : G} {m : List Md} {own : Nat → Addr} {σ : L2.St} {ρ : Rho} {H : Hp} {ps : Ps} {p : Addr} {o' : HO} (r : Rs K g m own σ ρ H ps) (hE : g.E p) (hx : ∃ φ, H p = some (.ext φ)) (np : ¬ plS g.pl p) (hB : g.B p = none) : Rs K g m own σ ρ (upd H p o') ps := by
  obtain ⟨φ, hx⟩ := hx
  have ex : Ex (hid (Xs m own g) H) (hid (Xs m own g) (upd H p o')) := fun a u q => by
    obtain ⟨n, q⟩ := hid_of q
    rw [hid_at n, upd_ne (fun z => n (by rw [z]; exact .inl hE))]
    exact q
  have noR : ∀ {pl : Pl} {Hx : Hp} {d : D}, ¬ TopR pl K Hx d (some (.ext φ)) := fun {pl Hx d} t => by
    cases d with
    | lst _ => obtain ⟨vs, q, _⟩ := t; cases q
    | dk _ => obtain ⟨vs, q, _⟩ := t; cases q
    | dt _ => obtain ⟨vs, q, _⟩ := t; cases q
    | tup _ => obtain ⟨vs, q, _⟩ := t; cases q
    | ins _ _ => obtain ⟨dx, vs, q, _⟩ := t; cases q
    | _ => exact t.elim
  have far : ∀ (i : Nat), (m[i]? = some .ow ∨ m[i]? = some .io) → own i ≠ p := fun i h z => by
    obtain ⟨d, _, _, t, _⟩ := r.ow i h
    rw [z, hx] at t
    exact noR t
  exact {
    len := r.len
    sh := fun i d h1 h2 => let ⟨v, h3, h4⟩ := r.sh i d h1 h2; ⟨v, h3, h4.mono ex⟩
    ow := fun i h => by
      obtain ⟨d, h1, h2, t, h4, h5⟩ := r.ow i h
      exact ⟨d, h1, h2, by rw [upd_ne (far i h)]; exact t.mono ex, h4, h5⟩
    sb := fun i d h1 h2 => by
      obtain ⟨v, h3, h4⟩ := r.sb i d h1 h2
      refine ⟨v, h3, ?_⟩
      rcases h4 with h4 | ⟨a, ea, npa, noa, t⟩
      · exact .inl (h4.mono ex)
      · refine .inr ⟨a, ea, npa, noa, ?_⟩
        have : a ≠ p := fun z => by
          rw [z, hx] at t
          rcases t with t | ⟨_, _, _, _, z2, _⟩ | ⟨_, _, _, _, z2, _⟩
          · exact noR t
          · cases z2
          · cases z2
        rw [upd_ne this]; exact t.mono ex
    xc := fun i b dx h => by
      obtain ⟨d, h1, h2, t, h4⟩ := r.xc i b dx h
      have e : dx ≠ p := fun z => by obtain ⟨_, _, _, _, k, _⟩ := t; rw [z, hx] at k; cases k
      exact ⟨d, h1, h2, by rw [upd_ne e]; exact t.mono ex, h4⟩
    ex := fun q hq => (r.ex q hq).mono ex
    sx := fun q hq => let ⟨v, h1, h2⟩ := r.sx q hq; ⟨v, h1, h2.mono ex⟩
    inj := r.inj
    nE := r.nE
    base := fun a o h n => by
      rw [upd_ne (fun z => by rw [z, hB] at h; cases h)]
      exact r.base a o h n
    pool := r.pool.keep fun a ha => upd_ne fun z => np (by rw [← z]; exact ha)
    eT := fun a h => by
      by_cases e : a = p
      · rw [e, upd_same]; exact fun z => nomatch z
      · rw [upd_ne e]; exact r.eT a h }
def memK (k : Key) (ks : List Key) : Bool := ks.any fun j => decide (j = k)
theorem memK_iff {k : Key} {ks : List Key} : memK k ks = true ↔ k ∈ ks := by
  unfold memK
  rw [List.any_eq_true]
  exact ⟨fun ⟨j, h, e⟩ => by rw [← of_decide_eq_true e]; exact h, fun h => ⟨k, h, decide_eq_true rfl⟩⟩
def addK (ks : List Key) (k : Key) : List Key := if memK k ks = true then ks else ks ++ [k]
def setOfK (ks : List Key) : Key → Bool := fun j => memK j ks
theorem addK_nodup {ks : List Key} {k : Key} (h : ks.Nodup) : (addK ks k).Nodup := by
  unfold addK
  split
  · exact h
  · rename_i n
    exact List.nodup_append.mpr ⟨h, by simp, fun a ha b hb => by rw [List.mem_singleton.mp hb]; exact fun z => n (memK_iff.mpr (by rw [← z]; exact ha))⟩
theorem bool_ext {a b : Bool} (h : a = true ↔ b = true) : a = b := by cases a <;> cases b <;> simp_all
theorem gAdd_eq {X : Cx} {Da : Addr} {ks : List Key} {k : Key} : gAdd X Da (setOfK ks) ks.length k = SetGO X.prog X.w Da (setOfK (addK ks k)) (addK ks k).length := by
  unfold gAdd
  have e2 : setOfK ks k = memK k ks := rfl
  by_cases h : memK k ks = true
  · have e1 : addK ks k = ks := by unfold addK; rw [if_pos h]
    rw [e1, e2, if_pos h]
    congr 1
    funext j
    refine bool_ext ?_
    rw [Bool.or_eq_true, decide_eq_true_eq]
    exact ⟨fun z => z.elim id fun z => by rw [z]; exact h, .inl⟩
  · have e1 : addK ks k = ks ++ [k] := by unfold addK; rw [if_neg h]
    rw [e1, e2, if_neg h, List.length_append]
    congr 1
    funext j
    refine bool_ext ?_
    rw [Bool.or_eq_true, decide_eq_true_eq]
    show (memK j ks = true ∨ j = k) ↔ memK j (ks ++ [k]) = true
    rw [memK_iff, memK_iff, List.mem_append, List.mem_singleton]
section
variable {X : Cx} {W : WX} {m mT mT1 : List Md} {elt tg iter tg1 iter1 e : Expr} {ifs ifs1 : List Expr} {scope : Scope} {own0 : List (Str × Nat)} {pos : Pos} {F F1 : D → Rho → R Rho} {fc fc1 : FT} {fe f : FE} {fi fi1 : FA} {is is1 : List Nat} {Jc Jc1 : JP}
def scGo (F : D → Rho → R Rho) (fc : FT) (fe : FE) : List D → Rho → List Key → R (List Key)
  | [], _, acc => pure acc
  | d :: r, ρ, acc => tuF F fc d (fun ρ1 b => if b = true then (do
      let y ← noX (fe ρ1)
      let k ← ofO (keyOf y)
      if decide (acc.length < 4000) = true then scGo F fc fe r ρ (addK acc k) else R.und) else scGo F fc fe r ρ acc) ρ
theorem sc_walk {vs : List Nat} (B : Blk X scope m vs tg ifs Jc mT is F fc) (he : ∀ (s : Shared) (H : Hp) (C : Addr) (cl : List (Str × Addr)) (fp : List Addr), Dx .bo (blkOf X scope s H C cl fp) WF mT elt fe)
    {g : G} {own : Nat → Addr} {σ : L2.St} {ρ : Rho} {Hb : Hp} {psb psf : Ps} {Da : Addr} {its : List Item} {JJ : It} {ks : List (Addr × HO)} {accb fin : List Key} (hs : g.sx = []) (hDE : g.E Da) (hDp : ¬ plS g.pl Da) (hDB : g.B Da = none)
    (r0 : Rs X.K g (wipeM m vs) own (wipe σ vs) (wipeR ρ vs) Hb psb) (hset : Hb Da = some (SetGO X.prog X.w Da (setOfK accb) accb.length)) (nd : accb.Nodup)
    (wk : WalkOk JJ ks its) (hk : ∀ p ∈ ks, Hb p.1 = some p.2 ∧ ¬ plS g.pl p.1 ∧ p.1 ≠ Da) (hits : ∀ it ∈ its, it.R g.pl X.K (hid (Xs (wipeM m vs) own g) Hb)) (hfin : scGo F fc fe (its.map Item.d) (wipeR ρ vs) accb psb = .ok fin psf)
    (Nxt : Hp → Prop) (hN : ∀ H2, Rs X.K g (wipeM m vs) own (wipe σ vs) (wipeR ρ vs) H2 psf → H2 Da = some (SetGO X.prog X.w Da (setOfK fin) fin.length) → fin.Nodup → Exo (fun a => plS g.pl a ∨ a = Da) Hb H2 → Nxt H2) :
    ∃ M : Nat → Nat → Hp → Prop, (∃ k, M 0 k Hb) ∧ ∀ i k H, M i k H → (JJ.stop i H ∧ Nxt H) ∨ (JJ.go i H ∧ ∃ Nx : Hp → Prop, (∀ H', Nx H' → ∃ k', k' < k ∧ M (i + 1) k' H') ∧ ∀ x H', JJ.yld i H x H' → bG X scope tg x (wipe σ vs) H' fun σ2 H2 => wipe σ2 vs = wipe σ vs ∧ bTs X scope ifs σ2 H2 fun b H3 =>
      if b = true then bE X scope elt σ2 H3 fun y H4 => ∃ (k : Key) (S : Key → Bool) (n : Nat), y = kV k ∧ H4 Da = some (SetGO X.prog X.w Da S n) ∧ n + 1 < scanBound ∧ Nx (upd H4 Da (gAdd X Da S n k)) else Nx H3) := by
  let O : Addr → Prop := fun a => plS g.pl a ∨ a = Da
  have hOX : ∀ {mm : List Md} (a : Addr), O a → Xs mm own g a := fun {mm} a z => by
    rcases z with z | z
    · exact .inr (.inl z)
    · rw [z]; exact .inl hDE
  have up : ∀ {H H' : Hp}, Exo (plS g.pl) H H' → Exo O H H' := fun x => x.weak fun a z => .inl z
  let Pv : Nat → Hp → Prop := fun i H2 => i ≤ its.length ∧ ∃ (acc : List Key) (ps2 : Ps), Rs X.K g (wipeM m vs) own (wipe σ vs) (wipeR ρ vs) H2 ps2 ∧ Exo O Hb H2 ∧ H2 Da = some (SetGO X.prog X.w Da (setOfK acc) acc.length) ∧ acc.Nodup ∧ scGo F fc fe ((its.map Item.d).drop i) (wipeR ρ vs) acc ps2 = .ok fin psf
  refine ⟨fun i k H2 => k = its.length - i ∧ Pv i H2, ⟨its.length, by simp, Nat.zero_le _, accb, psb, r0, Exo.refl, hset, nd, by rw [List.drop_zero]; exact hfin⟩, ?_⟩
  rintro i k H2 ⟨rfl, hil, acc, ps2, r2, x2, hd2, nd2, heq⟩
  have kH : KeepH ks H2 := fun p hp => x2 _ _ (hk p hp).1 fun z => z.elim (hk p hp).2.1 (hk p hp).2.2
  by_cases hlt : i < its.length
  · right
    refine ⟨wk.go i H2 hlt kH, fun H' => Pv (i + 1) H', fun H' q => ⟨its.length - (i + 1), by omega, rfl, q⟩, fun x H' hy => ?_⟩
    have hit := List.getElem?_eq_getElem hlt
    have hY := wk.yld i x H2 H' its[i] hit kH hy
    have hdrop : (its.map Item.d).drop i = its[i].d :: (its.map Item.d).drop (i + 1) := by
      rw [List.drop_eq_getElem_cons (by simpa using hlt)]; simp
    rw [hdrop] at heq
    have ntot : scGo F fc fe (its[i].d :: (its.map Item.d).drop (i + 1)) (wipeR ρ vs) acc ps2 ≠ .und := by rw [heq]; exact fun z => nomatch z
    refine turn_go B hs r2 ((hits _ (List.getElem_mem hlt)).mono (x2.hid hOX)) hY ntot fun ρ1 σ1 b H4 ps4 r4 x4 e4 => ?_
    have hd4 : H4 Da = some (SetGO X.prog X.w Da (setOfK acc) acc.length) := x4 _ _ hd2 hDp
    have heq4 := e4.symm.trans (show scGo F fc fe (its[i].d :: (its.map Item.d).drop (i + 1)) (wipeR ρ vs) acc ps2 = _ from heq)
    cases b with
    | false => exact ⟨hlt, acc, ps4, r2.mono x4 r4.pool, x2.trans (up x4), hd4, nd2, heq4⟩
    | true =>
      rw [if_pos rfl] at heq4 ⊢
      have n5 : noX (fe ρ1) ps4 ≠ .und := ne_of_bind (by rw [heq4]; exact fun z => nomatch z)
      intro s5 H5 C5 cl5 fp5
      refine cE.mono ((he s5 H5 C5 cl5 fp5).cX r4 n5) fun y H6 ⟨d6, ps6, e6, x6, p6, q6⟩ => ?_
      rw [bind_ok e6] at heq4
      obtain ⟨kk, k1, k2⟩ := ofO_ne (ne_of_bind (show (ofO (keyOf d6) >>= _) ps6 ≠ .und by rw [heq4]; exact fun z => nomatch z))
      rw [bind_ok k2] at heq4
      obtain ⟨hl1, hl2⟩ := ifB_und (show (if decide (acc.length < 4000) = true then scGo F fc fe ((its.map Item.d).drop (i + 1)) (wipeR ρ vs) (addK acc kk) else R.und) ps6 ≠ .und by rw [heq4]; exact fun z => nomatch z)
      rw [hl2] at heq4
      have ek := keyOf_rep q6.full k1
      have hd6 : H6 Da = some (SetGO X.prog X.w Da (setOfK acc) acc.length) := x6 _ _ hd4 hDp
      have r6 := r2.mono (x4.trans x6) p6
      refine ⟨kk, setOfK acc, acc.length, ek, hd6, ?_, hlt, addK acc kk, ps6, ?_, ?_, ?_, addK_nodup nd2, heq4⟩
      · have := of_decide_eq_true hl1
        show acc.length + 1 < 4096
        omega
      · exact r6.hmutX hDE ⟨_, hd6⟩ hDp hDB
      · refine (x2.trans (up (x4.trans x6))).trans fun a o h nn => ?_
        rw [upd_ne (fun z => nn (.inr z))]; exact h
      · rw [upd_same, gAdd_eq]
  · left
    have hie : i = its.length := by omega
    subst hie
    refine ⟨wk.stop H2 kH, ?_⟩
    rw [List.drop_eq_nil_of_le (by simp)] at heq
    have : Res.ok acc ps2 = Res.ok fin psf := heq
    cases this
    exact hN H2 r2 hd2 nd2 x2
/-- what a set comprehension's value is -/
def QS (X : Cx) (pl : Pl) (H : Hp) (r : Res (List Key)) : VK := fun v H' => ∃ ks ps' Da, r = .ok ks ps' ∧ v = .ref Da ∧ H Da = none ∧ H' Da = some (SetGO X.prog X.w Da (setOfK ks) ks.length) ∧ ks.Nodup ∧ Exo (plS pl) H H' ∧ PoolAt pl H' ps'
def scF (vs : List Nat) (fi : FA) (F : D → Rho → R Rho) (fc : FT) (fe : FE) : Rho → R (List Key) := fun ρ => do let its ← fi ρ; noX (scGo F fc fe its (wipeR ρ vs) [])
theorem sc_start {g : G} {m : List Md} {own : Nat → Addr} {σ : L2.St} {ρ : Rho} {H1 : Hp} {ps1 : Ps} {Da : Addr} {vs : List Nat} (r1 : Rs X.K g m own σ ρ H1 ps1) (hDa : H1 Da = none) : Rs X.K (g.ns.hd Da) (wipeM m vs) own (wipe σ vs) (wipeR ρ vs) (upd H1 Da (gNew X Da)) ps1 ∧ g.B Da = none ∧ ¬ plS g.pl Da ∧ Ex (hid (Xs m own g) H1) (hid (Xs (wipeM m vs) own (g.ns.hd Da)) (upd H1 Da (gNew X Da))) := by
  have npl : ¬ plS g.pl Da := r1.npl hDa
  refine ⟨(r1.ns.wipe rfl vs).hide hDa, ?_, npl, fun a o q => ?_⟩
  · cases z : g.B Da with
    | none => rfl
    | some o => rw [r1.base _ _ z npl] at hDa; cases hDa
  · obtain ⟨n1, q⟩ := hid_of q
    have na : a ≠ Da := ne_of_none q hDa
    have xsw : ∀ a, Xs (wipeM m vs) own g.ns a → Xs m own g a := fun a z => by
      rcases z with z | z | ⟨i, z, e⟩
      · exact .inl z
      · exact .inr (.inl z)
      · refine .inr (.inr ⟨i, ?_, e⟩)
        rcases z with z | z
        · exact .inl (leM_at (leM_wipe m vs) i _ z (by decide))
        · exact .inr (leM_at (leM_wipe m vs) i _ z (by decide))
    rw [hid_at (fun z => (Xs.hd_out a z).elim (fun z => n1 (xsw a z)) na), upd_ne na]
    exact q
theorem sc_run (hc : X.calm = true) (hN : X.N.Nodup) (ok : BlkOk X.N X.env.scope scope own0) (B : Blk X scope m (own0.map (·.2)) tg ifs Jc mT is F fc) (he : ∀ (s : Shared) (H : Hp) (C : Addr) (cl : List (Str × Addr)) (fp : List Addr), Dx .bo (blkOf X scope s H C cl fp) WF mT elt fe) (hsf : ∀ x, foldedSetIterable iter X.env x = pure x)
    {g : G} {own : Nat → Addr} {σ : L2.St} {ρ : Rho} {H : Hp} {ps : Ps} (r : Rs X.K g m own σ ρ H ps) (hcI : cI X tg iter σ H (QI m own g.pl X.K (Xs m own g) H (fi ρ ps))) (n : scF (own0.map (·.2)) fi F fc fe ρ ps ≠ .und) :
    cE X (.SetComp elt [⟨tg, iter, ifs, 0⟩] scope pos) σ H (QS X g.pl H (scF (own0.map (·.2)) fi F fc fe ρ ps)) := by
  intro pins s I
  generalize hvs : own0.map (·.2) = vs at *
  refine (pe_gc (te := bE X scope elt) (g := bG X scope tg) (tt := bTs X scope ifs) hc hN (pi_c X tg iter) ok (fun s H0 C cl fp => ⟨fun pins s' σ H v u Q I rv h => h s H0 C cl fp pins s' u I rv⟩) (fun s H0 C cl fp => ⟨fun pins s' σ H Q I h => h s H0 C cl fp pins s' I⟩) (fun s H0 C cl fp => ⟨fun pins s' σ H Q I h => h s H0 C cl fp pins s' I⟩) hsf).run pins s σ H _ I ?_
  rw [hvs]
  intro pins0 s0 I0
  refine thn (hcI pins0 s0 I0) fun v s1 h1 => thn h1 fun itv s2 h2 => ?_
  obtain ⟨it, fp, tn, JJ, H1, e1, I1, T, st2, f2, its, ps1, ks, e2, x1, p1, wk, hk, hits⟩ := h2
  refine ⟨it, fp, tn, JJ, H1, e1, I1, T, st2, f2, fun Da hDa => ?_⟩
  have e3 : scF vs fi F fc fe ρ ps = noX (scGo F fc fe (its.map Item.d) (wipeR ρ vs) []) ps1 := bind_ok e2
  rw [e3] at n ⊢
  obtain ⟨fin, psf, hfin, hfin'⟩ := noX_ok n
  rw [hfin']
  have r1 := r.mono x1 p1
  obtain ⟨r0, hB, npl, ex⟩ := sc_start (vs := vs) r1 hDa
  refine sc_walk (g := g.ns.hd Da) B he rfl (.inr rfl) npl hB r0 upd_same List.nodup_nil wk (fun p hp => ⟨?_, (hk p hp).2.1, ?_⟩) (fun it' hit => (hits it' hit).mono ex) hfin _ fun H2 r2 hd nd x2 => ?_
  · rw [upd_ne (ne_of_none (hk p hp).1 hDa)]; exact (hk p hp).1
  · exact ne_of_none (hk p hp).1 hDa
  · refine ⟨fin, psf, Da, rfl, rfl, ?_, hd, nd, fun a o h nn => ?_, r2.pool⟩
    · cases z : H Da with
      | none => rfl
      | some o => rw [x1 _ _ z npl] at hDa; cases hDa
    · have h1 := x1 a o h nn
      exact x2 a o (by rw [upd_ne (ne_of_none h1 hDa)]; exact h1) fun z => z.elim nn (ne_of_none h1 hDa)
end
end DL
set_option Elab.async false
set_option linter.all false
set_option maxRecDepth 100000
set_option maxHeartbeats 2000000
/-! D32: sorted and len of set comprehensions, over lists, dicts, of two clauses. -/
namespace DL
open PySem PySem.Spec PyProof.Rows L2
section
variable {X : Cx} {W : WX} {m mT mT1 : List Md} {elt tg iter tg1 iter1 e : Expr} {ifs ifs1 : List Expr} {scope : Scope} {own0 : List (Str × Nat)} {pos p : Pos} {F F1 : D → Rho → R Rho} {fc fc1 : FT} {fe f : FE} {fi fi1 : FA} {is is1 : List Nat} {Jc Jc1 : JP} {fs : Rho → R (List Key)}
/-- an expression whose value is a set of keys -/
structure Sx (X : Cx) (W : WX) (m : List Md) (e : Expr) (fs : Rho → R (List Key)) : Prop where
  can : ∀ {g : G} {own : Nat → Addr} {σ : L2.St} {ρ : Rho} {H : Hp} {ps : Ps}, Rs X.K g m own σ ρ H ps → fs ρ ps ≠ .und → WOk W g.pl X.K (Xs m own g) σ H (fs ρ ps) → cE X e σ H (QS X g.pl H (fs ρ ps))
theorem QS.unlock {pl : Pl} {H H' : Hp} {r : Res (List Key)} {v : V} {q : Addr} {u : HO} {od : Obj} (hq : H q = some u) (np : ¬ plS pl q) (h : QS X pl (upd H q (.frz od u)) r v H') : H' q = some (.frz od u) ∧ QS X pl H r v (upd H' q u) := by
  obtain ⟨ks, ps', Da, e, ev, hn, hd, nd, x, p⟩ := h
  have hq' : H' q = some (.frz od u) := x q _ upd_same np
  have na : Da ≠ q := fun z => by subst z; rw [upd_same] at hn; cases hn
  rw [upd_ne na] at hn
  exact ⟨hq', ks, ps', Da, e, ev, hn, by rw [upd_ne na]; exact hd, nd, exo_unlock (B := H) Exo.refl hq np x, p.keep fun b hb => upd_ne fun z => np (by rw [← z]; exact hb)⟩
theorem sx_sc (hc : X.calm = true) (hN : X.N.Nodup) (ok : blkC X.N X.env.scope scope own0 = true) (hi : DI X W m tg iter fi) (B : Blk X scope m (own0.map (·.2)) tg ifs Jc mT is F fc) (he : ∀ (s : Shared) (H : Hp) (C : Addr) (cl : List (Str × Addr)) (fp : List Addr), Dx .bo (blkOf X scope s H C cl fp) WF mT elt fe) (hsf : ∀ x, foldedSetIterable iter X.env x = pure x := by intro _; rfl) :
    Sx X W m (.SetComp elt [⟨tg, iter, ifs, 0⟩] scope pos) (scF (own0.map (·.2)) fi F fc fe) := ⟨fun r n w => sc_run hc hN (blkOk_by ok) B he hsf r (hi.can r (ne_of_bind n) (WOk.left w)) n⟩
theorem sx_scK {Gk : List (Key × D) → List D} (hc : X.calm = true) (hN : X.N.Nodup) (ok : blkC X.N X.env.scope scope own0 = true) (hk : KWk X tg e iter Gk) (hpl : PlD X m e f) (B : Blk X scope m (own0.map (·.2)) tg ifs Jc mT is F fc) (he : ∀ (s : Shared) (H : Hp) (C : Addr) (cl : List (Str × Addr)) (fp : List Addr), Dx .bo (blkOf X scope s H C cl fp) WF mT elt fe) (hsf : ∀ x, foldedSetIterable iter X.env x = pure x := by intro _; rfl) :
    Sx X W m (.SetComp elt [⟨tg, iter, ifs, 0⟩] scope pos) (scF (own0.map (·.2)) (kwF Gk f) F fc fe) := by
  refine ⟨fun {g own σ ρ H ps} r n w pins s I => ?_⟩
  obtain ⟨kvs, q, vs, e1, hr, np, no, t1, hE⟩ := hpl.run r (kwF_ne (ne_of_bind n))
  have e2 : kwF Gk f ρ ps = .ok (Gk kvs) ps := bind_ok e1
  rcases hr with hr | ⟨od, hr⟩
  · refine (pe_lock (pe_c X _)).run pins s σ H _ I ⟨q, .dK vs, hr, True.intro, fun od => ?_⟩
    have r1 := r.lock (od := od) (u := .dK vs) True.intro hr np no
    exact cE.mono (sc_run (fi := kwF Gk f) hc hN (blkOk_by ok) B he hsf r1 (by rw [e2]; exact hk.run (g := g.lk q (.frz od (.dK vs))) r1 upd_same np no (t1.monoM (ExM.lock (u := .dK vs) True.intro hr)) (hE _ od (fun a ha => upd_ne ha) upd_same)) n) fun v H' z => QS.unlock (u := .dK vs) hr np z
  · exact sc_run hc hN (blkOk_by ok) B he hsf r (by rw [e2]; exact hk.run r hr np no t1 (hE H od (fun _ _ => rfl) hr)) n pins s I

/-! ### two clauses -/
def sc2Go (vs1 : List Nat) (F : D → Rho → R Rho) (fc : FT) (fi1 : FA) (F1 : D → Rho → R Rho) (fc1 : FT) (fe : FE) : List D → Rho → List Key → R (List Key)
  | [], _, acc => pure acc
  | d :: r, ρ, acc => tuF F fc d (fun ρ1 b => if b = true then (do
      let its ← noX (fi1 ρ1)
      let acc' ← scGo F1 fc1 fe its (wipeR ρ1 vs1) acc
      sc2Go vs1 F fc fi1 F1 fc1 fe r ρ acc') else sc2Go vs1 F fc fi1 F1 fc1 fe r ρ acc) ρ
def sc2F (vs vs1 : List Nat) (fi : FA) (F : D → Rho → R Rho) (fc : FT) (fi1 : FA) (F1 : D → Rho → R Rho) (fc1 : FT) (fe : FE) : Rho → R (List Key) := fun ρ => do let its ← fi ρ; noX (sc2Go vs1 F fc fi1 F1 fc1 fe its (wipeR ρ vs) [])
def bI (X : Cx) (scope : Scope) (tg e : Expr) : TI := fun σ H Q => ∀ s H0 C cl fp, cI (blkOf X scope s H0 C cl fp) tg e σ H Q
theorem scGo_exc {F : D → Rho → R Rho} {fc : FT} {fe : FE} : ∀ {ds : List D} {ρ : Rho} {acc : List Key} {ps ps' : Ps} {x : Exn}, scGo F fc fe ds ρ acc ps ≠ .exc x ps'
  | [], _, _, _, _, _ => fun z => nomatch z
  | d :: r, ρ, acc, ps, ps', x => fun z => by
    have nx : ∀ {α : Type} {y : R α} {ps ps' : Ps} {x : Exn}, noX y ps ≠ .exc x ps' := fun {α y ps ps' x} h => by
      unfold noX at h
      cases q : y ps with
      | und => rw [q] at h; cases h
      | exc _ _ => rw [q] at h; cases h
      | ok _ _ => rw [q] at h; cases h
    have bnd : ∀ {α β : Type} {y : R α} {k : α → R β} {ps ps' : Ps} {x : Exn}, (y >>= k) ps = .exc x ps' → (∃ ps'' , y ps = .exc x ps'') ∨ ∃ a ps'', y ps = .ok a ps'' ∧ k a ps'' = .exc x ps' := fun {α β y k ps ps' x} h => by
      cases q : y ps with
      | und => rw [bind_und q] at h; cases h
      | exc e p => rw [bind_exc q] at h; cases h; exact .inl ⟨_, rfl⟩
      | ok a p => rw [bind_ok q] at h; exact .inr ⟨a, p, rfl, h⟩
    have z : tuF F fc d _ ρ ps = .exc x ps' := z
    rcases bnd z with ⟨_, h⟩ | ⟨ρ1, ps1, _, z⟩
    · exact nx h
    rcases bnd z with ⟨_, h⟩ | ⟨b, ps2, _, z⟩
    · exact nx h
    cases b with
    | false => exact scGo_exc (ds := r) z
    | true =>
      have z : (noX (fe ρ1) >>= fun y => ofO (keyOf y) >>= fun k => if decide (acc.length < 4000) = true then scGo F fc fe r ρ (addK acc k) else R.und) ps2 = .exc x ps' := z
      rcases bnd z with ⟨_, h⟩ | ⟨y, ps3, _, z⟩
      · exact nx h
      rcases bnd z with ⟨_, h⟩ | ⟨k, ps4, _, z⟩
      · cases hk : keyOf y <;> rw [hk] at h <;> cases h
      split at z
      · exact scGo_exc (ds := r) z
      · cases z
theorem sc2_run {vs1 : List Nat} (hc : X.calm = true) (hN : X.N.Nodup) (ok : BlkOk X.N X.env.scope scope own0) (hv : ∀ i ∈ vs1, i ∈ own0.map (·.2)) (B : Blk X scope m (own0.map (·.2)) tg ifs Jc mT is F fc) (B1 : Blk X scope mT vs1 tg1 ifs1 Jc1 mT1 is1 F1 fc1)
    (hi1 : ∀ (s : Shared) (H : Hp) (C : Addr) (cl : List (Str × Addr)) (fp : List Addr), DI (blkOf X scope s H C cl fp) WF mT tg1 iter1 fi1) (he : ∀ (s : Shared) (H : Hp) (C : Addr) (cl : List (Str × Addr)) (fp : List Addr), Dx .bo (blkOf X scope s H C cl fp) WF mT1 elt fe) (hsf : ∀ x, foldedSetIterable iter X.env x = pure x) (hs1 : ∀ env x, foldedSetIterable iter1 env x = pure x)
    {g : G} {own : Nat → Addr} {σ : L2.St} {ρ : Rho} {H : Hp} {ps : Ps} (r : Rs X.K g m own σ ρ H ps) (hcI : cI X tg iter σ H (QI m own g.pl X.K (Xs m own g) H (fi ρ ps))) (n : sc2F (own0.map (·.2)) vs1 fi F fc fi1 F1 fc1 fe ρ ps ≠ .und) :
    cE X (.SetComp elt [⟨tg, iter, ifs, 0⟩, ⟨tg1, iter1, ifs1, 0⟩] scope pos) σ H (QS X g.pl H (sc2F (own0.map (·.2)) vs1 fi F fc fi1 F1 fc1 fe ρ ps)) := by
  intro pins s I
  generalize hvs : own0.map (·.2) = vs at *
  refine (pe_gc2 (te := bE X scope elt) (g := bG X scope tg) (tt := bTs X scope ifs) (g1 := bG X scope tg1) (tt1 := bTs X scope ifs1) (wi1 := bI X scope tg1 iter1) (vs1 := vs1) hc hN (pi_c X tg iter) ok (by rw [hvs]; exact hv) (fun s H0 C cl fp => ⟨fun pins s' σ H v u Q I rv h => h s H0 C cl fp pins s' u I rv⟩) (fun s H0 C cl fp => ⟨fun pins s' σ H Q I h => h s H0 C cl fp pins s' I⟩)
    (fun s H0 C cl fp => ⟨fun pins s' σ H Q I h => h s H0 C cl fp pins s' I⟩) (fun s H0 C cl fp => ⟨fun pins s' σ H v u Q I rv h => h s H0 C cl fp pins s' u I rv⟩) (fun s H0 C cl fp => ⟨fun pins s' σ H Q I h => h s H0 C cl fp pins s' I⟩) (fun s H0 C cl fp => ⟨fun pins s' σ H Q I h => h s H0 C cl fp pins s' I⟩) hsf hs1).run pins s σ H _ I ?_
  rw [hvs]
  intro pins0 s0 I0
  refine thn (hcI pins0 s0 I0) fun v s1 h1 => thn h1 fun itv s2 h2 => ?_
  obtain ⟨it, fp, tn, JJ, H1, e1, I1, T, st2, f2, its, ps1, ks, e2, x1, p1, wk, hk, hits⟩ := h2
  refine ⟨it, fp, tn, JJ, H1, e1, I1, T, st2, f2, fun Da hDa => ?_⟩
  have e3 : sc2F vs vs1 fi F fc fi1 F1 fc1 fe ρ ps = noX (sc2Go vs1 F fc fi1 F1 fc1 fe (its.map Item.d) (wipeR ρ vs) []) ps1 := bind_ok e2
  rw [e3] at n ⊢
  obtain ⟨fin, psf, hfin, hfin'⟩ := noX_ok n
  rw [hfin']
  have r1 := r.mono x1 p1
  obtain ⟨r0, hB, npl, ex⟩ := sc_start (vs := vs) r1 hDa
  generalize hg : g.ns.hd Da = g' at r0 ex
  have hpl : g'.pl = g.pl := by rw [← hg]; rfl
  have hsx : g'.sx = [] := by rw [← hg]; rfl
  have hDE : g'.E Da := by rw [← hg]; exact .inr rfl
  have hB' : g'.B Da = none := by rw [← hg]; exact hB
  have npl' : ¬ plS g'.pl Da := by rw [hpl]; exact npl
  generalize hHb : upd H1 Da (gNew X Da) = Hb at r0 ex
  have hset : Hb Da = some (SetGO X.prog X.w Da (setOfK []) ([] : List Key).length) := by rw [← hHb]; exact upd_same
  have old : ∀ {a : Addr} {o : HO}, H1 a = some o → Hb a = some o := fun {a o} h => by rw [← hHb, upd_ne (ne_of_none h hDa)]; exact h
  let O : Addr → Prop := fun a => plS g'.pl a ∨ a = Da
  have hOX : ∀ {mm : List Md} (a : Addr), O a → Xs mm own g' a := fun {mm} a z => by
    rcases z with z | z
    · exact .inr (.inl z)
    · rw [z]; exact .inl hDE
  have up : ∀ {H H' : Hp}, Exo (plS g'.pl) H H' → Exo O H H' := fun x => x.weak fun a z => .inl z
  have hk' : ∀ p ∈ ks, Hb p.1 = some p.2 ∧ ¬ O p.1 := fun p hp => ⟨old (hk p hp).1, fun z => z.elim (by rw [hpl]; exact (hk p hp).2.1) (ne_of_none (hk p hp).1 hDa)⟩
  have hits' : ∀ it ∈ its, it.R g'.pl X.K (hid (Xs (wipeM m vs) own g') Hb) := fun it' hit => by rw [hpl]; exact (hits it' hit).mono ex
  let Pv : Nat → Hp → Prop := fun i H2 => i ≤ its.length ∧ ∃ (acc : List Key) (ps2 : Ps), Rs X.K g' (wipeM m vs) own (wipe σ vs) (wipeR ρ vs) H2 ps2 ∧ Exo O Hb H2 ∧ H2 Da = some (SetGO X.prog X.w Da (setOfK acc) acc.length) ∧ acc.Nodup ∧ sc2Go vs1 F fc fi1 F1 fc1 fe ((its.map Item.d).drop i) (wipeR ρ vs) acc ps2 = .ok fin psf
  refine ⟨fun i k H2 => k = its.length - i ∧ Pv i H2, ⟨its.length, by simp, Nat.zero_le _, [], ps1, r0, Exo.refl, hset, List.nodup_nil, by rw [List.drop_zero]; exact hfin⟩, ?_⟩
  rintro i k H2 ⟨rfl, hil, acc, ps2, r2, x2, hd2, nd2, heq⟩
  have kH : KeepH ks H2 := fun p hp => x2 _ _ (hk' p hp).1 (hk' p hp).2
  by_cases hlt : i < its.length
  · right
    refine ⟨wk.go i H2 hlt kH, fun H' => Pv (i + 1) H', fun H' q => ⟨its.length - (i + 1), by omega, rfl, q⟩, fun x H' hy => ?_⟩
    have hit := List.getElem?_eq_getElem hlt
    have hY := wk.yld i x H2 H' its[i] hit kH hy
    have hdrop : (its.map Item.d).drop i = its[i].d :: (its.map Item.d).drop (i + 1) := by
      rw [List.drop_eq_getElem_cons (by simpa using hlt)]; simp
    rw [hdrop] at heq
    have ntot : sc2Go vs1 F fc fi1 F1 fc1 fe (its[i].d :: (its.map Item.d).drop (i + 1)) (wipeR ρ vs) acc ps2 ≠ .und := by rw [heq]; exact fun z => nomatch z
    refine turn_go B hsx r2 ((hits' _ (List.getElem_mem hlt)).mono (x2.hid hOX)) hY ntot fun ρ1 σ1 b H4 ps4 r4 x4 e4 => ?_
    have hd4 : H4 Da = some (SetGO X.prog X.w Da (setOfK acc) acc.length) := x4 _ _ hd2 npl'
    have heq4 := e4.symm.trans (show sc2Go vs1 F fc fi1 F1 fc1 fe (its[i].d :: (its.map Item.d).drop (i + 1)) (wipeR ρ vs) acc ps2 = _ from heq)
    cases b with
    | false => exact ⟨hlt, acc, ps4, r2.mono x4 r4.pool, x2.trans (up x4), hd4, nd2, heq4⟩
    | true =>
      rw [if_pos rfl] at heq4 ⊢
      have n5 : noX (fi1 ρ1) ps4 ≠ .und := ne_of_bind (by rw [heq4]; exact fun z => nomatch z)
      obtain ⟨w5, n5', e5⟩ := WF_ok (pl := g'.pl) (K := X.K) (O := Xs mT own g') (σ := σ1) (H := H4) n5
      intro s5 H5 C5 cl5 fp5 pins6 s6 I6
      refine thn (((hi1 s5 H5 C5 cl5 fp5).can r4 n5' w5) pins6 s6 I6) fun xv s7 h7 => thn h7 fun itv1 s8 h8 => ?_
      obtain ⟨it1, fp1, tn1, J1, H6, e6, I8, T1, st8, f8, its1, ps6, ks1, e7, x6, p6, wk1, hk1, hits1⟩ := h8
      refine ⟨it1, fp1, tn1, J1, H6, e6, I8, T1, st8, f8, ?_⟩
      rw [bind_ok (e5.trans e7)] at heq4
      have n6 : scGo F1 fc1 fe (its1.map Item.d) (wipeR ρ1 vs1) acc ps6 ≠ .und := ne_of_bind (by rw [heq4]; exact fun z => nomatch z)
      cases hq : scGo F1 fc1 fe (its1.map Item.d) (wipeR ρ1 vs1) acc ps6 with
      | und => exact (n6 hq).elim
      | exc y q => exact (scGo_exc hq).elim
      | ok acc' ps7 =>
        rw [bind_ok hq] at heq4
        have r6 := (r4.mono x6 p6).wipe hsx vs1
        have hd6 : H6 Da = some (SetGO X.prog X.w Da (setOfK acc) acc.length) := x6 _ _ hd4 npl'
        have hits6 : ∀ it ∈ its1, it.R g'.pl X.K (hid (Xs (wipeM mT vs1) own g') H6) := fun it' hit => (hits1 it' hit).mono (hid_sub fun a z => by
          rcases z with z | z | ⟨i, z, e⟩
          · exact .inl z
          · exact .inr (.inl z)
          · refine .inr (.inr ⟨i, ?_, e⟩)
            rcases z with z | z
            · exact .inl (leM_at (leM_wipe mT vs1) i _ z (by decide))
            · exact .inr (leM_at (leM_wipe mT vs1) i _ z (by decide)))
        refine sc_walk (g := g') B1 he hsx hDE npl' hB' r6 hd6 nd2 wk1 (fun p hp => ⟨(hk1 p hp).1, (hk1 p hp).2.1, fun z => ?_⟩) hits6 hq _ fun H9 r9 hd9 nd9 x9 => ?_
        · have h1 := (hk1 p hp).1
          rw [z, hd6] at h1
          exact wk1.ne p hp _ (Option.some.inj h1).symm
        · have x29 : Exo O H2 H9 := (up (x4.trans x6)).trans x9
          refine ⟨hlt, acc', ps7, ?_, x2.trans x29, hd9, nd9, heq4⟩
          refine (r2.hmutX (o' := SetGO X.prog X.w Da (setOfK acc') acc'.length) hDE ⟨_, hd2⟩ npl' hB').mono (fun a o h nn => ?_) r9.pool
          by_cases z : a = Da
          · subst z; rw [upd_same] at h; cases h; exact hd9
          · rw [upd_ne z] at h
            exact x29 a o h fun y => y.elim nn z
  · left
    have hie : i = its.length := by omega
    subst hie
    refine ⟨wk.stop H2 kH, ?_⟩
    rw [List.drop_eq_nil_of_le (by simp)] at heq
    have : Res.ok acc ps2 = Res.ok fin psf := heq
    cases this
    refine ⟨fin, psf, Da, rfl, rfl, ?_, hd2, nd2, fun a o h nn => ?_, by rw [← hpl]; exact r2.pool⟩
    · cases z : H Da with
      | none => rfl
      | some o => rw [x1 _ _ z npl] at hDa; cases hDa
    · have h1 := x1 a o h nn
      exact x2 a o (old h1) fun z => z.elim (by rw [hpl]; exact nn) (ne_of_none h1 hDa)
theorem sx_sc2 {vs1 : List Nat} (hc : X.calm = true) (hN : X.N.Nodup) (ok : blkC X.N X.env.scope scope own0 = true) (hv : ∀ i ∈ vs1, i ∈ own0.map (·.2)) (hi : DI X W m tg iter fi) (B : Blk X scope m (own0.map (·.2)) tg ifs Jc mT is F fc) (B1 : Blk X scope mT vs1 tg1 ifs1 Jc1 mT1 is1 F1 fc1)
    (hi1 : ∀ (s : Shared) (H : Hp) (C : Addr) (cl : List (Str × Addr)) (fp : List Addr), DI (blkOf X scope s H C cl fp) WF mT tg1 iter1 fi1) (he : ∀ (s : Shared) (H : Hp) (C : Addr) (cl : List (Str × Addr)) (fp : List Addr), Dx .bo (blkOf X scope s H C cl fp) WF mT1 elt fe)
    (hsf : ∀ x, foldedSetIterable iter X.env x = pure x := by intro _; rfl) (hs1 : ∀ env x, foldedSetIterable iter1 env x = pure x := by intro _ _; rfl) :
    Sx X W m (.SetComp elt [⟨tg, iter, ifs, 0⟩, ⟨tg1, iter1, ifs1, 0⟩] scope pos) (sc2F (own0.map (·.2)) vs1 fi F fc fi1 F1 fc1 fe) := ⟨fun r n w => sc2_run hc hN (blkOk_by ok) hv B B1 hi1 he hsf hs1 r (hi.can r (ne_of_bind n) (WOk.left w)) n⟩
theorem sx_sc2K {vs1 : List Nat} {Gk : List (Key × D) → List D} (hc : X.calm = true) (hN : X.N.Nodup) (ok : blkC X.N X.env.scope scope own0 = true) (hv : ∀ i ∈ vs1, i ∈ own0.map (·.2)) (hk : KWk X tg e iter Gk) (hpl : PlD X m e f) (B : Blk X scope m (own0.map (·.2)) tg ifs Jc mT is F fc) (B1 : Blk X scope mT vs1 tg1 ifs1 Jc1 mT1 is1 F1 fc1)
    (hi1 : ∀ (s : Shared) (H : Hp) (C : Addr) (cl : List (Str × Addr)) (fp : List Addr), DI (blkOf X scope s H C cl fp) WF mT tg1 iter1 fi1) (he : ∀ (s : Shared) (H : Hp) (C : Addr) (cl : List (Str × Addr)) (fp : List Addr), Dx .bo (blkOf X scope s H C cl fp) WF mT1 elt fe)
    (hsf : ∀ x, foldedSetIterable iter X.env x = pure x := by intro _; rfl) (hs1 : ∀ env x, foldedSetIterable iter1 env x = pure x := by intro _ _; rfl) :
    Sx X W m (.SetComp elt [⟨tg, iter, ifs, 0⟩, ⟨tg1, iter1, ifs1, 0⟩] scope pos) (sc2F (own0.map (·.2)) vs1 (kwF Gk f) F fc fi1 F1 fc1 fe) := by
  refine ⟨fun {g own σ ρ H ps} r n w pins s I => ?_⟩
  obtain ⟨kvs, q, vs, e1, hr, np, no, t1, hE⟩ := hpl.run r (kwF_ne (ne_of_bind n))
  have e2 : kwF Gk f ρ ps = .ok (Gk kvs) ps := bind_ok e1
  rcases hr with hr | ⟨od, hr⟩
  · refine (pe_lock (pe_c X _)).run pins s σ H _ I ⟨q, .dK vs, hr, True.intro, fun od => ?_⟩
    have r1 := r.lock (od := od) (u := .dK vs) True.intro hr np no
    exact cE.mono (sc2_run (fi := kwF Gk f) hc hN (blkOk_by ok) hv B B1 hi1 he hsf hs1 r1 (by rw [e2]; exact hk.run (g := g.lk q (.frz od (.dK vs))) r1 upd_same np no (t1.monoM (ExM.lock (u := .dK vs) True.intro hr)) (hE _ od (fun a ha => upd_ne ha) upd_same)) n) fun v H' z => QS.unlock (u := .dK vs) hr np z
  · exact sc2_run hc hN (blkOk_by ok) hv B B1 hi1 he hsf hs1 r (by rw [e2]; exact hk.run r hr np no t1 (hE H od (fun _ _ => rfl) hr)) n pins s I

/-! ### sorted({..}), len({..}) -/
def strK : List Key → Option (List Str)
  | [] => some []
  | .inr s :: r => (strK r).map (s :: ·)
  | _ => none
def intK : List Key → Option (List Int)
  | [] => some []
  | .inl s :: r => (intK r).map (s :: ·)
  | _ => none
theorem strK_eq : ∀ {ks : List Key} {ss : List Str}, strK ks = some ss → ks = ss.map Sum.inr
  | [], _, h => by cases h; rfl
  | .inr s :: r, _, h => by
    obtain ⟨l, h1, rfl⟩ := ind (show (strK r).map (s :: ·) = some _ from h)
    rw [strK_eq h1]; rfl
  | .inl s :: r, _, h => nomatch h
theorem intK_eq : ∀ {ks : List Key} {ss : List Int}, intK ks = some ss → ks = ss.map Sum.inl
  | [], _, h => by cases h; rfl
  | .inl s :: r, _, h => by
    obtain ⟨l, h1, rfl⟩ := ind (show (intK r).map (s :: ·) = some _ from h)
    rw [intK_eq h1]; rfl
  | .inr s :: r, _, h => nomatch h
def insI (x : Int) : List Int → List Int
  | [] => [x]
  | y :: r => if x ≤ y then x :: y :: r else y :: insI x r
def sortI : List Int → List Int
  | [] => []
  | x :: r => insI x (sortI r)
theorem insI_perm (x : Int) : ∀ l : List Int, (insI x l).Perm (x :: l)
  | [] => .refl _
  | y :: r => by
    unfold insI
    by_cases h : x ≤ y
    · rw [if_pos h]
    · rw [if_neg h]
      exact ((insI_perm x r).cons y).trans (.swap x y r)
theorem sortI_perm : ∀ l : List Int, (sortI l).Perm l
  | [] => .refl _
  | x :: r => (insI_perm x (sortI r)).trans ((sortI_perm r).cons x)
theorem insI_sorted (x : Int) : ∀ {l : List Int}, l.Pairwise (· ≤ ·) → (insI x l).Pairwise (· ≤ ·)
  | [], _ => by unfold insI; exact List.pairwise_singleton _ _
  | y :: r, h => by
    unfold insI
    have h' := List.pairwise_cons.mp h
    by_cases e : x ≤ y
    · rw [if_pos e]
      refine List.pairwise_cons.mpr ⟨fun z hz => ?_, h⟩
      rcases List.mem_cons.mp hz with rfl | hz
      · exact e
      · exact Int.le_trans e (h'.1 z hz)
    · rw [if_neg e]
      refine List.pairwise_cons.mpr ⟨fun z hz => ?_, insI_sorted x h'.2⟩
      rcases List.mem_cons.mp ((insI_perm x r).mem_iff.mp hz) with rfl | hz
      · omega
      · exact h'.1 z hz
theorem sortI_sorted : ∀ l : List Int, (sortI l).Pairwise (· ≤ ·)
  | [] => .nil
  | x :: r => insI_sorted x (sortI_sorted r)
theorem sortI_is {ys xs : List Int} (hp : ys.Perm xs) (h : ys.Pairwise (· ≤ ·)) : ys = sortI xs :=
  (hp.trans (sortI_perm xs).symm).eq_of_pairwise (fun a b _ _ x y => Int.le_antisymm x y) h (sortI_sorted xs)
theorem nodup_perm {α : Type} {l l' : List α} (h : l.Nodup) (h' : l'.Nodup) (e : ∀ x, x ∈ l ↔ x ∈ l') : l.Perm l' := (List.perm_ext_iff_of_nodup h h').mpr e
/-- the members in order -/
def sortKs (ks : List Key) : Option D := if ks.length < 64 then (match strK ks with
  | some ss => some (.lst ((sortS ss).map D.str))
  | none => (intK ks).map fun is => .lst ((sortI is).map D.int)) else none
def ssF (fs : Rho → R (List Key)) : FE := fun ρ => do let ks ← fs ρ; ofO (sortKs ks)
def slF (fs : Rho → R (List Key)) : FE := fun ρ => do let ks ← fs ρ; if decide (ks.length < 4096) = true then pure (.int ks.length) else R.und
theorem blt_e {x : Str} {id : String} {te : TE} {r0 : List V → Hp → VK → Prop} (hcr : CallR X (.builtin id) r0) (he : PE X e te) (hm : X.mg x = none) (hv : bootBuiltins x = some (.builtin id)) (hg : Gl X x) (hn : x ≠ "__name__") (hdb : (x == ("__debug__" : Str)) = false)
    (hs : starEach [e] X.env = (false, eval e X.env) :: starEach [] X.env) (hpl : (backTo pos (starEach [] X.env)).any (·.1) = false) : PE X (.Call (.Name x p) [e] [] pos) (fun σ H Q => te σ H fun v H1 => r0 [v] H1 Q) := by
  refine ⟨fun pins s σ H Q I h => ?_⟩
  refine wpAny_Call_Name_kw (ld_blt I hg hm hv ?_ hn hdb)
  exact PyProof.Rows.callWith_builtin1 (thn ((pa_cons he pa_nil hs).run pos pins s σ H (fun vs H1 => r0 vs H1 Q) I h) fun us s1 ⟨vs, H1, I1, rv, q⟩ => hcr pins s1 σ H1 vs us Q I1 rv q) hs hpl
theorem dx_sortedSet (h : Sx X W m e fs) (hc : X.calm = true) (hm : X.mg "sorted" = none) (hg : Gl X "sorted" := by rfl) (hs : starEach [e] X.env = (false, eval e X.env) :: starEach [] X.env := by rfl) (hpl : (backTo pos (starEach [] X.env)).any (·.1) = false := by rfl) (hv : bootBuiltins "sorted" = some (.builtin "sorted") := by rfl) :
    Dx .fr X W m (.Call (.Name "sorted" p) [e] [] pos) (ssF fs) := by
  refine ⟨fun g own pins s σ ρ H ps I r n w => ?_⟩
  have n1 := ne_of_bind n
  cases h1 : fs ρ ps with
  | und => exact (n1 h1).elim
  | exc y q =>
    refine (blt_e (call_sortedG hc) (pe_c X e) hm hv hg (by decide) (by decide) hs hpl).run pins s σ H _ I (cE.mono (h.can r n1 (WOk.left w)) fun v H' ⟨ks, ps', Da, e1, _⟩ => ?_)
    rw [h1] at e1; cases e1
  | ok ks ps1 =>
    have e2 : ssF fs ρ ps = ofO (sortKs ks) ps1 := bind_ok h1
    have n2 := n
    rw [e2] at n2
    obtain ⟨d, e3, e4⟩ := ofO_ne n2
    unfold sortKs at e3
    split at e3
    · rename_i h64
      cases h2 : strK ks with
      | some ss =>
        rw [h2] at e3
        cases e3
        have ek := strK_eq h2
        refine (blt_e (call_sortedG hc) (pe_c X e) hm hv hg (by decide) (by decide) hs hpl).run pins s σ H _ I (cE.mono (h.can r n1 (WOk.left w)) fun v H' ⟨ks', ps', Da, e1, ev, hn, hd, nd, x, pp⟩ => ?_)
        rw [h1] at e1; cases e1
        refine ⟨Da, setOfK ks, ks.length, by rw [ev], hd, h64, fun k hk => ?_, fun ys l ny sy my hl => ?_⟩
        · have := memK_iff.mp hk
          rw [ek] at this
          obtain ⟨z, _, rfl⟩ := List.mem_map.mp this
          exact ⟨z, rfl⟩
        · have nss : ss.Nodup := by
            rw [ek] at nd
            exact (List.pairwise_map.mp nd).imp fun {a b} z q => z (by rw [q])
          have hp : ys.Perm ss := nodup_perm ny nss fun z => by
            rw [my z]
            show memK (Sum.inr z) ks = true ↔ _
            rw [memK_iff, ek]
            exact ⟨fun q => let ⟨y, a, b⟩ := List.mem_map.mp q; by cases b; exact a, fun q => List.mem_map_of_mem q⟩
          rw [sort_is hp sy]
          exact QV.back x pp e2.symm _ _ (laid_fr (r.mono x pp).xT pp hl (reps_strs _) e4)
      | none =>
        rw [h2] at e3
        obtain ⟨is, h3, rfl⟩ := ind (show (intK ks).map (fun is => D.lst ((sortI is).map D.int)) = some d from e3)
        have ek := intK_eq h3
        refine (blt_e (call_sortedGI hc) (pe_c X e) hm hv hg (by decide) (by decide) hs hpl).run pins s σ H _ I (cE.mono (h.can r n1 (WOk.left w)) fun v H' ⟨ks', ps', Da, e1, ev, hn, hd, nd, x, pp⟩ => ?_)
        rw [h1] at e1; cases e1
        refine ⟨Da, setOfK ks, ks.length, by rw [ev], hd, h64, fun k hk => ?_, fun ys l ny sy my hl => ?_⟩
        · have := memK_iff.mp hk
          rw [ek] at this
          obtain ⟨z, _, rfl⟩ := List.mem_map.mp this
          exact ⟨z, rfl⟩
        · have nss : is.Nodup := by
            rw [ek] at nd
            exact (List.pairwise_map.mp nd).imp fun {a b} z q => z (by rw [q])
          have hp : ys.Perm is := nodup_perm ny nss fun z => by
            rw [my z]
            show memK (Sum.inl z) ks = true ↔ _
            rw [memK_iff, ek]
            exact ⟨fun q => let ⟨y, a, b⟩ := List.mem_map.mp q; by cases b; exact a, fun q => List.mem_map_of_mem q⟩
          rw [sortI_is hp sy]
          exact QV.back x pp e2.symm _ _ (laid_fr (r.mono x pp).xT pp hl (reps_ints _) e4)
    · cases e3
theorem dx_lenSet (h : Sx X W m e fs) (hm : X.mg "len" = none) (hg : Gl X "len" := by rfl) (hs : starEach [e] X.env = (false, eval e X.env) :: starEach [] X.env := by rfl) (hpl : (backTo pos (starEach [] X.env)).any (·.1) = false := by rfl) (hv : bootBuiltins "len" = some (.builtin "len") := by rfl) :
    Dx .cl X W m (.Call (.Name "len" p) [e] [] pos) (slF fs) := by
  refine ⟨fun g own pins s σ ρ H ps I r n w => ?_⟩
  refine (blt_e call_lenG (pe_c X e) hm hv hg (by decide) (by decide) hs hpl).run pins s σ H _ I (cE.mono (h.can r (ne_of_bind n) (WOk.left w)) fun v H' ⟨ks, ps', Da, e1, ev, hn, hd, nd, x, pp⟩ => ?_)
  have e2 : slF fs ρ ps = (if decide (ks.length < 4096) = true then (pure (.int ks.length) : R D) else R.und) ps' := bind_ok e1
  rw [e2] at n ⊢
  obtain ⟨hc, he⟩ := if_und n
  rw [he]
  exact ⟨Da, setOfK ks, ks.length, by rw [ev], hd, of_decide_eq_true hc, .int ks.length, ps', rfl, x, pp, rq_int⟩
end
end DL
set_option Elab.async false
set_option linter.all false
set_option maxRecDepth 100000
set_option maxHeartbeats 2000000
/-! D33: comprehensions stored in a local name; defs that return a new object. -/
namespace DL
open PySem PySem.Spec PyProof.Rows L2
section
variable {X : Cx} {W : WX} {J : JP} {m mT : List Md} {elt tg iter kx vx e : Expr} {ifs : List Expr} {scope : Scope} {own0 : List (Str × Nat)} {pos spos py : Pos} {F : D → Rho → R Rho} {fc : FT} {fe fk fv f : FE} {fi : FA} {is : List Nat} {Jc : JP} {i : Nat} {y : Str}
/-- what is to be shown of a store of a new object -/
theorem store_fr {g : G} {own : Nat → Addr} {σ : L2.St} {ρ : Rho} {H : Hp} {ps : Ps} {fx : FE} {v : V} {H' : Hp} (r : Rs X.K g m own σ ρ H ps) (hx : ∀ p ∈ g.sx, p.1 ∈ J.px) (hp : J.px.contains i = false) (hio : (m[i]? == some .io) = false) (hiσ : i < σ.length) (q : QV .fr g.pl X.K (Xs m own g) H (fx ρ ps) v H') :
    (DD X J m (m.set i .ow) g own (stF i fx ρ ps)).nx (σ.set i (some v)) H' := by
  obtain ⟨d, ps', e1, x1, p1, p, ev, hn, t⟩ := q
  subst ev
  have nio : m[i]? ≠ some .io := fun z => by rw [z] at hio; cases hio
  exact ⟨_, ps', own2 own i p, bind_ok e1, Rs.storeO (r.mono x1 p1) (d := d) x1 r.base r.xT hn t (sx_ne hx hp) hiσ r, fun j q => own2_ne fun z => nio (by rw [← z]; exact q)⟩
theorem ds_lc (hc : X.calm = true) (hN : X.N.Nodup) (hi0 : X.N[i]? = some y) (hyl : X.env.scope.names.lookup y = some .local) (hsw : swapsWith (.ListComp elt [⟨tg, iter, ifs, 0⟩] scope pos) (some (.Name y py)) spos.line X.env = pure true) (ok : blkC X.N X.env.scope scope own0 = true) (hi : DI X W m tg iter fi) (B : Blk X scope m (own0.map (·.2)) tg ifs Jc mT is F fc)
    (he : ∀ (s : Shared) (H : Hp) (C : Addr) (cl : List (Str × Addr)) (fp : List Addr), Dx .cl (blkOf X scope s H C cl fp) WF mT elt fe) (hio : (m[i]? == some .io) = false := by rfl) (hp : J.px.contains i = false := by rfl) (hsf : ∀ x, foldedSetIterable iter X.env x = pure x := by intro _; rfl) :
    Ds X W J m (m.set i .ow) (.Assign [.Name y py] (.ListComp elt [⟨tg, iter, ifs, 0⟩] scope pos) spos) (stF i (lcF (own0.map (·.2)) fi F fc fe)) := by
  refine ⟨fun g own pins s σ ρ H ps I r hx n w => ?_⟩
  have hiσ : i < σ.length := by rw [I.len]; exact (List.getElem?_eq_some_iff.mp hi0).1
  refine (ps_setLc (te := bE X scope elt) (g := bG X scope tg) (tt := bTs X scope ifs) hc hN hi0 hyl hsw (pi_c X tg iter) (blkOk_by ok) (fun s H0 C cl fp => ⟨fun pins s' σ H v u Q I rv h => h s H0 C cl fp pins s' u I rv⟩) (fun s H0 C cl fp => ⟨fun pins s' σ H Q I h => h s H0 C cl fp pins s' I⟩) (fun s H0 C cl fp => ⟨fun pins s' σ H Q I h => h s H0 C cl fp pins s' I⟩) hsf).run pins s σ H _ I ?_
  exact lc_t B he r (hi.can r (ne_of_bind (ne_of_bind n)) (WOk.left (WS.ex w r))) (ne_of_bind n) fun v H' q => store_fr r hx hp hio hiσ q
theorem ds_lcK {Gk : List (Key × D) → List D} (hc : X.calm = true) (hN : X.N.Nodup) (hi0 : X.N[i]? = some y) (hyl : X.env.scope.names.lookup y = some .local) (hsw : swapsWith (.ListComp elt [⟨tg, iter, ifs, 0⟩] scope pos) (some (.Name y py)) spos.line X.env = pure true) (ok : blkC X.N X.env.scope scope own0 = true) (hk : KWk X tg e iter Gk) (hpl : PlD X m e f) (B : Blk X scope m (own0.map (·.2)) tg ifs Jc mT is F fc)
    (he : ∀ (s : Shared) (H : Hp) (C : Addr) (cl : List (Str × Addr)) (fp : List Addr), Dx .cl (blkOf X scope s H C cl fp) WF mT elt fe) (hio : (m[i]? == some .io) = false := by rfl) (hp : J.px.contains i = false := by rfl) (hsf : ∀ x, foldedSetIterable iter X.env x = pure x := by intro _; rfl) :
    Ds X W J m (m.set i .ow) (.Assign [.Name y py] (.ListComp elt [⟨tg, iter, ifs, 0⟩] scope pos) spos) (stF i (lcF (own0.map (·.2)) (kwF Gk f) F fc fe)) := by
  refine ⟨fun g own pins s σ ρ H ps I r hx n w => ?_⟩
  have hiσ : i < σ.length := by rw [I.len]; exact (List.getElem?_eq_some_iff.mp hi0).1
  have PS0 := ps_setLc (te := bE X scope elt) (g := bG X scope tg) (tt := bTs X scope ifs) hc hN hi0 hyl hsw (pi_c X tg iter) (blkOk_by ok) (fun s H0 C cl fp => ⟨fun pins s' σ H v u Q I rv h => h s H0 C cl fp pins s' u I rv⟩) (fun s H0 C cl fp => ⟨fun pins s' σ H Q I h => h s H0 C cl fp pins s' I⟩) (fun s H0 C cl fp => ⟨fun pins s' σ H Q I h => h s H0 C cl fp pins s' I⟩) hsf
  obtain ⟨kvs, q, vs, e1, hr, np, no, t1, hE⟩ := hpl.run r (kwF_ne (ne_of_bind (ne_of_bind n)))
  have e2 : kwF Gk f ρ ps = .ok (Gk kvs) ps := bind_ok e1
  rcases hr with hr | ⟨od, hr⟩
  · refine (ps_lock PS0).run pins s σ H _ I ⟨q, .dK vs, hr, True.intro, fun od => ?_⟩
    have r1 := r.lock (od := od) (u := .dK vs) True.intro hr np no
    refine lc_t (fi := kwF Gk f) B he r1 (by rw [e2]; exact hk.run (g := g.lk q (.frz od (.dK vs))) r1 upd_same np no (t1.monoM (ExM.lock (u := .dK vs) True.intro hr)) (hE _ od (fun a ha => upd_ne ha) upd_same)) (ne_of_bind n) fun v H' z => ?_
    obtain ⟨z1, z2⟩ := QV.unlockF (u := .dK vs) True.intro hr np z
    exact ⟨z1, store_fr r hx hp hio hiσ z2⟩
  · exact PS0.run pins s σ H _ I (lc_t (fi := kwF Gk f) B he r (by rw [e2]; exact hk.run r hr np no t1 (hE H od (fun _ _ => rfl) hr)) (ne_of_bind n) fun v H' z => store_fr r hx hp hio hiσ z)
/-- name = {k: v for ..} on one line, the name a plain local -/
theorem ps_setDc {wi : TI} {g : TG} {tt : TT} {tk tv : TE} (hc : X.calm = true) (hN : X.N.Nodup) (hy : X.N[i]? = some y) (hyl : X.env.scope.names.lookup y = some .local) (hsw : swapsWith (.DictComp kx vx [⟨tg, iter, ifs, 0⟩] scope pos) (some (.Name y py)) spos.line X.env = pure true) (hi : PI X tg iter wi) (ok : BlkOk X.N X.env.scope scope own0)
    (hg : ∀ s H C cl fp, PG (blkOf X scope s H C cl fp) tg g) (ht : ∀ s H C cl fp, PTs (blkOf X scope s H C cl fp) ifs tt) (hk : ∀ s H C cl fp, PE (blkOf X scope s H C cl fp) kx tk) (he : ∀ s H C cl fp, PE (blkOf X scope s H C cl fp) vx tv) (hs : ∀ x, foldedSetIterable iter X.env x = pure x) :
    PS X (.Assign [.Name y py] (.DictComp kx vx [⟨tg, iter, ifs, 0⟩] scope pos) spos) (tAsg (tDc wi g tt tk tv (own0.map (·.2))) (gName i)) := by
  refine ⟨fun pins s σ H D0 I h => ?_⟩
  rw [exec_Assign_Name_used _ _ _ _ hsw]
  refine wpAny_bind (wpAny_standAt (wpAny_bind ?_))
  have h : tDc wi g tt tk tv (own0.map (·.2)) σ H (fun x H1 => gName i x σ H1 D0.nx) := h
  refine wpAny_bind (thn (dc_core (Qf := fun _ s' => SP X pins D0 .next s') hc hN I hi ok hg ht hk he hs h fun L C s' m' H' I' q hn f => ?_) fun _ s' hq => wpAny_pure (wpAny_pure hq))
  show wpAny _ _ (assign (.Name y py) X.env (.ref L)) _ _ _
  refine wpAny_assign_Name (store_ok2 (v := V.ref L) I' hN hy (.inl hyl) rfl (fun s2 I2 ⟨a, sb, ha⟩ => ?_) (.inr hyl))
  obtain ⟨f0, f1, f2, f3, f4, f5⟩ := f
  have haC : C ≠ a := by
    rcases ha with z | z
    · rw [z]; exact f1
    · exact fun e => f4 y a z e.symm
  exact ⟨m', hn.sameBut sb haC, fun h3 sb3 => ⟨_, H', I2.turned (t' := s2.toks) (fun b o hb e => (sb3.2 b hb).trans e) f0 f1 f3 f4 f5, q⟩⟩
theorem ds_dc (hc : X.calm = true) (hN : X.N.Nodup) (hi0 : X.N[i]? = some y) (hyl : X.env.scope.names.lookup y = some .local) (hsw : swapsWith (.DictComp kx vx [⟨tg, iter, ifs, 0⟩] scope pos) (some (.Name y py)) spos.line X.env = pure true) (ok : blkC X.N X.env.scope scope own0 = true) (hi : DI X W m tg iter fi) (B : Blk X scope m (own0.map (·.2)) tg ifs Jc mT is F fc)
    (hk0 : ∀ (s : Shared) (H : Hp) (C : Addr) (cl : List (Str × Addr)) (fp : List Addr), Dx .bo (blkOf X scope s H C cl fp) WF mT kx fk) (he : ∀ (s : Shared) (H : Hp) (C : Addr) (cl : List (Str × Addr)) (fp : List Addr), Dx .cl (blkOf X scope s H C cl fp) WF mT vx fv) (hio : (m[i]? == some .io) = false := by rfl) (hp : J.px.contains i = false := by rfl) (hsf : ∀ x, foldedSetIterable iter X.env x = pure x := by intro _; rfl) :
    Ds X W J m (m.set i .ow) (.Assign [.Name y py] (.DictComp kx vx [⟨tg, iter, ifs, 0⟩] scope pos) spos) (stF i (dcF (own0.map (·.2)) fi F fc fk fv)) := by
  refine ⟨fun g own pins s σ ρ H ps I r hx n w => ?_⟩
  have hiσ : i < σ.length := by rw [I.len]; exact (List.getElem?_eq_some_iff.mp hi0).1
  refine (ps_setDc (tk := bE X scope kx) (tv := bE X scope vx) (g := bG X scope tg) (tt := bTs X scope ifs) hc hN hi0 hyl hsw (pi_c X tg iter) (blkOk_by ok) (fun s H0 C cl fp => ⟨fun pins s' σ H v u Q I rv h => h s H0 C cl fp pins s' u I rv⟩) (fun s H0 C cl fp => ⟨fun pins s' σ H Q I h => h s H0 C cl fp pins s' I⟩) (fun s H0 C cl fp => ⟨fun pins s' σ H Q I h => h s H0 C cl fp pins s' I⟩) (fun s H0 C cl fp => ⟨fun pins s' σ H Q I h => h s H0 C cl fp pins s' I⟩) hsf).run pins s σ H _ I ?_
  exact dc_t B hk0 he r (hi.can r (ne_of_bind (ne_of_bind n)) (WOk.left (WS.ex w r))) (ne_of_bind n) fun v H' q => store_fr r hx hp hio hiσ q
theorem ds_dcK {Gk : List (Key × D) → List D} (hc : X.calm = true) (hN : X.N.Nodup) (hi0 : X.N[i]? = some y) (hyl : X.env.scope.names.lookup y = some .local) (hsw : swapsWith (.DictComp kx vx [⟨tg, iter, ifs, 0⟩] scope pos) (some (.Name y py)) spos.line X.env = pure true) (ok : blkC X.N X.env.scope scope own0 = true) (hk : KWk X tg e iter Gk) (hpl : PlD X m e f) (B : Blk X scope m (own0.map (·.2)) tg ifs Jc mT is F fc)
    (hk0 : ∀ (s : Shared) (H : Hp) (C : Addr) (cl : List (Str × Addr)) (fp : List Addr), Dx .bo (blkOf X scope s H C cl fp) WF mT kx fk) (he : ∀ (s : Shared) (H : Hp) (C : Addr) (cl : List (Str × Addr)) (fp : List Addr), Dx .cl (blkOf X scope s H C cl fp) WF mT vx fv) (hio : (m[i]? == some .io) = false := by rfl) (hp : J.px.contains i = false := by rfl) (hsf : ∀ x, foldedSetIterable iter X.env x = pure x := by intro _; rfl) :
    Ds X W J m (m.set i .ow) (.Assign [.Name y py] (.DictComp kx vx [⟨tg, iter, ifs, 0⟩] scope pos) spos) (stF i (dcF (own0.map (·.2)) (kwF Gk f) F fc fk fv)) := by
  refine ⟨fun g own pins s σ ρ H ps I r hx n w => ?_⟩
  have hiσ : i < σ.length := by rw [I.len]; exact (List.getElem?_eq_some_iff.mp hi0).1
  have PS0 := ps_setDc (tk := bE X scope kx) (tv := bE X scope vx) (g := bG X scope tg) (tt := bTs X scope ifs) hc hN hi0 hyl hsw (pi_c X tg iter) (blkOk_by ok) (fun s H0 C cl fp => ⟨fun pins s' σ H v u Q I rv h => h s H0 C cl fp pins s' u I rv⟩) (fun s H0 C cl fp => ⟨fun pins s' σ H Q I h => h s H0 C cl fp pins s' I⟩) (fun s H0 C cl fp => ⟨fun pins s' σ H Q I h => h s H0 C cl fp pins s' I⟩) (fun s H0 C cl fp => ⟨fun pins s' σ H Q I h => h s H0 C cl fp pins s' I⟩) hsf
  obtain ⟨kvs, q, vs, e1, hr, np, no, t1, hE⟩ := hpl.run r (kwF_ne (ne_of_bind (ne_of_bind n)))
  have e2 : kwF Gk f ρ ps = .ok (Gk kvs) ps := bind_ok e1
  rcases hr with hr | ⟨od, hr⟩
  · refine (ps_lock PS0).run pins s σ H _ I ⟨q, .dK vs, hr, True.intro, fun od => ?_⟩
    have r1 := r.lock (od := od) (u := .dK vs) True.intro hr np no
    refine dc_t (fi := kwF Gk f) B hk0 he r1 (by rw [e2]; exact hk.run (g := g.lk q (.frz od (.dK vs))) r1 upd_same np no (t1.monoM (ExM.lock (u := .dK vs) True.intro hr)) (hE _ od (fun a ha => upd_ne ha) upd_same)) (ne_of_bind n) fun v H' z => ?_
    obtain ⟨z1, z2⟩ := QV.unlockF (u := .dK vs) True.intro hr np z
    exact ⟨z1, store_fr r hx hp hio hiσ z2⟩
  · exact PS0.run pins s σ H _ I (dc_t (fi := kwF Gk f) B hk0 he r (by rw [e2]; exact hk.run r hr np no t1 (hE H od (fun _ _ => rfl) hr)) (ne_of_bind n) fun v H' z => store_fr r hx hp hio hiσ z)
end
end DL
set_option Elab.async false
set_option linter.all false
set_option maxRecDepth 100000
set_option maxHeartbeats 2000000
/-! D34: defs that return a new object; ranges, enumerate, texts, borrowed lists that are walked. -/
namespace DL
open PySem PySem.Spec PyProof.Rows L2
def finF : Fl → R D
  | .rt d _ => pure d
  | _ => R.und
def runF (n : Nat) (G : SF) (ds : List D) : R D := do let fl ← G (padR n ds); finF fl
section
variable {P : Program} {w : World} {K : PySem.W.Frag} {mg : Str → Option Value} {base : Heap}
theorem fnF_mk {x qual : Str} {st : Stmt} {f : Addr} {fd : FuncData} {N nms : List Str} {k : Nat} {ms mE : List Md} {G0 : SF} (Fn : Fun K x qual st f fd) (S : FnScope N nms (defScope st)) (hms : ms.length = nms.length) (hN : nms.length ≤ N.length)
    (body : ∀ (cdv : Value) (A : Around) (outer : List Env) (s : Shared) (H : Hp) (E : XK), Room k (A.deeper (envOfC qual (defScope st) s.heap.objs.size f cdv)) → Takes (cxOf (L2.CX P w) P w K mg base N qual (defScope st) f cdv A outer s H E) (fun cls d _ H => E cls d H) →
      Dss (cxOf (L2.CX P w) P w K mg base N qual (defScope st) f cdv A outer s H E) (fun cls d _ H => E cls d H) { mb := [], mr := mrOf N.length, fr := true } (padM N.length ms) mE (defBody st) G0) : FnOk P w K mg base (L2.CX P w) (k + 1) f fd nms (spD K .fr ms (runF N.length G0)) := by
  refine Fn.okX S (fun vs H Q E h => ?_) (fun cdv A outer s H vs Q E hr h => ?_)
  · obtain ⟨pl, O, ds, ps, ha, _⟩ := h
    rw [ha.len.1, hms]
  · obtain ⟨pl, O, ds, ps, ha, hO, hT, hp, hn, hQ, hE⟩ := h
    have hl := ha.len
    let g : G := { pl := pl, E := O, B := H }
    have tk : Takes (cxOf (L2.CX P w) P w K mg base N qual (defScope st) f cdv A outer s H E) (fun cls d _ H => E cls d H) := takes_of rfl rfl rfl rfl
    have noOw : ∀ (i : Nat), ¬ ((padM N.length ms)[i]? = some .ow ∨ (padM N.length ms)[i]? = some .io) := fun i z => by
      rcases z with z | z
      · rcases ha.kinds i _ (pad_at z (by decide)) with e | e <;> cases e
      · rcases ha.kinds i _ (pad_at z (by decide)) with e | e <;> cases e
    have sub : ∀ own a, Xs (padM N.length ms) own g a → O a := fun own a z => by
      rcases z with z | z | ⟨i, z, _⟩
      · exact z
      · exact hO a z
      · exact (noOw i z).elim
    have r0 : Rs K g (padM N.length ms) (fun _ => 0) (L2.start N vs) (padR N.length ds) H ps := {
      len := by
        unfold padR L2.start
        rw [List.length_append, List.length_append, List.length_map, List.length_map, List.length_replicate, List.length_replicate, hl.1, hl.2]
      sh := fun i d h1 h2 => by
        obtain ⟨v, h3, h4⟩ := ha.at_ i d (pad_some h2)
        have h1 := pad_at h1 (by decide)
        rcases h4 with ⟨_, h4⟩ | ⟨h5, _⟩
        · exact ⟨v, at_pad h3, h4.mono (hid_sub (sub _))⟩
        · rw [h1] at h5; cases h5
      ow := fun i q => (noOw i q).elim
      sb := fun i d h1 h2 => by
        obtain ⟨v, h3, h4⟩ := ha.at_ i d (pad_some h2)
        have h1 := pad_at h1 (by decide)
        rcases h4 with ⟨h5, _⟩ | ⟨_, h4⟩
        · rw [h1] at h5; cases h5
        · refine ⟨v, at_pad h3, ?_⟩
          rcases h4 with h4 | ⟨a, ea, np, t⟩
          · exact .inl (h4.mono (hid_sub (sub _)))
          · exact .inr ⟨a, ea, np, fun j q => (noOw j q).elim, t.mono (hid_sub (sub _))⟩
      xc := fun i b dx z => by rcases ha.kinds i _ (pad_at z (fun y => nomatch y)) with e | e <;> cases e
      ex := fun p hp => by cases hp
      sx := fun p hp => by cases hp
      inj := fun i j q _ _ => (noOw i q).elim
      nE := fun i q => (noOw i (.inl q)).elim
      base := Exo.refl
      pool := hp
      eT := hT }
    refine ⟨_, pss_c _ _, fun pins s1 I1 => ?_⟩
    have e0 : ∀ {fl : Fl} {ps' : Ps}, G0 (padR N.length ds) ps = .ok fl ps' → runF N.length G0 ds ps = finF fl ps' := fun e => bind_ok e
    have n0 : G0 (padR N.length ds) ps ≠ .und := ne_of_bind hn
    have wsub : ∀ {mm : List Md} {own : Nat → Addr} {H' : Hp}, Ex (hid (Xs mm own g) H') (hid O H') := hid_sub fun a z => .inl z
    refine thn ((body cdv A outer s H E hr tk).run g (fun _ => 0) pins s1 _ _ H ps I1 r0 (fun p hp => by cases hp) n0 ?_) fun fl s2 q => spI' q ?_ ?_ ?_ ?_
    · intro y ps' dx H' σ' e1 e2 e3 ⟨ws, e4, e5⟩ _
      exact hE y ps' dx H' (bind_exc e1) e2 e3 ⟨ws, e4, e5.mono (hid_sub fun a z => .inl z)⟩
    · rintro σ' H' ⟨ρ', ps', own', a1, a2, a3⟩
      exact (hn ((e0 a1).trans rfl)).elim
    · rintro σ' H' ⟨ρ', ps', own', a1, a2, a3⟩
      exact (hn ((e0 a1).trans rfl)).elim
    · rintro σ' H' ⟨ρ', ps', own', a1, a2, a3⟩
      exact (hn ((e0 a1).trans rfl)).elim
    · rintro v H' ⟨d, ρ', ps', own', σ', a1, a2, a3, p, e1, e2, e3, e4⟩
      exact hQ _ _ ⟨d, ps', (e0 a1).trans rfl, a2.base, a2.pool, p, e1, e2, e4.mono (hid_sub fun a z => z.imp (fun z => .inl z) id)⟩
end
section
variable {X : Cx} {W : WX} {m ms : List Md} {tg iter a b : Expr} {f : FE} {fs : FA} {pos p tpos : Pos}
/-! ### walks -/
theorem its_go {JJ : It} {its : List Item} (hg : ∀ i H, i < its.length → JJ.go i H) (hs : ∀ H, JJ.stop its.length H) (hy : ∀ i x H H' it, its[i]? = some it → JJ.yld i H x H' → it.Y H x H') : WalkOk JJ [] its :=
  ⟨fun i H h _ => hg i H h, fun H _ => hs H, fun i x H H' it h _ y => hy i x H H' it h y, fun p hp => by simp at hp⟩
/-- lo, .., lo + n - 1 -/
def rngD (lo : Int) (n : Nat) : List D := (List.range n).map fun (i : Nat) => .int (lo + (i : Int))
theorem walk_rng (lo : Int) (n : Nat) : WalkOk (Itr lo n) [] ((List.range n).map fun (i : Nat) => Item.one (.int (lo + (i : Int))) (.int (lo + (i : Int)))) := by
  have hl : ((List.range n).map fun (i : Nat) => Item.one (.int (lo + (i : Int))) (.int (lo + (i : Int)))).length = n := by simp
  refine its_go (fun i H h => by rw [hl] at h; exact h) (fun H => by rw [hl]; exact Nat.le_refl _) fun i x H H' it h ⟨e, y⟩ => ?_
  subst e
  rw [List.getElem?_map] at h
  cases q : (List.range n)[i]? with
  | none => rw [q] at h; cases h
  | some j =>
    rw [q] at h
    cases h
    have : j = i := by
      obtain ⟨h1, h2⟩ := List.getElem?_eq_some_iff.mp q
      rw [List.getElem_range] at h2
      exact h2.symm
    subst this
    exact ⟨y, rfl⟩
theorem rng_d (lo : Int) (n : Nat) : ((List.range n).map fun (i : Nat) => Item.one (.int (lo + (i : Int))) (.int (lo + (i : Int)))).map Item.d = rngD lo n := by
  rw [List.map_map]; rfl
theorem qi_rng {g : G} {own : Nat → Addr} {H H1 : Hp} {ps1 : Ps} {r : Res (List D)} {lo : Int} {n : Nat} (e : r = .ok (rngD lo n) ps1) (x1 : Exo (plS g.pl) H H1) (p1 : PoolAt g.pl H1 ps1) : QI m own g.pl X.K (Xs m own g) H r (Itr lo n) H1 := by
  refine ⟨_, ps1, [], by rw [rng_d]; exact e, x1, p1, walk_rng lo n, fun p hp => by simp at hp, fun it hit => ?_⟩
  obtain ⟨i, _, rfl⟩ := List.mem_map.mp hit
  show Rep _ _ _ _ _
  exact rep_int
def rgC (j : Int) : Bool := decide (-1000000000 ≤ j) && decide (j ≤ 1000000000)
def rg1 : List D → R (List D)
  | [.int j] => if rgC j = true then pure (rngD 0 j.toNat) else R.und
  | _ => R.und
def rg2 : List D → R (List D)
  | [.int i, .int j] => if (rgC i && rgC j) = true then pure (rngD i (j - i).toNat) else R.und
  | _ => R.und
def wkF (G : List D → R (List D)) (fs : FA) : FA := fun ρ => do let ds ← fs ρ; G ds
theorem ifR_und {α : Type} {c : Bool} {x : R α} {ps : Ps} (n : (if c = true then x else R.und) ps ≠ .und) : c = true ∧ (if c = true then x else R.und) ps = x ps := by
  cases c with
  | true => exact ⟨rfl, rfl⟩
  | false => exact (n rfl).elim
theorem di_range1 (ha : Ax X W m [.sb] [a] fs) (hm : X.mg "range" = none) (hg : Gl X "range" := by rfl) (hs : starEach [a] X.env = [(false, eval a X.env)] := by rfl) : DI X W m tg (.Call (.Name "range" p) [a] [] pos) (wkF rg1 fs) := by
  refine ⟨fun g own pins s σ ρ H ps I r n w => ?_⟩
  refine (pi_range1 (tg := tg) hg hm (pa_c X [a]) hs).run pins s σ H _ I (cA.mono (ha.can r (ne_of_bind n) (WOk.left w)) fun vs H1 ⟨ds, ps1, e1, x1, p1, q1⟩ => ?_)
  have e2 : wkF rg1 fs ρ ps = rg1 ds ps1 := bind_ok e1
  rw [e2] at n ⊢
  obtain ⟨d, v, rfl, rfl, q2⟩ := args1 q1
  cases d with
  | int j =>
    obtain ⟨hc, he⟩ := ifR_und (show (if rgC j = true then (pure (rngD 0 j.toNat) : R (List D)) else R.und) ps1 ≠ .und from n)
    have q2 := q2.flat rfl
    unfold Rep at q2
    subst q2
    unfold rgC at hc
    rw [Bool.and_eq_true] at hc
    have h1 := of_decide_eq_true hc.1
    have h2 := of_decide_eq_true hc.2
    exact ⟨j, rfl, by omega, by omega, qi_rng he x1 p1⟩
  | _ => exact (n rfl).elim
theorem di_range2 (ha : Ax X W m [.sb, .sb] [a, b] fs) (hm : X.mg "range" = none) (hg : Gl X "range" := by rfl) (hs : starEach [a, b] X.env = [(false, eval a X.env), (false, eval b X.env)] := by rfl) (hs2 : starEach [b] X.env = [(false, eval b X.env)] := by rfl) : DI X W m tg (.Call (.Name "range" p) [a, b] [] pos) (wkF rg2 fs) := by
  refine ⟨fun g own pins s σ ρ H ps I r n w => ?_⟩
  refine (pi_range2 (tg := tg) hg hm (pa_c X [a, b]) hs hs2).run pins s σ H _ I (cA.mono (ha.can r (ne_of_bind n) (WOk.left w)) fun vs H1 ⟨ds, ps1, e1, x1, p1, q1⟩ => ?_)
  have e2 : wkF rg2 fs ρ ps = rg2 ds ps1 := bind_ok e1
  rw [e2] at n ⊢
  obtain ⟨d, d', v, v', rfl, rfl, q2, q3⟩ := args2 q1
  cases d with
  | int i =>
    cases d' with
    | int j =>
      obtain ⟨hc, he⟩ := ifR_und (show (if (rgC i && rgC j) = true then (pure (rngD i (j - i).toNat) : R (List D)) else R.und) ps1 ≠ .und from n)
      have q2 := q2.flat rfl
      have q3 := q3.flat rfl
      unfold Rep at q2 q3
      subst q2 q3
      unfold rgC at hc
      rw [Bool.and_eq_true, Bool.and_eq_true, Bool.and_eq_true] at hc
      have h1 := of_decide_eq_true hc.1.1
      have h2 := of_decide_eq_true hc.1.2
      have h3 := of_decide_eq_true hc.2.1
      have h4 := of_decide_eq_true hc.2.2
      exact ⟨i, j, rfl, ⟨by omega, by omega, by omega, by omega⟩, qi_rng he x1 p1⟩
    | _ => exact (n rfl).elim
  | _ => exact (n rfl).elim
/-- the characters -/
def chars (x : Str) : List D := x.cps.toList.map fun c => .str ⟨#[c]⟩
def chrD : D → R (List D)
  | .str x => pure (chars x)
  | _ => R.und
def itsF (f : FE) : FA := fun ρ => do let d ← f ρ; chrD d
theorem di_str (h : Dx .bo X W m iter f) : DI X W m tg iter (itsF f) := by
  refine ⟨fun g own pins s σ ρ H ps I r n w => ?_⟩
  refine (L2.pi_str (tg := tg) (pe_c X iter)).run pins s σ H _ I (cE.mono (h.c r (ne_of_bind n) (WOk.left w)) fun v H1 ⟨d, ps1, e1, x1, p1, q1⟩ => ?_)
  have e2 : itsF f ρ ps = chrD d ps1 := bind_ok e1
  rw [e2] at n ⊢
  cases d with
  | str x =>
    have q1 := q1.flat rfl
    unfold Rep at q1
    have hl : (x.cps.toList.map fun c => Item.one (.str ⟨#[c]⟩) (.str ⟨#[c]⟩)).length = x.cps.size := by simp
    refine ⟨x, q1, x.cps.toList.map fun c => Item.one (.str ⟨#[c]⟩) (.str ⟨#[c]⟩), ps1, [], ?_, x1, p1, its_go (fun i H h => by rw [hl] at h; exact h) (fun H => by rw [hl]; exact Nat.le_refl _) (fun i u H H' it h ⟨e, c, hc, y⟩ => ?_), fun p hp => by simp at hp, fun it hit => ?_⟩
    · show (pure (chars x) : R (List D)) ps1 = _
      rw [List.map_map]; rfl
    · rw [List.getElem?_map, Array.getElem?_toList, hc] at h
      cases h
      exact ⟨y, e⟩
    · obtain ⟨c, _, rfl⟩ := List.mem_map.mp hit
      show Rep _ _ _ _ _
      exact rep_str
  | _ => exact (n rfl).elim
/-- enumerate(xs) -/
def enuG : Nat → List D → List D
  | _, [] => []
  | i, d :: r => .tup [.int (i : Int), d] :: enuG (i + 1) r
def enuI : Nat → List D → List V → List Item
  | i, d :: r, v :: t => .tup [.int (i : Int), d] [.int (i : Int), v] :: enuI (i + 1) r t
  | _, _, _ => []
theorem enuI_d : ∀ {i : Nat} {ds : List D} {vs : List V}, vs.length = ds.length → (enuI i ds vs).map Item.d = enuG i ds
  | _, [], [], _ => rfl
  | i, d :: r, v :: t, h => by
    unfold enuI enuG
    rw [List.map_cons, enuI_d (by simpa using h)]; rfl
  | _, [], _ :: _, h => by simp at h
  | _, _ :: _, [], h => by simp at h
theorem enuI_at : ∀ {i j : Nat} {ds : List D} {vs : List V} {it : Item}, (enuI i ds vs)[j]? = some it → ∃ d v, it = .tup [.int ((i + j : Nat) : Int), d] [.int ((i + j : Nat) : Int), v] ∧ ds[j]? = some d ∧ vs[j]? = some v
  | i, 0, d :: r, v :: t, it, h => by
    unfold enuI at h
    simp at h
    exact ⟨d, v, by rw [← h]; rfl, rfl, rfl⟩
  | i, j + 1, d :: r, v :: t, it, h => by
    unfold enuI at h
    obtain ⟨d', v', e, h1, h2⟩ := enuI_at (i := i + 1) (j := j) (by simpa using h)
    exact ⟨d', v', by rw [e, show i + 1 + j = i + (j + 1) from by omega], by simpa using h1, by simpa using h2⟩
  | _, _, [], _, it, h => by unfold enuI at h; simp at h
  | _, _, _ :: _, [], it, h => by unfold enuI at h; simp at h
theorem enuI_len : ∀ {i : Nat} {ds : List D} {vs : List V}, vs.length = ds.length → (enuI i ds vs).length = vs.length
  | i, ds, vs, h => by
    have := congrArg List.length (enuI_d (i := i) h)
    rw [List.length_map] at this
    rw [this, h]
    clear this h
    induction ds generalizing i with
    | nil => rfl
    | cons d r ih => unfold enuG; rw [List.length_cons, List.length_cons, ih]
def enu : List D → R (List D)
  | [.lst ds] => pure (enuG 0 ds)
  | _ => R.und
theorem di_enum {elts : List Expr} {kk : Nat} (ha : Ax X W m [.sh] [a] fs) (hm : X.mg "enumerate" = none) (hg : Gl X "enumerate" := by rfl) (hs : starEach [a] X.env = [(false, eval a X.env)] := by rfl) : DI X W m (.Tuple elts kk tpos) (.Call (.Name "enumerate" p) [a] [] pos) (wkF enu fs) := by
  refine ⟨fun g own pins s σ ρ H ps I r n w => ?_⟩
  refine (pi_enum hg hm (pa_c X [a]) hs).run pins s σ H _ I (cA.mono (ha.can r (ne_of_bind n) (WOk.left w)) fun vs H1 ⟨ds, ps1, e1, x1, p1, q1⟩ => ?_)
  have e2 : wkF enu fs ρ ps = enu ds ps1 := bind_ok e1
  rw [e2] at n ⊢
  cases ds with
  | nil => exact q1.elim
  | cons d ds =>
    obtain ⟨v, r', rfl, h2, h3⟩ := q1
    cases ds with
    | cons _ _ => exact h3.elim
    | nil =>
      have h3 : r' = [] := h3
      subst h3
      cases d with
      | lst ds =>
        unfold Rep at h2
        obtain ⟨q, us, rfl, h1, t1⟩ := h2
        obtain ⟨nx, h1⟩ := hid_of h1
        have hl := t1.length
        refine ⟨q, us, rfl, .inl (.of h1), enuI 0 ds us, ps1, [(q, .lst us)], ?_, x1, p1, ⟨fun i H2 hi hk => ?_, fun H2 hk => ?_, fun i x H2 H3 it hit hk hy => ?_, fun p hp φ z => ?_⟩, fun p hp => ?_, fun it hit => ?_⟩
        · rw [enuI_d hl]; rfl
        · have hk := hk _ (List.mem_cons_self ..)
          rw [enuI_len hl] at hi
          exact ⟨us, us[i], .inl (.of hk), List.getElem?_eq_getElem hi⟩
        · have hk := hk _ (List.mem_cons_self ..)
          exact ⟨us, .inl (.of hk), by rw [enuI_len hl]; exact Nat.le_refl _⟩
        · have hk := hk _ (List.mem_cons_self ..)
          obtain ⟨d, v, rfl, g1, g2⟩ := enuI_at hit
          obtain ⟨T, x', e, hT, e3, hx⟩ := hy
          have := hx us (.inl (.of hk))
          rw [g2] at this
          cases this
          rw [Nat.zero_add]
          exact ⟨T, e, hT, e3⟩
        · have e : p = (q, .lst us) := by simpa using hp
          subst e; cases z
        · have e : p = (q, .lst us) := by simpa using hp
          subst e
          exact ⟨h1, fun z => nx (Xs.pl _ z), fun z => nx (.inr (.inr z))⟩
        · obtain ⟨i, hi⟩ := List.mem_iff_getElem?.mp hit
          obtain ⟨d, v, rfl, g1, g2⟩ := enuI_at hi
          obtain ⟨d', g3, g4⟩ := t1.getV g2
          rw [g1] at g3
          cases g3
          exact Reps.cons rep_int (Reps.cons g4 Reps.nil)
      | _ => exact (n rfl).elim
/-- a list that is only lent -/
def D.itemsL : D → R (List D)
  | .lst ds => pure ds
  | _ => R.und
def itlF (f : FE) : FA := fun ρ => do let d ← f ρ; D.itemsL d
theorem di_sb {i : Nat} {x : Str} (hN : X.N[i]? = some x) (hv : Vis X.env.scope x) (hm : m[i]? = some .sb) (hd : (x == ("__debug__" : Str)) = false := by decide) (hcd : (x == ("__classdict__" : Str)) = false := by decide) : DI X W m tg (.Name x pos) (itlF (vF i)) := by
  refine ⟨fun g own pins s σ ρ H ps I r n w => ?_⟩
  obtain ⟨d, h1, h2⟩ := ofO_ne (show vF i ρ ps ≠ .und from ne_of_bind n)
  have e2 : itlF (vF i) ρ ps = D.itemsL d ps := bind_ok h2
  obtain ⟨v, h3, h4⟩ := r.sb i d hm (join_some h1)
  cases d with
  | lst ds =>
    have key : ∃ a vs, v = .ref a ∧ H a = some (.lst vs) ∧ Reps g.pl X.K (hid (Xs m own g) H) ds vs ∧ ¬ plS g.pl a ∧ ¬ UOw m own a := by
      rcases h4 with h4 | ⟨a, rfl, np, no, t⟩
      · unfold Rep at h4
        obtain ⟨a, vs, rfl, g1, t1⟩ := h4
        obtain ⟨nx, g1⟩ := hid_of g1
        exact ⟨a, vs, rfl, g1, t1, fun z => nx (Xs.pl _ z), fun z => nx (.inr (.inr z))⟩
      · obtain ⟨vs, g1, t1⟩ := t.r (fun _ z => nomatch z) (fun _ z => nomatch z)
        exact ⟨a, vs, rfl, g1, t1, np, fun ⟨j, z, e⟩ => no j z e⟩
    obtain ⟨a, vs, rfl, g1, t1, np, no⟩ := key
    refine (pi_list (tg := tg) (pe_var hN hv hd hcd)).run pins s σ H _ I ⟨_, h3, a, rfl, ⟨vs, .of g1⟩, ?_⟩
    refine ⟨(ds.zip vs).map fun p => Item.one p.1 p.2, ps, [(a, .lst vs)], ?_, Exo.refl, r.pool, ⟨fun j H2 hi hk => ?_, fun H2 hk => ?_, fun j x H2 H3 it hit hk hy => ?_, fun p hp φ z => ?_⟩, fun p hp => ?_, fun it hit => ?_⟩
    · rw [ones_d t1.length, e2]; rfl
    · have hk := hk _ (List.mem_cons_self ..)
      rw [List.length_map, List.length_zip, t1.length, Nat.min_self] at hi
      exact ⟨vs, vs[j]'(by rw [t1.length]; exact hi), .of hk, List.getElem?_eq_getElem _⟩
    · have hk := hk _ (List.mem_cons_self ..)
      exact ⟨vs, .of hk, by rw [List.length_map, List.length_zip, t1.length, Nat.min_self]; exact Nat.le_refl _⟩
    · have hk := hk _ (List.mem_cons_self ..)
      obtain ⟨d, v, rfl, k1, k2⟩ := zip_at hit
      obtain ⟨rfl, hy⟩ := hy
      have := hy vs (.of hk)
      rw [k2] at this
      exact ⟨(Option.some.inj this).symm, rfl⟩
    · have e : p = (a, .lst vs) := by simpa using hp
      subst e; cases z
    · have e : p = (a, .lst vs) := by simpa using hp
      subst e
      exact ⟨g1, np, no⟩
    · obtain ⟨p, hp, rfl⟩ := List.mem_map.mp hit
      exact zip_reps t1 p hp
  | _ => rw [e2] at n; exact (n rfl).elim
end
end DL
set_option Elab.async false
set_option linter.all false
set_option maxRecDepth 100000
set_option maxHeartbeats 2000000
/-! D35: a, b = x, y. -/
namespace DL
open PySem PySem.Spec PyProof.Rows L2
/-- several objects hidden -/
def G.hds (g : G) (fr : List Addr) : G := { g with E := fun a => g.E a ∨ a ∈ fr }
section
variable {K : PySem.W.Frag} {g : G} {m : List Md} {own : Nat → Addr} {σ : L2.St} {ρ : Rho} {H : Hp} {ps : Ps} {p : Addr} {fr : List Addr}
/-- the lent things, not among the new ones -/
def SbK (K : PySem.W.Frag) (g : G) (m : List Md) (own : Nat → Addr) (σ : L2.St) (ρ : Rho) (H : Hp) (fr : List Addr) : Prop := ∀ (j : Nat) (d : D), m[j]? = some .sb → ρ[j]? = some (some d) → ∃ v, σ[j]? = some (some v) ∧
  (Rep g.pl K (hid (Xs m own (g.hds fr)) H) d v ∨ ∃ a, v = .ref a ∧ ¬ plS g.pl a ∧ (∀ (j : Nat), (m[j]? = some .ow ∨ m[j]? = some .io) → own j ≠ a) ∧ a ∉ fr ∧ TopB g.pl K (hid (Xs m own (g.hds fr)) H) d (H a))
theorem xs_hds {a : Addr} : Xs m own (g.hds fr) a ↔ Xs m own g a ∨ a ∈ fr := by
  constructor
  · rintro ((h | h) | h | h)
    · exact .inl (.inl h)
    · exact .inr h
    · exact .inl (.inr (.inl h))
    · exact .inl (.inr (.inr h))
  · rintro ((h | h | h) | h)
    · exact .inl (.inl h)
    · exact .inr (.inl h)
    · exact .inr (.inr h)
    · exact .inl (.inr h)
theorem Rs.sbk {H' : Hp} (r : Rs K g m own σ ρ H ps) (hf : ∀ p ∈ fr, H p = none) (x : Exo (plS g.pl) H H') : SbK K g m own σ ρ H' fr := fun j d h1 h2 => by
  have ex : Ex (hid (Xs m own g) H) (hid (Xs m own (g.hds fr)) H') := fun a o q => by
    obtain ⟨n, q⟩ := hid_of q
    rw [hid_at fun z => (xs_hds.mp z).elim n fun z => by rw [hf a z] at q; cases q]
    exact x a o q fun z => n (Xs.pl a z)
  obtain ⟨v, h3, h4⟩ := r.sb j d h1 h2
  refine ⟨v, h3, ?_⟩
  rcases h4 with h4 | ⟨a, ea, np, no, t⟩
  · exact .inl (h4.mono ex)
  · obtain ⟨u, hu⟩ := t.some
    refine .inr ⟨a, ea, np, no, fun z => (by rw [hf a z] at hu; cases hu), ?_⟩
    rw [x a u hu np, ← hu]; exact t.mono ex
/-- a hidden new object becomes a name's own -/
theorem Rs.adopt (r : Rs K (g.hds (p :: fr)) m own σ ρ H ps) {i : Nat} {d : D} (t : TopR g.pl K (hid (Xs m own (g.hds (p :: fr))) H) d (H p)) (hB : g.B p = none) (np : ¬ plS g.pl p) (hE : ¬ g.E p) (hf : p ∉ fr) (hi : i < σ.length) (hx : ∀ q ∈ g.sx, q.1 ≠ i) (hno : ¬ UOw m own p) (hsb : SbK K g m own σ ρ H (p :: fr)) :
    Rs K (g.hds fr) (m.set i .ow) (own2 own i p) (σ.set i (some (.ref p))) (ρ.set i (some d)) H ps ∧ SbK K g (m.set i .ow) (own2 own i p) (σ.set i (some (.ref p))) (ρ.set i (some d)) H fr := by
  have sub : ∀ a, Xs (m.set i .ow) (own2 own i p) (g.hds fr) a → Xs m own (g.hds (p :: fr)) a := fun a z => by
    rcases z with (z | z) | z | ⟨j, z, e⟩
    · exact .inl (.inl z)
    · exact .inl (.inr (List.mem_cons_of_mem _ z))
    · exact .inr (.inl z)
    · by_cases h : j = i
      · rw [own2_eq h] at e
        exact .inl (.inr (by rw [← e]; exact List.mem_cons_self ..))
      · rw [own2_ne h] at e
        rw [List.getElem?_set_ne (Ne.symm h)] at z
        exact .inr (.inr ⟨j, z, e⟩)
  have ex : Ex (hid (Xs m own (g.hds (p :: fr))) H) (hid (Xs (m.set i .ow) (own2 own i p) (g.hds fr)) H) := hid_sub sub
  have at_ : ∀ (j : Nat), ((m.set i .ow)[j]? = some .ow ∨ (m.set i .ow)[j]? = some .io) → j = i ∨ (j ≠ i ∧ (m[j]? = some .ow ∨ m[j]? = some .io)) := fun j q => by
    by_cases h : j = i
    · exact .inl h
    · rw [List.getElem?_set_ne (Ne.symm h)] at q
      exact .inr ⟨h, q⟩
  have hρ : i < ρ.length := by rw [r.len]; exact hi
  have hfar : ∀ j, (m[j]? = some .ow ∨ m[j]? = some .io) → own j ≠ p := fun j q z => hno ⟨j, q, z⟩
  have sbk : SbK K g (m.set i .ow) (own2 own i p) (σ.set i (some (.ref p))) (ρ.set i (some d)) H fr := fun j d' h1 h2 => by
      by_cases e : j = i
      · subst e
        rcases set_at h1 with ⟨_, z, _⟩ | ⟨z, _⟩
        · cases z
        · exact (z rfl).elim
      · rw [List.getElem?_set_ne (Ne.symm e)] at h1 h2 ⊢
        obtain ⟨w, h3, h4⟩ := hsb j d' h1 h2
        refine ⟨w, h3, ?_⟩
        rcases h4 with h4 | ⟨a, ea, npl, no, nf, tt⟩
        · exact .inl (h4.mono ex)
        · refine .inr ⟨a, ea, npl, fun k q => ?_, fun z => nf (List.mem_cons_of_mem _ z), tt.mono ex⟩
          rcases at_ k q with z | ⟨z, q⟩
          · rw [own2_eq z]; exact fun z => nf (by rw [← z]; exact List.mem_cons_self ..)
          · rw [own2_ne z]; exact no k q
  refine ⟨{
    len := by rw [List.length_set, List.length_set]; exact r.len
    sh := fun j d' h1 h2 => by
      by_cases e : j = i
      · subst e
        rcases set_at h1 with ⟨_, z, _⟩ | ⟨z, _⟩
        · cases z
        · exact (z rfl).elim
      · rw [List.getElem?_set_ne (Ne.symm e)] at h1 h2 ⊢
        obtain ⟨w, h3, h4⟩ := r.sh j d' h1 h2
        exact ⟨w, h3, h4.mono ex⟩
    ow := fun j q => by
      rcases at_ j q with e | ⟨e, q⟩
      · subst e
        refine ⟨d, List.getElem?_set_self hρ, ?_, ?_, ?_, ?_⟩
        · rw [List.getElem?_set_self hi, own2_eq rfl]
        · rw [own2_eq rfl]; exact t.mono ex
        · rw [own2_eq rfl]; exact hB
        · rw [own2_eq rfl]; exact np
      · obtain ⟨d', h1, h2, h3, h4, h5⟩ := r.ow j q
        refine ⟨d', by rw [List.getElem?_set_ne (Ne.symm e)]; exact h1, by rw [List.getElem?_set_ne (Ne.symm e), own2_ne e]; exact h2, by rw [own2_ne e]; exact h3.mono ex, by rw [own2_ne e]; exact h4, by rw [own2_ne e]; exact h5⟩
    sb := fun j d' h1 h2 => by
      obtain ⟨w, h3, h4⟩ := sbk j d' h1 h2
      exact ⟨w, h3, h4.imp id fun ⟨a, ea, npl, no, _, tt⟩ => ⟨a, ea, npl, no, tt⟩⟩
    xc := fun j b dx q => by
      rcases set_at q with ⟨_, z, _⟩ | ⟨ne, q⟩
      · cases z
      · obtain ⟨d', h1, h2, h3, h4⟩ := r.xc j b dx q
        exact ⟨d', by rw [List.getElem?_set_ne (Ne.symm ne)]; exact h1, by rw [List.getElem?_set_ne (Ne.symm ne)]; exact h2, h3.mono ex, h4⟩
    ex := fun q hq => (r.ex q hq).mono ex
    sx := fun q hq => by
      obtain ⟨w, h1, h2⟩ := r.sx q hq
      exact ⟨w, by rw [List.getElem?_set_ne (Ne.symm (hx q hq))]; exact h1, h2.mono ex⟩
    inj := fun j k h1 h2 e => by
      rcases at_ j h1 with z1 | ⟨z1, q1⟩ <;> rcases at_ k h2 with z2 | ⟨z2, q2⟩
      · rw [z1, z2]
      · rw [own2_eq z1, own2_ne z2] at e; exact (hfar k q2 e.symm).elim
      · rw [own2_ne z1, own2_eq z2] at e; exact (hfar j q1 e).elim
      · rw [own2_ne z1, own2_ne z2] at e; exact r.inj j k q1 q2 e
    nE := fun j q => by
      rcases at_ j (.inl q) with z | ⟨z, q'⟩
      · rw [own2_eq z]; exact fun z => z.elim hE hf
      · rw [own2_ne z]
        rw [List.getElem?_set_ne (Ne.symm z)] at q
        exact fun y => r.nE j q (y.imp id fun y => List.mem_cons_of_mem _ y)
    base := r.base
    pool := r.pool
    eT := fun a h => r.eT a (h.imp id fun h => List.mem_cons_of_mem _ h) }, sbk⟩
theorem Rs.storeS (r : Rs K (g.hds fr) m own σ ρ H ps) {i : Nat} {d : D} {v : V} (h : Rep g.pl K (hid (Xs m own (g.hds fr)) H) d v) (hx : ∀ q ∈ g.sx, q.1 ≠ i) (hi : i < σ.length) (hsb : SbK K g m own σ ρ H fr) :
    Rs K (g.hds fr) (m.set i .sh) own (σ.set i (some v)) (ρ.set i (some d)) H ps ∧ SbK K g (m.set i .sh) own (σ.set i (some v)) (ρ.set i (some d)) H fr := by
  refine ⟨r.store h hx hi, fun j d' h1 h2 => ?_⟩
  have ex : Ex (hid (Xs m own (g.hds fr)) H) (hid (Xs (m.set i .sh) own (g.hds fr)) H) := Xs.set (H := H)
  by_cases e : j = i
  · subst e
    rcases set_at h1 with ⟨_, z, _⟩ | ⟨z, _⟩
    · cases z
    · exact (z rfl).elim
  · rw [List.getElem?_set_ne (Ne.symm e)] at h1 h2 ⊢
    obtain ⟨w, h3, h4⟩ := hsb j d' h1 h2
    refine ⟨w, h3, ?_⟩
    rcases h4 with h4 | ⟨a, ea, npl, no, nf, tt⟩
    · exact .inl (h4.mono ex)
    · exact .inr ⟨a, ea, npl, fun k q => no k (set_ow q ⟨by decide, by decide⟩).2, nf, tt.mono ex⟩
/-- values by kind: clean ones, new objects -/
def KR (pl : Pl) (K : PySem.W.Frag) (Hx H : Hp) : List Bool → List D → List V → List Addr → Prop
  | [], [], vs, fr => vs = [] ∧ fr = []
  | false :: ks, d :: ds, vs, fr => ∃ v t, vs = v :: t ∧ Rep pl K Hx d v ∧ KR pl K Hx H ks ds t fr
  | true :: ks, d :: ds, vs, fr => ∃ p t fr', vs = .ref p :: t ∧ fr = p :: fr' ∧ TopR pl K Hx d (H p) ∧ KR pl K Hx H ks ds t fr'
  | _, _, _, _ => False
theorem KR.mono {pl : Pl} {Hx Hy H H' : Hp} (e : Ex Hx Hy) : ∀ {ks : List Bool} {ds : List D} {vs : List V} {fr : List Addr}, (∀ p ∈ fr, H' p = H p) → KR pl K Hx H ks ds vs fr → KR pl K Hy H' ks ds vs fr
  | [], [], _, _, _, h => h
  | false :: ks, d :: ds, _, _, hp, ⟨v, t, h1, h2, h3⟩ => ⟨v, t, h1, h2.mono e, KR.mono e hp h3⟩
  | true :: ks, d :: ds, _, _, hp, ⟨p, t, fr', h1, h2, h3, h4⟩ => ⟨p, t, fr', h1, h2, by rw [hp p (by rw [h2]; exact List.mem_cons_self ..)]; exact h3.mono e, KR.mono e (fun q hq => hp q (by rw [h2]; exact List.mem_cons_of_mem _ hq)) h4⟩
  | [], _ :: _, _, _, _, h => h.elim
  | k :: _, [], _, _, _, h => by cases k <;> exact h.elim
def mdK : Bool → Md
  | false => .sh
  | true => .ow
/-- all stores -/
def stM (m : List Md) : List Nat → List Bool → List Md
  | i :: is, k :: ks => stM (m.set i (mdK k)) is ks
  | _, _ => m
def stR (ρ : Rho) : List Nat → List D → Rho
  | i :: is, d :: ds => stR (ρ.set i (some d)) is ds
  | _, _ => ρ
def stS (σ : L2.St) : List Nat → List V → L2.St
  | i :: is, v :: vs => stS (σ.set i (some v)) is vs
  | _, _ => σ
theorem store_all {Hx : Hp} {O : Addr → Prop} (hHx : Hx = hid O H) : ∀ {ks : List Bool} {is : List Nat} {ds : List D} {vs : List V} {fr : List Addr} {m : List Md} {own : Nat → Addr} {σ : L2.St} {ρ : Rho}, ks.length = is.length → KR g.pl K Hx H ks ds vs fr → Rs K (g.hds fr) m own σ ρ H ps → SbK K g m own σ ρ H fr →
    (∀ a, Xs m own (g.hds fr) a → O a) → (∀ p ∈ fr, g.B p = none ∧ ¬ plS g.pl p ∧ ¬ g.E p) → fr.Nodup → (∀ p ∈ fr, ¬ UOw m own p) → (∀ i ∈ is, i < σ.length) → (∀ i ∈ is, ∀ q ∈ g.sx, q.1 ≠ i) → (∀ i ∈ is, m[i]? ≠ some .io) → is.Nodup →
    ∃ own', Rs K g (stM m is ks) own' (stS σ is vs) (stR ρ is ds) H ps ∧ OwnK m own own'
  | [], [], [], _, _, m, own, σ, ρ, _, hk, r, hs, _, _, _, _, _, _, _, _ => by
    obtain ⟨rfl, rfl⟩ := hk
    have e : g.hds [] = g := by unfold G.hds; simp
    rw [e] at r
    exact ⟨own, r, .refl⟩
  | false :: ks, i :: is, d :: ds, _, fr, m, own, σ, ρ, hl, ⟨v, t, h1, h2, h3⟩, r, hs, hO, hf, nd, hno, hi, hx, hio, hnd => by
    subst h1
    have nio : m[i]? ≠ some .io := hio i (List.mem_cons_self ..)
    obtain ⟨r', s'⟩ := r.storeS (i := i) (d := d) (v := v) (by rw [hHx] at h2; exact h2.mono (hid_sub hO)) (hx i (List.mem_cons_self ..)) (hi i (List.mem_cons_self ..)) hs
    have sub : ∀ a, Xs (m.set i .sh) own (g.hds fr) a → O a := fun a z => hO a (by
      rcases z with z | z | ⟨j, z, e⟩
      · exact .inl z
      · exact .inr (.inl z)
      · exact .inr (.inr ⟨j, (set_ow z ⟨by decide, by decide⟩).2, e⟩))
    obtain ⟨own', r2, k2⟩ := store_all hHx (by simpa using hl) h3 r' s' sub hf nd (fun p hp ⟨j, z, e⟩ => hno p hp ⟨j, (set_ow z ⟨by decide, by decide⟩).2, e⟩) (fun j hj => by rw [List.length_set]; exact hi j (List.mem_cons_of_mem _ hj)) (fun j hj => hx j (List.mem_cons_of_mem _ hj)) (fun j hj z => by
      rcases set_at z with ⟨_, z, _⟩ | ⟨_, z⟩
      · cases z
      · exact hio j (List.mem_cons_of_mem _ hj) z) (List.nodup_cons.mp hnd).2
    exact ⟨own', r2, fun j q => k2 j (by rw [List.getElem?_set_ne (fun z => nio (by rw [z]; exact q))]; exact q)⟩
  | true :: ks, i :: is, d :: ds, _, _, m, own, σ, ρ, hl, ⟨p, t, fr', h1, h2, h3, h4⟩, r, hs, hO, hf, nd, hno, hi, hx, hio, hnd => by
    subst h1 h2
    have nio : m[i]? ≠ some .io := hio i (List.mem_cons_self ..)
    obtain ⟨f1, f2, f3⟩ := hf p (List.mem_cons_self ..)
    obtain ⟨n1, n2⟩ := List.nodup_cons.mp nd
    obtain ⟨r', s'⟩ := r.adopt (i := i) (d := d) (by rw [hHx] at h3; exact h3.mono (hid_sub hO)) f1 f2 f3 n1 (hi i (List.mem_cons_self ..)) (hx i (List.mem_cons_self ..)) (hno p (List.mem_cons_self ..)) hs
    have at_ : ∀ (j : Nat), ((m.set i .ow)[j]? = some .ow ∨ (m.set i .ow)[j]? = some .io) → j = i ∨ (j ≠ i ∧ (m[j]? = some .ow ∨ m[j]? = some .io)) := fun j q => by
      by_cases h : j = i
      · exact .inl h
      · rw [List.getElem?_set_ne (Ne.symm h)] at q
        exact .inr ⟨h, q⟩
    have sub : ∀ a, Xs (m.set i .ow) (own2 own i p) (g.hds fr') a → O a := fun a z => hO a (by
      rcases z with (z | z) | z | ⟨j, z, e⟩
      · exact .inl (.inl z)
      · exact .inl (.inr (List.mem_cons_of_mem _ z))
      · exact .inr (.inl z)
      · rcases at_ j z with h | ⟨h, z⟩
        · rw [own2_eq h] at e
          exact .inl (.inr (by rw [← e]; exact List.mem_cons_self ..))
        · rw [own2_ne h] at e
          exact .inr (.inr ⟨j, z, e⟩))
    obtain ⟨own', r2, k2⟩ := store_all hHx (by simpa using hl) h4 r' s' sub (fun q hq => hf q (List.mem_cons_of_mem _ hq)) n2 (fun q hq ⟨j, z, e⟩ => by
        rcases at_ j z with h | ⟨h, z⟩
        · rw [own2_eq h] at e; exact n1 (by rw [e]; exact hq)
        · rw [own2_ne h] at e; exact hno q (List.mem_cons_of_mem _ hq) ⟨j, z, e⟩) (fun j hj => by rw [List.length_set]; exact hi j (List.mem_cons_of_mem _ hj)) (fun j hj => hx j (List.mem_cons_of_mem _ hj)) (fun j hj z => by
      rcases set_at z with ⟨_, z, _⟩ | ⟨_, z⟩
      · cases z
      · exact hio j (List.mem_cons_of_mem _ hj) z) (List.nodup_cons.mp hnd).2
    refine ⟨own', r2, fun j q => ?_⟩
    have ne : j ≠ i := fun z => nio (by rw [← z]; exact q)
    rw [k2 j (by rw [List.getElem?_set_ne (Ne.symm ne)]; exact q), own2_ne ne]
  | [], _ :: _, _, _, _, _, _, _, _, hl, _, _, _, _, _, _, _, _, _, _, _ => by simp at hl
  | _ :: _, [], _, _, _, _, _, _, _, hl, _, _, _, _, _, _, _, _, _, _, _ => by simp at hl
  | [], [], _ :: _, _, _, _, _, _, _, _, hk, _, _, _, _, _, _, _, _, _, _ => hk.elim
  | k :: _, _ :: _, [], _, _, _, _, _, _, _, hk, _, _, _, _, _, _, _, _, _, _ => by cases k <;> exact hk.elim
end
end DL
set_option Elab.async false
set_option linter.all false
set_option maxRecDepth 100000
set_option maxHeartbeats 2000000
/-! D36: a, b = x, y and a, b, c = x, y, z with plain local names. -/
namespace DL
open PySem PySem.Spec PyProof.Rows L2
section
variable {X : Cx} {W : WX} {J : JP} {m : List Md} {e a b c : Expr} {es : List Expr} {f : FE} {fs : FA} {ks : List Bool} {pos : Pos}
theorem Rs.hidesTo {K : PySem.W.Frag} {g : G} {m : List Md} {own : Nat → Addr} {σ : L2.St} {ρ : Rho} {H H' : Hp} {ps ps' : Ps} {fr : List Addr} (r : Rs K g m own σ ρ H ps) (hf : ∀ p ∈ fr, H p = none) (x : Exo (plS g.pl) H H') (ht : ∀ p ∈ fr, H' p ≠ none) (pp : PoolAt g.pl H' ps') : Rs K (g.hds fr) m own σ ρ H' ps' := by
  have ex : Ex (hid (Xs m own g) H) (hid (Xs m own (g.hds fr)) H') := fun a o q => by
    obtain ⟨n, q⟩ := hid_of q
    rw [hid_at fun z => (xs_hds.mp z).elim n fun z => by rw [hf a z] at q; cases q]
    exact x a o q fun z => n (Xs.pl a z)
  exact {
    len := r.len
    sh := fun i d h1 h2 => let ⟨v, h3, h4⟩ := r.sh i d h1 h2; ⟨v, h3, h4.mono ex⟩
    ow := fun i h => by
      obtain ⟨d, h1, h2, t, h4, h5⟩ := r.ow i h
      obtain ⟨u, hu⟩ := t.some
      exact ⟨d, h1, h2, by rw [x _ u hu h5, ← hu]; exact t.mono ex, h4, h5⟩
    sb := fun i d h1 h2 => by
      obtain ⟨v, h3, h4⟩ := r.sb i d h1 h2
      refine ⟨v, h3, ?_⟩
      rcases h4 with h4 | ⟨a, ea, np, no, t⟩
      · exact .inl (h4.mono ex)
      · obtain ⟨u, hu⟩ := t.some
        exact .inr ⟨a, ea, np, no, by rw [x a u hu np, ← hu]; exact t.mono ex⟩
    xc := fun i b dx h => by
      obtain ⟨d, h1, h2, t, h4⟩ := r.xc i b dx h
      obtain ⟨u, hu⟩ := t.some
      exact ⟨d, h1, h2, by rw [x _ u hu h4, ← hu]; exact t.mono ex, h4⟩
    ex := fun q hq => (r.ex q hq).mono ex
    sx := fun q hq => let ⟨v, h1, h2⟩ := r.sx q hq; ⟨v, h1, h2.mono ex⟩
    inj := r.inj
    nE := fun i q z => by
      rcases z with z | z
      · exact r.nE i q z
      · obtain ⟨d, _, _, t, _⟩ := r.ow i (.inl q)
        obtain ⟨u, hu⟩ := t.some
        rw [hf _ z] at hu; cases hu
    base := r.base.trans x
    pool := pp
    eT := fun a z => by
      rcases z with z | z
      · exact fun n => r.eT a z (fresh_back x pp n)
      · exact ht a z }
def QKs (X : Cx) (g : G) (m : List Md) (own : Nat → Addr) (ks : List Bool) (H : Hp) (r : Res (List D)) : List V → Hp → Prop := fun vs H' =>
  ∃ ds ps' fr, r = .ok ds ps' ∧ Exo (plS g.pl) H H' ∧ PoolAt g.pl H' ps' ∧ KR g.pl X.K (hid (Xs m own (g.hds fr)) H') H' ks ds vs fr ∧ fr.Nodup ∧ ∀ p ∈ fr, H p = none
/-- values, each clean or a new object -/
structure Kx (X : Cx) (W : WX) (m : List Md) (es : List Expr) (ks : List Bool) (f : FA) : Prop where
  can : ∀ {g : G} {own : Nat → Addr} {σ : L2.St} {ρ : Rho} {H : Hp} {ps : Ps}, Rs X.K g m own σ ρ H ps → f ρ ps ≠ .und → WOk W g.pl X.K (Xs m own g) σ H (f ρ ps) → cA X es σ H (QKs X g m own ks H (f ρ ps))
theorem kx_nil : Kx X W m [] [] nilF := ⟨fun r n w pos pins s I => pa_nil.run pos pins s _ _ _ I ⟨[], _, [], rfl, Exo.refl, r.pool, ⟨rfl, rfl⟩, List.nodup_nil, fun p hp => by simp at hp⟩⟩
theorem kx_s (h1 : Dx .cl X W m e f) (h2 : Kx X W m es ks fs) (hs : starEach (e :: es) X.env = (false, eval e X.env) :: starEach es X.env := by rfl) : Kx X W m (e :: es) (false :: ks) (consF f fs) := by
  refine ⟨fun {g own σ ρ H ps} r n w pos pins s I => ?_⟩
  refine (pa_cons (pe_c X e) (pa_c X es) hs).run pos pins s σ H _ I (cE.mono (h1.c r (ne_of_bind n) (WOk.left w)) fun v H1 ⟨d, ps1, e1, x1, p1, q1⟩ => ?_)
  have c1 : consF f fs ρ ps = (fs ρ >>= fun ds => pure (d :: ds)) ps1 := bind_ok e1
  have w1 := WOk.later w x1
  rw [c1] at n w1 ⊢
  refine cA.mono (h2.can (r.mono x1 p1) (ne_of_bind n) (WOk.left w1)) fun vs H2 ⟨ds, ps2, fr, e2, x2, p2, q2, nd, hf⟩ => ?_
  refine ⟨d :: ds, ps2, fr, bind_ok e2, x1.trans x2, p2, ⟨v, vs, rfl, Rep.mono (fun a o q => ?_) q1, q2⟩, nd, fun p hp => fresh_back x1 p1 (hf p hp)⟩
  obtain ⟨n1, q⟩ := hid_of q
  rw [hid_at fun z => (xs_hds.mp z).elim n1 fun z => by rw [hf a z] at q; cases q]
  exact x2 a o q fun z => n1 (Xs.pl a z)
theorem kx_f (h1 : Dx .fr X W m e f) (h2 : Kx X W m es ks fs) (hs : starEach (e :: es) X.env = (false, eval e X.env) :: starEach es X.env := by rfl) : Kx X W m (e :: es) (true :: ks) (consF f fs) := by
  refine ⟨fun {g own σ ρ H ps} r n w pos pins s I => ?_⟩
  refine (pa_cons (pe_c X e) (pa_c X es) hs).run pos pins s σ H _ I (cE.mono (h1.c r (ne_of_bind n) (WOk.left w)) fun v H1 ⟨d, ps1, e1, x1, p1, p, ev, hn, t⟩ => ?_)
  subst ev
  have c1 : consF f fs ρ ps = (fs ρ >>= fun ds => pure (d :: ds)) ps1 := bind_ok e1
  have w1 := WOk.later w x1
  rw [c1] at n w1 ⊢
  obtain ⟨o, ho⟩ := t.some
  have r1 : Rs X.K (g.hd p) m own σ ρ H1 ps1 := r.hideTo hn x1 ho p1
  have npl := r.npl hn
  have w2 : WOk W (g.hd p).pl X.K (Xs m own (g.hd p)) σ H1 (fs ρ ps1) := fun x ps' dx H' e e2 e3 ⟨us, e4, e5⟩ => WOk.left w1 x ps' dx H' e e2 e3 ⟨us, e4, e5.mono (hid_sub Xs.hd_in)⟩
  refine cA.mono (h2.can r1 (ne_of_bind n) w2) fun vs H2 ⟨ds, ps2, fr, e2, x2, p2, q2, nd, hf⟩ => ?_
  have npf : p ∉ fr := fun z => by rw [hf p z] at ho; cases ho
  have hx : ∀ {a : Addr}, Xs m own (g.hds (p :: fr)) a → Xs m own ((g.hd p).hds fr) a := fun {a} z => by
    rcases xs_hds.mp z with z | z
    · exact xs_hds.mpr (.inl (Xs.hd_in a z))
    · rcases List.mem_cons.mp z with z | z
      · exact .inl (.inl (.inr z))
      · exact xs_hds.mpr (.inr z)
  have h2p : H2 p = H1 p := by rw [ho]; exact x2 p o ho npl
  have tt : TopR g.pl X.K (hid (Xs m own (g.hds (p :: fr))) H2) d (H2 p) := by
    rw [h2p]
    refine t.mono fun a u q => ?_
    obtain ⟨n1, q⟩ := hid_of q
    rw [hid_at fun z => by
      rcases xs_hds.mp z with z | z
      · exact n1 (.inl z)
      · rcases List.mem_cons.mp z with z | z
        · exact n1 (.inr z)
        · rw [hf a z] at q; cases q]
    exact x2 a u q fun z => n1 (.inl (Xs.pl a z))
  refine ⟨d :: ds, ps2, p :: fr, bind_ok e2, x1.trans x2, p2, ⟨p, vs, fr, rfl, rfl, tt, KR.mono (H' := H2) (hid_sub fun a => hx) (fun _ _ => rfl) q2⟩, List.nodup_cons.mpr ⟨npf, nd⟩, fun q hq => ?_⟩
  rcases List.mem_cons.mp hq with rfl | hq
  · exact hn
  · exact fresh_back x1 p1 (hf q hq)
theorem KR.there {pl : Pl} {K : PySem.W.Frag} {Hx H : Hp} : ∀ {ks : List Bool} {ds : List D} {vs : List V} {fr : List Addr}, KR pl K Hx H ks ds vs fr → (∀ p ∈ fr, H p ≠ none) ∧ ds.length = ks.length ∧ vs.length = ks.length
  | [], [], _, _, ⟨h1, h2⟩ => by subst h1 h2; exact ⟨fun p hp => by simp at hp, rfl, rfl⟩
  | false :: ks, d :: ds, _, _, ⟨v, t, h1, h2, h3⟩ => by
    obtain ⟨a, b, c⟩ := KR.there h3
    subst h1
    exact ⟨a, by simp [b], by simp [c]⟩
  | true :: ks, d :: ds, _, _, ⟨p, t, fr', h1, h2, h3, h4⟩ => by
    obtain ⟨a, b, c⟩ := KR.there h4
    subst h1 h2
    refine ⟨fun q hq => ?_, by simp [b], by simp [c]⟩
    rcases List.mem_cons.mp hq with rfl | hq
    · obtain ⟨u, hu⟩ := h3.some
      rw [hu]; exact fun z => nomatch z
    · exact a q hq
  | [], _ :: _, _, _, h => h.elim
  | k :: _, [], _, _, h => by cases k <;> exact h.elim
def paF (is : List Nat) (fs : FA) : SF := fun ρ => do let ds ← fs ρ; pure (.nx (stR ρ is ds))
/-- what is to be shown behind the stores -/
theorem par_all {is : List Nat} {g : G} {own : Nat → Addr} {σ : L2.St} {ρ : Rho} {H H' : Hp} {ps : Ps} {vs : List V} (r : Rs X.K g m own σ ρ H ps) (hl : ks.length = is.length) (hi : ∀ i ∈ is, i < σ.length) (hx : ∀ p ∈ g.sx, p.1 ∈ J.px) (hp : ∀ i ∈ is, J.px.contains i = false) (hio : ∀ i ∈ is, m[i]? ≠ some .io) (hnd : is.Nodup) (q : QKs X g m own ks H (fs ρ ps) vs H') :
    (DD X J m (stM m is ks) g own (paF is fs ρ ps)).nx (stS σ is vs) H' ∧ vs.length = ks.length := by
  obtain ⟨ds, ps', fr, e1, x1, p1, kr, nd, hf⟩ := q
  obtain ⟨ht, hd, hv⟩ := kr.there
  have far : ∀ p ∈ fr, g.B p = none ∧ ¬ plS g.pl p ∧ ¬ g.E p := fun p hp => by
    have npl := r.npl (hf p hp)
    refine ⟨?_, npl, fun z => r.eT p z (hf p hp)⟩
    cases z : g.B p with
    | none => rfl
    | some o => have := r.base p o z npl; rw [hf p hp] at this; cases this
  obtain ⟨own', r2, k2⟩ := store_all rfl hl kr (r.hidesTo hf x1 ht p1) (r.sbk hf x1) (fun a z => z) far nd (fun p hp ⟨j, z, e⟩ => by
    obtain ⟨d, _, _, t, _⟩ := r.ow j z
    obtain ⟨u, hu⟩ := t.some
    rw [e, hf p hp] at hu; cases hu) hi (fun i h => sx_ne hx (hp i h)) hio hnd
  exact ⟨⟨_, ps', own', bind_ok e1, r2, k2⟩, hv⟩
theorem ds_par2 {i j : Nat} {x y : Str} {px py pt : Pos} {kt k2 : Nat} {pt2 : Pos} {k1 kk2 : Bool} (h : Kx X W m [a, b] [k1, kk2] fs) (hc : X.calm = true) (hN : X.N.Nodup) (hi : X.N[i]? = some x) (hj : X.N[j]? = some y) (hij : i ≠ j) (hx0 : X.env.scope.names.lookup x = some .local) (hy0 : X.env.scope.names.lookup y = some .local)
    (hw : swappedStores [.Tuple [.Name x px, .Name y py] kt pt] (.Tuple [a, b] k2 pt2) X.env = pure (some [x, y])) (hio : ((m[i]? == some .io) || (m[j]? == some .io)) = false := by rfl) (hp : (J.px.contains i || J.px.contains j) = false := by rfl)
    (hs : swapsWithSole [.Tuple [.Name x px, .Name y py] kt pt] (.Tuple [a, b] k2 pt2) pos.line X.env = pure false := by rfl) :
    Ds X W J m (stM m [i, j] [k1, kk2]) (.Assign [.Tuple [.Name x px, .Name y py] kt pt] (.Tuple [a, b] k2 pt2) pos) (paF [i, j] fs) := by
  refine ⟨fun g own pins s σ ρ H ps I r hx n w => ?_⟩
  have l1 : i < σ.length := by rw [I.len]; exact (List.getElem?_eq_some_iff.mp hi).1
  have l2 : j < σ.length := by rw [I.len]; exact (List.getElem?_eq_some_iff.mp hj).1
  rw [Bool.or_eq_false_iff] at hio hp
  have nio : ∀ {i : Nat}, (m[i]? == some Md.io) = false → m[i]? ≠ some .io := fun h z => by rw [z] at h; cases h
  refine (ps_par hc hN hi hj hij hx0 hy0 (pa_c X [a, b]) hw hs).run pins s σ H _ I (cA.mono (h.can r (ne_of_bind n) (WS.ex w r)) fun vs H1 q => ?_)
  obtain ⟨q1, q2⟩ := par_all (J := J) (is := [i, j]) r rfl (fun k hk => by rcases List.mem_cons.mp hk with rfl | hk; exact l1; rw [List.mem_singleton.mp hk]; exact l2) hx (fun k hk => by rcases List.mem_cons.mp hk with rfl | hk; exact hp.1; rw [List.mem_singleton.mp hk]; exact hp.2)
    (fun k hk => by rcases List.mem_cons.mp hk with rfl | hk; exact nio hio.1; rw [List.mem_singleton.mp hk]; exact nio hio.2) (by simp [hij]) q
  match vs, q2 with
  | [v1, v2], _ => exact ⟨v1, v2, rfl, q1⟩
theorem ds_par3 {i j l : Nat} {x y z : Str} {px py pz pt : Pos} {kt k2 : Nat} {pt2 : Pos} {k1 kk2 k3 : Bool} (h : Kx X W m [a, b, c] [k1, kk2, k3] fs) (hc : X.calm = true) (hN : X.N.Nodup) (hi : X.N[i]? = some x) (hj : X.N[j]? = some y) (hl : X.N[l]? = some z) (hij : i ≠ j) (hil : i ≠ l) (hjl : j ≠ l) (hx0 : X.env.scope.names.lookup x = some .local) (hy0 : X.env.scope.names.lookup y = some .local) (hz0 : X.env.scope.names.lookup z = some .local)
    (hw : swappedStores [.Tuple [.Name x px, .Name y py, .Name z pz] kt pt] (.Tuple [a, b, c] k2 pt2) X.env = pure (some [x, y, z])) (hio : ((m[i]? == some .io) || ((m[j]? == some .io) || (m[l]? == some .io))) = false := by rfl) (hp : (J.px.contains i || (J.px.contains j || J.px.contains l)) = false := by rfl)
    (hs : swapsWithSole [.Tuple [.Name x px, .Name y py, .Name z pz] kt pt] (.Tuple [a, b, c] k2 pt2) pos.line X.env = pure false := by rfl) :
    Ds X W J m (stM m [i, j, l] [k1, kk2, k3]) (.Assign [.Tuple [.Name x px, .Name y py, .Name z pz] kt pt] (.Tuple [a, b, c] k2 pt2) pos) (paF [i, j, l] fs) := by
  refine ⟨fun g own pins s σ ρ H ps I r hx n w => ?_⟩
  have l1 : i < σ.length := by rw [I.len]; exact (List.getElem?_eq_some_iff.mp hi).1
  have l2 : j < σ.length := by rw [I.len]; exact (List.getElem?_eq_some_iff.mp hj).1
  have l3 : l < σ.length := by rw [I.len]; exact (List.getElem?_eq_some_iff.mp hl).1
  rw [Bool.or_eq_false_iff, Bool.or_eq_false_iff] at hio hp
  have nio : ∀ {i : Nat}, (m[i]? == some Md.io) = false → m[i]? ≠ some .io := fun h z => by rw [z] at h; cases h
  refine (L2.ps_par3 hc hN hi hj hl hij hil hjl hx0 hy0 hz0 (pa_c X [a, b, c]) hw hs).run pins s σ H _ I (cA.mono (h.can r (ne_of_bind n) (WS.ex w r)) fun vs H1 q => ?_)
  obtain ⟨q1, q2⟩ := par_all (J := J) (is := [i, j, l]) r rfl (fun k hk => by rcases List.mem_cons.mp hk with rfl | hk; exact l1; rcases List.mem_cons.mp hk with rfl | hk; exact l2; rw [List.mem_singleton.mp hk]; exact l3) hx (fun k hk => by rcases List.mem_cons.mp hk with rfl | hk; exact hp.1; rcases List.mem_cons.mp hk with rfl | hk; exact hp.2.1; rw [List.mem_singleton.mp hk]; exact hp.2.2)
    (fun k hk => by rcases List.mem_cons.mp hk with rfl | hk; exact nio hio.1; rcases List.mem_cons.mp hk with rfl | hk; exact nio hio.2.1; rw [List.mem_singleton.mp hk]; exact nio hio.2.2) (by simp [hij, hil, hjl]) q
  match vs, q2 with
  | [v1, v2, v3], _ => exact ⟨v1, v2, v3, rfl, q1⟩
end
end DL
set_option Elab.async false
set_option linter.all false
set_option maxRecDepth 100000
set_option maxHeartbeats 2000000
/-! D37: d[k], .. = a tuple. -/
namespace DL
open PySem PySem.Spec PyProof.Rows L2
section
variable {X : Cx} {W : WX} {J : JP} {m m' m2 mT : List Md} {e a b c o tg : Expr} {tgs : List Expr} {f f1 f2 fk : FE} {pos p1' : Pos} {F : List D → Rho → R Rho}
/-- targets that may change an object of its own -/
structure TgsM (X : Cx) (J : JP) (m mT : List Md) (tgs : List Expr) (F : List D → Rho → R Rho) : Prop where
  run : ∀ (g : G) (own : Nat → Addr) (pins : List (Addr × Obj)) (s : Shared) (σ : L2.St) (ρ : Rho) (H : Hp) (ps : Ps) (ds : List D) (vs : List V) (us : List Value), Inv X pins σ H s → Rs X.K g m own σ ρ H ps → (∀ p ∈ g.sx, p.1 ∈ J.px) → Reps g.pl X.K (hid (Xs m own g) H) ds vs → Vals vs us → F ds ρ ps ≠ .und →
    wpAny (model X.prog X.w) X.A (assignInOrder ((assignEach tgs X.env).map (·.2)) us) (fun _ s' => ∃ ρ' ps' σ' H', F ds ρ ps = .ok ρ' ps' ∧ Inv X pins σ' H' s' ∧ Rs X.K g mT own σ' ρ' H' ps') X.xe s
  io : ∀ (i : Nat), m[i]? = some .io → mT[i]? = some .io
def tmN : List D → Rho → R Rho
  | [], ρ => pure ρ
  | _, _ => R.und
theorem tgm_nil : TgsM X J m m [] tmN := by
  refine ⟨fun g own pins s σ ρ H ps ds vs us I r hx hd rv n => ?_, fun _ z => z⟩
  cases ds with
  | nil =>
    rw [hd.inv_nil] at rv
    cases rv
    exact assignInOrder_nil ⟨ρ, ps, σ, H, rfl, I, r⟩
  | cons _ _ => exact (n rfl).elim
def tmV (i : Nat) (F : List D → Rho → R Rho) : List D → Rho → R Rho
  | d :: ds, ρ => F ds (ρ.set i (some d))
  | _, _ => R.und
theorem tgm_name {i : Nat} {x : Str} {py : Pos} (hN : X.N.Nodup) (hi : X.N[i]? = some x) (hl : Loc X.env.scope x) (ht : TgsM X J (m.set i .sh) mT tgs F) (hio : (m[i]? == some .io) = false := by rfl) (hp : J.px.contains i = false := by rfl) (hf : X.fn x = true ∨ X.env.scope.names.lookup x = some .local := by first | exact .inl rfl | exact .inr rfl)
    (hs : (assignEach (.Name x py :: tgs) X.env).map (·.2) = assign (.Name x py) X.env :: (assignEach tgs X.env).map (·.2) := by rfl) : TgsM X J m mT (.Name x py :: tgs) (tmV i F) := by
  refine ⟨fun g own pins s σ ρ H ps ds vs us I r hx hd rv n => ?_, fun j z => ht.io j (set_io hio j z)⟩
  cases ds with
  | nil => exact (n rfl).elim
  | cons d ds =>
    obtain ⟨v, vs', rfl, h2, h3⟩ := hd.inv_cons
    cases rv with
    | cons r1 r2 =>
      rw [hs]
      refine assignInOrder_cons (wpAny_assign_Name (store_ok I hN hi hl r1 (fun s1 I1 => ?_) hf))
      exact ht.run g own pins s1 _ _ H ps ds vs' _ I1 (r.store h2 (sx_ne hx hp) (by rw [I.len]; exact (List.getElem?_eq_some_iff.mp hi).1)) hx (h3.mono Xs.set) r2 n
def tmP (i : Nat) (fk : FE) (F : List D → Rho → R Rho) : List D → Rho → R Rho
  | d :: ds, ρ => do
    let kvs ← dkAt ρ i
    let k ← noX (fk ρ)
    let k ← ofO (keyOf k)
    if lenC (kvs.length + 1) = true then F ds (ρ.set i (some (.dk (putD kvs k d)))) else R.und
  | _, _ => R.und
theorem tgm_put {i : Nat} {x : Str} {px p2 : Pos} (hk : Dx .bo X WF m b fk) (ht : TgsM X J m mT tgs F) (hu : X.A.units + 64 < cLine) (hN : X.N[i]? = some x) (hv : Vis X.env.scope x) (hm : m[i]? = some .ow ∨ m[i]? = some .io)
    (hd : (x == ("__debug__" : Str)) = false := by decide) (hcd : (x == ("__classdict__" : Str)) = false := by decide)
    (ha : ∀ v, assign (.Subscript (.Name x px) b p2) X.env v = (do
      let ov ← holding [v] (eval (.Name x px) X.env)
      let iv ← holding [v, ov] (eval b X.env)
      standAt p2
      holding [v, ov, iv] (setItem ov iv v)
      release [v, ov, iv] []) := by intro _; rfl)
    (hs : (assignEach (.Subscript (.Name x px) b p2 :: tgs) X.env).map (·.2) = assign (.Subscript (.Name x px) b p2) X.env :: (assignEach tgs X.env).map (·.2) := by rfl) : TgsM X J m mT (.Subscript (.Name x px) b p2 :: tgs) (tmP i fk F) := by
  refine ⟨fun g own pins s σ ρ H ps ds vs us I r hx hdd rv n => ?_, ht.io⟩
  cases ds with
  | nil => exact (n rfl).elim
  | cons d ds =>
    obtain ⟨v, vs', rfl, h2, h3⟩ := hdd.inv_cons
    cases rv with
    | cons r1 r2 =>
      rw [hs]
      obtain ⟨kvs, hds, he0⟩ := dkAt_ne (ne_of_bind n)
      obtain ⟨d0, q1, q2, q3, q4, q5⟩ := r.ow i hm
      rw [hds] at q1
      cases q1
      obtain ⟨ws, hws, t1⟩ := q3
      have e0 : tmP i fk F (d :: ds) ρ ps = (noX (fk ρ) >>= fun k => ofO (keyOf k) >>= fun k => if lenC (kvs.length + 1) = true then F ds (ρ.set i (some (.dk (putD kvs k d)))) else R.und) ps := bind_ok he0
      rw [e0] at n ⊢
      refine assignInOrder_cons ?_
      rw [ha]
      refine wpAny_bind (wpAny_holding ((pe_var hN hv hd hcd).run pins s σ H (fun y H1 => y = .ref (own i) ∧ H1 = H) I ⟨_, q2, rfl, rfl⟩ |> fun z => thn z fun ov s1 ⟨y, H1, I1, ry, ey, eH⟩ => ?_))
      subst ey eH
      obtain rfl : ov = Value.ref (own i) := ry
      refine wpAny_bind (wpAny_holding (thn ((hk.cX r (ne_of_bind n)) pins s1 I1) fun iv s2 ⟨y, H2, I2, ry2, kd, ps2, e2, x2, p2, qq⟩ => ?_))
      rw [bind_ok e2] at n ⊢
      obtain ⟨k, k1, k2⟩ := ofO_ne (ne_of_bind n)
      rw [bind_ok k2] at n ⊢
      obtain ⟨hc, he⟩ := ifR_und n
      rw [he] at n ⊢
      have ek := keyOf_rep qq.full k1
      subst ek
      have hws2 : H2 (own i) = some (.dK ws) := x2 _ _ hws q5
      have r3 := (r.mono x2 p2).mut hm (d := .dk (putD kvs k d)) ⟨_, rfl, (t1.mono (x2.hid Xs.pl)).put k (h2.mono (x2.hid Xs.pl))⟩
      have h4 : Reps g.pl X.K (hid (Xs m own g) (upd H2 (own i) (.dK (putK ws k v)))) ds vs' := (h3.mono (x2.hid Xs.pl)).mono fun a o q => by
        obtain ⟨n1, q⟩ := hid_of q
        rw [hid_at n1, upd_ne (fun z => n1 (.inr (.inr ⟨i, hm, z.symm⟩)))]
        exact q
      refine wpAny_bind (wpAny_standAt (wpAny_bind (wpAny_holding (d_setItem (by omega) I2 (.inl ⟨ws, k, hws2, rfl, by rw [t1.length]; exact Nat.lt_of_lt_of_le (Nat.lt_succ_self _) (lenC_ok hc), rfl⟩) ry2 r1 fun s3 I3 => ?_))))
      exact wpAny_release (ht.run g own pins s3 σ _ _ ps2 ds vs' _ I3 r3 hx h4 r2 n)
def amG (F : List D → Rho → R Rho) (ρ : Rho) : D → R Fl
  | .tup ds => do let ρ' ← F ds ρ; pure (.nx ρ')
  | _ => R.und
def amF (f : FE) (F : List D → Rho → R Rho) : SF := fun ρ => do let d ← f ρ; amG F ρ d
theorem ds_asgM {k : Nat} {py : Pos} (h : Dx .cl X W m e f) (ht : TgsM X J m mT tgs F) (hc : X.calm = true) (hlen : ∀ ds ρ ps, F ds ρ ps ≠ .und → ds.length = (assignEach tgs X.env).length) (hst : (assignEach tgs X.env).findIdx? (·.1) = none := by rfl)
    (hs : swapsWithSole [.Tuple tgs k py] e pos.line X.env = pure false := by rfl) (hw : swappedStores [.Tuple tgs k py] e X.env = pure none := by rfl)
    (h1 : (assignEach [.Tuple tgs k py] X.env).map (·.2) = [assign (.Tuple tgs k py) X.env] := by rfl) : Ds X W J m mT (.Assign [.Tuple tgs k py] e pos) (amF f F) := by
  refine ⟨fun g own pins s σ ρ H ps I r hx n w => ?_⟩
  refine wpAny_Assign_stores (thn (h.run g own pins s σ ρ H ps I r (ne_of_bind n) (WS.ex w r)) fun v s1 ⟨x, H1, I1, rv, d, ps1, e1, x1, p1, q1⟩ => ?_) hs hw
  rw [h1]
  have e2 : amF f F ρ ps = amG F ρ d ps1 := bind_ok e1
  rw [e2] at n ⊢
  cases d with
  | tup ds =>
    have q1 : Rep g.pl X.K (hid (Xs m own g) H1) (.tup ds) x := q1
    unfold Rep at q1
    obtain ⟨a, xs, rfl, hq, t1⟩ := q1
    have hq := hid_ex.st hq
    obtain rfl : v = Value.ref a := rv
    obtain ⟨its, rv, ht0, hz⟩ := I1.tuple hq
    have n2 := ne_of_bind n
    have hl := hlen ds ρ ps1 n2
    refine assign_Tuple_tuple (I1.ok.hd hc) ht0 (by simp [← hl, ← t1.length, rv.length]) hst fun h' hx' => ?_
    have I2 : Inv X pins σ H1 { s1 with heap := h' } := I1.kept (t' := s1.toks) fun b o e => hx' b o (Nat.ne_of_lt (Heap.lt_size e)) e
    refine thn (ht.run g own pins _ σ ρ H1 ps1 ds xs _ I2 (r.mono x1 p1) hx t1 (by simpa using rv) n2) fun _ s2 ⟨ρ', ps', σ', H', e3, I3, r3⟩ => ?_
    exact ⟨σ', H', I3, ρ', ps', own, bind_ok e3, r3, .refl⟩
  | _ => exact (n rfl).elim
end
end DL
set_option Elab.async false
set_option linter.all false
set_option maxRecDepth 100000
set_option maxHeartbeats 2000000
/-! D38: the pool of drawn numbers. -/
namespace DL
open PySem PySem.Spec PyProof.Rows L2
def psGet : R Pool := fun ps => match ps with
  | some po => .ok po ps
  | none => .und
def isPool (ρ : Rho) (i : Nat) : R Unit := match ρ[i]?.join with
  | some .pool => pure ()
  | _ => R.und
theorem isPool_ne {ρ : Rho} {i : Nat} {ps : Ps} (n : isPool ρ i ps ≠ .und) : ρ[i]? = some (some .pool) ∧ isPool ρ i ps = .ok () ps := by
  unfold isPool at n ⊢
  cases h : ρ[i]?.join with
  | none => rw [h] at n; exact (n rfl).elim
  | some d =>
    cases d with
    | pool => exact ⟨join_some h, rfl⟩
    | _ => rw [h] at n; exact (n rfl).elim
theorem psGet_ne {ps : Ps} (n : psGet ps ≠ .und) : ∃ po, ps = some po ∧ psGet ps = .ok po ps := by
  cases ps with
  | none => exact (n rfl).elim
  | some po => exact ⟨po, rfl, rfl⟩
section
variable {K : PySem.W.Frag} {g : G} {m : List Md} {own : Nat → Addr} {σ : L2.St} {ρ : Rho} {H : Hp} {ps : Ps}
theorem Rs.pool_at (r : Rs K g m own σ ρ H ps) {i : Nat} (hm : m[i]? = some .sh) (h : ρ[i]? = some (some .pool)) {po : Pool} (hp : ps = some po) : ∃ p q, g.pl = some (p, q) ∧ σ[i]? = some (some (.ref p)) ∧ H p = some (.lst [.ref q, .int (po.at_ : Int)]) ∧ H q = some (.lst (po.nums.map V.int)) ∧ q ≠ p := by
  obtain ⟨v, h1, h2⟩ := r.sh i _ hm h
  unfold Rep at h2
  have pp := r.pool
  cases hg : g.pl with
  | none => rw [hg] at h2; cases h2
  | some x =>
    obtain ⟨p, q⟩ := x
    rw [hg] at h2 pp
    cases h2
    obtain ⟨po', e, a, b, c⟩ := pp
    rw [hp] at e
    cases e
    exact ⟨p, q, rfl, h1, a, b, c⟩
theorem Rs.pmut {p q : Addr} (r : Rs K g m own σ ρ H ps) (hg : g.pl = some (p, q)) {o : HO} {ps' : Ps} (pp : PoolAt g.pl (upd H p o) ps') : Rs K g m own σ ρ (upd H p o) ps' := by
  have hp : plS g.pl p := ⟨(p, q), hg, .inl rfl⟩
  have ex : Ex (hid (Xs m own g) H) (hid (Xs m own g) (upd H p o)) := fun a u q => by
    obtain ⟨n, q⟩ := hid_of q
    rw [hid_at n, upd_ne (fun z => n (by rw [z]; exact Xs.pl _ hp))]
    exact q
  exact {
    len := r.len
    sh := fun i d h1 h2 => let ⟨v, h3, h4⟩ := r.sh i d h1 h2; ⟨v, h3, h4.mono ex⟩
    ow := fun i h => by
      obtain ⟨d, h1, h2, t, h4, h5⟩ := r.ow i h
      exact ⟨d, h1, h2, by rw [upd_ne (fun z => h5 (by rw [z]; exact hp))]; exact t.mono ex, h4, h5⟩
    sb := fun i d h1 h2 => by
      obtain ⟨v, h3, h4⟩ := r.sb i d h1 h2
      refine ⟨v, h3, ?_⟩
      rcases h4 with h4 | ⟨a, ea, npa, noa, t⟩
      · exact .inl (h4.mono ex)
      · exact .inr ⟨a, ea, npa, noa, by rw [upd_ne (fun z => npa (by rw [z]; exact hp))]; exact t.mono ex⟩
    xc := fun i b dx h => by
      obtain ⟨d, h1, h2, t, h4⟩ := r.xc i b dx h
      exact ⟨d, h1, h2, by rw [upd_ne (fun z => h4 (by rw [z]; exact hp))]; exact t.mono ex, h4⟩
    ex := fun q hq => (r.ex q hq).mono ex
    sx := fun q hq => let ⟨v, h1, h2⟩ := r.sx q hq; ⟨v, h1, h2.mono ex⟩
    inj := r.inj
    nE := r.nE
    base := fun a u h n => by rw [upd_ne (fun z => n (by rw [z]; exact hp))]; exact r.base a u h n
    pool := pp
    eT := fun a h => by
      by_cases e : a = p
      · rw [e, upd_same]; exact fun z => nomatch z
      · rw [upd_ne e]; exact r.eT a h }
end
section
variable {X : Cx} {W : WX} {J : JP} {m : List Md} {e : Expr} {f : FE} {pos p1 p2 p3 p4 : Pos} {i k0 : Nat} {x : Str}
def patF (i : Nat) : FE := fun ρ => do isPool ρ i; let po ← psGet; pure (.int (po.at_ : Int))
theorem dx_pat (hN : X.N[i]? = some x) (hv : Vis X.env.scope x) (hm : m[i]? = some .sh) (hd : (x == ("__debug__" : Str)) = false := by decide) (hcd : (x == ("__classdict__" : Str)) = false := by decide) (hs : PlainIx (.Constant (.int 1) k0 p2) := by intro _ _; rfl) : Dx .cl X W m (.Subscript (.Name x p1) (.Constant (.int 1) k0 p2) pos) (patF i) := by
  refine ⟨fun g own pins s σ ρ H ps I r n w => ?_⟩
  obtain ⟨h1, h2⟩ := isPool_ne (ne_of_bind n)
  have e2 : patF i ρ ps = (psGet >>= fun po => (pure (.int (po.at_ : Int)) : R D)) ps := bind_ok h2
  rw [e2] at n ⊢
  obtain ⟨po, rfl, h3⟩ := psGet_ne (ne_of_bind n)
  rw [bind_ok h3]
  obtain ⟨p, q, hg, hσ, a, b, c⟩ := r.pool_at hm h1 rfl
  exact (pe_ix ix_list (pe_var hN hv hd hcd) pe_int hs).run pins s σ H _ I ⟨_, hσ, p, _, 1, _, rfl, rfl, .inl (.of a), rfl, .int (po.at_ : Int), some po, rfl, Exo.refl, r.pool, rq_int⟩
def plnF (i : Nat) : FE := fun ρ => do isPool ρ i; let po ← psGet; pure (.int (po.nums.length : Int))
theorem dx_plen (hN : X.N[i]? = some x) (hv : Vis X.env.scope x) (hm : m[i]? = some .sh) (hmg : X.mg "len" = none) (hd : (x == ("__debug__" : Str)) = false := by decide) (hcd : (x == ("__classdict__" : Str)) = false := by decide) (hs : PlainIx (.Constant (.int 0) k0 p2) := by intro _ _; rfl)
    (hg : Gl X "len" := by rfl) (hst : starEach [.Subscript (.Name x p1) (.Constant (.int 0) k0 p2) p3] X.env = (false, eval (.Subscript (.Name x p1) (.Constant (.int 0) k0 p2) p3) X.env) :: starEach [] X.env := by rfl) (hpl : (backTo pos (starEach [] X.env)).any (·.1) = false := by rfl) :
    Dx .cl X W m (.Call (.Name "len" p4) [.Subscript (.Name x p1) (.Constant (.int 0) k0 p2) p3] [] pos) (plnF i) := by
  refine ⟨fun g own pins s σ ρ H ps I r n w => ?_⟩
  obtain ⟨h1, h2⟩ := isPool_ne (ne_of_bind n)
  have e2 : plnF i ρ ps = (psGet >>= fun po => (pure (.int (po.nums.length : Int)) : R D)) ps := bind_ok h2
  rw [e2] at n ⊢
  obtain ⟨po, rfl, h3⟩ := psGet_ne (ne_of_bind n)
  rw [bind_ok h3]
  obtain ⟨p, q, hgp, hσ, a, b, c⟩ := r.pool_at hm h1 rfl
  refine (blt_e call_len_seq (pe_ix ix_list (pe_var hN hv hd hcd) pe_int hs) hmg rfl hg (by decide) (by decide) hst hpl).run pins s σ H _ I ⟨_, hσ, p, _, 0, _, rfl, rfl, .inl (.of a), rfl, q, _, rfl, .inl (.of b), ?_⟩
  exact ⟨.int (po.nums.length : Int), some po, rfl, Exo.refl, r.pool, by rw [List.length_map]; exact rq_int⟩
def pnumF (i : Nat) (f : FE) : FE := fun ρ => do isPool ρ i; let d ← f ρ; let po ← psGet; let j ← asI d; ofO ((atI po.nums j).map .int)
theorem dx_pnum (h : Dx .bo X W m e f) (hN : X.N[i]? = some x) (hv : Vis X.env.scope x) (hm : m[i]? = some .sh) (hd : (x == ("__debug__" : Str)) = false := by decide) (hcd : (x == ("__classdict__" : Str)) = false := by decide) (hs : PlainIx (.Constant (.int 0) k0 p2) := by intro _ _; rfl) (hs2 : PlainIx e := by intro _ _; rfl) :
    Dx .cl X W m (.Subscript (.Subscript (.Name x p1) (.Constant (.int 0) k0 p2) p3) e pos) (pnumF i f) := by
  refine ⟨fun g own pins s σ ρ H ps I r n w => ?_⟩
  obtain ⟨h1, h2⟩ := isPool_ne (ne_of_bind n)
  have e2 : pnumF i f ρ ps = (f ρ >>= fun d => psGet >>= fun po => asI d >>= fun j => (ofO ((atI po.nums j).map .int) : R D)) ps := bind_ok h2
  rw [e2] at n w ⊢
  have key : ∃ p q, g.pl = some (p, q) ∧ σ[i]? = some (some (.ref p)) ∧ (∃ at0, H p = some (.lst [.ref q, .int at0])) := by
    obtain ⟨v, k1, k2⟩ := r.sh i _ hm h1
    unfold Rep at k2
    have pp := r.pool
    cases hg : g.pl with
    | none => rw [hg] at k2; cases k2
    | some z =>
      obtain ⟨p, q⟩ := z
      rw [hg] at k2 pp
      cases k2
      obtain ⟨po', e, a, b, c⟩ := pp
      exact ⟨p, q, rfl, k1, _, a⟩
  obtain ⟨p, q, hg, hσ, at0, a⟩ := key
  refine (pe_ix ix_list (pe_ix ix_list (pe_var hN hv hd hcd) pe_int hs) (pe_c X e) hs2).run pins s σ H _ I ⟨_, hσ, p, _, 0, _, rfl, rfl, .inl (.of a), rfl, cE.mono (h.c r (ne_of_bind n) (WOk.left w)) fun v H1 ⟨d, ps1, e1, x1, p1, q1⟩ => ?_⟩
  rw [bind_ok e1] at n ⊢
  obtain ⟨po, rfl, h3⟩ := psGet_ne (ne_of_bind n)
  rw [bind_ok h3] at n ⊢
  obtain ⟨j, rfl, h4⟩ := asI_ok (ne_of_bind n)
  rw [bind_ok h4] at n ⊢
  obtain ⟨z, h5, h6⟩ := mapD_ok n
  rw [h6]
  have q1 := q1.flat rfl
  unfold Rep at q1
  have p1' := p1
  rw [hg] at p1'
  obtain ⟨po', e, a', b, c⟩ := p1'
  cases e
  refine ⟨q, po.nums.map V.int, j, .int z, rfl, q1, .inl (.of b), ?_, .int z, _, rfl, x1, p1, rq_int⟩
  unfold atI at h5 ⊢
  rw [List.length_map]
  obtain ⟨k, k1, k2⟩ := Option.bind_eq_some_iff.mp h5
  rw [k1]
  show (po.nums.map V.int)[k]? = _
  rw [List.getElem?_map, k2]; rfl
def pstF (i : Nat) (f : FE) : SF := fun ρ => do
  isPool ρ i
  let d ← f ρ
  let j ← asI d
  let po ← psGet
  if decide (0 ≤ j) = true then (fun _ => .ok (.nx ρ) (some { po with at_ := j.toNat })) else R.und
theorem ds_pst (h : Dx .cl X W m e f) (hN : X.N[i]? = some x) (hv : Vis X.env.scope x) (hm : m[i]? = some .sh) (hd : (x == ("__debug__" : Str)) = false := by decide) (hcd : (x == ("__classdict__" : Str)) = false := by decide)
    (hs : swapsWithSole [.Subscript (.Name x p1) (.Constant (.int 1) k0 p2) p3] e pos.line X.env = pure false := by rfl) (hw : swappedStores [.Subscript (.Name x p1) (.Constant (.int 1) k0 p2) p3] e X.env = pure none := by rfl)
    (ha1 : (assignEach [.Subscript (.Name x p1) (.Constant (.int 1) k0 p2) p3] X.env).map (·.2) = [assign (.Subscript (.Name x p1) (.Constant (.int 1) k0 p2) p3) X.env] := by rfl)
    (ha : ∀ v, assign (.Subscript (.Name x p1) (.Constant (.int 1) k0 p2) p3) X.env v = (do
      let ov ← holding [v] (eval (.Name x p1) X.env)
      let iv ← holding [v, ov] (eval (.Constant (.int 1) k0 p2) X.env)
      standAt p3
      holding [v, ov, iv] (setItem ov iv v)
      release [v, ov, iv] []) := by intro _; rfl) :
    Ds X W J m m (.Assign [.Subscript (.Name x p1) (.Constant (.int 1) k0 p2) p3] e pos) (pstF i f) := by
  refine ⟨fun g own pins s σ ρ H ps I r hx n w => ?_⟩
  obtain ⟨h1, h2⟩ := isPool_ne (ne_of_bind n)
  have e2 : pstF i f ρ ps = (f ρ >>= fun d => asI d >>= fun j => psGet >>= fun po => if decide (0 ≤ j) = true then ((fun _ => .ok (.nx ρ) (some { po with at_ := j.toNat })) : R Fl) else R.und) ps := bind_ok h2
  rw [e2] at n w ⊢
  refine (ps_asg (pe_c X e) (pg_sub (pe_var hN hv hd hcd) pe_int set_list ha) hs hw ha1).run pins s σ H _ I (cE.mono (h.c r (ne_of_bind n) (WS.ex w r)) fun v H1 ⟨d, ps1, e1, x1, p1, q1⟩ => ?_)
  rw [bind_ok e1] at n ⊢
  obtain ⟨j, rfl, h4⟩ := asI_ok (ne_of_bind n)
  rw [bind_ok h4] at n ⊢
  obtain ⟨po, rfl, h3⟩ := psGet_ne (ne_of_bind n)
  rw [bind_ok h3] at n ⊢
  obtain ⟨hc, he⟩ := ifR_und n
  rw [he]
  have hc := of_decide_eq_true hc
  have r1 := r.mono x1 p1
  obtain ⟨p, q, hg, hσ, a, b, c⟩ := r1.pool_at hm h1 rfl
  have q1 : Rep g.pl X.K (hid (Xs m own g) H1) (.int j) v := q1
  unfold Rep at q1
  subst q1
  refine ⟨_, hσ, p, _, 1, 1, rfl, rfl, a, rfl, ?_⟩
  have pp : PoolAt g.pl (upd H1 p (.lst [.ref q, .int j])) (some { po with at_ := j.toNat }) := by
    rw [hg]
    exact ⟨_, rfl, by rw [upd_same]; show some (HO.lst [.ref q, .int j]) = some (HO.lst [.ref q, .int ((j.toNat : Nat) : Int)]); rw [Int.toNat_of_nonneg hc], by rw [upd_ne c]; exact b, c⟩
  exact ⟨ρ, _, own, rfl, r1.pmut hg pp, .refl⟩
end
end DL
set_option Elab.async false
set_option linter.all false
set_option maxRecDepth 100000
set_option maxHeartbeats 2000000
/-! D39: small rules for the printed derivations. -/
namespace DL
open PySem PySem.Spec PyProof.Rows L2
section
variable {X : Cx} {W : WX} {m : List Md} {pos : Pos}
/-- a built-in's name as a value -/
theorem dx_bn {x : Str} {v : V} {u : Value} (hm : X.mg x = none) (hv : bootBuiltins x = some u) (r : RelV v u) (hg : Gl X x := by rfl) (hn : x ≠ "__name__" := by decide) (hd : (x == ("__debug__" : Str)) = false := by decide) : Dx .cl X W m (.Name x pos) (cF (.ob v)) :=
  .of (pe_bltn hg hm hv r hn hd) fun g own σ ρ H ps r' n w => ⟨.ob v, ps, rfl, Exo.refl, r'.pool, by show Rep _ _ _ _ _; unfold Rep; rfl⟩
theorem dx_bt {x : Str} {T : String} (hm : X.mg x = none) (hv : bootBuiltins x = some (.type T)) (hg : Gl X x := by rfl) (hn : x ≠ "__name__" := by decide) (hd : (x == ("__debug__" : Str)) = false := by decide) : Dx .cl X W m (.Name x pos) (cF (.ob (.ty T))) :=
  dx_bn (v := .ty T) (u := .type T) hm hv rfl hg hn hd
/-- a class of the module as a value -/
theorem dx_cn {x : Str} {C : Addr} (hm : X.mg x = some (.ref C)) (hg : Gl X x := by rfl) (hd : (x == ("__debug__" : Str)) = false := by decide) : Dx .cl X W m (.Name x pos) (cF (.ob (.ref C))) :=
  dx_gl (v := .ref C) hg hm rfl (fun _ _ => by unfold Rep; rfl) hd
/-- a text, a number of the module -/
theorem dx_gs {x s : Str} (hm : ∃ t, X.mg x = some (.str s t)) (hg : Gl X x := by rfl) (hd : (x == ("__debug__" : Str)) = false := by decide) : Dx .cl X W m (.Name x pos) (cF (.str s)) := by
  obtain ⟨t, h⟩ := hm
  exact dx_gl (v := .str s) hg h ⟨t, rfl⟩ (fun _ _ => rep_str) hd
theorem dx_gi {x : Str} {i : Int} (hm : ∃ t, X.mg x = some (.int i t)) (hg : Gl X x := by rfl) (hd : (x == ("__debug__" : Str)) = false := by decide) : Dx .cl X W m (.Name x pos) (cF (.int i)) := by
  obtain ⟨t, h⟩ := hm
  exact dx_gl (v := .int i) hg h ⟨t, rfl⟩ (fun _ _ => rep_int) hd
def isiF (c : V) (ans : Tk → Option Bool) : List D → R D := two fun d k => match k with
  | .ob v => if v = c then D.isi ans d else R.und
  | _ => R.und
theorem cd_isiF {c : V} {ans : Tk → Option Bool} (hT : IsTb X.K c ans) : CallD .cl X (.builtin "isinstance") [.sb, .sb] (isiF c ans) := cd_isi hT
/-- the slots' names in a def's frame -/
theorem vis_l {s : Scope} {x : Str} (h : s.names.lookup x = some .local) : Vis s x := .inl h
end
end DL
set_option Elab.async false
set_option linter.all false
set_option maxRecDepth 100000
set_option maxHeartbeats 2000000
/-! D40: names for the printed functions. -/
namespace DL
open PySem PySem.Spec PyProof.Rows L2
abbrev ltD : D → D → R D := D.cmp fun i j => decide (i < j)
abbrev leD : D → D → R D := D.cmp fun i j => decide (i ≤ j)
abbrev gtD : D → D → R D := D.cmp fun i j => decide (j < i)
abbrev geD : D → D → R D := D.cmp fun i j => decide (j ≤ i)
abbrev subD : D → D → R D := D.ints (fun _ _ => true) fun i j => i - j
abbrev mulD : D → D → R D := D.ints D.mulC fun i j => i * j
abbrev fdivD : D → D → R D := D.ints D.divC fun i j => i / j
abbrev modD : D → D → R D := D.ints (fun _ j => decide (0 < j)) fun i j => i % j
abbrev powD : D → D → R D := D.ints (fun i j => decide (0 ≤ j ∧ j ≤ 1000000 ∧ i.natAbs < 2 ^ 64)) fun i j => i ^ j.toNat
abbrev augA : D → D → R D := D.ints (fun _ _ => true) fun i j => i + j
abbrev augS : D → D → R D := D.ints (fun _ _ => true) fun i j => i - j
def negF (f : FE) : FE := fun ρ => do let d ← f ρ; let i ← asI d; pure (.int (-i))
section
variable {X : Cx} {W : WX} {J : JP} {m m' m2 mT : List Md} {e a : Expr} {f fk : FE} {pos : Pos} {K : PySem.W.Frag}
theorem dx_neg (h : Dx .bo X W m a f) : Dx .cl X W m (.UnaryOp .USub a pos) (negF f) := by
  refine ⟨fun g own pins s σ ρ H ps I r n w => ?_⟩
  refine (pe_un (pos := pos) un_neg (pe_c X a)).run pins s σ H _ I (cE.mono (h.c r (ne_of_bind n) (WOk.left w)) fun v H' ⟨d, ps', e1, x1, p1, q1⟩ => ?_)
  have e2 : negF f ρ ps = (asI d >>= fun i => (pure (.int (-i)) : R D)) ps' := bind_ok e1
  rw [e2] at n ⊢
  obtain ⟨i, rfl, e3⟩ := asI_ok (ne_of_bind n)
  have q1 := q1.flat rfl
  unfold Rep at q1
  subst q1
  exact ⟨i, rfl, .int (-i), ps', bind_ok e3, x1, p1, rq_int⟩
/-! ### tables of isinstance -/
def tb_str : Tk → Option Bool
  | .str => some true
  | .ins _ => none
  | _ => some false
def tb_int : Tk → Option Bool
  | .int => some true
  | .bl => some true
  | .ins _ => none
  | _ => some false
def tb_bool : Tk → Option Bool
  | .bl => some true
  | .ins _ => none
  | _ => some false
def tb_list : Tk → Option Bool
  | .lst => some true
  | .ins _ => none
  | _ => some false
def tb_tuple : Tk → Option Bool
  | .tup => some true
  | .ins _ => none
  | _ => some false
def tb_dict : Tk → Option Bool
  | .dct => some true
  | .ins _ => none
  | _ => some false
theorem is_str : IsTb K (.ty "str") tb_str := ⟨⟨_, .ty "str", fun t b h => by cases t <;> cases h <;> exact kit_ty (by decide +kernel)⟩, fun C b h => by cases h⟩
theorem is_int : IsTb K (.ty "int") tb_int := ⟨⟨_, .ty "int", fun t b h => by cases t <;> cases h <;> exact kit_ty (by decide +kernel)⟩, fun C b h => by cases h⟩
theorem is_bool : IsTb K (.ty "bool") tb_bool := ⟨⟨_, .ty "bool", fun t b h => by cases t <;> cases h <;> exact kit_ty (by decide +kernel)⟩, fun C b h => by cases h⟩
theorem is_list : IsTb K (.ty "list") tb_list := ⟨⟨_, .ty "list", fun t b h => by cases t <;> cases h <;> exact kit_ty (by decide +kernel)⟩, fun C b h => by cases h⟩
theorem is_tuple : IsTb K (.ty "tuple") tb_tuple := ⟨⟨_, .ty "tuple", fun t b h => by cases t <;> cases h <;> exact kit_ty (by decide +kernel)⟩, fun C b h => by cases h⟩
theorem is_dict : IsTb K (.ty "dict") tb_dict := ⟨⟨_, .ty "dict", fun t b h => by cases t <;> cases h <;> exact kit_ty (by decide +kernel)⟩, fun C b h => by cases h⟩
/-- an own class: its instances, no built-in's -/
def tbC (C : Addr) : Tk → Option Bool
  | .ins C' => if C' = C then some true else none
  | _ => some false
/-- whose == is asked first: an own class against the built-ins and itself -/
def nfC (C : Addr) : Tk → Bool
  | .ins C' => decide (C' = C)
  | _ => true
end
end DL
set_option Elab.async false
set_option linter.all false
set_option maxRecDepth 100000
set_option maxHeartbeats 2000000
/-! D41: one comparison as a test. -/
namespace DL
open PySem PySem.Spec PyProof.Rows L2
section
variable {X : Cx} {W : WX} {m : List Md} {a b : Expr} {f1 f2 : FE} {pos : Pos}
theorem tx_cmp {op : CmpOp} {F : D → D → R D} (ho : OpD .cl X (compareOp op) F) (ha : Dx .bo X W m a f1) (hb : Dx .bo X W m b f2) (hm : behindInMarks op b = false := by first | exact nomark _ | rfl) : Tx X W m (.Compare a [op] [b] pos) (tvF (op2F F f1 f2)) := by
  refine ⟨fun g own pins s σ ρ H ps I r n w => ?_⟩
  have hr : OpR X (compareOp op) (fun x y H Q => ∀ pins s σ u v, Inv X pins σ H s → RelV x u → RelV y v → wpAny (model X.prog X.w) X.A (compareOp op u v) (EP X pins σ Q) X.xe s) := fun pins s σ H x y u v Q I rx ry h => h pins s σ u v I rx ry
  have n0 : op2F F f1 f2 ρ ps ≠ .und := ne_of_bind n
  have w0 := WOk.left w
  refine (pt_cmpR hr (pe_c X a) (pe_c X b) hm).run pins s σ H _ I ?_
  have n1 : f1 ρ ps ≠ .und := ne_of_bind n0
  refine cE.mono (ha.c r n1 (WOk.left w0)) fun x H1 ⟨d1, ps1, e1, x1, p1, q1⟩ => ?_
  have r1 := r.mono x1 p1
  have c1 : op2F F f1 f2 ρ ps = (f2 ρ >>= fun b => F d1 b) ps1 := bind_ok e1
  have n2 : f2 ρ ps1 ≠ .und := ne_of_bind (by rw [← c1]; exact n0)
  have w1 := WOk.later w0 x1
  rw [c1] at w1
  refine cE.mono (hb.c r1 n2 (WOk.left w1)) fun y H2 ⟨d2, ps2, e2, x2, p2, q2⟩ => ?_
  have c2 : (f2 ρ >>= fun b => F d1 b) ps1 = F d1 d2 ps2 := bind_ok e2
  intro pins2 s2 σ2 u v I2 rx ry
  have q1' := RepB.mono Xs.pl x2 q1
  have r2 := r1.mono x2 p2
  refine thn (ho g.pl (Xs m own g) pins2 s2 σ2 H2 ps2 d1 d2 x y u v I2 Xs.pl r2.xT p2 q1' q2 rx ry (by rw [← c2, ← c1]; exact n0)) fun z s3 hz => epI hz ?_
  intro v' H' hq
  obtain ⟨d, ps', g1, g2, g3, g4⟩ := QV.back (x1.trans x2) p2 (c2.symm.trans c1.symm) v' H' hq
  have e3 : tvF (op2F F f1 f2) ρ ps = asB d ps' := bind_ok g1
  obtain ⟨bb, rfl, e4⟩ := asB_ok (by rw [← e3]; exact n)
  have q5 := g4
  unfold RepQ at q5
  unfold Rep at q5
  exact ⟨bb, q5, ps', by rw [e3, e4], g2, g3⟩
end
end DL
set_option Elab.async false
set_option linter.all false
set_option maxRecDepth 100000
set_option maxHeartbeats 2000000
/-! D42: errors of the program's own (over Exception, one field, or none): made and raised. -/
namespace DL
open PySem PySem.Spec PyProof.Rows L2

abbrev exB : List Value := [.type "Exception", .type "BaseException", .type "object"]
/-- what the written part says of an error's class at C -/
structure XcC (K : PySem.W.Frag) (C : Addr) : Prop where
  cls : ∃ nm q N bs bm sn sub ab col dd k0 k1 k2 k3 k5, K.lookup C = some (excClassObj nm q C N bs bm true sn sub ab col dd k0 k1 k2 k3 k5 "Exception.__new__") ∧ PySem.W.excTail exB bm = true
  sa : PySem.W.findIn K (.ref C) "__setattr__" = some (some (.builtin "object.__setattr__"))
  ga : PySem.W.findIn K (.ref C) "__getattribute__" = some (some (.builtin "BaseException.__getattribute__"))
  gg : PySem.W.findIn K (.ref C) "__getattr__" = some none
  kC : PySem.W.keepIn K (.ref C) = true
  exC : PySem.W.subIn K (.ref C) (.type "BaseException") = some true
  tyC : PySem.W.typeIn K (.ref C) = some (.type "type")
  hdC : PySem.W.hasDictIn K C = true
theorem XcC.fld {K : PySem.W.Frag} {C : Addr} (T : XcC K C) : XfC K C := ⟨T.ga, T.gg, T.exC, T.hdC⟩
/-- its __init__(self, f): self.f = f -/
structure XcI (K : PySem.W.Frag) (C fI : Addr) (fd : FuncData) (f : Str) : Prop extends XcC K C where
  init : PySem.W.findIn K (.ref C) "__init__" = some (some (.ref fI))
  tyI : PySem.W.typeIn K (.ref fI) = some (.type "function")
  noN : PySem.W.findIn K (.ref C) f = some none
  fn : ∃ (oc : Value) (od : Option Addr) (osl : Array (Option Value)) (qual : Str) (pr : Arguments) (sc : Scope) (kV doc pm : Value) (an : Option Addr) (cdv ct : Value) (q1 q2 q3 q4 : Pos),
    fd = PySem.W.fnOf "__init__" qual pr [.Assign [.Attribute (.Name "self" q1) f q2] (.Name f q3) q4] sc .none kV doc pm an cdv ct ∧ K.lookup fI = some ⟨oc, od, .func fd, osl⟩ ∧ PySem.W.codeIn K cdv qual = true ∧
    (∀ a b : Value, bindArgs fd ⟨[a, b], []⟩ = pure [(("self" : Str), a), (f, b)]) ∧ sc.names = [(("self" : Str), NameKind.local), (f, NameKind.local)] ∧ sc.isCoroutine = false ∧ sc.isGenerator = false ∧ sc.kind = .function
theorem one_fits (v : Value) : [v].length ≤ sizeLine := by
  rw [sizeLine_eq]
  exact (by decide : 1 ≤ 16777216)
theorem ld_own {M : Model} {s : Shared} {name : Str} {scope : Scope} {L a : Addr} {cd : Value} {mm : Str → Option Value} {x : Str} {pos : Pos} {v : Value} {Q : Value → Shared → Prop} {A : Around} {E : Value → Shared → Prop} (hn : s.heap.Ns L mm) (hv : mm x = some v)
    (hk : scope.kind = .function) (hl : (envOfC name scope L a cd).kindOf x = some .local) (hd : (x == ("__debug__" : Str)) = false) (h : Q v s) : wpAny M A (eval (.Name x pos) (envOfC name scope L a cd)) Q E s :=
  wpAny_Name (wpAny_loadName_local hk hl hn hv h) hd
/-- what __init__ leaves of a fresh error at x -/
structure XcEnd (h h' : Heap) (x C dx t1 : Addr) (f : Str) (v : Value) : Prop where
  stay : ∀ b o, b ≠ x → h.get? b = some o → h'.get? b = some o
  obj : h'.get? x = some { cls := .ref C, dict := some dx, data := .fields #[.ref t1, .none, .none, .none, .bool false, .none] }
  far : h.objs.size ≤ dx
  dne : dx ≠ x
  ns : h'.Ns1 dx (fun y => if y = f then some v else none)
/-- a made one -/
structure XcMade (h h' : Heap) (e C d : Addr) (f : Str) (v : Value) : Prop where
  stay : ∀ b o, h.get? b = some o → h'.get? b = some o
  new : h.objs.size ≤ e
  obj : ∃ oe vs, h'.get? e = some oe ∧ oe.cls = .ref C ∧ oe.dict = some d ∧ oe.data = .fields vs ∧ vs[1]? = some .none
  far : h.objs.size ≤ d
  dne : d ≠ e
  ns : h'.Ns1 d (fun y => if y = f then some v else none)
section
open Builtin Builtin.ObjectAttr
variable {prog : Program} {w : World} {A : Around} {E : Value → Shared → Prop} {R : Result → Shared → Prop} {hp : Heap} {g : Array GenState} {d : Drawn} {t : Nat} {os : OsState} {K : PySem.W.Frag}
theorem xc_osa {name : Str} {tk : Tok} {v : Value} {x C : Addr} {fv : Array Value} {cd : ClassData}
    (X : K.In hp) (hx : hp.get? x = some { cls := .ref C, data := .fields fv }) (hcd : PySem.W.clsIn K C = some cd) (hm : PySem.W.excTail exB cd.mro = true) (hh : cd.hasDict = true) (ha : PySem.W.findIn K (.ref C) name = some none)
    (hq : ∀ h' tk' dx, (∀ b o, b ≠ x → hp.get? b = some o → h'.get? b = some o) → hp.objs.size ≤ dx → dx ≠ x → h'.get? x = some { cls := .ref C, dict := some dx, data := .fields fv } → h'.Ns1 dx (fun y => if y = name then some v else none) → R (.ok (.ret .none)) ⟨h', g, d, tk', os⟩) :
    codeAny (model prog w) A (.call (.builtin "object.__setattr__") ⟨[.ref x, .str name tk, v], []⟩) R ⟨hp, g, d, t, os⟩ := by
  have I : PySem.W.InstAt hp x { cls := .ref C, data := .fields fv } C none := ⟨hx, rfl, rfl, trivial⟩
  have SF := PySem.F.store_object
  have ne : cd.mro.isEmpty = false := by
    cases e : cd.mro with
    | nil => rw [e] at hm; exact absurd hm (by decide)
    | cons _ _ => rfl
  have hob : cd.mro.contains (.type "object") = true := (PySem.W.excTail_contains "object" _ hm).trans (by decide +kernel)
  have hxs : x ≠ hp.objs.size := Nat.ne_of_lt (Heap.lt_size hx)
  have sub : PySem.W.Looks (model prog w) hp (isInstance (.ref x) (.type "object")) true := I.type.andThen (PySem.W.looks_mroIn X (by unfold PySem.W.mroIn; rw [hcd, Option.bind_some, if_neg (by rw [ne]; decide), hob]))
  refine codeAny_call_builtin SF.slot.plain SF.entry (@PySem.W.check_slot (model prog w) _ _ ⟨hp, g, d, t, os⟩ "object.__setattr__" "object" "__setattr__" (.ref x) [.str name tk, v] [] _ SF.kind SF.split sub (SF.args (.ref x) (.str name tk) v) ?_)
  have hmr : PySem.W.Looks (model prog w) hp (mroOf (.ref C)) cd.mro := (PySem.W.looks_clsIn X hcd).andThen .now
  have L3 : PySem.W.Looks (model prog w) hp (storeTaker? none) none := .now
  have hcls : PySem.W.Looks (model prog w) hp (classData C) cd := PySem.W.looks_clsIn X hcd
  rw [PySem.W.osa_eq, refuse_eq]
  refine wpAny_bind (wpAny_bind (I.type.at (wpAny_bind (hmr.at ?_))))
  rw [PySem.W.excTail_pass _ (PySem.F.store_Exception.passes _) _ hm]
  refine wpAny_pure (wpAny_bind (I.type.at (wpAny_bind ((PySem.W.looks_findIn X ha).at (wpAny_bind (L3.at ?_))))))
  show wpAny _ _ (storeInOwnDict (.ref x) (.ref C) (.str name tk) name v false) _ _ _
  obtain ⟨nm, bs, mro, ns, qn, hd, sn, sb, ab, col, del⟩ := cd
  dsimp only at hh
  subst hh
  unfold storeInOwnDict ownDictForStores
  repeat (first | with_reducible refine PySem.HandSPX.store_in_new ?_ ?_ | with_reducible refine wpAny_loadPart_at hx ?_ | with_reducible refine hcls.at ?_ | wp_step)
  · exact ⟨_, #[], _, (Heap.get?_update_ne _ _ _ _ hxs.symm).trans (Heap.get?_push_at rfl rfl), rfl, fun e he => absurd he (by simp), fun _ => rfl⟩
  · intro h' tk' hn' hs
    have hx₁ : (hp.push { cls := .type "dict", data := .dict #[] }).get? x = some { cls := .ref C, data := .fields fv } := Heap.get?_push_of_some _ hx
    refine hq h' tk' hp.objs.size (fun b o hb ho => ?_) (Nat.le_refl _) hxs.symm ?_ hn'
    · exact (hs.2 b (Nat.ne_of_lt (Heap.lt_size ho))).trans ((Heap.get?_update_ne _ _ _ _ hb).trans (Heap.get?_push_of_some _ ho))
    · exact (hs.2 x hxs).trans (Heap.get?_update_self _ hx₁ rfl)
end
section
variable {prog : Program} {w : World} {A : Around} {E : Value → Shared → Prop} {R : Result → Shared → Prop} {s : Shared} {K : PySem.W.Frag} {C fI : Addr} {fd : FuncData} {f : Str}
theorem xc_init (T : XcI K C fI fd f) (hfs : (f == ("self" : Str)) = false) (hfd : (f == ("__debug__" : Str)) = false) {x t0 : Addr} {v : Value} (X : K.In s.heap) (hlim : s.heap.NoLimit) (hx : s.heap.get? x = some (PySem.HandSPX.excO C t0)) (hroom : A.depth < recursionLimit)
    (hq : ∀ h' tk dx, XcEnd s.heap h' x C dx t0 f v → R (.ok (.ret .none)) { s with heap := h', toks := tk }) :
    codeAny (model prog w) A (.call (.ref fI) ⟨[.ref x, v], []⟩) R s := by
  obtain ⟨oc, od, osl, qual, pr, sc, kV, doc, pm, an, cdv, ct, q1, q2, q3, q4, rfl, ho, hcd, hb, hsc, hco, hgen, hk⟩ := T.fn
  obtain ⟨nm, q, N, bs, bm, sn, sub, ab, col, dd, k0, k1, k2, k3, k5, hC, hbm⟩ := T.cls
  have hcl : PySem.W.clsIn K C = some { name := nm, bases := bs, mro := .ref C :: bm, ns := N, qualname := q, hasDict := true, slotNames := sn, subclasses := sub, abstract := ab, collection := col, hasDel := false } := by unfold PySem.W.clsIn; rw [hC] <;> rfl
  have hne : f ≠ "self" := fun z => by rw [z] at hfs; exact absurd hfs (by decide)
  have lS : sc.names.lookup ("self" : Str) = some NameKind.local := by rw [hsc]; rfl
  have lF : sc.names.lookup f = some NameKind.local := by
    rw [hsc]
    show (match (f == ("self" : Str)) with | true => _ | false => _) = _
    rw [hfs]
    show (match (f == f) with | true => _ | false => _) = _
    rw [beq_self_eq_true]
  refine _root_.Att.call_fn (binds := [(("self" : Str), Value.ref x), (f, v)]) X hlim ho hcd hroom (BindsTo.of_eq (hb _ _)) ?_ (fun s₁ IC => ?_) hco hgen hk
  · show ((_ == _ || _ == _) && ((_ == _ || _ == _) && true)) = true
    rw [lS, lF]; rfl
  obtain ⟨h₁, tk₁, rfl⟩ := IC.toInCall.same
  have k : ∀ b o, s.heap.get? b = some o → h₁.get? b = some o := IC.toInCall.keep
  have hn := IC.toInCall.ns
  have hxL : s.heap.objs.size ≠ x := Nat.ne_of_gt (Heap.lt_size hx)
  have X₁ : K.In h₁ := X.keeps k
  have hx₁ := k _ _ hx
  have kS : (envOfC qual sc s.heap.objs.size fI cdv).kindOf "self" = some .local := lS
  have kF : (envOfC qual sc s.heap.objs.size fI cdv).kindOf f = some .local := lF
  have bF : bindL (envOfC qual sc s.heap.objs.size fI cdv).kindOf [(("self" : Str), Value.ref x), (f, v)] (fun _ => none) f = some v := by
    unfold bindL bindL bindL
    rw [if_pos kS, if_pos kF, if_pos rfl]
  have bS : bindL (envOfC qual sc s.heap.objs.size fI cdv).kindOf [(("self" : Str), Value.ref x), (f, v)] (fun _ => none) "self" = some (.ref x) := by
    unfold bindL bindL bindL
    rw [if_pos kS, if_pos kF, if_neg (fun z => hne z.symm), if_pos rfl]
  -- self.f = f
  show wpAny _ _ (execs _ _) _ _ _
  refine wpAny_execs_cons (plainObj_wpAny_Assign_Attribute ?_)
  refine ld_own (v := v) hn bF hk kF hfd (ld_own (v := .ref x) hn bS hk kS (by decide) ?_)
  refine PySem.W.set_plain X₁ (ox := PySem.HandSPX.excO C t0) (od := none) ⟨hx₁, rfl, rfl, trivial⟩ T.sa ?_
  refine xc_osa X₁ hx₁ hcl (show PySem.W.excTail exB (.ref C :: bm) = true from hbm) rfl T.noN (fun h₃ tk₃ dx k₃ dn dne hx₃ hn₃ => ?_)
  show wpAny _ _ (execs _ _) _ _ _
  have z : s.heap.objs.size < h₁.objs.size := hn.lt
  exact wpAny_execs_nil (hq h₃ tk₃ dx ⟨fun b o hb e => k₃ b o hb (k b o e), hx₃, Nat.le_of_lt (Nat.lt_of_lt_of_le z dn), dne, hn₃⟩)
theorem xc_made (T : XcI K C fI fd f) (hfs : (f == ("self" : Str)) = false) (hfd : (f == ("__debug__" : Str)) = false) {v : Value} (X : K.In s.heap) (hlim : s.heap.NoLimit) (hroom : A.depth + 1 < recursionLimit)
    (hq : ∀ h' tk e d, XcMade s.heap h' e C d f v → R (.ok (.ret (.ref e))) { s with heap := h', toks := tk }) :
    codeAny (model prog w) A (.call (.ref C) ⟨[v], []⟩) R s := by
  obtain ⟨nm, q, N, bs, bm, sn, sub, ab, col, dd, k0, k1, k2, k3, k5, hC, hbm⟩ := T.cls
  obtain ⟨hp, g, dr, tk, os⟩ := s
  have k : ∀ b o, hp.get? b = some o → ((hp.push (PySem.W.kdv_tup [v])).push (PySem.HandSPX.excO C hp.objs.size)).get? b = some o := fun b o e => Heap.get?_push_of_some _ (Heap.get?_push_of_some _ e)
  have hget : ((hp.push (PySem.W.kdv_tup [v])).push (PySem.HandSPX.excO C hp.objs.size)).get? (hp.objs.size + 1) = some (PySem.HandSPX.excO C hp.objs.size) := by heap_get
  refine PySem.HandSPX.call_own PySem.F.excBase_Exception (fun Y => PySem.W.excTail_contains Y bm hbm) (X _ _ hC) (PySem.W.looks_findIn X T.init) (fun self => PySem.W.bind_fn X self T.tyI) (one_fits v) ?_
  refine xc_init (s := ⟨(hp.push (PySem.W.kdv_tup [v])).push (PySem.HandSPX.excO C hp.objs.size), g, dr, tk, os⟩) T hfs hfd (X.keeps k) (hlim.keeps k) hget ?_ fun h' tk' dx ⟨k', hx, dn, dne, hns⟩ => ?_
  · show A.depth + 1 < recursionLimit
    exact hroom
  · have old : ∀ b o, hp.get? b = some o → h'.get? b = some o := fun b o e => k' b o (Nat.ne_of_lt (Nat.lt_succ_of_lt (Heap.lt_size e))) (k b o e)
    have z : hp.objs.size + 1 + 1 ≤ dx := by
      first
        | (simpa only [Heap.size_push] using dn)
        | exact dn
        | (have q := dn; rw [Heap.size_push, Heap.size_push] at q; exact q)
    exact ⟨rfl, hq h' tk' (hp.objs.size + 1) dx ⟨old, Nat.le_succ _, ⟨_, _, hx, rfl, rfl, rfl, rfl⟩, Nat.le_trans (Nat.le_trans (Nat.le_succ _) (Nat.le_succ _)) z, dne, hns⟩⟩
end
theorem relO_one {v : V} {v' : Value} (r : RelV v v') (f g : Str) : RelO (List.lookup g [(f, v)]) (if g = f then some v' else none) := by
  by_cases h : g = f
  · subst h
    rw [if_pos rfl]
    have q : List.lookup g [(g, v)] = some v := by simp [List.lookup]
    rw [q]; exact r
  · rw [if_neg h]
    have q1 : (g == f) = false := by simpa using h
    have q2 : List.lookup g [(f, v)] = none := by simp [List.lookup, q1]
    rw [q2]; trivial
section
variable {X : Cx} {C fI : Addr} {fd : FuncData} {fld nm : Str}
/-- X(e): the error made, its field's value that of e -/
def tXc (C : Addr) (fld : Str) (ta : TA) : L2.St → Hp → XK → Prop := fun σ H Q => ta σ H fun vs H1 => ∃ v, vs = [v] ∧ ∀ d, H1 d = none → Q (.ref C) (some d) (upd H1 d (.xd [(fld, v)]))
theorem pmk_xc {a : Expr} {ta : TA} {p pos : Pos} {k : Nat} (T : XcI X.K C fI fd fld) (hfs : (fld == ("self" : Str)) = false) (hfd : (fld == ("__debug__" : Str)) = false) (hm : X.mg nm = some (.ref C)) (hr : Room k X.A) (ha : PA X [a] ta) (hg : Gl X nm) (hdb : (nm == ("__debug__" : Str)) = false)
    (he : starEach (a :: []) X.env = (false, eval a X.env) :: starEach [] X.env) (hpl : (backTo pos (starEach [] X.env)).any (·.1) = false) : PMk X (.Call (.Name nm p) [a] [] pos) (tXc C fld ta) := by
  intro pins s σ H Q I h
  refine wpAny_Call_Name_kw (ld_glob I hg hm ?_ hdb)
  refine PySem.W.callWith_K (h₀ := X.base) I.ok.mod.kin T.kC (thn (ha.run pos pins s σ H _ I h) fun us s1 hh => ?_) he hpl
  obtain ⟨vs, H1, I1, r1, v, ev, q1⟩ := hh
  subst ev
  refine ⟨I1.kIn, ?_⟩
  cases r1 with
  | cons rv rn =>
    rename_i v' us'
    cases rn
    show wpAny _ _ (call (.ref C) [v']) _ _ _
    have hlim := I1.nolimit
    obtain ⟨hp, g, dr, tk, os⟩ := s1
    refine wpAny_call (xc_made T hfs hfd I1.kIn hlim (by have := hr.dp; omega) fun h' tk' e d M => ?_)
    show MkP X pins σ Q (.ref e) ⟨h', g, dr, tk', os⟩
    obtain ⟨oe, fv, hoe, hc, hd, hdat, h1⟩ := M.obj
    have hns := M.ns
    obtain ⟨G', g1, g2⟩ := restrict h' fun b => decide (b ≠ e)
    have gk : ∀ b, b ≠ e → G'.get? b = h'.get? b := fun b hb => g1 b (decide_eq_true hb)
    have ge : G'.get? e = none := g2 e (by simp)
    have old : ∀ b o, hp.get? b = some o → G'.get? b = some o := fun b o q => (gk b (Nat.ne_of_lt (Nat.lt_of_lt_of_le (Heap.lt_size q) M.new))).trans (M.stay b o q)
    have ob : ObjOk X.prog X.w (upd H1 d (.xd [(fld, v)])) G' d (.xd [(fld, v)]) :=
      ⟨_, hns.at (fun o q => (gk d M.dne).trans q), fun f => relO_one rv fld f⟩
    have J : Inv X pins σ (upd H1 d (.xd [(fld, v)])) ⟨G', g, dr, tk', os⟩ := I1.laid (t' := tk') old M.far ob
    refine ⟨e, oe, fv, ⟨G', g, dr, tk', os⟩, _, .ref C, some d, rfl, J, fun b o q => ?_, ge, hoe, ⟨hc, hd⟩, hdat, h1, ?_, rfl, I1.bare, raises_own T.exC T.tyC, q1 d (I1.hok.fresh M.far)⟩
    · by_cases hb : b = e
      · have q' : G'.get? b = some o := q
        rw [hb, ge] at q'; cases q'
      · exact (gk b hb).symm.trans q
    · rw [upd_ne (Ne.symm M.dne)]
      exact I1.hok.fresh M.new
end
section
variable {X : Cx} {W : WX} {J : JP} {m m' : List Md} {e : Expr} {f : FE} {p pos pos2 : Pos}
/-- raise X(e) -/
def raF (C : Addr) (fld : Str) (f : FE) : SF := fun ρ => do let d ← f ρ; R.exc ⟨C, [(fld, d)]⟩
theorem ds_raise {C fI : Addr} {fd : FuncData} {fld nm : Str} {k : Nat} (h : Dx .cl X W m e f) (T : XcI X.K C fI fd fld) (hm : X.mg nm = some (.ref C)) (hr : Room k X.A) (tk : Takes X W) (hc : X.calm = true := by rfl)
    (hfs : (fld == ("self" : Str)) = false := by decide) (hfd : (fld == ("__debug__" : Str)) = false := by decide) (hg : Gl X nm := by rfl) (hdb : (nm == ("__debug__" : Str)) = false := by decide)
    (he : starEach (e :: []) X.env = (false, eval e X.env) :: starEach [] X.env := by rfl) (hpl : (backTo pos (starEach [] X.env)).any (·.1) = false := by rfl) :
    Ds X W J m m' (.Raise (some (.Call (.Name nm p) [e] [] pos)) none pos2) (raF C fld f) := by
  refine ⟨fun g own pins s σ ρ H ps I r hx n w => ?_⟩
  refine (ps_raise hc tk (pmk_xc T hfs hfd hm hr (pa_cons (pe_c X e) pa_nil he) hg hdb he hpl)).run pins s σ H _ I ?_
  refine cE.mono (h.c r (ne_of_bind n) (WS.ex w r)) fun v H1 ⟨d, ps1, e1, x1, p1, q1⟩ => ?_
  refine ⟨v, rfl, fun dx hdx => ?_⟩
  have e2 : raF C fld f ρ ps = .exc ⟨C, [(fld, d)]⟩ ps1 := bind_ok e1
  have r1 := r.mono x1 p1
  have x2 : Exo (plS g.pl) H1 (upd H1 dx (.xd [(fld, v)])) := Exo.new hdx
  refine w ⟨C, [(fld, d)]⟩ ps1 dx _ σ e2 (r.base.trans (x1.trans x2)) (p1.new hdx) ⟨[(fld, v)], upd_same, ?_⟩ fun p hp => ?_
  · unfold RepF
    refine ⟨v, [], rfl, ?_, by unfold RepF; rfl⟩
    exact (Rep.mono (x2.hid Xs.pl) q1).mono (hid_sub Xs.eo)
  · obtain ⟨v', h3, h4⟩ := r1.sx p hp
    exact ⟨v', h3, (h4.mono (x2.hid Xs.pl)).mono (hid_sub Xs.eo)⟩
end
end DL
set_option Elab.async false
set_option linter.all false
set_option maxRecDepth 100000
set_option maxHeartbeats 2000000
/-! D43: try with several clauses, each with or without a name. -/
namespace DL
open PySem PySem.Spec PyProof.Rows L2

abbrev TSx := Addr → Value → Option Addr → TS
/-- a suite behind whose end slot i is empty -/
def unI (i : Nat) (D : Ends) : Ends := { nx := fun σ H => D.nx (σ.set i none) H, rt := D.rt, bk := fun σ H => D.bk (σ.set i none) H, ct := fun σ H => D.ct (σ.set i none) H }
def wMA (K : PySem.W.Frag) (Wout : WX) (D : Ends) : List (Value × Option Nat × TSx) → WX
  | [] => Wout
  | (c, none, ts) :: r => fun cls d σ H => ∃ b, PySem.W.exmOne K cls c = some b ∧ (b = true → ∀ a, H a = none → ts a cls d D σ H) ∧ (b = false → wMA K Wout D r cls d σ H)
  | (c, some i, ts) :: r => fun cls d σ H => ∃ b, PySem.W.exmOne K cls c = some b ∧ (b = true → ∀ a, H a = none → ts a cls d (unI i D) (σ.set i (some (.ref a))) H) ∧ (b = false → wMA K Wout D r cls d σ H)
inductive HdsA (X : Cx) : List ExceptHandler → List (Value × Option Nat × TSx) → Prop
  | nil : HdsA X [] []
  | only {x : Str} {c : Value} {ts : TSx} {b₀ : Stmt} {suite : List Stmt} {np pos' : Pos} {hds : List ExceptHandler} {l : List (Value × Option Nat × TSx)} (hc : Names X x c)
      (hsu : ∀ (a : Addr) (oe : Obj) (cls : Value) (d : Option Addr) (pn : List (Addr × Obj)), Zc cls d oe → (∃ vs, oe.data = .fields vs) → PSs (X.suite a ((a, oe) :: pn)) (b₀ :: suite) (ts a cls d)) (r : HdsA X hds l) :
      HdsA X (.ExceptHandler (some (.Name x np)) none (b₀ :: suite) pos' :: hds) ((c, none, ts) :: l)
  | named {x n : Str} {i : Nat} {c : Value} {ts : TSx} {b₀ : Stmt} {suite : List Stmt} {np pos' : Pos} {hds : List ExceptHandler} {l : List (Value × Option Nat × TSx)} (hc : Names X x c) (hN : X.N.Nodup) (hi : X.N[i]? = some n) (hln : X.env.kindOf n = some .local)
      (hsu : ∀ (a : Addr) (oe : Obj) (cls : Value) (d : Option Addr) (pn : List (Addr × Obj)), Zc cls d oe → (∃ vs, oe.data = .fields vs) → PSs (X.suite a ((a, oe) :: pn)) (b₀ :: suite) (ts a cls d)) (r : HdsA X hds l) :
      HdsA X (.ExceptHandler (some (.Name x np)) (some n) (b₀ :: suite) pos' :: hds) ((c, some i, ts) :: l)
section
variable {X : Cx} {body : List Stmt} {h₀ : ExceptHandler} {hds : List ExceptHandler} {l : List (Value × Option Nat × TSx)} {pos : Pos} {tb : WX → TS} {Wout : WX}
theorem ps_try_all (hs : X.stack = X.env :: X.outer) (hf : X.env.frame = some X.env.locals) (tk : Takes X Wout)
    (hb : ∀ (W : WX) (pn : List (Addr × Obj)) (xe : Value → Shared → Prop), Takes (X.tr pn xe) W → PassesOwn (model X.prog X.w) X.A X.env xe → PSs (X.tr pn xe) body (tb W))
    (hh : HdsA X (h₀ :: hds) l) : PS X (.Try body (h₀ :: hds) [] [] pos) (fun D σ H => tb (wMA X.K Wout D l) D σ H) := by
  refine ⟨fun pins s σ H D I h => ?_⟩
  have ok := I.ok
  have hfr : X.A.frames = some (X.env :: X.outer) := by rw [ok.frames, hs]
  refine wpAny_Try_except ?_
  refine wpAny_mono ((hb (wMA X.K Wout D l) (X.pn ++ pins) (fun e s₁ => wpAny (model X.prog X.w) X.A (noteFrame e X.env) (fun _ s₂ => wpAny (model X.prog X.w) X.A (setFlight e none) (fun _ s₃ =>
    wpAny (model X.prog X.w) X.A (handleBy e X.env (h₀ :: hds)) (SP X pins D) X.xe s₃) X.xe s₂) X.xe s₁) (fun u s' xx => ?_) PassesOwn.looking).run [] s σ H D (I.toTry _) h) (fun f s1 hsp => ?_) (fun e s1 he => he)
  · obtain ⟨a, B, sI, pins', σ', H', cls, d, rfl, J', nb, up, sky, na, os, ag, w⟩ := xx
    have J : Inv X pins σ' H' sI := J'.ofTry ok
    have sky' : Sky B (X.env :: X.outer) a (Zc cls d) X.env.locals s'.heap := by rw [← hs]; exact sky
    show wpAny (model X.prog X.w) X.A (noteFrame (.ref a) X.env) _ _ _
    refine Sky.land Zc.steady hfr hf sky' fun h3 fl3 up3 => ?_
    have J3 : Inv X pins σ' H' { s' with heap := h3 } := J.landed nb fl3.1 (up.trans up3) os ag
    obtain ⟨oe3, vs3, he3, hz3, hd3⟩ := fl3.there
    have notFr : ∀ {h : Heap} {o : Obj} {vs : Array Value}, h.FunFrames B (X.env :: X.outer) → h.get? a = some o → o.data = .fields vs → a ∉ frs (X.env :: X.outer) := fun {h o vs} ff e dd hm => by
      obtain ⟨_, o', e', hnf⟩ := ff.mem hm
      rw [e] at e'; cases e'
      exact hnf _ dd
    have nfr := notFr fl3.2.2.1 he3 hd3
    have nL : a ≠ X.env.locals := fun z => nfr (List.mem_filterMap.mpr ⟨X.env, List.mem_cons_self, by rw [hf, z]⟩)
    have nF : a ∉ X.fs := fun hm => by
      obtain ⟨e, he, q⟩ := List.mem_filterMap.mp hm
      exact nfr (List.mem_filterMap.mpr ⟨e, List.mem_cons_of_mem _ he, q⟩)
    have S3 := J3.suite he3 hd3 na nL nF
    have test0 : ∀ {x : Str} {c : Value} {np : Pos}, Names X x c → ∀ {Q : Value → Shared → Prop} {E : Value → Shared → Prop}, Q c { s' with heap := h3 } → wpAny (model X.prog X.w) (X.A.mark (some (.ref a))) (eval (.Name x np) X.env) Q E { s' with heap := h3 } := fun {x c np} hc {Q E} q => by
      obtain ⟨hg, hdbg, hm | ⟨hm, hv, hnn⟩⟩ := hc
      · exact ld_glob (X := X.suite a ((a, oe3) :: (X.pn ++ pins))) S3 hg hm q hdbg
      · exact ld_blt (X := X.suite a ((a, oe3) :: (X.pn ++ pins))) S3 hg hm hv q hnn hdbg
    have LT : PySem.W.Looks (model X.prog X.w) h3 (typeOf (.ref a)) cls := fun A Q E s k q => wpAny_typeOf_ref (k _ _ he3) (by rw [hz3.1]; exact q)
    have go : ∀ {hds' : List ExceptHandler} {l' : List (Value × Option Nat × TSx)}, HdsA X hds' l' → wMA X.K Wout D l' cls d σ' H' →
        wpAny (model X.prog X.w) X.A (handleBy (.ref a) X.env hds') (SP X pins D) X.xe { s' with heap := h3 } := by
      intro hds' l' hk
      induction hk with
      | nil =>
        intro w
        refine wpAny_handleBy_nil ?_
        obtain ⟨k1, k2, k3, oe, vs, T, oT, ts', he, hz, hd, h1, hr⟩ := id fl3
        unfold PySem.passOn
        refine wpAny_bind (wpAny_field he hd h1 ?_)
        rw [if_neg (show ¬ ((Value.ref T == Value.none) = true) from by simp)]
        have fin : wpAny (model X.prog X.w) X.A (setFlight (.ref a) X.env.frame) (fun _ s4 => wpAny (model X.prog X.w) X.A (throw (.ref a) : Sem Flow) (SP X pins D) X.xe s4) X.xe { s' with heap := h3 } := by
          rw [hf]
          refine HandSPX.setFlight_upZ fl3 fun h4 hh4 up4 => wpAny_throw (tk _ _ ?_)
          exact ⟨a, B, sI, pins, σ', H', cls, d, rfl, J, nb, (up.trans up3).trans up4, .inr (.inr (by rw [hs]; exact hh4)), na, os, ag, w⟩
        first
          | exact wpAny_bind (wpAny_pure (wpAny_bind fin))
          | exact wpAny_bind fin
      | @only x c ts b₀ suite np pos' hds2 l2 hc hsu r ih =>
        intro w
        obtain ⟨b, hb1, hyes, hno⟩ := w
        refine wpAny_handleBy_cons (codeAny_handlers_test ?_) (by intro q; cases q)
        refine test0 hc ((PySem.W.exm_one (M := model X.prog X.w) (J3.kIn) LT hb1).here ?_)
        cases b with
        | true =>
          refine codeAny_handlers_suite ?_
          refine HandSPX.lands_againZ fl3 fun h4 fl4 up4 => ?_
          have J4 : Inv X pins σ' H' { s' with heap := h4 } := J.landed nb fl4.1 ((up.trans up3).trans up4) os ag
          obtain ⟨oe4, vs4, he4, hz4, hd4⟩ := fl4.there
          have S4 := J4.suite he4 hd4 na nL nF
          refine wpAny_mono ((hsu a oe4 cls d (X.pn ++ pins) hz4 ⟨_, hd4⟩).run [] _ _ H' _ S4 (hyes rfl a na)) (fun f s6 hsp => ?_) (fun _ _ z => False.elim z)
          cases f with
          | next => obtain ⟨σ6, H6, S6, q6⟩ := hsp; exact ⟨_, _, S6.unsuite ok, q6⟩
          | brk => obtain ⟨σ6, H6, S6, q6⟩ := hsp; exact ⟨_, _, S6.unsuite ok, q6⟩
          | cont => obtain ⟨σ6, H6, S6, q6⟩ := hsp; exact ⟨_, _, S6.unsuite ok, q6⟩
          | ret u => obtain ⟨v6, σ6, H6, S6, r6, q6⟩ := hsp; exact ⟨_, _, _, S6.unsuite ok, r6, q6⟩
        | false =>
          show wpAny _ X.A (handleBy (.ref a) X.env hds2) _ _ _
          exact ih (hno rfl)
      | @named x n i c ts b₀ suite np pos' hds2 l2 hc hN hi hln hsu r ih =>
        intro w
        obtain ⟨b, hb1, hyes, hno⟩ := w
        refine wpAny_handleBy_cons (codeAny_handlers_test ?_) (by intro q; cases q)
        refine test0 hc ((PySem.W.exm_one (M := model X.prog X.w) (J3.kIn) LT hb1).here ?_)
        cases b with
        | true =>
          refine codeAny_handlers_suite_as ?_
          refine HandSPX.lands_againZ fl3 fun h4 fl4 up4 => ?_
          have J4 : Inv X pins σ' H' { s' with heap := h4 } := J.landed nb fl4.1 ((up.trans up3).trans up4) os ag
          obtain ⟨oe4, vs4, he4, hz4, hd4⟩ := fl4.there
          have S4 := J4.suite he4 hd4 na nL nF
          refine store_ok (X := X.suite a ((a, oe4) :: (X.pn ++ pins))) (v := .ref a) S4 hN hi (.inl hln) rfl (fun s5 S5 => ?_) (.inr hln)
          refine wpAny_mono ((hsu a oe4 cls d (X.pn ++ pins) hz4 ⟨_, hd4⟩).run [] s5 _ H' _ S5 (hyes rfl a na)) (fun f s6 hsp => ?_) (fun _ _ z => False.elim z)
          have end_ : ∀ {σ6 : L2.St} {H6 : Hp} {Q : Shared → Prop}, Inv (X.suite a ((a, oe4) :: (X.pn ++ pins))) [] σ6 H6 s6 → (∀ s7, Inv X pins (σ6.set i none) H6 s7 → Q s7) →
              wpAny (model X.prog X.w) X.A (do bindName X.env n .none; unbindBehindTheSuite X.env n pos') (fun _ s7 => Q s7) X.xe s6 := fun {σ6 H6 Q} S6 hq => gone_ok (S6.unsuite ok) hN hi hln hq
          cases f with
          | next => obtain ⟨σ6, H6, S6, q6⟩ := hsp; exact end_ S6 fun s7 J7 => ⟨_, _, J7, q6⟩
          | brk => obtain ⟨σ6, H6, S6, q6⟩ := hsp; exact end_ S6 fun s7 J7 => ⟨_, _, J7, q6⟩
          | cont => obtain ⟨σ6, H6, S6, q6⟩ := hsp; exact end_ S6 fun s7 J7 => ⟨_, _, J7, q6⟩
          | ret u => obtain ⟨v6, σ6, H6, S6, r6, q6⟩ := hsp; exact end_ S6 fun s7 J7 => ⟨_, _, _, J7, r6, q6⟩
        | false =>
          show wpAny _ X.A (handleBy (.ref a) X.env hds2) _ _ _
          exact ih (hno rfl)
    exact go hh w
  · cases f with
    | next => obtain ⟨σ', H', J', q⟩ := hsp; exact wpAny_execs_nil ⟨σ', H', J'.ofTry ok, q⟩
    | brk => obtain ⟨σ', H', J', q⟩ := hsp; exact ⟨σ', H', J'.ofTry ok, q⟩
    | cont => obtain ⟨σ', H', J', q⟩ := hsp; exact ⟨σ', H', J'.ofTry ok, q⟩
    | ret u => obtain ⟨v, σ', H', J', r, q⟩ := hsp; exact ⟨v, σ', H', J'.ofTry ok, r, q⟩
end
end DL
set_option Elab.async false
set_option linter.all false
set_option maxRecDepth 100000
set_option maxHeartbeats 2000000
/-! D44: try over data. -/
namespace DL
open PySem PySem.Spec PyProof.Rows L2

/-- which classes a clause takes; its suite, by the caught error -/
abbrev Hdl := (Addr → Option Bool) × (Exn → SF)
def hdlF : List Hdl → Exn → SF
  | [], x => fun _ => R.exc x
  | (mt, f) :: r, x => fun ρ ps => match mt x.cls with
    | some true => noX (f x ρ) ps
    | some false => hdlF r x ρ ps
    | none => .und
def tryF (g1 : SF) (hl : List Hdl) : SF := fun ρ ps => match g1 ρ ps with
  | .exc x ps' => hdlF hl x ρ ps'
  | r => r
/-- slot i is the error's while the suite runs, and empty behind it -/
def unF (i : Nat) : Fl → R Fl
  | .nx ρ => pure (.nx (ρ.set i none))
  | .ct ρ => pure (.ct (ρ.set i none))
  | .bk ρ => pure (.bk (ρ.set i none))
  | .rt d ρ => pure (.rt d ρ)
def hdF (i : Nat) (f : SF) : Exn → SF := fun x ρ => do let fl ← f (ρ.set i (some (.ins x.cls x.fs))); unF i fl
/-- the field of the caught error in slot i -/
def xfF (i : Nat) (nm : Str) : FE := fun ρ => match ρ[i]?.join with
  | some (.ins _ fs) => ofO (fs.lookup nm)
  | _ => R.und
/-- what of m a suite knows: the slots of ks -/
def kpM (m : List Md) (ks : List Nat) : List Md := (List.range m.length).map fun i => if ks.contains i && (m[i]? == some .sh) then .sh else .no
theorem kpM_at {m : List Md} {ks : List Nat} {i : Nat} {x : Md} (h : (kpM m ks)[i]? = some x) : x = .no ∨ (x = .sh ∧ i ∈ ks ∧ m[i]? = some .sh) := by
  unfold kpM at h
  rw [List.getElem?_map] at h
  cases e : (List.range m.length)[i]? with
  | none => rw [e] at h; cases h
  | some j =>
    rw [e] at h
    have hj : j = i := by
      have := (List.getElem?_eq_some_iff.mp e).2
      rw [List.getElem_range] at this
      exact this.symm
    subst hj
    have h' : (if (ks.contains j && (m[j]? == some .sh)) = true then Md.sh else Md.no) = x := Option.some.inj h
    by_cases c : (ks.contains j && (m[j]? == some .sh)) = true
    · rw [if_pos c] at h'
      rw [Bool.and_eq_true] at c
      exact .inr ⟨h'.symm, by simpa using c.1, eq_of_beq c.2⟩
    · rw [if_neg c] at h'
      exact .inl h'.symm
/-- own objects of m -/
def OwA (m : List Md) (own : Nat → Addr) : Addr → Prop := fun a => ∃ i, (m[i]? = some .ow ∨ m[i]? = some .io) ∧ own i = a
/-- the slots that stay, their values -/
def keepV (ks : List Nat) (ρ : Rho) (m : List Md) : List (Nat × D) := (ks.filter fun i => m[i]? == some .sh).filterMap fun i => (ρ[i]?.join).map fun d => (i, d)
/-- the ghosts within a try's body -/
noncomputable def G.tr (g : G) (m : List Md) (own : Nat → Addr) (H : Hp) (kv : List (Nat × D)) : G := { g with B := hid (OwA m own) H, sx := kv ++ g.sx }
section
variable {K : PySem.W.Frag} {g : G} {m m' : List Md} {own own' : Nat → Addr} {σ σ' : L2.St} {ρ ρ' : Rho} {H H' : Hp} {ps ps' : Ps} {kv : List (Nat × D)} {ks : List Nat}
theorem keepV_mem {i : Nat} {d : D} (h : (i, d) ∈ keepV ks ρ m) : i ∈ ks ∧ m[i]? = some .sh ∧ ρ[i]? = some (some d) := by
  unfold keepV at h
  obtain ⟨j, h1, h2⟩ := List.mem_filterMap.mp h
  obtain ⟨h3, h4⟩ := List.mem_filter.mp h1
  obtain ⟨d', h5, h6⟩ := Option.map_eq_some_iff.mp h2
  cases h6
  exact ⟨h3, eq_of_beq h4, join_some h5⟩
theorem mem_keepV {i : Nat} {d : D} (h1 : i ∈ ks) (h2 : m[i]? = some .sh) (h3 : ρ[i]? = some (some d)) : (i, d) ∈ keepV ks ρ m := by
  unfold keepV
  refine List.mem_filterMap.mpr ⟨i, List.mem_filter.mpr ⟨h1, by rw [h2]; exact beq_self_eq_true _⟩, ?_⟩
  rw [h3]; rfl
theorem Rs.tr (r : Rs K g m own σ ρ H ps) (ks : List Nat) : Rs K (g.tr m own H (keepV ks ρ m)) m own σ ρ H ps := { r with
  ow := fun i q => by
    obtain ⟨d, h1, h2, h3, h4, h5⟩ := r.ow i q
    refine ⟨d, h1, h2, h3, ?_, h5⟩
    show hid (OwA m own) H (own i) = none
    unfold hid
    exact if_pos ⟨i, q, rfl⟩
  sx := fun p hp => by
    rcases List.mem_append.mp hp with h | h
    · obtain ⟨i, d⟩ := p
      obtain ⟨_, h2, h3⟩ := keepV_mem h
      obtain ⟨v, h4, h5⟩ := r.sh i d h2 h3
      exact ⟨v, h4, h5⟩
    · exact r.sx p h
  base := fun a o h n => (hid_of h).2 }
/-- what stood ahead of the try stands -/
theorem trB (r : Rs K g m own σ ρ H ps) {a : Addr} (np : ¬ plS g.pl a) (h : hid (OwA m own) H a = none) : g.B a = none := by
  cases e : g.B a with
  | none => rfl
  | some o =>
    have h1 := r.base a o e np
    by_cases c : OwA m own a
    · obtain ⟨i, q, rfl⟩ := c
      obtain ⟨_, _, _, _, h4, _⟩ := r.ow i q
      rw [h4] at e; cases e
    · rw [hid_at c, h1] at h; cases h
theorem trX (r : Rs K g m own σ ρ H ps) (e : Exo (plS g.pl) (hid (OwA m own) H) H') : Exo (plS g.pl) g.B H' := fun a o h n => by
  refine e a o ?_ n
  have h1 := r.base a o h n
  have no : ¬ OwA m own a := fun ⟨i, q, z⟩ => by
    obtain ⟨_, _, _, _, h4, _⟩ := r.ow i q
    rw [z, h] at h4; cases h4
  exact (hid_at no).trans h1
theorem trE (r : Rs K g m own σ ρ H ps) (e : Exo (plS g.pl) (hid (OwA m own) H) H') : Ex (hid (Xs m own g) H) (hid (Eo g) H') := fun a o h => by
  obtain ⟨n, h⟩ := hid_of h
  rw [hid_at fun z => n (Xs.eo a z)]
  refine e a o ?_ fun z => n (Xs.pl a z)
  rw [hid_at fun ⟨i, q, z⟩ => n (.inr (.inr ⟨i, q, z⟩))]
  exact h
theorem Rs.untr (r0 : Rs K g m own σ ρ H ps) (r : Rs K (g.tr m own H kv) m' own' σ' ρ' H' ps') : Rs K g m' own' σ' ρ' H' ps' := { r with
  ow := fun i q => by
    obtain ⟨d, h1, h2, h3, h4, h5⟩ := r.ow i q
    exact ⟨d, h1, h2, h3, trB r0 h5 h4, h5⟩
  sx := fun p hp => r.sx p (List.mem_append_right _ hp)
  base := trX r0 r.base }
/-- the state of a suite -/
theorem Rs.caught (r0 : Rs K g m own σ ρ H ps) (hio : ∀ (i : Nat), m[i]? ≠ some .io) (hl : σ'.length = ρ.length) (e : Exo (plS g.pl) (hid (OwA m own) H) H') (hp : PoolAt g.pl H' ps')
    (hx : ∀ p ∈ keepV ks ρ m ++ g.sx, ∃ v, σ'[p.1]? = some (some v) ∧ Rep g.pl K (hid (Eo g) H') p.2 v) : Rs K g (kpM m ks) own σ' ρ H' ps' := by
  have sub : ∀ a, Xs (kpM m ks) own g a → Eo g a := fun a z => by
    rcases z with z | z | ⟨i, z, _⟩
    · exact .inl z
    · exact .inr z
    · rcases z with z | z <;> rcases kpM_at z with q | ⟨q, _⟩ <;> cases q
  have ex : Ex (hid (Eo g) H') (hid (Xs (kpM m ks) own g) H') := hid_sub sub
  have noOw : ∀ (i : Nat), ¬ ((kpM m ks)[i]? = some .ow ∨ (kpM m ks)[i]? = some .io) := fun i z => by
    rcases z with z | z <;> rcases kpM_at z with q | ⟨q, _⟩ <;> cases q
  exact {
    len := hl.symm
    sh := fun i d h1 h2 => by
      rcases kpM_at h1 with q | ⟨_, h3, h4⟩
      · cases q
      · obtain ⟨v, h5, h6⟩ := hx (i, d) (List.mem_append_left _ (mem_keepV h3 h4 h2))
        exact ⟨v, h5, h6.mono ex⟩
    ow := fun i q => (noOw i q).elim
    sb := fun i d h1 h2 => by rcases kpM_at h1 with q | ⟨q, _⟩ <;> cases q
    xc := fun i a dx h1 => by rcases kpM_at h1 with q | ⟨q, _⟩ <;> cases q
    ex := fun p hp => ((r0.ex p hp).mono (trE r0 e)).mono ex
    sx := fun p hp => let ⟨v, h1, h2⟩ := hx p (List.mem_append_right _ hp); ⟨v, h1, h2.mono ex⟩
    inj := fun i j q _ _ => (noOw i q).elim
    nE := fun i q => (noOw i (.inl q)).elim
    base := trX r0 e
    pool := hp
    eT := fun a h z => by
      by_cases c : OwA m own a
      · obtain ⟨i, q | q, e⟩ := c
        · exact r0.nE i q (by rw [e]; exact h)
        · exact hio i q
      · have h1 := r0.eT a h
        cases q : H a with
        | none => exact h1 q
        | some o =>
          by_cases np : plS g.pl a
          · exact hp.there np z
          · rw [e a o (by rw [hid_at c]; exact q) np] at z; cases z }
theorem Rs.noc (r : Rs K g m own σ ρ H ps) {i : Nat} (hp : ∀ p ∈ g.sx, p.1 ≠ i) : Rs K g (m.set i .no) own (σ.set i none) (ρ.set i none) H ps := by
  have r1 := r.weak (leM_set m i)
  have ne : ∀ {j : Nat} {x : Md}, (m.set i .no)[j]? = some x → x ≠ .no → j ≠ i := fun {j x} h hx z => by
    subst z
    rcases set_at h with ⟨_, z, _⟩ | ⟨z, _⟩
    · exact hx z
    · exact z rfl
  exact {
    len := by rw [List.length_set, List.length_set]; exact r.len
    sh := fun j d h1 h2 => by
      have e := ne h1 (by decide)
      rw [List.getElem?_set_ne (Ne.symm e)] at h2
      obtain ⟨w, h3, h4⟩ := r1.sh j d h1 h2
      exact ⟨w, by rw [List.getElem?_set_ne (Ne.symm e)]; exact h3, h4⟩
    ow := fun j h => by
      have e : j ≠ i := by rcases h with h | h <;> exact ne h (by decide)
      obtain ⟨d, h1, h2, h3⟩ := r1.ow j h
      exact ⟨d, by rw [List.getElem?_set_ne (Ne.symm e)]; exact h1, by rw [List.getElem?_set_ne (Ne.symm e)]; exact h2, h3⟩
    sb := fun j d h1 h2 => by
      have e := ne h1 (by decide)
      rw [List.getElem?_set_ne (Ne.symm e)] at h2
      obtain ⟨w, h3, h4⟩ := r1.sb j d h1 h2
      exact ⟨w, by rw [List.getElem?_set_ne (Ne.symm e)]; exact h3, h4⟩
    xc := fun j a dx h => by
      have e : j ≠ i := ne h (fun z => nomatch z)
      obtain ⟨d, h1, h2, h3⟩ := r1.xc j a dx h
      exact ⟨d, by rw [List.getElem?_set_ne (Ne.symm e)]; exact h1, by rw [List.getElem?_set_ne (Ne.symm e)]; exact h2, h3⟩
    ex := r1.ex
    sx := fun p hq => by
      obtain ⟨v, h1, h2⟩ := r1.sx p hq
      exact ⟨v, by rw [List.getElem?_set_ne (Ne.symm (hp p hq))]; exact h1, h2⟩
    inj := r1.inj
    nE := r1.nE
    base := r1.base
    pool := r1.pool
    eT := r1.eT }
theorem noXs {pl : Pl} {H : Hp} {ps : Ps} {dx : Addr} {vs : List (Str × V)} (hp : PoolAt pl H ps) (h : H dx = some (.xd vs)) : ¬ plS pl dx := by
  rintro ⟨⟨p, q⟩, rfl, e⟩
  obtain ⟨po, _, h2, h3, _⟩ := hp
  rcases e with rfl | rfl
  · rw [h] at h2; cases h2
  · rw [h] at h3; cases h3
/-- the error comes into slot i -/
theorem Rs.xcs (r : Rs K g m own σ ρ H ps) {i : Nat} (hi : i < σ.length) (hp : ∀ p ∈ g.sx, p.1 ≠ i) {a dx C : Addr} {fs : List (Str × D)} {vs : List (Str × V)} (h : H dx = some (.xd vs)) (q : RepF g.pl K (hid (Xs m own g) H) fs vs) (hm : m[i]? = some .no) :
    Rs K g (m.set i (.xc a dx)) own (σ.set i (some (.ref a))) (ρ.set i (some (.ins C fs))) H ps := by
  have at_ : ∀ (j : Nat), ((m.set i (.xc a dx))[j]? = some .ow ∨ (m.set i (.xc a dx))[j]? = some .io) → j ≠ i ∧ (m[j]? = some .ow ∨ m[j]? = some .io) := fun j q => set_ow q ⟨(fun z => nomatch z), (fun z => nomatch z)⟩
  have xe : ∀ b, Xs (m.set i (.xc a dx)) own g b → Xs m own g b := fun b q => by
    rcases q with q | q | ⟨j, q, e⟩
    · exact .inl q
    · exact .inr (.inl q)
    · exact .inr (.inr ⟨j, (at_ j q).2, e⟩)
  have ex : Ex (hid (Xs m own g) H) (hid (Xs (m.set i (.xc a dx)) own g) H) := hid_sub xe
  have ne : ∀ {j : Nat} {x : Md}, (m.set i (.xc a dx))[j]? = some x → (∀ b d, x ≠ .xc b d) → j ≠ i ∧ m[j]? = some x := fun {j x} h hx => by
    rcases set_at h with ⟨_, z, _⟩ | ⟨z, h⟩
    · exact (hx _ _ z).elim
    · exact ⟨z, h⟩
  exact {
    len := by rw [List.length_set, List.length_set]; exact r.len
    sh := fun j d h1 h2 => by
      obtain ⟨e, h1⟩ := ne h1 (fun _ _ z => nomatch z)
      rw [List.getElem?_set_ne (Ne.symm e)] at h2
      obtain ⟨w, h3, h4⟩ := r.sh j d h1 h2
      exact ⟨w, by rw [List.getElem?_set_ne (Ne.symm e)]; exact h3, h4.mono ex⟩
    ow := fun j h => by
      obtain ⟨e, h⟩ := at_ j h
      obtain ⟨d, h1, h2, h3, h4⟩ := r.ow j h
      exact ⟨d, by rw [List.getElem?_set_ne (Ne.symm e)]; exact h1, by rw [List.getElem?_set_ne (Ne.symm e)]; exact h2, h3.mono ex, h4⟩
    sb := fun j d h1 h2 => by
      obtain ⟨e, h1⟩ := ne h1 (fun _ _ z => nomatch z)
      rw [List.getElem?_set_ne (Ne.symm e)] at h2
      obtain ⟨w, h3, h4⟩ := r.sb j d h1 h2
      refine ⟨w, by rw [List.getElem?_set_ne (Ne.symm e)]; exact h3, ?_⟩
      rcases h4 with h4 | ⟨b, eb, np, no, t⟩
      · exact .inl (h4.mono ex)
      · exact .inr ⟨b, eb, np, fun k q => no k (at_ k q).2, t.mono ex⟩
    xc := fun j b dy h1 => by
      rcases set_at h1 with ⟨e, z, hl⟩ | ⟨e, h1⟩
      · cases z
        subst e
        refine ⟨.ins C fs, List.getElem?_set_self (by rw [r.len]; exact hi), List.getElem?_set_self hi, ⟨C, fs, vs, rfl, h, ?_⟩, noXs r.pool h⟩
        exact q.mono ex
      · obtain ⟨d, k1, k2, k3, k4⟩ := r.xc j b dy h1
        exact ⟨d, by rw [List.getElem?_set_ne (Ne.symm e)]; exact k1, by rw [List.getElem?_set_ne (Ne.symm e)]; exact k2, k3.mono ex, k4⟩
    ex := fun p hp => (r.ex p hp).mono ex
    sx := fun p hq => by
      obtain ⟨v, h1, h2⟩ := r.sx p hq
      exact ⟨v, by rw [List.getElem?_set_ne (Ne.symm (hp p hq))]; exact h1, h2.mono ex⟩
    inj := fun j k h1 h2 => r.inj j k (at_ j h1).2 (at_ k h2).2
    nE := fun j q => r.nE j (ne q (fun _ _ z => nomatch z)).2
    base := r.base
    pool := r.pool
    eT := r.eT }
end
end DL
set_option Elab.async false
set_option linter.all false
set_option maxRecDepth 100000
set_option maxHeartbeats 2000000
/-! D45: the rule for try. -/
namespace DL
open PySem PySem.Spec PyProof.Rows L2
/-- a suite's canonical reading -/
def tsC (X : Cx) (sts : List Stmt) : TSx := fun a cls d D σ H => ∀ oe pn pins s, Zc cls d oe → (∃ vs, oe.data = .fields vs) → Inv (X.suite a ((a, oe) :: pn)) pins σ H s →
  wpAny (model X.prog X.w) (X.suite a ((a, oe) :: pn)).A (execs sts X.env) (SP (X.suite a ((a, oe) :: pn)) pins D) (X.suite a ((a, oe) :: pn)).xe s
theorem tsC_ok {X : Cx} {sts : List Stmt} (a : Addr) (oe : Obj) (cls : Value) (d : Option Addr) (pn : List (Addr × Obj)) (hz : Zc cls d oe) (hf : ∃ vs, oe.data = .fields vs) : PSs (X.suite a ((a, oe) :: pn)) sts (tsC X sts a cls d) :=
  ⟨fun pins s σ H D I h => h oe pn pins s hz hf I⟩
/-- the clauses over data: the modes ahead of a suite, and behind the try -/
inductive HdD (X : Cx) (J : JP) (mS m' : List Md) : List ExceptHandler → List Hdl → Prop
  | nil : HdD X J mS m' [] []
  | only {x : Str} {c : Value} {b₀ : Stmt} {suite : List Stmt} {np pos' : Pos} {hds : List ExceptHandler} {l : List Hdl} {mt : Addr → Option Bool} {f : SF} (hc : Names X x c) (hm : ∀ C b, mt C = some b → PySem.W.exmOne X.K (.ref C) c = some b)
      (hd : ∀ (a : Addr) (oe : Obj) (cls : Value) (d : Option Addr) (pn : List (Addr × Obj)), Zc cls d oe → (∃ vs, oe.data = .fields vs) → Dss (X.suite a ((a, oe) :: pn)) WF J mS m' (b₀ :: suite) f) (r : HdD X J mS m' hds l) :
      HdD X J mS m' (.ExceptHandler (some (.Name x np)) none (b₀ :: suite) pos' :: hds) ((mt, fun _ => f) :: l)
  | named {x n : Str} {i : Nat} {c : Value} {b₀ : Stmt} {suite : List Stmt} {np pos' : Pos} {hds : List ExceptHandler} {l : List Hdl} {mt : Addr → Option Bool} {f : SF} {m1 : List Md} (hc : Names X x c) (hm : ∀ C b, mt C = some b → PySem.W.exmOne X.K (.ref C) c = some b)
      (hN : X.N.Nodup) (hi : X.N[i]? = some n) (hln : X.env.kindOf n = some .local) (hp : J.px.contains i = false) (hno : mS[i]? = some .no) (h1 : leM (m1.set i .no) m' = true) (hb : leM (J.mb.set i .no) J.mb = true)
      (hd : ∀ (a : Addr) (oe : Obj) (C : Addr) (dx : Addr) (pn : List (Addr × Obj)), mt C = some true → Zc (.ref C) (some dx) oe → (∃ vs, oe.data = .fields vs) → Dss (X.suite a ((a, oe) :: pn)) WF { J with px := i :: J.px } (mS.set i (.xc a dx)) (m1.set i (.xc a dx)) (b₀ :: suite) f) (r : HdD X J mS m' hds l) :
      HdD X J mS m' (.ExceptHandler (some (.Name x np)) (some n) (b₀ :: suite) pos' :: hds) ((mt, hdF i f) :: l)
theorem noX_of {α : Type} {x : R α} {ps ps' : Ps} {a : α} (h : x ps = .ok a ps') : noX x ps = .ok a ps' := by
  unfold noX; rw [h]
theorem wsF {K : PySem.W.Frag} {g : G} {r : Res Fl} {fl : Fl} {ps' : Ps} (h : r = .ok fl ps') : WS WF K g r := fun x ps2 dx H' σ' e => by
  rw [h] at e; cases e
section
variable {X : Cx} {W : WX} {J : JP} {m m' : List Md} {ks : List Nat} {hds : List ExceptHandler} {hl : List Hdl}
theorem hdd_go (hh : HdD X J (kpM m ks) m' hds hl) : ∃ l, HdsA X hds l ∧ ∀ {g : G} {own : Nat → Addr} {σ σ' : L2.St} {ρ : Rho} {H H' : Hp} {ps ps' : Ps} {x : Exn} {dx : Addr}, Rs X.K g m own σ ρ H ps → (∀ (i : Nat), m[i]? ≠ some .io) → ρ.length = X.N.length → (∀ p ∈ g.sx, p.1 ∈ J.px) →
    Exo (plS g.pl) (hid (OwA m own) H) H' → PoolAt g.pl H' ps' → ExR g.pl X.K (Eo g) H' dx x → (∀ p ∈ keepV ks ρ m ++ g.sx, ∃ v, σ'[p.1]? = some (some v) ∧ Rep g.pl X.K (hid (Eo g) H') p.2 v) →
    hdlF hl x ρ ps' ≠ .und → WS W X.K g (hdlF hl x ρ ps') → wMA X.K W (DD X J m m' g own (hdlF hl x ρ ps')) l (.ref x.cls) (some dx) σ' H' := by
  induction hh with
  | nil =>
    refine ⟨[], .nil, fun {g own σ σ' ρ H H' ps ps' x dx} r0 hio hlen hx e hp hxr hs n w => ?_⟩
    exact w x ps' dx H' σ' rfl (trX r0 e) hp hxr fun p hp => hs p (List.mem_append_right _ hp)
  | @only x c b₀ suite np pos' hds2 l2 mt f hc hm hd r ih =>
    obtain ⟨l', h1, h2⟩ := ih
    refine ⟨_, .only (ts := tsC X (b₀ :: suite)) hc tsC_ok h1, fun {g own σ σ' ρ H H' ps ps' y dx} r0 hio hlen hx e hp hxr hs n w => ?_⟩
    cases q : mt y.cls with
    | none => exact (n (by show (match mt y.cls with | some true => _ | some false => _ | none => _) = _; rw [q])).elim
    | some b =>
      refine ⟨b, hm _ _ q, ?_, ?_⟩
      · rintro rfl a na oe pn pins s hz hf I
        have e1 : hdlF ((mt, fun _ => f) :: l2) y ρ ps' = noX (f ρ) ps' := by show (match mt y.cls with | some true => _ | some false => _ | none => _) = _; rw [q]
        rw [e1] at n ⊢
        obtain ⟨fl, p2, e2, e3⟩ := noX_ok n
        have rc := r0.caught hio (ks := ks) (σ' := σ') (ρ := ρ) (by rw [hlen]; exact I.len) e hp hs
        refine thn ((hd a oe _ _ pn hz hf).run g own pins s σ' ρ H' ps' I rc hx (by rw [e2]; exact fun z => nomatch z) (wsF e2)) fun fl s1 q1 => spI' q1 ?_ ?_ ?_ ?_
        · rintro σ2 H2 ⟨ρ2, ps2, own2, a1, a2, a3⟩; exact ⟨ρ2, ps2, own2, noX_of a1, a2, fun i z => (hio i z).elim⟩
        · rintro σ2 H2 ⟨ρ2, ps2, own2, a1, a2, a3⟩; exact ⟨ρ2, ps2, own2, noX_of a1, a2, fun i z => (hio i z).elim⟩
        · rintro σ2 H2 ⟨ρ2, ps2, own2, a1, a2, a3⟩; exact ⟨ρ2, ps2, own2, noX_of a1, a2, fun i z => (hio i z).elim⟩
        · rintro v H2 ⟨d, ρ2, ps2, own2, σ2, a1, a2, a3, a4⟩; exact ⟨d, ρ2, ps2, own2, σ2, noX_of a1, a2, fun i z => (hio i z).elim, a4⟩
      · rintro rfl
        have e1 : hdlF ((mt, fun _ => f) :: l2) y ρ ps' = hdlF l2 y ρ ps' := by show (match mt y.cls with | some true => _ | some false => _ | none => _) = _; rw [q]
        rw [e1] at n w ⊢
        exact h2 r0 hio hlen hx e hp hxr hs n w
  | @named x nm i c b₀ suite np pos' hds2 l2 mt f m1 hc hm hN hi hln hp0 hno hE hb hd r ih =>
    obtain ⟨l', h1, h2⟩ := ih
    refine ⟨_, .named (ts := tsC X (b₀ :: suite)) hc hN hi hln tsC_ok h1, fun {g own σ σ' ρ H H' ps ps' y dx} r0 hio hlen hx e hp hxr hs n w => ?_⟩
    have px : ∀ p ∈ g.sx, p.1 ≠ i := sx_ne hx hp0
    cases q : mt y.cls with
    | none => exact (n (by show (match mt y.cls with | some true => _ | some false => _ | none => _) = _; rw [q])).elim
    | some b =>
      refine ⟨b, hm _ _ q, ?_, ?_⟩
      · rintro rfl a na oe pn pins s hz hf I
        have e1 : hdlF ((mt, hdF i f) :: l2) y ρ ps' = noX (hdF i f y ρ) ps' := by show (match mt y.cls with | some true => _ | some false => _ | none => _) = _; rw [q]
        rw [e1] at n ⊢
        obtain ⟨fl, p2, e2, e3⟩ := noX_ok n
        have hl : σ'.length = ρ.length := by rw [hlen, ← I.len, List.length_set]
        have hil : i < σ'.length := by rw [hl, hlen]; exact (List.getElem?_eq_some_iff.mp hi).1
        have rc := r0.caught hio (ks := ks) (σ' := σ') (ρ := ρ) hl e hp hs
        obtain ⟨vs, hv1, hv2⟩ := hxr
        have sub : Ex (hid (Eo g) H') (hid (Xs (kpM m ks) own g) H') := hid_sub fun b z => by
          rcases z with z | z | ⟨j, z, _⟩
          · exact .inl z
          · exact .inr z
          · rcases z with z | z <;> rcases kpM_at z with y | ⟨y, _⟩ <;> cases y
        have rx := rc.xcs hil px (a := a) (C := y.cls) hv1 (hv2.mono sub) hno
        have e4 : ∀ {fl : Fl} {p : Ps}, f (ρ.set i (some (.ins y.cls y.fs))) ps' = .ok fl p → hdF i f y ρ ps' = unF i fl p := fun z => bind_ok z
        have nf : f (ρ.set i (some (.ins y.cls y.fs))) ps' ≠ .und := ne_of_bind (show hdF i f y ρ ps' ≠ .und by rw [e2]; exact fun z => nomatch z)
        have nx : ∀ (fl : Exn) (p : Ps), f (ρ.set i (some (.ins y.cls y.fs))) ps' ≠ .exc fl p := fun fl p z => by
          have : hdF i f y ρ ps' = .exc fl p := bind_exc z
          rw [e2] at this; cases this
        refine thn ((hd a oe _ _ pn q hz hf).run g own pins s _ _ H' ps' I rx (fun p hp => List.mem_cons_of_mem _ (hx p hp)) nf (fun fl p dx H' σ' z => (nx _ _ z).elim)) fun fl s1 q1 => spI' q1 ?_ ?_ ?_ ?_
        · rintro σ2 H2 ⟨ρ2, ps2, own2, a1, a2, a3⟩
          have a4 := a2.noc px
          rw [List.set_set] at a4
          exact ⟨ρ2.set i none, ps2, own2, noX_of ((e4 a1).trans rfl), a4.weak hE, fun i z => (hio i z).elim⟩
        · rintro σ2 H2 ⟨ρ2, ps2, own2, a1, a2, a3⟩
          exact ⟨ρ2.set i none, ps2, own2, noX_of ((e4 a1).trans rfl), (a2.noc px).weak hb, fun i z => (hio i z).elim⟩
        · rintro σ2 H2 ⟨ρ2, ps2, own2, a1, a2, a3⟩
          exact ⟨ρ2.set i none, ps2, own2, noX_of ((e4 a1).trans rfl), (a2.noc px).weak hb, fun i z => (hio i z).elim⟩
        · rintro v H2 ⟨d, ρ2, ps2, own2, σ2, a1, a2, a3, a4⟩
          exact ⟨d, ρ2, ps2, own2, σ2, noX_of ((e4 a1).trans rfl), a2, fun i z => (hio i z).elim, a4⟩
      · rintro rfl
        have e1 : hdlF ((mt, hdF i f) :: l2) y ρ ps' = hdlF l2 y ρ ps' := by show (match mt y.cls with | some true => _ | some false => _ | none => _) = _; rw [q]
        rw [e1] at n w ⊢
        exact h2 r0 hio hlen hx e hp hxr hs n w
def noIo (m : List Md) : Bool := m.all fun x => !(x == .io)
theorem noIo_at (h : noIo m = true) (i : Nat) : m[i]? ≠ some .io := fun z => by
  have := List.all_eq_true.mp h _ (List.mem_of_getElem? z)
  cases this
theorem ds_try {body : List Stmt} {h₀ : ExceptHandler} {pos : Pos} {g1 : SF} (tk : Takes X W) (hb : ∀ (W' : WX) (pn : List (Addr × Obj)) (xe : Value → Shared → Prop), Takes (X.tr pn xe) W' → PassesOwn (model X.prog X.w) X.A X.env xe → Dss (X.tr pn xe) W' { J with px := ks ++ J.px } m m' body g1)
    (hh : HdD X J (kpM m ks) m' (h₀ :: hds) hl) (hio : noIo m = true := by rfl) (hs : X.stack = X.env :: X.outer := by rfl) (hf : X.env.frame = some X.env.locals := by rfl) : Ds X W J m m' (.Try body (h₀ :: hds) [] [] pos) (tryF g1 hl) := by
  refine ⟨fun g own pins s σ ρ H ps I r hx n w => ?_⟩
  obtain ⟨l, hA, hgo⟩ := hdd_go (W := W) hh
  have hio := noIo_at hio
  have hlen : ρ.length = X.N.length := r.len.trans I.len
  have tt : ∀ {x : Exn} {ps' : Ps}, g1 ρ ps = .exc x ps' → tryF g1 hl ρ ps = hdlF hl x ρ ps' := fun {x ps'} e => by unfold tryF; rw [e]
  have to : ∀ {fl : Fl} {ps' : Ps}, g1 ρ ps = .ok fl ps' → tryF g1 hl ρ ps = .ok fl ps' := fun {fl ps'} e => by unfold tryF; rw [e]
  refine (ps_try_all (tb := fun W' D σ' H' => ∀ pn xe, Takes (X.tr pn xe) W' → PassesOwn (model X.prog X.w) X.A X.env xe → cSs (X.tr pn xe) body D σ' H') hs hf tk
    (fun W' pn xe tk po => ⟨fun pins s σ H D I h => h pn xe tk po pins s I⟩) hA).run pins s σ H _ I ?_
  intro pn xe tk' po pins' s' I'
  have n1 : g1 ρ ps ≠ .und := fun z => n (by unfold tryF; rw [z])
  refine thn ((hb _ pn xe tk' po).run (g.tr m own H (keepV ks ρ m)) own pins' s' σ ρ H ps I' (r.tr ks) (fun p hp => ?_) n1 (fun x ps' dx H' σ' e e2 e3 e4 e5 => ?_)) fun fl s1 q1 => spI' q1 ?_ ?_ ?_ ?_
  · rcases List.mem_append.mp hp with h | h
    · exact List.mem_append_left _ (keepV_mem h).1
    · exact List.mem_append_right _ (hx p h)
  · rw [tt e] at n w ⊢
    exact hgo r hio hlen hx e2 e3 e4 e5 n w
  · rintro σ2 H2 ⟨ρ2, ps2, own2, a1, a2, a3⟩; exact ⟨ρ2, ps2, own2, to a1, r.untr a2, a3⟩
  · rintro σ2 H2 ⟨ρ2, ps2, own2, a1, a2, a3⟩; exact ⟨ρ2, ps2, own2, to a1, r.untr a2, a3⟩
  · rintro σ2 H2 ⟨ρ2, ps2, own2, a1, a2, a3⟩; exact ⟨ρ2, ps2, own2, to a1, r.untr a2, a3⟩
  · rintro v H2 ⟨d, ρ2, ps2, own2, σ2, a1, a2, a3, a4⟩
    refine ⟨d, ρ2, ps2, own2, σ2, to a1, r.untr a2, a3, ?_⟩
    unfold RtQ at a4 ⊢
    show match J.fr with | false => _ | true => _
    have a4 : match J.fr with | false => Rep g.pl X.K (hid (Xs J.mr own2 g) H2) d v | true => ∃ p, v = .ref p ∧ hid (OwA m own) H p = none ∧ ¬ plS g.pl p ∧ TopR g.pl X.K (hid (fun a => Xs J.mr own2 g a ∨ a = p) H2) d (H2 p) := a4
    cases hf : J.fr with
    | false => rw [hf] at a4; exact a4
    | true =>
      rw [hf] at a4
      obtain ⟨p, h1, h2, h3, h4⟩ := a4
      exact ⟨p, h1, trB r h3 h2, h3, h4⟩
end
section
variable {X : Cx} {m : List Md}
/-- e.f, e the caught error -/
theorem dx_xf {a C dx : Addr} {oe : Obj} {pn : List (Addr × Obj)} {W : WX} {i : Nat} {x nm : Str} {pos p : Pos} (hz : Zc (.ref C) (some dx) oe) (hf : ∃ vs, oe.data = .fields vs) (F : XfC X.K C) (hno : PySem.W.findIn X.K (.ref C) nm = some none)
    (hN : X.N[i]? = some x) (hv : Vis X.env.scope x) (hm : m[i]? = some (.xc a dx)) (hd : (x == ("__debug__" : Str)) = false := by decide) (hcd : (x == ("__classdict__" : Str)) = false := by decide)
    (hb : attributeBase (.Name x p) nm X.env (eval (.Name x p) X.env) = eval (.Name x p) X.env := by rfl) : Dx .cl (X.suite a ((a, oe) :: pn)) W m (.Attribute (.Name x p) nm pos) (xfF i nm) := by
  refine .of (pe_xf F hno hz hf (pe_var (i := i) hN hv hd hcd) hb) fun g own σ ρ H ps r n w => ?_
  obtain ⟨d, h1, h2, ⟨C', fs, vs, rfl, h3, h4⟩, h5⟩ := r.xc i a dx hm
  unfold xfF at n ⊢
  have e : ρ[i]?.join = some (.ins C' fs) := by rw [h1]; rfl
  rw [e] at n ⊢
  obtain ⟨d, k1, k2⟩ := ofO_ne n
  obtain ⟨v, k3, k4⟩ := h4.look k1
  exact ⟨_, h2, rfl, rfl, dx, vs, v, rfl, h3, k3, d, ps, k2, Exo.refl, r.pool, k4⟩
end
end DL
set_option Elab.async false
set_option linter.all false
set_option maxRecDepth 100000
set_option maxHeartbeats 2000000
/-! D46: a, b, .. = x, y, .. where some name is a cell, or there are more than three. -/
namespace DL
open PySem PySem.Spec PyProof.Rows L2
section
variable {X : Cx} {W : WX} {J : JP} {m : List Md} {es tgs : List Expr} {fs : FA} {ks : List Bool} {pos pt pt2 py : Pos} {is : List Nat}
def nmsT (is : List Nat) : TGs := fun vs σ H Q => vs.length = is.length ∧ Q (stS σ is vs) H
theorem nt_nil : PGs X [] (nmsT []) := by
  refine ⟨fun pins s σ H vs us Q I r h => pgs_nil.run pins s σ H vs us Q I r ?_⟩
  obtain ⟨h1, h2⟩ := h
  cases vs with
  | nil => exact ⟨rfl, h2⟩
  | cons _ _ => cases h1
theorem nt_cons {i : Nat} {x : Str} (hN : X.N.Nodup) (hi : X.N[i]? = some x) (hx : Loc X.env.scope x) (h : PGs X tgs (nmsT is)) (hf : X.fn x = true ∨ X.env.scope.names.lookup x = some .local := by first | exact .inl rfl | exact .inr rfl)
    (hs : (assignEach (.Name x py :: tgs) X.env).map (·.2) = assign (.Name x py) X.env :: (assignEach tgs X.env).map (·.2) := by rfl) : PGs X (.Name x py :: tgs) (nmsT (i :: is)) := by
  refine ⟨fun pins s σ H vs us Q I r hh => (pgs_cons (pg_name hN hi hx hf) h hs).run pins s σ H vs us Q I r ?_⟩
  obtain ⟨h1, h2⟩ := hh
  cases vs with
  | nil => cases h1
  | cons v vs => exact ⟨v, vs, rfl, by simpa using h1, h2⟩
def okIs (m : List Md) (px is : List Nat) : Bool := is.all fun i => !(m[i]? == some .io) && !(px.contains i)
theorem ds_parT {kt k2 : Nat} (h : Kx X W m es ks fs) (hg : PGs X tgs (nmsT is)) (hc : X.calm = true := by rfl) (hlt : (is.all fun i => decide (i < X.N.length)) = true := by rfl) (hnd : is.Nodup := by decide) (hl : ks.length = is.length := by rfl) (hle : is.length ≤ 64 := by decide) (hok : okIs m J.px is = true := by rfl)
    (hn : (assignEach tgs X.env).length = is.length := by rfl) (hst : (assignEach tgs X.env).findIdx? (·.1) = none := by rfl) (hs : swapsWithSole [.Tuple tgs kt pt] (.Tuple es k2 pt2) pos.line X.env = pure false := by rfl)
    (hw : swappedStores [.Tuple tgs kt pt] (.Tuple es k2 pt2) X.env = pure none := by rfl) (h1 : (assignEach [.Tuple tgs kt pt] X.env).map (·.2) = [assign (.Tuple tgs kt pt) X.env] := by rfl) :
    Ds X W J m (stM m is ks) (.Assign [.Tuple tgs kt pt] (.Tuple es k2 pt2) pos) (paF is fs) := by
  refine ⟨fun g own pins s σ ρ H ps I r hx n w => ?_⟩
  have ok : ∀ i ∈ is, m[i]? ≠ some .io ∧ J.px.contains i = false := fun i hi => by
    have := List.all_eq_true.mp hok i hi
    rw [Bool.and_eq_true] at this
    refine ⟨fun z => ?_, by simpa using this.2⟩
    rw [z] at this
    exact absurd this.1 (by decide)
  refine (ps_asg (pe_tup (pa_c X es)) (pg_tup (n := is.length) hc hg hn hst) hs hw h1).run pins s σ H _ I (cA.mono (h.can r (ne_of_bind n) (WS.ex w r)) fun vs H1 q => ?_)
  have hv : vs.length = ks.length := by
    obtain ⟨ds, ps', fr, e1, x1, p1, kr, nd, hf⟩ := q
    exact kr.there.2.2
  refine ⟨by rw [hv, hl, sizeLine_eq]; omega, fun T hT => ⟨T, vs, rfl, SqT.of upd_same, by rw [hv, hl], by rw [hv, hl], ?_⟩⟩
  have q' : QKs X g m own ks H (fs ρ ps) vs (upd H1 T (.tup vs)) := by
    obtain ⟨ds, ps', fr, e1, x1, p1, kr, nd, hf⟩ := q
    refine ⟨ds, ps', fr, e1, x1.trans (Exo.new hT), p1.new hT, KR.mono (fun a o q => ?_) (fun p hp => ?_) kr, nd, hf⟩
    · obtain ⟨n1, q⟩ := hid_of q
      rw [hid_at n1, upd_ne (ne_of_none q hT)]
      exact q
    · exact upd_ne fun z => kr.there.1 p hp (by rw [z]; exact hT)
  exact (par_all (J := J) r hl (fun i hi => by rw [I.len]; exact of_decide_eq_true (List.all_eq_true.mp hlt i hi)) hx (fun i hi => (ok i hi).2) (fun i hi => (ok i hi).1) hnd q').1
end
def TLn (n : Nat) (F : List D → Rho → R Rho) : Prop := ∀ ds ρ ps, F ds ρ ps ≠ .und → ds.length = n
theorem tln_N : TLn 0 tmN := fun ds ρ ps n => by
  cases ds with
  | nil => rfl
  | cons _ _ => exact (n rfl).elim
theorem tln_V {n i : Nat} {F : List D → Rho → R Rho} (h : TLn n F) : TLn (n + 1) (tmV i F) := fun ds ρ ps q => by
  cases ds with
  | nil => exact (q rfl).elim
  | cons d ds => rw [List.length_cons, h ds _ ps q]
theorem tln_P {n i : Nat} {fk : FE} {F : List D → Rho → R Rho} (h : TLn n F) : TLn (n + 1) (tmP i fk F) := fun ds ρ ps q => by
  cases ds with
  | nil => exact (q rfl).elim
  | cons d ds =>
    have q1 := ne_of_bind q
    cases e1 : dkAt ρ i ps with
    | und => exact (q1 e1).elim
    | exc x p => have := bind_exc (f := fun kvs => (noX (fk ρ) >>= fun k => ofO (keyOf k) >>= fun k => if lenC (kvs.length + 1) = true then F ds (ρ.set i (some (.dk (putD kvs k d)))) else R.und)) e1; obtain ⟨_, _, e2⟩ := dkAt_ne (n := by rw [e1]; exact fun z => nomatch z); rw [e1] at e2; cases e2
    | ok kvs p =>
      have e : tmP i fk F (d :: ds) ρ ps = _ := bind_ok e1
      rw [e] at q
      have q2 := ne_of_bind q
      obtain ⟨k, p2, e3, e4⟩ := noX_ok q2
      rw [bind_ok e4] at q
      obtain ⟨k', e5, e6⟩ := ofO_ne (ne_of_bind q)
      rw [bind_ok e6] at q
      obtain ⟨_, e7⟩ := ifR_und q
      rw [e7] at q
      rw [List.length_cons, h ds _ _ q]
end DL
set_option Elab.async false
set_option linter.all false
set_option maxRecDepth 100000
set_option maxHeartbeats 2000000
/-! D47: a law's opening: the script, the pool, the turns. -/
namespace DL
open PySem PySem.Spec PyProof.Rows L2
/-- xs != [], xs any list that is read -/
theorem op_neL {X : Cx} (hu : X.A.units + 64 < cLine) : OpR X (compareOp .NotEq) (fun x y H Q => ∃ (a b : Addr) (xs : List V), x = .ref a ∧ y = .ref b ∧ SqL X.K H a xs ∧ SqL X.K H b [] ∧ Q (.bl (!xs.isEmpty)) H) := by
  intro pins s σ H x y u v Q I rx ry ⟨a, b, xs, hx, hy, h1, h2, q⟩
  subst hx hy
  cases rx
  cases ry
  obtain ⟨its, v1, l1, _⟩ := I.list h1
  obtain ⟨its2, v2, l2, _⟩ := I.list h2
  have e2 : its2 = [] := by cases v2; rfl
  subst e2
  have fin : ∀ c : Bool, c = (!xs.isEmpty) → EP X pins σ Q (.bool c) s := fun c e => ⟨.bl c, H, I, rfl, by rw [e]; exact q⟩
  cases xs with
  | nil =>
    have e1 : its = [] := by cases v1; rfl
    subst e1
    refine PySem.SeqAt.RcNeAt.lists (e := fun _ => true) l1.isList l2.isList rfl (by omega) (fun j z => absurd z (by simp)) X.prog X.w X.xe _ (fin _ (by simp))
  | cons x r =>
    have e1 : its.length = r.length + 1 := by rw [← v1.length]; rfl
    exact PySem.SeqAt.RcNeAt.lists_lengths (A := X.A) (s := s) l1.isList l2.isList (by simp [e1]) (by omega) X.prog X.w X.xe _ (fin true rfl)
/-- the cell that a turn reads -/
def cellN (ns : List Int) (k : Nat) : Int := match ns with
  | [] => 7
  | _ => ns.getD k 0
/-- _law_opened(script, k, many): a new pool -/
def spOp (K : PySem.W.Frag) (F : List D → R D) : Sp := fun vs H Q _ => ∃ (a : Addr) (ns : List Int) (k : Nat) (many : Int) (d : D), vs = [.ref a, .int (k : Int), .int many] ∧ SqL K H a (ns.map V.int) ∧ (ns = [] ∨ k < ns.length) ∧
  F [.int (cellN ns k), .int (k : Int), .int many] none = .ok d none ∧ ∀ v H', QV .fr none K (fun _ => False) H (.ok d none) v H' → Q v H'
end DL
set_option Elab.async false
set_option linter.all false
set_option maxRecDepth 100000
set_option maxHeartbeats 2000000
/-! D48: a law's turns. -/
namespace DL
open PySem PySem.Spec PyProof.Rows L2
def forRest (st : Stmt) : List Stmt := match defBody st with
  | (.For _ _ (_ :: r) _ _) :: _ => r
  | _ => []
def forTail (st : Stmt) : List Stmt := match defBody st with
  | _ :: r => r
  | _ => []
/-- law's: a list of at most 63 ints is handed in, True comes out -/
def spLaw (K : PySem.W.Frag) : Sp := fun vs H Q _ => ∃ (a : Addr) (ns : List Int), vs = [.ref a] ∧ SqL K H a (ns.map V.int) ∧ Only H ∧ ns.length ≤ 63 ∧ ∀ H', Q (.bl true) H'
/-- the script: locked, or of the written part -/
def FzL (K : PySem.W.Frag) (H : Hp) (a : Addr) (xs : List V) : Prop := (∃ o, H a = some (.frz o (.lst xs))) ∨ SqL K (fun _ => none) a xs
theorem FzL.sq {K : PySem.W.Frag} {H : Hp} {a : Addr} {xs : List V} (h : FzL K H a xs) : SqL K H a xs := by
  rcases h with ⟨o, h⟩ | (h | h)
  · exact .inl (.inr ⟨o, h⟩)
  · rcases h with h | ⟨o, h⟩ <;> cases h
  · exact .inr h
theorem onlyFz {K : PySem.W.Frag} {H : Hp} {a : Addr} {xs : List V} (o : Only H) (h : SqL K H a xs) : FzL K H a xs := by
  rcases h with (h | ⟨u, h⟩) | h
  · rcases o a with e | ⟨_, _, e⟩ <;> (rw [h] at e; cases e)
  · exact .inl ⟨u, h⟩
  · exact .inr (.inr h)
theorem FzL.same {K : PySem.W.Frag} {H H' : Hp} {a : Addr} {xs : List V} (h : FzL K H a xs) (s : Same H H') : FzL K H' a xs := by
  rcases h with ⟨o, h⟩ | h
  · exact .inl ⟨o, s _ _ h⟩
  · exact .inr h
/-- the modes of a turn: k, the pool -/
def turnM (n : Nat) : List Md := .no :: .sh :: .sh :: List.replicate (n - 3) .no
def turnR (n : Nat) (k : Nat) : Rho := none :: some (.int (k : Int)) :: some .pool :: List.replicate (n - 3) none
def turnJ (n : Nat) : JP := { mb := turnM n, mr := mrOf n, px := [0] }
/-- a pool as it is opened -/
def poolD (nums : List Int) : D := .lst [.lst (nums.map .int), .int 0]
theorem intsOf_map : ∀ nums : List Int, intsOf (nums.map D.int) = some nums
  | [] => rfl
  | a :: r => by show (intsOf (r.map D.int)).map (a :: ·) = _; rw [intsOf_map r]; rfl
theorem pool_at {K : PySem.W.Frag} {H H' : Hp} {v : V} {nums : List Int} (h : QV .fr none K (fun _ => False) H (.ok (poolD nums) none) v H') :
    ∃ p q, v = .ref p ∧ H p = none ∧ Same H H' ∧ p ≠ q ∧ H' p = some (.lst [.ref q, .int 0]) ∧ H' q = some (.lst (nums.map V.int)) := by
  obtain ⟨d, ps, e, x, _, p, rfl, hp, t⟩ := h
  cases e
  obtain ⟨vs, h1, h2⟩ := (show TopR none K (hid (fun a => False ∨ a = p) H') (.lst [.lst (nums.map .int), .int 0]) (H' p) from t)
  obtain ⟨v1, r1, rfl, g1, g2⟩ := h2.inv_cons
  obtain ⟨v2, r2, rfl, g3, g4⟩ := g2.inv_cons
  rw [g4.inv_nil] at h1
  unfold Rep at g1 g3
  subst g3
  obtain ⟨q, us, rfl, k1, k2⟩ := g1
  obtain ⟨n1, k1⟩ := hid_of k1
  have e2 := ints_rep k2 (intsOf_map nums)
  refine ⟨p, q, rfl, hp, fun a o h => x a o h (fun ⟨y, z, _⟩ => by cases z), fun z => n1 (.inr z.symm), h1, by rw [k1, e2]⟩
theorem atI_cellN {ns : List Int} {k : Nat} (h : k < ns.length) : atI (ns.map V.int) ((k : Nat) : Int) = some (V.int (cellN ns k)) := by
  rw [atI_cell h]
  cases ns with
  | nil => simp at h
  | cons x r => rfl
theorem opened_call {K : PySem.W.Frag} {F : List D → R D} {c k many : Int} {d : D} {H H1 : Hp} {Q : VK} {E : XK} (hf : F [.int c, .int k, .int many] none = .ok d none) (hQ : ∀ v H', QV .fr none K (fun _ => False) H (.ok d none) v H' → Q v H') (hSame : Same H H1) :
    spD K .fr [.sb, .sb, .sb] F [.int c, .int k, .int many] H1 Q E := by
  refine ⟨none, fun _ => False, [.int c, .int k, .int many], none, ?_, ?_, ?_, trivial, ?_, ?_, ?_⟩
  · refine ⟨_, _, rfl, .inl (by unfold Rep; rfl), _, _, rfl, .inl (by unfold Rep; rfl), _, _, rfl, .inl (by unfold Rep; rfl), rfl⟩
  · rintro x ⟨y, h, _⟩; cases h
  · intro x hx; exact hx.elim
  · rw [hf]; exact fun z => nomatch z
  · rintro v H' q
    rw [hf] at q
    obtain ⟨d', ps', e1, x1, p1, q1⟩ := q
    cases e1
    refine hQ v H' ⟨d, none, rfl, fun x o hx n => x1 x o (hSame x o hx) n, p1, ?_⟩
    obtain ⟨p, h1, h2, h3⟩ := q1
    exact ⟨p, h1, hSame.free h2, h3⟩
  · intro x ps' dx H' e; rw [hf] at e; cases e
/-- the ghosts of a turn -/
def turnG (p q b : Addr) (H : Hp) : G := { pl := some (p, q), E := fun _ => False, B := H, sx := [(0, .ob (.ref b))] }
theorem turnM_at {n i : Nat} {x : Md} (h : (turnM n)[i]? = some x) : x = .no ∨ (x = .sh ∧ (i = 1 ∨ i = 2)) := by
  unfold turnM at h
  match i with
  | 0 => simp at h; exact .inl h.symm
  | 1 => simp at h; exact .inr ⟨h.symm, .inl rfl⟩
  | 2 => simp at h; exact .inr ⟨h.symm, .inr rfl⟩
  | i + 3 =>
    have h' : (List.replicate (n - 3) Md.no)[i]? = some x := by simpa using h
    exact .inl (List.eq_of_mem_replicate (List.mem_of_getElem? h'))
theorem turn_rs {K : PySem.W.Frag} {σ : L2.St} {H : Hp} {b p q : Addr} {nums : List Int} {n k : Nat} (hn : 3 ≤ n) (hl : σ.length = n) (h0 : σ[0]? = some (some (.ref b))) (h1 : σ[1]? = some (some (.int (k : Int)))) (h2 : σ[2]? = some (some (.ref p)))
    (hp : H p = some (.lst [.ref q, .int 0])) (hq : H q = some (.lst (nums.map V.int))) (hne : q ≠ p) : Rs K (turnG p q b H) (turnM n) (fun _ => 0) σ (turnR n k) H (some ⟨nums, 0⟩) := {
  len := by unfold turnR; simp; omega
  sh := fun i d e1 e2 => by
    rcases turnM_at e1 with e | ⟨_, rfl | rfl⟩
    · cases e
    · have : d = .int (k : Int) := by unfold turnR at e2; simp at e2; exact e2.symm
      subst this
      exact ⟨_, h1, by unfold Rep; rfl⟩
    · have : d = .pool := by unfold turnR at e2; simp at e2; exact e2.symm
      subst this
      exact ⟨_, h2, by unfold Rep; rfl⟩
  ow := fun i z => by rcases z with z | z <;> rcases turnM_at z with e | ⟨e, _⟩ <;> cases e
  sb := fun i d z _ => by rcases turnM_at z with e | ⟨e, _⟩ <;> cases e
  xc := fun i c dx z => by rcases turnM_at z with e | ⟨e, _⟩ <;> cases e
  ex := fun p hp => by cases hp
  sx := fun p hp => by
    rcases List.mem_cons.mp hp with rfl | hp
    · exact ⟨_, h0, by unfold Rep; rfl⟩
    · cases hp
  inj := fun i j z _ _ => by rcases z with z | z <;> rcases turnM_at z with e | ⟨e, _⟩ <;> cases e
  nE := fun i z => fun h => h.elim
  base := Exo.refl
  pool := ⟨⟨nums, 0⟩, rfl, hp, hq, hne⟩
  eT := fun a h => h.elim }
theorem spL {X : Cx} {pins : List (Addr × Obj)} {D1 D2 : Ends} {f : Flow} {s : Shared} (h : SP X pins D1 f s) (h1 : ∀ σ H, σ.length = X.N.length → D1.nx σ H → D2.nx σ H) (h2 : ∀ σ H, σ.length = X.N.length → D1.bk σ H → D2.bk σ H) (h3 : ∀ σ H, σ.length = X.N.length → D1.ct σ H → D2.ct σ H) (h4 : ∀ v H, D1.rt v H → D2.rt v H) : SP X pins D2 f s := by
  cases f with
  | next => obtain ⟨σ, H, I, q⟩ := h; exact ⟨σ, H, I, h1 _ _ I.len q⟩
  | brk => obtain ⟨σ, H, I, q⟩ := h; exact ⟨σ, H, I, h2 _ _ I.len q⟩
  | cont => obtain ⟨σ, H, I, q⟩ := h; exact ⟨σ, H, I, h3 _ _ I.len q⟩
  | ret u => obtain ⟨v, σ, H, I, rv, q⟩ := h; exact ⟨v, σ, H, I, rv, h4 _ _ q⟩
theorem end_rs {K : PySem.W.Frag} {σ : L2.St} {H : Hp} {n : Nat} (hl : σ.length = n) : Rs K { pl := none, E := fun _ => False, B := H } (mrOf n) (fun _ => 0) σ (List.replicate n none) H none := by
  have no : ∀ {i : Nat} {x : Md}, (mrOf n)[i]? = some x → x = .no := fun h => List.eq_of_mem_replicate (List.mem_of_getElem? h)
  exact {
    len := by rw [List.length_replicate, hl]
    sh := fun i d z _ => by cases no z
    ow := fun i z => by rcases z with z | z <;> cases no z
    sb := fun i d z _ => by cases no z
    xc := fun i c dx z => by cases no z
    ex := fun p hp => by cases hp
    sx := fun p hp => by cases hp
    inj := fun i j z _ _ => by rcases z with z | z <;> cases no z
    nE := fun i z => fun h => h.elim
    base := Exo.refl
    pool := trivial
    eT := fun a h => h.elim }
/-- what a turn leaves -/
def turnP (K : PySem.W.Frag) (n : Nat) (b : Addr) (ns : List Int) : Nat → L2.St → Hp → Prop := fun _ σ H => σ.length = n ∧ σ[0]? = some (some (.ref b)) ∧ FzL K H b (ns.map V.int)
/-- a turn's body behind the opening of its pool -/
theorem turn_run {X : Cx} {gB : SF} {rest : List Stmt} {n k : Nat} {b p q : Addr} {ns nums : List Int} {D : Ends} {σ : L2.St} {H : Hp} (hN : X.N.length = n) (hn : 3 ≤ n) (hB : Dss X WF (turnJ n) (turnM n) (turnM n) rest gB) (hm : ∃ ρ' ps', gB (turnR n k) (some ⟨nums, 0⟩) = .ok (.nx ρ') ps')
    (hl : σ.length = n) (h0 : σ[0]? = some (some (.ref b))) (h1 : σ[1]? = some (some (.int (k : Int)))) (h2 : σ[2]? = some (some (.ref p))) (hS : FzL X.K H b (ns.map V.int)) (hp : H p = some (.lst [.ref q, .int 0])) (hq : H q = some (.lst (nums.map V.int))) (hne : q ≠ p)
    (hD : ∀ σ' H', turnP X.K n b ns 0 σ' H' → D.nx σ' H') : cSs X rest D σ H := by
  intro pins s I
  obtain ⟨ρ', ps', e⟩ := hm
  refine thn (hB.run (turnG p q b H) (fun _ => 0) pins s σ (turnR n k) H _ I (turn_rs hn hl h0 h1 h2 hp hq hne) (fun p hp => ?_) (by rw [e]; exact fun z => nomatch z) (wsF e)) fun fl s1 q1 => spL q1 ?_ ?_ ?_ ?_
  · rcases List.mem_cons.mp hp with rfl | hp
    · exact List.mem_cons_self ..
    · cases hp
  · rintro σ2 H2 l2 ⟨ρ2, ps2, own2, a1, a2, a3⟩
    refine hD σ2 H2 ⟨by rw [l2, hN], ?_, ?_⟩
    · obtain ⟨v, h3, h4⟩ := a2.sx (0, .ob (.ref b)) (List.mem_cons_self ..)
      unfold Rep at h4
      subst h4
      exact h3
    · rcases hS with ⟨o, h⟩ | h
      · refine .inl ⟨o, a2.base b _ h ?_⟩
        rintro ⟨x, hx, y⟩
        cases hx
        rcases y with y | y
        · have y : b = p := y
          rw [y, hp] at h; cases h
        · have y : b = q := y
          rw [y, hq] at h; cases h
      · exact .inr h
  · rintro σ2 H2 l2 ⟨ρ2, ps2, own2, a1, a2, a3⟩; rw [e] at a1; cases a1
  · rintro σ2 H2 l2 ⟨ρ2, ps2, own2, a1, a2, a3⟩; rw [e] at a1; cases a1
  · rintro v H2 ⟨d, ρ2, ps2, own2, σ2, a1, a2, a3, a4⟩; rw [e] at a1; cases a1
/-- what stands behind the turns -/
theorem tail_run {X : Cx} {gT : SF} {tail : List Stmt} {n : Nat} {mT : List Md} {D : Ends} {σ : L2.St} {H : Hp} (hT : Dss X WF { mb := [], mr := mrOf n } (mrOf n) mT tail gT) (hm : ∃ ρ' ps', gT (List.replicate n none) none = .ok (.rt (.bl true) ρ') ps') (hl : σ.length = n)
    (hD : ∀ H', D.rt (.bl true) H') : cSs X tail D σ H := by
  intro pins s I
  obtain ⟨ρ', ps', e⟩ := hm
  refine thn (hT.run { pl := none, E := fun _ => False, B := H } (fun _ => 0) pins s σ (List.replicate n none) H none I (end_rs hl) (fun p hp => by cases hp) (by rw [e]; exact fun z => nomatch z) (wsF e)) fun fl s1 q1 => spL q1 ?_ ?_ ?_ ?_
  · rintro σ2 H2 l2 ⟨ρ2, ps2, own2, a1, a2, a3⟩; rw [e] at a1; cases a1
  · rintro σ2 H2 l2 ⟨ρ2, ps2, own2, a1, a2, a3⟩; rw [e] at a1; cases a1
  · rintro σ2 H2 l2 ⟨ρ2, ps2, own2, a1, a2, a3⟩; rw [e] at a1; cases a1
  · rintro v H2 ⟨d, ρ2, ps2, own2, σ2, a1, a2, a3, a4⟩
    rw [e] at a1
    cases a1
    have a4 : Rep none X.K (hid (Xs (mrOf n) own2 { pl := none, E := fun _ => False, B := H }) H2) (.bl true) v := a4
    unfold Rep at a4
    subst a4
    exact hD H2
end DL
set_option Elab.async false
set_option linter.all false
set_option maxRecDepth 100000
set_option maxHeartbeats 2000000
/-! D49: lists of new lists, and the loop that spoils them. -/
namespace DL
open PySem PySem.Spec PyProof.Rows L2
/-- lists that stood nowhere in H0 -/
inductive NwR (pl : Pl) (H0 H : Hp) : List D → List V → Prop
  | nil : NwR pl H0 H [] []
  | cons {ds : List D} {a : Addr} {xs : List V} {r : List D} {t : List V} (h0 : H0 a = none) (np : ¬ plS pl a) (h : H a = some (.lst xs)) (hl : xs.length = ds.length) (q : NwR pl H0 H r t) : NwR pl H0 H (.lst ds :: r) (.ref a :: t)
theorem NwR.mono {pl : Pl} {H0 H H' : Hp} {ds : List D} {vs : List V} (x : Exo (plS pl) H H') (h : NwR pl H0 H ds vs) : NwR pl H0 H' ds vs := by
  induction h with
  | nil => exact .nil
  | cons h0 np h hl q ih => exact .cons h0 np (x _ _ h np) hl ih
theorem NwR.length {pl : Pl} {H0 H : Hp} {ds : List D} {vs : List V} (h : NwR pl H0 H ds vs) : vs.length = ds.length := by
  induction h with
  | nil => rfl
  | cons h0 np h hl q ih => rw [List.length_cons, List.length_cons, ih]
theorem NwR.snoc {pl : Pl} {H0 H H' : Hp} {ds : List D} {vs : List V} {es : List D} {p : Addr} {ws : List V} (h : NwR pl H0 H ds vs) (k : ∀ a xs, V.ref a ∈ vs → H a = some (.lst xs) → H' a = some (.lst xs)) (h0 : H0 p = none) (np : ¬ plS pl p) (hp : H' p = some (.lst ws)) (hl : ws.length = es.length) : NwR pl H0 H' (ds ++ [.lst es]) (vs ++ [.ref p]) := by
  induction h with
  | nil => exact .cons h0 np hp hl .nil
  | cons g0 gp g gl q ih => exact .cons g0 gp (k _ _ (List.mem_cons_self ..) g) gl (ih fun a xs h => k a xs (List.mem_cons_of_mem _ h))
theorem NwR.append {pl : Pl} {H0 H : Hp} {ds es : List D} {vs us : List V} (h : NwR pl H0 H ds vs) (t : NwR pl H0 H es us) : NwR pl H0 H (ds ++ es) (vs ++ us) := by
  induction h with
  | nil => exact t
  | cons g0 gp g gl q ih => exact .cons g0 gp g gl ih
section
variable {X : Cx} {W : WX} {m mT : List Md} {elt tg iter kx vx : Expr} {ifs : List Expr} {scope : Scope} {own0 : List (Str × Nat)} {pos : Pos} {F : D → Rho → R Rho} {fc : FT} {fe fk fv : FE} {fi : FA} {is : List Nat} {Jc : JP}
theorem lcN_t {vs : List Nat} {Q : VK} (B : Blk X scope m vs tg ifs Jc mT is F fc) (he : ∀ (s : Shared) (H : Hp) (C : Addr) (cl : List (Str × Addr)) (fp : List Addr), Dx .fr (blkOf X scope s H C cl fp) WF mT elt fe)
    {g : G} {own : Nat → Addr} {σ : L2.St} {ρ : Rho} {H : Hp} {ps : Ps} (r : Rs X.K g m own σ ρ H ps) (hcI : cI X tg iter σ H (QI m own g.pl X.K (Xs m own g) H (fi ρ ps))) (n : lcF vs fi F fc fe ρ ps ≠ .und) (hL : ∀ fin psf, lcF vs fi F fc fe ρ ps = .ok (.lst fin) psf → ∀ d ∈ fin, ∃ ds, d = .lst ds)
    (hQ : ∀ fin psf p av H', lcF vs fi F fc fe ρ ps = .ok (.lst fin) psf → Exo (plS g.pl) H H' → PoolAt g.pl H' psf → H p = none → H' p = some (.lst av) → NwR g.pl H H' fin av → (∀ u ∈ av, u ≠ .ref p) → Q (.ref p) H') :
    tLc (cI X tg iter) (bG X scope tg) (bTs X scope ifs) (bE X scope elt) vs σ H Q := by
  intro pins0 s0 I0
  refine thn (hcI pins0 s0 I0) fun v s1 h1 => thn h1 fun itv s2 h2 => ?_
  obtain ⟨it, fp, tn, JJ, H1, e1, I1, T, st2, f2, its, ps1, ks, e2, x1, p1, wk, hk, hits⟩ := h2
  refine ⟨it, fp, tn, JJ, H1, e1, I1, T, st2, f2, fun Da hDa => ?_⟩
  have e3 : lcF vs fi F fc fe ρ ps = (noX (lcGo F fc fe (its.map Item.d) (wipeR ρ vs)) >>= fun ds => if lenC ds.length = true then (pure (.lst ds) : R D) else R.und) ps1 := bind_ok e2
  rw [e3] at n hQ hL
  obtain ⟨fin, psf, hfin, hfin'⟩ := noX_ok (ne_of_bind n)
  rw [bind_ok hfin'] at n hQ hL
  obtain ⟨hlen, hret⟩ := ifB_und n
  rw [hret] at hQ hL
  have hL := hL fin psf rfl
  have r0 := (r.mono x1 p1).ns.wipe rfl vs
  have r1 := r.mono x1 p1
  have npl : ¬ plS g.pl Da := r1.npl hDa
  have nX : ¬ Xs m own g Da := fun z => r1.xT _ z hDa
  have xsw : ∀ a, Xs (wipeM m vs) own g.ns a → Xs m own g a := fun a z => by
    rcases z with z | z | ⟨i, z, e⟩
    · exact .inl z
    · exact .inr (.inl z)
    · refine .inr (.inr ⟨i, ?_, e⟩)
      rcases z with z | z
      · exact .inl (leM_at (leM_wipe m vs) i _ z (by decide))
      · exact .inr (leM_at (leM_wipe m vs) i _ z (by decide))
  -- the state at a turn
  have stt : ∀ {H2 : Hp} {ps2 : Ps} {acc : List V}, Exo (plS g.pl) H1 H2 → PoolAt g.pl H2 ps2 → H2 Da = some (.lst acc) → Rs X.K (g.ns.hd Da) (wipeM m vs) own (wipe σ vs) (wipeR ρ vs) H2 ps2 := fun x2 p2 hd => r0.hideTo hDa x2 hd p2
  have lift : ∀ {H2 : Hp}, Exo (plS g.pl) H1 H2 → Ex (hid (Xs m own g) H1) (hid (Xs (wipeM m vs) own (g.ns.hd Da)) H2) := fun {H2} x2 a o q => by
    obtain ⟨n1, q⟩ := hid_of q
    have na : a ≠ Da := ne_of_none q hDa
    rw [hid_at (fun z => (Xs.hd_out a z).elim (fun z => n1 (xsw a z)) na)]
    exact x2 a o q fun z => n1 (Xs.pl _ z)
  let P : Nat → Hp → Prop := fun i H2 => i ≤ its.length ∧ ∃ (acc : List D) (av : List V) (ps2 : Ps), Exo (plS g.pl) H1 H2 ∧ PoolAt g.pl H2 ps2 ∧ H2 Da = some (.lst av) ∧ (NwR g.pl H H2 acc av ∧ ∀ u ∈ av, u ≠ .ref Da) ∧
    (lcGo F fc fe ((its.map Item.d).drop i) (wipeR ρ vs) >>= fun t => (pure (acc ++ t) : R (List D))) ps2 = .ok fin psf
  refine ⟨fun i k H2 => k = its.length - i ∧ P i H2, ⟨its.length, by simp, Nat.zero_le _, [], [], ps1, Exo.new hDa, p1.new hDa, upd_same, ⟨.nil, fun u hu => by cases hu⟩, ?_⟩, ?_⟩
  · rw [List.drop_zero, bind_ok hfin]; rfl
  rintro i k H2 ⟨rfl, hil, acc, av, ps2, x2, p2, hav, hreps, heq⟩
  have kH : KeepH ks H2 := fun p hp => x2 _ _ (hk p hp).1 (hk p hp).2.1
  by_cases hlt : i < its.length
  · right
    refine ⟨wk.go i H2 hlt kH, fun H' => P (i + 1) H', fun H' q => ⟨its.length - (i + 1), by omega, rfl, q⟩, fun x H' hy => ?_⟩
    have hit := List.getElem?_eq_getElem hlt
    have hY := wk.yld i x H2 H' its[i] hit kH hy
    have hdrop : (its.map Item.d).drop i = its[i].d :: (its.map Item.d).drop (i + 1) := by
      rw [List.drop_eq_getElem_cons (by simpa using hlt)]; simp
    rw [hdrop] at heq
    have ntot := ne_of_bind (show (lcGo F fc fe (its[i].d :: (its.map Item.d).drop (i + 1)) (wipeR ρ vs) >>= fun t => (pure (acc ++ t) : R (List D))) ps2 ≠ .und by rw [heq]; exact fun z => nomatch z)
    have rr := stt x2 p2 hav
    refine turn_go B rfl rr ((hits _ (List.getElem_mem hlt)).mono (lift x2)) hY ntot fun ρ1 σ1 b H4 ps4 r4 x4 e4 => ?_
    have x14 := x2.trans x4
    have hav4 : H4 Da = some (.lst av) := x4 _ _ hav npl
    have ex4 : Ex (hid (Xs (wipeM m vs) own (g.ns.hd Da)) H2) (hid (Xs (wipeM m vs) own (g.ns.hd Da)) H4) := x4.hid Xs.pl
    have heq4 : ((if b = true then (do let y ← noX (fe ρ1); let t ← lcGo F fc fe ((its.map Item.d).drop (i + 1)) (wipeR ρ vs); pure (y :: t)) else lcGo F fc fe ((its.map Item.d).drop (i + 1)) (wipeR ρ vs)) >>= fun t => (pure (acc ++ t) : R (List D))) ps4 = .ok fin psf := by
      rw [← heq]
      show R.bnd _ _ ps4 = R.bnd _ _ ps2
      unfold R.bnd
      rw [show lcGo F fc fe (its[i].d :: (its.map Item.d).drop (i + 1)) (wipeR ρ vs) ps2 = _ from e4]
    cases b with
    | false =>
      exact ⟨hlt, acc, av, ps4, x14, r4.pool, hav4, ⟨hreps.1.mono x4, hreps.2⟩, heq4⟩
    | true =>
      rw [if_pos rfl] at heq4 ⊢
      have n5 : noX (fe ρ1) ps4 ≠ .und := ne_of_bind (ne_of_bind (show ((do let y ← noX (fe ρ1); let t ← lcGo F fc fe ((its.map Item.d).drop (i + 1)) (wipeR ρ vs); pure (y :: t) : R (List D)) >>= fun t => (pure (acc ++ t) : R (List D))) ps4 ≠ .und by rw [heq4]; exact fun z => nomatch z))
      intro s5 H5 C5 cl5 fp5
      refine cE.mono ((he s5 H5 C5 cl5 fp5).cX r4 n5) fun y H6 ⟨d6, ps6, e6, x6, p6, q6⟩ => ?_
      have heq6 : (lcGo F fc fe ((its.map Item.d).drop (i + 1)) (wipeR ρ vs) >>= fun t => (pure (acc ++ d6 :: t) : R (List D))) ps6 = .ok fin psf := by
        rw [← heq4]
        show R.bnd _ _ ps6 = R.bnd (R.bnd (noX (fe ρ1)) _) _ ps4
        unfold R.bnd
        rw [e6]
        show _ = R.bnd (R.bnd _ _) _ ps6
        unfold R.bnd
        cases lcGo F fc fe ((its.map Item.d).drop (i + 1)) (wipeR ρ vs) ps6 <;> rfl
      have hav6 : H6 Da = some (.lst av) := x6 _ _ hav4 npl
      have hmem : d6 ∈ fin := by
        cases z : lcGo F fc fe ((its.map Item.d).drop (i + 1)) (wipeR ρ vs) ps6 with
        | und => rw [bind_und z] at heq6; cases heq6
        | exc e q => rw [bind_exc z] at heq6; cases heq6
        | ok t q =>
          rw [bind_ok z] at heq6
          have : Res.ok (acc ++ d6 :: t) q = Res.ok fin psf := heq6
          cases this
          simp
      obtain ⟨ds6, rfl⟩ := hL _ hmem
      obtain ⟨p', rfl, q61, q62⟩ := q6
      obtain ⟨vs6, q63, q64⟩ := (show TopR g.pl X.K _ (.lst ds6) (H6 p') from q62)
      have hp0 : H p' = none := by
        cases z : H p' with
        | none => rfl
        | some o =>
          have npp : ¬ plS g.pl p' := fun y => r4.pool.there y q61
          rw [x4 _ _ (x2 _ _ (x1 _ _ z npp) npp) npp] at q61; cases q61
      have nDa : p' ≠ Da := fun z => by rw [z, hav4] at q61; cases q61
      have hacc : acc.length < fin.length := by
        cases z : lcGo F fc fe ((its.map Item.d).drop (i + 1)) (wipeR ρ vs) ps6 with
        | und => rw [bind_und z] at heq6; cases heq6
        | exc e q => rw [bind_exc z] at heq6; cases heq6
        | ok t q =>
          rw [bind_ok z] at heq6
          have : Res.ok (acc ++ (D.lst ds6) :: t) q = Res.ok fin psf := heq6
          cases this
          simp
      refine ⟨av, hav6, ?_, hlt, acc ++ [.lst ds6], av ++ [.ref p'], ps6, ?_, pool_unhide npl p6, upd_same, ?_, ?_⟩
      · rw [hreps.1.length]; exact Nat.lt_of_lt_of_le hacc (lenC_ok hlen)
      · exact fun a o h nn => by rw [upd_ne (ne_of_none h hDa)]; exact (x14.trans x6) a o h nn
      · have hu : ∀ {a : Addr} {o : HO}, H6 a = some o → a ≠ Da → upd H6 Da (.lst (av ++ [V.ref p'])) a = some o := fun h n => by rw [upd_ne n]; exact h
        refine ⟨((hreps.1.mono x4).mono x6).snoc (fun a xs h hx => hu hx (fun z => (hreps.2 _ h) (by rw [z]))) hp0 (fun z => r4.pool.there z q61) (hu q63 nDa) q64.length, fun u hu' => ?_⟩
        rcases List.mem_append.mp hu' with h | h
        · exact hreps.2 u h
        · rw [List.mem_singleton.mp h]; exact fun z => nDa (by cases z; rfl)
      · rw [← heq6]; simp
  · left
    have hie : i = its.length := by omega
    subst hie
    refine ⟨wk.stop H2 kH, ?_⟩
    rw [List.drop_eq_nil_of_le (by simp)] at heq
    have : Res.ok (acc ++ []) ps2 = Res.ok fin psf := heq
    rw [List.append_nil] at this
    cases this
    refine hQ fin psf Da av H2 rfl (x1.trans x2) p2 ?_ hav hreps.1 hreps.2
    cases z : H Da with
    | none => rfl
    | some o => rw [x1 _ _ z npl] at hDa; cases hDa
end
end DL
set_option Elab.async false
set_option linter.all false
set_option maxRecDepth 100000
set_option maxHeartbeats 2000000
/-! D50: ys = [new lists ..]; for z in ys + [new lists ..]: z.append(c). -/
namespace DL
open PySem PySem.Spec PyProof.Rows L2
theorem wipeM_at {m : List Md} {j : Nat} {x : Md} : ∀ {vs : List Nat}, (wipeM m vs)[j]? = some x → x ≠ .no → j ∉ vs ∧ m[j]? = some x
  | [], h, _ => ⟨(fun z => by cases z), h⟩
  | v :: vs, h, n => by
    rcases set_at h with ⟨_, e, _⟩ | ⟨ne, h⟩
    · exact (n e).elim
    · obtain ⟨h1, h2⟩ := wipeM_at h n
      exact ⟨fun z => (List.mem_cons.mp z).elim ne h1, h2⟩
theorem wipeR_out {ρ : Rho} {j : Nat} : ∀ {vs : List Nat}, j ∉ vs → (wipeR ρ vs)[j]? = ρ[j]?
  | [], _ => rfl
  | v :: vs, h => by
    show ((wipeR ρ vs).set v none)[j]? = _
    rw [List.getElem?_set_ne fun z => h (by rw [z]; exact List.mem_cons_self ..)]
    exact wipeR_out fun z => h (List.mem_cons_of_mem _ z)
theorem wipeR_len {ρ : Rho} : ∀ {vs : List Nat}, (wipeR ρ vs).length = ρ.length
  | [] => rfl
  | v :: vs => by show ((wipeR ρ vs).set v none).length = _; rw [List.length_set, wipeR_len]
/-- slots of which nothing is known -/
theorem Rs.junk {K : PySem.W.Frag} {g : G} {m : List Md} {own : Nat → Addr} {σ σ' : L2.St} {ρ : Rho} {H : Hp} {ps : Ps} (r : Rs K g m own σ ρ H ps) {vs : List Nat} (hl : σ'.length = σ.length) (hs : ∀ j, j ∉ vs → σ'[j]? = σ[j]?) (hp : ∀ p ∈ g.sx, p.1 ∉ vs) : Rs K g (wipeM m vs) own σ' (wipeR ρ vs) H ps := by
  have r1 := r.weak (leM_wipe m vs)
  exact {
    len := by rw [wipeR_len, hl]; exact r.len
    sh := fun j d h1 h2 => by
      obtain ⟨n1, _⟩ := wipeM_at h1 (by decide)
      rw [wipeR_out n1] at h2
      obtain ⟨w, h3, h4⟩ := r1.sh j d h1 h2
      exact ⟨w, by rw [hs j n1]; exact h3, h4⟩
    ow := fun j h => by
      have n1 : j ∉ vs := by rcases h with h | h <;> exact (wipeM_at h (by decide)).1
      obtain ⟨d, h1, h2, h3⟩ := r1.ow j h
      exact ⟨d, by rw [wipeR_out n1]; exact h1, by rw [hs j n1]; exact h2, h3⟩
    sb := fun j d h1 h2 => by
      obtain ⟨n1, _⟩ := wipeM_at h1 (by decide)
      rw [wipeR_out n1] at h2
      obtain ⟨w, h3, h4⟩ := r1.sb j d h1 h2
      exact ⟨w, by rw [hs j n1]; exact h3, h4⟩
    xc := fun j a dx h => by
      obtain ⟨n1, _⟩ := wipeM_at h (fun z => nomatch z)
      obtain ⟨d, h1, h2, h3⟩ := r1.xc j a dx h
      exact ⟨d, by rw [wipeR_out n1]; exact h1, by rw [hs j n1]; exact h2, h3⟩
    ex := r1.ex
    sx := fun p hq => by
      obtain ⟨v, h1, h2⟩ := r1.sx p hq
      exact ⟨v, by rw [hs _ (hp p hq)]; exact h1, h2⟩
    inj := r1.inj
    nE := r1.nE
    base := r1.base
    pool := r1.pool
    eT := r1.eT }
def shortL : D → Bool
  | .lst xs => decide (xs.length ≤ 1000)
  | _ => false
def spC (ls ds : List D) : Bool := (ls ++ ds).all shortL && decide ((ls ++ ds).length ≤ 1000)
def lstO : D → R (List D)
  | .lst ls => pure ls
  | _ => R.und
def spF (iy iz : Nat) (lc : FE) (fs : FA) : SF := fun ρ => do
  let d ← lc ρ
  let ls ← lstO d
  let ds ← noX (fs (wipeR ρ [iy]))
  if spC ls ds = true then pure (.nx (wipeR ρ [iz, iy])) else R.und
theorem lstO_ne {d : D} {ps : Ps} (n : lstO d ps ≠ .und) : ∃ ls, d = .lst ls ∧ lstO d ps = .ok ls ps := by
  cases d with
  | lst ls => exact ⟨ls, rfl, rfl⟩
  | _ => exact (n rfl).elim
theorem nw_kr {pl : Pl} {K : PySem.W.Frag} {Hx H0 H : Hp} : ∀ {ks : List Bool} {ds : List D} {vs : List V} {fr : List Addr}, KR pl K Hx H ks ds vs fr → ks.all (fun k => k) = true → ds.all shortL = true → (∀ p ∈ fr, H0 p = none ∧ ¬ plS pl p) → NwR pl H0 H ds vs
  | [], [], vs, fr, h, _, _, _ => by obtain ⟨rfl, _⟩ := h; exact .nil
  | true :: ks, d :: ds, vs, fr, h, hk, hd, hf => by
    obtain ⟨p, t, fr', rfl, rfl, h3, h4⟩ := h
    rw [List.all_cons, Bool.and_eq_true] at hk hd
    cases d with
    | lst xs =>
      obtain ⟨ws, h5, h6⟩ := h3
      exact .cons (hf p (List.mem_cons_self ..)).1 (hf p (List.mem_cons_self ..)).2 h5 h6.length (nw_kr h4 hk.2 hd.2 fun q hq => hf q (List.mem_cons_of_mem _ hq))
    | _ => exact Bool.noConfusion hd.1
  | false :: ks, d :: ds, vs, fr, h, hk, _, _ => by simp at hk
  | [], _ :: _, _, _, h, _, _, _ => h.elim
  | k :: _, [], _, _, h, _, _, _ => by cases k <;> exact h.elim
/-- each item a list that may grow -/
def Grow (pl : Pl) (H0 H : Hp) (n : Nat) (vs : List V) : Prop := ∀ u ∈ vs, ∃ a xs, u = .ref a ∧ H0 a = none ∧ ¬ plS pl a ∧ H a = some (.lst xs) ∧ xs.length ≤ n
theorem NwR.grow {pl : Pl} {H0 H : Hp} {ds : List D} {vs : List V} (h : NwR pl H0 H ds vs) (hs : ds.all shortL = true) : Grow pl H0 H 1000 vs := by
  induction h with
  | nil => intro u hu; cases hu
  | cons h0 np h hl q ih =>
    rw [List.all_cons, Bool.and_eq_true] at hs
    intro u hu
    rcases List.mem_cons.mp hu with rfl | hu
    · exact ⟨_, _, rfl, h0, np, h, by rw [hl]; exact of_decide_eq_true hs.1⟩
    · exact ih hs.2 u hu
section
variable {X : Cx} {W : WX} {J : JP} {m m' mT : List Md} {elt tg iter : Expr} {ifs : List Expr} {scope : Scope} {own0 : List (Str × Nat)} {pos spos : Pos} {F : D → Rho → R Rho} {fc : FT} {fe : FE} {fi : FA} {is : List Nat} {Jc : JP}
  {iy iz : Nat} {y z cst : Str} {py pz p1 p2 p3 p4 p5 p6 pl ap cp : Pos} {es : List Expr} {fs : FA} {ks : List Bool} {rest : List Stmt} {g2 : SF} {kc : Nat}
theorem dss_spoil (hc : X.calm = true) (hp : PassesOwn (model X.prog X.w) X.A X.env X.xe) (hN : X.N.Nodup) (hy : X.N[iy]? = some y) (hyl : X.env.scope.names.lookup y = some .local) (hz : X.N[iz]? = some z) (hzl : X.env.scope.names.lookup z = some .local) (hyz : iy ≠ iz)
    (hsw : swapsWith (.ListComp elt [⟨tg, iter, ifs, 0⟩] scope pos) (some (.Name y py)) spos.line X.env = pure true) (ok : blkC X.N X.env.scope scope own0 = true) (hi : DI X W m tg iter fi) (B : Blk X scope m (own0.map (·.2)) tg ifs Jc mT is F fc)
    (he : ∀ (s : Shared) (H : Hp) (C : Addr) (cl : List (Str × Addr)) (fp : List Addr), Dx .fr (blkOf X scope s H C cl fp) WF mT elt fe) (hes : Kx X W (wipeM m [iy]) es ks fs) (hks : ks.all (fun k => k) = true) (h2 : Dss X W J (wipeM m [iz, iy]) m' rest g2)
    (hio : ((m[iy]? == some .io) || (m[iz]? == some .io)) = false := by rfl) (hpx : (J.px.contains iy || J.px.contains iz) = false := by rfl)
    (hdy : (y == ("__debug__" : Str)) = false := by decide) (hcy : (y == ("__classdict__" : Str)) = false := by decide) (hdz : (z == ("__debug__" : Str)) = false := by decide) (hcz : (z == ("__classdict__" : Str)) = false := by decide)
    (hsf : ∀ x, foldedSetIterable iter X.env x = pure x := by intro _; rfl) (hsf2 : ∀ x, foldedSetIterable (.BinOp (.Name y p1) .Add (.List es pl) p2) X.env x = pure x := by intro _; rfl)
    (hbase : attributeBase (.Name z p3) "append" X.env (eval (.Name z p3) X.env) = eval (.Name z p3) X.env := by rfl)
    (hfew : ((backTo cp (starEach [.Constant (.str cst) kc p4] X.env)).all (fun x => !x.1) && (backToKw cp (keywordEach [] X.env)).all (fun x => x.1.isSome)
      && decide ([(Expr.Constant (.str cst) kc p4)].length + ([] : List Keyword).length + (if ([] : List Keyword).isEmpty then 0 else 1) < 30)) = true := by rfl)
    (hline : (ap.endLine == cp.line) = true := by rfl) (hst : starEach [.Constant (.str cst) kc p4] X.env = (false, eval (.Constant (.str cst) kc p4) X.env) :: starEach [] X.env := by rfl) (hplain : (backTo cp (starEach [] X.env)).any (·.1) = false := by rfl)
    (hsw2 : swapsWith (.Call (.Attribute (.Name z p3) "append" ap) [.Constant (.str cst) kc p4] [] cp) none p5.line X.env = pure false := by rfl) :
    Dss X W J m m' (.Assign [.Name y py] (.ListComp elt [⟨tg, iter, ifs, 0⟩] scope pos) spos :: .For (.Name z pz) (.BinOp (.Name y p1) .Add (.List es pl) p2) [.Expr (.Call (.Attribute (.Name z p3) "append" ap) [.Constant (.str cst) kc p4] [] cp) p5] [] p6 :: rest) (sqF (spF iy iz (lcF (own0.map (·.2)) fi F fc fe) fs) g2) := by
  refine ⟨fun g own pins s σ ρ H ps I r hx n w => ?_⟩
  have ly : iy < σ.length := by rw [I.len]; exact (List.getElem?_eq_some_iff.mp hy).1
  have lz : iz < σ.length := by rw [I.len]; exact (List.getElem?_eq_some_iff.mp hz).1
  rw [Bool.or_eq_false_iff] at hio hpx
  have nio : ∀ {i : Nat}, (m[i]? == some Md.io) = false → m[i]? ≠ some .io := fun h z => by rw [z] at h; cases h
  have w1 : WS W X.K g (spF iy iz (lcF (own0.map (·.2)) fi F fc fe) fs ρ ps) := fun x ps' dx H' σ' e => w x ps' dx H' σ' (bind_exc e)
  have n1 := ne_of_bind n
  have n2 := ne_of_bind n1
  have vy : Vis X.env.scope y := .inl hyl
  have vz : Vis X.env.scope z := .inl hzl
  refine (pss_cons (ps_setLc (te := bE X scope elt) (g := bG X scope tg) (tt := bTs X scope ifs) hc hN hy hyl hsw (pi_c X tg iter) (blkOk_by ok) (fun s H0 C cl fp => ⟨fun pins s' σ H v u Q I rv h => h s H0 C cl fp pins s' u I rv⟩) (fun s H0 C cl fp => ⟨fun pins s' σ H Q I h => h s H0 C cl fp pins s' I⟩) (fun s H0 C cl fp => ⟨fun pins s' σ H Q I h => h s H0 C cl fp pins s' I⟩) hsf)
    (pss_cons (ps_for hp hc (pi_list (pe_op op_cat (pe_var hy vy hdy hcy) (pe_lst (pa_c X es)))) (pg_name (i := iz) hN hz (.inl hzl) (.inr hzl))
      (pss_one (ps_expr (pe_bm PySem.F.plainAttrs_list PySem.F.slot_list_append PySem.F.type_list_append mt_append (pe_var hz vz hdz hcz) (pa_cons pe_str pa_nil hst) hbase hfew hline hst hplain) hsw2)) hsf2) (pss_c X rest))).run pins s σ H _ I ?_
  have e0 : ∀ {d : D} {p : Ps}, lcF (own0.map (·.2)) fi F fc fe ρ ps = .ok d p → spF iy iz (lcF (own0.map (·.2)) fi F fc fe) fs ρ ps = (lstO d >>= fun ls => noX (fs (wipeR ρ [iy])) >>= fun ds => if spC ls ds = true then (pure (.nx (wipeR ρ [iz, iy])) : R Fl) else R.und) p := fun e => bind_ok e
  -- what the list's items and the others are
  have sp : ∀ {fin : List D} {psf : Ps}, lcF (own0.map (·.2)) fi F fc fe ρ ps = .ok (.lst fin) psf → noX (fs (wipeR ρ [iy])) psf ≠ .und ∧ ∀ ds p2, noX (fs (wipeR ρ [iy])) psf = .ok ds p2 → spC fin ds = true ∧ spF iy iz (lcF (own0.map (·.2)) fi F fc fe) fs ρ ps = .ok (.nx (wipeR ρ [iz, iy])) p2 := fun {fin psf} e => by
    have e1 := e0 e
    rw [e1] at n1
    have n3 : (noX (fs (wipeR ρ [iy])) >>= fun ds => if spC fin ds = true then (pure (.nx (wipeR ρ [iz, iy])) : R Fl) else R.und) psf ≠ .und := n1
    refine ⟨ne_of_bind n3, fun ds p2 e2 => ?_⟩
    rw [bind_ok e2] at n3
    obtain ⟨h1, h2⟩ := ifF_und n3
    refine ⟨h1, ?_⟩
    rw [e1]
    show (noX (fs (wipeR ρ [iy])) >>= fun ds => if spC fin ds = true then (pure (.nx (wipeR ρ [iz, iy])) : R Fl) else R.und) psf = _
    rw [bind_ok e2, h2]; rfl
  let DDr := DD X J m m' g own (sqF (spF iy iz (lcF (own0.map (·.2)) fi F fc fe) fs) g2 ρ ps)
  show tLc (cI X tg iter) (bG X scope tg) (bTs X scope ifs) (bE X scope elt) (own0.map (·.2)) σ H (fun x H1 => tSeq (tFor (iList X.K (tOp rCat (tVar iy) (tLst (cA X es)))) (gName iz) (tDrop (tBM X.K "list" rAppend (tVar iz) (tCons (tC (V.str cst)) tNil)))) (cSs X rest) DDr (σ.set iy (some x)) H1)
  have psx : ∀ {i : Nat}, J.px.contains i = false → ∀ q ∈ g.sx, q.1 ≠ i := fun h q hq => sx_ne hx h q hq
  refine lcN_t B he r (hi.can r (ne_of_bind n2) (WOk.left (WS.ex w1 r))) n2 (fun fin psf e d hd => ?_) fun fin psf p av H1 e x1 q1 hp0 hav nw hne => ?_
  · obtain ⟨n3, hsp⟩ := sp e
    obtain ⟨ds, p2, _, q⟩ := noX_ok n3
    obtain ⟨h1, _⟩ := hsp ds p2 q
    unfold spC at h1
    rw [Bool.and_eq_true] at h1
    have h3 := List.all_eq_true.mp h1.1 d (List.mem_append_left _ hd)
    cases d with
    | lst xs => exact ⟨xs, rfl⟩
    | _ => exact Bool.noConfusion h3
  · obtain ⟨n3, hsp⟩ := sp e
    obtain ⟨ds0, p20, q20, q21⟩ := noX_ok n3
    have w2 : WOk W g.pl X.K (Xs (wipeM m [iy]) own g) (σ.set iy (some (.ref p))) H1 (fs (wipeR ρ [iy]) psf) := fun x ps' dx H' z => by rw [q20] at z; cases z
    have r1 : Rs X.K g (wipeM m [iy]) own (σ.set iy (some (.ref p))) (wipeR ρ [iy]) H1 psf := (r.mono x1 q1).junk (List.length_set ..) (fun j hj => List.getElem?_set_ne fun z => hj (by rw [z]; exact List.mem_cons_self ..)) (fun q hq z => psx hpx.1 q hq (List.mem_singleton.mp z))
    refine ⟨.ref p, List.getElem?_set_self ly, cA.mono (hes.can r1 (by rw [q20]; exact fun z => nomatch z) w2) fun bv H2 ⟨ds, ps2, fr, e2, x2, q2, kr, nd, hf⟩ => ?_⟩
    obtain ⟨hC, hsf3⟩ := hsp ds ps2 (noX_of e2)
    have hC1 := hC
    unfold spC at hC1
    rw [Bool.and_eq_true, List.all_append, Bool.and_eq_true] at hC1
    obtain ⟨⟨c1, c2⟩, c3⟩ := hC1
    have c3 := of_decide_eq_true c3
    rw [List.length_append] at c3
    have npp : ¬ plS g.pl p := r.npl hp0
    have hav2 : H2 p = some (.lst av) := x2 _ _ hav npp
    have nw2 : NwR g.pl H H2 ds bv := nw_kr kr hks c2 fun q hq => ⟨fresh_back x1 q1 (hf q hq), r1.npl (hf q hq)⟩
    have nwa := nw.mono x2
    have x12 := x1.trans x2
    refine ⟨by rw [nw2.length, sizeLine_eq]; omega, fun b hb => ?_⟩
    have k1 : ∀ {a : Addr} {o : HO}, H2 a = some o → upd H2 b (.lst bv) a = some o := fun h => by rw [upd_ne (ne_of_none h hb)]; exact h
    refine ⟨p, b, av, bv, rfl, rfl, k1 hav2, upd_same, by rw [nw2.length, nwa.length, sizeLine_eq]; omega, fun c hc' => ?_⟩
    have k2 : ∀ {a : Addr} {o : HO}, H2 a = some o → upd (upd H2 b (.lst bv)) c (.lst (av ++ bv)) a = some o := fun h => by rw [upd_ne (ne_of_none (k1 h) hc')]; exact k1 h
    have gr : Grow g.pl H (upd (upd H2 b (.lst bv)) c (.lst (av ++ bv))) 1000 (av ++ bv) := fun u hu => by
      have go : ∀ {vs : List V}, Grow g.pl H H2 1000 vs → u ∈ vs → ∃ a xs, u = .ref a ∧ H a = none ∧ ¬ plS g.pl a ∧ upd (upd H2 b (.lst bv)) c (.lst (av ++ bv)) a = some (.lst xs) ∧ xs.length ≤ 1000 := fun h hm => by
        obtain ⟨a, xs, h1, h2, h3, h4, h5⟩ := h u hm
        exact ⟨a, xs, h1, h2, h3, k2 h4, h5⟩
      rcases List.mem_append.mp hu with h | h
      · exact go (nwa.grow c1) h
      · exact go (nw2.grow c2) h
    have far : ∀ u ∈ av ++ bv, u ≠ .ref c := fun u hu z => by
      have : ∃ a xs, u = .ref a ∧ H2 a = some (.lst xs) := by
        rcases List.mem_append.mp hu with h | h
        · obtain ⟨a, xs, h1, _, _, h4, _⟩ := nwa.grow c1 u h; exact ⟨a, xs, h1, h4⟩
        · obtain ⟨a, xs, h1, _, _, h4, _⟩ := nw2.grow c2 u h; exact ⟨a, xs, h1, h4⟩
      obtain ⟨a, xs, h1, h4⟩ := this
      rw [z] at h1
      cases h1
      rw [k1 h4] at hc'; cases hc'
    have x3 : Exo (plS g.pl) H (upd (upd H2 b (.lst bv)) c (.lst (av ++ bv))) := fun a o h nn => k2 (x12 a o h nn)
    have q3 : PoolAt g.pl (upd (upd H2 b (.lst bv)) c (.lst (av ++ bv))) ps2 := (q2.new hb).new hc'
    refine ⟨c, rfl, ⟨_, SqL.of upd_same⟩, for_list (K := X.K) (a := c) (xs := av ++ bv) (fun i σ' H' => σ'.length = σ.length ∧ (∀ j, j ∉ [iz, iy] → σ'[j]? = σ[j]?) ∧ H' c = some (.lst (av ++ bv)) ∧ Exo (plS g.pl) H H' ∧ PoolAt g.pl H' ps2 ∧ Grow g.pl H H' (1000 + i) (av ++ bv))
      ⟨List.length_set .., fun j hj => List.getElem?_set_ne fun z => hj (by rw [z]; simp), upd_same, x3, q3, gr⟩ (fun i σ' H' _ h => .of h.2.2.1) ?_ ?_⟩
    · rintro i u σ' H' hi ⟨a1, a2, a3, a4, a5, a6⟩
      have hiz : iz < σ'.length := by rw [a1]; exact lz
      obtain ⟨d, xs, rfl, h1, h3, h4, h5⟩ := a6 u (List.mem_of_getElem? hi)
      refine ⟨_, List.getElem?_set_self hiz, .inl ⟨rfl, _, .of h4⟩, d, xs, .str cst, rfl, rfl, h4, ?_, ?_⟩
      · have hil := (List.getElem?_eq_some_iff.mp hi).1
        rw [List.length_append, nwa.length, nw2.length] at hil
        rw [sizeLine_eq]; omega
      · have hdc : c ≠ d := fun z => far _ (List.mem_of_getElem? hi) (by rw [z])
        refine ⟨by rw [List.length_set]; exact a1, fun j hj => ?_, by rw [upd_ne hdc]; exact a3, fun a o h nn => ?_, a5.keep fun a ha => upd_ne fun z => h3 (by rw [← z]; exact ha), fun u' hu' => ?_⟩
        · rw [List.getElem?_set_ne fun z => hj (by rw [z]; exact List.mem_cons_self ..)]; exact a2 j hj
        · rw [upd_ne (ne_of_none h h1)]; exact a4 a o h nn
        · obtain ⟨a', xs', b1, b2, b3, b4, b5⟩ := a6 u' hu'
          by_cases z : a' = d
          · subst z
            rw [h4] at b4
            cases b4
            exact ⟨a', _, b1, b2, b3, upd_same, by rw [List.length_append, List.length_singleton]; omega⟩
          · exact ⟨a', xs', b1, b2, b3, by rw [upd_ne z]; exact b4, by omega⟩
    · rintro σ' H' ⟨a1, a2, a3, a4, a5, a6⟩
      have rj := (r.mono a4 a5).junk (σ' := σ') (vs := [iz, iy]) a1 a2 (fun q hq z => by
        rcases List.mem_cons.mp z with z | z
        · exact psx hpx.2 q hq z
        · exact psx hpx.1 q hq (List.mem_singleton.mp z))
      have e4 : sqF (spF iy iz (lcF (own0.map (·.2)) fi F fc fe) fs) g2 ρ ps = g2 (wipeR ρ [iz, iy]) ps2 := bind_ok hsf3
      have kio : ∀ {own2 : Nat → Addr}, OwnK (wipeM m [iz, iy]) own own2 → OwnK m own own2 := fun k i hi => k i (by
        have h1 : iz ≠ i := fun z => nio hio.2 (by rw [z]; exact hi)
        have h2 : iy ≠ i := fun z => nio hio.1 (by rw [z]; exact hi)
        show ((m.set iy .no).set iz .no)[i]? = _
        rw [List.getElem?_set_ne h1, List.getElem?_set_ne h2]; exact hi)
      intro pins3 s3 I3
      rw [e4] at n w
      refine thn (h2.run g own pins3 s3 σ' (wipeR ρ [iz, iy]) H' ps2 I3 rj hx n w) fun fl s4 q4 => spI' q4 ?_ ?_ ?_ ?_
      · rintro σ2 H2 ⟨ρ2, ps2, own2, a1, a2, a3⟩; exact ⟨ρ2, ps2, own2, e4.trans a1, a2, kio a3⟩
      · rintro σ2 H2 ⟨ρ2, ps2, own2, a1, a2, a3⟩; exact ⟨ρ2, ps2, own2, e4.trans a1, a2, kio a3⟩
      · rintro σ2 H2 ⟨ρ2, ps2, own2, a1, a2, a3⟩; exact ⟨ρ2, ps2, own2, e4.trans a1, a2, kio a3⟩
      · rintro v H2 ⟨d, ρ2, ps2, own2, σ2, a1, a2, a3, a4⟩; exact ⟨d, ρ2, ps2, own2, σ2, e4.trans a1, a2, kio a3, a4⟩
end
end DL
set_option Elab.async false
set_option linter.all false
set_option maxRecDepth 100000
set_option maxHeartbeats 2000000
/-! D51: what the written part says of a class. -/
namespace DL
open PySem PySem.Spec PyProof.Rows L2
structure ClsX (K : PySem.W.Frag) (C : Addr) : Prop extends Cls K C where
  isc : PySem.W.isClsIn K C = true
  tyC : PySem.W.typeIn K (.ref C) = some (.type "type")
  slf : PySem.W.mroIn K C (.ref C) = some true
  obj : PySem.W.mroIn K C (.type "object") = some true
  kcl : PySem.W.findIn K (.ref C) "__class__" = some (some (.builtin "object.__class__"))
  kgt : PySem.W.specialIn K (.builtin "object.__class__") "__get__" = some (some (.builtin "getset_descriptor.__get__"))
  ktk : PySem.W.takesIn K (.builtin "object.__class__") = some true
theorem ClsX.ins {K : PySem.W.Frag} {C : Addr} (x : ClsX K C) : InsOk K C := ⟨x.toCls, x.kcl, x.kgt, x.ktk, x.obj⟩
theorem subT {K : PySem.W.Frag} {C : Addr} (t : Tk) (h : ∀ C', t ≠ .ins C') : PySem.W.subIn K t.val (.ref C) = some false := by
  cases t with
  | ins C' => exact (h C' rfl).elim
  | _ => rfl
theorem ClsX.kit {K : PySem.W.Frag} {C : Addr} (x : ClsX K C) {t : Value} {b : Bool} (h : PySem.W.subIn K t (.ref C) = some b) (ht : t ≠ .ref C) : PySem.W.kitOne K t (.ref C) = some b := by
  unfold PySem.W.kitOne
  rw [if_neg (by simpa using ht)]
  unfold PySem.W.kitCls
  have e : ((PySem.W.clsIn K C).isSome && PySem.W.typeIn K (.ref C) == some (.type "type")) = true := by
    rw [show (PySem.W.clsIn K C).isSome = true from x.isc, x.tyC]; rfl
  show (if _ = true then _ else _) = _
  rw [if_pos e]; exact h
theorem is_cls {K : PySem.W.Frag} {C : Addr} (x : ClsX K C) : IsTb K (.ref C) (tbC C) := by
  refine ⟨⟨.ref C, .own C, fun t b h => ?_⟩, fun C' b h => ?_⟩
  · cases t with
    | ins C' =>
      have h : (if C' = C then some true else none) = some b := h
      by_cases e : C' = C
      · subst e
        rw [if_pos rfl] at h
        cases h
        unfold PySem.W.kitOne
        rw [if_pos (show (Tk.val (.ins C') == Value.ref C') = true from beq_self_eq_true _)]
      · rw [if_neg e] at h; cases h
    | _ => cases h; exact x.kit (subT _ (fun C' z => nomatch z)) (fun z => nomatch z)
  · have h : (if C' = C then some true else none) = some b := h
    by_cases e : C' = C
    · subst e; exact x.ins
    · rw [if_neg e] at h; cases h
theorem nfT {K : PySem.W.Frag} {C : Addr} (t : Tk) (h : ∀ C', t ≠ .ins C') : PySem.W.notFirst K C t.val = true := by
  unfold PySem.W.notFirst
  rw [subT t h, beq_self_eq_true, Bool.or_true]
theorem nf_cls {K : PySem.W.Frag} {C : Addr} (x : ClsX K C) : NfOk K C (nfC C) := by
  refine ⟨fun t h => ?_, fun C' h => ?_⟩
  · cases t with
    | ins C' =>
      have e : C' = C := of_decide_eq_true h
      subst e
      unfold PySem.W.notFirst
      rw [show (Tk.val (.ins C') == Value.ref C') = true from beq_self_eq_true _]; rfl
    | non => exact nfT .non (fun C' z => nomatch z)
    | bl => exact nfT .bl (fun C' z => nomatch z)
    | int => exact nfT .int (fun C' z => nomatch z)
    | str => exact nfT .str (fun C' z => nomatch z)
    | lst => exact nfT .lst (fun C' z => nomatch z)
    | tup => exact nfT .tup (fun C' z => nomatch z)
    | dct => exact nfT .dct (fun C' z => nomatch z)
  · have e : C' = C := of_decide_eq_true h
    subst e; exact x.ins
theorem mg_int {K : PySem.W.Frag} {h : Heap} {mg : Str → Option Value} {n : Str} {i : Int} {t : Tok} (X : K.In h) (G : h.Ns mainGlobals mg) (e : PySem.W.nsIn K mainGlobals n = some (some (.int i t))) : ∃ t, mg n = some (.int i t) := ⟨t, PySem.W.mg_of X G e⟩
theorem mg_str {K : PySem.W.Frag} {h : Heap} {mg : Str → Option Value} {n s : Str} {t : Tok} (X : K.In h) (G : h.Ns mainGlobals mg) (e : PySem.W.nsIn K mainGlobals n = some (some (.str s t))) : ∃ t, mg n = some (.str s t) := ⟨t, PySem.W.mg_of X G e⟩
theorem walk_law {l : PySem.W.OpenLaw} {q : Program} {loose : List Str} {XP : (Str → Option Value) → Heap → Prop} {YP : World → Heap → Prop} {d : DefRec} {K : Params → PySem.W.Frag} (k : Nat) (hn : l.most = some 63) (hdf : d.params.defaults = []) (hr : Room k callerA)
    (hY : ∀ (w : World) (h : Heap), YP w h → (K w.params).In h)
    (F : ∀ (w : World) (mg : Str → Option Value) (fa : Addr) (h : Heap), (K w.params).In h → h.Ns mainGlobals mg → mg d.name = some (.ref fa) →
      ∃ fd : FuncData, (∀ (s : Shared) (u : Value), BindsTo s fd ⟨[u], []⟩ [("script", u)]) ∧ ∀ base : Heap, (K w.params).In base → base.Ns mainGlobals mg → FnOk l.prog w (K w.params) mg base CX0 k fa fd ["script"] (spLaw (K w.params))) :
    PySem.W.WalkO q loose XP YP l.row.toRowW d [] (fun f vs => PySem.call f vs) :=
  L2.walk_of (n := 63) (k := k) (x := "script") (CX := fun _ => CX0) (sp := fun w => spLaw (K w.params)) hn (by decide) hdf hr hY F (fun _ _ a ns hl hO hS => ⟨a, ns, rfl, hS, hO, hl, fun _ => rfl⟩) fun _ _ _ _ _ z => z
end DL
set_option Elab.async false
set_option linter.all false
set_option maxRecDepth 100000
set_option maxHeartbeats 2000000
namespace K01
open PySem PySem.Spec PyProof.Rows L2 DL
def top (i : Nat) : Stmt := PySem.Challenge.pw_countededges_k01_words_and_programs_made.main.body.getD i (.Pass ⟨0, 0, 0, 0⟩)

structure Ad where
  Program : Addr
  v__law_numbers : Addr
  d__law_numbers : FuncData
  v__law_pool : Addr
  d__law_pool : FuncData
  v_is_word : Addr
  d_is_word : FuncData
  v_are_ways : Addr
  d_are_ways : FuncData
  v_come_to : Addr
  d_come_to : FuncData
  v_Program_are_exits : Addr
  d_Program_are_exits : FuncData
  v_Program_ways_at : Addr
  d_Program_ways_at : FuncData
  v_Program_begin : Addr
  d_Program_begin : FuncData
  p_Program_begin : Addr
  v_Program_ways : Addr
  d_Program_ways : FuncData
  v_Program_places : Addr
  d_Program_places : FuncData
  v_Program_exits : Addr
  d_Program_exits : FuncData
  v_Program___contains__ : Addr
  d_Program___contains__ : FuncData
  v_Program___getitem__ : Addr
  d_Program___getitem__ : FuncData
  v_Program___len__ : Addr
  d_Program___len__ : FuncData
  v_Program_check_place : Addr
  d_Program_check_place : FuncData
  v_Program_leaving : Addr
  d_Program_leaving : FuncData
  v_Program_entering : Addr
  d_Program_entering : FuncData
  v_Program___eq__ : Addr
  d_Program___eq__ : FuncData
  v_Program___init__ : Addr
  d_Program___init__ : FuncData
  v__law_draw : Addr
  d__law_draw : FuncData
  v__law_words : Addr
  d__law_words : FuncData
  v__law_names : Addr
  d__law_names : FuncData
  v__law_made : Addr
  d__law_made : FuncData
  v__law_places : Addr
  d__law_places : FuncData
  v__law_leaving : Addr
  d__law_leaving : FuncData
  v__law_program : Addr
  d__law_program : FuncData
  v__law_right : Addr
  d__law_right : FuncData
  v__law_unlike : Addr
  d__law_unlike : FuncData
  v__law_opened : Addr
  d__law_opened : FuncData
  v_law : Addr
  d_law : FuncData
structure Txt (K : PySem.W.Frag) (mg : Str → Option Value) (a : Ad) : Prop where
  F__law_numbers : Fun K "_law_numbers" "_law_numbers" (top 15) a.v__law_numbers a.d__law_numbers
  B__law_numbers : Binds K a.d__law_numbers ["cell", "salt", "sizes"] []
  m__law_numbers : mg "_law_numbers" = some (.ref a.v__law_numbers)
  F__law_pool : Fun K "_law_pool" "_law_pool" (top 16) a.v__law_pool a.d__law_pool
  B__law_pool : Binds K a.d__law_pool ["cell", "salt", "many"] []
  m__law_pool : mg "_law_pool" = some (.ref a.v__law_pool)
  F_is_word : Fun K "is_word" "is_word" (top 10) a.v_is_word a.d_is_word
  B_is_word : Binds K a.d_is_word ["value"] []
  m_is_word : mg "is_word" = some (.ref a.v_is_word)
  F_are_ways : Fun K "are_ways" "are_ways" (top 11) a.v_are_ways a.d_are_ways
  B_are_ways : Binds K a.d_are_ways ["value"] []
  m_are_ways : mg "are_ways" = some (.ref a.v_are_ways)
  F_come_to : Fun K "come_to" "come_to" (top 12) a.v_come_to a.d_come_to
  B_come_to : Binds K a.d_come_to ["starts", "steps"] []
  m_come_to : mg "come_to" = some (.ref a.v_come_to)
  F_Program_are_exits : Fun K "are_exits" "Program.are_exits" (inClass (top 13) 1) a.v_Program_are_exits a.d_Program_are_exits
  B_Program_are_exits : Binds K a.d_Program_are_exits ["self", "exits"] []
  Me_Program_are_exits : Meth K a.Program "are_exits" a.v_Program_are_exits
  F_Program_ways_at : Fun K "ways_at" "Program.ways_at" (inClass (top 13) 2) a.v_Program_ways_at a.d_Program_ways_at
  B_Program_ways_at : Binds K a.d_Program_ways_at ["self", "place", "side"] []
  Me_Program_ways_at : Meth K a.Program "ways_at" a.v_Program_ways_at
  F_Program_begin : Fun K "begin" "Program.begin" (inClass (top 13) 3) a.v_Program_begin a.d_Program_begin
  B_Program_begin : Binds K a.d_Program_begin ["self"] []
  Pr_Program_begin : PropOf K a.Program "begin" a.p_Program_begin a.v_Program_begin
  F_Program_ways : Fun K "ways" "Program.ways" (inClass (top 13) 4) a.v_Program_ways a.d_Program_ways
  B_Program_ways : Binds K a.d_Program_ways ["self"] []
  Me_Program_ways : Meth K a.Program "ways" a.v_Program_ways
  F_Program_places : Fun K "places" "Program.places" (inClass (top 13) 5) a.v_Program_places a.d_Program_places
  B_Program_places : Binds K a.d_Program_places ["self"] []
  Me_Program_places : Meth K a.Program "places" a.v_Program_places
  F_Program_exits : Fun K "exits" "Program.exits" (inClass (top 13) 6) a.v_Program_exits a.d_Program_exits
  B_Program_exits : Binds K a.d_Program_exits ["self"] []
  Me_Program_exits : Meth K a.Program "exits" a.v_Program_exits
  F_Program___contains__ : Fun K "__contains__" "Program.__contains__" (inClass (top 13) 7) a.v_Program___contains__ a.d_Program___contains__
  B_Program___contains__ : Binds K a.d_Program___contains__ ["self", "way"] []
  S_Program___contains__ : Spec K a.Program "__contains__" a.v_Program___contains__
  F_Program___getitem__ : Fun K "__getitem__" "Program.__getitem__" (inClass (top 13) 8) a.v_Program___getitem__ a.d_Program___getitem__
  B_Program___getitem__ : Binds K a.d_Program___getitem__ ["self", "way"] []
  S_Program___getitem__ : Spec K a.Program "__getitem__" a.v_Program___getitem__
  fi_Program___getitem__ : PySem.W.fnIn K a.v_Program___getitem__ = true
  F_Program___len__ : Fun K "__len__" "Program.__len__" (inClass (top 13) 10) a.v_Program___len__ a.d_Program___len__
  B_Program___len__ : Binds K a.d_Program___len__ ["self"] []
  S_Program___len__ : Spec K a.Program "__len__" a.v_Program___len__
  F_Program_check_place : Fun K "check_place" "Program.check_place" (inClass (top 13) 11) a.v_Program_check_place a.d_Program_check_place
  B_Program_check_place : Binds K a.d_Program_check_place ["self", "place"] []
  Me_Program_check_place : Meth K a.Program "check_place" a.v_Program_check_place
  F_Program_leaving : Fun K "leaving" "Program.leaving" (inClass (top 13) 12) a.v_Program_leaving a.d_Program_leaving
  B_Program_leaving : Binds K a.d_Program_leaving ["self", "place"] []
  Me_Program_leaving : Meth K a.Program "leaving" a.v_Program_leaving
  F_Program_entering : Fun K "entering" "Program.entering" (inClass (top 13) 13) a.v_Program_entering a.d_Program_entering
  B_Program_entering : Binds K a.d_Program_entering ["self", "place"] []
  Me_Program_entering : Meth K a.Program "entering" a.v_Program_entering
  F_Program___eq__ : Fun K "__eq__" "Program.__eq__" (inClass (top 13) 14) a.v_Program___eq__ a.d_Program___eq__
  B_Program___eq__ : Binds K a.d_Program___eq__ ["self", "other"] []
  S_Program___eq__ : Spec K a.Program "__eq__" a.v_Program___eq__
  nf_Program : NfOk K a.Program (nfC a.Program)
  F_Program___init__ : Fun K "__init__" "Program.__init__" (inClass (top 13) 0) a.v_Program___init__ a.d_Program___init__
  B_Program___init__ : Binds K a.d_Program___init__ ["self", "ways", "begin", "exits"] []
  K_Program : Mk K a.Program a.v_Program___init__
  F__law_draw : Fun K "_law_draw" "_law_draw" (top 17) a.v__law_draw a.d__law_draw
  B__law_draw : Binds K a.d__law_draw ["pool", "many"] []
  m__law_draw : mg "_law_draw" = some (.ref a.v__law_draw)
  F__law_words : Fun K "_law_words" "_law_words" (top 19) a.v__law_words a.d__law_words
  B__law_words : Binds K a.d__law_words ["pool", "many"] []
  m__law_words : mg "_law_words" = some (.ref a.v__law_words)
  F__law_names : Fun K "_law_names" "_law_names" (top 20) a.v__law_names a.d__law_names
  B__law_names : Binds K a.d__law_names ["pool", "many"] []
  m__law_names : mg "_law_names" = some (.ref a.v__law_names)
  F__law_made : Fun K "_law_made" "_law_made" (top 22) a.v__law_made a.d__law_made
  B__law_made : Binds K a.d__law_made ["prog"] []
  m__law_made : mg "_law_made" = some (.ref a.v__law_made)
  F__law_places : Fun K "_law_places" "_law_places" (top 23) a.v__law_places a.d__law_places
  B__law_places : Binds K a.d__law_places ["prog"] []
  m__law_places : mg "_law_places" = some (.ref a.v__law_places)
  F__law_leaving : Fun K "_law_leaving" "_law_leaving" (top 24) a.v__law_leaving a.d__law_leaving
  B__law_leaving : Binds K a.d__law_leaving ["prog", "place"] []
  m__law_leaving : mg "_law_leaving" = some (.ref a.v__law_leaving)
  F__law_program : Fun K "_law_program" "_law_program" (top 21) a.v__law_program a.d__law_program
  B__law_program : Binds K a.d__law_program ["pool", "most", "more", "rings"] []
  m__law_program : mg "_law_program" = some (.ref a.v__law_program)
  F__law_right : Fun K "_law_right" "_law_right" (top 25) a.v__law_right a.d__law_right
  B__law_right : Binds K a.d__law_right ["made", "prog"] []
  m__law_right : mg "_law_right" = some (.ref a.v__law_right)
  F__law_unlike : Fun K "_law_unlike" "_law_unlike" (top 26) a.v__law_unlike a.d__law_unlike
  B__law_unlike : Binds K a.d__law_unlike ["made", "prog"] []
  m__law_unlike : mg "_law_unlike" = some (.ref a.v__law_unlike)
  F__law_opened : Fun K "_law_opened" "_law_opened" (top 18) a.v__law_opened a.d__law_opened
  B__law_opened : Binds K a.d__law_opened ["script", "k", "many"] []
  m__law_opened : mg "_law_opened" = some (.ref a.v__law_opened)
  F_law : Fun K "law" "law" (top 27) a.v_law a.d_law
  B_law : Binds K a.d_law ["script"] []
  m_law : mg "law" = some (.ref a.v_law)
  C_Program : Cls K a.Program
  b_int : mg "int" = none
  b_max : mg "max" = none
  b_len : mg "len" = none
  b_range : mg "range" = none
  b_str : mg "str" = none
  b_isinstance : mg "isinstance" = none
  g_MOST_LETTERS : ∃ t, mg "MOST_LETTERS" = some (.int 8 t)
  g_LETTERS : ∃ t, mg "LETTERS" = some (.str "abcdefghijklmnopqrstuvwxyz" t)
  b_all : mg "all" = none
  b_dict : mg "dict" = none
  g_MOST_WAYS : ∃ t, mg "MOST_WAYS" = some (.int 40 t)
  b_tuple : mg "tuple" = none
  b_list : mg "list" = none
  na_Program_own_places : NoAttr K a.Program "own_places"
  na_Program_pairs : NoAttr K a.Program "pairs"
  na_Program_own_begin : NoAttr K a.Program "own_begin"
  na_Program_own_exits : NoAttr K a.Program "own_exits"
  na_Program_outs : NoAttr K a.Program "outs"
  na_Program_ins : NoAttr K a.Program "ins"
  is_Program : IsTb K (.ref a.Program) (tbC a.Program)
  mg_Program : mg "Program" = some (.ref a.Program)
  b_sorted : mg "sorted" = none
  b_min : mg "min" = none
  b_enumerate : mg "enumerate" = none
section
variable {P : Program} {w : World} {K : PySem.W.Frag} {mg : Str → Option Value} {base : Heap} {a : Ad}
abbrev s__law_numbers : Stmt := top 15
theorem sc__law_numbers : FnScope ["cell", "salt", "sizes", "whole", "left", "result", "k", "one"] ["cell", "salt", "sizes"] (defScope s__law_numbers) := ⟨rfl, rfl, rfl, by decide +kernel, rfl, by decide +kernel, by decide +kernel⟩
def lb1__law_numbers (a : Ad) : SF :=
  sqF (ifF (andF (tvF (op2F geD (vF 3) (op2F powD (cF (.int 10)) (cF (.int 18))))) (tvF (op2F gtD (vF 4) (cF (.int 0))))) (sqF (apF 5 (op2F modD (callF (one D.toInt) (consF (vF 4) nilF)) (op2F D.item (vF 2) (vF 6)))) (sqF (stF 4 (op2F fdivD (vF 4) (op2F D.item (vF 2) (vF 6)))) skF)) (sqF (stF 7 (op2F powD (op2F D.add (op2F D.add (op2F modD (callF (one D.toInt) (consF (vF 3) nilF)) (cF (.int 2147483629))) (op2F mulD (cF (.int 7919)) (vF 1))) (cF (.int 1))) (cF (.int 3)))) (sqF (stF 7 (op2F mulD (op2F D.add (op2F modD (callF (one D.toInt) (consF (vF 7) nilF)) (cF (.int 2147483647))) (op2F mulD (cF (.int 104729)) (op2F D.add (vF 6) (cF (.int 1))))) (op2F D.add (vF 6) (cF (.int 3))))) (sqF (stF 7 (op2F modD (callF (one D.toInt) (consF (vF 7) nilF)) (cF (.int 2147483629)))) (sqF (stF 7 (op2F mulD (op2F modD (callF (one D.toInt) (consF (op2F powD (vF 7) (cF (.int 5))) nilF)) (cF (.int 2147483647))) (cF (.int 48271)))) (sqF (stF 7 (op2F modD (callF (one D.toInt) (consF (vF 7) nilF)) (cF (.int 2147483629)))) (sqF (apF 5 (op2F modD (callF (one D.toInt) (consF (op2F fdivD (vF 7) (cF (.int 16))) nilF)) (op2F D.item (vF 2) (vF 6)))) skF))))))) skF
def g__law_numbers (a : Ad) : SF :=
  sqF (stF 3 (callF (two D.max2) (consF (callF (one D.toInt) (consF (vF 0) nilF)) (consF (callF (one D.toInt) (consF (op2F subD (negF (cF (.int 1))) (vF 0)) nilF)) nilF)))) (sqF (stF 4 (vF 3)) (sqF (stF 5 (lstF nilF)) (sqF (foF (wkF rg1 (consF (callF (one D.len) (consF (vF 2) nilF)) nilF)) (nmF 6) (lb1__law_numbers a)) (sqF (reF (vF 5)) skF))))
def f__law_numbers (a : Ad) : List D → R D := runF 8 (g__law_numbers a)
theorem ok__law_numbers (T : Txt K mg a) : FnOk P w K mg base (L2.CX P w) 1 a.v__law_numbers a.d__law_numbers ["cell", "salt", "sizes"] (spD K .fr [.sb, .sb, .sb] (f__law_numbers a)) :=
  fnF_mk (N := ["cell", "salt", "sizes", "whole", "left", "result", "k", "one"]) (G0 := g__law_numbers a) (ms := [.sb, .sb, .sb]) (mE := [.sb, .sb, .sb, .no, .no, .no, .no, .no]) T.F__law_numbers sc__law_numbers rfl (by decide) fun cdv A outer s H E hr tk =>
    have hu := hr.units
    dss_cons (ds_set (dx_blt (cd_max2 rfl) T.b_max rfl (ax_b (Dx.bo (dx_bty cd_int T.b_int rfl (ax_b (dx_b rfl (.inl rfl) rfl) ax_nil))) (ax_b (Dx.bo (dx_bty cd_int T.b_int rfl (ax_b (Dx.bo (dx_bin od_sub (Dx.bo (dx_neg (Dx.bo dx_int))) (dx_b rfl (.inl rfl) rfl))) ax_nil))) ax_nil))) sc__law_numbers.nd rfl (.inl rfl)) (dss_cons (ds_set (dx_v rfl (.inl rfl) rfl) sc__law_numbers.nd rfl (.inl rfl)) (dss_cons (ds_own (dx_lst ax_nil) sc__law_numbers.nd rfl (.inl rfl)) (dss_cons (ds_for (m := [.sb, .sb, .sb, .sh, .sh, .ow, .no, .no]) (passes_of rfl) rfl (di_range1 (ax_b (Dx.bo (dx_blt cd_len T.b_len rfl (ax_b (dx_b rfl (.inl rfl) rfl) ax_nil))) ax_nil) T.b_range) (tg_name sc__law_numbers.nd rfl (.inl rfl)) (dss_cons (ds_if (m' := [.sb, .sb, .sb, .sh, .sh, .ow, .sh, .no]) ((tw_and (tx_cmp od_ge (Dx.bo (dx_v rfl (.inl rfl) rfl)) (Dx.bo (dx_bin od_pow (Dx.bo dx_int) (Dx.bo dx_int)))) (tw_and1 (tx_cmp od_gt (Dx.bo (dx_v rfl (.inl rfl) rfl)) (Dx.bo dx_int)))).tx) (dss_cons (ds_app (dx_bin od_mod (Dx.bo (dx_bty cd_int T.b_int rfl (ax_b (Dx.bo (dx_v rfl (.inl rfl) rfl)) ax_nil))) (Dx.bo (dx_sub (dx_b rfl (.inl rfl) rfl) (Dx.bo (dx_v rfl (.inl rfl) rfl)) hu))) rfl (.inl rfl) (.inl rfl)) (dss_cons (ds_set (dx_bin od_fdiv (Dx.bo (dx_v rfl (.inl rfl) rfl)) (Dx.bo (dx_sub (dx_b rfl (.inl rfl) rfl) (Dx.bo (dx_v rfl (.inl rfl) rfl)) hu))) sc__law_numbers.nd rfl (.inl rfl)) dss_nil)) (dss_cons (ds_set (dx_bin od_pow (Dx.bo (dx_bin od_add (Dx.bo (dx_bin od_add (Dx.bo (dx_bin od_mod (Dx.bo (dx_bty cd_int T.b_int rfl (ax_b (Dx.bo (dx_v rfl (.inl rfl) rfl)) ax_nil))) (Dx.bo dx_int))) (Dx.bo (dx_bin od_mulI (Dx.bo dx_int) (dx_b rfl (.inl rfl) rfl))))) (Dx.bo dx_int))) (Dx.bo dx_int)) sc__law_numbers.nd rfl (.inl rfl)) (dss_cons (ds_set (dx_bin od_mulI (Dx.bo (dx_bin od_add (Dx.bo (dx_bin od_mod (Dx.bo (dx_bty cd_int T.b_int rfl (ax_b (Dx.bo (dx_v rfl (.inl rfl) rfl)) ax_nil))) (Dx.bo dx_int))) (Dx.bo (dx_bin od_mulI (Dx.bo dx_int) (Dx.bo (dx_bin od_add (Dx.bo (dx_v rfl (.inl rfl) rfl)) (Dx.bo dx_int))))))) (Dx.bo (dx_bin od_add (Dx.bo (dx_v rfl (.inl rfl) rfl)) (Dx.bo dx_int)))) sc__law_numbers.nd rfl (.inl rfl)) (dss_cons (ds_set (dx_bin od_mod (Dx.bo (dx_bty cd_int T.b_int rfl (ax_b (Dx.bo (dx_v rfl (.inl rfl) rfl)) ax_nil))) (Dx.bo dx_int)) sc__law_numbers.nd rfl (.inl rfl)) (dss_cons (ds_set (dx_bin od_mulI (Dx.bo (dx_bin od_mod (Dx.bo (dx_bty cd_int T.b_int rfl (ax_b (Dx.bo (dx_bin od_pow (Dx.bo (dx_v rfl (.inl rfl) rfl)) (Dx.bo dx_int))) ax_nil))) (Dx.bo dx_int))) (Dx.bo dx_int)) sc__law_numbers.nd rfl (.inl rfl)) (dss_cons (ds_set (dx_bin od_mod (Dx.bo (dx_bty cd_int T.b_int rfl (ax_b (Dx.bo (dx_v rfl (.inl rfl) rfl)) ax_nil))) (Dx.bo dx_int)) sc__law_numbers.nd rfl (.inl rfl)) (dss_cons (ds_app (dx_bin od_mod (Dx.bo (dx_bty cd_int T.b_int rfl (ax_b (Dx.bo (dx_bin od_fdiv (Dx.bo (dx_v rfl (.inl rfl) rfl)) (Dx.bo dx_int))) ax_nil))) (Dx.bo (dx_sub (dx_b rfl (.inl rfl) rfl) (Dx.bo (dx_v rfl (.inl rfl) rfl)) hu))) rfl (.inl rfl) (.inl rfl)) (dss_weak (m2 := [.sb, .sb, .sb, .sh, .sh, .ow, .sh, .no]) dss_nil)))))))) (dss_weak (m2 := [.sb, .sb, .sb, .sh, .sh, .ow, .no, .no]) dss_nil))) (dss_cons (ds_retO rfl (.inl rfl) rfl) dss_nil))))
abbrev s__law_pool : Stmt := top 16
theorem sc__law_pool : FnScope ["cell", "salt", "many"] ["cell", "salt", "many"] (defScope s__law_pool) := ⟨rfl, rfl, rfl, by decide +kernel, rfl, by decide +kernel, by decide +kernel⟩
def g__law_pool (a : Ad) : SF :=
  sqF (reF (lstF (consF (callF (f__law_numbers a) (consF (vF 0) (consF (vF 1) (consF (op2F D.rep (lstF (consF (cF (.int 420)) nilF)) (vF 2)) nilF)))) (consF (cF (.int 0)) nilF)))) skF
def f__law_pool (a : Ad) : List D → R D := runF 3 (g__law_pool a)
theorem ok__law_pool (T : Txt K mg a) : FnOk P w K mg base (L2.CX P w) 2 a.v__law_pool a.d__law_pool ["cell", "salt", "many"] (spD K .fr [.sb, .sb, .sb] (f__law_pool a)) :=
  fnF_mk (N := ["cell", "salt", "many"]) (G0 := g__law_pool a) (ms := [.sb, .sb, .sb]) (mE := [.sb, .sb, .sb]) T.F__law_pool sc__law_pool rfl (by decide) fun cdv A outer s H E hr tk =>
    have hu := hr.units
    dss_cons (ds_retF (dx_lst (ax_s ((dx_call (ok__law_numbers T) (hr.mono (by decide)) T.m__law_numbers T.F__law_numbers.kp T.B__law_numbers tk (ax_b (dx_b rfl (.inl rfl) rfl) (ax_b (dx_b rfl (.inl rfl) rfl) (ax_b (Dx.fb (dx_bin od_rep (Dx.fb (dx_lst (ax_s dx_int ax_nil))) (dx_b rfl (.inl rfl) rfl))) ax_nil)))).cl) (ax_s dx_int ax_nil)))) dss_nil
abbrev s_is_word : Stmt := top 10
theorem sc_is_word : FnScope ["value", "sign"] ["value"] (defScope s_is_word) := ⟨rfl, rfl, rfl, by decide +kernel, rfl, by decide +kernel, by decide +kernel⟩
def g_is_word (a : Ad) : SF :=
  sqF (ifF (orF (notF (tvF (callF (isiF (.ty "str") tb_str) (consF (vF 0) (consF (cF (.ob (.ty "str"))) nilF))))) (notF (chF leD leD (cF (.int 1)) (callF (one D.len) (consF (vF 0) nilF)) (cF (.int 8))))) (sqF (reF (cF (.bl false))) skF) skF) (sqF (reF (callF (one D.all) (consF (lcF [1] (itsF (vF 0)) (nmF 1) yesF (op2F (D.in_ false) (vF 1) (cF (.str "abcdefghijklmnopqrstuvwxyz")))) nilF))) skF)
def f_is_word (a : Ad) : List D → R D := runD 2 (g_is_word a)
theorem ok_is_word (T : Txt K mg a) : FnOk P w K mg base (L2.CX P w) 1 a.v_is_word a.d_is_word ["value"] (spD K .cl [.sb] (f_is_word a)) :=
  fnD_mk (N := ["value", "sign"]) (G0 := g_is_word a) (ms := [.sb]) (mE := [.sb, .no]) T.F_is_word sc_is_word rfl (by decide) fun cdv A outer s H E hr tk =>
    have hu := hr.units
    dss_cons (ds_if (m' := [.sb, .no]) ((tw_or (tx_not (tx_v (Dx.bo (dx_blt (cd_isiF is_str) T.b_isinstance rfl (ax_b (dx_b rfl (.inl rfl) rfl) (ax_b (Dx.bo (dx_bt T.b_str rfl)) ax_nil)))))) (tw_or1 (tx_not (tx_chain od_le od_le (Dx.bo dx_int) (Dx.bo (dx_blt cd_len T.b_len rfl (ax_b (dx_b rfl (.inl rfl) rfl) ax_nil))) (Dx.bo (dx_gi T.g_MOST_LETTERS)))))).tx) (dss_cons (ds_ret dx_bl) dss_nil) dss_nil) (dss_cons (ds_ret (dx_blt (cd_all rfl) T.b_all rfl (ax_b (Dx.fb (dx_lc (own0 := [("sign", 1)]) rfl sc_is_word.nd rfl (di_str (dx_b rfl (.inl rfl) rfl)) ⟨fun s H C cl fp => tg_name (J := ⟨[], [], [], false⟩) sc_is_word.nd rfl (.inl rfl), fun s H C cl fp => txs_nil, by decide, rfl, rfl⟩ (fun s H C cl fp => dx_cmp (od_in hu) (Dx.bo (dx_v rfl (.inl rfl) rfl)) (Dx.bo (dx_gs T.g_LETTERS))))) ax_nil))) dss_nil)
abbrev s_are_ways : Stmt := top 11
theorem sc_are_ways : FnScope ["value", "way", "pair"] ["value"] (defScope s_are_ways) := ⟨rfl, rfl, rfl, by decide +kernel, rfl, by decide +kernel, by decide +kernel⟩
def lb1_are_ways (a : Ad) : SF :=
  sqF (stF 2 (op2F D.item (vF 0) (vF 1))) (sqF (ifF (orF (notF (tvF (callF (f_is_word a) (consF (vF 1) nilF)))) (orF (notF (tvF (callF (isiF (.ty "tuple") tb_tuple) (consF (vF 2) (consF (cF (.ob (.ty "tuple"))) nilF))))) (tvF (op2F D.ne (callF (one D.len) (consF (vF 2) nilF)) (cF (.int 2)))))) (sqF (reF (cF (.bl false))) skF) skF) (sqF (ifF (orF (notF (tvF (callF (f_is_word a) (consF (op2F D.item (vF 2) (cF (.int 0))) nilF)))) (notF (tvF (callF (f_is_word a) (consF (op2F D.item (vF 2) (cF (.int 1))) nilF))))) (sqF (reF (cF (.bl false))) skF) skF) skF))
def g_are_ways (a : Ad) : SF :=
  sqF (ifF (orF (notF (tvF (callF (isiF (.ty "dict") tb_dict) (consF (vF 0) (consF (cF (.ob (.ty "dict"))) nilF))))) (notF (chF leD leD (cF (.int 1)) (callF (one D.len) (consF (vF 0) nilF)) (cF (.int 40))))) (sqF (reF (cF (.bl false))) skF) skF) (sqF (foF (kwF keysG (vF 0)) (nmF 1) (lb1_are_ways a)) (sqF (reF (cF (.bl true))) skF))
def f_are_ways (a : Ad) : List D → R D := runD 3 (g_are_ways a)
theorem ok_are_ways (T : Txt K mg a) : FnOk P w K mg base (L2.CX P w) 2 a.v_are_ways a.d_are_ways ["value"] (spD K .cl [.sb] (f_are_ways a)) :=
  fnD_mk (N := ["value", "way", "pair"]) (G0 := g_are_ways a) (ms := [.sb]) (mE := [.sb, .no, .no]) T.F_are_ways sc_are_ways rfl (by decide) fun cdv A outer s H E hr tk =>
    have hu := hr.units
    dss_cons (ds_if (m' := [.sb, .no, .no]) ((tw_or (tx_not (tx_v (Dx.bo (dx_blt (cd_isiF is_dict) T.b_isinstance rfl (ax_b (dx_b rfl (.inl rfl) rfl) (ax_b (Dx.bo (dx_bt T.b_dict rfl)) ax_nil)))))) (tw_or1 (tx_not (tx_chain od_le od_le (Dx.bo dx_int) (Dx.bo (dx_blt cd_len T.b_len rfl (ax_b (dx_b rfl (.inl rfl) rfl) ax_nil))) (Dx.bo (dx_gi T.g_MOST_WAYS)))))).tx) (dss_cons (ds_ret dx_bl) dss_nil) dss_nil) (dss_cons (ds_forK (m := [.sb, .no, .no]) (passes_of rfl) rfl tk kw_keys (pl_name rfl (.inl rfl) (.inr rfl)) (tg_name sc_are_ways.nd rfl (.inl rfl)) (fun W1 tk1 => dss_cons (ds_set (dx_sub (dx_b rfl (.inl rfl) rfl) (Dx.bo (dx_v rfl (.inl rfl) rfl)) hu) sc_are_ways.nd rfl (.inl rfl)) (dss_cons (ds_if (m' := [.sb, .sh, .sh]) ((tw_or (tx_not (tx_v (Dx.bo (dx_call (ok_is_word T) (hr.mono (by decide)) T.m_is_word T.F_is_word.kp T.B_is_word tk1 (ax_b (Dx.bo (dx_v rfl (.inl rfl) rfl)) ax_nil))))) (tw_or (tx_not (tx_v (Dx.bo (dx_blt (cd_isiF is_tuple) T.b_isinstance rfl (ax_b (Dx.bo (dx_v rfl (.inl rfl) rfl)) (ax_b (Dx.bo (dx_bt T.b_tuple rfl)) ax_nil)))))) (tw_or1 (tx_cmp (od_ne hu) (Dx.bo (dx_blt cd_len T.b_len rfl (ax_b (Dx.bo (dx_v rfl (.inl rfl) rfl)) ax_nil))) (Dx.bo dx_int))))).tx) (dss_cons (ds_ret dx_bl) dss_nil) dss_nil) (dss_cons (ds_if (m' := [.sb, .sh, .sh]) ((tw_or (tx_not (tx_v (Dx.bo (dx_call (ok_is_word T) (hr.mono (by decide)) T.m_is_word T.F_is_word.kp T.B_is_word tk1 (ax_b (Dx.bo (dx_sub (Dx.bo (dx_v rfl (.inl rfl) rfl)) (Dx.bo dx_int) hu)) ax_nil))))) (tw_or1 (tx_not (tx_v (Dx.bo (dx_call (ok_is_word T) (hr.mono (by decide)) T.m_is_word T.F_is_word.kp T.B_is_word tk1 (ax_b (Dx.bo (dx_sub (Dx.bo (dx_v rfl (.inl rfl) rfl)) (Dx.bo dx_int) hu)) ax_nil))))))).tx) (dss_cons (ds_ret dx_bl) dss_nil) dss_nil) (dss_weak (m2 := [.sb, .no, .no]) dss_nil))))) (dss_cons (ds_ret dx_bl) dss_nil))
abbrev s_come_to : Stmt := top 12
theorem sc_come_to : FnScope ["starts", "steps", "found", "at", "place"] ["starts", "steps"] (defScope s_come_to) := ⟨rfl, rfl, rfl, by decide +kernel, rfl, by decide +kernel, by decide +kernel⟩
def lb1_come_to (a : Ad) : SF :=
  sqF (ifF (tvF (op2F (D.in_ true) (vF 4) (vF 2))) (sqF (apF 2 (vF 4)) skF) skF) skF
def lb2_come_to (a : Ad) : SF :=
  sqF (foF (itF (getF (vF 1) (op2F D.item (vF 2) (vF 3)) (lstF nilF))) (nmF 4) (lb1_come_to a)) (sqF (auF augA 3 (cF (.int 1))) skF)
def g_come_to (a : Ad) : SF :=
  sqF (stF 2 (callF (one D.toList) (consF (vF 0) nilF))) (sqF (stF 3 (cF (.int 0))) (sqF (whF (tvF (op2F ltD (vF 3) (callF (one D.len) (consF (vF 2) nilF)))) (lb2_come_to a)) (sqF (reF (vF 2)) skF)))
def f_come_to (a : Ad) : List D → R D := runD 5 (g_come_to a)
theorem ok_come_to (T : Txt K mg a) : FnOk P w K mg base (L2.CX P w) 1 a.v_come_to a.d_come_to ["starts", "steps"] (spD K .cl [.sb, .sb] (f_come_to a)) :=
  fnD_mk (N := ["starts", "steps", "found", "at", "place"]) (G0 := g_come_to a) (ms := [.sb, .sb]) (mE := [.sb, .sb, .no, .no, .no]) T.F_come_to sc_come_to rfl (by decide) fun cdv A outer s H E hr tk =>
    have hu := hr.units
    dss_cons (ds_own (dx_bty cd_list T.b_list rfl (ax_b (dx_b rfl (.inl rfl) rfl) ax_nil)) sc_come_to.nd rfl (.inl rfl)) (dss_cons (ds_set dx_int sc_come_to.nd rfl (.inl rfl)) (dss_cons (ds_while (m := [.sb, .sb, .ow, .sh, .no]) (passes_of rfl) (tx_cmp od_lt (Dx.bo (dx_v rfl (.inl rfl) rfl)) (Dx.bo (dx_blt cd_len T.b_len rfl (ax_b (dx_b rfl (.inl rfl) rfl) ax_nil)))) (dss_cons (ds_for (m := [.sb, .sb, .ow, .sh, .no]) (passes_of rfl) rfl (di_seq (dx_get (dx_b rfl (.inl rfl) rfl) (Dx.bo (dx_sub (dx_b rfl (.inl rfl) rfl) (Dx.bo (dx_v rfl (.inl rfl) rfl)) hu)) ((dx_lst ax_nil).cl) hu)) (tg_name sc_come_to.nd rfl (.inl rfl)) (dss_cons (ds_if (m' := [.sb, .sb, .ow, .sh, .sh]) (tx_cmp (od_notin hu) (Dx.bo (dx_v rfl (.inl rfl) rfl)) (dx_b rfl (.inl rfl) rfl)) (dss_cons (ds_app (dx_v rfl (.inl rfl) rfl) rfl (.inl rfl) (.inl rfl)) dss_nil) dss_nil) (dss_weak (m2 := [.sb, .sb, .ow, .sh, .no]) dss_nil))) (dss_cons (ds_aug dx_int sc_come_to.nd rfl (.inl rfl) rfl ip_add) dss_nil))) (dss_share 2 (dss_cons (ds_ret (dx_v rfl (.inl rfl) rfl)) dss_nil))))
abbrev s_Program_are_exits : Stmt := inClass (top 13) 1
theorem sc_Program_are_exits : FnScope ["self", "exits", "place"] ["self", "exits"] (defScope s_Program_are_exits) := ⟨rfl, rfl, rfl, by decide +kernel, rfl, by decide +kernel, by decide +kernel⟩
def g_Program_are_exits (a : Ad) : SF :=
  sqF (ifF (orF (notF (tvF (callF (isiF (.ty "list") tb_list) (consF (vF 1) (consF (cF (.ob (.ty "list"))) nilF))))) (tvF (op2F D.eq (vF 1) (lstF nilF)))) (sqF (reF (cF (.bl false))) skF) skF) (sqF (ifF (notF (tvF (callF (one D.all) (consF (lcF [2] (itlF (vF 1)) (nmF 2) yesF (andV (callF (f_is_word a) (consF (vF 2) nilF)) (op2F (D.in_ false) (vF 2) (fldF a.Program "own_places" (vF 0))))) nilF)))) (sqF (reF (cF (.bl false))) skF) skF) (sqF (reF (op2F D.eq (slF (scF [2] (itlF (vF 1)) (nmF 2) yesF (vF 2))) (callF (one D.len) (consF (vF 1) nilF)))) skF))
def f_Program_are_exits (a : Ad) : List D → R D := runD 3 (g_Program_are_exits a)
theorem ok_Program_are_exits (T : Txt K mg a) : FnOk P w K mg base (L2.CX P w) 2 a.v_Program_are_exits a.d_Program_are_exits ["self", "exits"] (spD K .cl [.sb, .sb] (f_Program_are_exits a)) :=
  fnD_mk (N := ["self", "exits", "place"]) (G0 := g_Program_are_exits a) (ms := [.sb, .sb]) (mE := [.sb, .sb, .no]) T.F_Program_are_exits sc_Program_are_exits rfl (by decide) fun cdv A outer s H E hr tk =>
    have hu := hr.units
    dss_cons (ds_if (m' := [.sb, .sb, .no]) ((tw_or (tx_not (tx_v (Dx.bo (dx_blt (cd_isiF is_list) T.b_isinstance rfl (ax_b (dx_b rfl (.inl rfl) rfl) (ax_b (Dx.bo (dx_bt T.b_list rfl)) ax_nil)))))) (tw_or1 (tx_cmp (od_eq hu) (dx_b rfl (.inl rfl) rfl) (Dx.fb (dx_lst ax_nil))))).tx) (dss_cons (ds_ret dx_bl) dss_nil) dss_nil) (dss_cons (ds_if (m' := [.sb, .sb, .no]) (tx_not (tx_v (Dx.bo (dx_blt (cd_all rfl) T.b_all rfl (ax_b (Dx.fb (dx_lc (own0 := [("place", 2)]) rfl sc_Program_are_exits.nd rfl (di_sb rfl (.inl rfl) rfl) ⟨fun s H C cl fp => tg_name (J := ⟨[], [], [], false⟩) sc_Program_are_exits.nd rfl (.inl rfl), fun s H C cl fp => txs_nil, by decide, rfl, rfl⟩ (fun s H C cl fp => dx_and (Dx.bo (dx_call (ok_is_word T) (hr.mono (by decide)) T.m_is_word T.F_is_word.kp T.B_is_word takesF (ax_b (Dx.bo (dx_v rfl (.inl rfl) rfl)) ax_nil))) (dx_bop1 (dx_cmp (od_in hu) (Dx.bo (dx_v rfl (.inl rfl) rfl)) (Dx.bo (dx_fld (dx_b rfl (.inr (.inl rfl)) rfl) T.C_Program T.na_Program_own_places))))))) ax_nil))))) (dss_cons (ds_ret dx_bl) dss_nil) dss_nil) (dss_cons (ds_ret (dx_cmp (od_eq hu) (Dx.bo (dx_lenSet (sx_sc (own0 := [("place", 2)]) rfl sc_Program_are_exits.nd rfl (di_sb rfl (.inl rfl) rfl) ⟨fun s H C cl fp => tg_name (J := ⟨[], [], [], false⟩) sc_Program_are_exits.nd rfl (.inl rfl), fun s H C cl fp => txs_nil, by decide, rfl, rfl⟩ (fun s H C cl fp => Dx.bo (dx_v rfl (.inl rfl) rfl))) T.b_len)) (Dx.bo (dx_blt cd_len T.b_len rfl (ax_b (dx_b rfl (.inl rfl) rfl) ax_nil))))) dss_nil))
abbrev s_Program_ways_at : Stmt := inClass (top 13) 2
theorem sc_Program_ways_at : FnScope ["self", "place", "side", "way"] ["self", "place", "side"] (defScope s_Program_ways_at) := ⟨rfl, rfl, rfl, by decide +kernel, rfl, by decide +kernel, by decide +kernel⟩
def g_Program_ways_at (a : Ad) : SF :=
  sqF (reF (lcF [3] (kwF keysG (fldF a.Program "pairs" (vF 0))) (nmF 3) (tvF (op2F D.eq (op2F D.item (op2F D.item (fldF a.Program "pairs" (vF 0)) (vF 3)) (vF 2)) (vF 1))) (vF 3))) skF
def f_Program_ways_at (a : Ad) : List D → R D := runF 4 (g_Program_ways_at a)
theorem ok_Program_ways_at (T : Txt K mg a) : FnOk P w K mg base (L2.CX P w) 1 a.v_Program_ways_at a.d_Program_ways_at ["self", "place", "side"] (spD K .fr [.sb, .sb, .sb] (f_Program_ways_at a)) :=
  fnF_mk (N := ["self", "place", "side", "way"]) (G0 := g_Program_ways_at a) (ms := [.sb, .sb, .sb]) (mE := [.sb, .sb, .sb, .no]) T.F_Program_ways_at sc_Program_ways_at rfl (by decide) fun cdv A outer s H E hr tk =>
    have hu := hr.units
    dss_cons (ds_retF (dx_lcK (own0 := [("way", 3)]) rfl sc_Program_ways_at.nd rfl kw_keys (pl_fld rfl (.inr (.inl rfl)) rfl T.C_Program T.na_Program_pairs) ⟨fun s H C cl fp => tg_name (J := ⟨[], [], [], false⟩) sc_Program_ways_at.nd rfl (.inl rfl), fun s H C cl fp => txs_one (tx_cmp (od_eq hu) (Dx.bo (dx_sub (Dx.bo (dx_sub (Dx.bo (dx_fld (dx_b rfl (.inr (.inl rfl)) rfl) T.C_Program T.na_Program_pairs)) (Dx.bo (dx_v rfl (.inl rfl) rfl)) hu)) (dx_b rfl (.inr (.inl rfl)) rfl) hu)) (dx_b rfl (.inr (.inl rfl)) rfl)), by decide, rfl, rfl⟩ (fun s H C cl fp => dx_v rfl (.inl rfl) rfl))) dss_nil
abbrev s_Program_begin : Stmt := inClass (top 13) 3
theorem sc_Program_begin : FnScope ["self"] ["self"] (defScope s_Program_begin) := ⟨rfl, rfl, rfl, by decide +kernel, rfl, by decide +kernel, by decide +kernel⟩
def g_Program_begin (a : Ad) : SF :=
  sqF (reF (fldF a.Program "own_begin" (vF 0))) skF
def f_Program_begin (a : Ad) : List D → R D := runD 1 (g_Program_begin a)
theorem ok_Program_begin (T : Txt K mg a) : FnOk P w K mg base (L2.CX P w) 1 a.v_Program_begin a.d_Program_begin ["self"] (spD K .cl [.sb] (f_Program_begin a)) :=
  fnD_mk (N := ["self"]) (G0 := g_Program_begin a) (ms := [.sb]) (mE := [.sb]) T.F_Program_begin sc_Program_begin rfl (by decide) fun cdv A outer s H E hr tk =>
    have hu := hr.units
    dss_cons (ds_ret (dx_fld (dx_b rfl (.inl rfl) rfl) T.C_Program T.na_Program_own_begin)) dss_nil
abbrev s_Program_ways : Stmt := inClass (top 13) 4
theorem sc_Program_ways : FnScope ["self"] ["self"] (defScope s_Program_ways) := ⟨rfl, rfl, rfl, by decide +kernel, rfl, by decide +kernel, by decide +kernel⟩
def g_Program_ways (a : Ad) : SF :=
  sqF (reF (callF (one D.keysL) (consF (fldF a.Program "pairs" (vF 0)) nilF))) skF
def f_Program_ways (a : Ad) : List D → R D := runF 1 (g_Program_ways a)
theorem ok_Program_ways (T : Txt K mg a) : FnOk P w K mg base (L2.CX P w) 1 a.v_Program_ways a.d_Program_ways ["self"] (spD K .fr [.sb] (f_Program_ways a)) :=
  fnF_mk (N := ["self"]) (G0 := g_Program_ways a) (ms := [.sb]) (mE := [.sb]) T.F_Program_ways sc_Program_ways rfl (by decide) fun cdv A outer s H E hr tk =>
    have hu := hr.units
    dss_cons (ds_retF (dx_bty (cd_listK rfl) T.b_list rfl (ax_b (Dx.bo (dx_fld (dx_b rfl (.inl rfl) rfl) T.C_Program T.na_Program_pairs)) ax_nil))) dss_nil
abbrev s_Program_places : Stmt := inClass (top 13) 5
theorem sc_Program_places : FnScope ["self"] ["self"] (defScope s_Program_places) := ⟨rfl, rfl, rfl, by decide +kernel, rfl, by decide +kernel, by decide +kernel⟩
def g_Program_places (a : Ad) : SF :=
  sqF (reF (callF (one D.toList) (consF (fldF a.Program "own_places" (vF 0)) nilF))) skF
def f_Program_places (a : Ad) : List D → R D := runF 1 (g_Program_places a)
theorem ok_Program_places (T : Txt K mg a) : FnOk P w K mg base (L2.CX P w) 1 a.v_Program_places a.d_Program_places ["self"] (spD K .fr [.sb] (f_Program_places a)) :=
  fnF_mk (N := ["self"]) (G0 := g_Program_places a) (ms := [.sb]) (mE := [.sb]) T.F_Program_places sc_Program_places rfl (by decide) fun cdv A outer s H E hr tk =>
    have hu := hr.units
    dss_cons (ds_retF (dx_bty cd_list T.b_list rfl (ax_b (Dx.bo (dx_fld (dx_b rfl (.inl rfl) rfl) T.C_Program T.na_Program_own_places)) ax_nil))) dss_nil
abbrev s_Program_exits : Stmt := inClass (top 13) 6
theorem sc_Program_exits : FnScope ["self"] ["self"] (defScope s_Program_exits) := ⟨rfl, rfl, rfl, by decide +kernel, rfl, by decide +kernel, by decide +kernel⟩
def g_Program_exits (a : Ad) : SF :=
  sqF (reF (callF (one D.toList) (consF (fldF a.Program "own_exits" (vF 0)) nilF))) skF
def f_Program_exits (a : Ad) : List D → R D := runF 1 (g_Program_exits a)
theorem ok_Program_exits (T : Txt K mg a) : FnOk P w K mg base (L2.CX P w) 1 a.v_Program_exits a.d_Program_exits ["self"] (spD K .fr [.sb] (f_Program_exits a)) :=
  fnF_mk (N := ["self"]) (G0 := g_Program_exits a) (ms := [.sb]) (mE := [.sb]) T.F_Program_exits sc_Program_exits rfl (by decide) fun cdv A outer s H E hr tk =>
    have hu := hr.units
    dss_cons (ds_retF (dx_bty cd_list T.b_list rfl (ax_b (Dx.bo (dx_fld (dx_b rfl (.inl rfl) rfl) T.C_Program T.na_Program_own_exits)) ax_nil))) dss_nil
abbrev s_Program___contains__ : Stmt := inClass (top 13) 7
theorem sc_Program___contains__ : FnScope ["self", "way"] ["self", "way"] (defScope s_Program___contains__) := ⟨rfl, rfl, rfl, by decide +kernel, rfl, by decide +kernel, by decide +kernel⟩
def g_Program___contains__ (a : Ad) : SF :=
  sqF (reF (andV (callF (f_is_word a) (consF (vF 1) nilF)) (op2F (D.in_ false) (vF 1) (fldF a.Program "pairs" (vF 0))))) skF
def f_Program___contains__ (a : Ad) : List D → R D := runD 2 (g_Program___contains__ a)
theorem ok_Program___contains__ (T : Txt K mg a) : FnOk P w K mg base (L2.CX P w) 2 a.v_Program___contains__ a.d_Program___contains__ ["self", "way"] (spD K .cl [.sb, .sb] (f_Program___contains__ a)) :=
  fnD_mk (N := ["self", "way"]) (G0 := g_Program___contains__ a) (ms := [.sb, .sb]) (mE := [.sb, .sb]) T.F_Program___contains__ sc_Program___contains__ rfl (by decide) fun cdv A outer s H E hr tk =>
    have hu := hr.units
    dss_cons (ds_ret (dx_and (Dx.bo (dx_call (ok_is_word T) (hr.mono (by decide)) T.m_is_word T.F_is_word.kp T.B_is_word tk (ax_b (dx_b rfl (.inl rfl) rfl) ax_nil))) (dx_bop1 (dx_cmp (od_in hu) (dx_b rfl (.inl rfl) rfl) (Dx.bo (dx_fld (dx_b rfl (.inl rfl) rfl) T.C_Program T.na_Program_pairs)))))) dss_nil
abbrev s_Program___getitem__ : Stmt := inClass (top 13) 8
theorem sc_Program___getitem__ : FnScope ["self", "way"] ["self", "way"] (defScope s_Program___getitem__) := ⟨rfl, rfl, rfl, by decide +kernel, rfl, by decide +kernel, by decide +kernel⟩
def g_Program___getitem__ (a : Ad) : SF :=
  sqF (ifF (tvF (op2F (D.inOwn a.Program (f_Program___contains__ a) true) (vF 1) (vF 0))) (sqF neF' skF) skF) (sqF (reF (op2F D.item (fldF a.Program "pairs" (vF 0)) (vF 1))) skF)
def f_Program___getitem__ (a : Ad) : List D → R D := runD 2 (g_Program___getitem__ a)
theorem ok_Program___getitem__ (T : Txt K mg a) : FnOk P w K mg base (L2.CX P w) 3 a.v_Program___getitem__ a.d_Program___getitem__ ["self", "way"] (spD K .cl [.sb, .sb] (f_Program___getitem__ a)) :=
  fnD_mk (N := ["self", "way"]) (G0 := g_Program___getitem__ a) (ms := [.sb, .sb]) (mE := [.sb, .sb]) T.F_Program___getitem__ sc_Program___getitem__ rfl (by decide) fun cdv A outer s H E hr tk =>
    have hu := hr.units
    dss_cons (ds_if (m' := [.sb, .sb]) (tx_cmp (od_notinO (ok_Program___contains__ T) (hr.mono (by decide)) T.B_Program___contains__ T.S_Program___contains__) (dx_b rfl (.inl rfl) rfl) (dx_b rfl (.inl rfl) rfl)) (dss_cons ds_never dss_nil) dss_nil) (dss_cons (ds_ret (dx_sub (Dx.bo (dx_fld (dx_b rfl (.inl rfl) rfl) T.C_Program T.na_Program_pairs)) (dx_b rfl (.inl rfl) rfl) hu)) dss_nil)
abbrev s_Program___len__ : Stmt := inClass (top 13) 10
theorem sc_Program___len__ : FnScope ["self"] ["self"] (defScope s_Program___len__) := ⟨rfl, rfl, rfl, by decide +kernel, rfl, by decide +kernel, by decide +kernel⟩
def g_Program___len__ (a : Ad) : SF :=
  sqF (reF (callF (one D.len) (consF (fldF a.Program "pairs" (vF 0)) nilF))) skF
def f_Program___len__ (a : Ad) : List D → R D := runD 1 (g_Program___len__ a)
theorem ok_Program___len__ (T : Txt K mg a) : FnOk P w K mg base (L2.CX P w) 1 a.v_Program___len__ a.d_Program___len__ ["self"] (spD K .cl [.sb] (f_Program___len__ a)) :=
  fnD_mk (N := ["self"]) (G0 := g_Program___len__ a) (ms := [.sb]) (mE := [.sb]) T.F_Program___len__ sc_Program___len__ rfl (by decide) fun cdv A outer s H E hr tk =>
    have hu := hr.units
    dss_cons (ds_ret (dx_blt cd_len T.b_len rfl (ax_b (Dx.bo (dx_fld (dx_b rfl (.inl rfl) rfl) T.C_Program T.na_Program_pairs)) ax_nil))) dss_nil
abbrev s_Program_check_place : Stmt := inClass (top 13) 11
theorem sc_Program_check_place : FnScope ["self", "place"] ["self", "place"] (defScope s_Program_check_place) := ⟨rfl, rfl, rfl, by decide +kernel, rfl, by decide +kernel, by decide +kernel⟩
def g_Program_check_place (a : Ad) : SF :=
  sqF (ifF (orF (notF (tvF (callF (f_is_word a) (consF (vF 1) nilF)))) (tvF (op2F (D.in_ true) (vF 1) (fldF a.Program "own_places" (vF 0))))) (sqF neF' skF) skF) skF
def f_Program_check_place (a : Ad) : List D → R D := runD 2 (g_Program_check_place a)
theorem ok_Program_check_place (T : Txt K mg a) : FnOk P w K mg base (L2.CX P w) 2 a.v_Program_check_place a.d_Program_check_place ["self", "place"] (spD K .cl [.sb, .sb] (f_Program_check_place a)) :=
  fnD_mk (N := ["self", "place"]) (G0 := g_Program_check_place a) (ms := [.sb, .sb]) (mE := [.sb, .sb]) T.F_Program_check_place sc_Program_check_place rfl (by decide) fun cdv A outer s H E hr tk =>
    have hu := hr.units
    dss_cons (ds_if (m' := [.sb, .sb]) ((tw_or (tx_not (tx_v (Dx.bo (dx_call (ok_is_word T) (hr.mono (by decide)) T.m_is_word T.F_is_word.kp T.B_is_word tk (ax_b (dx_b rfl (.inl rfl) rfl) ax_nil))))) (tw_or1 (tx_cmp (od_notin hu) (dx_b rfl (.inl rfl) rfl) (Dx.bo (dx_fld (dx_b rfl (.inl rfl) rfl) T.C_Program T.na_Program_own_places))))).tx) (dss_cons ds_never dss_nil) dss_nil) dss_nil
abbrev s_Program_leaving : Stmt := inClass (top 13) 12
theorem sc_Program_leaving : FnScope ["self", "place"] ["self", "place"] (defScope s_Program_leaving) := ⟨rfl, rfl, rfl, by decide +kernel, rfl, by decide +kernel, by decide +kernel⟩
def g_Program_leaving (a : Ad) : SF :=
  sqF (exF (methF a.Program "check_place" (f_Program_check_place a) (vF 0) (consF (vF 1) nilF))) (sqF (reF (callF (one D.toList) (consF (op2F D.item (fldF a.Program "outs" (vF 0)) (vF 1)) nilF))) skF)
def f_Program_leaving (a : Ad) : List D → R D := runF 2 (g_Program_leaving a)
theorem ok_Program_leaving (T : Txt K mg a) : FnOk P w K mg base (L2.CX P w) 3 a.v_Program_leaving a.d_Program_leaving ["self", "place"] (spD K .fr [.sb, .sb] (f_Program_leaving a)) :=
  fnF_mk (N := ["self", "place"]) (G0 := g_Program_leaving a) (ms := [.sb, .sb]) (mE := [.sb, .sb]) T.F_Program_leaving sc_Program_leaving rfl (by decide) fun cdv A outer s H E hr tk =>
    have hu := hr.units
    dss_cons (ds_expr (dx_meth (dx_b rfl (.inl rfl) rfl) kd_b (ok_Program_check_place T) T.C_Program T.Me_Program_check_place (hr.mono (by decide)) T.B_Program_check_place tk (ax_b (dx_b rfl (.inl rfl) rfl) ax_nil))) (dss_cons (ds_retF (dx_bty cd_list T.b_list rfl (ax_b (Dx.bo (dx_sub (Dx.bo (dx_fld (dx_b rfl (.inl rfl) rfl) T.C_Program T.na_Program_outs)) (dx_b rfl (.inl rfl) rfl) hu)) ax_nil))) dss_nil)
abbrev s_Program_entering : Stmt := inClass (top 13) 13
theorem sc_Program_entering : FnScope ["self", "place"] ["self", "place"] (defScope s_Program_entering) := ⟨rfl, rfl, rfl, by decide +kernel, rfl, by decide +kernel, by decide +kernel⟩
def g_Program_entering (a : Ad) : SF :=
  sqF (exF (methF a.Program "check_place" (f_Program_check_place a) (vF 0) (consF (vF 1) nilF))) (sqF (reF (callF (one D.toList) (consF (op2F D.item (fldF a.Program "ins" (vF 0)) (vF 1)) nilF))) skF)
def f_Program_entering (a : Ad) : List D → R D := runF 2 (g_Program_entering a)
theorem ok_Program_entering (T : Txt K mg a) : FnOk P w K mg base (L2.CX P w) 3 a.v_Program_entering a.d_Program_entering ["self", "place"] (spD K .fr [.sb, .sb] (f_Program_entering a)) :=
  fnF_mk (N := ["self", "place"]) (G0 := g_Program_entering a) (ms := [.sb, .sb]) (mE := [.sb, .sb]) T.F_Program_entering sc_Program_entering rfl (by decide) fun cdv A outer s H E hr tk =>
    have hu := hr.units
    dss_cons (ds_expr (dx_meth (dx_b rfl (.inl rfl) rfl) kd_b (ok_Program_check_place T) T.C_Program T.Me_Program_check_place (hr.mono (by decide)) T.B_Program_check_place tk (ax_b (dx_b rfl (.inl rfl) rfl) ax_nil))) (dss_cons (ds_retF (dx_bty cd_list T.b_list rfl (ax_b (Dx.bo (dx_sub (Dx.bo (dx_fld (dx_b rfl (.inl rfl) rfl) T.C_Program T.na_Program_ins)) (dx_b rfl (.inl rfl) rfl) hu)) ax_nil))) dss_nil)
abbrev s_Program___eq__ : Stmt := inClass (top 13) 14
theorem sc_Program___eq__ : FnScope ["self", "other", "mine"] ["self", "other"] (defScope s_Program___eq__) := ⟨rfl, rfl, rfl, by decide +kernel, rfl, by decide +kernel, by decide +kernel⟩
def g_Program___eq__ (a : Ad) : SF :=
  sqF (ifF (notF (tvF (callF (isiF (.ref a.Program) (tbC a.Program)) (consF (vF 1) (consF (cF (.ob (.ref a.Program))) nilF))))) (sqF (reF (cF (.bl false))) skF) skF) (sqF (stF 2 (tupF (consF (fldF a.Program "pairs" (vF 0)) (consF (fldF a.Program "own_begin" (vF 0)) (consF (fldF a.Program "own_exits" (vF 0)) nilF))))) (sqF (reF (op2F D.eq (vF 2) (tupF (consF (fldF a.Program "pairs" (vF 1)) (consF (fldF a.Program "own_begin" (vF 1)) (consF (fldF a.Program "own_exits" (vF 1)) nilF)))))) skF))
def f_Program___eq__ (a : Ad) : List D → R D := runD 3 (g_Program___eq__ a)
theorem ok_Program___eq__ (T : Txt K mg a) : FnOk P w K mg base (L2.CX P w) 1 a.v_Program___eq__ a.d_Program___eq__ ["self", "other"] (spD K .cl [.sb, .sb] (f_Program___eq__ a)) :=
  fnD_mk (N := ["self", "other", "mine"]) (G0 := g_Program___eq__ a) (ms := [.sb, .sb]) (mE := [.sb, .sb, .no]) T.F_Program___eq__ sc_Program___eq__ rfl (by decide) fun cdv A outer s H E hr tk =>
    have hu := hr.units
    dss_cons (ds_if (m' := [.sb, .sb, .no]) (tx_not (tx_v (Dx.bo (dx_blt (cd_isiF T.is_Program) T.b_isinstance rfl (ax_b (dx_b rfl (.inl rfl) rfl) (ax_b (Dx.bo (dx_cn T.mg_Program)) ax_nil)))))) (dss_cons (ds_ret dx_bl) dss_nil) dss_nil) (dss_cons (ds_set (dx_tup (ax_s (dx_fld (dx_b rfl (.inl rfl) rfl) T.C_Program T.na_Program_pairs) (ax_s (dx_fld (dx_b rfl (.inl rfl) rfl) T.C_Program T.na_Program_own_begin) (ax_s (dx_fld (dx_b rfl (.inl rfl) rfl) T.C_Program T.na_Program_own_exits) ax_nil)))) sc_Program___eq__.nd rfl (.inl rfl)) (dss_cons (ds_ret (dx_cmp (od_eq hu) (Dx.bo (dx_v rfl (.inl rfl) rfl)) (Dx.bo (dx_tup (ax_s (dx_fld (dx_b rfl (.inl rfl) rfl) T.C_Program T.na_Program_pairs) (ax_s (dx_fld (dx_b rfl (.inl rfl) rfl) T.C_Program T.na_Program_own_begin) (ax_s (dx_fld (dx_b rfl (.inl rfl) rfl) T.C_Program T.na_Program_own_exits) ax_nil))))))) dss_nil))
abbrev s_Program___init__ : Stmt := inClass (top 13) 0
theorem sc_Program___init__ : FnScope ["self", "ways", "begin", "exits", "ahead", "back", "way", "place", "pair"] ["self", "ways", "begin", "exits"] (defScope s_Program___init__) := ⟨rfl, rfl, rfl, by decide +kernel, rfl, by decide +kernel, by decide +kernel⟩
def g_Program___init__ (a : Ad) : SF :=
  sqF (ifF (notF (tvF (callF (f_are_ways a) (consF (vF 1) nilF)))) (sqF neF' skF) skF) (sqF (fsF a.Program 0 "pairs" (dcF [6] (itF (callF (one D.sorted) (consF (vF 1) nilF))) (nmF 6) yesF (vF 6) (op2F D.item (vF 1) (vF 6)))) (sqF (fsF a.Program 0 "own_places" (ssF (sc2F [8, 7] [7] (kwF valsG (fldF a.Program "pairs" (vF 0))) (nmF 8) yesF (itF (vF 8)) (nmF 7) yesF (vF 7)))) (sqF (ifF (orF (notF (tvF (callF (f_is_word a) (consF (vF 2) nilF)))) (tvF (op2F (D.in_ true) (vF 2) (fldF a.Program "own_places" (vF 0))))) (sqF neF' skF) skF) (sqF (ifF (notF (tvF (methF a.Program "are_exits" (f_Program_are_exits a) (vF 0) (consF (vF 3) nilF)))) (sqF neF' skF) skF) (sqF (fsF a.Program 0 "own_begin" (vF 2)) (sqF (fsF a.Program 0 "own_exits" (callF (one D.sorted) (consF (vF 3) nilF))) (sqF (fsF a.Program 0 "outs" (dcF [7] (itF (fldF a.Program "own_places" (vF 0))) (nmF 7) yesF (vF 7) (methF a.Program "ways_at" (f_Program_ways_at a) (vF 0) (consF (vF 7) (consF (cF (.int 0)) nilF))))) (sqF (fsF a.Program 0 "ins" (dcF [7] (itF (fldF a.Program "own_places" (vF 0))) (nmF 7) yesF (vF 7) (methF a.Program "ways_at" (f_Program_ways_at a) (vF 0) (consF (vF 7) (consF (cF (.int 1)) nilF))))) (sqF (stF 4 (dcF [7] (itF (fldF a.Program "own_places" (vF 0))) (nmF 7) yesF (vF 7) (lcF [6] (itF (op2F D.item (fldF a.Program "outs" (vF 0)) (vF 7))) (nmF 6) yesF (op2F D.item (op2F D.item (fldF a.Program "pairs" (vF 0)) (vF 6)) (cF (.int 1)))))) (sqF (ifF (tvF (op2F ltD (callF (one D.len) (consF (callF (f_come_to a) (consF (lstF (consF (vF 2) nilF)) (consF (vF 4) nilF))) nilF)) (callF (one D.len) (consF (fldF a.Program "own_places" (vF 0)) nilF)))) (sqF neF' skF) skF) (sqF (stF 5 (dcF [7] (itF (fldF a.Program "own_places" (vF 0))) (nmF 7) yesF (vF 7) (lcF [6] (itF (op2F D.item (fldF a.Program "ins" (vF 0)) (vF 7))) (nmF 6) yesF (op2F D.item (op2F D.item (fldF a.Program "pairs" (vF 0)) (vF 6)) (cF (.int 0)))))) (sqF (ifF (tvF (op2F ltD (callF (one D.len) (consF (callF (f_come_to a) (consF (fldF a.Program "own_exits" (vF 0)) (consF (vF 5) nilF))) nilF)) (callF (one D.len) (consF (fldF a.Program "own_places" (vF 0)) nilF)))) (sqF neF' skF) skF) skF))))))))))))
def f_Program___init__ (a : Ad) : List D → R (List (Str × D)) := runI 9 a.Program (g_Program___init__ a)
theorem ok_Program___init__ (T : Txt K mg a) : FnOk P w K mg base (L2.CX P w) 3 a.v_Program___init__ a.d_Program___init__ ["self", "ways", "begin", "exits"] (spI K a.Program [.sb, .sh, .sb] (f_Program___init__ a)) :=
  fnI_mk (N := ["self", "ways", "begin", "exits", "ahead", "back", "way", "place", "pair"]) (G0 := g_Program___init__ a) (ms := [.sb, .sh, .sb]) (mE := [.io, .sb, .sh, .sb, .ow, .ow, .no, .no, .no]) T.F_Program___init__ sc_Program___init__ rfl (by decide) rfl fun cdv A outer s H E hr tk =>
    have hu := hr.units
    dss_cons (ds_if (m' := [.io, .sb, .sh, .sb, .no, .no, .no, .no, .no]) (tx_not (tx_v (Dx.bo (dx_call (ok_are_ways T) (hr.mono (by decide)) T.m_are_ways T.F_are_ways.kp T.B_are_ways tk (ax_b (dx_b rfl (.inr (.inl rfl)) rfl) ax_nil))))) (dss_cons ds_never dss_nil) dss_nil) (dss_cons (ds_fld ((dx_dc (own0 := [("way", 6)]) rfl sc_Program___init__.nd rfl (di_seq ((dx_blt (cd_sorted rfl) T.b_sorted rfl (ax_b (dx_b rfl (.inr (.inl rfl)) rfl) ax_nil)).cl)) ⟨fun s H C cl fp => tg_name (J := ⟨[], [], [], false⟩) sc_Program___init__.nd rfl (.inl rfl), fun s H C cl fp => txs_nil, by decide, rfl, rfl⟩ (fun s H C cl fp => Dx.bo (dx_v rfl (.inl rfl) rfl)) (fun s H C cl fp => dx_sub (dx_b rfl (.inr (.inl rfl)) rfl) (Dx.bo (dx_v rfl (.inl rfl) rfl)) hu)).cl) T.C_Program T.na_Program_pairs rfl (.inr (.inl rfl)) (.inr rfl)) (dss_cons (ds_fld ((dx_sortedSet (sx_sc2K (vs1 := [7]) (own0 := [("pair", 8), ("place", 7)]) rfl sc_Program___init__.nd rfl (by decide) kw_vals (pl_fld rfl (.inr (.inl rfl)) rfl T.C_Program T.na_Program_pairs) ⟨fun s H C cl fp => tg_name (J := ⟨[], [], [], false⟩) sc_Program___init__.nd rfl (.inl rfl), fun s H C cl fp => txs_nil, by decide, rfl, rfl⟩ ⟨fun s H C cl fp => tg_name (J := ⟨[], [], [], false⟩) sc_Program___init__.nd rfl (.inl rfl), fun s H C cl fp => txs_nil, by decide, rfl, rfl⟩ (fun s H C cl fp => di_seq (dx_v rfl (.inl rfl) rfl)) (fun s H C cl fp => Dx.bo (dx_v rfl (.inl rfl) rfl))) rfl T.b_sorted).cl) T.C_Program T.na_Program_own_places rfl (.inr (.inl rfl)) (.inr rfl)) (dss_cons (ds_if (m' := [.io, .sb, .sh, .sb, .no, .no, .no, .no, .no]) ((tw_or (tx_not (tx_v (Dx.bo (dx_call (ok_is_word T) (hr.mono (by decide)) T.m_is_word T.F_is_word.kp T.B_is_word tk (ax_b (Dx.bo (dx_v rfl (.inl rfl) rfl)) ax_nil))))) (tw_or1 (tx_cmp (od_notin hu) (Dx.bo (dx_v rfl (.inl rfl) rfl)) (Dx.bo (dx_fld (dx_b rfl (.inr (.inl rfl)) rfl) T.C_Program T.na_Program_own_places))))).tx) (dss_cons ds_never dss_nil) dss_nil) (dss_cons (ds_if (m' := [.io, .sb, .sh, .sb, .no, .no, .no, .no, .no]) (tx_not (tx_v (Dx.bo (dx_meth (dx_b rfl (.inr (.inl rfl)) rfl) kd_b (ok_Program_are_exits T) T.C_Program T.Me_Program_are_exits (hr.mono (by decide)) T.B_Program_are_exits tk (ax_b (dx_b rfl (.inl rfl) rfl) ax_nil))))) (dss_cons ds_never dss_nil) dss_nil) (dss_cons (ds_fld (dx_v rfl (.inl rfl) rfl) T.C_Program T.na_Program_own_begin rfl (.inr (.inl rfl)) (.inr rfl)) (dss_cons (ds_fld ((dx_blt (cd_sorted rfl) T.b_sorted rfl (ax_b (dx_b rfl (.inl rfl) rfl) ax_nil)).cl) T.C_Program T.na_Program_own_exits rfl (.inr (.inl rfl)) (.inr rfl)) (dss_cons (ds_fld ((dx_dc (own0 := [("place", 7)]) rfl sc_Program___init__.nd rfl (di_seq (dx_fld (dx_b rfl (.inr (.inl rfl)) rfl) T.C_Program T.na_Program_own_places)) ⟨fun s H C cl fp => tg_name (J := ⟨[], [], [], false⟩) sc_Program___init__.nd rfl (.inl rfl), fun s H C cl fp => txs_nil, by decide, rfl, rfl⟩ (fun s H C cl fp => Dx.bo (dx_v rfl (.inl rfl) rfl)) (fun s H C cl fp => (dx_meth (dx_b rfl (.inr (.inl rfl)) rfl) kd_b (ok_Program_ways_at T) T.C_Program T.Me_Program_ways_at (hr.mono (by decide)) T.B_Program_ways_at takesF (ax_b (Dx.bo (dx_v rfl (.inl rfl) rfl)) (ax_b (Dx.bo dx_int) ax_nil))).cl)).cl) T.C_Program T.na_Program_outs rfl (.inr (.inl rfl)) (.inr rfl)) (dss_cons (ds_fld ((dx_dc (own0 := [("place", 7)]) rfl sc_Program___init__.nd rfl (di_seq (dx_fld (dx_b rfl (.inr (.inl rfl)) rfl) T.C_Program T.na_Program_own_places)) ⟨fun s H C cl fp => tg_name (J := ⟨[], [], [], false⟩) sc_Program___init__.nd rfl (.inl rfl), fun s H C cl fp => txs_nil, by decide, rfl, rfl⟩ (fun s H C cl fp => Dx.bo (dx_v rfl (.inl rfl) rfl)) (fun s H C cl fp => (dx_meth (dx_b rfl (.inr (.inl rfl)) rfl) kd_b (ok_Program_ways_at T) T.C_Program T.Me_Program_ways_at (hr.mono (by decide)) T.B_Program_ways_at takesF (ax_b (Dx.bo (dx_v rfl (.inl rfl) rfl)) (ax_b (Dx.bo dx_int) ax_nil))).cl)).cl) T.C_Program T.na_Program_ins rfl (.inr (.inl rfl)) (.inr rfl)) (dss_cons (ds_dc (own0 := [("place", 7)]) rfl sc_Program___init__.nd rfl rfl rfl rfl (di_seq (dx_fld (dx_b rfl (.inr (.inl rfl)) rfl) T.C_Program T.na_Program_own_places)) ⟨fun s H C cl fp => tg_name (J := ⟨[], [], [], false⟩) sc_Program___init__.nd rfl (.inl rfl), fun s H C cl fp => txs_nil, by decide, rfl, rfl⟩ (fun s H C cl fp => Dx.bo (dx_v rfl (.inl rfl) rfl)) (fun s H C cl fp => (dx_lc (own0 := [("way", 6)]) rfl sc_Program___init__.nd rfl (di_seq (dx_sub (Dx.bo (dx_fld (dx_b rfl (.inr (.inl rfl)) rfl) T.C_Program T.na_Program_outs)) (Dx.bo (dx_v rfl (.inl rfl) rfl)) hu)) ⟨fun s H C cl fp => tg_name (J := ⟨[], [], [], false⟩) sc_Program___init__.nd rfl (.inl rfl), fun s H C cl fp => txs_nil, by decide, rfl, rfl⟩ (fun s H C cl fp => dx_sub (Dx.bo (dx_sub (Dx.bo (dx_fld (dx_b rfl (.inr (.inl rfl)) rfl) T.C_Program T.na_Program_pairs)) (Dx.bo (dx_v rfl (.inl rfl) rfl)) hu)) (Dx.bo dx_int) hu)).cl)) (dss_cons (ds_if (m' := [.io, .sb, .sh, .sb, .ow, .no, .no, .no, .no]) (tx_cmp od_lt (Dx.bo (dx_blt cd_len T.b_len rfl (ax_b (Dx.bo (dx_call (ok_come_to T) (hr.mono (by decide)) T.m_come_to T.F_come_to.kp T.B_come_to tk (ax_b (Dx.fb (dx_lst (ax_s (dx_v rfl (.inl rfl) rfl) ax_nil))) (ax_b (dx_b rfl (.inl rfl) rfl) ax_nil)))) ax_nil))) (Dx.bo (dx_blt cd_len T.b_len rfl (ax_b (Dx.bo (dx_fld (dx_b rfl (.inr (.inl rfl)) rfl) T.C_Program T.na_Program_own_places)) ax_nil)))) (dss_cons ds_never dss_nil) dss_nil) (dss_cons (ds_dc (own0 := [("place", 7)]) rfl sc_Program___init__.nd rfl rfl rfl rfl (di_seq (dx_fld (dx_b rfl (.inr (.inl rfl)) rfl) T.C_Program T.na_Program_own_places)) ⟨fun s H C cl fp => tg_name (J := ⟨[], [], [], false⟩) sc_Program___init__.nd rfl (.inl rfl), fun s H C cl fp => txs_nil, by decide, rfl, rfl⟩ (fun s H C cl fp => Dx.bo (dx_v rfl (.inl rfl) rfl)) (fun s H C cl fp => (dx_lc (own0 := [("way", 6)]) rfl sc_Program___init__.nd rfl (di_seq (dx_sub (Dx.bo (dx_fld (dx_b rfl (.inr (.inl rfl)) rfl) T.C_Program T.na_Program_ins)) (Dx.bo (dx_v rfl (.inl rfl) rfl)) hu)) ⟨fun s H C cl fp => tg_name (J := ⟨[], [], [], false⟩) sc_Program___init__.nd rfl (.inl rfl), fun s H C cl fp => txs_nil, by decide, rfl, rfl⟩ (fun s H C cl fp => dx_sub (Dx.bo (dx_sub (Dx.bo (dx_fld (dx_b rfl (.inr (.inl rfl)) rfl) T.C_Program T.na_Program_pairs)) (Dx.bo (dx_v rfl (.inl rfl) rfl)) hu)) (Dx.bo dx_int) hu)).cl)) (dss_cons (ds_if (m' := [.io, .sb, .sh, .sb, .ow, .ow, .no, .no, .no]) (tx_cmp od_lt (Dx.bo (dx_blt cd_len T.b_len rfl (ax_b (Dx.bo (dx_call (ok_come_to T) (hr.mono (by decide)) T.m_come_to T.F_come_to.kp T.B_come_to tk (ax_b (Dx.bo (dx_fld (dx_b rfl (.inr (.inl rfl)) rfl) T.C_Program T.na_Program_own_exits)) (ax_b (dx_b rfl (.inl rfl) rfl) ax_nil)))) ax_nil))) (Dx.bo (dx_blt cd_len T.b_len rfl (ax_b (Dx.bo (dx_fld (dx_b rfl (.inr (.inl rfl)) rfl) T.C_Program T.na_Program_own_places)) ax_nil)))) (dss_cons ds_never dss_nil) dss_nil) dss_nil))))))))))))
abbrev s__law_draw : Stmt := top 17
theorem sc__law_draw : FnScope ["pool", "many", "at"] ["pool", "many"] (defScope s__law_draw) := ⟨rfl, rfl, rfl, by decide +kernel, rfl, by decide +kernel, by decide +kernel⟩
def g__law_draw (a : Ad) : SF :=
  sqF (stF 2 (patF 0)) (sqF (pstF 0 (op2F D.add (vF 2) (cF (.int 1)))) (sqF (reF (ifeF (tvF (op2F ltD (vF 2) (plnF 0))) (op2F modD (callF (one D.toInt) (consF (pnumF 0 (vF 2)) nilF)) (vF 1)) (cF (.int 0)))) skF))
def f__law_draw (a : Ad) : List D → R D := runD 3 (g__law_draw a)
theorem ok__law_draw (T : Txt K mg a) : FnOk P w K mg base (L2.CX P w) 1 a.v__law_draw a.d__law_draw ["pool", "many"] (spD K .cl [.sh, .sb] (f__law_draw a)) :=
  fnD_mk (N := ["pool", "many", "at"]) (G0 := g__law_draw a) (ms := [.sh, .sb]) (mE := [.sh, .sb, .no]) T.F__law_draw sc__law_draw rfl (by decide) fun cdv A outer s H E hr tk =>
    have hu := hr.units
    dss_cons (ds_set (dx_pat rfl (.inl rfl) rfl) sc__law_draw.nd rfl (.inl rfl)) (dss_cons (ds_pst (dx_bin od_add (Dx.bo (dx_v rfl (.inl rfl) rfl)) (Dx.bo dx_int)) rfl (.inl rfl) rfl) (dss_cons (ds_ret (dx_ife (tx_cmp od_lt (Dx.bo (dx_v rfl (.inl rfl) rfl)) (Dx.bo (dx_plen rfl (.inl rfl) rfl T.b_len))) (dx_bin od_mod (Dx.bo (dx_bty cd_int T.b_int rfl (ax_b (Dx.bo (dx_pnum (Dx.bo (dx_v rfl (.inl rfl) rfl)) rfl (.inl rfl) rfl)) ax_nil))) (dx_b rfl (.inl rfl) rfl)) dx_int)) dss_nil))
abbrev s__law_words : Stmt := top 19
theorem sc__law_words : FnScope ["pool", "many", "menus", "some", "at"] ["pool", "many"] (defScope s__law_words) := ⟨rfl, rfl, rfl, by decide +kernel, rfl, by decide +kernel, by decide +kernel⟩
def g__law_words (a : Ad) : SF :=
  sqF (stF 2 (lstF (consF (lstF (consF (cF (.str "a")) (consF (cF (.str "b")) (consF (cF (.str "c")) (consF (cF (.str "d")) (consF (cF (.str "e")) (consF (cF (.str "f")) (consF (cF (.str "g")) nilF)))))))) (consF (lstF (consF (cF (.str "x")) (consF (cF (.str "way")) (consF (cF (.str "runs")) (consF (cF (.str "stop")) (consF (cF (.str "b")) (consF (cF (.str "zz")) (consF (cF (.str "place")) nilF)))))))) nilF)))) (sqF (paF [3, 4] (consF (op2F D.item (vF 2) (callF (f__law_draw a) (consF (vF 0) (consF (cF (.int 2)) nilF)))) (consF (callF (f__law_draw a) (consF (vF 0) (consF (cF (.int 7)) nilF))) nilF))) (sqF (reF (cutF D.cut (op2F D.add (cutF D.cut (vF 3) (soO (vF 4)) noO) (cutF D.cut (vF 3) noO (soO (vF 4)))) noO (soO (vF 1)))) skF))
def f__law_words (a : Ad) : List D → R D := runF 5 (g__law_words a)
theorem ok__law_words (T : Txt K mg a) : FnOk P w K mg base (L2.CX P w) 2 a.v__law_words a.d__law_words ["pool", "many"] (spD K .fr [.sh, .sb] (f__law_words a)) :=
  fnF_mk (N := ["pool", "many", "menus", "some", "at"]) (G0 := g__law_words a) (ms := [.sh, .sb]) (mE := [.sh, .sb, .no, .no, .no]) T.F__law_words sc__law_words rfl (by decide) fun cdv A outer s H E hr tk =>
    have hu := hr.units
    dss_cons (ds_set ((dx_lst (ax_s ((dx_lst (ax_s dx_str (ax_s dx_str (ax_s dx_str (ax_s dx_str (ax_s dx_str (ax_s dx_str (ax_s dx_str ax_nil)))))))).cl) (ax_s ((dx_lst (ax_s dx_str (ax_s dx_str (ax_s dx_str (ax_s dx_str (ax_s dx_str (ax_s dx_str (ax_s dx_str ax_nil)))))))).cl) ax_nil))).cl) sc__law_words.nd rfl (.inl rfl)) (dss_cons (ds_par2 (kx_s (dx_sub (Dx.bo (dx_v rfl (.inl rfl) rfl)) (Dx.bo (dx_call (ok__law_draw T) (hr.mono (by decide)) T.m__law_draw T.F__law_draw.kp T.B__law_draw tk (ax_s (dx_v rfl (.inl rfl) rfl) (ax_b (Dx.bo dx_int) ax_nil)))) hu) (kx_s (dx_call (ok__law_draw T) (hr.mono (by decide)) T.m__law_draw T.F__law_draw.kp T.B__law_draw tk (ax_s (dx_v rfl (.inl rfl) rfl) (ax_b (Dx.bo dx_int) ax_nil))) kx_nil)) rfl sc__law_words.nd rfl rfl (by decide) rfl rfl rfl) (dss_cons (ds_retF (dx_cut (Dx.bo (dx_bin od_add (Dx.fb (dx_cut (Dx.bo (dx_v rfl (.inl rfl) rfl)) (ox_so (Dx.bo (dx_v rfl (.inl rfl) rfl))) ox_no)) (Dx.fb (dx_cut (Dx.bo (dx_v rfl (.inl rfl) rfl)) ox_no (ox_so (Dx.bo (dx_v rfl (.inl rfl) rfl))))))) ox_no (ox_so (dx_b rfl (.inl rfl) rfl)))) dss_nil))
abbrev s__law_names : Stmt := top 20
theorem sc__law_names : FnScope ["pool", "many", "some", "at"] ["pool", "many"] (defScope s__law_names) := ⟨rfl, rfl, rfl, by decide +kernel, rfl, by decide +kernel, by decide +kernel⟩
def g__law_names (a : Ad) : SF :=
  sqF (stF 2 (lstF (consF (cF (.str "p")) (consF (cF (.str "q")) (consF (cF (.str "r")) (consF (cF (.str "s")) (consF (cF (.str "t")) (consF (cF (.str "u")) (consF (cF (.str "v")) (consF (cF (.str "x")) (consF (cF (.str "b")) (consF (cF (.str "a")) (consF (cF (.str "way")) (consF (cF (.str "none")) nilF)))))))))))))) (sqF (stF 3 (callF (f__law_draw a) (consF (vF 0) (consF (cF (.int 12)) nilF)))) (sqF (reF (cutF D.cut (op2F D.add (cutF D.cut (vF 2) (soO (vF 3)) noO) (cutF D.cut (vF 2) noO (soO (vF 3)))) noO (soO (vF 1)))) skF))
def f__law_names (a : Ad) : List D → R D := runF 4 (g__law_names a)
theorem ok__law_names (T : Txt K mg a) : FnOk P w K mg base (L2.CX P w) 2 a.v__law_names a.d__law_names ["pool", "many"] (spD K .fr [.sh, .sb] (f__law_names a)) :=
  fnF_mk (N := ["pool", "many", "some", "at"]) (G0 := g__law_names a) (ms := [.sh, .sb]) (mE := [.sh, .sb, .no, .no]) T.F__law_names sc__law_names rfl (by decide) fun cdv A outer s H E hr tk =>
    have hu := hr.units
    dss_cons (ds_set ((dx_lst (ax_s dx_str (ax_s dx_str (ax_s dx_str (ax_s dx_str (ax_s dx_str (ax_s dx_str (ax_s dx_str (ax_s dx_str (ax_s dx_str (ax_s dx_str (ax_s dx_str (ax_s dx_str ax_nil))))))))))))).cl) sc__law_names.nd rfl (.inl rfl)) (dss_cons (ds_set (dx_call (ok__law_draw T) (hr.mono (by decide)) T.m__law_draw T.F__law_draw.kp T.B__law_draw tk (ax_s (dx_v rfl (.inl rfl) rfl) (ax_b (Dx.bo dx_int) ax_nil))) sc__law_names.nd rfl (.inl rfl)) (dss_cons (ds_retF (dx_cut (Dx.bo (dx_bin od_add (Dx.fb (dx_cut (Dx.bo (dx_v rfl (.inl rfl) rfl)) (ox_so (Dx.bo (dx_v rfl (.inl rfl) rfl))) ox_no)) (Dx.fb (dx_cut (Dx.bo (dx_v rfl (.inl rfl) rfl)) ox_no (ox_so (Dx.bo (dx_v rfl (.inl rfl) rfl))))))) ox_no (ox_so (dx_b rfl (.inl rfl) rfl)))) dss_nil))
abbrev s__law_made : Stmt := top 22
theorem sc__law_made : FnScope ["prog"] ["prog"] (defScope s__law_made) := ⟨rfl, rfl, rfl, by decide +kernel, rfl, by decide +kernel, by decide +kernel⟩
def g__law_made (a : Ad) : SF :=
  sqF (reF (mkF a.Program (f_Program___init__ a) (consF (callF (one D.toDict) (consF (op2F D.item (vF 0) (cF (.str "ways"))) nilF)) (consF (op2F D.item (vF 0) (cF (.str "begin"))) (consF (callF (one D.toList) (consF (op2F D.item (vF 0) (cF (.str "exits"))) nilF)) nilF))))) skF
def f__law_made (a : Ad) : List D → R D := runD 1 (g__law_made a)
theorem ok__law_made (T : Txt K mg a) : FnOk P w K mg base (L2.CX P w) 5 a.v__law_made a.d__law_made ["prog"] (spD K .cl [.sb] (f__law_made a)) :=
  fnD_mk (N := ["prog"]) (G0 := g__law_made a) (ms := [.sb]) (mE := [.sb]) T.F__law_made sc__law_made rfl (by decide) fun cdv A outer s H E hr tk =>
    have hu := hr.units
    dss_cons (ds_ret (dx_make T.K_Program (ok_Program___init__ T) (hr.mono (by decide)) T.mg_Program T.B_Program___init__ tk (ax_b (Dx.fb (dx_bty cd_dict T.b_dict rfl (ax_b (Dx.bo (dx_sub (dx_b rfl (.inl rfl) rfl) (Dx.bo dx_str) hu)) ax_nil))) (ax_s (dx_sub (dx_b rfl (.inl rfl) rfl) (Dx.bo dx_str) hu) (ax_b (Dx.fb (dx_bty cd_list T.b_list rfl (ax_b (Dx.bo (dx_sub (dx_b rfl (.inl rfl) rfl) (Dx.bo dx_str) hu)) ax_nil))) ax_nil))))) dss_nil
abbrev s__law_places : Stmt := top 23
theorem sc__law_places : FnScope ["prog", "found", "way", "place"] ["prog"] (defScope s__law_places) := ⟨rfl, rfl, rfl, by decide +kernel, rfl, by decide +kernel, by decide +kernel⟩
def lb1__law_places (a : Ad) : SF :=
  sqF (stF 1 (op2F D.add (vF 1) (lcF [3] (itF (op2F D.item (op2F D.item (vF 0) (cF (.str "ways"))) (vF 2))) (nmF 3) (tvF (op2F (D.in_ true) (vF 3) (vF 1))) (vF 3)))) skF
def g__law_places (a : Ad) : SF :=
  sqF (stF 1 (lstF nilF)) (sqF (foF (kwF keysG (op2F D.item (vF 0) (cF (.str "ways")))) (nmF 2) (lb1__law_places a)) (sqF (reF (callF (one D.sorted) (consF (vF 1) nilF))) skF))
def f__law_places (a : Ad) : List D → R D := runF 4 (g__law_places a)
theorem ok__law_places (T : Txt K mg a) : FnOk P w K mg base (L2.CX P w) 1 a.v__law_places a.d__law_places ["prog"] (spD K .fr [.sb] (f__law_places a)) :=
  fnF_mk (N := ["prog", "found", "way", "place"]) (G0 := g__law_places a) (ms := [.sb]) (mE := [.sb, .no, .no, .no]) T.F__law_places sc__law_places rfl (by decide) fun cdv A outer s H E hr tk =>
    have hu := hr.units
    dss_cons (ds_set ((dx_lst ax_nil).cl) sc__law_places.nd rfl (.inr rfl)) (dss_cons (ds_forK (m := [.sb, .sh, .no, .no]) (passes_of rfl) rfl tk kw_keys (pl_itm rfl (.inl rfl) rfl hu) (tg_name sc__law_places.nd rfl (.inl rfl)) (fun W1 tk1 => dss_cons (ds_set (dx_bin od_add (Dx.bo (dx_v rfl (.inr (.inl rfl)) rfl)) (Dx.fb (dx_lc (own0 := [("place", 3)]) rfl sc__law_places.nd rfl (di_seq (dx_sub (Dx.bo (dx_sub (dx_b rfl (.inl rfl) rfl) (Dx.bo dx_str) hu)) (Dx.bo (dx_v rfl (.inl rfl) rfl)) hu)) ⟨fun s H C cl fp => tg_name (J := ⟨[], [], [], false⟩) sc__law_places.nd rfl (.inl rfl), fun s H C cl fp => txs_one (tx_cmp (od_notin hu) (Dx.bo (dx_v rfl (.inl rfl) rfl)) (Dx.bo (dx_v rfl (.inr (.inl rfl)) rfl))), by decide, rfl, rfl⟩ (fun s H C cl fp => dx_v rfl (.inl rfl) rfl)))) sc__law_places.nd rfl (.inr rfl)) (dss_weak (m2 := [.sb, .sh, .no, .no]) dss_nil))) (dss_cons (ds_retF (dx_blt (cd_sorted rfl) T.b_sorted rfl (ax_b (Dx.bo (dx_v rfl (.inr (.inl rfl)) rfl)) ax_nil))) dss_nil))
abbrev s__law_leaving : Stmt := top 24
theorem sc__law_leaving : FnScope ["prog", "place", "way"] ["prog", "place"] (defScope s__law_leaving) := ⟨rfl, rfl, rfl, by decide +kernel, rfl, by decide +kernel, by decide +kernel⟩
def g__law_leaving (a : Ad) : SF :=
  sqF (reF (lcF [2] (itF (callF (one D.sorted) (consF (op2F D.item (vF 0) (cF (.str "ways"))) nilF))) (nmF 2) (tvF (op2F D.eq (op2F D.item (op2F D.item (op2F D.item (vF 0) (cF (.str "ways"))) (vF 2)) (cF (.int 0))) (vF 1))) (vF 2))) skF
def f__law_leaving (a : Ad) : List D → R D := runF 3 (g__law_leaving a)
theorem ok__law_leaving (T : Txt K mg a) : FnOk P w K mg base (L2.CX P w) 1 a.v__law_leaving a.d__law_leaving ["prog", "place"] (spD K .fr [.sb, .sb] (f__law_leaving a)) :=
  fnF_mk (N := ["prog", "place", "way"]) (G0 := g__law_leaving a) (ms := [.sb, .sb]) (mE := [.sb, .sb, .no]) T.F__law_leaving sc__law_leaving rfl (by decide) fun cdv A outer s H E hr tk =>
    have hu := hr.units
    dss_cons (ds_retF (dx_lc (own0 := [("way", 2)]) rfl sc__law_leaving.nd rfl (di_seq ((dx_blt (cd_sorted rfl) T.b_sorted rfl (ax_b (Dx.bo (dx_sub (dx_b rfl (.inr (.inl rfl)) rfl) (Dx.bo dx_str) hu)) ax_nil)).cl)) ⟨fun s H C cl fp => tg_name (J := ⟨[], [], [], false⟩) sc__law_leaving.nd rfl (.inl rfl), fun s H C cl fp => txs_one (tx_cmp (od_eq hu) (Dx.bo (dx_sub (Dx.bo (dx_sub (Dx.bo (dx_sub (dx_b rfl (.inr (.inl rfl)) rfl) (Dx.bo dx_str) hu)) (Dx.bo (dx_v rfl (.inl rfl) rfl)) hu)) (Dx.bo dx_int) hu)) (dx_b rfl (.inr (.inl rfl)) rfl)), by decide, rfl, rfl⟩ (fun s H C cl fp => dx_v rfl (.inl rfl) rfl))) dss_nil
abbrev s__law_program : Stmt := top 21
theorem sc__law_program : FnScope ["pool", "most", "more", "rings", "places", "names", "pairs", "outs", "at", "start", "one", "other", "first", "last", "exits", "place"] ["pool", "most", "more", "rings"] (defScope s__law_program) := ⟨rfl, rfl, rfl, by decide +kernel, rfl, by decide +kernel, by decide +kernel⟩
def lb1__law_program (a : Ad) : SF :=
  sqF (stF 9 (op2F D.item (vF 4) (callF (f__law_draw a) (consF (vF 0) (consF (vF 8) nilF))))) (sqF (amF (tupF (consF (tupF (consF (vF 9) (consF (op2F D.item (vF 4) (vF 8)) nilF))) (consF (cF (.bl true)) nilF))) (tmP 6 (op2F D.item (vF 5) (op2F subD (vF 8) (cF (.int 1)))) (tmP 7 (vF 9) tmN))) skF)
def lb2__law_program (a : Ad) : SF :=
  sqF (paF [10, 11] (consF (callF (f__law_draw a) (consF (vF 0) (consF (callF (one D.len) (consF (vF 4) nilF)) nilF))) (consF (callF (f__law_draw a) (consF (vF 0) (consF (callF (one D.len) (consF (vF 4) nilF)) nilF))) nilF))) (sqF (ifF (orF (tvF (vF 3)) (tvF (op2F D.ne (vF 10) (vF 11)))) (sqF (asF (ifeF (tvF (vF 3)) (tupF (consF (vF 10) (consF (vF 11) nilF))) (tupF (consF (callF (two D.min2) (consF (vF 10) (consF (vF 11) nilF))) (consF (callF (two D.max2) (consF (vF 10) (consF (vF 11) nilF))) nilF)))) (tpF [12, 13])) (sqF (putF' 6 (op2F D.item (vF 5) (op2F D.add (op2F subD (callF (one D.len) (consF (vF 4) nilF)) (cF (.int 1))) (vF 8))) (tupF (consF (op2F D.item (vF 4) (vF 12)) (consF (op2F D.item (vF 4) (vF 13)) nilF)))) skF)) skF) skF)
def g__law_program (a : Ad) : SF :=
  sqF (stF 4 (callF (f__law_words a) (consF (vF 0) (consF (op2F D.add (cF (.int 2)) (callF (f__law_draw a) (consF (vF 0) (consF (op2F subD (vF 1) (cF (.int 1))) nilF)))) nilF)))) (sqF (paF [5, 6, 7] (consF (callF (f__law_names a) (consF (vF 0) (consF (op2F D.add (op2F subD (callF (one D.len) (consF (vF 4) nilF)) (cF (.int 1))) (vF 2)) nilF))) (consF dnF (consF dnF nilF)))) (sqF (foF (wkF rg2 (consF (cF (.int 1)) (consF (callF (one D.len) (consF (vF 4) nilF)) nilF))) (nmF 8) (lb1__law_program a)) (sqF (foF (wkF rg1 (consF (callF (f__law_draw a) (consF (vF 0) (consF (op2F D.add (vF 2) (cF (.int 1))) nilF))) nilF)) (nmF 8) (lb2__law_program a)) (sqF (stF 14 (lcF [15] (itF (vF 4)) (nmF 15) (orF (tvF (op2F (D.in_ true) (vF 15) (vF 7))) (tvF (op2F D.eq (callF (f__law_draw a) (consF (vF 0) (consF (cF (.int 5)) nilF))) (cF (.int 0))))) (vF 15))) (sqF (reF (dsF (pcF (cF (.str "ways")) (vF 6) (pcF (cF (.str "begin")) (op2F D.item (vF 4) (cF (.int 0))) (pcF (cF (.str "exits")) (vF 14) pnF))))) skF)))))
def f__law_program (a : Ad) : List D → R D := runD 16 (g__law_program a)
theorem ok__law_program (T : Txt K mg a) : FnOk P w K mg base (L2.CX P w) 3 a.v__law_program a.d__law_program ["pool", "most", "more", "rings"] (spD K .cl [.sh, .sb, .sb, .sb] (f__law_program a)) :=
  fnD_mk (N := ["pool", "most", "more", "rings", "places", "names", "pairs", "outs", "at", "start", "one", "other", "first", "last", "exits", "place"]) (G0 := g__law_program a) (ms := [.sh, .sb, .sb, .sb]) (mE := [.sh, .sb, .sb, .sb, .no, .no, .no, .no, .no, .no, .no, .no, .no, .no, .no, .no]) T.F__law_program sc__law_program rfl (by decide) fun cdv A outer s H E hr tk =>
    have hu := hr.units
    dss_cons (ds_set ((dx_call (ok__law_words T) (hr.mono (by decide)) T.m__law_words T.F__law_words.kp T.B__law_words tk (ax_s (dx_v rfl (.inr (.inl rfl)) rfl) (ax_b (Dx.bo (dx_bin od_add (Dx.bo dx_int) (Dx.bo (dx_call (ok__law_draw T) (hr.mono (by decide)) T.m__law_draw T.F__law_draw.kp T.B__law_draw tk (ax_s (dx_v rfl (.inr (.inl rfl)) rfl) (ax_b (Dx.bo (dx_bin od_sub (dx_b rfl (.inl rfl) rfl) (Dx.bo dx_int))) ax_nil)))))) ax_nil))).cl) sc__law_program.nd rfl (.inl rfl)) (dss_cons (ds_parT (kx_s ((dx_call (ok__law_names T) (hr.mono (by decide)) T.m__law_names T.F__law_names.kp T.B__law_names tk (ax_s (dx_v rfl (.inr (.inl rfl)) rfl) (ax_b (Dx.bo (dx_bin od_add (Dx.bo (dx_bin od_sub (Dx.bo (dx_blt cd_len T.b_len rfl (ax_b (Dx.bo (dx_v rfl (.inl rfl) rfl)) ax_nil))) (Dx.bo dx_int))) (dx_b rfl (.inl rfl) rfl))) ax_nil))).cl) (kx_f dx_dnew (kx_f dx_dnew kx_nil))) (nt_cons sc__law_program.nd rfl (.inl rfl) (nt_cons sc__law_program.nd rfl (.inl rfl) (nt_cons sc__law_program.nd rfl (.inr rfl) nt_nil)))) (dss_cons (ds_for (m := [.sh, .sb, .sb, .sb, .sh, .sh, .ow, .ow, .no, .no, .no, .no, .no, .no, .no, .no]) (passes_of rfl) rfl (di_range2 (ax_b (Dx.bo dx_int) (ax_b (Dx.bo (dx_blt cd_len T.b_len rfl (ax_b (Dx.bo (dx_v rfl (.inl rfl) rfl)) ax_nil))) ax_nil)) T.b_range) (tg_name sc__law_program.nd rfl (.inl rfl)) (dss_cons (ds_set (dx_sub (Dx.bo (dx_v rfl (.inl rfl) rfl)) (Dx.bo (dx_call (ok__law_draw T) (hr.mono (by decide)) T.m__law_draw T.F__law_draw.kp T.B__law_draw tk (ax_s (dx_v rfl (.inr (.inl rfl)) rfl) (ax_b (Dx.bo (dx_v rfl (.inl rfl) rfl)) ax_nil)))) hu) sc__law_program.nd rfl (.inl rfl)) (dss_cons (ds_asgM (dx_tup (ax_s (dx_tup (ax_s (dx_v rfl (.inl rfl) rfl) (ax_s (dx_sub (Dx.bo (dx_v rfl (.inl rfl) rfl)) (Dx.bo (dx_v rfl (.inl rfl) rfl)) hu) ax_nil))) (ax_s dx_bl ax_nil))) (tgm_put (Dx.bo (dx_sub (Dx.bo (dx_v rfl (.inl rfl) rfl)) (Dx.bo (dx_bin od_sub (Dx.bo (dx_v rfl (.inl rfl) rfl)) (Dx.bo dx_int))) hu)) (tgm_put (Dx.bo (dx_v rfl (.inl rfl) rfl)) tgm_nil hu rfl (.inr (.inl rfl)) (.inl rfl)) hu rfl (.inl rfl) (.inl rfl)) rfl (tln_P (tln_P tln_N))) (dss_weak (m2 := [.sh, .sb, .sb, .sb, .sh, .sh, .ow, .ow, .no, .no, .no, .no, .no, .no, .no, .no]) dss_nil)))) (dss_cons (ds_for (m := [.sh, .sb, .sb, .sb, .sh, .sh, .ow, .ow, .no, .no, .no, .no, .no, .no, .no, .no]) (passes_of rfl) rfl (di_range1 (ax_b (Dx.bo (dx_call (ok__law_draw T) (hr.mono (by decide)) T.m__law_draw T.F__law_draw.kp T.B__law_draw tk (ax_s (dx_v rfl (.inr (.inl rfl)) rfl) (ax_b (Dx.bo (dx_bin od_add (dx_b rfl (.inl rfl) rfl) (Dx.bo dx_int))) ax_nil)))) ax_nil) T.b_range) (tg_name sc__law_program.nd rfl (.inl rfl)) (dss_cons (ds_par2 (kx_s (dx_call (ok__law_draw T) (hr.mono (by decide)) T.m__law_draw T.F__law_draw.kp T.B__law_draw tk (ax_s (dx_v rfl (.inr (.inl rfl)) rfl) (ax_b (Dx.bo (dx_blt cd_len T.b_len rfl (ax_b (Dx.bo (dx_v rfl (.inl rfl) rfl)) ax_nil))) ax_nil))) (kx_s (dx_call (ok__law_draw T) (hr.mono (by decide)) T.m__law_draw T.F__law_draw.kp T.B__law_draw tk (ax_s (dx_v rfl (.inr (.inl rfl)) rfl) (ax_b (Dx.bo (dx_blt cd_len T.b_len rfl (ax_b (Dx.bo (dx_v rfl (.inl rfl) rfl)) ax_nil))) ax_nil))) kx_nil)) rfl sc__law_program.nd rfl rfl (by decide) rfl rfl rfl) (dss_cons (ds_if (m' := [.sh, .sb, .sb, .sb, .sh, .sh, .ow, .ow, .sh, .no, .sh, .sh, .no, .no, .no, .no]) ((tw_or (tx_v (dx_b rfl (.inl rfl) rfl)) (tw_or1 (tx_cmp (od_ne hu) (Dx.bo (dx_v rfl (.inl rfl) rfl)) (Dx.bo (dx_v rfl (.inl rfl) rfl))))).tx) (dss_cons (ds_asg (dx_ife (tx_v (dx_b rfl (.inl rfl) rfl)) (dx_tup (ax_s (dx_v rfl (.inl rfl) rfl) (ax_s (dx_v rfl (.inl rfl) rfl) ax_nil))) (dx_tup (ax_s (dx_blt (cd_min2 rfl) T.b_min rfl (ax_b (Dx.bo (dx_v rfl (.inl rfl) rfl)) (ax_b (Dx.bo (dx_v rfl (.inl rfl) rfl)) ax_nil))) (ax_s (dx_blt (cd_max2 rfl) T.b_max rfl (ax_b (Dx.bo (dx_v rfl (.inl rfl) rfl)) (ax_b (Dx.bo (dx_v rfl (.inl rfl) rfl)) ax_nil))) ax_nil)))) (tg_tup rfl (tgs_cons sc__law_program.nd rfl (.inl rfl) (tgs_cons sc__law_program.nd rfl (.inl rfl) tgs_nil)))) (dss_cons (ds_put (dx_tup (ax_s (dx_sub (Dx.bo (dx_v rfl (.inl rfl) rfl)) (Dx.bo (dx_v rfl (.inl rfl) rfl)) hu) (ax_s (dx_sub (Dx.bo (dx_v rfl (.inl rfl) rfl)) (Dx.bo (dx_v rfl (.inl rfl) rfl)) hu) ax_nil))) (Dx.bo (dx_sub (Dx.bo (dx_v rfl (.inl rfl) rfl)) (Dx.bo (dx_bin od_add (Dx.bo (dx_bin od_sub (Dx.bo (dx_blt cd_len T.b_len rfl (ax_b (Dx.bo (dx_v rfl (.inl rfl) rfl)) ax_nil))) (Dx.bo dx_int))) (Dx.bo (dx_v rfl (.inl rfl) rfl)))) hu)) hu rfl (.inl rfl) (.inl rfl)) (dss_weak (m2 := [.sh, .sb, .sb, .sb, .sh, .sh, .ow, .ow, .sh, .no, .sh, .sh, .no, .no, .no, .no]) dss_nil))) dss_nil) (dss_weak (m2 := [.sh, .sb, .sb, .sb, .sh, .sh, .ow, .ow, .no, .no, .no, .no, .no, .no, .no, .no]) dss_nil)))) (dss_cons (ds_lc (own0 := [("place", 15)]) rfl sc__law_program.nd rfl rfl rfl rfl (di_seq (dx_v rfl (.inl rfl) rfl)) ⟨fun s H C cl fp => tg_name (J := ⟨[], [], [], false⟩) sc__law_program.nd rfl (.inl rfl), fun s H C cl fp => txs_one ((tw_or (tx_cmp (od_notin hu) (Dx.bo (dx_v rfl (.inl rfl) rfl)) (dx_b rfl (.inr (.inl rfl)) rfl)) (tw_or1 (tx_cmp (od_eq hu) (Dx.bo (dx_call (ok__law_draw T) (hr.mono (by decide)) T.m__law_draw T.F__law_draw.kp T.B__law_draw takesF (ax_s (dx_v rfl (.inr (.inl rfl)) rfl) (ax_b (Dx.bo dx_int) ax_nil)))) (Dx.bo dx_int)))).tx), by decide, rfl, rfl⟩ (fun s H C cl fp => dx_v rfl (.inl rfl) rfl)) (dss_share 14 (dss_share 6 (dss_cons (ds_ret ((dx_disp (px_cons (Dx.bo dx_str) (dx_v rfl (.inl rfl) rfl) (px_cons (Dx.bo dx_str) (dx_sub (Dx.bo (dx_v rfl (.inl rfl) rfl)) (Dx.bo dx_int) hu) (px_cons (Dx.bo dx_str) (dx_v rfl (.inl rfl) rfl) px_nil)))).cl)) dss_nil)))))))
abbrev s__law_right : Stmt := top 25
theorem sc__law_right : FnScope ["made", "prog", "way", "place", "entering"] ["made", "prog"] (defScope s__law_right) := ⟨rfl, rfl, rfl, by decide +kernel, rfl, by decide +kernel, by decide +kernel⟩
def lb1__law_right (a : Ad) : SF :=
  sqF (ifF (orF (tvF (op2F D.ne (subOF a.Program (f_Program___getitem__ a) (vF 0) (vF 2)) (op2F D.item (op2F D.item (vF 1) (cF (.str "ways"))) (vF 2)))) (tvF (op2F (D.inOwn a.Program (f_Program___contains__ a) true) (vF 2) (vF 0)))) (sqF (reF (cF (.bl false))) skF) skF) skF
def lb2__law_right (a : Ad) : SF :=
  sqF (stF 4 (lcF [2] (itF (callF (one D.sorted) (consF (op2F D.item (vF 1) (cF (.str "ways"))) nilF))) (nmF 2) (tvF (op2F D.eq (op2F D.item (op2F D.item (op2F D.item (vF 1) (cF (.str "ways"))) (vF 2)) (cF (.int 1))) (vF 3))) (vF 2))) (sqF (ifF (orF (tvF (op2F D.ne (methF a.Program "leaving" (f_Program_leaving a) (vF 0) (consF (vF 3) nilF)) (callF (f__law_leaving a) (consF (vF 1) (consF (vF 3) nilF))))) (tvF (op2F D.ne (methF a.Program "entering" (f_Program_entering a) (vF 0) (consF (vF 3) nilF)) (vF 4)))) (sqF (reF (cF (.bl false))) skF) skF) skF)
def g__law_right (a : Ad) : SF :=
  sqF (ifF (orF (tvF (op2F D.ne (propF a.Program (f_Program_begin a) (vF 0)) (op2F D.item (vF 1) (cF (.str "begin"))))) (tvF (op2F D.ne (methF a.Program "ways" (f_Program_ways a) (vF 0) nilF) (callF (one D.sorted) (consF (op2F D.item (vF 1) (cF (.str "ways"))) nilF))))) (sqF (reF (cF (.bl false))) skF) skF) (sqF (ifF (tvF (op2F D.ne (methF a.Program "exits" (f_Program_exits a) (vF 0) nilF) (callF (one D.sorted) (consF (op2F D.item (vF 1) (cF (.str "exits"))) nilF)))) (sqF (reF (cF (.bl false))) skF) skF) (sqF (ifF (orF (tvF (op2F D.ne (methF a.Program "places" (f_Program_places a) (vF 0) nilF) (callF (f__law_places a) (consF (vF 1) nilF)))) (tvF (op2F D.ne (callF (one (D.lenO a.Program (f_Program___len__ a))) (consF (vF 0) nilF)) (callF (one D.len) (consF (op2F D.item (vF 1) (cF (.str "ways"))) nilF))))) (sqF (reF (cF (.bl false))) skF) skF) (sqF (foF (kwF keysG (op2F D.item (vF 1) (cF (.str "ways")))) (nmF 2) (lb1__law_right a)) (sqF (foF (itF (callF (f__law_places a) (consF (vF 1) nilF))) (nmF 3) (lb2__law_right a)) (sqF (reF (cF (.bl true))) skF)))))
def f__law_right (a : Ad) : List D → R D := runD 5 (g__law_right a)
theorem ok__law_right (T : Txt K mg a) : FnOk P w K mg base (L2.CX P w) 5 a.v__law_right a.d__law_right ["made", "prog"] (spD K .cl [.sb, .sb] (f__law_right a)) :=
  fnD_mk (N := ["made", "prog", "way", "place", "entering"]) (G0 := g__law_right a) (ms := [.sb, .sb]) (mE := [.sb, .sb, .no, .no, .no]) T.F__law_right sc__law_right rfl (by decide) fun cdv A outer s H E hr tk =>
    have hu := hr.units
    dss_cons (ds_if (m' := [.sb, .sb, .no, .no, .no]) ((tw_or (tx_cmp (od_ne hu) (Dx.bo (dx_prop (dx_b rfl (.inl rfl) rfl) T.C_Program T.Pr_Program_begin (ok_Program_begin T) (hr.mono (by decide)) T.B_Program_begin)) (Dx.bo (dx_sub (dx_b rfl (.inr (.inl rfl)) rfl) (Dx.bo dx_str) hu))) (tw_or1 (tx_cmp (od_ne hu) (Dx.fb (dx_meth0 (dx_b rfl (.inl rfl) rfl) kd_b (ok_Program_ways T) T.C_Program T.Me_Program_ways (hr.mono (by decide)) T.B_Program_ways tk)) (Dx.fb (dx_blt (cd_sorted rfl) T.b_sorted rfl (ax_b (Dx.bo (dx_sub (dx_b rfl (.inr (.inl rfl)) rfl) (Dx.bo dx_str) hu)) ax_nil)))))).tx) (dss_cons (ds_ret dx_bl) dss_nil) dss_nil) (dss_cons (ds_if (m' := [.sb, .sb, .no, .no, .no]) (tx_cmp (od_ne hu) (Dx.fb (dx_meth0 (dx_b rfl (.inl rfl) rfl) kd_b (ok_Program_exits T) T.C_Program T.Me_Program_exits (hr.mono (by decide)) T.B_Program_exits tk)) (Dx.fb (dx_blt (cd_sorted rfl) T.b_sorted rfl (ax_b (Dx.bo (dx_sub (dx_b rfl (.inr (.inl rfl)) rfl) (Dx.bo dx_str) hu)) ax_nil)))) (dss_cons (ds_ret dx_bl) dss_nil) dss_nil) (dss_cons (ds_if (m' := [.sb, .sb, .no, .no, .no]) ((tw_or (tx_cmp (od_ne hu) (Dx.fb (dx_meth0 (dx_b rfl (.inl rfl) rfl) kd_b (ok_Program_places T) T.C_Program T.Me_Program_places (hr.mono (by decide)) T.B_Program_places tk)) (Dx.fb (dx_call (ok__law_places T) (hr.mono (by decide)) T.m__law_places T.F__law_places.kp T.B__law_places tk (ax_b (dx_b rfl (.inr (.inl rfl)) rfl) ax_nil)))) (tw_or1 (tx_cmp (od_ne hu) (Dx.bo (dx_blt (cd_lenO (ok_Program___len__ T) (hr.mono (by decide)) T.B_Program___len__ T.S_Program___len__) T.b_len rfl (ax_b (dx_b rfl (.inl rfl) rfl) ax_nil))) (Dx.bo (dx_blt cd_len T.b_len rfl (ax_b (Dx.bo (dx_sub (dx_b rfl (.inr (.inl rfl)) rfl) (Dx.bo dx_str) hu)) ax_nil)))))).tx) (dss_cons (ds_ret dx_bl) dss_nil) dss_nil) (dss_cons (ds_forK (m := [.sb, .sb, .no, .no, .no]) (passes_of rfl) rfl tk kw_keys (pl_itm rfl (.inr (.inl rfl)) rfl hu) (tg_name sc__law_right.nd rfl (.inl rfl)) (fun W1 tk1 => dss_cons (ds_if (m' := [.sb, .sb, .sh, .no, .no]) ((tw_or (tx_cmp (od_ne hu) (Dx.bo (dx_subO (dx_b rfl (.inl rfl) rfl) (Dx.bo (dx_v rfl (.inl rfl) rfl)) (ok_Program___getitem__ T) (hr.mono (by decide)) T.B_Program___getitem__ T.S_Program___getitem__ T.fi_Program___getitem__ tk1)) (Dx.bo (dx_sub (Dx.bo (dx_sub (dx_b rfl (.inr (.inl rfl)) rfl) (Dx.bo dx_str) hu)) (Dx.bo (dx_v rfl (.inl rfl) rfl)) hu))) (tw_or1 (tx_cmp (od_notinO (ok_Program___contains__ T) (hr.mono (by decide)) T.B_Program___contains__ T.S_Program___contains__) (Dx.bo (dx_v rfl (.inl rfl) rfl)) (dx_b rfl (.inl rfl) rfl)))).tx) (dss_cons (ds_ret dx_bl) dss_nil) dss_nil) (dss_weak (m2 := [.sb, .sb, .no, .no, .no]) dss_nil))) (dss_cons (ds_for (m := [.sb, .sb, .no, .no, .no]) (passes_of rfl) rfl (di_seq ((dx_call (ok__law_places T) (hr.mono (by decide)) T.m__law_places T.F__law_places.kp T.B__law_places tk (ax_b (dx_b rfl (.inr (.inl rfl)) rfl) ax_nil)).cl)) (tg_name sc__law_right.nd rfl (.inr rfl)) (dss_cons (ds_lc (own0 := [("way", 2)]) rfl sc__law_right.nd rfl rfl rfl rfl (di_seq ((dx_blt (cd_sorted rfl) T.b_sorted rfl (ax_b (Dx.bo (dx_sub (dx_b rfl (.inr (.inl rfl)) rfl) (Dx.bo dx_str) hu)) ax_nil)).cl)) ⟨fun s H C cl fp => tg_name (J := ⟨[], [], [], false⟩) sc__law_right.nd rfl (.inl rfl), fun s H C cl fp => txs_one (tx_cmp (od_eq hu) (Dx.bo (dx_sub (Dx.bo (dx_sub (Dx.bo (dx_sub (dx_b rfl (.inr (.inl rfl)) rfl) (Dx.bo dx_str) hu)) (Dx.bo (dx_v rfl (.inl rfl) rfl)) hu)) (Dx.bo dx_int) hu)) (Dx.bo (dx_v rfl (.inr (.inl rfl)) rfl))), by decide, rfl, rfl⟩ (fun s H C cl fp => dx_v rfl (.inl rfl) rfl)) (dss_cons (ds_if (m' := [.sb, .sb, .no, .sh, .ow]) ((tw_or (tx_cmp (od_ne hu) (Dx.fb (dx_meth (dx_b rfl (.inl rfl) rfl) kd_b (ok_Program_leaving T) T.C_Program T.Me_Program_leaving (hr.mono (by decide)) T.B_Program_leaving tk (ax_b (Dx.bo (dx_v rfl (.inr (.inl rfl)) rfl)) ax_nil))) (Dx.fb (dx_call (ok__law_leaving T) (hr.mono (by decide)) T.m__law_leaving T.F__law_leaving.kp T.B__law_leaving tk (ax_b (dx_b rfl (.inr (.inl rfl)) rfl) (ax_b (Dx.bo (dx_v rfl (.inr (.inl rfl)) rfl)) ax_nil))))) (tw_or1 (tx_cmp (od_ne hu) (Dx.fb (dx_meth (dx_b rfl (.inl rfl) rfl) kd_b (ok_Program_entering T) T.C_Program T.Me_Program_entering (hr.mono (by decide)) T.B_Program_entering tk (ax_b (Dx.bo (dx_v rfl (.inr (.inl rfl)) rfl)) ax_nil))) (dx_b rfl (.inl rfl) rfl)))).tx) (dss_cons (ds_ret dx_bl) dss_nil) dss_nil) (dss_weak (m2 := [.sb, .sb, .no, .no, .no]) dss_nil)))) (dss_cons (ds_ret dx_bl) dss_nil)))))
abbrev s__law_unlike : Stmt := top 26
theorem sc__law_unlike : FnScope ["made", "prog", "way", "pairs", "others", "back", "at", "place", "round_one", "round_two", "exits", "other"] ["made", "prog"] (defScope s__law_unlike) := ⟨rfl, rfl, rfl, by decide +kernel, rfl, by decide +kernel, by decide +kernel⟩
def lb1__law_unlike (a : Ad) : SF :=
  sqF (putF' 5 (op2F D.add (cF (.str "z")) (op2F D.item (cF (.str "abcdef")) (vF 6))) (tupF (consF (vF 7) (consF (op2F D.item (vF 1) (cF (.str "begin"))) nilF)))) skF
def g__law_unlike (a : Ad) : SF :=
  sqF (stF 2 (op2F D.item (callF (one D.sorted) (consF (op2F D.item (vF 1) (cF (.str "ways"))) nilF)) (cF (.int 0)))) (sqF (stF 3 (callF (one D.pairs) (consF (lcF [11] (kwF keysG (op2F D.item (vF 1) (cF (.str "ways")))) (nmF 11) (tvF (op2F D.ne (vF 11) (vF 2))) (tupF (consF (vF 11) (consF (op2F D.item (op2F D.item (vF 1) (cF (.str "ways"))) (vF 11)) nilF)))) nilF))) (sqF (putF' 3 (cF (.str "zzz")) (op2F D.item (op2F D.item (vF 1) (cF (.str "ways"))) (vF 2))) (sqF (stF 4 (lstF (consF (dsF (pcF (cF (.str "ways")) (vF 3) (pcF (cF (.str "begin")) (op2F D.item (vF 1) (cF (.str "begin"))) (pcF (cF (.str "exits")) (op2F D.item (vF 1) (cF (.str "exits"))) pnF)))) nilF))) (sqF (stF 5 (callF (one D.pairs) (consF (lcF [11] (kwF keysG (op2F D.item (vF 1) (cF (.str "ways")))) (nmF 11) yesF (tupF (consF (vF 11) (consF (op2F D.item (op2F D.item (vF 1) (cF (.str "ways"))) (vF 11)) nilF)))) nilF))) (sqF (foF (wkF enu (consF (callF (f__law_places a) (consF (vF 1) nilF)) nilF)) (tpF [6, 7]) (lb1__law_unlike a)) (sqF (stF 8 (dsF (pcF (cF (.str "ways")) (vF 5) (pcF (cF (.str "begin")) (op2F D.item (vF 1) (cF (.str "begin"))) (pcF (cF (.str "exits")) (op2F D.item (vF 1) (cF (.str "exits"))) pnF))))) (sqF (stF 9 (dsF (pcF (cF (.str "ways")) (vF 5) (pcF (cF (.str "begin")) (op2F D.item (callF (f__law_places a) (consF (vF 1) nilF)) (negF (cF (.int 1)))) (pcF (cF (.str "exits")) (op2F D.item (vF 1) (cF (.str "exits"))) pnF))))) (sqF (ifF (tvF (op2F D.ne (op2F (D.eqOwn a.Program (nfC a.Program) (f_Program___eq__ a)) (callF (f__law_made a) (consF (vF 8) nilF)) (callF (f__law_made a) (consF (vF 9) nilF))) (op2F D.eq (op2F D.item (vF 8) (cF (.str "begin"))) (op2F D.item (vF 9) (cF (.str "begin")))))) (sqF (reF (cF (.bl false))) skF) skF) (sqF (stF 10 (lcF [7] (itF (callF (f__law_places a) (consF (vF 1) nilF))) (nmF 7) (tvF (op2F (D.in_ true) (vF 7) (op2F D.item (vF 1) (cF (.str "exits"))))) (vF 7))) (sqF (ifF (tvF (op2F D.ne (vF 10) (lstF nilF))) (sqF (apF 4 (dsF (pcF (cF (.str "ways")) (op2F D.item (vF 1) (cF (.str "ways"))) (pcF (cF (.str "begin")) (op2F D.item (vF 1) (cF (.str "begin"))) (pcF (cF (.str "exits")) (op2F D.add (op2F D.item (vF 1) (cF (.str "exits"))) (cutF D.cut (vF 10) noO (soO (cF (.int 1))))) pnF))))) skF) skF) (sqF (reF (op2F D.eq (lcF [11] (itF (vF 4)) (nmF 11) (orF (tvF (op2F (D.eqOwn a.Program (nfC a.Program) (f_Program___eq__ a)) (callF (f__law_made a) (consF (vF 11) nilF)) (vF 0))) (tvF (op2F (D.eqOwn a.Program (nfC a.Program) (f_Program___eq__ a)) (vF 0) (callF (f__law_made a) (consF (vF 11) nilF))))) (vF 11)) (lstF nilF))) skF)))))))))))
def f__law_unlike (a : Ad) : List D → R D := runD 12 (g__law_unlike a)
theorem ok__law_unlike (T : Txt K mg a) : FnOk P w K mg base (L2.CX P w) 6 a.v__law_unlike a.d__law_unlike ["made", "prog"] (spD K .cl [.sb, .sb] (f__law_unlike a)) :=
  fnD_mk (N := ["made", "prog", "way", "pairs", "others", "back", "at", "place", "round_one", "round_two", "exits", "other"]) (G0 := g__law_unlike a) (ms := [.sb, .sb]) (mE := [.sb, .sb, .no, .no, .no, .no, .no, .no, .no, .no, .no, .no]) T.F__law_unlike sc__law_unlike rfl (by decide) fun cdv A outer s H E hr tk =>
    have hu := hr.units
    dss_cons (ds_set (dx_sub (Dx.fb (dx_blt (cd_sorted rfl) T.b_sorted rfl (ax_b (Dx.bo (dx_sub (dx_b rfl (.inr (.inl rfl)) rfl) (Dx.bo dx_str) hu)) ax_nil))) (Dx.bo dx_int) hu) sc__law_unlike.nd rfl (.inr rfl)) (dss_cons (ds_own (dx_bty (cd_dictP rfl) T.b_dict rfl (ax_b (Dx.fb (dx_lcK (own0 := [("other", 11)]) rfl sc__law_unlike.nd rfl kw_keys (pl_itm rfl (.inr (.inl rfl)) rfl hu) ⟨fun s H C cl fp => tg_name (J := ⟨[], [], [], false⟩) sc__law_unlike.nd rfl (.inl rfl), fun s H C cl fp => txs_one (tx_cmp (od_ne hu) (Dx.bo (dx_v rfl (.inl rfl) rfl)) (Dx.bo (dx_v rfl (.inr (.inl rfl)) rfl))), by decide, rfl, rfl⟩ (fun s H C cl fp => dx_tup (ax_s (dx_v rfl (.inl rfl) rfl) (ax_s (dx_sub (Dx.bo (dx_sub (dx_b rfl (.inr (.inl rfl)) rfl) (Dx.bo dx_str) hu)) (Dx.bo (dx_v rfl (.inl rfl) rfl)) hu) ax_nil))))) ax_nil)) sc__law_unlike.nd rfl (.inl rfl)) (dss_cons (ds_put (dx_sub (Dx.bo (dx_sub (dx_b rfl (.inr (.inl rfl)) rfl) (Dx.bo dx_str) hu)) (Dx.bo (dx_v rfl (.inr (.inl rfl)) rfl)) hu) (Dx.bo dx_str) hu rfl (.inl rfl) (.inl rfl)) (dss_share 3 (dss_cons (ds_own (dx_lst (ax_s ((dx_disp (px_cons (Dx.bo dx_str) (dx_v rfl (.inl rfl) rfl) (px_cons (Dx.bo dx_str) (dx_sub (dx_b rfl (.inr (.inl rfl)) rfl) (Dx.bo dx_str) hu) (px_cons (Dx.bo dx_str) (dx_sub (dx_b rfl (.inr (.inl rfl)) rfl) (Dx.bo dx_str) hu) px_nil)))).cl) ax_nil)) sc__law_unlike.nd rfl (.inl rfl)) (dss_cons (ds_own (dx_bty (cd_dictP rfl) T.b_dict rfl (ax_b (Dx.fb (dx_lcK (own0 := [("other", 11)]) rfl sc__law_unlike.nd rfl kw_keys (pl_itm rfl (.inr (.inl rfl)) rfl hu) ⟨fun s H C cl fp => tg_name (J := ⟨[], [], [], false⟩) sc__law_unlike.nd rfl (.inl rfl), fun s H C cl fp => txs_nil, by decide, rfl, rfl⟩ (fun s H C cl fp => dx_tup (ax_s (dx_v rfl (.inl rfl) rfl) (ax_s (dx_sub (Dx.bo (dx_sub (dx_b rfl (.inr (.inl rfl)) rfl) (Dx.bo dx_str) hu)) (Dx.bo (dx_v rfl (.inl rfl) rfl)) hu) ax_nil))))) ax_nil)) sc__law_unlike.nd rfl (.inl rfl)) (dss_cons (ds_for (m := [.sb, .sb, .sh, .sh, .ow, .ow, .no, .no, .no, .no, .no, .no]) (passes_of rfl) rfl (di_enum (ax_s ((dx_call (ok__law_places T) (hr.mono (by decide)) T.m__law_places T.F__law_places.kp T.B__law_places tk (ax_b (dx_b rfl (.inr (.inl rfl)) rfl) ax_nil)).cl) ax_nil) T.b_enumerate) (tg_tup rfl (tgs_cons sc__law_unlike.nd rfl (.inl rfl) (tgs_cons sc__law_unlike.nd rfl (.inl rfl) tgs_nil))) (dss_cons (ds_put (dx_tup (ax_s (dx_v rfl (.inl rfl) rfl) (ax_s (dx_sub (dx_b rfl (.inr (.inl rfl)) rfl) (Dx.bo dx_str) hu) ax_nil))) (Dx.bo (dx_bin od_add (Dx.bo dx_str) (Dx.bo (dx_sub (Dx.bo dx_str) (Dx.bo (dx_v rfl (.inl rfl) rfl)) hu)))) hu rfl (.inl rfl) (.inl rfl)) (dss_weak (m2 := [.sb, .sb, .sh, .sh, .ow, .ow, .no, .no, .no, .no, .no, .no]) dss_nil))) (dss_share 5 (dss_cons (ds_set ((dx_disp (px_cons (Dx.bo dx_str) (dx_v rfl (.inl rfl) rfl) (px_cons (Dx.bo dx_str) (dx_sub (dx_b rfl (.inr (.inl rfl)) rfl) (Dx.bo dx_str) hu) (px_cons (Dx.bo dx_str) (dx_sub (dx_b rfl (.inr (.inl rfl)) rfl) (Dx.bo dx_str) hu) px_nil)))).cl) sc__law_unlike.nd rfl (.inl rfl)) (dss_cons (ds_set ((dx_disp (px_cons (Dx.bo dx_str) (dx_v rfl (.inl rfl) rfl) (px_cons (Dx.bo dx_str) (dx_sub (Dx.fb (dx_call (ok__law_places T) (hr.mono (by decide)) T.m__law_places T.F__law_places.kp T.B__law_places tk (ax_b (dx_b rfl (.inr (.inl rfl)) rfl) ax_nil))) (Dx.bo (dx_neg (Dx.bo dx_int))) hu) (px_cons (Dx.bo dx_str) (dx_sub (dx_b rfl (.inr (.inl rfl)) rfl) (Dx.bo dx_str) hu) px_nil)))).cl) sc__law_unlike.nd rfl (.inl rfl)) (dss_cons (ds_if (m' := [.sb, .sb, .sh, .sh, .ow, .sh, .no, .no, .sh, .sh, .no, .no]) (tx_cmp (od_ne hu) (Dx.bo (dx_cmp (od_eqO (ok_Program___eq__ T) (hr.mono (by decide)) hu T.B_Program___eq__ T.S_Program___eq__ T.nf_Program) (Dx.bo (dx_call (ok__law_made T) (hr.mono (by decide)) T.m__law_made T.F__law_made.kp T.B__law_made tk (ax_b (Dx.bo (dx_v rfl (.inl rfl) rfl)) ax_nil))) (Dx.bo (dx_call (ok__law_made T) (hr.mono (by decide)) T.m__law_made T.F__law_made.kp T.B__law_made tk (ax_b (Dx.bo (dx_v rfl (.inl rfl) rfl)) ax_nil))))) (Dx.bo (dx_cmp (od_eq hu) (Dx.bo (dx_sub (Dx.bo (dx_v rfl (.inl rfl) rfl)) (Dx.bo dx_str) hu)) (Dx.bo (dx_sub (Dx.bo (dx_v rfl (.inl rfl) rfl)) (Dx.bo dx_str) hu))))) (dss_cons (ds_ret dx_bl) dss_nil) dss_nil) (dss_cons (ds_lc (own0 := [("place", 7)]) rfl sc__law_unlike.nd rfl rfl rfl rfl (di_seq ((dx_call (ok__law_places T) (hr.mono (by decide)) T.m__law_places T.F__law_places.kp T.B__law_places tk (ax_b (dx_b rfl (.inr (.inl rfl)) rfl) ax_nil)).cl)) ⟨fun s H C cl fp => tg_name (J := ⟨[], [], [], false⟩) sc__law_unlike.nd rfl (.inl rfl), fun s H C cl fp => txs_one (tx_cmp (od_notin hu) (Dx.bo (dx_v rfl (.inl rfl) rfl)) (Dx.bo (dx_sub (dx_b rfl (.inr (.inl rfl)) rfl) (Dx.bo dx_str) hu))), by decide, rfl, rfl⟩ (fun s H C cl fp => dx_v rfl (.inl rfl) rfl)) (dss_cons (ds_if (m' := [.sb, .sb, .sh, .sh, .ow, .sh, .no, .no, .sh, .sh, .ow, .no]) (tx_cmp (od_ne hu) (dx_b rfl (.inl rfl) rfl) (Dx.fb (dx_lst ax_nil))) (dss_cons (ds_app ((dx_disp (px_cons (Dx.bo dx_str) (dx_sub (dx_b rfl (.inr (.inl rfl)) rfl) (Dx.bo dx_str) hu) (px_cons (Dx.bo dx_str) (dx_sub (dx_b rfl (.inr (.inl rfl)) rfl) (Dx.bo dx_str) hu) (px_cons (Dx.bo dx_str) (dx_bin od_add (Dx.bo (dx_sub (dx_b rfl (.inr (.inl rfl)) rfl) (Dx.bo dx_str) hu)) (Dx.fb (dx_cut (dx_b rfl (.inl rfl) rfl) ox_no (ox_so (Dx.bo dx_int))))) px_nil)))).cl) rfl (.inl rfl) (.inl rfl)) dss_nil) dss_nil) (dss_share 4 (dss_cons (ds_ret (dx_cmp (od_eq hu) (Dx.fb (dx_lc (own0 := [("other", 11)]) rfl sc__law_unlike.nd rfl (di_seq (dx_v rfl (.inl rfl) rfl)) ⟨fun s H C cl fp => tg_name (J := ⟨[], [], [], false⟩) sc__law_unlike.nd rfl (.inl rfl), fun s H C cl fp => txs_one ((tw_or (tx_cmp (od_eqO (ok_Program___eq__ T) (hr.mono (by decide)) hu T.B_Program___eq__ T.S_Program___eq__ T.nf_Program) (Dx.bo (dx_call (ok__law_made T) (hr.mono (by decide)) T.m__law_made T.F__law_made.kp T.B__law_made takesF (ax_b (Dx.bo (dx_v rfl (.inl rfl) rfl)) ax_nil))) (dx_b rfl (.inr (.inl rfl)) rfl)) (tw_or1 (tx_cmp (od_eqO (ok_Program___eq__ T) (hr.mono (by decide)) hu T.B_Program___eq__ T.S_Program___eq__ T.nf_Program) (dx_b rfl (.inr (.inl rfl)) rfl) (Dx.bo (dx_call (ok__law_made T) (hr.mono (by decide)) T.m__law_made T.F__law_made.kp T.B__law_made takesF (ax_b (Dx.bo (dx_v rfl (.inl rfl) rfl)) ax_nil)))))).tx), by decide, rfl, rfl⟩ (fun s H C cl fp => dx_v rfl (.inl rfl) rfl))) (Dx.fb (dx_lst ax_nil)))) dss_nil))))))))))))))
abbrev s__law_opened : Stmt := top 18
theorem sc__law_opened : FnScope ["script", "k", "many", "cell"] ["script", "k", "many"] (defScope s__law_opened) := ⟨rfl, rfl, rfl, by decide +kernel, rfl, by decide +kernel, by decide +kernel⟩
theorem ok__law_opened (T : Txt K mg a) : FnOk P w K mg base (L2.CX P w) 3 a.v__law_opened a.d__law_opened ["script", "k", "many"] (spOp K (f__law_pool a)) := by
  refine T.F__law_opened.okX sc__law_opened (fun vs H Q E h => ?_) (fun cdv A outer s H vs Q E hr h => ?_)
  · obtain ⟨b, ns, k, many, d, rfl, _⟩ := h
    rfl
  · obtain ⟨b, ns, k, many, d, rfl, hS, hk, hf, hQ⟩ := h
    have hu := hr.units
    have tk : Takes (cxOf (L2.CX P w) P w K mg base ["script", "k", "many", "cell"] "_law_opened" (defScope s__law_opened) a.v__law_opened cdv A outer s H E) (fun cls d _ H => E cls d H) := takes_of rfl rfl rfl rfl
    refine ⟨_, pss_cons (ps_set (i := 3) sc__law_opened.nd rfl (Or.inl rfl) (pe_ifExp (pt_cmpR (op_neL hu) (pv 0) (pe_lst pa_nil) (nomark _)) (pe_ix ix_seq (pv 0) (pv 1) fun _ _ => rfl) pe_int))
      (pss_one (ps_ret (pe_callS (ok__law_pool T) hr rfl T.m__law_pool T.F__law_pool.kp T.B__law_pool (fun σ => passAt tk σ) (pa_cons (pv 3) (pa_cons (pv 1) (pa_cons (pv 2) pa_nil)))))), ?_⟩
    have call : ∀ (H1 : Hp) (c : Int), c = cellN ns k → Same H H1 → SqL K H1 b (ns.map V.int) →
        spD K .fr [.sb, .sb, .sb] (f__law_pool a) [.int c, .int (k : Int), .int many] H1 Q (WE (fun cls d _ H => E cls d H) [some (.ref b), some (.int (k : Int)), some (.int many), some (.int c)]) := by
      rintro H1 c rfl hSame hS1
      exact opened_call hf hQ hSame
    refine ⟨_, rfl, (by decide), fun l hl => ?_⟩
    have sm : Same H (upd H l (.lst [])) := fun x o h => by rw [upd_ne (ne_of_none h hl)]; exact h
    have hb : SqL K (upd H l (.lst [])) b (ns.map V.int) := sm.seq hS
    refine ⟨b, l, _, rfl, rfl, hb, SqL.of upd_same, _, rfl, ?_⟩
    cases ns with
    | nil =>
      refine iteF ?_
      exact ⟨_, rfl, _, rfl, _, rfl, call _ 7 rfl sm hb⟩
    | cons x r =>
      refine iteT ?_
      have hk' : k < (x :: r).length := by
        rcases hk with z | z
        · cases z
        · exact z
      exact ⟨_, rfl, _, rfl, .inl ⟨b, _, _, _, rfl, rfl, hb, atI_cellN hk', ⟨_, rfl, _, rfl, _, rfl, call _ _ rfl sm hb⟩⟩⟩
abbrev s_law : Stmt := top 27
abbrev N_law : List Str := ["script", "k", "pool", "prog", "pairs", "exits", "made", "entering", "some", "odd", "words", "word", "place", "way"]
theorem sc_law : FnScope N_law ["script"] (defScope s_law) := ⟨rfl, rfl, rfl, by decide +kernel, rfl, by decide +kernel, by decide +kernel⟩
def lb1_law (a : Ad) : SF :=
  sqF (ifF (tvF (op2F (D.inOwn a.Program (f_Program___contains__ a) false) (vF 9) (vF 6))) (sqF (reF (cF (.bl false))) skF) skF) skF
def g_turn (a : Ad) : SF :=
  sqF (stF 3 (callF (f__law_program a) (consF (vF 2) (consF (cF (.int 6)) (consF (cF (.int 4)) (consF (cF (.bl true)) nilF)))))) (sqF (stF 4 (callF (one D.pairs) (consF (lcF [13] (itF (revF (callF (one D.sorted) (consF (op2F D.item (vF 3) (cF (.str "ways"))) nilF)))) (nmF 13) yesF (tupF (consF (vF 13) (consF (op2F D.item (op2F D.item (vF 3) (cF (.str "ways"))) (vF 13)) nilF)))) nilF))) (sqF (stF 5 (revF (op2F D.item (vF 3) (cF (.str "exits"))))) (sqF (stF 6 (mkF a.Program (f_Program___init__ a) (consF (vF 4) (consF (op2F D.item (vF 3) (cF (.str "begin"))) (consF (vF 5) nilF))))) (sqF (putF' 4 (cF (.str "zz")) (tupF (consF (cF (.str "a")) (consF (cF (.str "b")) nilF)))) (sqF (apF 5 (cF (.str "qq"))) (sqF (ifF (orF (notF (tvF (callF (f__law_right a) (consF (vF 6) (consF (vF 3) nilF))))) (orF (notF (tvF (op2F (D.eqOwn a.Program (nfC a.Program) (f_Program___eq__ a)) (vF 6) (callF (f__law_made a) (consF (vF 3) nilF))))) (tvF (op2F (D.eqOwn a.Program (nfC a.Program) (f_Program___eq__ a)) (vF 6) (cF (.int 5)))))) (sqF (reF (cF (.bl false))) skF) skF) (sqF (ifF (notF (tvF (callF (f__law_unlike a) (consF (vF 6) (consF (vF 3) nilF))))) (sqF (reF (cF (.bl false))) skF) skF) (sqF (spF 7 8 (lcF [12] (itF (callF (f__law_places a) (consF (vF 3) nilF))) (nmF 12) yesF (methF a.Program "entering" (f_Program_entering a) (vF 6) (consF (vF 12) nilF))) (consF (methF a.Program "ways" (f_Program_ways a) (vF 6) nilF) (consF (methF a.Program "places" (f_Program_places a) (vF 6) nilF) (consF (methF a.Program "exits" (f_Program_exits a) (vF 6) nilF) (consF (methF a.Program "leaving" (f_Program_leaving a) (vF 6) (consF (op2F D.item (vF 3) (cF (.str "begin"))) nilF)) nilF))))) (sqF (ifF (notF (tvF (callF (f__law_right a) (consF (vF 6) (consF (vF 3) nilF))))) (sqF (reF (cF (.bl false))) skF) skF) (sqF (foF (itF (lstF (consF (cF .non) (consF (cF (.int 5)) (consF (cF (.str "zzzz")) (consF (tupF (consF (cF (.str "p")) nilF)) (consF (lstF (consF (cF (.str "p")) nilF)) (consF (cF (.str "")) nilF)))))))) (nmF 9) (lb1_law a)) skF))))))))))
def g_tail (a : Ad) : SF :=
  sqF (stF 10 (lcF [11] (itF (lstF (consF (cF (.str "a")) (consF (cF (.str "abcdefgh")) (consF (cF (.str "")) (consF (cF (.str "A")) (consF (cF (.str "abcdefghi")) (consF (cF (.str "a b")) (consF (cF (.str "1")) (consF (cF .non) (consF (cF (.int 5)) (consF (lstF (consF (cF (.str "a")) nilF)) nilF)))))))))))) (nmF 11) (tvF (callF (f_is_word a) (consF (vF 11) nilF))) (vF 11))) (sqF (reF (op2F D.eq (vF 10) (lstF (consF (cF (.str "a")) (consF (cF (.str "abcdefgh")) nilF))))) skF)
theorem law_rest (T : Txt K mg a) (cdv : Value) (A : Around) (outer : List Env) (s : Shared) (H : Hp) (E : XK) (hr : Room 6 (A.deeper (envOfC "law" (defScope s_law) s.heap.objs.size a.v_law cdv))) : Dss (cxOf CX0 P w K mg base N_law "law" (defScope s_law) a.v_law cdv A outer s H E).nox WF (turnJ 14) (turnM 14) (turnM 14) (forRest s_law) (g_turn a) :=
    have hu := hr.units
    dss_cons (ds_set (dx_call (ok__law_program T) (hr.mono (by decide)) T.m__law_program T.F__law_program.kp T.B__law_program takesF (ax_s (dx_v rfl (.inl rfl) rfl) (ax_b (Dx.bo dx_int) (ax_b (Dx.bo dx_int) (ax_b (Dx.bo dx_bl) ax_nil))))) sc_law.nd rfl (.inr rfl)) (dss_cons (ds_own (dx_bty (cd_dictP rfl) T.b_dict rfl (ax_b (Dx.fb (dx_lc (own0 := [("way", 13)]) rfl sc_law.nd rfl (di_seq ((dx_rev (Dx.fb (dx_blt (cd_sorted rfl) T.b_sorted rfl (ax_b (Dx.bo (dx_sub (Dx.bo (dx_v rfl (.inr (.inl rfl)) rfl)) (Dx.bo dx_str) hu)) ax_nil)))).cl)) ⟨fun s H C cl fp => tg_name (J := ⟨[], [], [], false⟩) sc_law.nd rfl (.inl rfl), fun s H C cl fp => txs_nil, by decide, rfl, rfl⟩ (fun s H C cl fp => dx_tup (ax_s (dx_v rfl (.inl rfl) rfl) (ax_s (dx_sub (Dx.bo (dx_sub (Dx.bo (dx_v rfl (.inr (.inl rfl)) rfl)) (Dx.bo dx_str) hu)) (Dx.bo (dx_v rfl (.inl rfl) rfl)) hu) ax_nil))))) ax_nil)) sc_law.nd rfl (.inl rfl)) (dss_cons (ds_own (dx_rev (Dx.bo (dx_sub (Dx.bo (dx_v rfl (.inr (.inl rfl)) rfl)) (Dx.bo dx_str) hu))) sc_law.nd rfl (.inl rfl)) (dss_cons (ds_set (dx_make T.K_Program (ok_Program___init__ T) (hr.mono (by decide)) T.mg_Program T.B_Program___init__ takesF (ax_b (dx_b rfl (.inl rfl) rfl) (ax_s (dx_sub (Dx.bo (dx_v rfl (.inr (.inl rfl)) rfl)) (Dx.bo dx_str) hu) (ax_b (dx_b rfl (.inl rfl) rfl) ax_nil)))) sc_law.nd rfl (.inr rfl)) (dss_cons (ds_put (dx_tup (ax_s dx_str (ax_s dx_str ax_nil))) (Dx.bo dx_str) hu rfl (.inl rfl) (.inl rfl)) (dss_cons (ds_app dx_str rfl (.inl rfl) (.inl rfl)) (dss_cons (ds_if (m' := [.no, .sh, .sh, .sh, .ow, .ow, .sh, .no, .no, .no, .no, .no, .no, .no]) ((tw_or (tx_not (tx_v (Dx.bo (dx_call (ok__law_right T) (hr.mono (by decide)) T.m__law_right T.F__law_right.kp T.B__law_right takesF (ax_b (Dx.bo (dx_v rfl (.inr (.inl rfl)) rfl)) (ax_b (Dx.bo (dx_v rfl (.inr (.inl rfl)) rfl)) ax_nil)))))) (tw_or (tx_not (tx_cmp (od_eqO (ok_Program___eq__ T) (hr.mono (by decide)) hu T.B_Program___eq__ T.S_Program___eq__ T.nf_Program) (Dx.bo (dx_v rfl (.inr (.inl rfl)) rfl)) (Dx.bo (dx_call (ok__law_made T) (hr.mono (by decide)) T.m__law_made T.F__law_made.kp T.B__law_made takesF (ax_b (Dx.bo (dx_v rfl (.inr (.inl rfl)) rfl)) ax_nil))))) (tw_or1 (tx_cmp (od_eqO (ok_Program___eq__ T) (hr.mono (by decide)) hu T.B_Program___eq__ T.S_Program___eq__ T.nf_Program) (Dx.bo (dx_v rfl (.inr (.inl rfl)) rfl)) (Dx.bo dx_int))))).tx) (dss_cons (ds_ret dx_bl) dss_nil) dss_nil) (dss_cons (ds_if (m' := [.no, .sh, .sh, .sh, .ow, .ow, .sh, .no, .no, .no, .no, .no, .no, .no]) (tx_not (tx_v (Dx.bo (dx_call (ok__law_unlike T) (hr.mono (by decide)) T.m__law_unlike T.F__law_unlike.kp T.B__law_unlike takesF (ax_b (Dx.bo (dx_v rfl (.inr (.inl rfl)) rfl)) (ax_b (Dx.bo (dx_v rfl (.inr (.inl rfl)) rfl)) ax_nil)))))) (dss_cons (ds_ret dx_bl) dss_nil) dss_nil) (dss_spoil (own0 := [("place", 12)]) rfl (PassesOwn.never) sc_law.nd rfl rfl rfl rfl (by decide) rfl rfl (di_seq ((dx_call (ok__law_places T) (hr.mono (by decide)) T.m__law_places T.F__law_places.kp T.B__law_places takesF (ax_b (Dx.bo (dx_v rfl (.inr (.inl rfl)) rfl)) ax_nil)).cl)) ⟨fun s H C cl fp => tg_name (J := ⟨[], [], [], false⟩) sc_law.nd rfl (.inl rfl), fun s H C cl fp => txs_nil, by decide, rfl, rfl⟩ (fun s H C cl fp => dx_meth (Dx.bo (dx_v rfl (.inr (.inl rfl)) rfl)) kd_b (ok_Program_entering T) T.C_Program T.Me_Program_entering (hr.mono (by decide)) T.B_Program_entering takesF (ax_b (Dx.bo (dx_v rfl (.inl rfl) rfl)) ax_nil)) (kx_f (dx_meth0 (Dx.bo (dx_v rfl (.inr (.inl rfl)) rfl)) kd_b (ok_Program_ways T) T.C_Program T.Me_Program_ways (hr.mono (by decide)) T.B_Program_ways takesF) (kx_f (dx_meth0 (Dx.bo (dx_v rfl (.inr (.inl rfl)) rfl)) kd_b (ok_Program_places T) T.C_Program T.Me_Program_places (hr.mono (by decide)) T.B_Program_places takesF) (kx_f (dx_meth0 (Dx.bo (dx_v rfl (.inr (.inl rfl)) rfl)) kd_b (ok_Program_exits T) T.C_Program T.Me_Program_exits (hr.mono (by decide)) T.B_Program_exits takesF) (kx_f (dx_meth (Dx.bo (dx_v rfl (.inr (.inl rfl)) rfl)) kd_b (ok_Program_leaving T) T.C_Program T.Me_Program_leaving (hr.mono (by decide)) T.B_Program_leaving takesF (ax_b (Dx.bo (dx_sub (Dx.bo (dx_v rfl (.inr (.inl rfl)) rfl)) (Dx.bo dx_str) hu)) ax_nil)) kx_nil)))) rfl (dss_cons (ds_if (m' := [.no, .sh, .sh, .sh, .ow, .ow, .sh, .no, .no, .no, .no, .no, .no, .no]) (tx_not (tx_v (Dx.bo (dx_call (ok__law_right T) (hr.mono (by decide)) T.m__law_right T.F__law_right.kp T.B__law_right takesF (ax_b (Dx.bo (dx_v rfl (.inr (.inl rfl)) rfl)) (ax_b (Dx.bo (dx_v rfl (.inr (.inl rfl)) rfl)) ax_nil)))))) (dss_cons (ds_ret dx_bl) dss_nil) dss_nil) (dss_cons (ds_for (m := [.no, .sh, .sh, .sh, .ow, .ow, .sh, .no, .no, .no, .no, .no, .no, .no]) (PassesOwn.never) rfl (di_seq ((dx_lst (ax_s dx_non (ax_s dx_int (ax_s dx_str (ax_s (dx_tup (ax_s dx_str ax_nil)) (ax_s ((dx_lst (ax_s dx_str ax_nil)).cl) (ax_s dx_str ax_nil))))))).cl)) (tg_name sc_law.nd rfl (.inl rfl)) (dss_cons (ds_if (m' := [.no, .sh, .sh, .sh, .ow, .ow, .sh, .no, .no, .sh, .no, .no, .no, .no]) (tx_cmp (od_inO (ok_Program___contains__ T) (hr.mono (by decide)) T.B_Program___contains__ T.S_Program___contains__) (Dx.bo (dx_v rfl (.inl rfl) rfl)) (Dx.bo (dx_v rfl (.inr (.inl rfl)) rfl))) (dss_cons (ds_ret dx_bl) dss_nil) dss_nil) (dss_weak (m2 := [.no, .sh, .sh, .sh, .ow, .ow, .sh, .no, .no, .no, .no, .no, .no, .no]) dss_nil))) (dss_weak (m2 := [.no, .sh, .sh, .no, .no, .no, .no, .no, .no, .no, .no, .no, .no, .no]) dss_nil)))))))))))
theorem law_tail (T : Txt K mg a) (cdv : Value) (A : Around) (outer : List Env) (s : Shared) (H : Hp) (E : XK) (hr : Room 6 (A.deeper (envOfC "law" (defScope s_law) s.heap.objs.size a.v_law cdv))) : Dss (cxOf CX0 P w K mg base N_law "law" (defScope s_law) a.v_law cdv A outer s H E).nox WF { mb := [], mr := mrOf 14 } (mrOf 14) [.no, .no, .no, .no, .no, .no, .no, .no, .no, .no, .no, .no, .no, .no] (forTail s_law) (g_tail a) :=
    have hu := hr.units
    dss_cons (ds_lc (own0 := [("word", 11)]) rfl sc_law.nd rfl rfl rfl rfl (di_seq ((dx_lst (ax_s dx_str (ax_s dx_str (ax_s dx_str (ax_s dx_str (ax_s dx_str (ax_s dx_str (ax_s dx_str (ax_s dx_non (ax_s dx_int (ax_s ((dx_lst (ax_s dx_str ax_nil)).cl) ax_nil))))))))))).cl)) ⟨fun s H C cl fp => tg_name (J := ⟨[], [], [], false⟩) sc_law.nd rfl (.inl rfl), fun s H C cl fp => txs_one (tx_v (Dx.bo (dx_call (ok_is_word T) (hr.mono (by decide)) T.m_is_word T.F_is_word.kp T.B_is_word takesF (ax_b (Dx.bo (dx_v rfl (.inl rfl) rfl)) ax_nil)))), by decide, rfl, rfl⟩ (fun s H C cl fp => dx_v rfl (.inl rfl) rfl)) (dss_cons (ds_ret (dx_cmp (od_eq hu) (dx_b rfl (.inl rfl) rfl) (Dx.fb (dx_lst (ax_s dx_str (ax_s dx_str ax_nil)))))) dss_nil)
theorem ok_law (T : Txt K mg a) (hpool : ∀ (c : Int) (k : Nat), k ≤ 63 → ∃ nums : List Int, f__law_pool a [.int c, .int (k : Int), .int 50] none = .ok (poolD nums) none ∧ ∃ ρ' ps', g_turn a (turnR 14 k) (some ⟨nums, 0⟩) = .ok (.nx ρ') ps')
    (hend : ∃ ρ' ps', g_tail a (List.replicate 14 none) none = .ok (.rt (.bl true) ρ') ps') : FnOk P w K mg base CX0 7 a.v_law a.d_law ["script"] (spLaw K) := by
  refine T.F_law.ok sc_law (fun vs H Q E h => ?_) (fun cdv A outer s0 H vs Q E hr h => ?_)
  · obtain ⟨b, ns, rfl, _⟩ := h
    rfl
  · obtain ⟨b, ns, rfl, hS, hO, hlen, hQ⟩ := h
    refine ⟨_, pss_cons (ps_for PassesOwn.never rfl (pi_range1 rfl T.b_range (pa_cons (pe_callB (call_max2 rfl) rfl T.b_max (by decide +kernel) (pa_cons pe_int (pa_cons (pe_callB (call_min2 rfl) rfl T.b_min (by decide +kernel) (pa_cons (pe_callB call_len rfl T.b_len PySem.boot_len (pa_cons (pv 0) pa_nil)) (pa_cons pe_int pa_nil))) pa_nil))) pa_nil))
      (pg_name (i := 1) sc_law.nd rfl (Or.inl rfl)) (pss_cons (ps_set (i := 2) sc_law.nd rfl (.inl rfl) (pe_callS (ok__law_opened T) (hr.mono (by decide)) rfl T.m__law_opened T.F__law_opened.kp T.B__law_opened (fun σ => passAt takesF σ) (pa_cons (pv 0) (pa_cons (pv 1) (pa_cons pe_int pa_nil))))) (pss_c _ (forRest s_law)))) (pss_c _ (forTail s_law)), ?_⟩
    refine ⟨_, rfl, _, _, rfl, .inl ⟨_, hS, rfl⟩, _, _, rfl, _, _, rfl, _, rfl, ?_, ?_, for_range (lo := 0) (turnP K 14 b ns) ⟨rfl, rfl, onlyFz hO hS⟩ ?_ ?_⟩
    · rw [List.length_map]; split <;> split <;> omega
    · rw [List.length_map]; split <;> split <;> omega
    · rintro i σ H1 hi ⟨p1, p2, p3⟩
      have hi' : ns = [] ∨ i < ns.length := by
        cases ns with
        | nil => exact .inl rfl
        | cons x r =>
          right
          rw [List.length_map, List.length_cons] at hi
          rw [List.length_cons]
          split at hi <;> split at hi <;> omega
      have hk63 : i ≤ 63 := by
        rw [List.length_map] at hi
        split at hi <;> split at hi <;> omega
      obtain ⟨nums, e1, e2⟩ := hpool (cellN ns i) i hk63
      have g0 : (σ.set 1 (some (V.int (0 + (i : Int)))))[0]? = some (some (.ref b)) := by rw [List.getElem?_set_ne (by decide)]; exact p2
      have g1 : (σ.set 1 (some (V.int (0 + (i : Int)))))[1]? = some (some (.int (i : Int))) := by rw [List.getElem?_set_self (by rw [p1]; decide), Int.zero_add]
      refine ⟨_, g0, _, g1, b, ns, i, 50, poolD nums, rfl, p3.sq, hi', e1, fun v H2 q => ?_⟩
      obtain ⟨p, q0, rfl, k1, k2, k3, k4, k5⟩ := pool_at q
      refine turn_run (n := 14) rfl (by decide) (law_rest (P := P) (w := w) (base := base) T cdv A outer s0 H E hr) e2 ?_ ?_ ?_ ?_ (p3.same k2) k4 k5 k3.symm fun σ' H' z => z
      · rw [List.length_set, List.length_set]; exact p1
      · rw [List.getElem?_set_ne (by decide)]; exact g0
      · rw [List.getElem?_set_ne (by decide)]; exact g1
      · exact List.getElem?_set_self (by rw [List.length_set, p1]; decide)
    · rintro σ H1 ⟨p1, p2, p3⟩
      have z1 := law_tail (P := P) (w := w) (base := base) T cdv A outer s0 H E hr
      have z2 : ∀ H', ({ nx := fun _ H' => Q .non H', rt := Q } : Ends).rt (.bl true) H' := hQ
      generalize forTail s_law = tl at z1 ⊢
      exact tail_run (H := H1) (n := 14) z1 hend p1 z2
end
end K01
set_option Elab.async false
set_option linter.all false
set_option maxRecDepth 100000
set_option maxHeartbeats 2000000
/-! M1: the D-functions, evaluated. -/
namespace DL
open PySem L2
/-- what follows an outcome -/
def Res.bd {α β : Type} (r : Res α) (f : α → Ps → Res β) : Res β := match r with
  | .und => .und
  | .exc e p => .exc e p
  | .ok a p => f a p
@[simp] theorem bd_ok {α β : Type} (a : α) (p : Ps) (f : α → Ps → Res β) : Res.bd (.ok a p) f = f a p := rfl
@[simp] theorem bd_und {α β : Type} (f : α → Ps → Res β) : Res.bd (.und : Res α) f = .und := rfl
theorem ap_bind {α β : Type} (x : R α) (f : α → R β) (ps : Ps) : (x >>= f) ps = Res.bd (x ps) (fun a p => f a p) := by
  show R.bnd x f ps = _
  unfold R.bnd Res.bd
  cases x ps <;> rfl
@[simp] theorem ap_pure {α : Type} (a : α) (ps : Ps) : (pure a : R α) ps = .ok a ps := rfl
@[simp] theorem ap_und {α : Type} (ps : Ps) : (R.und : R α) ps = .und := rfl
@[simp] theorem ap_some {α : Type} (a : α) (ps : Ps) : ofO (some a) ps = .ok a ps := rfl
@[simp] theorem ap_none {α : Type} (ps : Ps) : ofO (none : Option α) ps = .und := rfl
@[simp] theorem ap_ite {α : Type} (c : Prop) [Decidable c] (x y : R α) (ps : Ps) : (if c then x else y) ps = if c then x ps else y ps := by split <;> rfl
@[simp] theorem a_cF (d : D) (ρ : Rho) (ps : Ps) : cF d ρ ps = .ok d ps := rfl
@[simp] theorem a_vF (i : Nat) (ρ : Rho) (ps : Ps) : vF i ρ ps = ofO (ρ[i]?.join) ps := rfl
@[simp] theorem a_op2 (F : D → D → R D) (f1 f2 : FE) (ρ : Rho) (ps : Ps) : op2F F f1 f2 ρ ps = Res.bd (f1 ρ ps) fun a p => Res.bd (f2 ρ p) fun b q => F a b q := by
  unfold op2F; simp only [ap_bind]
@[simp] theorem a_nil (ρ : Rho) (ps : Ps) : nilF ρ ps = .ok [] ps := rfl
@[simp] theorem a_cons (f : FE) (fs : FA) (ρ : Rho) (ps : Ps) : consF f fs ρ ps = Res.bd (f ρ ps) fun d p => Res.bd (fs ρ p) fun ds q => .ok (d :: ds) q := by
  unfold consF; simp only [ap_bind, ap_pure]
@[simp] theorem a_call (F : List D → R D) (fs : FA) (ρ : Rho) (ps : Ps) : callF F fs ρ ps = Res.bd (fs ρ ps) fun ds p => F ds p := by
  unfold callF; simp only [ap_bind]
@[simp] theorem a_one (F : D → R D) (d : D) : one F [d] = F d := rfl
@[simp] theorem a_two (F : D → D → R D) (d e : D) : two F [d, e] = F d e := rfl
@[simp] theorem a_skF (ρ : Rho) (ps : Ps) : skF ρ ps = .ok (.nx ρ) ps := rfl
@[simp] theorem a_sqF (g1 g2 : SF) (ρ : Rho) (ps : Ps) : sqF g1 g2 ρ ps = Res.bd (g1 ρ ps) fun fl p => thF g2 fl p := by
  unfold sqF; simp only [ap_bind]
@[simp] theorem a_th_nx (g : SF) (ρ : Rho) : thF g (.nx ρ) = g ρ := rfl
@[simp] theorem a_th_rt (g : SF) (d : D) (ρ : Rho) : thF g (.rt d ρ) = pure (.rt d ρ) := rfl
@[simp] theorem a_stF (i : Nat) (f : FE) (ρ : Rho) (ps : Ps) : stF i f ρ ps = Res.bd (f ρ ps) fun d p => .ok (.nx (ρ.set i (some d))) p := by
  unfold stF; simp only [ap_bind, ap_pure]
@[simp] theorem a_exF (f : FE) (ρ : Rho) (ps : Ps) : exF f ρ ps = Res.bd (f ρ ps) fun d p => .ok (.nx ρ) p := by
  unfold exF; simp only [ap_bind, ap_pure]
@[simp] theorem a_reF (f : FE) (ρ : Rho) (ps : Ps) : reF f ρ ps = Res.bd (f ρ ps) fun d p => .ok (.rt d ρ) p := by
  unfold reF; simp only [ap_bind, ap_pure]
@[simp] theorem a_apF (i : Nat) (f : FE) (ρ : Rho) (ps : Ps) : apF i f ρ ps = Res.bd (lstAt ρ i ps) fun ds p => Res.bd (f ρ p) fun d q => if lenC (ds.length + 1) = true then .ok (.nx (ρ.set i (some (.lst (ds ++ [d]))))) q else .und := by
  unfold apF; simp only [ap_bind, ap_ite, ap_pure, ap_und]
@[simp] theorem a_ifF (t : FT) (g1 g2 : SF) (ρ : Rho) (ps : Ps) : ifF t g1 g2 ρ ps = Res.bd (t ρ ps) fun b p => if b = true then g1 ρ p else g2 ρ p := by
  unfold ifF; simp only [ap_bind, ap_ite]
@[simp] theorem a_lstF (fs : FA) (ρ : Rho) (ps : Ps) : lstF fs ρ ps = Res.bd (fs ρ ps) fun ds p => if lenC ds.length = true then .ok (.lst ds) p else .und := by
  unfold lstF; simp only [ap_bind, ap_ite, ap_pure, ap_und]
@[simp] theorem a_tupF (fs : FA) (ρ : Rho) (ps : Ps) : tupF fs ρ ps = Res.bd (fs ρ ps) fun ds p => if lenC ds.length = true then .ok (.tup ds) p else .und := by
  unfold tupF; simp only [ap_bind, ap_ite, ap_pure, ap_und]
@[simp] theorem a_foF (fs : FA) (F : D → Rho → R Rho) (body : SF) (ρ : Rho) (ps : Ps) : foF fs F body ρ ps = Res.bd (fs ρ ps) fun ds p => foN F body ds ρ p := by
  unfold foF; simp only [ap_bind]
@[simp] theorem a_wkF (G : List D → R (List D)) (fs : FA) (ρ : Rho) (ps : Ps) : wkF G fs ρ ps = Res.bd (fs ρ ps) fun ds p => G ds p := by
  unfold wkF; simp only [ap_bind]
@[simp] theorem a_nmF (i : Nat) (d : D) (ρ : Rho) (ps : Ps) : nmF i d ρ ps = .ok (ρ.set i (some d)) ps := rfl
@[simp] theorem a_runD (n : Nat) (G : SF) (ds : List D) (ps : Ps) : runD n G ds ps = Res.bd (G (padR n ds) ps) fun fl p => finD fl p := by
  unfold runD; simp only [ap_bind]
@[simp] theorem a_runF (n : Nat) (G : SF) (ds : List D) (ps : Ps) : runF n G ds ps = Res.bd (G (padR n ds) ps) fun fl p => finF fl p := by
  unfold runF; simp only [ap_bind]
@[simp] theorem a_finD (d : D) (ρ : Rho) : finD (.rt d ρ) = pure d := rfl
@[simp] theorem a_finDn (ρ : Rho) : finD (.nx ρ) = pure .non := rfl
@[simp] theorem a_finF (d : D) (ρ : Rho) : finF (.rt d ρ) = pure d := rfl
theorem foN_run {F : D → Rho → R Rho} {body : SF} (P : List D → Rho → Ps → Prop) (hs : ∀ d r ρ ps, P (d :: r) ρ ps → ∃ ρ1 fl ρ' ps', F d ρ ps = .ok ρ1 ps ∧ body ρ1 ps = .ok fl ps' ∧ (fl = .nx ρ' ∨ fl = .ct ρ') ∧ P r ρ' ps') :
    ∀ ds ρ ps, P ds ρ ps → ∃ ρ' ps', foN F body ds ρ ps = .ok (.nx ρ') ps' ∧ P [] ρ' ps'
  | [], ρ, ps, h => ⟨ρ, ps, rfl, h⟩
  | d :: r, ρ, ps, h => by
    obtain ⟨ρ1, fl, ρ', ps', h1, h2, h3, h4⟩ := hs d r ρ ps h
    obtain ⟨ρ2, ps2, h5, h6⟩ := foN_run P hs r ρ' ps' h4
    refine ⟨ρ2, ps2, ?_, h6⟩
    show (F d ρ >>= fun ρ1 => body ρ1 >>= fun fl => lpK (foN F body r) fl) ps = _
    rw [ap_bind, h1, bd_ok, ap_bind, h2, bd_ok]
    rcases h3 with rfl | rfl <;> exact h5
@[simp] theorem a_len_l (ds : List D) : D.len (.lst ds) = pure (.int ds.length) := rfl
@[simp] theorem a_len_t (ds : List D) : D.len (.tup ds) = pure (.int ds.length) := rfl
@[simp] theorem a_len_d (ds : List (Key × D)) : D.len (.dk ds) = pure (.int ds.length) := rfl
@[simp] theorem a_len_s (z : Str) (ps : Ps) : D.len (.str z) ps = if lenC z.length = true then .ok (.int z.length) ps else .und := by
  show (if lenC z.length = true then (pure (.int z.length) : R D) else R.und) ps = _
  split <;> rfl
@[simp] theorem a_toInt (i : Int) : D.toInt (.int i) = pure (.int i) := rfl
@[simp] theorem a_max2 (i j : Int) : D.max2 (.int i) (.int j) = pure (.int (if j > i then j else i)) := rfl
@[simp] theorem a_min2 (i j : Int) : D.min2 (.int i) (.int j) = pure (.int (if j < i then j else i)) := rfl
@[simp] theorem a_ints (C : Int → Int → Bool) (g : Int → Int → Int) (i j : Int) (ps : Ps) : D.ints C g (.int i) (.int j) ps = if C i j = true then .ok (.int (g i j)) ps else .und := by
  show (if C i j = true then (pure (.int (g i j)) : R D) else R.und) ps = _
  split <;> rfl
@[simp] theorem a_add_i (i j : Int) : D.add (.int i) (.int j) = pure (.int (i + j)) := rfl
@[simp] theorem a_add_l (x y : List D) (ps : Ps) : D.add (.lst x) (.lst y) ps = if lenC (x.length + y.length) = true then .ok (.lst (x ++ y)) ps else .und := by
  show (if lenC (x.length + y.length) = true then (pure (.lst (x ++ y)) : R D) else R.und) ps = _
  split <;> rfl
@[simp] theorem a_add_s (x y : Str) (ps : Ps) : D.add (.str x) (.str y) ps = if lenC (x.length + y.length) = true then .ok (.str (x ++ y)) ps else .und := by
  show (if lenC (x.length + y.length) = true then (pure (.str (x ++ y)) : R D) else R.und) ps = _
  split <;> rfl
@[simp] theorem a_cmp (g : Int → Int → Bool) (i j : Int) : D.cmp g (.int i) (.int j) = pure (.bl (g i j)) := rfl
@[simp] theorem a_asB (b : Bool) : asB (.bl b) = pure b := rfl
@[simp] theorem a_asI (b : Int) : asI (.int b) = pure b := rfl
@[simp] theorem a_negF (f : FE) (ρ : Rho) (ps : Ps) : negF f ρ ps = Res.bd (f ρ ps) fun d p => Res.bd (asI d p) fun i q => .ok (.int (-i)) q := by
  unfold negF; simp only [ap_bind, ap_pure]
@[simp] theorem a_item_l (ds : List D) (i : Int) : D.item (.lst ds) (.int i) = ofO (atI ds i) := rfl
@[simp] theorem a_item_t (ds : List D) (i : Int) : D.item (.tup ds) (.int i) = ofO (atI ds i) := rfl
@[simp] theorem a_item_d (kvs : List (Key × D)) (s : Str) : D.item (.dk kvs) (.str s) = ofO (findD kvs (.inr s)) := rfl
def lsO : Option D → R (List D)
  | some (.lst ds) => pure ds
  | _ => R.und
@[simp] theorem a_lstAt (ρ : Rho) (i : Nat) : lstAt ρ i = lsO (ρ[i]?.join) := by unfold lstAt lsO; rfl
@[simp] theorem a_lsO (ds : List D) : lsO (some (.lst ds)) = pure ds := rfl
@[simp] theorem a_rep (xs : List D) (k : Int) (ps : Ps) : D.rep (.lst xs) (.int k) ps = if (decide (-1000000 ≤ k) && decide (k ≤ 1000000) && lenC (xs.length * k.toNat)) = true then .ok (.lst (List.replicate k.toNat xs).flatten) ps else .und := by
  show (if (decide (-1000000 ≤ k) && decide (k ≤ 1000000) && lenC (xs.length * k.toNat)) = true then (pure (.lst (List.replicate k.toNat xs).flatten) : R D) else R.und) ps = _
  split <;> rfl
@[simp] theorem a_rg1 (j : Int) (ps : Ps) : rg1 [.int j] ps = if rgC j = true then .ok (rngD 0 j.toNat) ps else .und := by
  show (if rgC j = true then (pure (rngD 0 j.toNat) : R (List D)) else R.und) ps = _
  split <;> rfl
@[simp] theorem a_rg2 (i j : Int) (ps : Ps) : rg2 [.int i, .int j] ps = if (rgC i && rgC j) = true then .ok (rngD i (j - i).toNat) ps else .und := by
  show (if (rgC i && rgC j) = true then (pure (rngD i (j - i).toNat) : R (List D)) else R.und) ps = _
  split <;> rfl
@[simp] theorem a_tvF (f : FE) (ρ : Rho) (ps : Ps) : tvF f ρ ps = Res.bd (f ρ ps) fun d p => asB d p := by
  unfold tvF; simp only [ap_bind]
@[simp] theorem a_notF (t : FT) (ρ : Rho) (ps : Ps) : notF t ρ ps = Res.bd (t ρ ps) fun b p => .ok (!b) p := by
  unfold notF; simp only [ap_bind, ap_pure]
@[simp] theorem a_andF (t1 t2 : FT) (ρ : Rho) (ps : Ps) : andF t1 t2 ρ ps = Res.bd (t1 ρ ps) fun b p => if b = true then t2 ρ p else .ok false p := by
  unfold andF; simp only [ap_bind, ap_ite, ap_pure]
@[simp] theorem a_orF (t1 t2 : FT) (ρ : Rho) (ps : Ps) : orF t1 t2 ρ ps = Res.bd (t1 ρ ps) fun b p => if b = true then .ok true p else t2 ρ p := by
  unfold orF; simp only [ap_bind, ap_ite, ap_pure]
@[simp] theorem a_andV (t1 t2 : FE) (ρ : Rho) (ps : Ps) : andV t1 t2 ρ ps = Res.bd (t1 ρ ps) fun d p => Res.bd (asB d p) fun b p => if b = true then t2 ρ p else .ok (.bl false) p := by
  unfold andV; simp only [ap_bind, ap_ite, ap_pure]
@[simp] theorem a_notV (t1 : FE) (ρ : Rho) (ps : Ps) : notV t1 ρ ps = Res.bd (t1 ρ ps) fun d p => Res.bd (asB d p) fun b p => .ok (.bl (!b)) p := by
  unfold notV; simp only [ap_bind, ap_pure]
@[simp] theorem a_chF (F F' : D → D → R D) (f1 f2 f3 : FE) (ρ : Rho) (ps : Ps) : chF F F' f1 f2 f3 ρ ps = Res.bd (f1 ρ ps) fun x p => Res.bd (f2 ρ p) fun y p => Res.bd (F x y p) fun z p => Res.bd (asB z p) fun k p => if k = true then (Res.bd (f3 ρ p) fun w p => Res.bd (F' y w p) fun z p => asB z p) else .ok false p := by
  unfold chF; simp only [ap_bind, ap_ite, ap_pure]
@[simp] theorem a_yesF (ρ : Rho) (ps : Ps) : yesF ρ ps = .ok true ps := rfl
@[simp] theorem a_ifeF (t : FT) (f1 f2 : FE) (ρ : Rho) (ps : Ps) : ifeF t f1 f2 ρ ps = Res.bd (t ρ ps) fun b p => if b = true then f1 ρ p else f2 ρ p := by
  unfold ifeF; simp only [ap_bind, ap_ite]
@[simp] theorem a_fldF (C : Addr) (nm : Str) (f : FE) (ρ : Rho) (ps : Ps) : fldF C nm f ρ ps = Res.bd (f ρ ps) fun d p => if D.insOf C d = true then D.fld nm d p else .und := by
  unfold fldF; simp only [ap_bind, ap_ite, ap_und]
@[simp] theorem a_insOf (C : Addr) (fs : List (Str × D)) : D.insOf C (.ins C fs) = true := beq_self_eq_true C
@[simp] theorem a_methF (C : Addr) (nm : Str) (F : List D → R D) (fo : FE) (fs : FA) (ρ : Rho) (ps : Ps) : methF C nm F fo fs ρ ps = Res.bd (fo ρ ps) fun d p => if (D.insOf C d && D.noF nm d) = true then (Res.bd (fs ρ p) fun ds p => F (d :: ds) p) else .und := by
  unfold methF; simp [ap_bind, ap_ite, ap_und]
@[simp] theorem a_subOF (C : Addr) (F : List D → R D) (fo f : FE) (ρ : Rho) (ps : Ps) : subOF C F fo f ρ ps = Res.bd (fo ρ ps) fun d p => Res.bd (f ρ p) fun i p => if D.insOf C d = true then F [d, i] p else .und := by
  unfold subOF; simp only [ap_bind, ap_ite, ap_und]
@[simp] theorem a_mkF (C : Addr) (F : List D → R (List (Str × D))) (fs : FA) (ρ : Rho) (ps : Ps) : mkF C F fs ρ ps = Res.bd (fs ρ ps) fun ds p => Res.bd (F ds p) fun fl p => .ok (.ins C fl) p := by
  unfold mkF; simp only [ap_bind, ap_pure]
@[simp] theorem a_noX {α : Type} (x : R α) (ps : Ps) : noX x ps = match x ps with | .ok a p => .ok a p | _ => .und := rfl
@[simp] theorem a_propF (C : Addr) (F : List D → R D) (fo : FE) (ρ : Rho) (ps : Ps) : propF C F fo ρ ps = Res.bd (fo ρ ps) fun d p => if D.insOf C d = true then noX (F [d]) p else .und := by
  unfold propF; simp only [ap_bind, ap_ite, ap_und]
@[simp] theorem a_eqOwn (C : Addr) (nf : Tk → Bool) (F : List D → R D) (a b : D) (ps : Ps) : D.eqOwn C nf F a b ps = if (D.insOf C a && (b.tk.map nf).getD false) = true then (Res.bd (noX (do let r ← F [a, b]; asB r) ps) fun c p => .ok (.bl c) p) else .und := by
  unfold D.eqOwn; simp only [ap_bind, ap_ite, ap_und, ap_pure]
@[simp] theorem a_inOwn (C : Addr) (F : List D → R D) (neg : Bool) (a b : D) (ps : Ps) : D.inOwn C F neg a b ps = if D.insOf C b = true then (Res.bd (noX (do let r ← F [b, a]; asB r) ps) fun c p => .ok (.bl (if neg then !c else c)) p) else .und := by
  unfold D.inOwn; simp only [ap_bind, ap_ite, ap_und, ap_pure]
@[simp] theorem a_lenO (C : Addr) (F : List D → R D) (d : D) (ps : Ps) : D.lenO C F d ps = if D.insOf C d = true then (Res.bd (noX (do let r ← F [d]; asI r) ps) fun i p => if (decide (0 ≤ i) && decide (i ≤ 1000000)) = true then .ok (.int i) p else .und) else .und := by
  unfold D.lenO; simp only [ap_bind, ap_ite, ap_und, ap_pure]
@[simp] theorem a_eq (a b : D) : D.eq a b = ofO ((D.eqO a b).map .bl) := rfl
@[simp] theorem a_in (neg : Bool) (a b : D) : D.in_ neg a b = ofO ((D.inO a b).map fun r => .bl (if neg then !r else r)) := rfl
@[simp] theorem a_itF (f : FE) (ρ : Rho) (ps : Ps) : itF f ρ ps = Res.bd (f ρ ps) fun d p => D.items d p := by
  unfold itF; simp only [ap_bind]
@[simp] theorem a_items_l (ds : List D) : D.items (.lst ds) = pure ds := rfl
@[simp] theorem a_items_t (ds : List D) : D.items (.tup ds) = pure ds := rfl
@[simp] theorem a_itlF (f : FE) (ρ : Rho) (ps : Ps) : itlF f ρ ps = Res.bd (f ρ ps) fun d p => D.itemsL d p := by
  unfold itlF; simp only [ap_bind]
@[simp] theorem a_itemsL (ds : List D) : D.itemsL (.lst ds) = pure ds := rfl
@[simp] theorem a_itsF (f : FE) (ρ : Rho) (ps : Ps) : itsF f ρ ps = Res.bd (f ρ ps) fun d p => chrD d p := by
  unfold itsF; simp only [ap_bind]
@[simp] theorem a_chrD (s : Str) : chrD (.str s) = pure (chars s) := rfl
@[simp] theorem a_kwF (G : List (Key × D) → List D) (f : FE) (ρ : Rho) (ps : Ps) : kwF G f ρ ps = Res.bd (f ρ ps) fun d p => Res.bd (asDk d p) fun kvs p => .ok (G kvs) p := by
  unfold kwF; simp only [ap_bind, ap_pure]
@[simp] theorem a_asDk (kvs : List (Key × D)) : asDk (.dk kvs) = pure kvs := rfl
@[simp] theorem a_keysL (kvs : List (Key × D)) : D.keysL (.dk kvs) = pure (.lst (kvs.map fun kv => keyD kv.1)) := rfl
@[simp] theorem a_toList (ds : List D) : D.toList (.lst ds) = pure (.lst ds) := rfl
@[simp] theorem a_toDict (ds : List (Key × D)) : D.toDict (.dk ds) = pure (.dk ds) := rfl
@[simp] theorem a_auF (F : D → D → R D) (i : Nat) (f : FE) (ρ : Rho) (ps : Ps) : auF F i f ρ ps = Res.bd (vF i ρ ps) fun x p => Res.bd (f ρ p) fun y p => Res.bd (F x y p) fun z p => .ok (.nx (ρ.set i (some z))) p := by
  unfold auF; simp only [ap_bind, ap_pure]
@[simp] theorem a_dnF (ρ : Rho) (ps : Ps) : dnF ρ ps = .ok (.dk []) ps := rfl
@[simp] theorem a_pnF (ρ : Rho) (ps : Ps) : pnF ρ ps = .ok [] ps := rfl
@[simp] theorem a_pcF (fk fv : FE) (fr : FP) (ρ : Rho) (ps : Ps) : pcF fk fv fr ρ ps = Res.bd (fk ρ ps) fun k p => Res.bd (fv ρ p) fun v p => Res.bd (fr ρ p) fun r p => Res.bd (ofO (keyOf k) p) fun k p => .ok ((k, v) :: r) p := by
  unfold pcF; simp only [ap_bind, ap_pure]
@[simp] theorem a_dsF (fp : FP) (ρ : Rho) (ps : Ps) : dsF fp ρ ps = Res.bd (fp ρ ps) fun kvs p => if decide (kvs.length ≤ 15) = true then .ok (.dk (mergeD [] kvs)) p else .und := by
  unfold dsF; simp only [ap_bind, ap_ite, ap_pure, ap_und]
@[simp] theorem a_putF (i : Nat) (fk f : FE) (ρ : Rho) (ps : Ps) : putF' i fk f ρ ps = Res.bd (dkAt ρ i ps) fun kvs p => Res.bd (f ρ p) fun d p => Res.bd (fk ρ p) fun k p => match keyOf k with | some k => if lenC (kvs.length + 1) = true then .ok (.nx (ρ.set i (some (.dk (putD kvs k d))))) p else .und | none => .und := by
  unfold putF'; simp only [ap_bind]
  congr 1; funext kvs p; congr 1; funext d p; congr 1; funext k p
  cases keyOf k <;> simp only [ap_ite, ap_pure, ap_und]
def dkO : Option D → R (List (Key × D))
  | some (.dk ds) => pure ds
  | _ => R.und
@[simp] theorem a_dkAt (ρ : Rho) (i : Nat) : dkAt ρ i = dkO (ρ[i]?.join) := by unfold dkAt dkO; rfl
@[simp] theorem a_dkO (ds : List (Key × D)) : dkO (some (.dk ds)) = pure ds := rfl
@[simp] theorem a_paF (is : List Nat) (fs : FA) (ρ : Rho) (ps : Ps) : paF is fs ρ ps = Res.bd (fs ρ ps) fun ds p => .ok (.nx (stR ρ is ds)) p := by
  unfold paF; simp only [ap_bind, ap_pure]
@[simp] theorem a_stR_n (ρ : Rho) (ds : List D) : stR ρ [] ds = ρ := rfl
@[simp] theorem a_stR_c (ρ : Rho) (i : Nat) (is : List Nat) (d : D) (ds : List D) : stR ρ (i :: is) (d :: ds) = stR (ρ.set i (some d)) is ds := rfl
@[simp] theorem a_asF (f : FE) (F : D → Rho → R Rho) (ρ : Rho) (ps : Ps) : asF f F ρ ps = Res.bd (f ρ ps) fun d p => Res.bd (F d ρ p) fun ρ' p => .ok (.nx ρ') p := by
  unfold asF; simp only [ap_bind, ap_pure]
@[simp] theorem a_tpF (is : List Nat) (ds : List D) (ρ : Rho) : tpF is (.tup ds) ρ = nmsF is ds ρ := rfl
@[simp] theorem a_nmsF_n (ρ : Rho) : nmsF [] [] ρ = pure ρ := rfl
@[simp] theorem a_nmsF_c (i : Nat) (is : List Nat) (d : D) (ds : List D) (ρ : Rho) : nmsF (i :: is) (d :: ds) ρ = nmsF is ds (ρ.set i (some d)) := rfl
@[simp] theorem a_amF (f : FE) (F : List D → Rho → R Rho) (ρ : Rho) (ps : Ps) : amF f F ρ ps = Res.bd (f ρ ps) fun d p => amG F ρ d p := by
  unfold amF; simp only [ap_bind]
@[simp] theorem a_amG (F : List D → Rho → R Rho) (ρ : Rho) (ds : List D) (ps : Ps) : amG F ρ (.tup ds) ps = Res.bd (F ds ρ ps) fun ρ' p => .ok (.nx ρ') p := by
  show (F ds ρ >>= fun ρ' => (pure (.nx ρ') : R Fl)) ps = _
  rw [ap_bind]; rfl
@[simp] theorem a_tmN (ρ : Rho) : tmN [] ρ = pure ρ := rfl
@[simp] theorem a_tmV (i : Nat) (F : List D → Rho → R Rho) (d : D) (ds : List D) (ρ : Rho) : tmV i F (d :: ds) ρ = F ds (ρ.set i (some d)) := rfl
@[simp] theorem a_tmP (i : Nat) (fk : FE) (F : List D → Rho → R Rho) (d : D) (ds : List D) (ρ : Rho) (ps : Ps) : tmP i fk F (d :: ds) ρ ps = Res.bd (dkAt ρ i ps) fun kvs p => Res.bd (noX (fk ρ) p) fun k p => Res.bd (ofO (keyOf k) p) fun k p => if lenC (kvs.length + 1) = true then F ds (ρ.set i (some (.dk (putD kvs k d)))) p else .und := by
  show (dkAt ρ i >>= fun kvs => noX (fk ρ) >>= fun k => ofO (keyOf k) >>= fun k => if lenC (kvs.length + 1) = true then F ds (ρ.set i (some (.dk (putD kvs k d)))) else R.und) ps = _
  simp only [ap_bind, ap_ite, ap_und]
@[simp] theorem a_keyOf_s (s : Str) : keyOf (.str s) = some (.inr s) := rfl
@[simp] theorem a_keyD_s (s : Str) : keyD (.inr s) = .str s := rfl
@[simp] theorem a_noO (ρ : Rho) (ps : Ps) : noO ρ ps = .ok none ps := rfl
@[simp] theorem a_soO (f : FE) (ρ : Rho) (ps : Ps) : soO f ρ ps = Res.bd (f ρ ps) fun d p => Res.bd (asI d p) fun i p => .ok (some i) p := by
  unfold soO; simp only [ap_bind, ap_pure]
@[simp] theorem a_cutF (G : Option Int → Option Int → D → R D) (f : FE) (fl fh : FO) (ρ : Rho) (ps : Ps) : cutF G f fl fh ρ ps = Res.bd (f ρ ps) fun d p => Res.bd (fl ρ p) fun l p => Res.bd (fh ρ p) fun h p => G l h d p := by
  unfold cutF; simp only [ap_bind]
@[simp] theorem a_cut (lo hi : Option Int) (xs : List D) : D.cut lo hi (.lst xs) = pure (.lst (cutD xs lo hi)) := rfl
@[simp] theorem a_revF (f : FE) (ρ : Rho) (ps : Ps) : revF f ρ ps = Res.bd (f ρ ps) fun d p => D.rev d p := by
  unfold revF; simp only [ap_bind]
@[simp] theorem a_rev (xs : List D) : D.rev (.lst xs) = pure (.lst xs.reverse) := rfl
@[simp] theorem a_pairs (xs : List D) : D.pairs (.lst xs) = ofO ((pairsD xs).map fun kvs => .dk (mergeD [] kvs)) := rfl
def plO : Option D → R Unit
  | some .pool => pure ()
  | _ => R.und
@[simp] theorem a_isPool (ρ : Rho) (i : Nat) : isPool ρ i = plO (ρ[i]?.join) := by unfold isPool plO; rfl
@[simp] theorem a_plO : plO (some .pool) = pure () := rfl
@[simp] theorem a_psGet (po : Pool) : psGet (some po) = .ok po (some po) := rfl
@[simp] theorem a_patF (i : Nat) (ρ : Rho) (ps : Ps) : patF i ρ ps = Res.bd (isPool ρ i ps) fun _ p => Res.bd (psGet p) fun po p => .ok (.int (po.at_ : Int)) p := by
  unfold patF; simp only [ap_bind, ap_pure]
@[simp] theorem a_pnumF (i : Nat) (f : FE) (ρ : Rho) (ps : Ps) : pnumF i f ρ ps = Res.bd (isPool ρ i ps) fun _ p => Res.bd (f ρ p) fun d p => Res.bd (psGet p) fun po p => Res.bd (asI d p) fun j p => ofO ((atI po.nums j).map .int) p := by
  unfold pnumF; simp only [ap_bind]
@[simp] theorem a_pstF (i : Nat) (f : FE) (ρ : Rho) (ps : Ps) : pstF i f ρ ps = Res.bd (isPool ρ i ps) fun _ p => Res.bd (f ρ p) fun d p => Res.bd (asI d p) fun j p => Res.bd (psGet p) fun po p => if decide (0 ≤ j) = true then .ok (.nx ρ) (some { po with at_ := j.toNat }) else .und := by
  unfold pstF; simp only [ap_bind]
  congr 1; funext _ p; congr 1; funext d p; congr 1; funext j p; congr 1; funext po p; cases decide (0 ≤ j) <;> rfl
@[simp] theorem a_plnF (i : Nat) (ρ : Rho) (ps : Ps) : plnF i ρ ps = Res.bd (isPool ρ i ps) fun _ p => Res.bd (psGet p) fun po p => .ok (.int (po.nums.length : Int)) p := by
  unfold plnF; simp only [ap_bind, ap_pure]
@[simp] theorem a_ssF (fs : Rho → R (List Key)) (ρ : Rho) (ps : Ps) : ssF fs ρ ps = Res.bd (fs ρ ps) fun ks p => ofO (sortKs ks) p := by
  unfold ssF; simp only [ap_bind]
@[simp] theorem a_slF (fs : Rho → R (List Key)) (ρ : Rho) (ps : Ps) : slF fs ρ ps = Res.bd (fs ρ ps) fun ks p => if decide (ks.length < 4096) = true then .ok (.int ks.length) p else .und := by
  unfold slF; simp only [ap_bind, ap_ite, ap_pure, ap_und]
@[simp] theorem a_fsF (C : Addr) (i : Nat) (nm : Str) (f : FE) (ρ : Rho) (ps : Ps) : fsF C i nm f ρ ps = Res.bd (f ρ ps) fun d p => Res.bd (insAt C ρ i p) fun fs p => if decide (fs.length < 900) = true then .ok (.nx (ρ.set i (some (.ins C (setFl nm d fs))))) p else .und := by
  unfold fsF; simp only [ap_bind, ap_ite, ap_pure, ap_und]
def inO (C : Addr) : Option D → R (List (Str × D))
  | some (.ins C' fs) => if C' = C then pure fs else R.und
  | _ => R.und
@[simp] theorem a_insAt (C : Addr) (ρ : Rho) (i : Nat) : insAt C ρ i = inO C (ρ[i]?.join) := by unfold insAt inO; rfl
@[simp] theorem a_inO (C : Addr) (fs : List (Str × D)) : inO C (some (.ins C fs)) = pure fs := if_pos rfl
@[simp] theorem a_getF (fo fk fx : FE) (ρ : Rho) (ps : Ps) : getF fo fk fx ρ ps = Res.bd (fo ρ ps) fun d p => Res.bd (asDk d p) fun kvs p => Res.bd (fk ρ p) fun k p => Res.bd (fx ρ p) fun x p => Res.bd (ofO (keyOf k) p) fun k p => .ok ((findD kvs k).getD x) p := by
  unfold getF; simp only [ap_bind, ap_pure]
@[simp] theorem a_runI (n : Nat) (C : Addr) (G : SF) (ds : List D) (ps : Ps) : runI n C G ds ps = Res.bd (G (padR n (.ins C [] :: ds)) ps) fun fl p => finI C fl p := by
  unfold runI; simp only [ap_bind]
end DL
set_option Elab.async false
set_option linter.all false
set_option maxRecDepth 100000
set_option maxHeartbeats 2000000
/-! M2: the law's numbers and draws. -/
namespace K01
open PySem L2 DL
def rngL (j m : Nat) : List D := (List.range' j m).map fun (i : Nat) => .int (i : Int)
theorem rng_L (n : Nat) : rngD 0 n = rngL 0 n := by unfold rngD rngL; rw [List.range_eq_range']; simp
theorem rngL_len (j m : Nat) : (rngL j m).length = m := by unfold rngL; simp
theorem rngL_cons {d : D} {r : List D} {j : Nat} (g : d :: r = rngL j (r.length + 1)) : d = .int (j : Int) ∧ r = rngL (j + 1) r.length := by
  unfold rngL at g ⊢
  rw [List.range'_succ] at g
  simpa using g
theorem atI_nat {α : Type} {xs : List α} {j : Nat} {d : α} (h : xs[j]? = some d) : atI xs ((j : Nat) : Int) = some d := by
  have hl := (List.getElem?_eq_some_iff.mp h).1
  unfold atI ixN
  simp [hl]
  exact (List.getElem?_eq_some_iff.mp h).2
theorem bits_lt {i : Int} {n : Nat} (h : i.natAbs < 2 ^ n) (hn : 0 < n) : bits i ≤ n := by
  unfold bits
  by_cases e : i.natAbs = 0
  · rw [e]; simp; omega
  · have := (Nat.log2_lt e).mpr h
    omega
theorem mulC_ok {i j : Int} (hi : i.natAbs < 2 ^ 1000) (hj : j.natAbs < 2 ^ 1000) : D.mulC i j = true := by
  unfold D.mulC
  have := bits_lt hi (by decide)
  have := bits_lt hj (by decide)
  exact decide_eq_true (by omega)
theorem p1000 {i : Int} (h : i.natAbs < 2 ^ 64) : i.natAbs < 2 ^ 1000 := Nat.lt_of_lt_of_le h (Nat.pow_le_pow_right (by decide) (by decide))
/-- the numbers so far -/
def NumP (c s : D) (whole : Int) (n : Nat) (ps : Ps) (rem : List D) (ρ : Rho) (p : Ps) : Prop := p = ps ∧ ∃ (j : Nat) (left : Int) (res : List Int) (x y : Option D), j + rem.length = n ∧ rem = rngL j rem.length ∧ 0 ≤ left ∧ res.length = j ∧ (∀ z ∈ res, 0 ≤ z ∧ z < 420) ∧
  ρ = [some c, some s, some (.lst (List.replicate n (.int 420))), some (.int whole), some (.int left), some (.lst (res.map .int)), x, y]
theorem law_numbers (a : Ad) (c : Int) (k n : Nat) (hk : k ≤ 63) (hn : n ≤ 1000) (ps : Ps) : ∃ nums : List Int, f__law_numbers a [.int c, .int (k : Int), .lst (List.replicate n (.int 420))] ps = .ok (.lst (nums.map .int)) ps ∧ nums.length = n ∧ ∀ z ∈ nums, 0 ≤ z ∧ z < 420 := by
  have hpad : padR 8 [.int c, .int (k : Int), .lst (List.replicate n (.int 420))] = [some (.int c), some (.int (k : Int)), some (.lst (List.replicate n (.int 420))), none, none, none, none, none] := rfl
  have hn1 : (n : Int) ≤ 1000000000 := by omega
  have hw : 0 ≤ (if c < -1 - c then -1 - c else c) := by split <;> omega
  obtain ⟨ρ', ps', h1, h2, j, left, res, x, y, g1, g2, g3, g4, g5, g6⟩ := foN_run (F := nmF 6) (body := lb1__law_numbers a) (NumP (.int c) (.int (k : Int)) (if c < -1 - c then -1 - c else c) n ps) (fun d r ρ p hP => by
    obtain ⟨rfl, j, left, res, x, y, g1, g2, g3, g4, g5, rfl⟩ := hP
    rw [List.length_cons] at g1 g2
    obtain ⟨rfl, hr⟩ := rngL_cons g2
    have hj : j < n := by omega
    have at_ : atI (List.replicate n (D.int 420)) ((j : Nat) : Int) = some (.int 420) := atI_nat (by rw [List.getElem?_replicate]; simp [hj])
    have hl : res.length ≤ 999999 := by omega
    by_cases hc : (10 : Int) ^ 18 ≤ (if c < -1 - c then -1 - c else c) ∧ 0 < left
    · refine ⟨_, _, [some (.int c), some (.int (k : Int)), some (.lst (List.replicate n (.int 420))), some (.int (if c < -1 - c then -1 - c else c)), some (.int (left / 420)), some (.lst ((res ++ [left % 420]).map .int)), some (.int (j : Int)), y], p, rfl, ?_, .inl rfl, ?_⟩
      · have hc1 : (1000000000000000000 : Int) ≤ (if c < -1 - c then -1 - c else c) := hc.1
        have hd : D.divC left 420 = true := by unfold D.divC; rw [show bits 420 = 9 from by decide +kernel]; decide
        unfold lb1__law_numbers
        simp [hc1, hc.2, at_, hl, lenC, hd]
      · refine ⟨rfl, j + 1, left / 420, res ++ [left % 420], some (.int (j : Int)), y, by omega, hr, by omega, by simp [g4], fun z hz => ?_, rfl⟩
        rcases List.mem_append.mp hz with h | h
        · exact g5 z h
        · rw [List.mem_singleton.mp h]; omega
    · generalize hW : (if c < -1 - c then -1 - c else c) = W at *
      let o1 : Int := (W % 2147483629 + 7919 * (k : Int) + 1) ^ 3
      let o2 : Int := (o1 % 2147483647 + 104729 * ((j : Int) + 1)) * ((j : Int) + 3)
      let o3 : Int := o2 % 2147483629
      let o4 : Int := o3 ^ 5 % 2147483647 * 48271
      let o5 : Int := o4 % 2147483629
      refine ⟨_, _, [some (.int c), some (.int (k : Int)), some (.lst (List.replicate n (.int 420))), some (.int W), some (.int left), some (.lst ((res ++ [o5 / 16 % 420]).map .int)), some (.int (j : Int)), some (.int o5)], p, rfl, ?_, .inl rfl, ?_⟩
      · have hc' : ¬ ((1000000000000000000 : Int) ≤ W) ∨ ¬ 0 < left := by
          rcases Classical.em ((1000000000000000000 : Int) ≤ W) with h | h
          · exact .inr fun z => hc ⟨h, z⟩
          · exact .inl h
        have e0 : D.mulC 7919 (k : Int) = true := mulC_ok (p1000 (by omega)) (p1000 (by omega))
        have e1 : (W % 2147483629 + 7919 * (k : Int) + 1).natAbs < 18446744073709551616 := by omega
        have e2 : D.mulC 104729 ((j : Int) + 1) = true := mulC_ok (p1000 (by omega)) (p1000 (by omega))
        have e3 : D.mulC (o1 % 2147483647 + 104729 * ((j : Int) + 1)) ((j : Int) + 3) = true := mulC_ok (p1000 (by omega)) (p1000 (by omega))
        have e4 : o3.natAbs < 18446744073709551616 := by omega
        have e5 : D.mulC (o3 ^ 5 % 2147483647) 48271 = true := mulC_ok (p1000 (by omega)) (p1000 (by omega))
        have e6 : D.divC o5 16 = true := by unfold D.divC; rw [show bits 16 = 5 from by decide +kernel]; decide
        have q1 : (W % 2147483629 + 7919 * (k : Int) + 1) ^ 3 = o1 := rfl
        have q2 : (o1 % 2147483647 + 104729 * ((j : Int) + 1)) * ((j : Int) + 3) = o2 := rfl
        have q3 : o2 % 2147483629 = o3 := rfl
        have q4 : o3 ^ 5 % 2147483647 * 48271 = o4 := rfl
        have q5 : o4 % 2147483629 = o5 := rfl
        clear_value o1 o2 o3 o4 o5
        unfold lb1__law_numbers
        rcases Classical.em ((1000000000000000000 : Int) ≤ W) with h | h
        · have h' : ¬ 0 < left := fun z => hc ⟨h, z⟩
          simp [h, h', at_, hl, lenC, e0, e1, e2, e3, e4, e5, e6, q1, q2, q3, q4, q5]
        · simp [h, at_, hl, lenC, e0, e1, e2, e3, e4, e5, e6, q1, q2, q3, q4, q5]
      · refine ⟨rfl, j + 1, left, res ++ [o5 / 16 % 420], some (.int (j : Int)), some (.int o5), by omega, hr, g3, by simp [g4], fun z hz => ?_, rfl⟩
        rcases List.mem_append.mp hz with h | h
        · exact g5 z h
        · rw [List.mem_singleton.mp h]; omega) (rngD 0 n) [some (.int c), some (.int (k : Int)), some (.lst (List.replicate n (.int 420))), some (.int (if c < -1 - c then -1 - c else c)), some (.int (if c < -1 - c then -1 - c else c)), some (.lst []), none, none] ps
    ⟨rfl, 0, _, [], none, none, by rw [rng_L, rngL_len]; omega, by rw [rng_L, rngL_len], hw, rfl, (fun z hz => by cases hz), rfl⟩
  refine ⟨res, ?_, by simp at g1; omega, g5⟩
  subst h2 g6
  unfold f__law_numbers g__law_numbers
  simp [hpad, lenC, rgC, hn1, h1]
theorem law_pool (a : Ad) (c : Int) (k n : Nat) (hk : k ≤ 63) (hn : n ≤ 1000) (ps : Ps) : ∃ nums : List Int, f__law_pool a [.int c, .int (k : Int), .int n] ps = .ok (poolD nums) ps ∧ nums.length = n ∧ ∀ z ∈ nums, 0 ≤ z ∧ z < 420 := by
  obtain ⟨nums, h1, h2, h3⟩ := law_numbers a c k n hk hn ps
  refine ⟨nums, ?_, h2, h3⟩
  have hpad : padR 3 [.int c, .int (k : Int), .int (n : Int)] = [some (.int c), some (.int (k : Int)), some (.int (n : Int))] := rfl
  have hn1 : n ≤ 1000000 := by omega
  have hn2 : (n : Int) ≤ 1000000 := by omega
  have hn3 : (-1000000 : Int) ≤ n := by omega
  have hf : (List.replicate n [D.int 420]).flatten = List.replicate n (D.int 420) := by
    clear h1 hpad hn1 hn2 hn3 hn h2
    induction n with
    | zero => rfl
    | succ n ih => rw [List.replicate_succ, List.flatten_cons, ih, List.replicate_succ]; rfl
  unfold f__law_pool g__law_pool
  simp [hpad, lenC, hn1, hn2, hn3, hf, h1]
  rfl
theorem law_draw (a : Ad) (nums : List Int) (at_ : Nat) (m : Nat) (hm : 0 < m) (hp : ∀ z ∈ nums, 0 ≤ z) : ∃ r : Nat, f__law_draw a [.pool, .int (m : Int)] (some ⟨nums, at_⟩) = .ok (.int (r : Int)) (some ⟨nums, at_ + 1⟩) ∧ r < m := by
  have hpad : padR 3 [.pool, .int (m : Int)] = [some .pool, some (.int (m : Int)), none] := rfl
  have hm1 : (0 : Int) < m := by omega
  by_cases h : at_ < nums.length
  · have e : atI nums (at_ : Int) = some nums[at_] := atI_nat (List.getElem?_eq_getElem h)
    have e0 : 0 ≤ nums[at_] := hp _ (List.getElem_mem h)
    refine ⟨(nums[at_] % (m : Int)).toNat, ?_, ?_⟩
    · have e1 : ((nums[at_] % (m : Int)).toNat : Int) = nums[at_] % (m : Int) := Int.toNat_of_nonneg (Int.emod_nonneg _ (by omega))
      rw [e1]
      unfold f__law_draw g__law_draw
      have h1 : (at_ : Int) < nums.length := by omega
      have h2 : (0 : Int) ≤ (at_ : Int) + 1 := by omega
      simp [hpad, h, h1, h2, e, hm, hm1]
    · have := Int.emod_lt_of_pos nums[at_] hm1
      omega
  · refine ⟨0, ?_, hm⟩
    unfold f__law_draw g__law_draw
    have h1 : ¬ (at_ : Int) < nums.length := by omega
    have h2 : (0 : Int) ≤ (at_ : Int) + 1 := by omega
    simp [hpad, h, h1, h2]
end K01
set_option Elab.async false
set_option linter.all false
set_option maxRecDepth 100000
set_option maxHeartbeats 2000000
/-! M3: lists of texts, dicts by texts, comprehensions over them. -/
namespace DL
open PySem L2
abbrev strL (N : List Str) : List D := N.map .str
def dkL (N : List Str) (f : Str → D) : List (Key × D) := N.map fun n => (.inr n, f n)
def updS {α : Type} (f : Str → α) (n : Str) (v : α) : Str → α := fun m => if m = n then v else f m
@[simp] theorem updS_at {α : Type} (f : Str → α) (n : Str) (v : α) : updS f n v n = v := if_pos rfl
theorem updS_ne {α : Type} {f : Str → α} {n m : Str} {v : α} (h : m ≠ n) : updS f n v m = f m := if_neg h
theorem updS_id {α : Type} (f : Str → α) (n : Str) : updS f n (f n) = f := by
  funext m; unfold updS; split
  · rename_i h; rw [h]
  · rfl
@[simp] theorem dkL_len (N : List Str) (f : Str → D) : (dkL N f).length = N.length := by unfold dkL; simp
theorem dkL_nil (f : Str → D) : dkL [] f = [] := rfl
theorem dkL_cons (n : Str) (N : List Str) (f : Str → D) : dkL (n :: N) f = (.inr n, f n) :: dkL N f := rfl
theorem dkL_app (M N : List Str) (f : Str → D) : dkL (M ++ N) f = dkL M f ++ dkL N f := List.map_append
theorem dkL_congr {N : List Str} {f g : Str → D} (h : ∀ n ∈ N, f n = g n) : dkL N f = dkL N g := List.map_congr_left fun n hn => by rw [h n hn]
@[simp] theorem findD_dkL (N : List Str) (f : Str → D) (n : Str) : findD (dkL N f) (.inr n) = if n ∈ N then some (f n) else none := by
  induction N with
  | nil => rfl
  | cons m r ih =>
    rw [dkL_cons]
    unfold findD at ih ⊢
    by_cases h : m = n
    · subst h; rw [List.find?_cons_of_pos (by simp)]; simp
    · rw [List.find?_cons_of_neg (by simpa using h), ih]
      have : n ≠ m := fun e => h e.symm
      simp [this]
theorem putD_new {N : List Str} {f : Str → D} {n : Str} {v : D} (h : n ∉ N) : putD (dkL N f) (.inr n) v = dkL (N ++ [n]) (updS f n v) := by
  unfold putD
  have h1 : ((dkL N f).any fun kv => decide (kv.1 = (Sum.inr n : Key))) = false := by
    rw [List.any_eq_false]
    intro kv hk
    obtain ⟨m, hm, rfl⟩ := List.mem_map.mp hk
    simp only [decide_eq_true_eq]
    exact fun e => h (by cases e; exact hm)
  rw [h1, dkL_app, dkL_congr (f := updS f n v) (g := f) fun m hm => updS_ne fun e => h (e ▸ hm)]
  simp [dkL]
theorem putD_old {N : List Str} {f : Str → D} {n : Str} {v : D} (h : n ∈ N) : putD (dkL N f) (.inr n) v = dkL N (updS f n v) := by
  unfold putD
  have h1 : ((dkL N f).any fun kv => decide (kv.1 = (Sum.inr n : Key))) = true := by
    rw [List.any_eq_true]
    exact ⟨_, List.mem_map.mpr ⟨n, h, rfl⟩, by simp⟩
  rw [h1, if_pos rfl]
  unfold dkL
  rw [List.map_map]
  refine List.map_congr_left fun m _ => ?_
  show (if (Sum.inr m : Key) = Sum.inr n then _ else _) = _
  by_cases e : m = n
  · subst e; simp
  · rw [if_neg (fun z => e (by cases z; rfl)), updS_ne e]
@[simp] theorem keysG_dkL (N : List Str) (f : Str → D) : keysG (dkL N f) = strL N := by unfold keysG dkL; rw [List.map_map]; rfl
@[simp] theorem keysD_dkL (N : List Str) (f : Str → D) : (dkL N f).map (fun kv => keyD kv.1) = strL N := keysG_dkL N f
@[simp] theorem valsG_dkL (N : List Str) (f : Str → D) : valsG (dkL N f) = N.map f := by unfold valsG dkL; rw [List.map_map]; rfl
@[simp] theorem keyStrs_dkL : ∀ (N : List Str) (f : Str → D), keyStrs (dkL N f) = some N
  | [], _ => rfl
  | n :: r, f => by
    show (keyStrs (dkL r f)).map (n :: ·) = _
    rw [keyStrs_dkL r f]; rfl
@[simp] theorem strsOf_strL : ∀ (N : List Str), strsOf (strL N) = some N
  | [] => rfl
  | n :: r => by
    show (strsOf (strL r)).map (n :: ·) = _
    rw [strsOf_strL r]; rfl
theorem sorted_dk {N : List Str} {f : Str → D} (h : N.length < 64) : D.sorted (.dk (dkL N f)) = pure (.lst (strL (sortS N))) := by
  show ofO ((keyStrs (dkL N f)).bind sortD) = _
  rw [keyStrs_dkL]
  show ofO (sortD N) = _
  unfold sortD
  rw [if_pos h]; rfl
theorem sorted_l {N : List Str} (h : N.length < 64) : D.sorted (.lst (strL N)) = pure (.lst (strL (sortS N))) := by
  show ofO ((strsOf (strL N)).bind sortD) = _
  rw [strsOf_strL]
  show ofO (sortD N) = _
  unfold sortD
  rw [if_pos h]; rfl
theorem pairsD_L : ∀ (N : List Str) (f : Str → D), pairsD (N.map fun n => .tup [.str n, f n]) = some (dkL N f)
  | [], _ => rfl
  | n :: r, f => by
    show (match keyOf (.str n), pairsD (r.map fun n => .tup [.str n, f n]) with | some k, some t => some ((k, f n) :: t) | _, _ => none) = _
    rw [pairsD_L r f]; rfl
theorem mergeD_L : ∀ (N A : List Str) (f : Str → D), (A ++ N).Nodup → mergeD (dkL A f) (dkL N f) = dkL (A ++ N) f
  | [], A, f, _ => by rw [List.append_nil]; rfl
  | n :: r, A, f, h => by
    have e : A ++ n :: r = (A ++ [n]) ++ r := by simp
    have hn : n ∉ A := fun z => (List.nodup_append.mp h).2.2 n z n (List.mem_cons_self ..) rfl
    show mergeD (putD (dkL A f) (.inr n) (f n)) (dkL r f) = _
    rw [putD_new hn, updS_id, e]
    exact mergeD_L r (A ++ [n]) f (by rw [← e]; exact h)
theorem mergeD_0 {N : List Str} {f : Str → D} (h : N.Nodup) : mergeD [] (dkL N f) = dkL N f := mergeD_L N [] f h
theorem pairs_L {N : List Str} {f : Str → D} (h : N.Nodup) : D.pairs (.lst (N.map fun n => .tup [.str n, f n])) = pure (.dk (dkL N f)) := by
  rw [a_pairs, pairsD_L]
  show ofO (some (D.dk (mergeD [] (dkL N f)))) = _
  rw [mergeD_0 h]; rfl
@[simp] theorem in_strL (n : Str) : ∀ (N : List Str), anyEq (.str n) (strL N) = some (decide (n ∈ N))
  | [] => rfl
  | m :: r => by
    show (match (D.str m).fv, anyEq (.str n) (strL r) with | some y, some b => some (eqV y (.str n) || b) | _, _ => none) = _
    rw [in_strL n r]
    show some (eqV (.str m) (.str n) || decide (n ∈ r)) = _
    have : eqV (.str m) (.str n) = decide (n = m) := by
      unfold eqV
      by_cases e : n = m
      · subst e; simp
      · have : m ≠ n := fun z => e z.symm
        simp [e, this]
    rw [this]
    by_cases e : n = m <;> by_cases e2 : n ∈ r <;> simp [e, e2]
@[simp] theorem inO_l (n : Str) (N : List Str) : D.inO (.str n) (.lst (strL N)) = some (decide (n ∈ N)) := in_strL n N
@[simp] theorem inO_d (n : Str) (N : List Str) (f : Str → D) : D.inO (.str n) (.dk (dkL N f)) = some (decide (n ∈ N)) := by
  show some (findD (dkL N f) (.inr n)).isSome = _
  rw [findD_dkL]
  by_cases h : n ∈ N <;> simp [h]
/-! ### == -/
theorem eqV_s (m n : Str) : eqV (.str m) (.str n) = decide (m = n) := by
  unfold eqV; by_cases e : m = n <;> simp [e]
theorem eqn_s (k : Nat) (m n : Str) : D.eqn (k + 1) (.str m) (.str n) = some (decide (m = n)) := by
  show some (eqV (.str m) (.str n)) = _
  rw [eqV_s]
theorem eqAll_self {e : D → D → Option Bool} : ∀ {xs : List D}, (∀ x ∈ xs, e x x = some true) → eqAll e xs xs = some true
  | [], _ => rfl
  | x :: r, h => by
    unfold eqAll
    rw [h x (List.mem_cons_self ..), eqAll_self fun y hy => h y (List.mem_cons_of_mem _ hy)]; rfl
theorem eqAll_strL (k : Nat) : ∀ (M N : List Str), M.length = N.length → eqAll (D.eqn (k + 1)) (strL M) (strL N) = some (decide (M = N))
  | [], [], _ => rfl
  | m :: r, n :: t, h => by
    show (match D.eqn (k + 1) (.str m) (.str n), eqAll (D.eqn (k + 1)) (strL r) (strL t) with | some x, some y => some (x && y) | _, _ => none) = _
    rw [eqn_s, eqAll_strL k r t (by simpa using h)]
    simp
  | [], _ :: _, h => by simp at h
  | _ :: _, [], h => by simp at h
theorem eqn_strL (k : Nat) (M N : List Str) : D.eqn (k + 2) (.lst (strL M)) (.lst (strL N)) = some (decide (M = N)) := by
  show (if (strL M).length = (strL N).length then eqAll (D.eqn (k + 1)) (strL M) (strL N) else some false) = _
  by_cases h : M.length = N.length
  · rw [if_pos (by simpa using h), eqAll_strL k M N h]
  · rw [if_neg (by simpa using h)]
    have : ¬ M = N := fun e => h (by rw [e])
    simp [this]
theorem eq_strL (M N : List Str) : D.eqO (.lst (strL M)) (.lst (strL N)) = some (decide (M = N)) := eqn_strL 38 M N
theorem eq_strL0 (M : List Str) : D.eqO (.lst (strL M)) (.lst []) = some (decide (M = [])) := eqn_strL 38 M []
theorem nod_strL (k : Nat) (M : List Str) : D.nod (k + 2) (.lst (strL M)) = true := by
  show (strL M).all (D.nod (k + 1)) = true
  rw [List.all_eq_true]
  intro d hd
  obtain ⟨m, _, rfl⟩ := List.mem_map.mp hd
  rfl
theorem ne_strL (M N : List Str) : D.ne (.lst (strL M)) (.lst (strL N)) = pure (.bl (!decide (M = N))) := by
  show (if D.nod 40 (.lst (strL M)) = true then ofO ((D.eqn 40 (.lst (strL M)) (.lst (strL N))).map fun r => D.bl (!r)) else R.und) = _
  rw [if_pos (nod_strL 38 M), show D.eqn 40 (.lst (strL M)) (.lst (strL N)) = _ from eqn_strL 38 M N]; rfl
theorem ne_strL0 (M : List Str) : D.ne (.lst (strL M)) (.lst []) = pure (.bl (!decide (M = []))) := ne_strL M []
theorem eq_s (m n : Str) : D.eqO (.str m) (.str n) = some (decide (m = n)) := by
  show (if scal (.str m) (.str n) = true then some (decide ((V.str m) = (V.str n))) else none) = _
  rw [if_pos (show scal (.str m) (.str n) = true from rfl)]
  by_cases h : m = n <;> simp [h]
theorem ne_s (m n : Str) : D.ne (.str m) (.str n) = pure (.bl (!decide (m = n))) := by
  show (if scal (.str m) (.str n) = true then (pure (.bl (!decide ((V.str m) = (V.str n)))) : R D) else R.und) = _
  rw [if_pos (show scal (.str m) (.str n) = true from rfl)]
  by_cases h : m = n <;> simp [h]
def pairT (p : Str × Str) : D := .tup [.str p.1, .str p.2]
theorem eqn_pair (k : Nat) (p q : Str × Str) : D.eqn (k + 2) (pairT p) (pairT q) = some (decide (p = q)) := by
  show (eqAll (D.eqn (k + 1)) [.str p.1, .str p.2] [.str q.1, .str q.2]).map (fun z => z && true) = _
  have : eqAll (D.eqn (k + 1)) [.str p.1, .str p.2] [.str q.1, .str q.2] = some (decide (([p.1, p.2] : List Str) = [q.1, q.2])) := eqAll_strL k [p.1, p.2] [q.1, q.2] rfl
  rw [this]
  obtain ⟨a, b⟩ := p
  obtain ⟨c, d⟩ := q
  simp
theorem ne_pair (p q : Str × Str) : D.ne (pairT p) (pairT q) = pure (.bl (!decide (p = q))) := by
  show (if true = true then ofO ((D.eqn 40 (pairT p) (pairT q)).map fun r => D.bl (!r)) else R.und) = _
  rw [if_pos rfl, show D.eqn 40 (pairT p) (pairT q) = _ from eqn_pair 38 p q]; rfl
theorem eqPairs_dkL (k : Nat) (N : List Str) (g : Str → Str × Str) : ∀ (M : List Str) (f : Str → Str × Str), eqPairs (D.eqn (k + 2)) (dkL N fun n => pairT (g n)) (dkL M fun n => pairT (f n)) = some (decide (∀ m ∈ M, m ∈ N ∧ f m = g m))
  | [], _ => by simp [dkL, eqPairs]
  | m :: r, f => by
    have ih := eqPairs_dkL k N g r f
    rw [dkL_cons]
    unfold eqPairs
    rw [ih]
    have hf := findD_dkL N (fun n => pairT (g n)) m
    unfold findD at hf
    cases h1 : (dkL N fun n => pairT (g n)).find? (fun p => decide (p.1 = (Sum.inr m : Key))) with
    | none =>
      rw [h1] at hf
      have hm : m ∉ N := fun z => by rw [if_pos z] at hf; cases hf
      simp [hm]
    | some q =>
      obtain ⟨q1, q2⟩ := q
      rw [h1] at hf
      have hm : m ∈ N := Classical.byContradiction fun z => by rw [if_neg z] at hf; cases hf
      rw [if_pos hm] at hf
      have hf : q2 = pairT (g m) := Option.some.inj hf
      subst hf
      simp only [eqn_pair]
      by_cases e : f m = g m
      · simp [hm, e]
      · simp [e]
theorem eqn_dkL (k : Nat) (M N : List Str) (f g : Str → Str × Str) : D.eqn (k + 3) (.dk (dkL M fun n => pairT (f n))) (.dk (dkL N fun n => pairT (g n))) = some (decide (M.length = N.length ∧ ∀ m ∈ M, m ∈ N ∧ f m = g m)) := by
  show (eqPairs (D.eqn (k + 2)) (dkL N fun n => pairT (g n)) (dkL M fun n => pairT (f n))).map (fun q => (dkL M fun n => pairT (f n)).length == (dkL N fun n => pairT (g n)).length && q) = _
  rw [eqPairs_dkL, dkL_len, dkL_len]
  by_cases h : M.length = N.length <;> simp [h]
/-! ### comprehensions over texts -/
section
variable {F : D → Rho → R Rho} {fc : FT} {fe fk fv : FE} {ρ : Rho} {ps : Ps} {i : Nat}
@[simp] theorem a_lcF (vs : List Nat) (fi : FA) (F : D → Rho → R Rho) (fc : FT) (fe : FE) (ρ : Rho) (ps : Ps) : lcF vs fi F fc fe ρ ps = Res.bd (fi ρ ps) fun its p => Res.bd (noX (lcGo F fc fe its (wipeR ρ vs)) p) fun ds p => if lenC ds.length = true then .ok (.lst ds) p else .und := by
  unfold lcF; simp only [ap_bind, ap_ite, ap_pure, ap_und]
@[simp] theorem a_dcF (vs : List Nat) (fi : FA) (F : D → Rho → R Rho) (fc : FT) (fk fv : FE) (ρ : Rho) (ps : Ps) : dcF vs fi F fc fk fv ρ ps = Res.bd (fi ρ ps) fun its p => Res.bd (noX (dcGo F fc fk fv its (wipeR ρ vs) []) p) fun ds p => .ok (.dk ds) p := by
  unfold dcF; simp only [ap_bind, ap_ite, ap_pure, ap_und]
@[simp] theorem a_scF (vs : List Nat) (fi : FA) (F : D → Rho → R Rho) (fc : FT) (fe : FE) (ρ : Rho) (ps : Ps) : scF vs fi F fc fe ρ ps = Res.bd (fi ρ ps) fun its p => noX (scGo F fc fe its (wipeR ρ vs) []) p := by
  unfold scF; simp only [ap_bind, ap_ite, ap_pure, ap_und]
@[simp] theorem a_sc2F (vs vs1 : List Nat) (fi : FA) (F : D → Rho → R Rho) (fc : FT) (fi1 : FA) (F1 : D → Rho → R Rho) (fc1 : FT) (fe : FE) (ρ : Rho) (ps : Ps) : sc2F vs vs1 fi F fc fi1 F1 fc1 fe ρ ps = Res.bd (fi ρ ps) fun its p => noX (sc2Go vs1 F fc fi1 F1 fc1 fe its (wipeR ρ vs) []) p := by
  unfold sc2F; simp only [ap_bind, ap_ite, ap_pure, ap_und]
theorem tu_ap {α : Type} (F : D → Rho → R Rho) (fc : FT) (d : D) (k : Rho → Bool → R α) (ρ : Rho) (ps : Ps) : tuF F fc d k ρ ps = Res.bd (noX (F d ρ) ps) fun ρ1 p => Res.bd (noX (fc ρ1) p) fun b p => k ρ1 b p := by
  unfold tuF; simp only [ap_bind]
theorem lcGo_ok {c : D → Bool} {h : D → D} : ∀ {ds : List D}, (∀ d ∈ ds, ∃ ρd, F d ρ ps = .ok ρd ps ∧ fc ρd ps = .ok (c d) ps ∧ (c d = true → fe ρd ps = .ok (h d) ps)) → lcGo F fc fe ds ρ ps = .ok ((ds.filter c).map h) ps
  | [], _ => rfl
  | d :: r, hs => by
    obtain ⟨ρd, h1, h2, h3⟩ := hs d (List.mem_cons_self ..)
    have ih := lcGo_ok (c := c) (h := h) (ds := r) fun x hx => hs x (List.mem_cons_of_mem _ hx)
    show tuF F fc d _ ρ ps = _
    rw [tu_ap]
    simp only [a_noX, h1, bd_ok, h2]
    by_cases e : c d = true
    · simp only [e, if_pos, ap_bind, a_noX, h3 e, bd_ok, ih, ap_pure, List.filter_cons_of_pos, List.map_cons]
    · rw [if_neg e, ih, List.filter_cons_of_neg e]
theorem lcS_ok {N : List Str} (c : Str → Bool) (h : Str → D) (hs : ∀ n ∈ N, fc (ρ.set i (some (.str n))) ps = .ok (c n) ps ∧ (c n = true → fe (ρ.set i (some (.str n))) ps = .ok (h n) ps)) : lcGo (nmF i) fc fe (strL N) ρ ps = .ok ((N.filter c).map h) ps := by
  let c' : D → Bool := fun d => match d with | .str n => c n | _ => false
  let h' : D → D := fun d => match d with | .str n => h n | _ => .non
  have := lcGo_ok (F := nmF i) (fc := fc) (fe := fe) (ρ := ρ) (ps := ps) (c := c') (h := h') (ds := strL N) fun d hd => by
    obtain ⟨n, hn, rfl⟩ := List.mem_map.mp hd
    exact ⟨_, rfl, hs n hn⟩
  rw [this, List.filter_map, List.map_map]; rfl
theorem dcS_ok (f : Str → D) : ∀ {N A : List Str}, (A ++ N).Nodup → (A ++ N).length < 1000000 → (∀ n ∈ N, fc (ρ.set i (some (.str n))) ps = .ok true ps ∧ fk (ρ.set i (some (.str n))) ps = .ok (.str n) ps ∧ fv (ρ.set i (some (.str n))) ps = .ok (f n) ps) → dcGo (nmF i) fc fk fv (strL N) ρ (dkL A f) ps = .ok (dkL (A ++ N) f) ps
  | [], A, _, _, _ => by rw [List.append_nil]; rfl
  | n :: r, A, nd, hl, hs => by
    obtain ⟨h1, h2, h3⟩ := hs n (List.mem_cons_self ..)
    have e : A ++ n :: r = (A ++ [n]) ++ r := by simp
    have hn : n ∉ A := fun z => (List.nodup_append.mp nd).2.2 n z n (List.mem_cons_self ..) rfl
    have ih := dcS_ok f (N := r) (A := A ++ [n]) (by rw [← e]; exact nd) (by rw [← e]; exact hl) fun x hx => hs x (List.mem_cons_of_mem _ hx)
    have hl' : lenC ((dkL A f).length + 1) = true := by
      rw [dkL_len]; rw [List.length_append, List.length_cons] at hl
      exact decide_eq_true (by omega)
    show tuF (nmF i) fc (.str n) _ ρ ps = _
    rw [tu_ap]
    simp only [a_noX, a_nmF, bd_ok, h1, if_pos, ap_bind, h2, h3, a_keyOf_s, ap_some, hl', putD_new hn, updS_id, ih, ← e]
theorem dcS_0 {N : List Str} (f : Str → D) (nd : N.Nodup) (hl : N.length < 1000000) (hs : ∀ n ∈ N, fc (ρ.set i (some (.str n))) ps = .ok true ps ∧ fk (ρ.set i (some (.str n))) ps = .ok (.str n) ps ∧ fv (ρ.set i (some (.str n))) ps = .ok (f n) ps) : dcGo (nmF i) fc fk fv (strL N) ρ [] ps = .ok (dkL N f) ps := dcS_ok f (A := []) nd hl hs
/-- put in what is not there yet -/
def addS (A : List Str) (n : Str) : List Str := if n ∈ A then A else A ++ [n]
def addsS (A N : List Str) : List Str := N.foldl addS A
theorem addS_mem {A : List Str} {n m : Str} : m ∈ addS A n ↔ m ∈ A ∨ m = n := by
  unfold addS
  split
  · rename_i h; exact ⟨.inl, fun z => z.elim id fun z => z ▸ h⟩
  · simp
theorem addS_nodup {A : List Str} {n : Str} (h : A.Nodup) : (addS A n).Nodup := by
  unfold addS
  split
  · exact h
  · rename_i z
    exact List.nodup_append.mpr ⟨h, by simp, fun a ha b hb e => z (by rw [← List.mem_singleton.mp hb, ← e]; exact ha)⟩
theorem addsS_mem : ∀ {N A : List Str} {m : Str}, m ∈ addsS A N ↔ m ∈ A ∨ m ∈ N
  | [], A, m => by simp [addsS]
  | n :: r, A, m => by
    show m ∈ addsS (addS A n) r ↔ _
    rw [addsS_mem, addS_mem, List.mem_cons, or_assoc]
theorem addsS_nodup : ∀ {N A : List Str}, A.Nodup → (addsS A N).Nodup
  | [], A, h => h
  | n :: r, A, h => addsS_nodup (N := r) (addS_nodup h)
theorem addS_pre (A : List Str) (n : Str) : ∃ t, addS A n = A ++ t := by
  unfold addS; split
  · exact ⟨[], by simp⟩
  · exact ⟨[n], rfl⟩
theorem addsS_pre : ∀ (N A : List Str), ∃ t, addsS A N = A ++ t
  | [], A => ⟨[], by simp [addsS]⟩
  | n :: r, A => by
    obtain ⟨t, h⟩ := addS_pre A n
    obtain ⟨u, h2⟩ := addsS_pre r (addS A n)
    exact ⟨t ++ u, by show addsS (addS A n) r = _; rw [h2, h, List.append_assoc]⟩
theorem addsS_new : ∀ {N A : List Str}, (A ++ N).Nodup → addsS A N = A ++ N
  | [], A, _ => by simp [addsS]
  | n :: r, A, nd => by
    have e : A ++ n :: r = (A ++ [n]) ++ r := by simp
    have hn : n ∉ A := fun z => (List.nodup_append.mp nd).2.2 n z n (List.mem_cons_self ..) rfl
    show addsS (addS A n) r = _
    have : addS A n = A ++ [n] := by unfold addS; rw [if_neg hn]
    rw [this, addsS_new (by rw [← e]; exact nd), e]
def keyL (N : List Str) : List Key := N.map Sum.inr
theorem addK_L (A : List Str) (n : Str) : addK (keyL A) (.inr n) = keyL (addS A n) := by
  unfold addK addS
  by_cases h : n ∈ A
  · have h1 : memK (Sum.inr n) (keyL A) = true := memK_iff.mpr (List.mem_map.mpr ⟨n, h, rfl⟩)
    rw [if_pos h, if_pos h1]
  · have h1 : ¬ memK (Sum.inr n) (keyL A) = true := fun z => h (by
      obtain ⟨m, hm, e⟩ := List.mem_map.mp (memK_iff.mp z)
      cases e; exact hm)
    rw [if_neg h, if_neg h1]
    simp [keyL]
@[simp] theorem keyL_len (N : List Str) : (keyL N).length = N.length := by simp [keyL]
@[simp] theorem strK_L : ∀ N : List Str, strK (keyL N) = some N
  | [] => rfl
  | n :: r => by
    show (strK (keyL r)).map (n :: ·) = _
    rw [strK_L r]; rfl
theorem sortKs_L {N : List Str} (h : N.length < 64) : sortKs (keyL N) = some (.lst (strL (sortS N))) := by
  unfold sortKs
  rw [keyL_len, if_pos h, strK_L]
theorem addsS_len : ∀ {N A : List Str}, (addsS A N).length ≤ A.length + N.length
  | [], A => by simp [addsS]
  | n :: r, A => by
    have h1 : (addsS (addS A n) r).length ≤ (addS A n).length + r.length := addsS_len
    have h2 : (addS A n).length ≤ A.length + 1 := by unfold addS; split <;> simp
    show (addsS (addS A n) r).length ≤ _
    rw [List.length_cons]; omega
theorem scS_ok (h : Str → Str) : ∀ {N A : List Str}, A.length + N.length < 4000 → (∀ n ∈ N, fc (ρ.set i (some (.str n))) ps = .ok true ps ∧ fe (ρ.set i (some (.str n))) ps = .ok (.str (h n)) ps) → scGo (nmF i) fc fe (strL N) ρ (keyL A) ps = .ok (keyL (addsS A (N.map h))) ps
  | [], A, _, _ => rfl
  | n :: r, A, hl, hs => by
    obtain ⟨h1, h2⟩ := hs n (List.mem_cons_self ..)
    rw [List.length_cons] at hl
    have h3 : (addS A (h n)).length ≤ A.length + 1 := by unfold addS; split <;> simp
    have ih := scS_ok h (N := r) (A := addS A (h n)) (by omega) fun x hx => hs x (List.mem_cons_of_mem _ hx)
    have hl' : A.length < 4000 := by omega
    show tuF (nmF i) fc (.str n) _ ρ ps = _
    rw [tu_ap]
    simp only [a_noX, a_nmF, bd_ok, h1, if_pos, ap_bind, h2, a_keyOf_s, ap_some, keyL_len, hl', decide_true, addK_L, ih]
    rfl
end
end DL
set_option Elab.async false
set_option linter.all false
set_option maxRecDepth 100000
set_option maxHeartbeats 2000000
/-! M4: words and programs. -/
namespace K01
open PySem L2 DL
@[simp] theorem isi_self (c : V) (ans : Tk → Option Bool) (d : D) : isiF c ans [d, .ob c] = D.isi ans d := if_pos rfl
@[simp] theorem a_isi (ans : Tk → Option Bool) (d : D) (ps : Ps) : D.isi ans d ps = ofO ((d.tk.bind ans).map .bl) ps := rfl
@[simp] theorem boolsOf_L {α : Type} (f : α → Bool) : ∀ N : List α, boolsOf (N.map fun n => D.bl (f n)) = some (N.map f)
  | [] => rfl
  | n :: r => by
    show (boolsOf (r.map fun n => D.bl (f n))).map (f n :: ·) = _
    rw [boolsOf_L f r]; rfl
theorem all_L {α : Type} (f : α → Bool) (N : List α) : D.all (.lst (N.map fun n => D.bl (f n))) = pure (.bl (N.all f)) := by
  show ofO ((boolsOf (N.map fun n => D.bl (f n))).map fun bs => D.bl (bs.all id)) = _
  rw [boolsOf_L]
  simp only [Option.map_some, List.all_map]
  rfl
def chS (n : Str) : List Str := n.cps.toList.map fun c => ⟨#[c]⟩
theorem chars_S (n : Str) : chars n = strL (chS n) := by unfold chars chS strL; rw [List.map_map]; rfl
def lettersS : Str := "abcdefghijklmnopqrstuvwxyz"
def isWb (n : Str) : Bool := decide (1 ≤ n.length) && decide (n.length ≤ 8) && (chS n).all fun c => strIn c lettersS
theorem chS_len (n : Str) : (chS n).length = n.length := by unfold chS; rw [List.length_map]; rfl
theorem filter_true {α : Type} (N : List α) : N.filter (fun _ => true) = N := List.filter_eq_self.mpr fun _ _ => rfl
theorem is_word_s (a : Ad) (n : Str) (h : n.length ≤ 1000000) (ps : Ps) : f_is_word a [.str n] ps = .ok (.bl (isWb n)) ps := by
  have hpad : padR 2 [.str n] = [some (.str n), none] := rfl
  unfold f_is_word g_is_word
  have hlc := lcS_ok (fc := yesF) (fe := op2F (D.in_ false) (vF 1) (cF (.str "abcdefghijklmnopqrstuvwxyz"))) (ρ := [some (D.str n), none]) (ps := ps) (i := 1) (N := chS n) (fun _ => true) (fun c => .bl (strIn c lettersS)) fun m _ => ⟨rfl, fun _ => rfl⟩
  rw [filter_true] at hlc
  by_cases h1 : 1 ≤ n.length
  · by_cases h8 : n.length ≤ 8
    · have h3 : (1 : Int) ≤ n.length := by omega
      have h4 : (n.length : Int) ≤ 8 := by omega
      have hall := all_L (fun c => strIn c lettersS) (chS n)
      have hl : (chS n).length ≤ 1000000 := by rw [chS_len]; exact h
      simp [hpad, D.tk, tb_str, lenC, h, h1, h8, h3, h4, chars_S, wipeR, hlc, hall, hl]
      unfold isWb
      simp [h1, h8]
    · have h3 : (1 : Int) ≤ n.length := by omega
      have h4 : ¬ (n.length : Int) ≤ 8 := by omega
      simp [hpad, D.tk, tb_str, lenC, h, h1, h8, h3, h4]
      unfold isWb
      simp [h1, h8]
  · have h3 : ¬ (1 : Int) ≤ n.length := by omega
    simp [hpad, D.tk, tb_str, lenC, h, h1, h3]
    unfold isWb
    simp [h1]
theorem is_word_t {a : Ad} {n : Str} {ps : Ps} (h : isWb n = true) : f_is_word a [.str n] ps = .ok (.bl true) ps := by
  rw [is_word_s a n (by
    unfold isWb at h
    simp only [Bool.and_eq_true, decide_eq_true_eq] at h
    omega), h]
end K01
set_option Elab.async false
set_option linter.all false
set_option maxRecDepth 100000
set_option maxHeartbeats 2000000
/-! M5: what a program's maker makes. -/
namespace DL
open PySem L2
theorem foS_run {body : SF} {i : Nat} (P : List Str → Rho → Ps → Prop) (hs : ∀ n r ρ ps, P (n :: r) ρ ps → ∃ fl ρ' ps', body (ρ.set i (some (.str n))) ps = .ok fl ps' ∧ (fl = .nx ρ' ∨ fl = .ct ρ') ∧ P r ρ' ps') (N : List Str) (ρ : Rho) (ps : Ps) (h : P N ρ ps) : ∃ ρ' ps', foN (nmF i) body (strL N) ρ ps = .ok (.nx ρ') ps' ∧ P [] ρ' ps' := by
  obtain ⟨ρ', ps', h1, M, h2, h3⟩ := foN_run (F := nmF i) (body := body) (fun ds ρ ps => ∃ M, ds = strL M ∧ P M ρ ps) (fun d r ρ ps ⟨M, e, hP⟩ => by
    cases M with
    | nil => cases e
    | cons n t =>
      simp only [strL, List.map_cons, List.cons.injEq] at e
      obtain ⟨rfl, rfl⟩ := e
      obtain ⟨fl, ρ', ps', a1, a2, a3⟩ := hs n t ρ ps hP
      exact ⟨_, fl, ρ', ps', rfl, a1, a2, t, rfl, a3⟩) (strL N) ρ ps ⟨N, rfl, h⟩
  cases M with
  | nil => exact ⟨ρ', ps', h1, h3⟩
  | cons n t => cases h2
theorem whN_run {t : FT} {body : SF} {ps : Ps} {Q : Rho → Prop} (P : Nat → Rho → Prop) (hs : ∀ n ρ, P n ρ → (t ρ ps = .ok false ps ∧ Q ρ) ∨ (t ρ ps = .ok true ps ∧ ∃ ρ' n', n' < n ∧ body ρ ps = .ok (.nx ρ') ps ∧ P n' ρ')) :
    ∀ k n ρ, n < k → P n ρ → ∃ ρ', whN t body k ρ ps = .ok (.nx ρ') ps ∧ Q ρ'
  | 0, _, _, h, _ => by omega
  | k + 1, n, ρ, h, hP => by
    rcases hs n ρ hP with ⟨h1, h2⟩ | ⟨h1, ρ', n', h2, h3, h4⟩
    · refine ⟨ρ, ?_, h2⟩
      show (t ρ >>= fun b => if b = true then (body ρ >>= fun fl => lpK (whN t body k) fl) else pure (.nx ρ)) ps = _
      simp only [ap_bind, h1, bd_ok, ap_ite, ap_pure]
      rfl
    · obtain ⟨ρ2, h5, h6⟩ := whN_run P hs k n' ρ' (by omega) h4
      refine ⟨ρ2, ?_, h6⟩
      show (t ρ >>= fun b => if b = true then (body ρ >>= fun fl => lpK (whN t body k) fl) else pure (.nx ρ)) ps = _
      simp only [ap_bind, h1, bd_ok, if_pos, h3]
      exact h5
end DL
namespace K01
open PySem L2 DL
abbrev dkW (N : List Str) (g : Str → Str × Str) : D := .dk (dkL N fun n => pairT (g n))
structure WaysOk (N : List Str) (g : Str → Str × Str) : Prop where
  nd : N.Nodup
  pos : 1 ≤ N.length
  le : N.length ≤ 40
  w : ∀ n ∈ N, isWb n = true
  p : ∀ n ∈ N, isWb (g n).1 = true ∧ isWb (g n).2 = true
theorem are_ways_ok (a : Ad) {N : List Str} {g : Str → Str × Str} (h : WaysOk N g) (ps : Ps) : f_are_ways a [dkW N g] ps = .ok (.bl true) ps := by
  have hpad : padR 3 [dkW N g] = [some (dkW N g), none, none] := rfl
  have h1 : (1 : Int) ≤ N.length := by have := h.pos; omega
  have h2 : (N.length : Int) ≤ 40 := by have := h.le; omega
  obtain ⟨ρ', ps', e1, e2, x, y, rfl⟩ := foS_run (body := lb1_are_ways a) (i := 1) (fun R ρ p => ((∀ m ∈ R, m ∈ N) ∧ p = ps) ∧ ∃ x y, ρ = [some (dkW N g), x, y]) (fun n r ρ p hP => by
    obtain ⟨⟨hR, rfl⟩, x, y, rfl⟩ := hP
    have hn := hR n (List.mem_cons_self ..)
    refine ⟨_, [some (dkW N g), some (.str n), some (pairT (g n))], p, ?_, .inl rfl, ⟨fun m hm => hR m (List.mem_cons_of_mem _ hm), rfl⟩, _, _, rfl⟩
    unfold lb1_are_ways
    have e : D.ne (D.int 2) (D.int 2) = pure (.bl false) := rfl
    have e1 : atI [D.str (g n).1, D.str (g n).2] 0 = some (.str (g n).1) := rfl
    have e2 : atI [D.str (g n).1, D.str (g n).2] 1 = some (.str (g n).2) := rfl
    simp [hn, is_word_t (h.w n hn), pairT, D.tk, tb_tuple, e, e1, e2, is_word_t (h.p n hn).1, is_word_t (h.p n hn).2]) N [some (dkW N g), none, none] ps ⟨⟨fun m hm => hm, rfl⟩, _, _, rfl⟩
  obtain ⟨_, rfl⟩ := e2
  unfold f_are_ways g_are_ways
  simp [hpad, D.tk, tb_dict, h1, h2, e1]
theorem nodup_len {α : Type} [DecidableEq α] : ∀ {R U : List α}, R.Nodup → (∀ x ∈ R, x ∈ U) → R.length ≤ U.length
  | [], _, _, _ => Nat.zero_le _
  | x :: r, U, nd, h => by
    have nd' := List.nodup_cons.mp nd
    have hx := h x (List.mem_cons_self ..)
    have := nodup_len (R := r) (U := U.erase x) nd'.2 fun y hy => (List.mem_erase_of_ne (show y ≠ x from fun e => nd'.1 (e ▸ hy))).mpr (h y (List.mem_cons_of_mem _ hy))
    rw [List.length_erase_of_mem hx] at this
    have hp : 0 < U.length := List.length_pos_of_mem hx
    rw [List.length_cons]; omega
theorem come_to_in (a : Ad) (s st : D) (k : Int) (ps : Ps) (N A : List Str) (x : Option D) (hl : A.length + N.length ≤ 100000) : ∃ x', foN (nmF 4) (lb1_come_to a) (strL N) [some s, some st, some (.lst (strL A)), some (.int k), x] ps = .ok (.nx [some s, some st, some (.lst (strL (addsS A N))), some (.int k), x']) ps := by
  obtain ⟨ρ', ps', e1, e2, B, x', rfl, e3, e4⟩ := foS_run (body := lb1_come_to a) (i := 4) (fun R ρ p => p = ps ∧ ∃ B x, ρ = [some s, some st, some (.lst (strL B)), some (.int k), x] ∧ addsS B R = addsS A N ∧ B.length + R.length ≤ 100000) (fun n r ρ p hP => by
    obtain ⟨rfl, B, x, rfl, h1, h2⟩ := hP
    rw [List.length_cons] at h2
    refine ⟨_, [some s, some st, some (.lst (strL (addS B n))), some (.int k), some (.str n)], p, ?_, .inl rfl, rfl, addS B n, _, rfl, h1, ?_⟩
    · unfold lb1_come_to
      by_cases hm : n ∈ B
      · simp [hm, addS]
      · have : B.length ≤ 999999 := by omega
        simp [hm, addS, lenC, this]
    · have : (addS B n).length ≤ B.length + 1 := by unfold addS; split <;> simp
      omega) N [some s, some st, some (.lst (strL A)), some (.int k), x] ps ⟨rfl, A, x, rfl, rfl, hl⟩
  subst e2
  have : B = addsS A N := e3
  subst this
  exact ⟨x', e1⟩
theorem come_to_ok (a : Ad) {S U : List Str} {nb : Str → List Str} (hS : S.Nodup) (hSU : ∀ x ∈ S, x ∈ U) (hnb : ∀ x ∈ U, ∀ y ∈ nb x, y ∈ U) (hnl : ∀ x ∈ U, (nb x).length ≤ 1000) (hU : U.length ≤ 1000) (ps : Ps) :
    ∃ R, f_come_to a [.lst (strL S), .dk (dkL U fun p => .lst (strL (nb p)))] ps = .ok (.lst (strL R)) ps ∧ R.Nodup ∧ (∀ x ∈ R, x ∈ U) ∧ (∀ x ∈ S, x ∈ R) ∧ ∀ x ∈ R, ∀ y ∈ nb x, y ∈ R := by
  let st : D := .dk (dkL U fun p => .lst (strL (nb p)))
  let s : D := .lst (strL S)
  have hpad : padR 5 [s, st] = [some s, some st, none, none, none] := rfl
  let Q : Rho → Prop := fun ρ => ∃ (R : List Str) (k : Int) (x : Option D), ρ = [some s, some st, some (.lst (strL R)), some (.int k), x] ∧ R.Nodup ∧ (∀ x ∈ R, x ∈ U) ∧ (∀ x ∈ S, x ∈ R) ∧ ∀ x ∈ R, ∀ y ∈ nb x, y ∈ R
  obtain ⟨ρ', e1, R, k, x, rfl, q1, q2, q3, q4⟩ := whN_run (t := tvF (op2F ltD (vF 3) (callF (one D.len) (consF (vF 2) nilF)))) (body := lb2_come_to a) (ps := ps) (Q := Q)
    (fun n ρ => ∃ (A : List Str) (k : Nat) (x : Option D), ρ = [some s, some st, some (.lst (strL A)), some (.int (k : Int)), x] ∧ A.Nodup ∧ (∀ x ∈ A, x ∈ U) ∧ (∀ x ∈ S, x ∈ A) ∧ (∀ x ∈ A.take k, ∀ y ∈ nb x, y ∈ A) ∧ n + k = U.length + 1 ∧ k ≤ A.length) (fun n ρ hP => by
      obtain ⟨A, k, x, rfl, h1, h2, h3, h4, h5, h6⟩ := hP
      have hAU := nodup_len h1 h2
      by_cases hk : k < A.length
      · right
        have hk' : (k : Int) < A.length := by omega
        refine ⟨by simp [hk], ?_⟩
        have hx := h2 _ (List.getElem_mem hk)
        have hlen : A.length + (nb A[k]).length ≤ 100000 := by have := hnl _ hx; omega
        obtain ⟨x', hf⟩ := come_to_in a s st (k : Int) ps (nb A[k]) A x hlen
        have hat : atI (strL A) (k : Int) = some (.str A[k]) := atI_nat (by unfold strL; rw [List.getElem?_map, List.getElem?_eq_getElem hk]; rfl)
        refine ⟨[some s, some st, some (.lst (strL (addsS A (nb A[k])))), some (.int ((k + 1 : Nat) : Int)), x'], n - 1, by omega, ?_, addsS A (nb A[k]), k + 1, x', rfl, addsS_nodup h1, ?_, ?_, ?_, by omega, ?_⟩
        · unfold lb2_come_to
          simp [st, hat, hx, hf, lenC]
        · intro y hy
          rcases addsS_mem.mp hy with z | z
          · exact h2 y z
          · exact hnb _ hx y z
        · intro y hy; exact addsS_mem.mpr (.inl (h3 y hy))
        · obtain ⟨t, ht⟩ := addsS_pre (nb A[k]) A
          have e : (addsS A (nb A[k])).take (k + 1) = A.take k ++ [A[k]] := by
            rw [ht, List.take_append_of_le_length (by omega), List.take_succ_eq_append_getElem hk]
          rw [e]
          intro y hy z hz
          rcases List.mem_append.mp hy with w | w
          · exact addsS_mem.mpr (.inl (h4 y w z hz))
          · rw [List.mem_singleton.mp w] at hz
            exact addsS_mem.mpr (.inr hz)
        · obtain ⟨t, ht⟩ := addsS_pre (nb A[k]) A
          rw [ht, List.length_append]; omega
      · left
        have hk' : ¬ (k : Int) < A.length := by omega
        refine ⟨by simp [hk], A, k, x, rfl, h1, h2, h3, ?_⟩
        rw [List.take_of_length_le (by omega)] at h4
        exact h4) fuel (U.length + 1) [some s, some st, some (.lst (strL S)), some (.int 0), none] (by have : fuel = 1000000 := rfl; omega) ⟨S, 0, none, rfl, hS, hSU, fun x hx => hx, by simp, by omega, by omega⟩
  refine ⟨R, ?_, q1, q2, q3, q4⟩
  unfold f_come_to g_come_to
  have e1' : whF (tvF (op2F ltD (vF 3) (callF (one D.len) (consF (vF 2) nilF)))) (lb2_come_to a) [some s, some st, some (.lst (strL S)), some (.int 0), none] ps = _ := e1
  simp [s, st] at hpad e1' ⊢
  simp [hpad, e1']
end K01
set_option Elab.async false
set_option linter.all false
set_option maxRecDepth 100000
set_option maxHeartbeats 2000000
/-! M6: Program.__init__. -/
namespace DL
open PySem L2
theorem sc2S_ok {α : Type} {F : D → Rho → R Rho} {fc fc1 : FT} {fe : FE} {fi1 : FA} {ρ : Rho} {ps : Ps} {i j : Nat} {vs1 : List Nat} (v : α → D) (t : α → List Str) : ∀ {N : List α} {A : List Str}, A.length + (N.flatMap t).length < 4000 → (∀ n ∈ N, fc (ρ.set i (some (v n))) ps = .ok true ps ∧ fi1 (ρ.set i (some (v n))) ps = .ok (strL (t n)) ps ∧
      ∀ m, fc1 ((wipeR (ρ.set i (some (v n))) vs1).set j (some (.str m))) ps = .ok true ps ∧ fe ((wipeR (ρ.set i (some (v n))) vs1).set j (some (.str m))) ps = .ok (.str m) ps) →
    sc2Go vs1 (nmF i) fc fi1 (nmF j) fc1 fe (N.map v) ρ (keyL A) ps = .ok (keyL (addsS A (N.flatMap t))) ps
  | [], A, _, _ => rfl
  | n :: r, A, hl, hs => by
    obtain ⟨h1, h2, h3⟩ := hs n (List.mem_cons_self ..)
    rw [List.flatMap_cons, List.length_append] at hl
    have h4 : (addsS A (t n)).length ≤ A.length + (t n).length := addsS_len
    have ih := sc2S_ok (fc := fc) (fc1 := fc1) (fe := fe) (fi1 := fi1) (ρ := ρ) (ps := ps) (i := i) (j := j) (vs1 := vs1) (F := F) v t (N := r) (A := addsS A (t n)) (by omega) fun x hx => hs x (List.mem_cons_of_mem _ hx)
    have hin := scS_ok (fc := fc1) (fe := fe) (ρ := wipeR (ρ.set i (some (v n))) vs1) (ps := ps) (i := j) (fun m => m) (N := t n) (A := A) (by omega) fun m _ => h3 m
    rw [List.map_id'] at hin
    show tuF (nmF i) fc (v n) _ ρ ps = _
    rw [tu_ap]
    simp only [a_noX, a_nmF, bd_ok, h1, if_pos, ap_bind, h2, hin, ih]
    unfold addsS
    rw [List.flatMap_cons, List.foldl_append]
theorem sortS_mem {N : List Str} {n : Str} : n ∈ sortS N ↔ n ∈ N := (sortS_perm N).mem_iff
theorem sortS_len (N : List Str) : (sortS N).length = N.length := (sortS_perm N).length_eq
theorem sortS_nodup {N : List Str} (h : N.Nodup) : (sortS N).Nodup := (sortS_perm N).nodup_iff.mpr h
end DL
namespace K01
open PySem L2 DL
def plcs (N : List Str) (g : Str → Str × Str) : List Str := sortS (addsS [] ((sortS N).flatMap fun n => [(g n).1, (g n).2]))
theorem plcs_mem {N : List Str} {g : Str → Str × Str} {p : Str} : p ∈ plcs N g ↔ ∃ n ∈ N, p = (g n).1 ∨ p = (g n).2 := by
  unfold plcs
  rw [sortS_mem, addsS_mem]
  simp only [List.not_mem_nil, false_or, List.mem_flatMap, List.mem_cons, or_false]
  constructor
  · rintro ⟨n, h1, h2⟩; exact ⟨n, sortS_mem.mp h1, h2⟩
  · rintro ⟨n, h1, h2⟩; exact ⟨n, sortS_mem.mpr h1, h2⟩
theorem plcs_nodup (N : List Str) (g : Str → Str × Str) : (plcs N g).Nodup := sortS_nodup (addsS_nodup .nil)
def outW (N : List Str) (g : Str → Str × Str) (p : Str) : List Str := (sortS N).filter fun n => decide ((g n).1 = p)
def inW (N : List Str) (g : Str → Str × Str) (p : Str) : List Str := (sortS N).filter fun n => decide ((g n).2 = p)
structure ProgOk (N : List Str) (g : Str → Str × Str) (b : Str) (X : List Str) : Prop where
  ways : WaysOk N g
  few : (plcs N g).length < 64
  bg : b ∈ plcs N g
  xnd : X.Nodup
  xne : X ≠ []
  x : ∀ x ∈ X, x ∈ plcs N g
  reach : ∀ C : Str → Prop, C b → (∀ n ∈ N, C (g n).1 → C (g n).2) → ∀ p ∈ plcs N g, C p
  leave : ∀ C : Str → Prop, (∀ x ∈ X, C x) → (∀ n ∈ N, C (g n).2 → C (g n).1) → ∀ p ∈ plcs N g, C p
abbrev plD (N : List Str) (g : Str → Str × Str) : D := .lst (strL (plcs N g))
abbrev outD (N : List Str) (g : Str → Str × Str) : D := .dk (dkL (plcs N g) fun p => .lst (strL (outW N g p)))
abbrev inD (N : List Str) (g : Str → Str × Str) : D := .dk (dkL (plcs N g) fun p => .lst (strL (inW N g p)))
def fs1 (d1 : D) : List (Str × D) := [("pairs", d1)]
def fs2 (d1 d2 : D) : List (Str × D) := [("pairs", d1), ("own_places", d2)]
def fs3 (d1 d2 d3 : D) : List (Str × D) := [("pairs", d1), ("own_places", d2), ("own_begin", d3)]
def fs4 (d1 d2 d3 d4 : D) : List (Str × D) := [("pairs", d1), ("own_places", d2), ("own_begin", d3), ("own_exits", d4)]
def fs5 (d1 d2 d3 d4 d5 : D) : List (Str × D) := [("pairs", d1), ("own_places", d2), ("own_begin", d3), ("own_exits", d4), ("outs", d5)]
def fs6 (d1 d2 d3 d4 d5 d6 : D) : List (Str × D) := [("pairs", d1), ("own_places", d2), ("own_begin", d3), ("own_exits", d4), ("outs", d5), ("ins", d6)]
section
variable (d1 d2 d3 d4 d5 d6 : D)
@[simp] theorem set1 : setFl "pairs" d1 [] = fs1 d1 := rfl
@[simp] theorem set2 : setFl "own_places" d2 (fs1 d1) = fs2 d1 d2 := rfl
@[simp] theorem set3 : setFl "own_begin" d3 (fs2 d1 d2) = fs3 d1 d2 d3 := rfl
@[simp] theorem set4 : setFl "own_exits" d4 (fs3 d1 d2 d3) = fs4 d1 d2 d3 d4 := rfl
@[simp] theorem set5 : setFl "outs" d5 (fs4 d1 d2 d3 d4) = fs5 d1 d2 d3 d4 d5 := rfl
@[simp] theorem set6 : setFl "ins" d6 (fs5 d1 d2 d3 d4 d5) = fs6 d1 d2 d3 d4 d5 d6 := rfl
@[simp] theorem len1 : (fs1 d1).length = 1 := rfl
@[simp] theorem len2 : (fs2 d1 d2).length = 2 := rfl
@[simp] theorem len3 : (fs3 d1 d2 d3).length = 3 := rfl
@[simp] theorem len4 : (fs4 d1 d2 d3 d4).length = 4 := rfl
@[simp] theorem len5 : (fs5 d1 d2 d3 d4 d5).length = 5 := rfl
@[simp] theorem lk1p : List.lookup ("pairs" : Str) (fs1 d1) = some d1 := rfl
@[simp] theorem lk2o : List.lookup ("own_places" : Str) (fs2 d1 d2) = some d2 := rfl
@[simp] theorem lk4p : List.lookup ("pairs" : Str) (fs4 d1 d2 d3 d4) = some d1 := rfl
@[simp] theorem lk4o : List.lookup ("own_places" : Str) (fs4 d1 d2 d3 d4) = some d2 := rfl
@[simp] theorem lk5p : List.lookup ("pairs" : Str) (fs5 d1 d2 d3 d4 d5) = some d1 := rfl
@[simp] theorem lk5o : List.lookup ("own_places" : Str) (fs5 d1 d2 d3 d4 d5) = some d2 := rfl
@[simp] theorem lk5t : List.lookup ("outs" : Str) (fs5 d1 d2 d3 d4 d5) = some d5 := rfl
@[simp] theorem lk6p : List.lookup ("pairs" : Str) (fs6 d1 d2 d3 d4 d5 d6) = some d1 := rfl
@[simp] theorem lk6o : List.lookup ("own_places" : Str) (fs6 d1 d2 d3 d4 d5 d6) = some d2 := rfl
@[simp] theorem lk6b : List.lookup ("own_begin" : Str) (fs6 d1 d2 d3 d4 d5 d6) = some d3 := rfl
@[simp] theorem lk6e : List.lookup ("own_exits" : Str) (fs6 d1 d2 d3 d4 d5 d6) = some d4 := rfl
@[simp] theorem lk6t : List.lookup ("outs" : Str) (fs6 d1 d2 d3 d4 d5 d6) = some d5 := rfl
@[simp] theorem lk6i : List.lookup ("ins" : Str) (fs6 d1 d2 d3 d4 d5 d6) = some d6 := rfl
@[simp] theorem no2x : List.lookup ("are_exits" : Str) (fs2 d1 d2) = none := rfl
@[simp] theorem no4w : List.lookup ("ways_at" : Str) (fs4 d1 d2 d3 d4) = none := rfl
@[simp] theorem no5w : List.lookup ("ways_at" : Str) (fs5 d1 d2 d3 d4 d5) = none := rfl
@[simp] theorem no6a : List.lookup ("check_place" : Str) (fs6 d1 d2 d3 d4 d5 d6) = none := rfl
@[simp] theorem no6b : List.lookup ("leaving" : Str) (fs6 d1 d2 d3 d4 d5 d6) = none := rfl
@[simp] theorem no6c : List.lookup ("entering" : Str) (fs6 d1 d2 d3 d4 d5 d6) = none := rfl
@[simp] theorem no6d : List.lookup ("ways" : Str) (fs6 d1 d2 d3 d4 d5 d6) = none := rfl
@[simp] theorem no6e : List.lookup ("places" : Str) (fs6 d1 d2 d3 d4 d5 d6) = none := rfl
@[simp] theorem no6f : List.lookup ("exits" : Str) (fs6 d1 d2 d3 d4 d5 d6) = none := rfl
end
@[simp] theorem a_fld (nm : Str) (C : Addr) (fs : List (Str × D)) : D.fld nm (.ins C fs) = ofO (fs.lookup nm) := rfl
@[simp] theorem a_noF (nm : Str) (C : Addr) (fs : List (Str × D)) : D.noF nm (.ins C fs) = (fs.lookup nm).isNone := rfl
theorem ways_at0 (a : Ad) (fs : List (Str × D)) (N : List Str) (g : Str → Str × Str) (p : Str) (ps : Ps) (hf : List.lookup ("pairs" : Str) fs = some (dkW (sortS N) g)) (hN : N.length ≤ 1000) : f_Program_ways_at a [.ins a.Program fs, .str p, .int 0] ps = .ok (.lst (strL (outW N g p))) ps := by
  have hpad : padR 4 [.ins a.Program fs, .str p, .int 0] = [some (.ins a.Program fs), some (.str p), some (.int 0), none] := rfl
  have h1 : ∀ q : Str × Str, atI [D.str q.1, D.str q.2] 0 = some (.str q.1) := fun q => rfl
  have hl : (outW N g p).length ≤ 1000000 := Nat.le_trans (List.length_filter_le _ _) (by rw [sortS_len]; omega)
  have hlc := lcS_ok (i := 3) (fc := tvF (op2F D.eq (op2F D.item (op2F D.item (fldF a.Program "pairs" (vF 0)) (vF 3)) (vF 2)) (vF 1))) (fe := vF 3) (ρ := [some (.ins a.Program fs), some (.str p), some (.int 0), none]) (ps := ps) (N := sortS N) (fun n => decide ((g n).1 = p)) (fun n => .str n) fun n hn => ⟨by simp [hf, hn, pairT, h1, eq_s], fun _ => rfl⟩
  unfold f_Program_ways_at g_Program_ways_at
  simp only [outW] at hl ⊢
  simp [hpad, hf, wipeR, hlc, lenC, hl]
theorem ways_at1 (a : Ad) (fs : List (Str × D)) (N : List Str) (g : Str → Str × Str) (p : Str) (ps : Ps) (hf : List.lookup ("pairs" : Str) fs = some (dkW (sortS N) g)) (hN : N.length ≤ 1000) : f_Program_ways_at a [.ins a.Program fs, .str p, .int 1] ps = .ok (.lst (strL (inW N g p))) ps := by
  have hpad : padR 4 [.ins a.Program fs, .str p, .int 1] = [some (.ins a.Program fs), some (.str p), some (.int 1), none] := rfl
  have h1 : ∀ q : Str × Str, atI [D.str q.1, D.str q.2] 1 = some (.str q.2) := fun q => rfl
  have hl : (inW N g p).length ≤ 1000000 := Nat.le_trans (List.length_filter_le _ _) (by rw [sortS_len]; omega)
  have hlc := lcS_ok (i := 3) (fc := tvF (op2F D.eq (op2F D.item (op2F D.item (fldF a.Program "pairs" (vF 0)) (vF 3)) (vF 2)) (vF 1))) (fe := vF 3) (ρ := [some (.ins a.Program fs), some (.str p), some (.int 1), none]) (ps := ps) (N := sortS N) (fun n => decide ((g n).2 = p)) (fun n => .str n) fun n hn => ⟨by simp [hf, hn, pairT, h1, eq_s], fun _ => rfl⟩
  unfold f_Program_ways_at g_Program_ways_at
  simp only [inW] at hl ⊢
  simp [hpad, hf, wipeR, hlc, lenC, hl]
theorem are_exits_ok (a : Ad) (fs : List (Str × D)) (P X : List Str) (ps : Ps) (hf : List.lookup ("own_places" : Str) fs = some (.lst (strL P))) (hP : ∀ p ∈ P, isWb p = true) (hX : ∀ x ∈ X, x ∈ P) (nd : X.Nodup) (ne : X ≠ []) (hl : X.length < 1000) : f_Program_are_exits a [.ins a.Program fs, .lst (strL X)] ps = .ok (.bl true) ps := by
  have hpad : padR 3 [.ins a.Program fs, .lst (strL X)] = [some (.ins a.Program fs), some (.lst (strL X)), none] := rfl
  have hlc := lcS_ok (i := 2) (fc := yesF) (fe := andV (callF (f_is_word a) (consF (vF 2) nilF)) (op2F (D.in_ false) (vF 2) (fldF a.Program "own_places" (vF 0)))) (ρ := [some (.ins a.Program fs), some (.lst (strL X)), none]) (ps := ps) (N := X) (fun _ => true) (fun _ => .bl true) fun n hn => ⟨rfl, fun _ => by simp [is_word_t (hP n (hX n hn)), hf, hX n hn]⟩
  rw [filter_true] at hlc
  have hsc := scS_ok (fc := yesF) (fe := vF 2) (ρ := [some (.ins a.Program fs), some (.lst (strL X)), none]) (ps := ps) (i := 2) (fun m => m) (N := X) (A := []) (by simp; omega) fun m _ => ⟨rfl, rfl⟩
  rw [List.map_id', addsS_new (A := []) nd, List.nil_append] at hsc
  have hsc : scGo (nmF 2) yesF (vF 2) (strL X) [some (.ins a.Program fs), some (.lst (strL X)), none] [] ps = .ok (keyL X) ps := hsc
  have hall := all_L (fun _ => true) X
  have h1 : X.length ≤ 1000000 := by omega
  have h2 : X.length < 4096 := by omega
  have h3 : ∀ i : Int, D.eqO (.int i) (.int i) = some true := fun i => by
    show (if scal (.int i) (.int i) = true then some (decide ((V.int i) = (V.int i))) else none) = _
    rw [if_pos (show scal (.int i) (.int i) = true from rfl)]; simp
  unfold f_Program_are_exits g_Program_are_exits
  simp [hpad, D.tk, tb_list, eq_strL0, ne, wipeR, hlc, lenC, h1, hall, hsc, h2, h3]
end K01
set_option Elab.async false
set_option linter.all false
set_option maxRecDepth 100000
set_option maxHeartbeats 4000000
/-! M7: Program(ways, begin, exits). -/
namespace K01
open PySem L2 DL
@[simp] theorem a_finI (C : Addr) (ρ : Rho) : finI C (.nx ρ) = insO C (ρ[0]?.join) := rfl
@[simp] theorem a_insO (C : Addr) (fs : List (Str × D)) : insO C (some (.ins C fs)) = pure fs := if_pos rfl
abbrev prgFs (N : List Str) (g : Str → Str × Str) (b : Str) (X : List Str) : List (Str × D) := fs6 (dkW (sortS N) g) (plD N g) (.str b) (.lst (strL (sortS X))) (outD N g) (inD N g)
theorem init_ok (a : Ad) {N : List Str} {g : Str → Str × Str} {b : Str} {X : List Str} (h : ProgOk N g b X) (ps : Ps) : f_Program___init__ a [dkW N g, .str b, .lst (strL X)] ps = .ok (prgFs N g b X) ps := by
  have hpad : padR 9 [.ins a.Program [], dkW N g, .str b, .lst (strL X)] = [some (.ins a.Program []), some (dkW N g), some (.str b), some (.lst (strL X)), none, none, none, none, none] := rfl
  let ρ0 : List (Str × D) → Option D → Option D → Rho := fun s x4 x5 => [some (.ins a.Program s), some (dkW N g), some (.str b), some (.lst (strL X)), x4, x5, none, none, none]
  have hways := are_ways_ok a h.ways ps
  have hN40 := h.ways.le
  have hsl : (sortS N).length = N.length := sortS_len N
  have hPw : ∀ p ∈ plcs N g, isWb p = true := fun p hp => by
    obtain ⟨n, hn, e⟩ := plcs_mem.mp hp
    rcases e with rfl | rfl
    · exact (h.ways.p n hn).1
    · exact (h.ways.p n hn).2
  have hsort : D.sorted (dkW N g) = pure (.lst (strL (sortS N))) := sorted_dk (by omega)
  have hXl : X.length < 64 := Nat.lt_of_le_of_lt (nodup_len h.xnd h.x) h.few
  have hsX : D.sorted (.lst (strL X)) = pure (.lst (strL (sortS X))) := sorted_l hXl
  have c1 : dcGo (nmF 6) yesF (vF 6) (op2F D.item (vF 1) (vF 6)) (strL (sortS N)) (ρ0 [] none none) [] ps = .ok (dkL (sortS N) fun n => pairT (g n)) ps :=
    dcS_0 (fun n => pairT (g n)) (sortS_nodup h.ways.nd) (by omega) fun n hn => ⟨rfl, rfl, by simp [ρ0, sortS_mem.mp hn]⟩
  have c2 : sc2Go [7] (nmF 8) yesF (itF (vF 8)) (nmF 7) yesF (vF 7) ((sortS N).map fun n => pairT (g n)) (ρ0 (fs1 (dkW (sortS N) g)) none none) [] ps = .ok (keyL (addsS [] ((sortS N).flatMap fun n => [(g n).1, (g n).2]))) ps :=
    sc2S_ok (F := nmF 8) (fun n => pairT (g n)) (fun n => [(g n).1, (g n).2]) (A := []) (by
      have : ∀ M : List Str, (M.flatMap fun n => [(g n).1, (g n).2]).length = 2 * M.length := fun M => by
        induction M with
        | nil => rfl
        | cons m r ih => rw [List.flatMap_cons, List.length_append, ih, List.length_cons]; simp; omega
      rw [this]; simp; omega) fun n hn => ⟨rfl, rfl, fun m => ⟨rfl, rfl⟩⟩
  have c2' : sortKs (keyL (addsS [] ((sortS N).flatMap fun n => [(g n).1, (g n).2]))) = some (plD N g) := sortKs_L (by
    have := h.few
    unfold plcs at this
    rwa [sortS_len] at this)
  have hb : isWb b = true := hPw b h.bg
  have hex := are_exits_ok a (fs2 (dkW (sortS N) g) (plD N g)) (plcs N g) X ps rfl hPw h.x h.xnd h.xne (by omega)
  have hfew := h.few
  have c3 : dcGo (nmF 7) yesF (vF 7) (methF a.Program "ways_at" (f_Program_ways_at a) (vF 0) (consF (vF 7) (consF (cF (.int 0)) nilF))) (strL (plcs N g)) (ρ0 (fs4 (dkW (sortS N) g) (plD N g) (.str b) (.lst (strL (sortS X)))) none none) [] ps = .ok (dkL (plcs N g) fun p => .lst (strL (outW N g p))) ps :=
    dcS_0 (fun p => .lst (strL (outW N g p))) (plcs_nodup N g) (by omega) fun p hp => ⟨rfl, rfl, by simp [ρ0, ways_at0 a (fs4 (dkW (sortS N) g) (plD N g) (.str b) (.lst (strL (sortS X)))) N g p ps rfl (by omega)]⟩
  have c4 : dcGo (nmF 7) yesF (vF 7) (methF a.Program "ways_at" (f_Program_ways_at a) (vF 0) (consF (vF 7) (consF (cF (.int 1)) nilF))) (strL (plcs N g)) (ρ0 (fs5 (dkW (sortS N) g) (plD N g) (.str b) (.lst (strL (sortS X))) (outD N g)) none none) [] ps = .ok (dkL (plcs N g) fun p => .lst (strL (inW N g p))) ps :=
    dcS_0 (fun p => .lst (strL (inW N g p))) (plcs_nodup N g) (by omega) fun p hp => ⟨rfl, rfl, by simp [ρ0, ways_at1 a (fs5 (dkW (sortS N) g) (plD N g) (.str b) (.lst (strL (sortS X))) (outD N g)) N g p ps rfl (by omega)]⟩
  have ho : ∀ p, (outW N g p).length ≤ 1000 := fun p => Nat.le_trans (List.length_filter_le _ _) (by omega)
  have hi : ∀ p, (inW N g p).length ≤ 1000 := fun p => Nat.le_trans (List.length_filter_le _ _) (by omega)
  have at0 : ∀ q : Str × Str, atI [D.str q.1, D.str q.2] 0 = some (.str q.1) := fun q => rfl
  have at1 : ∀ q : Str × Str, atI [D.str q.1, D.str q.2] 1 = some (.str q.2) := fun q => rfl
  have outN : ∀ {p n : Str}, n ∈ outW N g p ↔ n ∈ N ∧ (g n).1 = p := fun {p n} => by unfold outW; rw [List.mem_filter, sortS_mem, decide_eq_true_eq]
  have inN : ∀ {p n : Str}, n ∈ inW N g p ↔ n ∈ N ∧ (g n).2 = p := fun {p n} => by unfold inW; rw [List.mem_filter, sortS_mem, decide_eq_true_eq]
  let S := prgFs N g b X
  let ah : Str → List Str := fun p => (outW N g p).map fun n => (g n).2
  let bk : Str → List Str := fun p => (inW N g p).map fun n => (g n).1
  have c5 : dcGo (nmF 7) yesF (vF 7) (lcF [6] (itF (op2F D.item (fldF a.Program "outs" (vF 0)) (vF 7))) (nmF 6) yesF (op2F D.item (op2F D.item (fldF a.Program "pairs" (vF 0)) (vF 6)) (cF (.int 1)))) (strL (plcs N g)) (ρ0 S none none) [] ps = .ok (dkL (plcs N g) fun p => .lst (strL (ah p))) ps :=
    dcS_0 (fun p => .lst (strL (ah p))) (plcs_nodup N g) (by omega) fun p hp => ⟨rfl, rfl, by
      have hlc := lcS_ok (i := 6) (fc := yesF) (fe := op2F D.item (op2F D.item (fldF a.Program "pairs" (vF 0)) (vF 6)) (cF (.int 1))) (ρ := [some (.ins a.Program S), some (dkW N g), some (.str b), some (.lst (strL X)), none, none, none, some (.str p), none]) (ps := ps) (N := outW N g p) (fun _ => true) (fun n => .str (g n).2) fun n hn => ⟨rfl, fun _ => by
        have := (outN.mp hn).1
        simp [S, sortS_mem, this, pairT, at1]⟩
      rw [filter_true] at hlc
      have hl : (outW N g p).length ≤ 1000000 := by have := ho p; omega
      simp [ρ0, S, hp, wipeR, lenC, hl] at hlc ⊢
      simp [hlc, ah, hl]⟩
  have c6 : ∀ x4, dcGo (nmF 7) yesF (vF 7) (lcF [6] (itF (op2F D.item (fldF a.Program "ins" (vF 0)) (vF 7))) (nmF 6) yesF (op2F D.item (op2F D.item (fldF a.Program "pairs" (vF 0)) (vF 6)) (cF (.int 0)))) (strL (plcs N g)) (ρ0 S x4 none) [] ps = .ok (dkL (plcs N g) fun p => .lst (strL (bk p))) ps := fun x4 =>
    dcS_0 (fun p => .lst (strL (bk p))) (plcs_nodup N g) (by omega) fun p hp => ⟨rfl, rfl, by
      have hlc := lcS_ok (i := 6) (fc := yesF) (fe := op2F D.item (op2F D.item (fldF a.Program "pairs" (vF 0)) (vF 6)) (cF (.int 0))) (ρ := [some (.ins a.Program S), some (dkW N g), some (.str b), some (.lst (strL X)), x4, none, none, some (.str p), none]) (ps := ps) (N := inW N g p) (fun _ => true) (fun n => .str (g n).1) fun n hn => ⟨rfl, fun _ => by
        have := (inN.mp hn).1
        simp [S, sortS_mem, this, pairT, at0]⟩
      rw [filter_true] at hlc
      have hl : (inW N g p).length ≤ 1000000 := by have := hi p; omega
      simp [ρ0, S, hp, wipeR, lenC, hl] at hlc ⊢
      simp [hlc, bk, hl]⟩
  obtain ⟨R1, r1, r2, r3, r4, r5⟩ := come_to_ok a (S := [b]) (U := plcs N g) (nb := ah) (by simp) (fun x hx => by rw [List.mem_singleton.mp hx]; exact h.bg) (fun x hx y hy => by
    obtain ⟨n, hn, rfl⟩ := List.mem_map.mp hy
    exact plcs_mem.mpr ⟨n, (outN.mp hn).1, .inr rfl⟩) (fun x _ => by simp [ah]; exact ho x) (by omega) ps
  obtain ⟨R2, s1, s2, s3, s4, s5⟩ := come_to_ok a (S := sortS X) (U := plcs N g) (nb := bk) (sortS_nodup h.xnd) (fun x hx => h.x x (sortS_mem.mp hx)) (fun x hx y hy => by
    obtain ⟨n, hn, rfl⟩ := List.mem_map.mp hy
    exact plcs_mem.mpr ⟨n, (inN.mp hn).1, .inl rfl⟩) (fun x _ => by simp [bk]; exact hi x) (by omega) ps
  have k1 : ¬ R1.length < (plcs N g).length := by
    have := nodup_len (plcs_nodup N g) (h.reach (fun p => p ∈ R1) (r4 b (by simp)) fun n hn hg => r5 _ hg _ (List.mem_map.mpr ⟨n, outN.mpr ⟨hn, rfl⟩, rfl⟩))
    omega
  have k2 : ¬ R2.length < (plcs N g).length := by
    have := nodup_len (plcs_nodup N g) (h.leave (fun p => p ∈ R2) (fun x hx => s4 x (sortS_mem.mpr hx)) fun n hn hg => s5 _ hg _ (List.mem_map.mpr ⟨n, inN.mpr ⟨hn, rfl⟩, rfl⟩))
    omega
  have r1' : f_come_to a [.lst [.str b], .dk (dkL (plcs N g) fun p => .lst (strL (ah p)))] ps = .ok (.lst (strL R1)) ps := r1
  unfold f_Program___init__ g_Program___init__
  have hbm := h.bg
  simp only [ρ0] at c1 c2 c3 c4 c5 c6
  simp [hpad, hways, hsort, wipeR, c1, c2, c2', is_word_t hb, hbm, hex, hsX, c3, c4]
  simp [S] at c5 c6
  simp [wipeR, c5, c6, lenC, r1', s1, k1, k2]
end K01
set_option Elab.async false
set_option linter.all false
set_option maxRecDepth 100000
set_option maxHeartbeats 4000000
/-! M8: a made program's methods; the law's own looks. -/
namespace K01
open PySem L2 DL
abbrev prg (a : Ad) (N : List Str) (g : Str → Str × Str) (b : Str) (X : List Str) : D := .ins a.Program (prgFs N g b X)
section
variable (a : Ad) (N : List Str) (g : Str → Str × Str) (b : Str) (X : List Str) (ps : Ps)
theorem begin_ok : f_Program_begin a [prg a N g b X] ps = .ok (.str b) ps := by
  have hpad : padR 1 [prg a N g b X] = [some (prg a N g b X)] := rfl
  unfold f_Program_begin g_Program_begin
  simp [hpad]
theorem ways_ok : f_Program_ways a [prg a N g b X] ps = .ok (.lst (strL (sortS N))) ps := by
  have hpad : padR 1 [prg a N g b X] = [some (prg a N g b X)] := rfl
  unfold f_Program_ways g_Program_ways
  simp [hpad]
theorem places_ok : f_Program_places a [prg a N g b X] ps = .ok (plD N g) ps := by
  have hpad : padR 1 [prg a N g b X] = [some (prg a N g b X)] := rfl
  unfold f_Program_places g_Program_places
  simp [hpad]
theorem exits_ok : f_Program_exits a [prg a N g b X] ps = .ok (.lst (strL (sortS X))) ps := by
  have hpad : padR 1 [prg a N g b X] = [some (prg a N g b X)] := rfl
  unfold f_Program_exits g_Program_exits
  simp [hpad]
theorem len_ok : f_Program___len__ a [prg a N g b X] ps = .ok (.int N.length) ps := by
  have hpad : padR 1 [prg a N g b X] = [some (prg a N g b X)] := rfl
  unfold f_Program___len__ g_Program___len__
  simp [hpad, sortS_len]
theorem has_word {n : Str} (hn : isWb n = true) : f_Program___contains__ a [prg a N g b X, .str n] ps = .ok (.bl (decide (n ∈ N))) ps := by
  have hpad : padR 2 [prg a N g b X, .str n] = [some (prg a N g b X), some (.str n)] := rfl
  unfold f_Program___contains__ g_Program___contains__
  simp [hpad, is_word_t hn, sortS_mem]
theorem has_no {d : D} (hd : f_is_word a [d] ps = .ok (.bl false) ps) : f_Program___contains__ a [prg a N g b X, d] ps = .ok (.bl false) ps := by
  have hpad : padR 2 [prg a N g b X, d] = [some (prg a N g b X), some d] := rfl
  unfold f_Program___contains__ g_Program___contains__
  simp [hpad, hd]
theorem item_ok {n : Str} (hn : isWb n = true) (hm : n ∈ N) : f_Program___getitem__ a [prg a N g b X, .str n] ps = .ok (pairT (g n)) ps := by
  have hpad : padR 2 [prg a N g b X, .str n] = [some (prg a N g b X), some (.str n)] := rfl
  have h := has_word a N g b X ps hn
  unfold f_Program___getitem__ g_Program___getitem__
  simp [hpad, h, ap_bind, hm, sortS_mem]
theorem check_ok {p : Str} (hp : isWb p = true) (hm : p ∈ plcs N g) : f_Program_check_place a [prg a N g b X, .str p] ps = .ok .non ps := by
  have hpad : padR 2 [prg a N g b X, .str p] = [some (prg a N g b X), some (.str p)] := rfl
  unfold f_Program_check_place g_Program_check_place
  simp [hpad, is_word_t hp, hm]
theorem leaving_ok {p : Str} (hp : isWb p = true) (hm : p ∈ plcs N g) : f_Program_leaving a [prg a N g b X, .str p] ps = .ok (.lst (strL (outW N g p))) ps := by
  have hpad : padR 2 [prg a N g b X, .str p] = [some (prg a N g b X), some (.str p)] := rfl
  have h := check_ok a N g b X ps hp hm
  unfold f_Program_leaving g_Program_leaving
  simp [hpad, h, hm]
theorem entering_ok {p : Str} (hp : isWb p = true) (hm : p ∈ plcs N g) : f_Program_entering a [prg a N g b X, .str p] ps = .ok (.lst (strL (inW N g p))) ps := by
  have hpad : padR 2 [prg a N g b X, .str p] = [some (prg a N g b X), some (.str p)] := rfl
  have h := check_ok a N g b X ps hp hm
  unfold f_Program_entering g_Program_entering
  simp [hpad, h, hm]
def eqP (N : List Str) (g : Str → Str × Str) (b : Str) (X : List Str) (N' : List Str) (g' : Str → Str × Str) (b' : Str) (X' : List Str) : Prop := (N.length = N'.length ∧ ∀ m ∈ N, m ∈ N' ∧ g m = g' m) ∧ b = b' ∧ sortS X = sortS X'
instance (N' : List Str) (g' : Str → Str × Str) (b' : Str) (X' : List Str) : Decidable (eqP N g b X N' g' b' X') := by unfold eqP; infer_instance
theorem eq_ok (N' : List Str) (g' : Str → Str × Str) (b' : Str) (X' : List Str) : f_Program___eq__ a [prg a N g b X, prg a N' g' b' X'] ps = .ok (.bl (decide (eqP N g b X N' g' b' X'))) ps := by
  have hpad : padR 3 [prg a N g b X, prg a N' g' b' X'] = [some (prg a N g b X), some (prg a N' g' b' X'), none] := rfl
  have h : D.eqO (.tup [dkW (sortS N) g, .str b, .lst (strL (sortS X))]) (.tup [dkW (sortS N') g', .str b', .lst (strL (sortS X'))]) = some (decide (eqP N g b X N' g' b' X')) := by
    show (eqAll (D.eqn 39) [dkW (sortS N) g, .str b, .lst (strL (sortS X))] [dkW (sortS N') g', .str b', .lst (strL (sortS X'))]).map (fun z => z && true) = _
    have h1 : D.eqn 39 (dkW (sortS N) g) (dkW (sortS N') g') = _ := eqn_dkL 36 (sortS N) (sortS N') g g'
    have h2 : D.eqn 39 (.str b) (.str b') = _ := eqn_s 38 b b'
    have h3 : D.eqn 39 (.lst (strL (sortS X))) (.lst (strL (sortS X'))) = _ := eqn_strL 37 (sortS X) (sortS X')
    unfold eqAll
    rw [h1]
    unfold eqAll
    rw [h2]
    unfold eqAll
    rw [h3]
    unfold eqAll
    simp only [sortS_len, sortS_mem, Option.map_some, Bool.and_true]
    unfold eqP
    congr 1
    by_cases e1 : b = b' <;> by_cases e2 : sortS X = sortS X' <;> simp [e1, e2]
  unfold f_Program___eq__ g_Program___eq__
  simp [hpad, D.tk, tbC, lenC, h]
theorem eq_five : f_Program___eq__ a [prg a N g b X, .int 5] ps = .ok (.bl false) ps := by
  have hpad : padR 3 [prg a N g b X, .int 5] = [some (prg a N g b X), some (.int 5), none] := rfl
  unfold f_Program___eq__ g_Program___eq__
  simp [hpad, D.tk, tbC]
def prD (w b x : D) : D := .dk [(.inr "ways", w), (.inr "begin", b), (.inr "exits", x)]
end
@[simp] theorem pr_w (w b x : D) : D.item (prD w b x) (.str "ways") = pure w := rfl
@[simp] theorem pr_b (w b x : D) : D.item (prD w b x) (.str "begin") = pure b := rfl
@[simp] theorem pr_x (w b x : D) : D.item (prD w b x) (.str "exits") = pure x := rfl
@[simp] theorem pr_mk (w b x : D) : D.dk (mergeD [] [(.inr "ways", w), (.inr "begin", b), (.inr "exits", x)]) = prD w b x := rfl
abbrev prL (N : List Str) (g : Str → Str × Str) (b : Str) (X : List Str) : D := prD (dkW N g) (.str b) (.lst (strL X))
theorem made_ok (a : Ad) {N : List Str} {g : Str → Str × Str} {b : Str} {X : List Str} (h : ProgOk N g b X) (ps : Ps) : f__law_made a [prL N g b X] ps = .ok (prg a N g b X) ps := by
  have hpad : padR 1 [prL N g b X] = [some (prL N g b X)] := rfl
  unfold f__law_made g__law_made
  simp [hpad, init_ok a h]
def stepP (A : List Str) (p : Str × Str) : List Str := A ++ [p.1, p.2].filter fun q => !decide (q ∈ A)
def lawP (N : List Str) (g : Str → Str × Str) (A : List Str) : List Str := N.foldl (fun A n => stepP A (g n)) A
theorem lawP_len (N : List Str) (g : Str → Str × Str) (A : List Str) : (lawP N g A).length ≤ A.length + 2 * N.length := by
  induction N generalizing A with
  | nil => simp [lawP]
  | cons n r ih =>
    have h1 := ih (stepP A (g n))
    have h2 : (stepP A (g n)).length ≤ A.length + 2 := by
      unfold stepP
      rw [List.length_append]
      have := List.length_filter_le (fun q => !decide (q ∈ A)) [(g n).1, (g n).2]
      simp only [List.length_cons, List.length_nil] at this
      omega
    show (lawP r g (stepP A (g n))).length ≤ _
    rw [List.length_cons]; omega
theorem law_places_ok (a : Ad) (N : List Str) (g : Str → Str × Str) (b x : D) (hN : N.length ≤ 31) (ps : Ps) : f__law_places a [prD (dkW N g) b x] ps = .ok (.lst (strL (sortS (lawP N g [])))) ps := by
  let W := prD (dkW N g) b x
  have hpad : padR 4 [W] = [some W, none, none, none] := rfl
  obtain ⟨ρ', ps', e1, e2, A, x2, x3, rfl, e3, e4, e5⟩ := foS_run (body := lb1__law_places a) (i := 2) (fun R ρ p => p = ps ∧ ∃ (A : List Str) (x2 x3 : Option D), ρ = [some W, some (.lst (strL A)), x2, x3] ∧ lawP R g A = lawP N g [] ∧ (∀ n ∈ R, n ∈ N) ∧ A.length + 2 * R.length ≤ 1000) (fun n r ρ p hP => by
    obtain ⟨rfl, A, x2, x3, rfl, h1, h2, h3⟩ := hP
    rw [List.length_cons] at h3
    have hl : (stepP A (g n)).length ≤ A.length + 2 := by
      unfold stepP
      rw [List.length_append]
      have := List.length_filter_le (fun q => !decide (q ∈ A)) [(g n).1, (g n).2]
      simp only [List.length_cons, List.length_nil] at this
      omega
    have hlc := lcS_ok (i := 3) (fc := tvF (op2F (D.in_ true) (vF 3) (vF 1))) (fe := vF 3) (ρ := [some W, some (.lst (strL A)), some (.str n), none]) (ps := p) (N := [(g n).1, (g n).2]) (fun q => !decide (q ∈ A)) (fun q => .str q) fun q _ => ⟨by simp, fun _ => rfl⟩
    have hlc : lcGo (nmF 3) (tvF (op2F (D.in_ true) (vF 3) (vF 1))) (vF 3) [.str (g n).1, .str (g n).2] [some W, some (.lst (strL A)), some (.str n), none] p = _ := hlc
    refine ⟨_, [some W, some (.lst (strL (stepP A (g n)))), some (.str n), x3], p, ?_, .inl rfl, rfl, _, _, _, rfl, h1, fun m hm => h2 m (List.mem_cons_of_mem _ hm), by omega⟩
    have hf : ([(g n).1, (g n).2].filter fun q => !decide (q ∈ A)).length ≤ 1000000 := Nat.le_trans (List.length_filter_le _ _) (by simp)
    have hg : A.length + ([(g n).1, (g n).2].filter fun q => !decide (q ∈ A)).length ≤ 1000000 := by
      have : (stepP A (g n)).length = A.length + ([(g n).1, (g n).2].filter fun q => !decide (q ∈ A)).length := by unfold stepP; rw [List.length_append]
      omega
    unfold lb1__law_places
    have hn := h2 n (List.mem_cons_self ..)
    simp [W] at hlc ⊢
    simp [wipeR, hn, pairT, hlc, lenC, hf, hg, stepP]) N [some W, some (.lst []), none, none] ps ⟨rfl, [], _, _, rfl, rfl, fun n hn => hn, by simp; omega⟩
  subst e2
  have e3 : A = lawP N g [] := e3
  subst e3
  have hs : D.sorted (.lst (strL (lawP N g []))) = pure (.lst (strL (sortS (lawP N g [])))) := sorted_l (by have := lawP_len N g []; simp at this; omega)
  unfold f__law_places g__law_places
  simp [W] at hpad e1
  simp [hpad, lenC, e1, hs]
theorem law_leaving_ok (a : Ad) (N : List Str) (g : Str → Str × Str) (b x : D) (p : Str) (hN : N.length < 64) (ps : Ps) : f__law_leaving a [prD (dkW N g) b x, .str p] ps = .ok (.lst (strL (outW N g p))) ps := by
  have hpad : padR 3 [prD (dkW N g) b x, .str p] = [some (prD (dkW N g) b x), some (.str p), none] := rfl
  have hs : D.sorted (dkW N g) = pure (.lst (strL (sortS N))) := sorted_dk hN
  have h1 : ∀ q : Str × Str, atI [D.str q.1, D.str q.2] 0 = some (.str q.1) := fun q => rfl
  have hlc := lcS_ok (i := 2) (fc := tvF (op2F D.eq (op2F D.item (op2F D.item (op2F D.item (vF 0) (cF (.str "ways"))) (vF 2)) (cF (.int 0))) (vF 1))) (fe := vF 2) (ρ := [some (prD (dkW N g) b x), some (.str p), none]) (ps := ps) (N := sortS N) (fun n => decide ((g n).1 = p)) (fun n => .str n) fun n hn => ⟨by simp [sortS_mem.mp hn, pairT, h1, eq_s], fun _ => rfl⟩
  have hl : (outW N g p).length ≤ 1000000 := Nat.le_trans (List.length_filter_le _ _) (by rw [sortS_len]; omega)
  unfold f__law_leaving g__law_leaving
  simp only [outW] at hl ⊢
  simp [hpad, hs, wipeR, hlc, lenC, hl]
end K01
set_option Elab.async false
set_option linter.all false
set_option maxRecDepth 100000
set_option maxHeartbeats 4000000
/-! M9: the law's looks at a made program. -/
namespace DL
open PySem L2
theorem sortS_perm' {A B : List Str} (h : A.Perm B) : sortS A = sortS B := sort_uniq ((sortS_perm A).trans (h.trans (sortS_perm B).symm)) (sortS_sorted A) (sortS_sorted B)
theorem ne_i (m n : Int) : D.ne (.int m) (.int n) = pure (.bl (!decide (m = n))) := by
  show (if scal (.int m) (.int n) = true then (pure (.bl (!decide ((V.int m) = (V.int n)))) : R D) else R.und) = _
  rw [if_pos (show scal (.int m) (.int n) = true from rfl)]
  by_cases h : m = n <;> simp [h]
theorem eq_i (m n : Int) : D.eqO (.int m) (.int n) = some (decide (m = n)) := by
  show (if scal (.int m) (.int n) = true then some (decide ((V.int m) = (V.int n))) else none) = _
  rw [if_pos (show scal (.int m) (.int n) = true from rfl)]
  by_cases h : m = n <;> simp [h]
theorem ne_b (m n : Bool) : D.ne (.bl m) (.bl n) = pure (.bl (!decide (m = n))) := by cases m <;> cases n <;> rfl
end DL
namespace K01
open PySem L2 DL
theorem plcs_w {N : List Str} {g : Str → Str × Str} {b : Str} {X : List Str} (h : ProgOk N g b X) {p : Str} (hp : p ∈ plcs N g) : isWb p = true := by
  obtain ⟨n, hn, e⟩ := plcs_mem.mp hp
  rcases e with rfl | rfl
  · exact (h.ways.p n hn).1
  · exact (h.ways.p n hn).2
structure Seen (N : List Str) (g : Str → Str × Str) (b : Str) (X : List Str) : Prop extends ProgOk N g b X where
  pl : sortS (lawP N g []) = plcs N g
  le : N.length ≤ 31
theorem right_ok (a : Ad) {N : List Str} {g : Str → Str × Str} {b : Str} {X : List Str} (h : Seen N g b X) (ps : Ps) : f__law_right a [prg a N g b X, prL N g b X] ps = .ok (.bl true) ps := by
  let M := prg a N g b X
  let W := prL N g b X
  have hpad : padR 5 [M, W] = [some M, some W, none, none, none] := rfl
  have hl := h.le
  have hP := law_places_ok a N g (.str b) (.lst (strL X)) h.le ps
  rw [h.pl] at hP
  have hs : D.sorted (dkW N g) = pure (.lst (strL (sortS N))) := sorted_dk (by omega)
  have hXl : X.length < 64 := Nat.lt_of_le_of_lt (nodup_len h.xnd h.x) h.few
  have hsX : D.sorted (.lst (strL X)) = pure (.lst (strL (sortS X))) := sorted_l hXl
  have at1 : ∀ q : Str × Str, atI [D.str q.1, D.str q.2] 1 = some (.str q.2) := fun q => rfl
  have hlen0 : (0 : Int) ≤ N.length := by omega
  have hlen1 : (N.length : Int) ≤ 1000000 := by omega
  have hlen2 : N.length ≤ 1000000 := by omega
  obtain ⟨ρ1, ps1, e1, e2, ⟨x2, rfl⟩, _⟩ := foS_run (body := lb1__law_right a) (i := 2) (fun R ρ p => p = ps ∧ (∃ (x2 : Option D), ρ = [some M, some W, x2, none, none]) ∧ (∀ n ∈ R, n ∈ N)) (fun n r ρ p hP => by
    obtain ⟨rfl, ⟨x2, rfl⟩, h1⟩ := hP
    have hn := h1 n (List.mem_cons_self ..)
    refine ⟨_, [some M, some W, some (.str n), none, none], p, ?_, .inl rfl, rfl, ⟨_, rfl⟩, fun m hm => h1 m (List.mem_cons_of_mem _ hm)⟩
    unfold lb1__law_right
    have i1 := item_ok a N g b X p (h.ways.w n hn) hn
    have i2 := has_word a N g b X p (h.ways.w n hn)
    simp [M, W, i1, i2, hn, ne_pair, ap_bind]) N [some M, some W, none, none, none] ps ⟨rfl, ⟨_, rfl⟩, fun n hn => hn⟩
  subst ps1
  obtain ⟨ρ2, ps2, f1, f2, ⟨y2, y3, y4, rfl⟩, _⟩ := foS_run (body := lb2__law_right a) (i := 3) (fun R ρ p => p = ps ∧ (∃ (x2 x3 x4 : Option D), ρ = [some M, some W, x2, x3, x4]) ∧ (∀ n ∈ R, n ∈ plcs N g)) (fun q r ρ p hP => by
    obtain ⟨rfl, ⟨x2, x3, x4, rfl⟩, h1⟩ := hP
    have hq := h1 q (List.mem_cons_self ..)
    refine ⟨_, [some M, some W, x2, some (.str q), some (.lst (strL (inW N g q)))], p, ?_, .inl rfl, rfl, ⟨_, _, _, rfl⟩, fun m hm => h1 m (List.mem_cons_of_mem _ hm)⟩
    have hlc := lcS_ok (i := 2) (fc := tvF (op2F D.eq (op2F D.item (op2F D.item (op2F D.item (vF 1) (cF (.str "ways"))) (vF 2)) (cF (.int 1))) (vF 3))) (fe := vF 2) (ρ := [some M, some W, none, some (.str q), x4]) (ps := p) (N := sortS N) (fun n => decide ((g n).2 = q)) (fun n => .str n) fun n hn => ⟨by simp [M, W, sortS_mem.mp hn, pairT, at1, eq_s], fun _ => rfl⟩
    have hli : (inW N g q).length ≤ 1000000 := Nat.le_trans (List.length_filter_le _ _) (by rw [sortS_len]; omega)
    have i1 := leaving_ok a N g b X p (plcs_w h.toProgOk hq) hq
    have i2 := entering_ok a N g b X p (plcs_w h.toProgOk hq) hq
    have i3 := law_leaving_ok a N g (.str b) (.lst (strL X)) q (by omega) p
    have i4 := ne_strL (outW N g q) (outW N g q)
    have i5 := ne_strL (inW N g q) (inW N g q)
    unfold lb2__law_right
    simp [M, W] at hlc i1 i2 i3 ⊢
    simp only [inW] at hli i2 i5 ⊢
    simp [wipeR, hs, hlc, lenC, hli, i1, i2, i3, i4, i5]) (plcs N g) [some M, some W, x2, none, none] ps ⟨rfl, ⟨_, _, _, rfl⟩, fun n hn => hn⟩
  subst ps2
  have j1 := begin_ok a N g b X ps
  have j2 := ways_ok a N g b X ps
  have j3 := exits_ok a N g b X ps
  have j4 := places_ok a N g b X ps
  have j5 := len_ok a N g b X ps
  unfold f__law_right g__law_right
  simp [M, W] at hpad e1 f1 ⊢
  simp [hpad, j1, j2, j3, j4, j5, hs, hsX, ne_s, ne_strL, ne_i, hP, ap_bind, hlen0, hlen1, hlen2, e1, f1]
end K01
set_option Elab.async false
set_option linter.all false
set_option maxRecDepth 100000
set_option maxHeartbeats 4000000
/-! M10: programs made otherwise. -/
namespace K01
open PySem L2 DL
theorem plcs_sorted (N : List Str) (g : Str → Str × Str) : (plcs N g).Pairwise (fun a b => leS a b = true) := sortS_sorted _
theorem plcs_eq {N N' : List Str} {g g' : Str → Str × Str} (h : ∀ p, p ∈ plcs N g ↔ p ∈ plcs N' g') : plcs N g = plcs N' g' :=
  sort_uniq (nodup_perm (plcs_nodup N g) (plcs_nodup N' g') h) (plcs_sorted N g) (plcs_sorted N' g')
theorem ProgOk.more {N : List Str} {g : Str → Str × Str} {b : Str} {X : List Str} {N' : List Str} {g' : Str → Str × Str} {b' : Str} {X' : List Str} (h : ProgOk N g b X) (w : WaysOk N' g') (h1 : ∀ n ∈ N, ∃ n' ∈ N', g' n' = g n) (h2 : ∀ n' ∈ N', (g' n').1 ∈ plcs N g ∧ (g' n').2 ∈ plcs N g)
    (hb : b' ∈ plcs N g) (hbb : b' = b ∨ ∃ n' ∈ N', g' n' = (b', b)) (hX : ∀ x ∈ X, x ∈ X') (hX' : ∀ x ∈ X', x ∈ plcs N g) (nd : X'.Nodup) : ProgOk N' g' b' X' ∧ plcs N' g' = plcs N g := by
  have e : plcs N' g' = plcs N g := plcs_eq fun p => by
    constructor
    · intro hp
      obtain ⟨n, hn, q⟩ := plcs_mem.mp hp
      rcases q with rfl | rfl
      · exact (h2 n hn).1
      · exact (h2 n hn).2
    · intro hp
      obtain ⟨n, hn, q⟩ := plcs_mem.mp hp
      obtain ⟨n', hn', e⟩ := h1 n hn
      exact plcs_mem.mpr ⟨n', hn', by rw [e]; exact q⟩
  refine ⟨⟨w, by rw [e]; exact h.few, by rw [e]; exact hb, nd, ?_, by rw [e]; exact hX', fun C hC hs => ?_, fun C hC hs => ?_⟩, e⟩
  · intro z
    cases X with
    | nil => exact h.xne rfl
    | cons x r => have := hX x (List.mem_cons_self ..); rw [z] at this; cases this
  · rw [e]
    refine h.reach C ?_ fun n hn q => ?_
    · rcases hbb with rfl | ⟨n', hn', q⟩
      · exact hC
      · have := hs n' hn'; rw [q] at this; exact this hC
    · obtain ⟨n', hn', z⟩ := h1 n hn
      rw [← z] at q ⊢
      exact hs n' hn' q
  · rw [e]
    refine h.leave C (fun x hx => hC x (hX x hx)) fun n hn q => ?_
    obtain ⟨n', hn', z⟩ := h1 n hn
    rw [← z] at q ⊢
    exact hs n' hn' q
theorem prgFs_perm {N N' : List Str} {g : Str → Str × Str} {b : Str} {X X' : List Str} (h : N'.Perm N) (hx : X'.Perm X) : prgFs N' g b X' = prgFs N g b X := by
  have e1 : sortS N' = sortS N := sortS_perm' h
  have e2 : sortS X' = sortS X := sortS_perm' hx
  have e3 : plcs N' g = plcs N g := by unfold plcs; rw [e1]
  have e4 : ∀ p, outW N' g p = outW N g p := fun p => by unfold outW; rw [e1]
  have e5 : ∀ p, inW N' g p = inW N g p := fun p => by unfold inW; rw [e1]
  simp only [prgFs, plD, outD, inD, e1, e2, e3, e4, e5]
def zzz : Str := "zzz"
def zN : List Str := ["za", "zb", "zc", "zd", "ze", "zf"]
theorem zN_w : ∀ z ∈ zN, isWb z = true := by decide +kernel
theorem zzz_w : isWb zzz = true := by decide +kernel
theorem zN_nd : zN.Nodup := by decide +kernel
theorem zN_at : ∀ j : Nat, j < 6 → ∃ z, zN[j]? = some z ∧ ∀ ps : Ps, Res.bd ((D.item (.str "abcdef") (.int (j : Int))) ps) (fun d p => D.add (.str "z") d p) = .ok (.str z) ps := by
  intro j hj
  have : j = 0 ∨ j = 1 ∨ j = 2 ∨ j = 3 ∨ j = 4 ∨ j = 5 := by omega
  rcases this with rfl | rfl | rfl | rfl | rfl | rfl <;> exact ⟨_, rfl, fun ps => rfl⟩
structure Unl (N : List Str) (g : Str → Str × Str) (b : Str) (X : List Str) : Prop extends Seen N g b X where
  z3 : zzz ∉ N
  z1 : ∀ z ∈ zN, z ∉ N
  six : (plcs N g).length ≤ 6
  nine : N.length ≤ 9
/-- ways to the begin, put in -/
structure Back (N : List Str) (g : Str → Str × Str) (b : Str) (j : Nat) (P : List Str) (M : List Str) (h : Str → Str × Str) : Prop where
  nd : M.Nodup
  old : ∀ n ∈ N, n ∈ M ∧ h n = g n
  new : ∀ n ∈ M, n ∈ N ∨ ∃ p ∈ P, h n = (p, b) ∧ ∃ i, i < j ∧ zN[i]? = some n
  all : ∀ p ∈ P.take j, ∃ n ∈ M, h n = (p, b)
  le : M.length = N.length + j
theorem Back.step {N : List Str} {g : Str → Str × Str} {b : Str} {j : Nat} {P : List Str} {M : List Str} {h : Str → Str × Str} (B : Back N g b j P M h) {z p : Str} (hz : zN[j]? = some z) (hp : P[j]? = some p) (hn : ∀ z ∈ zN, z ∉ N) : z ∉ M ∧ Back N g b (j + 1) P (M ++ [z]) (updS h z (p, b)) := by
  have hzN : z ∉ N := hn z (List.mem_of_getElem? hz)
  have hzM : z ∉ M := fun m => by
    rcases B.new z m with q | ⟨_, _, _, i, hi, q⟩
    · exact hzN q
    · have := (List.getElem?_inj (by have := (List.getElem?_eq_some_iff.mp q).1; exact this) zN_nd).mp (q.trans hz.symm)
      omega
  have ne : ∀ n ∈ M, n ≠ z := fun n hn e => hzM (e ▸ hn)
  refine ⟨hzM, ?_, fun n hn => ?_, fun n hn => ?_, fun q hq => ?_, ?_⟩
  · exact List.nodup_append.mpr ⟨B.nd, by simp, fun x hx y hy => by rw [List.mem_singleton.mp hy]; exact ne x hx⟩
  · obtain ⟨q1, q2⟩ := B.old n hn
    exact ⟨List.mem_append_left _ q1, by rw [updS_ne (ne n q1)]; exact q2⟩
  · rcases List.mem_append.mp hn with q | q
    · rcases B.new n q with r | ⟨p', r1, r2, i, r3, r4⟩
      · exact .inl r
      · exact .inr ⟨p', r1, by rw [updS_ne (ne n q)]; exact r2, i, by omega, r4⟩
    · rw [List.mem_singleton.mp q]
      exact .inr ⟨p, List.mem_of_getElem? hp, updS_at .., j, by omega, hz⟩
  · obtain ⟨hj, e⟩ := List.getElem?_eq_some_iff.mp hp
    rw [List.take_succ_eq_append_getElem hj, e] at hq
    rcases List.mem_append.mp hq with r | r
    · obtain ⟨n, r1, r2⟩ := B.all q r
      exact ⟨n, List.mem_append_left _ r1, by rw [updS_ne (ne n r1)]; exact r2⟩
    · rw [List.mem_singleton.mp r]
      exact ⟨z, List.mem_append_right _ (by simp), updS_at ..⟩
  · rw [List.length_append, B.le]; simp; omega
theorem enuG_cons {d : D} {r : List D} {j : Nat} {R : List Str} (e : d :: r = enuG j (strL R)) : ∃ p t, R = p :: t ∧ d = .tup [.int (j : Int), .str p] ∧ r = enuG (j + 1) (strL t) := by
  cases R with
  | nil => cases e
  | cons p t =>
    have : d :: r = .tup [.int (j : Int), .str p] :: enuG (j + 1) (strL t) := e
    cases this
    exact ⟨p, t, rfl, rfl, rfl⟩
theorem updS_pair (g : Str → Str × Str) (z : Str) (p : Str × Str) : updS (fun n => pairT (g n)) z (pairT p) = fun n => pairT (updS g z p n) := by
  funext n; unfold updS; split <;> rfl
theorem back_loop (a : Ad) {N : List Str} {g : Str → Str × Str} {b : Str} {X : List Str} (h : Unl N g b X) (M0 : D) (x2 x3 x4 x8 x9 x10 x11 : Option D) (ps : Ps) : ∃ M k x6 x7, foN (tpF [6, 7]) (lb1__law_unlike a) (enuG 0 (strL (plcs N g))) [some M0, some (prL N g b X), x2, x3, x4, some (dkW N g), none, none, x8, x9, x10, x11] ps = .ok (.nx [some M0, some (prL N g b X), x2, x3, x4, some (dkW M k), x6, x7, x8, x9, x10, x11]) ps ∧ Back N g b (plcs N g).length (plcs N g) M k := by
  obtain ⟨ρ', ps', e1, rfl, j, R, M, k, y6, y7, e3, e4, e5, rfl, e7⟩ := foN_run (F := tpF [6, 7]) (body := lb1__law_unlike a) (fun ds ρ p => p = ps ∧ ∃ j R M k x6 x7, ds = enuG j (strL R) ∧ (plcs N g).drop j = R ∧ j ≤ (plcs N g).length ∧ ρ = [some M0, some (prL N g b X), x2, x3, x4, some (dkW M k), x6, x7, x8, x9, x10, x11] ∧ Back N g b j (plcs N g) M k) (fun d r ρ p hP => by
    obtain ⟨rfl, j, R, M, k, x6, x7, e3, e4, e5, rfl, e7⟩ := hP
    obtain ⟨q, t, rfl, rfl, rfl⟩ := enuG_cons e3
    have hq : (plcs N g)[j]? = some q := by
      have := congrArg List.head? e4
      rwa [List.head?_drop] at this
    have hj := (List.getElem?_eq_some_iff.mp hq).1
    have hsix := h.six
    obtain ⟨z, z1, z2⟩ := zN_at j (by omega)
    obtain ⟨z3, B⟩ := e7.step z1 hq h.z1
    have hM : M.length ≤ 999999 := by have := e7.le; have := h.nine; omega
    have zz := z2 p
    refine ⟨[some M0, some (prL N g b X), x2, x3, x4, some (dkW M k), some (.int (j : Int)), some (.str q), x8, x9, x10, x11], _, [some M0, some (prL N g b X), x2, x3, x4, some (dkW (M ++ [z]) (updS k z (q, b))), some (.int (j : Int)), some (.str q), x8, x9, x10, x11], p, rfl, ?_, .inl rfl, rfl, j + 1, t, _, _, _, _, rfl, ?_, by omega, rfl, B⟩
    · unfold lb1__law_unlike
      have hpr : D.tup [.str q, .str b] = pairT (q, b) := rfl
      simp [zz, lenC, hM, hpr, putD_new z3, updS_pair]
    · rw [show j + 1 = j + 1 from rfl, ← List.drop_drop, e4]; rfl) (enuG 0 (strL (plcs N g))) [some M0, some (prL N g b X), x2, x3, x4, some (dkW N g), none, none, x8, x9, x10, x11] ps
    ⟨rfl, 0, _, N, g, none, none, rfl, rfl, by omega, rfl, h.ways.nd, fun n hn => ⟨hn, rfl⟩, fun n hn => .inl hn, fun p hp => by simp at hp, rfl⟩
  have : R = [] := by
    cases R with
    | nil => rfl
    | cons p t => cases e3
  rw [this] at e4
  have hj : j = (plcs N g).length := by
    have := congrArg List.length e4
    rw [List.length_drop] at this
    simp at this; omega
  subst hj
  exact ⟨M, k, y6, y7, e1, e7⟩
end K01
set_option Elab.async false
set_option linter.all false
set_option maxRecDepth 100000
set_option maxHeartbeats 8000000
/-! M11: law_unlike. -/
namespace K01
open PySem L2 DL
/-- the first way renamed -/
theorem Unl.one {N : List Str} {g : Str → Str × Str} {b : Str} {X : List Str} (h : Unl N g b X) {w0 : Str} (hw : w0 ∈ N) : ProgOk ((N.filter fun n => !decide (n = w0)) ++ [zzz]) (updS g zzz (g w0)) b X ∧ zzz ∉ (N.filter fun n => !decide (n = w0)) := by
  have h0 : ∀ n ∈ N, n ≠ zzz := fun n hn e => h.z3 (e ▸ hn)
  have hz : zzz ∉ (N.filter fun n => !decide (n = w0)) := fun m => h.z3 (List.mem_filter.mp m).1
  refine ⟨(h.toProgOk.more (N' := (N.filter fun n => !decide (n = w0)) ++ [zzz]) (g' := updS g zzz (g w0)) (b' := b) (X' := X) ⟨?_, by simp, ?_, fun n hn => ?_, fun n hn => ?_⟩ (fun n hn => ?_) (fun n hn => ?_) h.bg (.inl rfl) (fun x hx => hx) h.x h.xnd).1, hz⟩
  · exact List.nodup_append.mpr ⟨h.ways.nd.filter _, by simp, fun x hx y hy e => hz (by rw [← List.mem_singleton.mp hy, ← e]; exact hx)⟩
  · have := List.length_filter_le (fun n => !decide (n = w0)) N
    have := h.nine
    rw [List.length_append]; simp; omega
  · rcases List.mem_append.mp hn with q | q
    · exact h.ways.w n (List.mem_filter.mp q).1
    · rw [List.mem_singleton.mp q]; exact zzz_w
  · rcases List.mem_append.mp hn with q | q
    · have q := (List.mem_filter.mp q).1
      rw [updS_ne (h0 n q)]; exact h.ways.p n q
    · rw [List.mem_singleton.mp q, updS_at]; exact h.ways.p w0 hw
  · by_cases e : n = w0
    · exact ⟨zzz, List.mem_append_right _ (by simp), by rw [updS_at, e]⟩
    · exact ⟨n, List.mem_append_left _ (List.mem_filter.mpr ⟨hn, by simp [e]⟩), updS_ne (h0 n hn)⟩
  · rcases List.mem_append.mp hn with q | q
    · have q := (List.mem_filter.mp q).1
      rw [updS_ne (h0 n q)]
      exact ⟨plcs_mem.mpr ⟨n, q, .inl rfl⟩, plcs_mem.mpr ⟨n, q, .inr rfl⟩⟩
    · rw [List.mem_singleton.mp q, updS_at]
      exact ⟨plcs_mem.mpr ⟨w0, hw, .inl rfl⟩, plcs_mem.mpr ⟨w0, hw, .inr rfl⟩⟩
theorem Unl.two {N : List Str} {g : Str → Str × Str} {b : Str} {X : List Str} (h : Unl N g b X) {M : List Str} {k : Str → Str × Str} (B : Back N g b (plcs N g).length (plcs N g) M k) {c : Str} (hc : c ∈ plcs N g) : ProgOk M k c X := by
  refine (h.toProgOk.more (N' := M) (g' := k) (b' := c) (X' := X) ⟨B.nd, ?_, ?_, fun n hn => ?_, fun n hn => ?_⟩ (fun n hn => ⟨n, B.old n hn⟩) (fun n hn => ?_) hc (.inr ?_) (fun x hx => hx) h.x h.xnd).1
  · have := h.ways.pos; rw [B.le]; omega
  · have := h.nine; have := h.six; rw [B.le]; omega
  · rcases B.new n hn with q | ⟨p, q1, q2, i, _, q3⟩
    · exact h.ways.w n q
    · exact zN_w n (List.mem_of_getElem? q3)
  · rcases B.new n hn with q | ⟨p, q1, q2, i, _, q3⟩
    · rw [(B.old n q).2]; exact h.ways.p n q
    · rw [q2]; exact ⟨plcs_w h.toProgOk q1, plcs_w h.toProgOk h.bg⟩
  · rcases B.new n hn with q | ⟨p, q1, q2, i, _, q3⟩
    · rw [(B.old n q).2]; exact ⟨plcs_mem.mpr ⟨n, q, .inl rfl⟩, plcs_mem.mpr ⟨n, q, .inr rfl⟩⟩
    · rw [q2]; exact ⟨q1, h.bg⟩
  · exact B.all c (by rw [List.take_length]; exact hc)
theorem Unl.three {N : List Str} {g : Str → Str × Str} {b : Str} {X : List Str} (h : Unl N g b X) {e : Str} (he : e ∈ plcs N g) (hX : e ∉ X) : ProgOk N g b (X ++ [e]) := by
  refine (h.toProgOk.more (N' := N) (g' := g) (b' := b) (X' := X ++ [e]) h.ways (fun n hn => ⟨n, hn, rfl⟩) (fun n hn => ⟨plcs_mem.mpr ⟨n, hn, .inl rfl⟩, plcs_mem.mpr ⟨n, hn, .inr rfl⟩⟩) h.bg (.inl rfl) (fun x hx => List.mem_append_left _ hx) (fun x hx => ?_) ?_).1
  · rcases List.mem_append.mp hx with q | q
    · exact h.x x q
    · rw [List.mem_singleton.mp q]; exact he
  · exact List.nodup_append.mpr ⟨h.xnd, by simp, fun x hx y hy z => hX (by rw [← List.mem_singleton.mp hy, ← z]; exact hx)⟩
theorem eqOwn_ok (a : Ad) (N : List Str) (g : Str → Str × Str) (b : Str) (X : List Str) (N' : List Str) (g' : Str → Str × Str) (b' : Str) (X' : List Str) (ps : Ps) : D.eqOwn a.Program (nfC a.Program) (f_Program___eq__ a) (prg a N g b X) (prg a N' g' b' X') ps = .ok (.bl (decide (eqP N g b X N' g' b' X'))) ps := by
  have := eq_ok a N g b X ps N' g' b' X'
  simp [ap_bind, D.tk, nfC, this]
theorem cut1 (x : D) (r : List D) : cutD (x :: r) none (some 1) = [x] := by
  unfold cutD
  rw [show HT.sIx (x :: r).length 0 none = 0 from rfl, show HT.sIx (x :: r).length (x :: r).length (some 1) = min 1 (x :: r).length from HT.sIx_nat _ _ 1]
  simp [Nat.min_eq_left]
theorem atI_last {xs : List D} (h : xs ≠ []) : atI xs (-1) = some (xs.getLast h) := by
  have hl : 0 < xs.length := List.length_pos_iff.mpr h
  have : atI xs (-1) = xs[xs.length - 1]? := by
    unfold atI ixN
    have h1 : ¬ (0 : Int) ≤ -1 := by decide
    have h2 : (-(xs.length : Int)) ≤ -1 := by omega
    have h3 : ((-1 : Int) + (xs.length : Int)).toNat = xs.length - 1 := by omega
    simp [h2, h3]
  rw [this, List.getElem?_eq_getElem (by omega), List.getLast_eq_getElem]
end K01
set_option Elab.async false
set_option linter.all false
set_option maxRecDepth 100000
set_option maxHeartbeats 8000000
/-! M12: law_unlike. -/
namespace K01
open PySem L2 DL
@[simp] theorem a_enu (ds : List D) : enu [.lst ds] = pure (enuG 0 ds) := rfl
theorem lcGo_none {i : Nat} {fc : FT} {fe : FE} {ρ : Rho} {ps : Ps} {ds : List D} (h : ∀ d ∈ ds, fc (ρ.set i (some d)) ps = .ok false ps) : lcGo (nmF i) fc fe ds ρ ps = .ok [] ps := by
  have := lcGo_ok (F := nmF i) (fc := fc) (fe := fe) (ρ := ρ) (ps := ps) (c := fun _ => false) (h := fun d => d) (ds := ds) fun d hd => ⟨_, rfl, h d hd, fun z => nomatch z⟩
  rw [this, List.filter_eq_nil_iff.mpr (fun _ _ => by simp)]; rfl
theorem unlike_ok (a : Ad) {N : List Str} {g : Str → Str × Str} {b : Str} {X : List Str} (h : Unl N g b X) (ps : Ps) : f__law_unlike a [prg a N g b X, prL N g b X] ps = .ok (.bl true) ps := by
  let M0 := prg a N g b X
  let W := prL N g b X
  have hpad : padR 12 [M0, W] = [some M0, some W, none, none, none, none, none, none, none, none, none, none] := rfl
  have hl := h.nine
  have hs : D.sorted (dkW N g) = pure (.lst (strL (sortS N))) := sorted_dk (by omega)
  obtain ⟨w0, wr, hw⟩ : ∃ w0 wr, sortS N = w0 :: wr := by
    cases e : sortS N with
    | nil =>
      have q := sortS_len N
      rw [e, List.length_nil] at q
      have := h.ways.pos
      omega
    | cons x r => exact ⟨x, r, rfl⟩
  have hw0 : w0 ∈ N := sortS_mem.mp (by rw [hw]; simp)
  have at0 : atI (strL (sortS N)) 0 = some (.str w0) := by rw [hw]; exact atI_nat (j := 0) rfl
  obtain ⟨p1, p2⟩ := h.one hw0
  generalize hN1 : (N.filter fun n => !decide (n = w0)) = N1 at p1 p2
  have hN1l : N1.length ≤ 9 := by rw [← hN1]; exact Nat.le_trans (List.length_filter_le _ _) hl
  have c1 : lcGo (nmF 11) (tvF (op2F D.ne (vF 11) (vF 2))) (tupF (consF (vF 11) (consF (op2F D.item (op2F D.item (vF 1) (cF (.str "ways"))) (vF 11)) nilF))) (strL N) [some M0, some W, some (.str w0), none, none, none, none, none, none, none, none, none] ps = .ok (N1.map fun n => .tup [.str n, pairT (g n)]) ps := by
    rw [← hN1]
    exact lcS_ok (i := 11) (fun n => !decide (n = w0)) (fun n => .tup [.str n, pairT (g n)]) fun n hn => ⟨by simp [ne_s], fun _ => by simp [W, hn, lenC]⟩
  have nd1 : N1.Nodup := by rw [← hN1]; exact h.ways.nd.filter _
  have q1 : D.pairs (.lst (N1.map fun n => .tup [.str n, pairT (g n)])) = pure (dkW N1 g) := pairs_L nd1
  have q2 : putD (dkL N1 fun n => pairT (g n)) (.inr zzz) (pairT (g w0)) = dkL (N1 ++ [zzz]) fun n => pairT (updS g zzz (g w0) n) := by
    rw [← updS_pair]; exact putD_new p2
  let O1 := prL (N1 ++ [zzz]) (updS g zzz (g w0)) b X
  have c2 : lcGo (nmF 11) yesF (tupF (consF (vF 11) (consF (op2F D.item (op2F D.item (vF 1) (cF (.str "ways"))) (vF 11)) nilF))) (strL N) [some M0, some W, some (.str w0), some (dkW (N1 ++ [zzz]) (updS g zzz (g w0))), some (.lst [O1]), none, none, none, none, none, none, none] ps = .ok (N.map fun n => .tup [.str n, pairT (g n)]) ps := by
    have := lcS_ok (i := 11) (fc := yesF) (fe := tupF (consF (vF 11) (consF (op2F D.item (op2F D.item (vF 1) (cF (.str "ways"))) (vF 11)) nilF))) (N := N) (ρ := [some M0, some W, some (.str w0), some (dkW (N1 ++ [zzz]) (updS g zzz (g w0))), some (.lst [O1]), none, none, none, none, none, none, none]) (ps := ps) (fun _ => true) (fun n => .tup [.str n, pairT (g n)]) fun n hn => ⟨rfl, fun _ => by simp [W, hn, lenC]⟩
    rwa [filter_true] at this
  have q3 : D.pairs (.lst (N.map fun n => .tup [.str n, pairT (g n)])) = pure (dkW N g) := pairs_L h.ways.nd
  have hP := law_places_ok a N g (.str b) (.lst (strL X)) h.le ps
  rw [h.pl] at hP
  obtain ⟨M, k, y6, y7, e1, B⟩ := back_loop a h M0 (some (.str w0)) (some (dkW (N1 ++ [zzz]) (updS g zzz (g w0)))) (some (.lst [O1])) none none none none ps
  have hPne : strL (plcs N g) ≠ [] := fun z => by
    have := h.bg
    have z : plcs N g = [] := List.map_eq_nil_iff.mp z
    rw [z] at this; cases this
  obtain ⟨c, hc, e2⟩ : ∃ c, c ∈ plcs N g ∧ atI (strL (plcs N g)) (-1) = some (.str c) := by
    have := atI_last hPne
    have m := List.getLast_mem hPne
    obtain ⟨c, hc, e⟩ := List.mem_map.mp m
    exact ⟨c, hc, by rw [this, ← e]⟩
  have m1 := made_ok a (h.two B h.bg) ps
  have m2 := made_ok a (h.two B hc) ps
  have eqe : decide (eqP M k b X M k c X) = decide (b = c) := by
    have : eqP M k b X M k c X ↔ b = c := ⟨fun z => z.2.1, fun z => ⟨⟨rfl, fun m hm => ⟨hm, rfl⟩⟩, z, rfl⟩⟩
    exact decide_eq_decide.mpr this
  have m3 := eqOwn_ok a M k b X M k c X ps
  rw [eqe] at m3
  let r8 := prL M k b X
  let r9 := prL M k c X
  let xs := (plcs N g).filter fun p => !decide (p ∈ X)
  have c3 : lcGo (nmF 7) (tvF (op2F (D.in_ true) (vF 7) (op2F D.item (vF 1) (cF (.str "exits"))))) (vF 7) (strL (plcs N g)) [some M0, some W, some (.str w0), some (dkW (N1 ++ [zzz]) (updS g zzz (g w0))), some (.lst [O1]), some (dkW M k), y6, none, some r8, some r9, none, none] ps = .ok (strL xs) ps :=
    lcS_ok (i := 7) (fun p => !decide (p ∈ X)) (fun p => .str p) fun p hp => ⟨by simp [W], fun _ => rfl⟩
  have hfew := h.few
  have hxs : xs.length ≤ 1000000 := Nat.le_trans (List.length_filter_le _ _) (by omega)
  have hXl : X.length < 64 := Nat.lt_of_le_of_lt (nodup_len h.xnd h.x) h.few
  have hXl1 : X.length ≤ 999999 := by omega
  have hN2 : N1.length ≤ 1000000 := by omega
  have hN3 : N1.length ≤ 999999 := by omega
  have hN4 : N.length ≤ 1000000 := by omega
  -- no other one is like it
  have n1 : ¬ eqP (N1 ++ [zzz]) (updS g zzz (g w0)) b X N g b X := fun z => h.z3 (z.1.2 zzz (List.mem_append_right _ (by simp))).1
  have n2 : ¬ eqP N g b X (N1 ++ [zzz]) (updS g zzz (g w0)) b X := fun z => by
    have := (z.1.2 w0 hw0).1
    rcases List.mem_append.mp this with q | q
    · rw [← hN1] at q
      have := (List.mem_filter.mp q).2
      simp at this
    · exact h.z3 (by rw [← List.mem_singleton.mp q]; exact hw0)
  have n3 : ∀ e, ¬ eqP N g b (X ++ [e]) N g b X := fun e z => by
    have := congrArg List.length z.2.2
    rw [sortS_len, sortS_len, List.length_append] at this
    simp at this
  have n4 : ∀ e, ¬ eqP N g b X N g b (X ++ [e]) := fun e z => by
    have := congrArg List.length z.2.2
    rw [sortS_len, sortS_len, List.length_append] at this
    simp at this
  have m4 := made_ok a p1 ps
  have m5 := eqOwn_ok a (N1 ++ [zzz]) (updS g zzz (g w0)) b X N g b X ps
  have m6 := eqOwn_ok a N g b X (N1 ++ [zzz]) (updS g zzz (g w0)) b X ps
  rw [decide_eq_false n1] at m5
  rw [decide_eq_false n2] at m6
  let fc : FT := orF (tvF (op2F (D.eqOwn a.Program (nfC a.Program) (f_Program___eq__ a)) (callF (f__law_made a) (consF (vF 11) nilF)) (vF 0))) (tvF (op2F (D.eqOwn a.Program (nfC a.Program) (f_Program___eq__ a)) (vF 0) (callF (f__law_made a) (consF (vF 11) nilF))))
  have k1 : ∀ ρ : Rho, ρ.length = 12 → ρ[0]? = some (some M0) → fc (ρ.set 11 (some O1)) ps = .ok false ps := fun ρ hr h0 => by
    have g0 : (ρ.set 11 (some O1))[0]?.join = some M0 := by rw [List.getElem?_set_ne (by decide), h0]; rfl
    have g1 : (ρ.set 11 (some O1))[11]?.join = some O1 := by rw [List.getElem?_set_self (by omega)]; rfl
    simp only [fc, a_orF, a_tvF, a_op2, a_call, a_cons, a_nil, a_vF, g0, g1, ap_some, bd_ok, O1, M0, m4, m5, m6, a_asB, ap_pure, Bool.false_eq_true, if_false]
  have k2 : ∀ e, e ∈ xs → ∀ ρ : Rho, ρ.length = 12 → ρ[0]? = some (some M0) → fc (ρ.set 11 (some (prL N g b (X ++ [e])))) ps = .ok false ps := fun e he ρ hr h0 => by
    have he := List.mem_filter.mp he
    have m7 := made_ok a (h.three he.1 (by simpa using he.2)) ps
    have m8 := eqOwn_ok a N g b (X ++ [e]) N g b X ps
    have m9 := eqOwn_ok a N g b X N g b (X ++ [e]) ps
    rw [decide_eq_false (n3 e)] at m8
    rw [decide_eq_false (n4 e)] at m9
    have g0 : (ρ.set 11 (some (prL N g b (X ++ [e]))))[0]?.join = some M0 := by rw [List.getElem?_set_ne (by decide), h0]; rfl
    have g1 : (ρ.set 11 (some (prL N g b (X ++ [e]))))[11]?.join = some (prL N g b (X ++ [e])) := by rw [List.getElem?_set_self (by omega)]; rfl
    simp only [fc, a_orF, a_tvF, a_op2, a_call, a_cons, a_nil, a_vF, g0, g1, ap_some, bd_ok, M0, m7, m8, m9, a_asB, ap_pure, Bool.false_eq_true, if_false]
  by_cases hx : xs = []
  · have c4 := lcGo_none (i := 11) (fc := fc) (fe := vF 11) (ps := ps) (ρ := [some M0, some W, some (.str w0), some (dkW (N1 ++ [zzz]) (updS g zzz (g w0))), some (.lst [O1]), some (dkW M k), y6, y7, some r8, some r9, some (.lst []), none]) (ds := [O1]) fun d hd => by
      rw [List.mem_singleton.mp hd]; exact k1 _ rfl rfl
    rw [hx] at c3
    have e0 : D.eqO (.lst []) (.lst []) = some true := rfl
    have e0' : D.ne (.lst []) (.lst []) = pure (.bl false) := rfl
    unfold f__law_unlike g__law_unlike
    have hz : (Str.ofString "zzz") = zzz := rfl
    simp only [fc, O1, M0, W, r8, r9] at c4 c1 c2 c3 e1 hpad m1 m2 ⊢
    simp [-a_pairs, -a_eqOwn, hpad, hs, at0, wipeR, c1, hw0, hz, q1, q2, lenC, hN2, hN3, hN4, c2, q3, hP, e1, e2, m1, m2, m3, eq_s, ne_b, c3, c4, e0, e0']
  · obtain ⟨e, xr, hxe⟩ : ∃ e xr, xs = e :: xr := by
      cases z : xs with
      | nil => exact (hx z).elim
      | cons e xr => exact ⟨e, xr, rfl⟩
    have c4 := lcGo_none (i := 11) (fc := fc) (fe := vF 11) (ps := ps) (ρ := [some M0, some W, some (.str w0), some (dkW (N1 ++ [zzz]) (updS g zzz (g w0))), some (.lst [O1, prL N g b (X ++ [e])]), some (dkW M k), y6, y7, some r8, some r9, some (.lst (strL xs)), none]) (ds := [O1, prL N g b (X ++ [e])]) fun d hd => by
      simp only [List.mem_cons, List.not_mem_nil, or_false] at hd
      rcases hd with rfl | rfl
      · exact k1 _ rfl rfl
      · exact k2 e (by rw [hxe]; simp) _ rfl rfl
    have e0 : D.eqO (.lst []) (.lst []) = some true := rfl
    have e0' : D.ne (.lst (strL xs)) (.lst []) = pure (.bl true) := by rw [ne_strL0, decide_eq_false hx]; rfl
    have e0'' : cutD (strL xs) none (some 1) = [.str e] := by rw [hxe]; exact cut1 _ _
    have eX : strL X ++ [.str e] = strL (X ++ [e]) := by simp
    unfold f__law_unlike g__law_unlike
    have hz : (Str.ofString "zzz") = zzz := rfl
    simp only [fc, O1, M0, W, r8, r9] at c4 c1 c2 c3 e1 hpad m1 m2 ⊢
    clear_value xs
    simp only [prL, ← eX] at c4
    simp [-a_pairs, -a_eqOwn, hpad, hs, at0, wipeR, c1, hw0, hz, q1, q2, lenC, hN2, hN3, hN4, c2, q3, hP, e1, e2, m1, m2, m3, eq_s, ne_b, c3, hxs, e0, e0', e0'', hXl1, c4]
end K01
set_option Elab.async false
set_option linter.all false
set_option maxRecDepth 100000
set_option maxHeartbeats 4000000
/-! M13: drawn words and names. -/
namespace DL
open PySem L2
theorem cut_to (xs : List D) (m : Nat) : cutD xs none (some (m : Int)) = xs.take m := by
  unfold cutD
  rw [HT.sIx_none, HT.sIx_nat, List.drop_zero, Nat.sub_zero]
  by_cases h : m ≤ xs.length
  · rw [Nat.min_eq_left h]
  · rw [Nat.min_eq_right (by omega), List.take_length, List.take_of_length_le (by omega)]
theorem cut_from (xs : List D) (m : Nat) : cutD xs (some (m : Int)) none = xs.drop m := by
  unfold cutD
  rw [HT.sIx_none, HT.sIx_nat]
  by_cases h : m ≤ xs.length
  · rw [Nat.min_eq_left h, List.take_of_length_le (by rw [List.length_drop]; omega)]
  · rw [Nat.min_eq_right (by omega), List.drop_of_length_le (l := xs) (i := m) (by omega)]; simp
def rotS (M : List Str) (r m : Nat) : List Str := (M.drop r ++ M.take r).take m
theorem rotS_perm (M : List Str) (r : Nat) : (M.drop r ++ M.take r).Perm M := by
  have h : (M.drop r ++ M.take r).Perm (M.take r ++ M.drop r) := List.perm_append_comm
  rwa [List.take_append_drop] at h
theorem rotS_nodup {M : List Str} (h : M.Nodup) (r m : Nat) : (rotS M r m).Nodup := List.Nodup.sublist (List.take_sublist ..) ((rotS_perm M r).nodup_iff.mpr h)
theorem rotS_mem {M : List Str} {r m : Nat} {x : Str} (h : x ∈ rotS M r m) : x ∈ M := (rotS_perm M r).mem_iff.mp (List.mem_of_mem_take h)
theorem rotS_len {M : List Str} {r m : Nat} (h : m ≤ M.length) : (rotS M r m).length = m := by
  unfold rotS
  rw [List.length_take, (rotS_perm M r).length_eq]; omega
theorem rot_D (M : List Str) (r m : Nat) : cutD (cutD (strL M) (some (r : Int)) none ++ cutD (strL M) none (some (r : Int))) none (some (m : Int)) = strL (rotS M r m) := by
  rw [cut_to, cut_from, cut_to]
  unfold rotS strL
  rw [List.map_take, List.map_append, List.map_drop, List.map_take]
theorem rot_len2 (M : List Str) (r : Nat) : (cutD (strL M) (some (r : Int)) none).length + (cutD (strL M) none (some (r : Int))).length = M.length := by
  rw [cut_from, cut_to, List.length_drop, List.length_take]
  simp; omega
end DL
namespace K01
open PySem L2 DL
def menu1 : List Str := ["a", "b", "c", "d", "e", "f", "g"]
def menu2 : List Str := ["x", "way", "runs", "stop", "b", "zz", "place"]
def menu3 : List Str := ["p", "q", "r", "s", "t", "u", "v", "x", "b", "a", "way", "none"]
theorem menu1_nd : menu1.Nodup := by decide +kernel
theorem menu2_nd : menu2.Nodup := by decide +kernel
theorem menu3_nd : menu3.Nodup := by decide +kernel
theorem menu1_w : ∀ x ∈ menu1, isWb x = true := by decide +kernel
theorem menu2_w : ∀ x ∈ menu2, isWb x = true := by decide +kernel
theorem menu3_w : ∀ x ∈ menu3, isWb x = true := by decide +kernel
theorem menu3_z : ∀ x ∈ menu3, x ≠ zzz ∧ x ∉ zN ∧ x ≠ ("zzzz" : Str) := by decide +kernel
def PsOk (nums : List Int) (p : Ps) : Prop := ∃ k, p = some ⟨nums, k⟩
theorem draw_ok (a : Ad) {nums : List Int} (hp : ∀ z ∈ nums, 0 ≤ z) (m : Nat) (hm : 0 < m) {p : Ps} (h : PsOk nums p) : ∃ (r : Nat) (p' : Ps), f__law_draw a [.pool, .int (m : Int)] p = .ok (.int (r : Int)) p' ∧ r < m ∧ PsOk nums p' := by
  obtain ⟨k, rfl⟩ := h
  obtain ⟨r, h1, h2⟩ := law_draw a nums k m hm hp
  exact ⟨r, _, h1, h2, _, rfl⟩
theorem words_ok (a : Ad) {nums : List Int} (hp : ∀ z ∈ nums, 0 ≤ z) (m : Nat) (hm : m ≤ 7) {p : Ps} (h : PsOk nums p) : ∃ V p', f__law_words a [.pool, .int (m : Int)] p = .ok (.lst (strL V)) p' ∧ V.length = m ∧ V.Nodup ∧ (∀ x ∈ V, isWb x = true) ∧ PsOk nums p' := by
  have hpad : padR 5 [.pool, .int (m : Int)] = [some .pool, some (.int (m : Int)), none, none, none] := rfl
  obtain ⟨r1, p1, d1, hr1, g1⟩ := draw_ok a hp 2 (by decide) h
  obtain ⟨r2, p2, d2, hr2, g2⟩ := draw_ok a hp 7 (by decide) g1
  have d1 : f__law_draw a [.pool, .int 2] p = _ := d1
  have d2 : f__law_draw a [.pool, .int 7] p1 = _ := d2
  have go : ∀ M : List Str, M.length = 7 → M.Nodup → (∀ x ∈ M, isWb x = true) → atI [D.lst (strL menu1), D.lst (strL menu2)] (r1 : Int) = some (.lst (strL M)) → ∃ V p', f__law_words a [.pool, .int (m : Int)] p = .ok (.lst (strL V)) p' ∧ V.length = m ∧ V.Nodup ∧ (∀ x ∈ V, isWb x = true) ∧ PsOk nums p' := fun M hl nd hw hat => by
    refine ⟨rotS M r2 m, p2, ?_, rotS_len (by omega), rotS_nodup nd r2 m, fun x hx => hw x (rotS_mem hx), g2⟩
    have e1 := rot_D M r2 m
    have e2 := rot_len2 M r2
    rw [hl] at e2
    have e3 : ([.lst [.str "a", .str "b", .str "c", .str "d", .str "e", .str "f", .str "g"], .lst [.str "x", .str "way", .str "runs", .str "stop", .str "b", .str "zz", .str "place"]] : List D) = [D.lst (strL menu1), D.lst (strL menu2)] := rfl
    unfold f__law_words g__law_words
    simp only [a_runF, hpad, a_sqF, a_stF, a_lstF, a_cons, a_cF, bd_ok, a_nil, List.length_cons, List.length_nil, show lenC (0+1+1+1+1+1+1+1) = true from rfl, show lenC (0+1+1) = true from rfl, if_pos, e3]
    simp [d1, d2, hat, e1, e2, lenC]
  have : r1 = 0 ∨ r1 = 1 := by omega
  rcases this with rfl | rfl
  · exact go menu1 rfl menu1_nd menu1_w rfl
  · exact go menu2 rfl menu2_nd menu2_w rfl
theorem names_ok (a : Ad) {nums : List Int} (hp : ∀ z ∈ nums, 0 ≤ z) (m : Nat) (hm : m ≤ 12) {p : Ps} (h : PsOk nums p) : ∃ V p', f__law_names a [.pool, .int (m : Int)] p = .ok (.lst (strL V)) p' ∧ V.length = m ∧ V.Nodup ∧ (∀ x ∈ V, x ∈ menu3) ∧ PsOk nums p' := by
  have hpad : padR 4 [.pool, .int (m : Int)] = [some .pool, some (.int (m : Int)), none, none] := rfl
  obtain ⟨r2, p2, d2, hr2, g2⟩ := draw_ok a hp 12 (by decide) h
  have d2 : f__law_draw a [.pool, .int 12] p = _ := d2
  refine ⟨rotS menu3 r2 m, p2, ?_, rotS_len hm, rotS_nodup menu3_nd r2 m, fun x hx => rotS_mem hx, g2⟩
  have e1 := rot_D menu3 r2 m
  have e2 := rot_len2 menu3 r2
  rw [show menu3.length = 12 from rfl] at e2
  have e3 : ([.str "p", .str "q", .str "r", .str "s", .str "t", .str "u", .str "v", .str "x", .str "b", .str "a", .str "way", .str "none"] : List D) = strL menu3 := rfl
  unfold f__law_names g__law_names
  simp only [a_runF, hpad, a_sqF, a_stF, a_lstF, a_cons, a_cF, bd_ok, a_nil, List.length_cons, List.length_nil, show lenC (0+1+1+1+1+1+1+1+1+1+1+1+1) = true from rfl, if_pos, e3]
  have e4 : menu3.length ≤ 1000000 := by decide
  simp [d2, e1, e2, lenC, e4]
end K01
set_option Elab.async false
set_option linter.all false
set_option maxRecDepth 100000
set_option maxHeartbeats 4000000
/-! M14: a drawn program is one: the plain law. -/
namespace K01
open PySem L2 DL
/-- a tree of ways: way j - 1 leads to place j from one before it -/
def Tree (V names : List Str) (g : Str → Str × Str) (O : List Str) (i : Nat) : Prop := ∀ j, 1 ≤ j → j < i → ∃ (k : Nat) (n p q : Str), k < j ∧ names[j - 1]? = some n ∧ V[k]? = some p ∧ V[j]? = some q ∧ g n = (p, q) ∧ p ∈ O
def Outs (V names : List Str) (g : Str → Str × Str) (O : List Str) (i : Nat) : Prop := ∀ o ∈ O, ∃ (j k : Nat) (n q : Str), 1 ≤ j ∧ j < i ∧ k < j ∧ names[j - 1]? = some n ∧ V[k]? = some o ∧ V[j]? = some q ∧ g n = (o, q)
theorem stepP_in {A : List Str} {p : Str × Str} (h1 : p.1 ∈ A) (h2 : p.2 ∈ A) : stepP A p = A := by
  unfold stepP
  simp [h1, h2]
theorem stepP_new {A : List Str} {p : Str × Str} (h1 : p.1 ∈ A) (h2 : p.2 ∉ A) : stepP A p = A ++ [p.2] := by
  unfold stepP
  simp [h1, h2]
theorem lawP_app (M N : List Str) (g : Str → Str × Str) (A : List Str) : lawP (M ++ N) g A = lawP N g (lawP M g A) := by unfold lawP; rw [List.foldl_append]
theorem lawP_in {g : Str → Str × Str} {A : List Str} : ∀ {N : List Str}, (∀ n ∈ N, (g n).1 ∈ A ∧ (g n).2 ∈ A) → lawP N g A = A
  | [], _ => rfl
  | n :: r, h => by
    have := h n (List.mem_cons_self ..)
    show lawP r g (stepP A (g n)) = A
    rw [stepP_in this.1 this.2]
    exact lawP_in fun m hm => h m (List.mem_cons_of_mem _ hm)
theorem mem_take_of_get {V : List Str} {k i : Nat} {p : Str} (h : V[k]? = some p) (hk : k < i) : p ∈ V.take i := by
  have : (V.take i)[k]? = some p := by rw [List.getElem?_take_of_lt hk]; exact h
  exact List.mem_of_getElem? this
theorem get_inj {V : List Str} (nd : V.Nodup) {i j : Nat} {p : Str} (h1 : V[i]? = some p) (h2 : V[j]? = some p) : i = j :=
  (List.getElem?_inj (List.getElem?_eq_some_iff.mp h1).1 nd).mp (h1.trans h2.symm)
theorem tree_places {V names : List Str} {g : Str → Str × Str} {O : List Str} {m : Nat} (nd : V.Nodup) (hm : m ≤ V.length) (hn : m ≤ names.length + 1) (T : Tree V names g O m) : ∀ i, 2 ≤ i → i ≤ m → lawP (names.take (i - 1)) g [] = V.take i := by
  intro i
  induction i with
  | zero => intro h; omega
  | succ i ih =>
    intro h1 h2
    obtain ⟨k, n, p, q, t1, t2, t3, t4, t5, t6⟩ := T i (by omega) (by omega)
    have e1 : names.take (i + 1 - 1) = names.take (i - 1) ++ [n] := by
      obtain ⟨hl, e⟩ := List.getElem?_eq_some_iff.mp t2
      rw [show i + 1 - 1 = i - 1 + 1 from by omega, List.take_succ_eq_append_getElem hl, e]
    have e2 : V.take (i + 1) = V.take i ++ [q] := by
      obtain ⟨hl, e⟩ := List.getElem?_eq_some_iff.mp t4
      rw [List.take_succ_eq_append_getElem hl, e]
    rw [e1, e2, lawP_app]
    show stepP (lawP (names.take (i - 1)) g []) (g n) = _
    rw [t5]
    by_cases hi : i = 1
    · subst hi
      have : k = 0 := by omega
      subst this
      have hpq : p ≠ q := fun e => by subst e; exact absurd (get_inj nd t3 t4) (by decide)
      have e3 : V.take 1 = [p] := by
        obtain ⟨hl, e⟩ := List.getElem?_eq_some_iff.mp t3
        rw [List.take_succ_eq_append_getElem hl, e]; rfl
      rw [e3]
      show stepP [] (p, q) = _
      rfl
    · rw [ih (by omega) (by omega)]
      refine stepP_new (mem_take_of_get t3 t1) fun z => ?_
      obtain ⟨j, hj, e⟩ := List.mem_iff_getElem.mp z
      rw [List.length_take] at hj
      have : V[j]? = some q := by
        rw [List.getElem_take] at e
        have e : V[j] = q := e
        rw [← e]; exact List.getElem?_eq_getElem (by omega)
      have := get_inj nd this t4
      omega
structure Drawn (V names N : List Str) (g : Str → Str × Str) (O X : List Str) (e : Nat) : Prop where
  m2 : 2 ≤ V.length
  m6 : V.length ≤ 6
  vnd : V.Nodup
  vw : ∀ x ∈ V, isWb x = true
  nnd : names.Nodup
  nw : ∀ x ∈ names, x ∈ menu3
  nl : names.length = V.length - 1 + 4
  e4 : e ≤ 4
  eN : N = names.take (V.length - 1 + e)
  tree : Tree V names g O V.length
  outs : Outs V names g O V.length
  ends : ∀ n ∈ N, (g n).1 ∈ V ∧ (g n).2 ∈ V
  xs : X.Sublist V
  xo : ∀ x ∈ V, x ∉ O → x ∈ X
theorem Drawn.unl {V names N : List Str} {g : Str → Str × Str} {O X : List Str} {e : Nat} (D : Drawn V names N g O X e) {b : Str} (hb : V[0]? = some b) : Unl N g b X := by
  have hm2 := D.m2
  have hm6 := D.m6
  have hnl := D.nl
  have he := D.e4
  have hNm : ∀ n ∈ N, n ∈ menu3 := fun n hn => D.nw n (by rw [D.eN] at hn; exact List.mem_of_mem_take hn)
  have hNl : N.length = V.length - 1 + e := by rw [D.eN, List.length_take]; omega
  have inN : ∀ {j : Nat} {n : Str}, j < V.length → 1 ≤ j → names[j - 1]? = some n → n ∈ N := fun {j n} h1 h2 h3 => by rw [D.eN]; exact mem_take_of_get h3 (by omega)
  have pm : ∀ p, p ∈ plcs N g ↔ p ∈ V := fun p => by
    constructor
    · intro hp
      obtain ⟨n, hn, q⟩ := plcs_mem.mp hp
      rcases q with rfl | rfl
      · exact (D.ends n hn).1
      · exact (D.ends n hn).2
    · intro hp
      obtain ⟨j, hj, rfl⟩ := List.mem_iff_getElem.mp hp
      by_cases h0 : j = 0
      · subst h0
        obtain ⟨k, n, p, q, t1, t2, t3, t4, t5, t6⟩ := D.tree 1 (by omega) (by omega)
        have : k = 0 := by omega
        subst this
        have e1 : V[0] = p := by have := List.getElem?_eq_getElem hj; rw [t3] at this; exact (Option.some.inj this).symm
        exact plcs_mem.mpr ⟨n, inN (by omega) (by omega) t2, .inl (by rw [t5]; exact e1)⟩
      · obtain ⟨k, n, p, q, t1, t2, t3, t4, t5, t6⟩ := D.tree j (by omega) hj
        have e1 : V[j] = q := by have := List.getElem?_eq_getElem hj; rw [t4] at this; exact (Option.some.inj this).symm
        exact plcs_mem.mpr ⟨n, inN hj (by omega) t2, .inr (by rw [t5]; exact e1)⟩
  have hlp : lawP N g [] = V := by
    have e1 : N = names.take (V.length - 1) ++ (names.drop (V.length - 1)).take e := by
      rw [D.eN, List.take_add]
    rw [e1, lawP_app, tree_places D.vnd (Nat.le_refl _) (by omega) D.tree V.length hm2 (Nat.le_refl _), List.take_length]
    exact lawP_in fun n hn => D.ends n (by rw [e1]; exact List.mem_append_right _ hn)
  have hplen : (plcs N g).length ≤ V.length := nodup_len (plcs_nodup N g) fun p hp => (pm p).mp hp
  have hlast : ∃ l, V[V.length - 1]? = some l ∧ l ∈ X := by
    refine ⟨_, List.getElem?_eq_getElem (by omega), D.xo _ (List.getElem_mem _) fun z => ?_⟩
    obtain ⟨j, k, n, q, t1, t2, t3, t4, t5, t6, t7⟩ := D.outs _ z
    have := get_inj D.vnd t5 (List.getElem?_eq_getElem (by omega))
    omega
  have hbV : b ∈ V := List.mem_of_getElem? hb
  refine { ways := ⟨by rw [D.eN]; exact D.nnd.sublist (List.take_sublist ..), by omega, by omega, fun n hn => menu3_w n (hNm n hn), fun n hn => ⟨D.vw _ (D.ends n hn).1, D.vw _ (D.ends n hn).2⟩⟩, few := by omega, bg := (pm b).mpr hbV, xnd := D.vnd.sublist D.xs, xne := ?_, x := fun x hx => (pm x).mpr (D.xs.subset hx), reach := fun C h0 hs => ?_, leave := fun C hX hs => ?_, pl := ?_, le := by omega, z3 := fun z => (menu3_z _ (hNm _ z)).1 rfl, z1 := fun z hz hn => (menu3_z _ (hNm _ hn)).2.1 hz, six := by omega, nine := by omega }
  · obtain ⟨l, _, hl⟩ := hlast
    exact fun z => by rw [z] at hl; cases hl
  · have : ∀ (i j : Nat) (p : Str), j ≤ i → V[j]? = some p → C p := by
      intro i
      induction i with
      | zero =>
        intro j p hj hp
        have : j = 0 := by omega
        subst this
        rw [hb] at hp; cases hp; exact h0
      | succ i ih =>
        intro j p hj hp
        by_cases h0' : j = 0
        · subst h0'; rw [hb] at hp; cases hp; exact h0
        · have hjl := (List.getElem?_eq_some_iff.mp hp).1
          obtain ⟨k, n, p', q, t1, t2, t3, t4, t5, t6⟩ := D.tree j (by omega) hjl
          rw [hp] at t4; cases t4
          have := hs n (inN hjl (by omega) t2)
          rw [t5] at this
          exact this (ih k p' (by omega) t3)
    intro p hp
    obtain ⟨j, hj, rfl⟩ := List.mem_iff_getElem.mp ((pm p).mp hp)
    exact this j j _ (Nat.le_refl _) (List.getElem?_eq_getElem hj)
  · have : ∀ (i j : Nat) (p : Str), V.length ≤ i + j → V[j]? = some p → C p := by
      intro i
      induction i with
      | zero =>
        intro j p hj hp
        have := (List.getElem?_eq_some_iff.mp hp).1
        omega
      | succ i ih =>
        intro j p hj hp
        by_cases hO : p ∈ O
        · obtain ⟨j', k, n, q, t1, t2, t3, t4, t5, t6, t7⟩ := D.outs p hO
          have := get_inj D.vnd t5 hp
          subst this
          have hc := ih j' q (by omega) t6
          have := hs n (inN t2 t1 t4)
          rw [t7] at this
          exact this hc
        · exact hX p (D.xo p (List.mem_of_getElem? hp) hO)
    intro p hp
    obtain ⟨j, hj, rfl⟩ := List.mem_iff_getElem.mp ((pm p).mp hp)
    exact this V.length j _ (by omega) (List.getElem?_eq_getElem hj)
  · rw [hlp]
    refine sort_uniq ((sortS_perm V).trans (nodup_perm D.vnd (plcs_nodup N g) fun p => (pm p).symm)) (sortS_sorted V) (plcs_sorted N g)
end K01
set_option Elab.async false
set_option linter.all false
set_option maxRecDepth 100000
set_option maxHeartbeats 4000000
/-! M15: law_program evaluated. -/
namespace DL
open PySem L2
theorem lcS_run {fc : FT} {fe : FE} {ρ : Rho} {i : Nat} (Pp : Ps → Prop) (must : Str → Prop) : ∀ (N : List Str) (ps : Ps), Pp ps → (∀ n ∈ N, ∀ ps, Pp ps → (∃ b ps', fc (ρ.set i (some (.str n))) ps = .ok b ps' ∧ Pp ps' ∧ (must n → b = true)) ∧ fe (ρ.set i (some (.str n))) ps = .ok (.str n) ps) →
    ∃ X ps', lcGo (nmF i) fc fe (strL N) ρ ps = .ok (strL X) ps' ∧ Pp ps' ∧ X.Sublist N ∧ ∀ n ∈ N, must n → n ∈ X
  | [], ps, hp, _ => ⟨[], ps, rfl, hp, .slnil, fun n hn => nomatch hn⟩
  | n :: r, ps, hp, hs => by
    obtain ⟨⟨b, ps1, h1, h2, h3⟩, _⟩ := hs n (List.mem_cons_self ..) ps hp
    obtain ⟨_, h4⟩ := hs n (List.mem_cons_self ..) ps1 h2
    obtain ⟨X, ps2, h5, h6, h7, h8⟩ := lcS_run Pp must r ps1 h2 fun m hm => hs m (List.mem_cons_of_mem _ hm)
    cases b with
    | true =>
      refine ⟨n :: X, ps2, ?_, h6, h7.cons₂ _, fun m hm q => ?_⟩
      · show tuF (nmF i) fc (.str n) _ ρ ps = _
        rw [tu_ap]
        simp only [a_noX, a_nmF, bd_ok, h1, if_pos, ap_bind, h4, h5, ap_pure]
        rfl
      · rcases List.mem_cons.mp hm with rfl | z
        · exact List.mem_cons_self ..
        · exact List.mem_cons_of_mem _ (h8 m z q)
    | false =>
      refine ⟨X, ps2, ?_, h6, h7.cons _, fun m hm q => ?_⟩
      · show tuF (nmF i) fc (.str n) _ ρ ps = _
        rw [tu_ap]
        simp only [a_noX, a_nmF, bd_ok, h1, Bool.false_eq_true, if_false]
        exact h5
      · rcases List.mem_cons.mp hm with rfl | z
        · exact absurd (h3 q) (by decide)
        · exact h8 m z q
end DL
namespace K01
open PySem L2 DL
theorem rng_at (i n : Nat) : rngD (i : Int) n = rngL i n := by
  unfold rngD rngL
  rw [List.range'_eq_map_range, List.map_map]
  refine List.map_congr_left fun j _ => ?_
  simp
theorem getS {V : List Str} {j : Nat} {p : Str} (h : V[j]? = some p) : atI (strL V) (j : Int) = some (.str p) := atI_nat (by unfold strL; rw [List.getElem?_map, h]; rfl)
theorem putO (O : List Str) (p : Str) : putD (dkL O fun _ => .bl true) (.inr p) (.bl true) = dkL (addS O p) fun _ => .bl true := by
  unfold addS
  by_cases h : p ∈ O
  · rw [putD_old h, if_pos h, updS_id (fun _ => D.bl true) p]
  · rw [putD_new h, if_neg h, updS_id (fun _ => D.bl true) p]
theorem Tree.step {V names : List Str} {g : Str → Str × Str} {O : List Str} {i : Nat} (T : Tree V names g O i) (nd : names.Nodup) {k : Nat} {n p q : Str} (h1 : 1 ≤ i) (hk : k < i) (hn : names[i - 1]? = some n) (hp : V[k]? = some p) (hq : V[i]? = some q) : Tree V names (updS g n (p, q)) (addS O p) (i + 1) := by
  intro j j1 j2
  by_cases e : j = i
  · subst e; exact ⟨k, n, p, q, hk, hn, hp, hq, updS_at .., addS_mem.mpr (.inr rfl)⟩
  · obtain ⟨k', n', p', q', t1, t2, t3, t4, t5, t6⟩ := T j j1 (by omega)
    refine ⟨k', n', p', q', t1, t2, t3, t4, ?_, addS_mem.mpr (.inl t6)⟩
    rw [updS_ne fun z => ?_]; · exact t5
    subst z
    have := get_inj nd t2 hn; omega
theorem Outs.step {V names : List Str} {g : Str → Str × Str} {O : List Str} {i : Nat} (T : Outs V names g O i) (nd : names.Nodup) {k : Nat} {n p q : Str} (h1 : 1 ≤ i) (hk : k < i) (hn : names[i - 1]? = some n) (hp : V[k]? = some p) (hq : V[i]? = some q) : Outs V names (updS g n (p, q)) (addS O p) (i + 1) := by
  intro o ho
  rcases addS_mem.mp ho with ho | rfl
  · obtain ⟨j, k', n', q', t1, t2, t3, t4, t5, t6, t7⟩ := T o ho
    refine ⟨j, k', n', q', t1, by omega, t3, t4, t5, t6, ?_⟩
    rw [updS_ne fun z => ?_]; · exact t7
    subst z
    have := get_inj nd t4 hn; omega
  · exact ⟨i, k, n, q, h1, by omega, hk, hn, hp, hq, updS_at ..⟩
theorem Tree.keep {V names : List Str} {g : Str → Str × Str} {O : List Str} {i t : Nat} {n : Str} {v : Str × Str} (T : Tree V names g O i) (nd : names.Nodup) (hn : names[t]? = some n) (ht : i - 1 ≤ t) : Tree V names (updS g n v) O i := by
  intro j j1 j2
  obtain ⟨k', n', p', q', t1, t2, t3, t4, t5, t6⟩ := T j j1 j2
  refine ⟨k', n', p', q', t1, t2, t3, t4, ?_, t6⟩
  rw [updS_ne fun z => ?_]; · exact t5
  subst z
  have := get_inj nd t2 hn; omega
theorem Outs.keep {V names : List Str} {g : Str → Str × Str} {O : List Str} {i t : Nat} {n : Str} {v : Str × Str} (T : Outs V names g O i) (nd : names.Nodup) (hn : names[t]? = some n) (ht : i - 1 ≤ t) : Outs V names (updS g n v) O i := by
  intro o ho
  obtain ⟨j, k', n', q', t1, t2, t3, t4, t5, t6, t7⟩ := T o ho
  refine ⟨j, k', n', q', t1, t2, t3, t4, t5, t6, ?_⟩
  rw [updS_ne fun z => ?_]; · exact t7
  subst z
  have := get_inj nd t4 hn; omega
theorem not_taken {names : List Str} (nd : names.Nodup) {t : Nat} {n : Str} (hn : names[t]? = some n) : n ∉ names.take t := fun z => by
  obtain ⟨j, hj, e⟩ := List.mem_iff_getElem.mp z
  rw [List.length_take] at hj
  rw [List.getElem_take] at e
  have : names[j]? = some n := by rw [← e]; exact List.getElem?_eq_getElem (by omega)
  have := get_inj nd this hn
  omega
theorem take_more {names : List Str} {t : Nat} {n : Str} (hn : names[t]? = some n) : names.take (t + 1) = names.take t ++ [n] := by
  obtain ⟨hl, e⟩ := List.getElem?_eq_some_iff.mp hn
  rw [List.take_succ_eq_append_getElem hl, e]
/-- the def's frame -/
def pF (V names : List Str) (pr ou x8 x9 x10 x11 x12 x13 : Option D) : Rho := [some .pool, some (.int 6), some (.int 4), some (.bl true), some (.lst (strL V)), some (.lst (strL names)), pr, ou, x8, x9, x10, x11, x12, x13, none, none]
theorem loop1 (a : Ad) {nums : List Int} (hp : ∀ z ∈ nums, 0 ≤ z) {V names : List Str} (nd : names.Nodup) (h2 : 2 ≤ V.length) (h6 : V.length ≤ 6) (hn : V.length ≤ names.length + 1) (x8 x9 : Option D) {p : Ps} (h : PsOk nums p) : ∃ g O y8 y9 p', foN (nmF 8) (lb1__law_program a) (rngL 1 (V.length - 1)) (pF V names (some (.dk [])) (some (.dk [])) x8 x9 none none none none) p = .ok (.nx (pF V names (some (dkW (names.take (V.length - 1)) g)) (some (.dk (dkL O fun _ => .bl true))) y8 y9 none none none none)) p' ∧ PsOk nums p' ∧ Tree V names g O V.length ∧ Outs V names g O V.length := by
  obtain ⟨ρ', p', e1, e2, i, g, O, y8, y9, e0, e3, e4, e5, rfl, e7, e8⟩ := foN_run (F := nmF 8) (body := lb1__law_program a) (fun ds ρ p => PsOk nums p ∧ ∃ (i : Nat) (g : Str → Str × Str) (O : List Str) (x8 x9 : Option D), O.length ≤ i ∧ ds = rngL i ds.length ∧ i + ds.length = V.length ∧ 1 ≤ i ∧ ρ = pF V names (some (dkW (names.take (i - 1)) g)) (some (.dk (dkL O fun _ => .bl true))) x8 x9 none none none none ∧ Tree V names g O i ∧ Outs V names g O i) (fun d r ρ p hP => by
    obtain ⟨hps, i, g, O, x8, x9, e0, e3, e4, e5, rfl, T, U⟩ := hP
    rw [List.length_cons] at e3 e4
    obtain ⟨rfl, hr⟩ := rngL_cons e3
    have hi : i < V.length := by omega
    obtain ⟨k, p1, d1, d2, d3⟩ := draw_ok a hp i e5 hps
    have hk : V[k]? = some V[k] := List.getElem?_eq_getElem (by omega)
    have hq : V[i]? = some V[i] := List.getElem?_eq_getElem hi
    have hn' : names[i - 1]? = some names[i - 1] := List.getElem?_eq_getElem (by omega)
    have a1 := getS hk
    have a2 := getS hq
    have a3 : atI (strL names) ((i : Int) - 1) = some (.str names[i - 1]) := by
      rw [show (i : Int) - 1 = ((i - 1 : Nat) : Int) from by omega]; exact getS hn'
    have hnt := not_taken nd hn'
    have b1 : putD (dkL (names.take (i - 1)) fun n => pairT (g n)) (.inr names[i - 1]) (pairT (V[k], V[i])) = dkL (names.take i) fun n => pairT (updS g names[i - 1] (V[k], V[i]) n) := by
      rw [putD_new hnt, updS_pair, ← take_more hn', show i - 1 + 1 = i from by omega]
    have b2 := putO O V[k]
    have hO : O.length ≤ 999999 := by omega
    have hO2 : (addS O V[k]).length ≤ i + 1 := by
      have : (addS O V[k]).length ≤ O.length + 1 := by unfold addS; split <;> simp
      omega
    have hT : min (i - 1) names.length ≤ 999999 := by omega
    refine ⟨pF V names (some (dkW (names.take (i - 1)) g)) (some (.dk (dkL O fun _ => .bl true))) (some (.int (i : Int))) x9 none none none none, _, pF V names (some (dkW (names.take i) (updS g names[i - 1] (V[k], V[i])))) (some (.dk (dkL (addS O V[k]) fun _ => .bl true))) (some (.int (i : Int))) (some (.str V[k])) none none none none, p1, rfl, ?_, .inl rfl, d3, i + 1, _, _, _, _, hO2, hr, by omega, by omega, rfl, T.step nd e5 d2 hn' hk hq, U.step nd e5 d2 hn' hk hq⟩
    unfold lb1__law_program pF
    have hpr : D.tup [.str V[k], .str V[i]] = pairT (V[k], V[i]) := rfl
    simp [d1, a1, a2, a3, lenC, hpr, b1, b2, hO, hT]) (rngL 1 (V.length - 1)) (pF V names (some (.dk [])) (some (.dk [])) x8 x9 none none none none) p
    ⟨h, 1, fun _ => default, [], x8, x9, by simp, by rw [rngL_len], by rw [rngL_len]; omega, by omega, rfl, fun j j1 j2 => by omega, fun o ho => nomatch ho⟩
  simp only [List.length_nil, Nat.add_zero] at e4
  subst e4
  exact ⟨g, O, y8, y9, p', e1, e2, e7, e8⟩
theorem loop2 (a : Ad) {nums : List Int} (hp : ∀ z ∈ nums, 0 ≤ z) {V names : List Str} (nd : names.Nodup) (h2 : 2 ≤ V.length) (h6 : V.length ≤ 6) (hn : names.length = V.length - 1 + 4) (e : Nat) (he : e ≤ 4) (g : Str → Str × Str) (O : List Str) (ou : D) (T : Tree V names g O V.length) (U : Outs V names g O V.length) (x8 x9 : Option D) {p : Ps} (h : PsOk nums p) :
    ∃ (g' : Str → Str × Str) (y8 y10 y11 y12 y13 : Option D) (p' : Ps), foN (nmF 8) (lb2__law_program a) (rngL 0 e) (pF V names (some (dkW (names.take (V.length - 1)) g)) (some ou) x8 x9 none none none none) p = .ok (.nx (pF V names (some (dkW (names.take (V.length - 1 + e)) g')) (some ou) y8 x9 y10 y11 y12 y13)) p' ∧ PsOk nums p' ∧ Tree V names g' O V.length ∧ Outs V names g' O V.length ∧ ∀ n ∈ names.take (V.length - 1 + e), (g' n).1 ∈ V ∧ (g' n).2 ∈ V := by
  have base : ∀ n ∈ names.take (V.length - 1 + 0), (g n).1 ∈ V ∧ (g n).2 ∈ V := fun n hm => by
    obtain ⟨j, hj, rfl⟩ := List.mem_iff_getElem.mp hm
    rw [List.length_take] at hj
    obtain ⟨k, n, p, q, t1, t2, t3, t4, t5, t6⟩ := T (j + 1) (by omega) (by omega)
    have : n = (names.take (V.length - 1 + 0))[j] := by
      rw [List.getElem_take]
      have := List.getElem?_eq_getElem (l := names) (i := j) (by omega)
      rw [show j + 1 - 1 = j from by omega, this] at t2
      exact (Option.some.inj t2).symm
    rw [← this, t5]
    exact ⟨List.mem_of_getElem? t3, List.mem_of_getElem? t4⟩
  obtain ⟨ρ', p', e1, e2, t, g', y8, y10, y11, y12, y13, e3, e4, rfl, e7, e8, e9⟩ := foN_run (F := nmF 8) (body := lb2__law_program a) (fun ds ρ p => PsOk nums p ∧ ∃ (t : Nat) (g : Str → Str × Str) (x8 x10 x11 x12 x13 : Option D), ds = rngL t ds.length ∧ t + ds.length = e ∧ ρ = pF V names (some (dkW (names.take (V.length - 1 + t)) g)) (some ou) x8 x9 x10 x11 x12 x13 ∧ Tree V names g O V.length ∧ Outs V names g O V.length ∧ ∀ n ∈ names.take (V.length - 1 + t), (g n).1 ∈ V ∧ (g n).2 ∈ V) (fun d r ρ p hP => by
    obtain ⟨hps, t, g, x8, x10, x11, x12, x13, e3, e4, rfl, T, U, hE⟩ := hP
    rw [List.length_cons] at e3 e4
    obtain ⟨rfl, hr⟩ := rngL_cons e3
    obtain ⟨k1, p1, d1, d2, d3⟩ := draw_ok a hp V.length (by omega) hps
    obtain ⟨k2, p2, f1, f2, f3⟩ := draw_ok a hp V.length (by omega) d3
    have hk : V[k1]? = some V[k1] := List.getElem?_eq_getElem (by omega)
    have hq : V[k2]? = some V[k2] := List.getElem?_eq_getElem (by omega)
    have hn' : names[V.length - 1 + t]? = some names[V.length - 1 + t] := List.getElem?_eq_getElem (by omega)
    have a1 := getS hk
    have a2 := getS hq
    have a3 : atI (strL names) ((V.length : Int) - 1 + (t : Int)) = some (.str names[V.length - 1 + t]) := by
      rw [show (V.length : Int) - 1 + (t : Int) = ((V.length - 1 + t : Nat) : Int) from by omega]; exact getS hn'
    have hnt := not_taken nd hn'
    have b1 : putD (dkL (names.take (V.length - 1 + t)) fun n => pairT (g n)) (.inr names[V.length - 1 + t]) (pairT (V[k1], V[k2])) = dkL (names.take (V.length - 1 + (t + 1))) fun n => pairT (updS g names[V.length - 1 + t] (V[k1], V[k2]) n) := by
      rw [putD_new hnt, updS_pair, ← take_more hn', show V.length - 1 + t + 1 = V.length - 1 + (t + 1) from by omega]
    have hT : min (V.length - 1 + t) names.length ≤ 999999 := by omega
    refine ⟨pF V names (some (dkW (names.take (V.length - 1 + t)) g)) (some ou) (some (.int (t : Int))) x9 x10 x11 x12 x13, _, pF V names (some (dkW (names.take (V.length - 1 + (t + 1))) (updS g names[V.length - 1 + t] (V[k1], V[k2])))) (some ou) (some (.int (t : Int))) x9 (some (.int (k1 : Int))) (some (.int (k2 : Int))) (some (.int (k1 : Int))) (some (.int (k2 : Int))), p2, rfl, ?_, .inl rfl, f3, t + 1, _, _, _, _, _, _, hr, by omega, rfl, T.keep nd hn' (by omega), U.keep nd hn' (by omega), fun n hm => ?_⟩
    · unfold lb2__law_program pF
      have hpr : D.tup [.str V[k1], .str V[k2]] = pairT (V[k1], V[k2]) := rfl
      simp [d1, f1, a1, a2, a3, lenC, hpr, b1, hT]
    · rw [show V.length - 1 + (t + 1) = V.length - 1 + t + 1 from by omega, take_more hn'] at hm
      rcases List.mem_append.mp hm with q | q
      · rw [updS_ne (show n ≠ names[V.length - 1 + t] from fun z => hnt (z ▸ q))]; exact hE n q
      · rw [List.mem_singleton.mp q, updS_at]; exact ⟨List.getElem_mem _, List.getElem_mem _⟩) (rngL 0 e) (pF V names (some (dkW (names.take (V.length - 1)) g)) (some ou) x8 x9 none none none none) p
    ⟨h, 0, g, x8, none, none, none, none, by rw [rngL_len], by rw [rngL_len]; omega, rfl, T, U, base⟩
  simp only [List.length_nil, Nat.add_zero] at e4
  subst e4
  exact ⟨g', y8, y10, y11, y12, y13, p', e1, e2, e7, e8, e9⟩
theorem program_ok (a : Ad) {nums : List Int} (hp : ∀ z ∈ nums, 0 ≤ z) {p : Ps} (h : PsOk nums p) : ∃ V names N g O X e b p', f__law_program a [.pool, .int 6, .int 4, .bl true] p = .ok (prL N g b X) p' ∧ V[0]? = some b ∧ Drawn V names N g O X e ∧ PsOk nums p' := by
  have hpad : padR 16 [.pool, .int 6, .int 4, .bl true] = [some .pool, some (.int 6), some (.int 4), some (.bl true), none, none, none, none, none, none, none, none, none, none, none, none] := rfl
  obtain ⟨r1, p1, d1, d2, d3⟩ := draw_ok a hp 5 (by decide) h
  have d1 : f__law_draw a [.pool, .int 5] p = _ := d1
  obtain ⟨V, p2, w1, w2, w3, w4, w5⟩ := words_ok a hp (2 + r1) (by omega) d3
  rw [show ((2 + r1 : Nat) : Int) = 2 + (r1 : Int) from by omega] at w1
  obtain ⟨names, p3, n1, n2, n3, n4, n5⟩ := names_ok a hp (V.length - 1 + 4) (by omega) w5
  rw [show ((V.length - 1 + 4 : Nat) : Int) = (V.length : Int) - 1 + 4 from by omega] at n1
  obtain ⟨g, O, y8, y9, p4, l1, l2, l3, l4⟩ := loop1 a hp (V := V) (names := names) n3 (by omega) (by omega) (by omega) none none n5
  obtain ⟨e, p5, q1, q2, q3⟩ := draw_ok a hp 5 (by decide) l2
  have q1 : f__law_draw a [.pool, .int 5] p4 = _ := q1
  obtain ⟨g', z8, z10, z11, z12, z13, p6, m1, m2, m3, m4, m5⟩ := loop2 a hp (V := V) (names := names) n3 (by omega) (by omega) n2 e (by omega) g O (.dk (dkL O fun _ => .bl true)) l3 l4 y8 y9 q3
  have hb : V[0]? = some V[0] := List.getElem?_eq_getElem (by omega)
  let ρe : Rho := [some .pool, some (.int 6), some (.int 4), some (.bl true), some (.lst (strL V)), some (.lst (strL names)), some (dkW (names.take (V.length - 1 + e)) g'), some (.dk (dkL O fun _ => .bl true)), z8, y9, z10, z11, z12, z13, none, none]
  obtain ⟨X, p7, x1, x2, x3, x4⟩ := lcS_run (fc := orF (tvF (op2F (D.in_ true) (vF 15) (vF 7))) (tvF (op2F D.eq (callF (f__law_draw a) (consF (vF 0) (consF (cF (.int 5)) nilF))) (cF (.int 0))))) (fe := vF 15) (ρ := ρe) (i := 15) (PsOk nums) (fun n => n ∉ O) V p6 m2 fun n hn ps hps => by
    refine ⟨?_, rfl⟩
    obtain ⟨r, p', s1, s2, s3⟩ := draw_ok a hp 5 (by decide) hps
    have s1 : f__law_draw a [.pool, .int 5] ps = _ := s1
    by_cases ho : n ∈ O
    · exact ⟨decide ((r : Int) = 0), p', by simp [ρe, ho, s1, eq_i], s3, fun z => (z ho).elim⟩
    · exact ⟨true, ps, by simp [ρe, ho], hps, fun _ => rfl⟩
  refine ⟨V, names, names.take (V.length - 1 + e), g', O, X, e, V[0], p7, ?_, hb, ⟨by omega, by omega, w3, w4, n3, n4, n2, by omega, rfl, m3, m4, m5, x3, x4⟩, x2⟩
  have hX : X.length ≤ 1000000 := by have := x3.length_le; omega
  have hV0 := getS hb
  have hV0 : atI (strL V) 0 = some (.str V[0]) := hV0
  have hr : rngD 1 (V.length - 1) = rngL 1 (V.length - 1) := rng_at 1 _
  have hr2 : rngD 0 e = rngL 0 e := rng_at 0 _
  have c1 : (V.length : Int) ≤ 1000000000 := by omega
  have c2 : (e : Int) ≤ 1000000000 := by omega
  have c3 : (-1000000000 : Int) ≤ V.length := by omega
  unfold f__law_program g__law_program
  simp only [pF, ρe] at l1 m1 x1
  simp [hpad, d1, w1, n1, rgC, hr, hr2, c1, c2, l1, q1, m1, wipeR, x1, lenC, hX, hV0]
end K01
set_option Elab.async false
set_option linter.all false
set_option maxRecDepth 100000
set_option maxHeartbeats 8000000
/-! M16: the law's turn and its end. -/
namespace DL
open PySem L2
@[simp] theorem a_lstO (ls : List D) : lstO (.lst ls) = pure ls := rfl
@[simp] theorem a_spF (iy iz : Nat) (lc : FE) (fs : FA) (ρ : Rho) (ps : Ps) : spF iy iz lc fs ρ ps = Res.bd (lc ρ ps) fun d p => Res.bd (lstO d p) fun ls p => Res.bd (noX (fs (wipeR ρ [iy])) p) fun ds p => if spC ls ds = true then .ok (.nx (wipeR ρ [iz, iy])) p else .und := by
  unfold spF; simp only [ap_bind, ap_ite, ap_pure, ap_und]
@[simp] theorem a_foN0 (F : D → Rho → R Rho) (body : SF) (ρ : Rho) (ps : Ps) : foN F body [] ρ ps = .ok (.nx ρ) ps := rfl
theorem a_foN1 (F : D → Rho → R Rho) (body : SF) (d : D) (r : List D) (ρ : Rho) (ps : Ps) : foN F body (d :: r) ρ ps = Res.bd (F d ρ ps) fun ρ1 p => Res.bd (body ρ1 p) fun fl p => lpK (foN F body r) fl p := by
  show (F d ρ >>= fun ρ1 => body ρ1 >>= fun fl => lpK (foN F body r) fl) ps = _
  simp only [ap_bind]
@[simp] theorem a_lpK (k : SF) (ρ : Rho) : lpK k (.nx ρ) = k ρ := rfl
end DL
namespace K01
open PySem L2 DL
section
variable (a : Ad) (ps : Ps)
theorem isw_non : f_is_word a [.non] ps = .ok (.bl false) ps := by
  have hpad : padR 2 [.non] = [some .non, none] := rfl
  unfold f_is_word g_is_word
  simp [hpad, D.tk, tb_str]
theorem isw_int (i : Int) : f_is_word a [.int i] ps = .ok (.bl false) ps := by
  have hpad : padR 2 [.int i] = [some (.int i), none] := rfl
  unfold f_is_word g_is_word
  simp [hpad, D.tk, tb_str]
theorem isw_lst (xs : List D) : f_is_word a [.lst xs] ps = .ok (.bl false) ps := by
  have hpad : padR 2 [.lst xs] = [some (.lst xs), none] := rfl
  unfold f_is_word g_is_word
  simp [hpad, D.tk, tb_str]
theorem isw_tup (xs : List D) : f_is_word a [.tup xs] ps = .ok (.bl false) ps := by
  have hpad : padR 2 [.tup xs] = [some (.tup xs), none] := rfl
  unfold f_is_word g_is_word
  simp [hpad, D.tk, tb_str]
end
def oddL : List D := [.non, .int 5, .str "zzzz", .tup [.str "p"], .lst [.str "p"], .str ""]
theorem turn_ok (a : Ad) {nums : List Int} (hp : ∀ z ∈ nums, 0 ≤ z) (k : Nat) : ∃ ρ' ps', g_turn a (turnR 14 k) (some ⟨nums, 0⟩) = .ok (.nx ρ') ps' := by
  obtain ⟨V, names, N, g, O, X, e, b, ps, e1, e2, e3, e4⟩ := program_ok a hp (p := some ⟨nums, 0⟩) ⟨0, rfl⟩
  have h := e3.unl e2
  have hN := h.nine
  have hR : turnR 14 k = [none, some (.int (k : Int)), some .pool, none, none, none, none, none, none, none, none, none, none, none] := rfl
  have hs : D.sorted (dkW N g) = pure (.lst (strL (sortS N))) := sorted_dk (by omega)
  have hrev : (strL (sortS N)).reverse = strL (sortS N).reverse := by unfold strL; rw [List.map_reverse]
  have hrevX : (strL X).reverse = strL X.reverse := by unfold strL; rw [List.map_reverse]
  have pN : (sortS N).reverse.Perm N := (List.reverse_perm _).trans (sortS_perm N)
  have pX : X.reverse.Perm X := List.reverse_perm X
  have hNl : (sortS N).length = N.length := sortS_len N
  have hNl2 : (sortS N).length ≤ 1000000 := by omega
  have hNl3 : (sortS N).length ≤ 999999 := by omega
  have c1 : lcGo (nmF 13) yesF (tupF (consF (vF 13) (consF (op2F D.item (op2F D.item (vF 3) (cF (.str "ways"))) (vF 13)) nilF))) (strL (sortS N).reverse) [none, some (.int (k : Int)), some .pool, some (prL N g b X), none, none, none, none, none, none, none, none, none, none] ps = .ok ((sortS N).reverse.map fun n => .tup [.str n, pairT (g n)]) ps := by
    have := lcS_ok (i := 13) (fc := yesF) (fe := tupF (consF (vF 13) (consF (op2F D.item (op2F D.item (vF 3) (cF (.str "ways"))) (vF 13)) nilF))) (N := (sortS N).reverse) (ρ := [none, some (.int (k : Int)), some .pool, some (prL N g b X), none, none, none, none, none, none, none, none, none, none]) (ps := ps) (fun _ => true) (fun n => .tup [.str n, pairT (g n)]) fun n hn => ⟨rfl, fun _ => by
      have := pN.mem_iff.mp hn
      simp [this, lenC]⟩
    rwa [filter_true] at this
  have q1 : D.pairs (.lst ((sortS N).reverse.map fun n => .tup [.str n, pairT (g n)])) = pure (dkW (sortS N).reverse g) := pairs_L (pN.nodup_iff.mpr h.ways.nd)
  have hok : ProgOk (sortS N).reverse g b X.reverse := (h.toProgOk.more (N' := (sortS N).reverse) (g' := g) (b' := b) (X' := X.reverse) ⟨pN.nodup_iff.mpr h.ways.nd, by rw [pN.length_eq]; exact h.ways.pos, by rw [pN.length_eq]; exact h.ways.le, fun n hn => h.ways.w n (pN.mem_iff.mp hn), fun n hn => h.ways.p n (pN.mem_iff.mp hn)⟩ (fun n hn => ⟨n, pN.mem_iff.mpr hn, rfl⟩) (fun n hn => ⟨plcs_mem.mpr ⟨n, pN.mem_iff.mp hn, .inl rfl⟩, plcs_mem.mpr ⟨n, pN.mem_iff.mp hn, .inr rfl⟩⟩) h.bg (.inl rfl) (fun x hx => pX.mem_iff.mpr hx) (fun x hx => h.x x (pX.mem_iff.mp hx)) (pX.nodup_iff.mpr h.xnd)).1
  have m1 := init_ok a hok ps
  rw [prgFs_perm pN pX] at m1
  have m2 := right_ok a h.toSeen ps
  have m3 := made_ok a h.toProgOk ps
  have m4 := eqOwn_ok a N g b X N g b X ps
  have eqe : eqP N g b X N g b X := ⟨⟨rfl, fun m hm => ⟨hm, rfl⟩⟩, rfl, rfl⟩
  rw [decide_eq_true eqe] at m4
  have m5 : D.eqOwn a.Program (nfC a.Program) (f_Program___eq__ a) (prg a N g b X) (.int 5) ps = .ok (.bl false) ps := by
    have := eq_five a N g b X ps
    simp [ap_bind, D.tk, nfC, this]
  have m6 := unlike_ok a h ps
  have hP := law_places_ok a N g (.str b) (.lst (strL X)) h.le ps
  rw [h.pl] at hP
  have hXl : X.length < 64 := Nat.lt_of_le_of_lt (nodup_len h.xnd h.x) h.few
  have hXl1 : X.length ≤ 999999 := by omega
  have hsix := h.six
  have hPl : (plcs N g).length ≤ 1000000 := by omega
  have c2 : ∀ x4 x5, lcGo (nmF 12) yesF (methF a.Program "entering" (f_Program_entering a) (vF 6) (consF (vF 12) nilF)) (strL (plcs N g)) [none, some (.int (k : Int)), some .pool, some (prL N g b X), x4, x5, some (prg a N g b X), none, none, none, none, none, none, none] ps = .ok ((plcs N g).map fun p => .lst (strL (inW N g p))) ps := fun x4 x5 => by
    have := lcS_ok (i := 12) (fc := yesF) (fe := methF a.Program "entering" (f_Program_entering a) (vF 6) (consF (vF 12) nilF)) (N := plcs N g) (ρ := [none, some (.int (k : Int)), some .pool, some (prL N g b X), x4, x5, some (prg a N g b X), none, none, none, none, none, none, none]) (ps := ps) (fun _ => true) (fun p => .lst (strL (inW N g p))) fun p hp => ⟨rfl, fun _ => by
      have := entering_ok a N g b X ps (plcs_w h.toProgOk hp) hp
      simp [this]⟩
    rwa [filter_true] at this
  have j1 := ways_ok a N g b X ps
  have j2 := places_ok a N g b X ps
  have j3 := exits_ok a N g b X ps
  have j4 := leaving_ok a N g b X ps (plcs_w h.toProgOk h.bg) h.bg
  have hsp : spC ((plcs N g).map fun p => .lst (strL (inW N g p))) [.lst (strL (sortS N)), plD N g, .lst (strL (sortS X)), .lst (strL (outW N g b))] = true := by
    have l1 : ∀ p, (inW N g p).length ≤ 1000 := fun p => Nat.le_trans (List.length_filter_le _ _) (by omega)
    have l2 : (outW N g b).length ≤ 1000 := Nat.le_trans (List.length_filter_le _ _) (by omega)
    have l3 : (sortS X).length = X.length := sortS_len X
    unfold spC
    rw [Bool.and_eq_true, List.all_eq_true]
    refine ⟨fun d hd => ?_, ?_⟩
    · rcases List.mem_append.mp hd with q | q
      · obtain ⟨p, _, rfl⟩ := List.mem_map.mp q
        exact decide_eq_true (by simp; exact l1 p)
      · simp only [List.mem_cons, List.not_mem_nil, or_false] at q
        rcases q with rfl | rfl | rfl | rfl <;> exact decide_eq_true (by simp; omega)
    · exact decide_eq_true (by simp; omega)
  have z4 : ("zzzz" : Str) ∉ N := fun z => by
    have : ("zzzz" : Str) ∈ menu3 := e3.nw _ (by rw [e3.eN] at z; exact List.mem_of_mem_take z)
    exact (menu3_z _ this).2.2 rfl
  have o3 := has_word a N g b X ps (n := "zzzz") (by decide +kernel)
  rw [decide_eq_false z4] at o3
  have o1 := has_no a N g b X ps (isw_non a ps)
  have o2 := has_no a N g b X ps (isw_int a ps 5)
  have o4 := has_no a N g b X ps (isw_tup a ps [.str "p"])
  have o5 := has_no a N g b X ps (isw_lst a ps [.str "p"])
  have o6 := has_no a N g b X ps (d := .str "") (by rw [is_word_s a "" (by decide +kernel)]; rw [show isWb "" = false from by decide +kernel])
  have lpO : ∀ x4 x5, ∃ ρ', foN (nmF 9) (lb1_law a) [.non, .int 5, .str "zzzz", .tup [.str "p"], .lst [.str "p"], .str ""] [none, some (.int (k : Int)), some .pool, some (prL N g b X), x4, x5, some (prg a N g b X), none, none, none, none, none, none, none] ps = .ok (.nx ρ') ps := fun x4 x5 => by
    refine ⟨[none, some (.int (k : Int)), some .pool, some (prL N g b X), x4, x5, some (prg a N g b X), none, none, some (.str ""), none, none, none, none], ?_⟩
    unfold lb1_law
    simp [a_foN1, ap_bind, o1, o2, o3, o4, o5, o6]
  have c2' := c2
  have lpO' := lpO
  unfold g_turn
  rw [hR]
  simp [-a_pairs, -a_eqOwn, -List.map_reverse, e1, hs, hrev, hrevX, wipeR, c1, q1, lenC, hNl2, hNl3, hXl1, m1, m2, m3, m4, m5, m6, hP, c2, hPl, j1, j2, j3, j4, hsp]
  obtain ⟨ρ', e⟩ := lpO (some (.dk (putD (dkL (sortS N).reverse fun n => pairT (g n)) (.inr "zz") (.tup [.str "a", .str "b"])))) (some (.lst (strL X.reverse ++ [.str "qq"])))
  exact ⟨ρ', ps, by rw [e]; rfl⟩
theorem math_pool (a : Ad) : ∀ (c : Int) (k : Nat), k ≤ 63 → ∃ nums : List Int, f__law_pool a [.int c, .int (k : Int), .int 50] none = .ok (poolD nums) none ∧ ∃ ρ' ps', g_turn a (turnR 14 k) (some ⟨nums, 0⟩) = .ok (.nx ρ') ps' := fun c k hk => by
  obtain ⟨nums, h1, h2, h3⟩ := law_pool a c k 50 hk (by decide) none
  exact ⟨nums, h1, turn_ok a (fun z hz => (h3 z hz).1) k⟩
@[simp] theorem a_lcGo0 (F : D → Rho → R Rho) (fc : FT) (fe : FE) (ρ : Rho) (ps : Ps) : lcGo F fc fe [] ρ ps = .ok [] ps := rfl
theorem a_lcGo1 (F : D → Rho → R Rho) (fc : FT) (fe : FE) (d : D) (r : List D) (ρ : Rho) (ps : Ps) : lcGo F fc fe (d :: r) ρ ps = Res.bd (noX (F d ρ) ps) fun ρ1 p => Res.bd (noX (fc ρ1) p) fun b p => if b = true then (Res.bd (noX (fe ρ1) p) fun y p => Res.bd (lcGo F fc fe r ρ p) fun t p => .ok (y :: t) p) else lcGo F fc fe r ρ p := by
  show tuF F fc d _ ρ ps = _
  rw [tu_ap]
  simp only [ap_ite, ap_bind, ap_pure]
theorem math_end (a : Ad) : ∃ ρ' ps', g_tail a (List.replicate 14 none) none = .ok (.rt (.bl true) ρ') ps' := by
  have w : ∀ (n : Str) (b : Bool), isWb n = b → n.length ≤ 1000000 → f_is_word a [.str n] none = .ok (.bl b) none := fun n b h hl => by rw [is_word_s a n hl, h]
  have w1 := w "a" true (by decide +kernel) (by decide +kernel)
  have w2 := w "abcdefgh" true (by decide +kernel) (by decide +kernel)
  have w3 := w "" false (by decide +kernel) (by decide +kernel)
  have w4 := w "A" false (by decide +kernel) (by decide +kernel)
  have w5 := w "abcdefghi" false (by decide +kernel) (by decide +kernel)
  have w6 := w "a b" false (by decide +kernel) (by decide +kernel)
  have w7 := w "1" false (by decide +kernel) (by decide +kernel)
  have w8 := isw_non a none
  have w9 := isw_int a none 5
  have w10 := isw_lst a none [.str "a"]
  have hr : (List.replicate 14 none : Rho) = [none, none, none, none, none, none, none, none, none, none, none, none, none, none] := rfl
  have he : D.eqO (.lst [.str "a", .str "abcdefgh"]) (.lst [.str "a", .str "abcdefgh"]) = some true := by
    have := eq_strL ["a", "abcdefgh"] ["a", "abcdefgh"]
    rw [decide_eq_true rfl] at this
    exact this
  refine ⟨[none, none, none, none, none, none, none, none, none, none, some (.lst [.str "a", .str "abcdefgh"]), none, none, none], none, ?_⟩
  unfold g_tail
  rw [hr]
  simp [wipeR, a_lcGo1, w1, w2, w3, w4, w5, w6, w7, w8, w9, w10, lenC, he]
end K01
set_option Elab.async false
set_option Elab.async false
set_option linter.all false
set_option maxRecDepth 100000
set_option maxHeartbeats 8000000
namespace K01
open PySem PySem.Spec PyProof.Rows L2 DL
theorem all_mk {P : Program} {w : World} {K : PySem.W.Frag} {h : Heap} {mg : Str → Option Value} {fa : Addr} (X : K.In h) (G : h.Ns mainGlobals mg) (hfa : mg "law" = some (.ref fa))
    {Program : Addr} {v__law_numbers : Addr} {od__law_numbers an__law_numbers : Option Addr} {sl__law_numbers : Array (Option Value)} {oc__law_numbers kV__law_numbers dc__law_numbers pm__law_numbers cd__law_numbers ct__law_numbers : Value} {v__law_pool : Addr} {od__law_pool an__law_pool : Option Addr} {sl__law_pool : Array (Option Value)} {oc__law_pool kV__law_pool dc__law_pool pm__law_pool cd__law_pool ct__law_pool : Value} {v_is_word : Addr} {od_is_word an_is_word : Option Addr} {sl_is_word : Array (Option Value)} {oc_is_word kV_is_word dc_is_word pm_is_word cd_is_word ct_is_word : Value} {v_are_ways : Addr} {od_are_ways an_are_ways : Option Addr} {sl_are_ways : Array (Option Value)} {oc_are_ways kV_are_ways dc_are_ways pm_are_ways cd_are_ways ct_are_ways : Value} {v_come_to : Addr} {od_come_to an_come_to : Option Addr} {sl_come_to : Array (Option Value)} {oc_come_to kV_come_to dc_come_to pm_come_to cd_come_to ct_come_to : Value} {v_Program_are_exits : Addr} {od_Program_are_exits an_Program_are_exits : Option Addr} {sl_Program_are_exits : Array (Option Value)} {oc_Program_are_exits kV_Program_are_exits dc_Program_are_exits pm_Program_are_exits cd_Program_are_exits ct_Program_are_exits : Value} {v_Program_ways_at : Addr} {od_Program_ways_at an_Program_ways_at : Option Addr} {sl_Program_ways_at : Array (Option Value)} {oc_Program_ways_at kV_Program_ways_at dc_Program_ways_at pm_Program_ways_at cd_Program_ways_at ct_Program_ways_at : Value} {v_Program_begin : Addr} {od_Program_begin an_Program_begin : Option Addr} {sl_Program_begin : Array (Option Value)} {oc_Program_begin kV_Program_begin dc_Program_begin pm_Program_begin cd_Program_begin ct_Program_begin : Value} {p_Program_begin : Addr} {pr_Program_begin : List Value} {v_Program_ways : Addr} {od_Program_ways an_Program_ways : Option Addr} {sl_Program_ways : Array (Option Value)} {oc_Program_ways kV_Program_ways dc_Program_ways pm_Program_ways cd_Program_ways ct_Program_ways : Value} {v_Program_places : Addr} {od_Program_places an_Program_places : Option Addr} {sl_Program_places : Array (Option Value)} {oc_Program_places kV_Program_places dc_Program_places pm_Program_places cd_Program_places ct_Program_places : Value} {v_Program_exits : Addr} {od_Program_exits an_Program_exits : Option Addr} {sl_Program_exits : Array (Option Value)} {oc_Program_exits kV_Program_exits dc_Program_exits pm_Program_exits cd_Program_exits ct_Program_exits : Value} {v_Program___contains__ : Addr} {od_Program___contains__ an_Program___contains__ : Option Addr} {sl_Program___contains__ : Array (Option Value)} {oc_Program___contains__ kV_Program___contains__ dc_Program___contains__ pm_Program___contains__ cd_Program___contains__ ct_Program___contains__ : Value} {v_Program___getitem__ : Addr} {od_Program___getitem__ an_Program___getitem__ : Option Addr} {sl_Program___getitem__ : Array (Option Value)} {oc_Program___getitem__ kV_Program___getitem__ dc_Program___getitem__ pm_Program___getitem__ cd_Program___getitem__ ct_Program___getitem__ : Value} {v_Program___len__ : Addr} {od_Program___len__ an_Program___len__ : Option Addr} {sl_Program___len__ : Array (Option Value)} {oc_Program___len__ kV_Program___len__ dc_Program___len__ pm_Program___len__ cd_Program___len__ ct_Program___len__ : Value} {v_Program_check_place : Addr} {od_Program_check_place an_Program_check_place : Option Addr} {sl_Program_check_place : Array (Option Value)} {oc_Program_check_place kV_Program_check_place dc_Program_check_place pm_Program_check_place cd_Program_check_place ct_Program_check_place : Value} {v_Program_leaving : Addr} {od_Program_leaving an_Program_leaving : Option Addr} {sl_Program_leaving : Array (Option Value)} {oc_Program_leaving kV_Program_leaving dc_Program_leaving pm_Program_leaving cd_Program_leaving ct_Program_leaving : Value} {v_Program_entering : Addr} {od_Program_entering an_Program_entering : Option Addr} {sl_Program_entering : Array (Option Value)} {oc_Program_entering kV_Program_entering dc_Program_entering pm_Program_entering cd_Program_entering ct_Program_entering : Value} {v_Program___eq__ : Addr} {od_Program___eq__ an_Program___eq__ : Option Addr} {sl_Program___eq__ : Array (Option Value)} {oc_Program___eq__ kV_Program___eq__ dc_Program___eq__ pm_Program___eq__ cd_Program___eq__ ct_Program___eq__ : Value} {v_Program___init__ : Addr} {od_Program___init__ an_Program___init__ : Option Addr} {sl_Program___init__ : Array (Option Value)} {oc_Program___init__ kV_Program___init__ dc_Program___init__ pm_Program___init__ cd_Program___init__ ct_Program___init__ : Value} {v__law_draw : Addr} {od__law_draw an__law_draw : Option Addr} {sl__law_draw : Array (Option Value)} {oc__law_draw kV__law_draw dc__law_draw pm__law_draw cd__law_draw ct__law_draw : Value} {v__law_words : Addr} {od__law_words an__law_words : Option Addr} {sl__law_words : Array (Option Value)} {oc__law_words kV__law_words dc__law_words pm__law_words cd__law_words ct__law_words : Value} {v__law_names : Addr} {od__law_names an__law_names : Option Addr} {sl__law_names : Array (Option Value)} {oc__law_names kV__law_names dc__law_names pm__law_names cd__law_names ct__law_names : Value} {v__law_made : Addr} {od__law_made an__law_made : Option Addr} {sl__law_made : Array (Option Value)} {oc__law_made kV__law_made dc__law_made pm__law_made cd__law_made ct__law_made : Value} {v__law_places : Addr} {od__law_places an__law_places : Option Addr} {sl__law_places : Array (Option Value)} {oc__law_places kV__law_places dc__law_places pm__law_places cd__law_places ct__law_places : Value} {v__law_leaving : Addr} {od__law_leaving an__law_leaving : Option Addr} {sl__law_leaving : Array (Option Value)} {oc__law_leaving kV__law_leaving dc__law_leaving pm__law_leaving cd__law_leaving ct__law_leaving : Value} {v__law_program : Addr} {od__law_program an__law_program : Option Addr} {sl__law_program : Array (Option Value)} {oc__law_program kV__law_program dc__law_program pm__law_program cd__law_program ct__law_program : Value} {v__law_right : Addr} {od__law_right an__law_right : Option Addr} {sl__law_right : Array (Option Value)} {oc__law_right kV__law_right dc__law_right pm__law_right cd__law_right ct__law_right : Value} {v__law_unlike : Addr} {od__law_unlike an__law_unlike : Option Addr} {sl__law_unlike : Array (Option Value)} {oc__law_unlike kV__law_unlike dc__law_unlike pm__law_unlike cd__law_unlike ct__law_unlike : Value} {v__law_opened : Addr} {od__law_opened an__law_opened : Option Addr} {sl__law_opened : Array (Option Value)} {oc__law_opened kV__law_opened dc__law_opened pm__law_opened cd__law_opened ct__law_opened : Value} {v_law : Addr} {od_law an_law : Option Addr} {sl_law : Array (Option Value)} {oc_law kV_law dc_law pm_law cd_law ct_law : Value} {t_MOST_LETTERS : Tok} {t_LETTERS : Tok} {t_MOST_WAYS : Tok}
    (aC_Program : PySem.W.nsIn K mainGlobals "Program" = some (some (.ref Program)))
    (a__law_numbers : PySem.W.nsIn K mainGlobals "_law_numbers" = some (some (.ref v__law_numbers)))
    (l__law_numbers : K.lookup v__law_numbers = some ⟨oc__law_numbers, od__law_numbers, .func (PySem.W.fnOf "_law_numbers" "_law_numbers" (defArgs (top 15)) (defBody (top 15)) (defScope (top 15)) .none kV__law_numbers dc__law_numbers pm__law_numbers an__law_numbers cd__law_numbers ct__law_numbers), sl__law_numbers⟩)
    (c__law_numbers : PySem.W.codeIn K cd__law_numbers "_law_numbers" = true)
    (k__law_numbers : PySem.W.keepIn K (.ref v__law_numbers) = true)
    (a__law_pool : PySem.W.nsIn K mainGlobals "_law_pool" = some (some (.ref v__law_pool)))
    (l__law_pool : K.lookup v__law_pool = some ⟨oc__law_pool, od__law_pool, .func (PySem.W.fnOf "_law_pool" "_law_pool" (defArgs (top 16)) (defBody (top 16)) (defScope (top 16)) .none kV__law_pool dc__law_pool pm__law_pool an__law_pool cd__law_pool ct__law_pool), sl__law_pool⟩)
    (c__law_pool : PySem.W.codeIn K cd__law_pool "_law_pool" = true)
    (k__law_pool : PySem.W.keepIn K (.ref v__law_pool) = true)
    (a_is_word : PySem.W.nsIn K mainGlobals "is_word" = some (some (.ref v_is_word)))
    (l_is_word : K.lookup v_is_word = some ⟨oc_is_word, od_is_word, .func (PySem.W.fnOf "is_word" "is_word" (defArgs (top 10)) (defBody (top 10)) (defScope (top 10)) .none kV_is_word dc_is_word pm_is_word an_is_word cd_is_word ct_is_word), sl_is_word⟩)
    (c_is_word : PySem.W.codeIn K cd_is_word "is_word" = true)
    (k_is_word : PySem.W.keepIn K (.ref v_is_word) = true)
    (a_are_ways : PySem.W.nsIn K mainGlobals "are_ways" = some (some (.ref v_are_ways)))
    (l_are_ways : K.lookup v_are_ways = some ⟨oc_are_ways, od_are_ways, .func (PySem.W.fnOf "are_ways" "are_ways" (defArgs (top 11)) (defBody (top 11)) (defScope (top 11)) .none kV_are_ways dc_are_ways pm_are_ways an_are_ways cd_are_ways ct_are_ways), sl_are_ways⟩)
    (c_are_ways : PySem.W.codeIn K cd_are_ways "are_ways" = true)
    (k_are_ways : PySem.W.keepIn K (.ref v_are_ways) = true)
    (a_come_to : PySem.W.nsIn K mainGlobals "come_to" = some (some (.ref v_come_to)))
    (l_come_to : K.lookup v_come_to = some ⟨oc_come_to, od_come_to, .func (PySem.W.fnOf "come_to" "come_to" (defArgs (top 12)) (defBody (top 12)) (defScope (top 12)) .none kV_come_to dc_come_to pm_come_to an_come_to cd_come_to ct_come_to), sl_come_to⟩)
    (c_come_to : PySem.W.codeIn K cd_come_to "come_to" = true)
    (k_come_to : PySem.W.keepIn K (.ref v_come_to) = true)
    (a_Program_are_exits : PySem.W.findIn K (.ref Program) "are_exits" = some (some (.ref v_Program_are_exits)))
    (i_Program_are_exits : PySem.W.isFn K (.ref v_Program_are_exits) = true)
    (l_Program_are_exits : K.lookup v_Program_are_exits = some ⟨oc_Program_are_exits, od_Program_are_exits, .func (PySem.W.fnOf "are_exits" "Program.are_exits" (defArgs (inClass (top 13) 1)) (defBody (inClass (top 13) 1)) (defScope (inClass (top 13) 1)) .none kV_Program_are_exits dc_Program_are_exits pm_Program_are_exits an_Program_are_exits cd_Program_are_exits ct_Program_are_exits), sl_Program_are_exits⟩)
    (c_Program_are_exits : PySem.W.codeIn K cd_Program_are_exits "Program.are_exits" = true)
    (k_Program_are_exits : PySem.W.keepIn K (.ref v_Program_are_exits) = true)
    (a_Program_ways_at : PySem.W.findIn K (.ref Program) "ways_at" = some (some (.ref v_Program_ways_at)))
    (i_Program_ways_at : PySem.W.isFn K (.ref v_Program_ways_at) = true)
    (l_Program_ways_at : K.lookup v_Program_ways_at = some ⟨oc_Program_ways_at, od_Program_ways_at, .func (PySem.W.fnOf "ways_at" "Program.ways_at" (defArgs (inClass (top 13) 2)) (defBody (inClass (top 13) 2)) (defScope (inClass (top 13) 2)) .none kV_Program_ways_at dc_Program_ways_at pm_Program_ways_at an_Program_ways_at cd_Program_ways_at ct_Program_ways_at), sl_Program_ways_at⟩)
    (c_Program_ways_at : PySem.W.codeIn K cd_Program_ways_at "Program.ways_at" = true)
    (k_Program_ways_at : PySem.W.keepIn K (.ref v_Program_ways_at) = true)
    (a_Program_begin : PySem.W.findIn K (.ref Program) "begin" = some (some (.ref p_Program_begin)))
    (pg_Program_begin : PySem.W.specialIn K (.ref p_Program_begin) "__get__" = some (some (.builtin "property.__get__")))
    (pt_Program_begin : PySem.W.takesIn K (.ref p_Program_begin) = some true)
    (px_Program_begin : PySem.W.recIn K p_Program_begin "property" = some (.ref v_Program_begin :: pr_Program_begin))
    (l_Program_begin : K.lookup v_Program_begin = some ⟨oc_Program_begin, od_Program_begin, .func (PySem.W.fnOf "begin" "Program.begin" (defArgs (inClass (top 13) 3)) (defBody (inClass (top 13) 3)) (defScope (inClass (top 13) 3)) .none kV_Program_begin dc_Program_begin pm_Program_begin an_Program_begin cd_Program_begin ct_Program_begin), sl_Program_begin⟩)
    (c_Program_begin : PySem.W.codeIn K cd_Program_begin "Program.begin" = true)
    (k_Program_begin : PySem.W.keepIn K (.ref v_Program_begin) = true)
    (a_Program_ways : PySem.W.findIn K (.ref Program) "ways" = some (some (.ref v_Program_ways)))
    (i_Program_ways : PySem.W.isFn K (.ref v_Program_ways) = true)
    (l_Program_ways : K.lookup v_Program_ways = some ⟨oc_Program_ways, od_Program_ways, .func (PySem.W.fnOf "ways" "Program.ways" (defArgs (inClass (top 13) 4)) (defBody (inClass (top 13) 4)) (defScope (inClass (top 13) 4)) .none kV_Program_ways dc_Program_ways pm_Program_ways an_Program_ways cd_Program_ways ct_Program_ways), sl_Program_ways⟩)
    (c_Program_ways : PySem.W.codeIn K cd_Program_ways "Program.ways" = true)
    (k_Program_ways : PySem.W.keepIn K (.ref v_Program_ways) = true)
    (a_Program_places : PySem.W.findIn K (.ref Program) "places" = some (some (.ref v_Program_places)))
    (i_Program_places : PySem.W.isFn K (.ref v_Program_places) = true)
    (l_Program_places : K.lookup v_Program_places = some ⟨oc_Program_places, od_Program_places, .func (PySem.W.fnOf "places" "Program.places" (defArgs (inClass (top 13) 5)) (defBody (inClass (top 13) 5)) (defScope (inClass (top 13) 5)) .none kV_Program_places dc_Program_places pm_Program_places an_Program_places cd_Program_places ct_Program_places), sl_Program_places⟩)
    (c_Program_places : PySem.W.codeIn K cd_Program_places "Program.places" = true)
    (k_Program_places : PySem.W.keepIn K (.ref v_Program_places) = true)
    (a_Program_exits : PySem.W.findIn K (.ref Program) "exits" = some (some (.ref v_Program_exits)))
    (i_Program_exits : PySem.W.isFn K (.ref v_Program_exits) = true)
    (l_Program_exits : K.lookup v_Program_exits = some ⟨oc_Program_exits, od_Program_exits, .func (PySem.W.fnOf "exits" "Program.exits" (defArgs (inClass (top 13) 6)) (defBody (inClass (top 13) 6)) (defScope (inClass (top 13) 6)) .none kV_Program_exits dc_Program_exits pm_Program_exits an_Program_exits cd_Program_exits ct_Program_exits), sl_Program_exits⟩)
    (c_Program_exits : PySem.W.codeIn K cd_Program_exits "Program.exits" = true)
    (k_Program_exits : PySem.W.keepIn K (.ref v_Program_exits) = true)
    (a_Program___contains__ : PySem.W.findIn K (.ref Program) "__contains__" = some (some (.ref v_Program___contains__)))
    (i_Program___contains__ : PySem.W.isFn K (.ref v_Program___contains__) = true)
    (l_Program___contains__ : K.lookup v_Program___contains__ = some ⟨oc_Program___contains__, od_Program___contains__, .func (PySem.W.fnOf "__contains__" "Program.__contains__" (defArgs (inClass (top 13) 7)) (defBody (inClass (top 13) 7)) (defScope (inClass (top 13) 7)) .none kV_Program___contains__ dc_Program___contains__ pm_Program___contains__ an_Program___contains__ cd_Program___contains__ ct_Program___contains__), sl_Program___contains__⟩)
    (c_Program___contains__ : PySem.W.codeIn K cd_Program___contains__ "Program.__contains__" = true)
    (k_Program___contains__ : PySem.W.keepIn K (.ref v_Program___contains__) = true)
    (a_Program___getitem__ : PySem.W.findIn K (.ref Program) "__getitem__" = some (some (.ref v_Program___getitem__)))
    (i_Program___getitem__ : PySem.W.isFn K (.ref v_Program___getitem__) = true)
    (l_Program___getitem__ : K.lookup v_Program___getitem__ = some ⟨oc_Program___getitem__, od_Program___getitem__, .func (PySem.W.fnOf "__getitem__" "Program.__getitem__" (defArgs (inClass (top 13) 8)) (defBody (inClass (top 13) 8)) (defScope (inClass (top 13) 8)) .none kV_Program___getitem__ dc_Program___getitem__ pm_Program___getitem__ an_Program___getitem__ cd_Program___getitem__ ct_Program___getitem__), sl_Program___getitem__⟩)
    (c_Program___getitem__ : PySem.W.codeIn K cd_Program___getitem__ "Program.__getitem__" = true)
    (k_Program___getitem__ : PySem.W.keepIn K (.ref v_Program___getitem__) = true)
    (fi_Program___getitem__ : PySem.W.fnIn K v_Program___getitem__ = true)
    (a_Program___len__ : PySem.W.findIn K (.ref Program) "__len__" = some (some (.ref v_Program___len__)))
    (i_Program___len__ : PySem.W.isFn K (.ref v_Program___len__) = true)
    (l_Program___len__ : K.lookup v_Program___len__ = some ⟨oc_Program___len__, od_Program___len__, .func (PySem.W.fnOf "__len__" "Program.__len__" (defArgs (inClass (top 13) 10)) (defBody (inClass (top 13) 10)) (defScope (inClass (top 13) 10)) .none kV_Program___len__ dc_Program___len__ pm_Program___len__ an_Program___len__ cd_Program___len__ ct_Program___len__), sl_Program___len__⟩)
    (c_Program___len__ : PySem.W.codeIn K cd_Program___len__ "Program.__len__" = true)
    (k_Program___len__ : PySem.W.keepIn K (.ref v_Program___len__) = true)
    (a_Program_check_place : PySem.W.findIn K (.ref Program) "check_place" = some (some (.ref v_Program_check_place)))
    (i_Program_check_place : PySem.W.isFn K (.ref v_Program_check_place) = true)
    (l_Program_check_place : K.lookup v_Program_check_place = some ⟨oc_Program_check_place, od_Program_check_place, .func (PySem.W.fnOf "check_place" "Program.check_place" (defArgs (inClass (top 13) 11)) (defBody (inClass (top 13) 11)) (defScope (inClass (top 13) 11)) .none kV_Program_check_place dc_Program_check_place pm_Program_check_place an_Program_check_place cd_Program_check_place ct_Program_check_place), sl_Program_check_place⟩)
    (c_Program_check_place : PySem.W.codeIn K cd_Program_check_place "Program.check_place" = true)
    (k_Program_check_place : PySem.W.keepIn K (.ref v_Program_check_place) = true)
    (a_Program_leaving : PySem.W.findIn K (.ref Program) "leaving" = some (some (.ref v_Program_leaving)))
    (i_Program_leaving : PySem.W.isFn K (.ref v_Program_leaving) = true)
    (l_Program_leaving : K.lookup v_Program_leaving = some ⟨oc_Program_leaving, od_Program_leaving, .func (PySem.W.fnOf "leaving" "Program.leaving" (defArgs (inClass (top 13) 12)) (defBody (inClass (top 13) 12)) (defScope (inClass (top 13) 12)) .none kV_Program_leaving dc_Program_leaving pm_Program_leaving an_Program_leaving cd_Program_leaving ct_Program_leaving), sl_Program_leaving⟩)
    (c_Program_leaving : PySem.W.codeIn K cd_Program_leaving "Program.leaving" = true)
    (k_Program_leaving : PySem.W.keepIn K (.ref v_Program_leaving) = true)
    (a_Program_entering : PySem.W.findIn K (.ref Program) "entering" = some (some (.ref v_Program_entering)))
    (i_Program_entering : PySem.W.isFn K (.ref v_Program_entering) = true)
    (l_Program_entering : K.lookup v_Program_entering = some ⟨oc_Program_entering, od_Program_entering, .func (PySem.W.fnOf "entering" "Program.entering" (defArgs (inClass (top 13) 13)) (defBody (inClass (top 13) 13)) (defScope (inClass (top 13) 13)) .none kV_Program_entering dc_Program_entering pm_Program_entering an_Program_entering cd_Program_entering ct_Program_entering), sl_Program_entering⟩)
    (c_Program_entering : PySem.W.codeIn K cd_Program_entering "Program.entering" = true)
    (k_Program_entering : PySem.W.keepIn K (.ref v_Program_entering) = true)
    (a_Program___eq__ : PySem.W.findIn K (.ref Program) "__eq__" = some (some (.ref v_Program___eq__)))
    (i_Program___eq__ : PySem.W.isFn K (.ref v_Program___eq__) = true)
    (l_Program___eq__ : K.lookup v_Program___eq__ = some ⟨oc_Program___eq__, od_Program___eq__, .func (PySem.W.fnOf "__eq__" "Program.__eq__" (defArgs (inClass (top 13) 14)) (defBody (inClass (top 13) 14)) (defScope (inClass (top 13) 14)) .none kV_Program___eq__ dc_Program___eq__ pm_Program___eq__ an_Program___eq__ cd_Program___eq__ ct_Program___eq__), sl_Program___eq__⟩)
    (c_Program___eq__ : PySem.W.codeIn K cd_Program___eq__ "Program.__eq__" = true)
    (k_Program___eq__ : PySem.W.keepIn K (.ref v_Program___eq__) = true)
    (a_Program___init__ : PySem.W.findIn K (.ref Program) "__init__" = some (some (.ref v_Program___init__)))
    (i_Program___init__ : PySem.W.isFn K (.ref v_Program___init__) = true)
    (l_Program___init__ : K.lookup v_Program___init__ = some ⟨oc_Program___init__, od_Program___init__, .func (PySem.W.fnOf "__init__" "Program.__init__" (defArgs (inClass (top 13) 0)) (defBody (inClass (top 13) 0)) (defScope (inClass (top 13) 0)) .none kV_Program___init__ dc_Program___init__ pm_Program___init__ an_Program___init__ cd_Program___init__ ct_Program___init__), sl_Program___init__⟩)
    (c_Program___init__ : PySem.W.codeIn K cd_Program___init__ "Program.__init__" = true)
    (k_Program___init__ : PySem.W.keepIn K (.ref v_Program___init__) = true)
    (mk_Program : PySem.W.makesIn K Program = true)
    (kc_Program : PySem.W.keepIn K (.ref Program) = true)
    (a__law_draw : PySem.W.nsIn K mainGlobals "_law_draw" = some (some (.ref v__law_draw)))
    (l__law_draw : K.lookup v__law_draw = some ⟨oc__law_draw, od__law_draw, .func (PySem.W.fnOf "_law_draw" "_law_draw" (defArgs (top 17)) (defBody (top 17)) (defScope (top 17)) .none kV__law_draw dc__law_draw pm__law_draw an__law_draw cd__law_draw ct__law_draw), sl__law_draw⟩)
    (c__law_draw : PySem.W.codeIn K cd__law_draw "_law_draw" = true)
    (k__law_draw : PySem.W.keepIn K (.ref v__law_draw) = true)
    (a__law_words : PySem.W.nsIn K mainGlobals "_law_words" = some (some (.ref v__law_words)))
    (l__law_words : K.lookup v__law_words = some ⟨oc__law_words, od__law_words, .func (PySem.W.fnOf "_law_words" "_law_words" (defArgs (top 19)) (defBody (top 19)) (defScope (top 19)) .none kV__law_words dc__law_words pm__law_words an__law_words cd__law_words ct__law_words), sl__law_words⟩)
    (c__law_words : PySem.W.codeIn K cd__law_words "_law_words" = true)
    (k__law_words : PySem.W.keepIn K (.ref v__law_words) = true)
    (a__law_names : PySem.W.nsIn K mainGlobals "_law_names" = some (some (.ref v__law_names)))
    (l__law_names : K.lookup v__law_names = some ⟨oc__law_names, od__law_names, .func (PySem.W.fnOf "_law_names" "_law_names" (defArgs (top 20)) (defBody (top 20)) (defScope (top 20)) .none kV__law_names dc__law_names pm__law_names an__law_names cd__law_names ct__law_names), sl__law_names⟩)
    (c__law_names : PySem.W.codeIn K cd__law_names "_law_names" = true)
    (k__law_names : PySem.W.keepIn K (.ref v__law_names) = true)
    (a__law_made : PySem.W.nsIn K mainGlobals "_law_made" = some (some (.ref v__law_made)))
    (l__law_made : K.lookup v__law_made = some ⟨oc__law_made, od__law_made, .func (PySem.W.fnOf "_law_made" "_law_made" (defArgs (top 22)) (defBody (top 22)) (defScope (top 22)) .none kV__law_made dc__law_made pm__law_made an__law_made cd__law_made ct__law_made), sl__law_made⟩)
    (c__law_made : PySem.W.codeIn K cd__law_made "_law_made" = true)
    (k__law_made : PySem.W.keepIn K (.ref v__law_made) = true)
    (a__law_places : PySem.W.nsIn K mainGlobals "_law_places" = some (some (.ref v__law_places)))
    (l__law_places : K.lookup v__law_places = some ⟨oc__law_places, od__law_places, .func (PySem.W.fnOf "_law_places" "_law_places" (defArgs (top 23)) (defBody (top 23)) (defScope (top 23)) .none kV__law_places dc__law_places pm__law_places an__law_places cd__law_places ct__law_places), sl__law_places⟩)
    (c__law_places : PySem.W.codeIn K cd__law_places "_law_places" = true)
    (k__law_places : PySem.W.keepIn K (.ref v__law_places) = true)
    (a__law_leaving : PySem.W.nsIn K mainGlobals "_law_leaving" = some (some (.ref v__law_leaving)))
    (l__law_leaving : K.lookup v__law_leaving = some ⟨oc__law_leaving, od__law_leaving, .func (PySem.W.fnOf "_law_leaving" "_law_leaving" (defArgs (top 24)) (defBody (top 24)) (defScope (top 24)) .none kV__law_leaving dc__law_leaving pm__law_leaving an__law_leaving cd__law_leaving ct__law_leaving), sl__law_leaving⟩)
    (c__law_leaving : PySem.W.codeIn K cd__law_leaving "_law_leaving" = true)
    (k__law_leaving : PySem.W.keepIn K (.ref v__law_leaving) = true)
    (a__law_program : PySem.W.nsIn K mainGlobals "_law_program" = some (some (.ref v__law_program)))
    (l__law_program : K.lookup v__law_program = some ⟨oc__law_program, od__law_program, .func (PySem.W.fnOf "_law_program" "_law_program" (defArgs (top 21)) (defBody (top 21)) (defScope (top 21)) .none kV__law_program dc__law_program pm__law_program an__law_program cd__law_program ct__law_program), sl__law_program⟩)
    (c__law_program : PySem.W.codeIn K cd__law_program "_law_program" = true)
    (k__law_program : PySem.W.keepIn K (.ref v__law_program) = true)
    (a__law_right : PySem.W.nsIn K mainGlobals "_law_right" = some (some (.ref v__law_right)))
    (l__law_right : K.lookup v__law_right = some ⟨oc__law_right, od__law_right, .func (PySem.W.fnOf "_law_right" "_law_right" (defArgs (top 25)) (defBody (top 25)) (defScope (top 25)) .none kV__law_right dc__law_right pm__law_right an__law_right cd__law_right ct__law_right), sl__law_right⟩)
    (c__law_right : PySem.W.codeIn K cd__law_right "_law_right" = true)
    (k__law_right : PySem.W.keepIn K (.ref v__law_right) = true)
    (a__law_unlike : PySem.W.nsIn K mainGlobals "_law_unlike" = some (some (.ref v__law_unlike)))
    (l__law_unlike : K.lookup v__law_unlike = some ⟨oc__law_unlike, od__law_unlike, .func (PySem.W.fnOf "_law_unlike" "_law_unlike" (defArgs (top 26)) (defBody (top 26)) (defScope (top 26)) .none kV__law_unlike dc__law_unlike pm__law_unlike an__law_unlike cd__law_unlike ct__law_unlike), sl__law_unlike⟩)
    (c__law_unlike : PySem.W.codeIn K cd__law_unlike "_law_unlike" = true)
    (k__law_unlike : PySem.W.keepIn K (.ref v__law_unlike) = true)
    (a__law_opened : PySem.W.nsIn K mainGlobals "_law_opened" = some (some (.ref v__law_opened)))
    (l__law_opened : K.lookup v__law_opened = some ⟨oc__law_opened, od__law_opened, .func (PySem.W.fnOf "_law_opened" "_law_opened" (defArgs (top 18)) (defBody (top 18)) (defScope (top 18)) .none kV__law_opened dc__law_opened pm__law_opened an__law_opened cd__law_opened ct__law_opened), sl__law_opened⟩)
    (c__law_opened : PySem.W.codeIn K cd__law_opened "_law_opened" = true)
    (k__law_opened : PySem.W.keepIn K (.ref v__law_opened) = true)
    (a_law : PySem.W.nsIn K mainGlobals "law" = some (some (.ref v_law)))
    (l_law : K.lookup v_law = some ⟨oc_law, od_law, .func (PySem.W.fnOf "law" "law" (defArgs (top 27)) (defBody (top 27)) (defScope (top 27)) .none kV_law dc_law pm_law an_law cd_law ct_law), sl_law⟩)
    (c_law : PySem.W.codeIn K cd_law "law" = true)
    (k_law : PySem.W.keepIn K (.ref v_law) = true)
    (kgt : PySem.W.specialIn K (.builtin "object.__class__") "__get__" = some (some (.builtin "getset_descriptor.__get__")))
    (ktk : PySem.W.takesIn K (.builtin "object.__class__") = some true)
    (pg_Program : PySem.W.plainGet K Program Str.empty = true)
    (hd_Program : PySem.W.hasDictIn K Program = true)
    (po_Program : PySem.W.plainOver K Program = true)
    (sa_Program : PySem.W.findIn K (.ref Program) "__setattr__" = some (some (.builtin "object.__setattr__")))
    (ic_Program : PySem.W.isClsIn K Program = true)
    (ty_Program : PySem.W.typeIn K (.ref Program) = some (.type "type"))
    (sf_Program : PySem.W.mroIn K Program (.ref Program) = some true)
    (ob_Program : PySem.W.mroIn K Program (.type "object") = some true)
    (kl_Program : PySem.W.findIn K (.ref Program) "__class__" = some (some (.builtin "object.__class__")))
    (z_int : PySem.W.nsIn K mainGlobals "int" = some none)
    (z_max : PySem.W.nsIn K mainGlobals "max" = some none)
    (z_len : PySem.W.nsIn K mainGlobals "len" = some none)
    (z_range : PySem.W.nsIn K mainGlobals "range" = some none)
    (z_str : PySem.W.nsIn K mainGlobals "str" = some none)
    (z_isinstance : PySem.W.nsIn K mainGlobals "isinstance" = some none)
    (z_MOST_LETTERS : PySem.W.nsIn K mainGlobals "MOST_LETTERS" = some (some (.int 8 t_MOST_LETTERS)))
    (z_LETTERS : PySem.W.nsIn K mainGlobals "LETTERS" = some (some (.str "abcdefghijklmnopqrstuvwxyz" t_LETTERS)))
    (z_all : PySem.W.nsIn K mainGlobals "all" = some none)
    (z_dict : PySem.W.nsIn K mainGlobals "dict" = some none)
    (z_MOST_WAYS : PySem.W.nsIn K mainGlobals "MOST_WAYS" = some (some (.int 40 t_MOST_WAYS)))
    (z_tuple : PySem.W.nsIn K mainGlobals "tuple" = some none)
    (z_list : PySem.W.nsIn K mainGlobals "list" = some none)
    (na_Program_own_places : PySem.W.findIn K (.ref Program) "own_places" = some none)
    (na_Program_pairs : PySem.W.findIn K (.ref Program) "pairs" = some none)
    (na_Program_own_begin : PySem.W.findIn K (.ref Program) "own_begin" = some none)
    (na_Program_own_exits : PySem.W.findIn K (.ref Program) "own_exits" = some none)
    (na_Program_outs : PySem.W.findIn K (.ref Program) "outs" = some none)
    (na_Program_ins : PySem.W.findIn K (.ref Program) "ins" = some none)
    (z_sorted : PySem.W.nsIn K mainGlobals "sorted" = some none)
    (z_min : PySem.W.nsIn K mainGlobals "min" = some none)
    (z_enumerate : PySem.W.nsIn K mainGlobals "enumerate" = some none) :
    ∃ fd : FuncData, (∀ (s : Shared) (v : Value), BindsTo s fd ⟨[v], []⟩ [("script", v)]) ∧ ∀ base : Heap, K.In base → base.Ns mainGlobals mg → FnOk P w K mg base CX0 7 fa fd ["script"] (spLaw K) := by
  have e := hfa.symm.trans (PySem.W.mg_of X G a_law)
  cases e
  have C_Program : ClsX K Program := ⟨⟨pg_Program, hd_Program, po_Program, sa_Program⟩, ic_Program, ty_Program, sf_Program, ob_Program, kl_Program, kgt, ktk⟩
  have F__law_numbers := fun_mk (st := top 15) l__law_numbers c__law_numbers k__law_numbers
  have B__law_numbers := F__law_numbers.binds (ps := ["cell", "salt", "sizes"]) fun _ _ _ _ _ _ us hl => match us, hl with | [_, _, _], _ => rfl
  have F__law_pool := fun_mk (st := top 16) l__law_pool c__law_pool k__law_pool
  have B__law_pool := F__law_pool.binds (ps := ["cell", "salt", "many"]) fun _ _ _ _ _ _ us hl => match us, hl with | [_, _, _], _ => rfl
  have F_is_word := fun_mk (st := top 10) l_is_word c_is_word k_is_word
  have B_is_word := F_is_word.binds (ps := ["value"]) fun _ _ _ _ _ _ us hl => match us, hl with | [_], _ => rfl
  have F_are_ways := fun_mk (st := top 11) l_are_ways c_are_ways k_are_ways
  have B_are_ways := F_are_ways.binds (ps := ["value"]) fun _ _ _ _ _ _ us hl => match us, hl with | [_], _ => rfl
  have F_come_to := fun_mk (st := top 12) l_come_to c_come_to k_come_to
  have B_come_to := F_come_to.binds (ps := ["starts", "steps"]) fun _ _ _ _ _ _ us hl => match us, hl with | [_, _], _ => rfl
  have F_Program_are_exits := fun_mk (st := inClass (top 13) 1) l_Program_are_exits c_Program_are_exits k_Program_are_exits
  have B_Program_are_exits := F_Program_are_exits.binds (ps := ["self", "exits"]) fun _ _ _ _ _ _ us hl => match us, hl with | [_, _], _ => rfl
  have F_Program_ways_at := fun_mk (st := inClass (top 13) 2) l_Program_ways_at c_Program_ways_at k_Program_ways_at
  have B_Program_ways_at := F_Program_ways_at.binds (ps := ["self", "place", "side"]) fun _ _ _ _ _ _ us hl => match us, hl with | [_, _, _], _ => rfl
  have F_Program_begin := fun_mk (st := inClass (top 13) 3) l_Program_begin c_Program_begin k_Program_begin
  have B_Program_begin := F_Program_begin.binds (ps := ["self"]) fun _ _ _ _ _ _ us hl => match us, hl with | [_], _ => rfl
  have F_Program_ways := fun_mk (st := inClass (top 13) 4) l_Program_ways c_Program_ways k_Program_ways
  have B_Program_ways := F_Program_ways.binds (ps := ["self"]) fun _ _ _ _ _ _ us hl => match us, hl with | [_], _ => rfl
  have F_Program_places := fun_mk (st := inClass (top 13) 5) l_Program_places c_Program_places k_Program_places
  have B_Program_places := F_Program_places.binds (ps := ["self"]) fun _ _ _ _ _ _ us hl => match us, hl with | [_], _ => rfl
  have F_Program_exits := fun_mk (st := inClass (top 13) 6) l_Program_exits c_Program_exits k_Program_exits
  have B_Program_exits := F_Program_exits.binds (ps := ["self"]) fun _ _ _ _ _ _ us hl => match us, hl with | [_], _ => rfl
  have F_Program___contains__ := fun_mk (st := inClass (top 13) 7) l_Program___contains__ c_Program___contains__ k_Program___contains__
  have B_Program___contains__ := F_Program___contains__.binds (ps := ["self", "way"]) fun _ _ _ _ _ _ us hl => match us, hl with | [_, _], _ => rfl
  have F_Program___getitem__ := fun_mk (st := inClass (top 13) 8) l_Program___getitem__ c_Program___getitem__ k_Program___getitem__
  have B_Program___getitem__ := F_Program___getitem__.binds (ps := ["self", "way"]) fun _ _ _ _ _ _ us hl => match us, hl with | [_, _], _ => rfl
  have F_Program___len__ := fun_mk (st := inClass (top 13) 10) l_Program___len__ c_Program___len__ k_Program___len__
  have B_Program___len__ := F_Program___len__.binds (ps := ["self"]) fun _ _ _ _ _ _ us hl => match us, hl with | [_], _ => rfl
  have F_Program_check_place := fun_mk (st := inClass (top 13) 11) l_Program_check_place c_Program_check_place k_Program_check_place
  have B_Program_check_place := F_Program_check_place.binds (ps := ["self", "place"]) fun _ _ _ _ _ _ us hl => match us, hl with | [_, _], _ => rfl
  have F_Program_leaving := fun_mk (st := inClass (top 13) 12) l_Program_leaving c_Program_leaving k_Program_leaving
  have B_Program_leaving := F_Program_leaving.binds (ps := ["self", "place"]) fun _ _ _ _ _ _ us hl => match us, hl with | [_, _], _ => rfl
  have F_Program_entering := fun_mk (st := inClass (top 13) 13) l_Program_entering c_Program_entering k_Program_entering
  have B_Program_entering := F_Program_entering.binds (ps := ["self", "place"]) fun _ _ _ _ _ _ us hl => match us, hl with | [_, _], _ => rfl
  have F_Program___eq__ := fun_mk (st := inClass (top 13) 14) l_Program___eq__ c_Program___eq__ k_Program___eq__
  have B_Program___eq__ := F_Program___eq__.binds (ps := ["self", "other"]) fun _ _ _ _ _ _ us hl => match us, hl with | [_, _], _ => rfl
  have F_Program___init__ := fun_mk (st := inClass (top 13) 0) l_Program___init__ c_Program___init__ k_Program___init__
  have B_Program___init__ := F_Program___init__.binds (ps := ["self", "ways", "begin", "exits"]) fun _ _ _ _ _ _ us hl => match us, hl with | [_, _, _, _], _ => rfl
  have F__law_draw := fun_mk (st := top 17) l__law_draw c__law_draw k__law_draw
  have B__law_draw := F__law_draw.binds (ps := ["pool", "many"]) fun _ _ _ _ _ _ us hl => match us, hl with | [_, _], _ => rfl
  have F__law_words := fun_mk (st := top 19) l__law_words c__law_words k__law_words
  have B__law_words := F__law_words.binds (ps := ["pool", "many"]) fun _ _ _ _ _ _ us hl => match us, hl with | [_, _], _ => rfl
  have F__law_names := fun_mk (st := top 20) l__law_names c__law_names k__law_names
  have B__law_names := F__law_names.binds (ps := ["pool", "many"]) fun _ _ _ _ _ _ us hl => match us, hl with | [_, _], _ => rfl
  have F__law_made := fun_mk (st := top 22) l__law_made c__law_made k__law_made
  have B__law_made := F__law_made.binds (ps := ["prog"]) fun _ _ _ _ _ _ us hl => match us, hl with | [_], _ => rfl
  have F__law_places := fun_mk (st := top 23) l__law_places c__law_places k__law_places
  have B__law_places := F__law_places.binds (ps := ["prog"]) fun _ _ _ _ _ _ us hl => match us, hl with | [_], _ => rfl
  have F__law_leaving := fun_mk (st := top 24) l__law_leaving c__law_leaving k__law_leaving
  have B__law_leaving := F__law_leaving.binds (ps := ["prog", "place"]) fun _ _ _ _ _ _ us hl => match us, hl with | [_, _], _ => rfl
  have F__law_program := fun_mk (st := top 21) l__law_program c__law_program k__law_program
  have B__law_program := F__law_program.binds (ps := ["pool", "most", "more", "rings"]) fun _ _ _ _ _ _ us hl => match us, hl with | [_, _, _, _], _ => rfl
  have F__law_right := fun_mk (st := top 25) l__law_right c__law_right k__law_right
  have B__law_right := F__law_right.binds (ps := ["made", "prog"]) fun _ _ _ _ _ _ us hl => match us, hl with | [_, _], _ => rfl
  have F__law_unlike := fun_mk (st := top 26) l__law_unlike c__law_unlike k__law_unlike
  have B__law_unlike := F__law_unlike.binds (ps := ["made", "prog"]) fun _ _ _ _ _ _ us hl => match us, hl with | [_, _], _ => rfl
  have F__law_opened := fun_mk (st := top 18) l__law_opened c__law_opened k__law_opened
  have B__law_opened := F__law_opened.binds (ps := ["script", "k", "many"]) fun _ _ _ _ _ _ us hl => match us, hl with | [_, _, _], _ => rfl
  have F_law := fun_mk (st := top 27) l_law c_law k_law
  have B_law := F_law.binds (ps := ["script"]) fun _ _ _ _ _ _ us hl => match us, hl with | [_], _ => rfl
  let a : Ad := { Program := Program, v__law_numbers := v__law_numbers, d__law_numbers := PySem.W.fnOf "_law_numbers" "_law_numbers" (defArgs (top 15)) (defBody (top 15)) (defScope (top 15)) .none kV__law_numbers dc__law_numbers pm__law_numbers an__law_numbers cd__law_numbers ct__law_numbers, v__law_pool := v__law_pool, d__law_pool := PySem.W.fnOf "_law_pool" "_law_pool" (defArgs (top 16)) (defBody (top 16)) (defScope (top 16)) .none kV__law_pool dc__law_pool pm__law_pool an__law_pool cd__law_pool ct__law_pool, v_is_word := v_is_word, d_is_word := PySem.W.fnOf "is_word" "is_word" (defArgs (top 10)) (defBody (top 10)) (defScope (top 10)) .none kV_is_word dc_is_word pm_is_word an_is_word cd_is_word ct_is_word, v_are_ways := v_are_ways, d_are_ways := PySem.W.fnOf "are_ways" "are_ways" (defArgs (top 11)) (defBody (top 11)) (defScope (top 11)) .none kV_are_ways dc_are_ways pm_are_ways an_are_ways cd_are_ways ct_are_ways, v_come_to := v_come_to, d_come_to := PySem.W.fnOf "come_to" "come_to" (defArgs (top 12)) (defBody (top 12)) (defScope (top 12)) .none kV_come_to dc_come_to pm_come_to an_come_to cd_come_to ct_come_to, v_Program_are_exits := v_Program_are_exits, d_Program_are_exits := PySem.W.fnOf "are_exits" "Program.are_exits" (defArgs (inClass (top 13) 1)) (defBody (inClass (top 13) 1)) (defScope (inClass (top 13) 1)) .none kV_Program_are_exits dc_Program_are_exits pm_Program_are_exits an_Program_are_exits cd_Program_are_exits ct_Program_are_exits, v_Program_ways_at := v_Program_ways_at, d_Program_ways_at := PySem.W.fnOf "ways_at" "Program.ways_at" (defArgs (inClass (top 13) 2)) (defBody (inClass (top 13) 2)) (defScope (inClass (top 13) 2)) .none kV_Program_ways_at dc_Program_ways_at pm_Program_ways_at an_Program_ways_at cd_Program_ways_at ct_Program_ways_at, p_Program_begin := p_Program_begin, v_Program_begin := v_Program_begin, d_Program_begin := PySem.W.fnOf "begin" "Program.begin" (defArgs (inClass (top 13) 3)) (defBody (inClass (top 13) 3)) (defScope (inClass (top 13) 3)) .none kV_Program_begin dc_Program_begin pm_Program_begin an_Program_begin cd_Program_begin ct_Program_begin, v_Program_ways := v_Program_ways, d_Program_ways := PySem.W.fnOf "ways" "Program.ways" (defArgs (inClass (top 13) 4)) (defBody (inClass (top 13) 4)) (defScope (inClass (top 13) 4)) .none kV_Program_ways dc_Program_ways pm_Program_ways an_Program_ways cd_Program_ways ct_Program_ways, v_Program_places := v_Program_places, d_Program_places := PySem.W.fnOf "places" "Program.places" (defArgs (inClass (top 13) 5)) (defBody (inClass (top 13) 5)) (defScope (inClass (top 13) 5)) .none kV_Program_places dc_Program_places pm_Program_places an_Program_places cd_Program_places ct_Program_places, v_Program_exits := v_Program_exits, d_Program_exits := PySem.W.fnOf "exits" "Program.exits" (defArgs (inClass (top 13) 6)) (defBody (inClass (top 13) 6)) (defScope (inClass (top 13) 6)) .none kV_Program_exits dc_Program_exits pm_Program_exits an_Program_exits cd_Program_exits ct_Program_exits, v_Program___contains__ := v_Program___contains__, d_Program___contains__ := PySem.W.fnOf "__contains__" "Program.__contains__" (defArgs (inClass (top 13) 7)) (defBody (inClass (top 13) 7)) (defScope (inClass (top 13) 7)) .none kV_Program___contains__ dc_Program___contains__ pm_Program___contains__ an_Program___contains__ cd_Program___contains__ ct_Program___contains__, v_Program___getitem__ := v_Program___getitem__, d_Program___getitem__ := PySem.W.fnOf "__getitem__" "Program.__getitem__" (defArgs (inClass (top 13) 8)) (defBody (inClass (top 13) 8)) (defScope (inClass (top 13) 8)) .none kV_Program___getitem__ dc_Program___getitem__ pm_Program___getitem__ an_Program___getitem__ cd_Program___getitem__ ct_Program___getitem__, v_Program___len__ := v_Program___len__, d_Program___len__ := PySem.W.fnOf "__len__" "Program.__len__" (defArgs (inClass (top 13) 10)) (defBody (inClass (top 13) 10)) (defScope (inClass (top 13) 10)) .none kV_Program___len__ dc_Program___len__ pm_Program___len__ an_Program___len__ cd_Program___len__ ct_Program___len__, v_Program_check_place := v_Program_check_place, d_Program_check_place := PySem.W.fnOf "check_place" "Program.check_place" (defArgs (inClass (top 13) 11)) (defBody (inClass (top 13) 11)) (defScope (inClass (top 13) 11)) .none kV_Program_check_place dc_Program_check_place pm_Program_check_place an_Program_check_place cd_Program_check_place ct_Program_check_place, v_Program_leaving := v_Program_leaving, d_Program_leaving := PySem.W.fnOf "leaving" "Program.leaving" (defArgs (inClass (top 13) 12)) (defBody (inClass (top 13) 12)) (defScope (inClass (top 13) 12)) .none kV_Program_leaving dc_Program_leaving pm_Program_leaving an_Program_leaving cd_Program_leaving ct_Program_leaving, v_Program_entering := v_Program_entering, d_Program_entering := PySem.W.fnOf "entering" "Program.entering" (defArgs (inClass (top 13) 13)) (defBody (inClass (top 13) 13)) (defScope (inClass (top 13) 13)) .none kV_Program_entering dc_Program_entering pm_Program_entering an_Program_entering cd_Program_entering ct_Program_entering, v_Program___eq__ := v_Program___eq__, d_Program___eq__ := PySem.W.fnOf "__eq__" "Program.__eq__" (defArgs (inClass (top 13) 14)) (defBody (inClass (top 13) 14)) (defScope (inClass (top 13) 14)) .none kV_Program___eq__ dc_Program___eq__ pm_Program___eq__ an_Program___eq__ cd_Program___eq__ ct_Program___eq__, v_Program___init__ := v_Program___init__, d_Program___init__ := PySem.W.fnOf "__init__" "Program.__init__" (defArgs (inClass (top 13) 0)) (defBody (inClass (top 13) 0)) (defScope (inClass (top 13) 0)) .none kV_Program___init__ dc_Program___init__ pm_Program___init__ an_Program___init__ cd_Program___init__ ct_Program___init__, v__law_draw := v__law_draw, d__law_draw := PySem.W.fnOf "_law_draw" "_law_draw" (defArgs (top 17)) (defBody (top 17)) (defScope (top 17)) .none kV__law_draw dc__law_draw pm__law_draw an__law_draw cd__law_draw ct__law_draw, v__law_words := v__law_words, d__law_words := PySem.W.fnOf "_law_words" "_law_words" (defArgs (top 19)) (defBody (top 19)) (defScope (top 19)) .none kV__law_words dc__law_words pm__law_words an__law_words cd__law_words ct__law_words, v__law_names := v__law_names, d__law_names := PySem.W.fnOf "_law_names" "_law_names" (defArgs (top 20)) (defBody (top 20)) (defScope (top 20)) .none kV__law_names dc__law_names pm__law_names an__law_names cd__law_names ct__law_names, v__law_made := v__law_made, d__law_made := PySem.W.fnOf "_law_made" "_law_made" (defArgs (top 22)) (defBody (top 22)) (defScope (top 22)) .none kV__law_made dc__law_made pm__law_made an__law_made cd__law_made ct__law_made, v__law_places := v__law_places, d__law_places := PySem.W.fnOf "_law_places" "_law_places" (defArgs (top 23)) (defBody (top 23)) (defScope (top 23)) .none kV__law_places dc__law_places pm__law_places an__law_places cd__law_places ct__law_places, v__law_leaving := v__law_leaving, d__law_leaving := PySem.W.fnOf "_law_leaving" "_law_leaving" (defArgs (top 24)) (defBody (top 24)) (defScope (top 24)) .none kV__law_leaving dc__law_leaving pm__law_leaving an__law_leaving cd__law_leaving ct__law_leaving, v__law_program := v__law_program, d__law_program := PySem.W.fnOf "_law_program" "_law_program" (defArgs (top 21)) (defBody (top 21)) (defScope (top 21)) .none kV__law_program dc__law_program pm__law_program an__law_program cd__law_program ct__law_program, v__law_right := v__law_right, d__law_right := PySem.W.fnOf "_law_right" "_law_right" (defArgs (top 25)) (defBody (top 25)) (defScope (top 25)) .none kV__law_right dc__law_right pm__law_right an__law_right cd__law_right ct__law_right, v__law_unlike := v__law_unlike, d__law_unlike := PySem.W.fnOf "_law_unlike" "_law_unlike" (defArgs (top 26)) (defBody (top 26)) (defScope (top 26)) .none kV__law_unlike dc__law_unlike pm__law_unlike an__law_unlike cd__law_unlike ct__law_unlike, v__law_opened := v__law_opened, d__law_opened := PySem.W.fnOf "_law_opened" "_law_opened" (defArgs (top 18)) (defBody (top 18)) (defScope (top 18)) .none kV__law_opened dc__law_opened pm__law_opened an__law_opened cd__law_opened ct__law_opened, v_law := fa, d_law := PySem.W.fnOf "law" "law" (defArgs (top 27)) (defBody (top 27)) (defScope (top 27)) .none kV_law dc_law pm_law an_law cd_law ct_law }
  have T : Txt K mg a := { F__law_numbers := F__law_numbers, B__law_numbers := B__law_numbers, m__law_numbers := PySem.W.mg_of X G a__law_numbers, F__law_pool := F__law_pool, B__law_pool := B__law_pool, m__law_pool := PySem.W.mg_of X G a__law_pool, F_is_word := F_is_word, B_is_word := B_is_word, m_is_word := PySem.W.mg_of X G a_is_word, F_are_ways := F_are_ways, B_are_ways := B_are_ways, m_are_ways := PySem.W.mg_of X G a_are_ways, F_come_to := F_come_to, B_come_to := B_come_to, m_come_to := PySem.W.mg_of X G a_come_to, F_Program_are_exits := F_Program_are_exits, B_Program_are_exits := B_Program_are_exits, Me_Program_are_exits := ⟨a_Program_are_exits, i_Program_are_exits, k_Program_are_exits⟩, F_Program_ways_at := F_Program_ways_at, B_Program_ways_at := B_Program_ways_at, Me_Program_ways_at := ⟨a_Program_ways_at, i_Program_ways_at, k_Program_ways_at⟩, Pr_Program_begin := ⟨a_Program_begin, pg_Program_begin, pt_Program_begin, ⟨_, px_Program_begin⟩⟩, F_Program_begin := F_Program_begin, B_Program_begin := B_Program_begin, F_Program_ways := F_Program_ways, B_Program_ways := B_Program_ways, Me_Program_ways := ⟨a_Program_ways, i_Program_ways, k_Program_ways⟩, F_Program_places := F_Program_places, B_Program_places := B_Program_places, Me_Program_places := ⟨a_Program_places, i_Program_places, k_Program_places⟩, F_Program_exits := F_Program_exits, B_Program_exits := B_Program_exits, Me_Program_exits := ⟨a_Program_exits, i_Program_exits, k_Program_exits⟩, F_Program___contains__ := F_Program___contains__, B_Program___contains__ := B_Program___contains__, S_Program___contains__ := ⟨a_Program___contains__, i_Program___contains__⟩, F_Program___getitem__ := F_Program___getitem__, B_Program___getitem__ := B_Program___getitem__, S_Program___getitem__ := ⟨a_Program___getitem__, i_Program___getitem__⟩, fi_Program___getitem__ := fi_Program___getitem__, F_Program___len__ := F_Program___len__, B_Program___len__ := B_Program___len__, S_Program___len__ := ⟨a_Program___len__, i_Program___len__⟩, F_Program_check_place := F_Program_check_place, B_Program_check_place := B_Program_check_place, Me_Program_check_place := ⟨a_Program_check_place, i_Program_check_place, k_Program_check_place⟩, F_Program_leaving := F_Program_leaving, B_Program_leaving := B_Program_leaving, Me_Program_leaving := ⟨a_Program_leaving, i_Program_leaving, k_Program_leaving⟩, F_Program_entering := F_Program_entering, B_Program_entering := B_Program_entering, Me_Program_entering := ⟨a_Program_entering, i_Program_entering, k_Program_entering⟩, F_Program___eq__ := F_Program___eq__, B_Program___eq__ := B_Program___eq__, S_Program___eq__ := ⟨a_Program___eq__, i_Program___eq__⟩, nf_Program := nf_cls C_Program, F_Program___init__ := F_Program___init__, B_Program___init__ := B_Program___init__, K_Program := ⟨mk_Program, a_Program___init__, i_Program___init__, kc_Program⟩, F__law_draw := F__law_draw, B__law_draw := B__law_draw, m__law_draw := PySem.W.mg_of X G a__law_draw, F__law_words := F__law_words, B__law_words := B__law_words, m__law_words := PySem.W.mg_of X G a__law_words, F__law_names := F__law_names, B__law_names := B__law_names, m__law_names := PySem.W.mg_of X G a__law_names, F__law_made := F__law_made, B__law_made := B__law_made, m__law_made := PySem.W.mg_of X G a__law_made, F__law_places := F__law_places, B__law_places := B__law_places, m__law_places := PySem.W.mg_of X G a__law_places, F__law_leaving := F__law_leaving, B__law_leaving := B__law_leaving, m__law_leaving := PySem.W.mg_of X G a__law_leaving, F__law_program := F__law_program, B__law_program := B__law_program, m__law_program := PySem.W.mg_of X G a__law_program, F__law_right := F__law_right, B__law_right := B__law_right, m__law_right := PySem.W.mg_of X G a__law_right, F__law_unlike := F__law_unlike, B__law_unlike := B__law_unlike, m__law_unlike := PySem.W.mg_of X G a__law_unlike, F__law_opened := F__law_opened, B__law_opened := B__law_opened, m__law_opened := PySem.W.mg_of X G a__law_opened, F_law := F_law, B_law := B_law, m_law := PySem.W.mg_of X G a_law, C_Program := C_Program.toCls, b_int := PySem.W.mg_none_of X G z_int, b_max := PySem.W.mg_none_of X G z_max, b_len := PySem.W.mg_none_of X G z_len, b_range := PySem.W.mg_none_of X G z_range, b_str := PySem.W.mg_none_of X G z_str, b_isinstance := PySem.W.mg_none_of X G z_isinstance, g_MOST_LETTERS := mg_int X G z_MOST_LETTERS, g_LETTERS := mg_str X G z_LETTERS, b_all := PySem.W.mg_none_of X G z_all, b_dict := PySem.W.mg_none_of X G z_dict, g_MOST_WAYS := mg_int X G z_MOST_WAYS, b_tuple := PySem.W.mg_none_of X G z_tuple, b_list := PySem.W.mg_none_of X G z_list, na_Program_own_places := na_Program_own_places, na_Program_pairs := na_Program_pairs, na_Program_own_begin := na_Program_own_begin, na_Program_own_exits := na_Program_own_exits, na_Program_outs := na_Program_outs, na_Program_ins := na_Program_ins, is_Program := is_cls C_Program, mg_Program := PySem.W.mg_of X G aC_Program, b_sorted := PySem.W.mg_none_of X G z_sorted, b_min := PySem.W.mg_none_of X G z_min, b_enumerate := PySem.W.mg_none_of X G z_enumerate }
  exact ⟨_, fun s v => .of_eq rfl, fun base _ _ => ok_law T (math_pool a) (math_end a)⟩
end K01
open PySem PySem.W PyProof.Rows
set_option maxRecDepth 100000 in
set_option maxHeartbeats 0 in
theorem PySem.Challenge.cw_countededges_k01_words_and_programs_made_holds : PySem.Challenge.rw_countededges_k01_words_and_programs_made.Holds := by
  w_on; o_law; k_head; (case hw => w_witness2)
  k_fill
  refine DL.walk_law (l := PySem.Challenge.rw_countededges_k01_words_and_programs_made) 7 rfl rfl ⟨rfl, by decide, by decide⟩ (fun w h Y => PySem.W.kIn_of Y) ?F
  case F =>
    intro w mg fa h KX G hmg
    refine' K01.all_mk KX G hmg ?aC_Program ?a__law_numbers ?l__law_numbers ?c__law_numbers ?k__law_numbers ?a__law_pool ?l__law_pool ?c__law_pool ?k__law_pool ?a_is_word ?l_is_word ?c_is_word ?k_is_word ?a_are_ways ?l_are_ways ?c_are_ways ?k_are_ways ?a_come_to ?l_come_to ?c_come_to ?k_come_to ?a_Program_are_exits ?i_Program_are_exits ?l_Program_are_exits ?c_Program_are_exits ?k_Program_are_exits ?a_Program_ways_at ?i_Program_ways_at ?l_Program_ways_at ?c_Program_ways_at ?k_Program_ways_at ?a_Program_begin ?pg_Program_begin ?pt_Program_begin ?px_Program_begin ?l_Program_begin ?c_Program_begin ?k_Program_begin ?a_Program_ways ?i_Program_ways ?l_Program_ways ?c_Program_ways ?k_Program_ways ?a_Program_places ?i_Program_places ?l_Program_places ?c_Program_places ?k_Program_places ?a_Program_exits ?i_Program_exits ?l_Program_exits ?c_Program_exits ?k_Program_exits ?a_Program___contains__ ?i_Program___contains__ ?l_Program___contains__ ?c_Program___contains__ ?k_Program___contains__ ?a_Program___getitem__ ?i_Program___getitem__ ?l_Program___getitem__ ?c_Program___getitem__ ?k_Program___getitem__ ?fi_Program___getitem__ ?a_Program___len__ ?i_Program___len__ ?l_Program___len__ ?c_Program___len__ ?k_Program___len__ ?a_Program_check_place ?i_Program_check_place ?l_Program_check_place ?c_Program_check_place ?k_Program_check_place ?a_Program_leaving ?i_Program_leaving ?l_Program_leaving ?c_Program_leaving ?k_Program_leaving ?a_Program_entering ?i_Program_entering ?l_Program_entering ?c_Program_entering ?k_Program_entering ?a_Program___eq__ ?i_Program___eq__ ?l_Program___eq__ ?c_Program___eq__ ?k_Program___eq__ ?a_Program___init__ ?i_Program___init__ ?l_Program___init__ ?c_Program___init__ ?k_Program___init__ ?mk_Program ?kc_Program ?a__law_draw ?l__law_draw ?c__law_draw ?k__law_draw ?a__law_words ?l__law_words ?c__law_words ?k__law_words ?a__law_names ?l__law_names ?c__law_names ?k__law_names ?a__law_made ?l__law_made ?c__law_made ?k__law_made ?a__law_places ?l__law_places ?c__law_places ?k__law_places ?a__law_leaving ?l__law_leaving ?c__law_leaving ?k__law_leaving ?a__law_program ?l__law_program ?c__law_program ?k__law_program ?a__law_right ?l__law_right ?c__law_right ?k__law_right ?a__law_unlike ?l__law_unlike ?c__law_unlike ?k__law_unlike ?a__law_opened ?l__law_opened ?c__law_opened ?k__law_opened ?a_law ?l_law ?c_law ?k_law ?kgt ?ktk ?pg_Program ?hd_Program ?po_Program ?sa_Program ?ic_Program ?ty_Program ?sf_Program ?ob_Program ?kl_Program ?z_int ?z_max ?z_len ?z_range ?z_str ?z_isinstance ?z_MOST_LETTERS ?z_LETTERS ?z_all ?z_dict ?z_MOST_WAYS ?z_tuple ?z_list ?na_Program_own_places ?na_Program_pairs ?na_Program_own_begin ?na_Program_own_exits ?na_Program_outs ?na_Program_ins ?z_sorted ?z_min ?z_enumerate
    (case aC_Program => k_is)
    (case a__law_numbers => k_is)
    (case l__law_numbers => k_is)
    (case c__law_numbers => k_is)
    (case k__law_numbers => k_is)
    (case a__law_pool => k_is)
    (case l__law_pool => k_is)
    (case c__law_pool => k_is)
    (case k__law_pool => k_is)
    (case a_is_word => k_is)
    (case l_is_word => k_is)
    (case c_is_word => k_is)
    (case k_is_word => k_is)
    (case a_are_ways => k_is)
    (case l_are_ways => k_is)
    (case c_are_ways => k_is)
    (case k_are_ways => k_is)
    (case a_come_to => k_is)
    (case l_come_to => k_is)
    (case c_come_to => k_is)
    (case k_come_to => k_is)
    (case a_Program_are_exits => k_is)
    (case i_Program_are_exits => k_is)
    (case l_Program_are_exits => k_is)
    (case c_Program_are_exits => k_is)
    (case k_Program_are_exits => k_is)
    (case a_Program_ways_at => k_is)
    (case i_Program_ways_at => k_is)
    (case l_Program_ways_at => k_is)
    (case c_Program_ways_at => k_is)
    (case k_Program_ways_at => k_is)
    (case a_Program_begin => k_is)
    (case pg_Program_begin => k_is)
    (case pt_Program_begin => k_is)
    (case px_Program_begin => k_is)
    (case l_Program_begin => k_is)
    (case c_Program_begin => k_is)
    (case k_Program_begin => k_is)
    (case a_Program_ways => k_is)
    (case i_Program_ways => k_is)
    (case l_Program_ways => k_is)
    (case c_Program_ways => k_is)
    (case k_Program_ways => k_is)
    (case a_Program_places => k_is)
    (case i_Program_places => k_is)
    (case l_Program_places => k_is)
    (case c_Program_places => k_is)
    (case k_Program_places => k_is)
    (case a_Program_exits => k_is)
    (case i_Program_exits => k_is)
    (case l_Program_exits => k_is)
    (case c_Program_exits => k_is)
    (case k_Program_exits => k_is)
    (case a_Program___contains__ => k_is)
    (case i_Program___contains__ => k_is)
    (case l_Program___contains__ => k_is)
    (case c_Program___contains__ => k_is)
    (case k_Program___contains__ => k_is)
    (case a_Program___getitem__ => k_is)
    (case i_Program___getitem__ => k_is)
    (case l_Program___getitem__ => k_is)
    (case c_Program___getitem__ => k_is)
    (case k_Program___getitem__ => k_is)
    (case fi_Program___getitem__ => k_is)
    (case a_Program___len__ => k_is)
    (case i_Program___len__ => k_is)
    (case l_Program___len__ => k_is)
    (case c_Program___len__ => k_is)
    (case k_Program___len__ => k_is)
    (case a_Program_check_place => k_is)
    (case i_Program_check_place => k_is)
    (case l_Program_check_place => k_is)
    (case c_Program_check_place => k_is)
    (case k_Program_check_place => k_is)
    (case a_Program_leaving => k_is)
    (case i_Program_leaving => k_is)
    (case l_Program_leaving => k_is)
    (case c_Program_leaving => k_is)
    (case k_Program_leaving => k_is)
    (case a_Program_entering => k_is)
    (case i_Program_entering => k_is)
    (case l_Program_entering => k_is)
    (case c_Program_entering => k_is)
    (case k_Program_entering => k_is)
    (case a_Program___eq__ => k_is)
    (case i_Program___eq__ => k_is)
    (case l_Program___eq__ => k_is)
    (case c_Program___eq__ => k_is)
    (case k_Program___eq__ => k_is)
    (case a_Program___init__ => k_is)
    (case i_Program___init__ => k_is)
    (case l_Program___init__ => k_is)
    (case c_Program___init__ => k_is)
    (case k_Program___init__ => k_is)
    (case mk_Program => k_is)
    (case kc_Program => k_is)
    (case a__law_draw => k_is)
    (case l__law_draw => k_is)
    (case c__law_draw => k_is)
    (case k__law_draw => k_is)
    (case a__law_words => k_is)
    (case l__law_words => k_is)
    (case c__law_words => k_is)
    (case k__law_words => k_is)
    (case a__law_names => k_is)
    (case l__law_names => k_is)
    (case c__law_names => k_is)
    (case k__law_names => k_is)
    (case a__law_made => k_is)
    (case l__law_made => k_is)
    (case c__law_made => k_is)
    (case k__law_made => k_is)
    (case a__law_places => k_is)
    (case l__law_places => k_is)
    (case c__law_places => k_is)
    (case k__law_places => k_is)
    (case a__law_leaving => k_is)
    (case l__law_leaving => k_is)
    (case c__law_leaving => k_is)
    (case k__law_leaving => k_is)
    (case a__law_program => k_is)
    (case l__law_program => k_is)
    (case c__law_program => k_is)
    (case k__law_program => k_is)
    (case a__law_right => k_is)
    (case l__law_right => k_is)
    (case c__law_right => k_is)
    (case k__law_right => k_is)
    (case a__law_unlike => k_is)
    (case l__law_unlike => k_is)
    (case c__law_unlike => k_is)
    (case k__law_unlike => k_is)
    (case a__law_opened => k_is)
    (case l__law_opened => k_is)
    (case c__law_opened => k_is)
    (case k__law_opened => k_is)
    (case a_law => k_is)
    (case l_law => k_is)
    (case c_law => k_is)
    (case k_law => k_is)
    (case kgt => k_is)
    (case ktk => k_is)
    (case pg_Program => k_is)
    (case hd_Program => k_is)
    (case po_Program => k_is)
    (case sa_Program => k_is)
    (case ic_Program => k_is)
    (case ty_Program => k_is)
    (case sf_Program => k_is)
    (case ob_Program => k_is)
    (case kl_Program => k_is)
    (case z_int => k_is)
    (case z_max => k_is)
    (case z_len => k_is)
    (case z_range => k_is)
    (case z_str => k_is)
    (case z_isinstance => k_is)
    (case z_MOST_LETTERS => k_is)
    (case z_LETTERS => k_is)
    (case z_all => k_is)
    (case z_dict => k_is)
    (case z_MOST_WAYS => k_is)
    (case z_tuple => k_is)
    (case z_list => k_is)
    (case na_Program_own_places => k_is)
    (case na_Program_pairs => k_is)
    (case na_Program_own_begin => k_is)
    (case na_Program_own_exits => k_is)
    (case na_Program_outs => k_is)
    (case na_Program_ins => k_is)
    (case z_sorted => k_is)
    (case z_min => k_is)
    (case z_enumerate => k_is)
#print axioms PySem.Challenge.cw_countededges_k01_words_and_programs_made_holds
