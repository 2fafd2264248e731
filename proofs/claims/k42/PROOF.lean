import PyProof.Rows.All
import Wide.All
import OpenK.AllK
import Wide.FinOn
import HandS.ForMost
import HandS.Exc
import HandS.Property
import HandS.Wide
import HandS.DictComp
import HandS.SetKeys
import HandS.Flow
import HandS.Small
import HandS.IsInst
import KE.KEqNest
import HandS.ListEq
import HandS.Lambda
import KE.KeyNested
import HandS.CallSlots
import HandS.ExcOwn
import HandS.WordsExc
import HandS.Style
import HandS.More
import HandS.Star
import HandS.SetBool
import KE.KExcInit
import HandS.ExcField
import HandS.TryMany
import PyProof.EqAt
import PyProof.InstNe
import HandS.ClsMeth
import HandS.TupLen
import PyProof.ReprRoads
import HandS.HotCalls
import KE.KOpsOwn
import HandS.GenList
import KE.GoesEnum
import KE.SortCalls
import HandS.SortOrd
import KE.KStateDown
import HandS.HeadEnd
import HandS.Head0
import HandS.Head1
import HandS.Head2
import HandS.HeadHook1
import KE.KDictPairs
import HandS.Conv
import HandS.ExcValue
import KE.KExcIs
import PySem.Challenge.RW_countededges_k42_classes_of_errors
set_option Elab.async false
set_option linter.all false
set_option maxRecDepth 100000
set_option maxHeartbeats 2000000
namespace DL
open PySem L2
inductive D where
  | non | bl (b : Bool) | int (i : Int) | str (s : Str)
  | lst (xs : List D) | tup (xs : List D)
  | dk (kvs : List (Key × D)) | dt (kvs : List (List Key × D))
  | ins (C : Addr) (fs : List (Str × D))
  | pool | ob (v : V)
  /-- a walk's dict, a walk's list; a lambda -/
  | wkn | wqu | lam (k : Nat)
  deriving Inhabited
/-- values that need no heap -/
def D.flat : D → Bool
  | .non => true | .bl _ => true | .int _ => true | .str _ => true | .ob _ => true | _ => false
/-- where a walk's dict and list stand; the tables of code objects -/
structure PlX where
  wk : Option (Addr × Addr) := none
  tb : List (Addr × Str) := []
abbrev Pl := Option (Addr × Addr × PlX)
/-- an object that is known and never changes -/
abbrev fzO (o : Obj) : HO := .frz o (.own 0)
/-- a code object of a name -/
def CodeAt (H : Hp) (c : Addr) (q : Str) : Prop := ∃ (oc : Obj) (vs : Array Value) (t : Tok), H c = some (fzO oc) ∧ oc.data = .fields vs ∧ vs[1]? = some (.str q t)
/-- the classes of errors, in order -/
def exN : List Str := ["BadArgument", "BadProgram", "BadPlace", "BadWay", "BadRun", "BadCounter", "BadLot", "NoLot", "BadNumber", "BadValues", "NotTold", "Rings", "BadCosts", "BadLevels", "TooMany", "BadChange", "BadText", "BadName", "NameTaken", "UnknownName", "FailedDeed", "NothingToUndo", "BadCommand"]
/-- an error of the class at C, its dict -/
def xoH (e C : Addr) (dd : Option Addr) : HO := .ext fun h => ∃ (oe : Obj) (vs : Array Value), h.get? e = some oe ∧ oe.cls = .ref C ∧ oe.dict = dd ∧ oe.data = .fields vs
/-- an error of the kth class -/
def LamAt (K : PySem.W.Frag) (H : Hp) (k : Nat) (f : Addr) : Prop := ∃ nm C dd, exN[k]? = some nm ∧ PySem.W.nsIn K mainGlobals nm = some (some (.ref C)) ∧ H f = some (xoH f C dd) ∧ ∀ d, dd = some d → ∃ vs, H d = some (.xd vs)
mutual
def Rep (pl : Pl) (K : PySem.W.Frag) (H : Hp) : D → V → Prop
  | .non, v => v = .non
  | .bl b, v => v = .bl b
  | .int i, v => v = .int i
  | .str s, v => v = .str s
  | .lst ds, v => ∃ p vs, v = .ref p ∧ H p = some (.lst vs) ∧ Reps pl K H ds vs
  | .tup ds, v => ∃ p vs, v = .ref p ∧ H p = some (.tup vs) ∧ Reps pl K H ds vs
  | .dk kvs, v => ∃ p vs, v = .ref p ∧ Rd H p (.dK vs) ∧ RepK pl K H kvs vs
  | .dt kvs, v => ∃ p vs, v = .ref p ∧ Rd H p (.dT vs) ∧ RepT pl K H kvs vs
  | .ins C fs, v => ∃ p dx vs, v = .ref p ∧ H p = some (.ins C dx vs) ∧ RepF pl K H fs vs
  | .pool, v => pl.map (fun x => V.ref x.1) = some v
  | .ob w, v => v = w
  | .wkn, v => (pl.bind fun x => x.2.2.wk).map (fun x => V.ref x.1) = some v
  | .wqu, v => (pl.bind fun x => x.2.2.wk).map (fun x => V.ref x.2) = some v
  | .lam k, v => ∃ f, v = .ref f ∧ LamAt K H k f
def Reps (pl : Pl) (K : PySem.W.Frag) (H : Hp) : List D → List V → Prop
  | [], vs => vs = []
  | d :: ds, vs => ∃ v r, vs = v :: r ∧ Rep pl K H d v ∧ Reps pl K H ds r
def RepK (pl : Pl) (K : PySem.W.Frag) (H : Hp) : List (Key × D) → List (Key × V) → Prop
  | [], vs => vs = []
  | (k, d) :: ds, vs => ∃ v r, vs = (k, v) :: r ∧ Rep pl K H d v ∧ RepK pl K H ds r
def RepT (pl : Pl) (K : PySem.W.Frag) (H : Hp) : List (List Key × D) → List (List Key × V) → Prop
  | [], vs => vs = []
  | (k, d) :: ds, vs => ∃ v r, vs = (k, v) :: r ∧ Rep pl K H d v ∧ RepT pl K H ds r
def RepF (pl : Pl) (K : PySem.W.Frag) (H : Hp) : List (Str × D) → List (Str × V) → Prop
  | [], vs => vs = []
  | (k, d) :: ds, vs => ∃ v r, vs = (k, v) :: r ∧ Rep pl K H d v ∧ RepF pl K H ds r
end
/-- all that stands still stands -/
def Ex (H H' : Hp) : Prop := ∀ a o, H a = some o → H' a = some o
theorem Ex.rd {H H' : Hp} {a : Addr} {u : HO} (e : Ex H H') (h : Rd H a u) : Rd H' a u := by
  rcases h with h | ⟨o, h⟩
  · exact .inl (e a _ h)
  · exact .inr ⟨o, e a _ h⟩
theorem Ex.sl {K : PySem.W.Frag} {H H' : Hp} {a : Addr} {xs : List V} (e : Ex H H') (h : SqL K H a xs) : SqL K H' a xs := by
  rcases h with h | h
  · exact .inl (e.rd h)
  · exact .inr h
theorem Ex.st {K : PySem.W.Frag} {H H' : Hp} {a : Addr} {xs : List V} (e : Ex H H') (h : SqT K H a xs) : SqT K H' a xs := by
  rcases h with h | h
  · exact .inl (e.rd h)
  · exact .inr h
theorem CodeAt.mono {H H' : Hp} {c : Addr} {q : Str} (e : Ex H H') (h : CodeAt H c q) : CodeAt H' c q :=
  let ⟨oc, vs, t, h1, h2, h3⟩ := h; ⟨oc, vs, t, e _ _ h1, h2, h3⟩
theorem LamAt.mono {K : PySem.W.Frag} {H H' : Hp} {k : Nat} {f : Addr} (e : Ex H H') (h : LamAt K H k f) : LamAt K H' k f :=
  let ⟨nm, C, dd, h1, h2, h3, h4⟩ := h; ⟨nm, C, dd, h1, h2, e _ _ h3, fun d hd => let ⟨vs, h5⟩ := h4 d hd; ⟨vs, e _ _ h5⟩⟩
section
variable {pl : Pl} {K : PySem.W.Frag} {H H' : Hp}
mutual
theorem Rep.mono (e : Ex H H') : ∀ {d : D} {v : V}, Rep pl K H d v → Rep pl K H' d v
  | .non, _, h => h
  | .bl _, _, h => h
  | .int _, _, h => h
  | .str _, _, h => h
  | .lst _, _, h => by
    unfold Rep at h ⊢
    obtain ⟨p, vs, h1, h2, h3⟩ := h
    exact ⟨p, vs, h1, e _ _ h2, Reps.mono e h3⟩
  | .tup _, _, h => by
    unfold Rep at h ⊢
    obtain ⟨p, vs, h1, h2, h3⟩ := h
    exact ⟨p, vs, h1, e _ _ h2, Reps.mono e h3⟩
  | .dk _, _, h => by
    unfold Rep at h ⊢
    obtain ⟨p, vs, h1, h2, h3⟩ := h
    exact ⟨p, vs, h1, e.rd h2, RepK.mono e h3⟩
  | .dt _, _, h => by
    unfold Rep at h ⊢
    obtain ⟨p, vs, h1, h2, h3⟩ := h
    exact ⟨p, vs, h1, e.rd h2, RepT.mono e h3⟩
  | .ins _ _, _, h => by
    unfold Rep at h ⊢
    obtain ⟨p, dx, vs, h1, h2, h3⟩ := h
    exact ⟨p, dx, vs, h1, e _ _ h2, RepF.mono e h3⟩
  | .pool, _, h => h
  | .ob _, _, h => h
  | .wkn, _, h => h
  | .wqu, _, h => h
  | .lam _, _, h => by
    unfold Rep at h ⊢
    obtain ⟨f, h1, h2⟩ := h
    exact ⟨f, h1, h2.mono e⟩
theorem Reps.mono (e : Ex H H') : ∀ {ds : List D} {vs : List V}, Reps pl K H ds vs → Reps pl K H' ds vs
  | [], _, h => h
  | _ :: _, _, h => by
    unfold Reps at h ⊢
    obtain ⟨v, r, h1, h2, h3⟩ := h
    exact ⟨v, r, h1, Rep.mono e h2, Reps.mono e h3⟩
theorem RepK.mono (e : Ex H H') : ∀ {ds : List (Key × D)} {vs : List (Key × V)}, RepK pl K H ds vs → RepK pl K H' ds vs
  | [], _, h => h
  | (_, _) :: _, _, h => by
    unfold RepK at h ⊢
    obtain ⟨v, r, h1, h2, h3⟩ := h
    exact ⟨v, r, h1, Rep.mono e h2, RepK.mono e h3⟩
theorem RepT.mono (e : Ex H H') : ∀ {ds : List (List Key × D)} {vs : List (List Key × V)}, RepT pl K H ds vs → RepT pl K H' ds vs
  | [], _, h => h
  | (_, _) :: _, _, h => by
    unfold RepT at h ⊢
    obtain ⟨v, r, h1, h2, h3⟩ := h
    exact ⟨v, r, h1, Rep.mono e h2, RepT.mono e h3⟩
theorem RepF.mono (e : Ex H H') : ∀ {ds : List (Str × D)} {vs : List (Str × V)}, RepF pl K H ds vs → RepF pl K H' ds vs
  | [], _, h => h
  | (_, _) :: _, _, h => by
    unfold RepF at h ⊢
    obtain ⟨v, r, h1, h2, h3⟩ := h
    exact ⟨v, r, h1, Rep.mono e h2, RepF.mono e h3⟩
end
theorem Reps.nil : Reps pl K H [] [] := by unfold Reps; rfl
theorem Reps.cons {d : D} {v : V} {ds : List D} {vs : List V} (h : Rep pl K H d v) (t : Reps pl K H ds vs) : Reps pl K H (d :: ds) (v :: vs) := by
  unfold Reps; exact ⟨v, vs, rfl, h, t⟩
theorem Reps.inv_nil {vs : List V} (h : Reps pl K H [] vs) : vs = [] := by unfold Reps at h; exact h
theorem Reps.inv_cons {d : D} {ds : List D} {vs : List V} (h : Reps pl K H (d :: ds) vs) : ∃ v r, vs = v :: r ∧ Rep pl K H d v ∧ Reps pl K H ds r := by
  unfold Reps at h; exact h
theorem Reps.length : ∀ {ds : List D} {vs : List V}, Reps pl K H ds vs → vs.length = ds.length
  | [], _, h => by rw [h.inv_nil]; rfl
  | _ :: _, _, h => by
    obtain ⟨v, r, rfl, _, h3⟩ := h.inv_cons
    rw [List.length_cons, List.length_cons, Reps.length h3]
theorem Reps.get : ∀ {ds : List D} {vs : List V} {i : Nat} {d : D}, Reps pl K H ds vs → ds[i]? = some d → ∃ v, vs[i]? = some v ∧ Rep pl K H d v
  | [], _, _, _, _, e => by simp at e
  | _ :: _, _, 0, _, h, e => by
    obtain ⟨v, r, rfl, h2, _⟩ := h.inv_cons
    simp at e; subst e
    exact ⟨v, rfl, h2⟩
  | _ :: _, _, i + 1, _, h, e => by
    obtain ⟨v, r, rfl, _, h3⟩ := h.inv_cons
    obtain ⟨u, h4, h5⟩ := Reps.get (i := i) h3 (by simpa using e)
    exact ⟨u, by simpa using h4, h5⟩
theorem Reps.getV {ds : List D} {vs : List V} {i : Nat} {v : V} (h : Reps pl K H ds vs) (e : vs[i]? = some v) : ∃ d, ds[i]? = some d ∧ Rep pl K H d v := by
  have hl : i < ds.length := by rw [← h.length]; exact (List.getElem?_eq_some_iff.mp e).1
  obtain ⟨u, h1, h2⟩ := h.get (List.getElem?_eq_getElem hl)
  rw [e] at h1; cases h1
  exact ⟨_, List.getElem?_eq_getElem hl, h2⟩
theorem Reps.append : ∀ {ds es : List D} {vs us : List V}, Reps pl K H ds vs → Reps pl K H es us → Reps pl K H (ds ++ es) (vs ++ us)
  | [], _, _, _, h, t => by rw [h.inv_nil]; exact t
  | _ :: _, _, _, _, h, t => by
    obtain ⟨v, r, rfl, h2, h3⟩ := h.inv_cons
    exact Reps.cons h2 (Reps.append h3 t)
theorem Reps.take : ∀ {ds : List D} {vs : List V} (n : Nat), Reps pl K H ds vs → Reps pl K H (ds.take n) (vs.take n)
  | _, _, 0, _ => Reps.nil
  | [], _, n + 1, h => by rw [h.inv_nil]; exact Reps.nil
  | _ :: _, _, n + 1, h => by
    obtain ⟨v, r, rfl, h2, h3⟩ := h.inv_cons
    exact Reps.cons h2 (Reps.take n h3)
theorem Reps.drop : ∀ {ds : List D} {vs : List V} (n : Nat), Reps pl K H ds vs → Reps pl K H (ds.drop n) (vs.drop n)
  | _, _, 0, h => h
  | [], _, n + 1, h => by rw [h.inv_nil]; exact Reps.nil
  | _ :: _, _, n + 1, h => by
    obtain ⟨v, r, rfl, h2, h3⟩ := h.inv_cons
    exact Reps.drop n h3
theorem Reps.set {ds : List D} {vs : List V} {d : D} {v : V} (n : Nat) (hd : Rep pl K H d v) (h : Reps pl K H ds vs) : Reps pl K H (ds.set n d) (vs.set n v) := by
  induction n generalizing ds vs with
  | zero =>
    cases ds with
    | nil => rw [h.inv_nil]; exact Reps.nil
    | cons a r =>
      obtain ⟨v', r', rfl, h2, h3⟩ := h.inv_cons
      exact Reps.cons hd h3
  | succ n ih =>
    cases ds with
    | nil => rw [h.inv_nil]; exact Reps.nil
    | cons a r =>
      obtain ⟨v', r', rfl, h2, h3⟩ := h.inv_cons
      exact Reps.cons h2 (ih h3)
theorem Reps.reverse {ds : List D} {vs : List V} (h : Reps pl K H ds vs) : Reps pl K H ds.reverse vs.reverse := by
  induction ds generalizing vs with
  | nil => rw [h.inv_nil]; exact Reps.nil
  | cons a r ih =>
    obtain ⟨v', r', rfl, h2, h3⟩ := h.inv_cons
    rw [List.reverse_cons, List.reverse_cons]
    exact (ih h3).append (Reps.cons h2 Reps.nil)
end
open Classical in
noncomputable def hid (E : Addr → Prop) (H : Hp) : Hp := fun a => if E a then none else H a
theorem hid_of {E : Addr → Prop} {H : Hp} {a : Addr} {o : HO} (h : hid E H a = some o) : ¬ E a ∧ H a = some o := by
  unfold hid at h
  split at h
  · cases h
  · rename_i hn; exact ⟨hn, h⟩
theorem hid_at {E : Addr → Prop} {H : Hp} {a : Addr} (h : ¬ E a) : hid E H a = H a := by
  unfold hid; rw [if_neg h]
theorem hid_ex {E : Addr → Prop} {H : Hp} : Ex (hid E H) H := fun a o h => (hid_of h).2
/-- outside O all stands still stands -/
def Exo (O : Addr → Prop) (H H' : Hp) : Prop := ∀ a o, H a = some o → ¬ O a → H' a = some o
theorem Exo.refl {O : Addr → Prop} {H : Hp} : Exo O H H := fun _ _ h _ => h
theorem Exo.trans {O : Addr → Prop} {H H1 H2 : Hp} (a : Exo O H H1) (b : Exo O H1 H2) : Exo O H H2 := fun x o h n => b x o (a x o h n) n
theorem Exo.weak {O O' : Addr → Prop} {H H1 : Hp} (a : Exo O H H1) (h : ∀ x, O x → O' x) : Exo O' H H1 := fun x o e n => a x o e fun z => n (h x z)
theorem Exo.new {O : Addr → Prop} {H : Hp} {p : Addr} {o : HO} (h : H p = none) : Exo O H (upd H p o) := fun a u e _ => by
  rw [upd_ne (ne_of_none e h)]; exact e
theorem Exo.hid {O E : Addr → Prop} {H H' : Hp} (e : Exo O H H') (h : ∀ a, O a → E a) : Ex (DL.hid E H) (DL.hid E H') := fun a o q => by
  obtain ⟨n, q⟩ := hid_of q
  rw [hid_at n]
  exact e a o q fun z => n (h a z)
theorem hid_sub {E E' : Addr → Prop} {H : Hp} (h : ∀ a, E' a → E a) : Ex (hid E H) (hid E' H) := fun a o q => by
  obtain ⟨n, q⟩ := hid_of q
  rw [hid_at fun z => n (h a z)]
  exact q
end DL
set_option Elab.async false
set_option linter.all false
set_option maxRecDepth 100000
set_option maxHeartbeats 2000000
namespace DL
open PySem L2
structure Exn where
  cls : Addr
  fs : List (Str × D)
abbrev NK := PySem.NestedKey
/-- what a walk keeps: its world, the known states with what is said of each, the queue -/
structure WkSt where
  w : World
  known : List (NK × NK)
  queue : List NK
structure Pool where
  nums : List Int
  at_ : Nat
  wk : Option WkSt
  tb : List (Addr × Str)
abbrev Ps := Option Pool
inductive Res (α : Type) where
  | und | exc (x : Exn) (ps : Ps) | ok (a : α) (ps : Ps)
def R (α : Type) : Type := Ps → Res α
namespace R
variable {α β : Type}
def ret (a : α) : R α := fun ps => .ok a ps
def bnd (x : R α) (f : α → R β) : R β := fun ps => match x ps with
  | .und => .und
  | .exc e ps' => .exc e ps'
  | .ok a ps' => f a ps'
def und : R α := fun _ => .und
def exc (x : Exn) : R α := fun ps => .exc x ps
end R
instance : Monad R where
  pure := R.ret
  bind := R.bnd
theorem bind_ok {α β : Type} {x : R α} {f : α → R β} {ps ps' : Ps} {a : α} (h : x ps = .ok a ps') : (x >>= f) ps = f a ps' := by
  show R.bnd x f ps = _
  unfold R.bnd; rw [h]
theorem bind_exc {α β : Type} {x : R α} {f : α → R β} {ps ps' : Ps} {e : Exn} (h : x ps = .exc e ps') : (x >>= f) ps = .exc e ps' := by
  show R.bnd x f ps = _
  unfold R.bnd; rw [h]
theorem bind_und {α β : Type} {x : R α} {f : α → R β} {ps : Ps} (h : x ps = .und) : (x >>= f) ps = .und := by
  show R.bnd x f ps = _
  unfold R.bnd; rw [h]
def ofO {α : Type} : Option α → R α
  | some a => pure a
  | none => R.und
theorem ofO_ne {α : Type} {o : Option α} {ps : Ps} (h : ofO o ps ≠ .und) : ∃ a, o = some a ∧ ofO o ps = .ok a ps := by
  cases o with
  | none => exact (h rfl).elim
  | some b => exact ⟨b, rfl, rfl⟩
/-- something stands, and no tuple, nor what never changes -/
structure Thr (o : Option HO) : Prop where
  n : o ≠ none
  t : ∀ vs, o ≠ some (.tup vs)
  f : ∀ oc, o ≠ some (fzO oc)
instance {o : Option HO} : CoeFun (Thr o) (fun _ => o = none → False) := ⟨fun h => h.n⟩
theorem Thr.of {o : Option HO} {u : HO} (h : o = some u) (t : ∀ vs, u ≠ .tup vs) (f : ∀ oc, u ≠ fzO oc := by intro _ z; cases z) : Thr o := by
  subst h
  exact ⟨fun z => (nomatch z), fun vs e => t vs (Option.some.inj e), fun vs e => f vs (Option.some.inj e)⟩
/-- nested tuples of the heap -/
inductive NV (H : Hp) : NK → V → Prop
  | none : NV H .none .non
  | num {i : Int} : NV H (.num i) (.int i)
  | text {s : Str} : NV H (.text s) (.str s)
  | tup {p : Addr} {ks : List NK} {vs : List V} : H p = some (.tup vs) → vs.length = ks.length → (∀ (i : Nat) (h1 : i < ks.length) (h2 : i < vs.length), NV H ks[i] vs[i]) → NV H (.tup ks) (.ref p)
theorem NV.mono {H H' : Hp} (e : ∀ p vs, H p = some (.tup vs) → H' p = some (.tup vs)) {k : NK} {v : V} (h : NV H k v) : NV H' k v := by
  induction h with
  | none => exact .none
  | num => exact .num
  | text => exact .text
  | tup h hl _ ih => exact .tup (e _ _ h) hl ih
/-- a walk's list -/
def NVs (H : Hp) (ks : List NK) (vs : List V) : Prop := vs.length = ks.length ∧ ∀ (i : Nat) (k : NK), ks[i]? = some k → ∃ v : V, vs[i]? = some v ∧ NV H k v
theorem NVs.mono {H H' : Hp} (e : ∀ p vs, H p = some (.tup vs) → H' p = some (.tup vs)) {ks : List NK} {vs : List V} (h : NVs H ks vs) : NVs H' ks vs :=
  ⟨h.1, fun i k hk => let ⟨v, h1, h2⟩ := h.2 i k hk; ⟨v, h1, h2.mono e⟩⟩
/-- a dict with nested tuples as keys -/
abbrev NX := NK × Addr × Value
def ntE (w : World) (x : NX) : DictEntry := ⟨x.1.hash w, .ref x.2.1, x.2.2⟩
def nestO (w : World) (a : Addr) (xs : List NX) : HO := .ext fun h => xs.length ≤ sizeLine ∧ (a == sysModules) = false ∧ (xs.map (·.1)).Nodup ∧ ∃ o es ep, h.get? a = some o ∧ o.ExactDict ∧ o.data = .dict es ep ∧ es.toList = xs.map (ntE w)
def NKs (H : Hp) (kvs : List (NK × NK)) (xs : List NX) : Prop := xs.length = kvs.length ∧ ∀ (i : Nat) (p : NK × NK), kvs[i]? = some p → ∃ x : NX, xs[i]? = some x ∧ p.1 = x.1 ∧ x.1.depth ≤ 8 ∧ NV H x.1 (.ref x.2.1) ∧ ∃ v, RelV v x.2.2 ∧ NV H p.2 v
theorem NKs.mono {H H' : Hp} (e : ∀ p vs, H p = some (.tup vs) → H' p = some (.tup vs)) {ks : List (NK × NK)} {vs : List NX} (h : NKs H ks vs) : NKs H' ks vs :=
  ⟨h.1, fun i k hk => let ⟨x, h1, h2, h3, h4, v, h5, h6⟩ := h.2 i k hk; ⟨x, h1, h2, h3, h4.mono e, v, h5, h6.mono e⟩⟩
structure WkAt (H : Hp) (kn qu : Addr) (st : WkSt) : Prop where
  qu : ∃ vs, H qu = some (.lst vs) ∧ NVs H st.queue vs
  kn : ∃ xs, H kn = some (nestO st.w kn xs) ∧ NKs H st.known xs
/-- a table of code objects, all of one name -/
def TbAt (H : Hp) (P : Addr) (q : Str) : Prop := ∃ ps : Array Value, H P = some (.tbl ps) ∧ TriplesOk ps.toList ∧ ∀ (pos : Pos) (cv : Value), codeAmong pos ps.toList = some cv → ∃ c, cv = .ref c ∧ CodeAt H c q
def plS (pl : Pl) : Addr → Prop := fun a => ∃ x, pl = some x ∧ (a = x.1 ∨ a = x.2.1 ∨ (∃ y, x.2.2.wk = some y ∧ (a = y.1 ∨ a = y.2)) ∨ ∃ y ∈ x.2.2.tb, a = y.1)
structure PxAt (p q : Addr) (z : PlX) (H : Hp) (po : Pool) : Prop where
  wk : match z.wk with
    | none => po.wk = none
    | some (kn, qu) => ∃ st, po.wk = some st ∧ WkAt H kn qu st ∧ qu ≠ p ∧ qu ≠ q
  te : po.tb = z.tb
  tb : ∀ t ∈ z.tb, TbAt H t.1 t.2
  tu : ∀ t ∈ z.tb, ∀ t' ∈ z.tb, t.1 = t'.1 → t.2 = t'.2
theorem PxAt.tt {p q : Addr} {z : PlX} {H : Hp} {po : Pool} (h : PxAt p q z H po) {y : Addr × Str} (hy : y ∈ z.tb) : ∃ ps, H y.1 = some (.tbl ps) := let ⟨ps, h1, _⟩ := h.tb y hy; ⟨ps, h1⟩
def PoolAt (pl : Pl) (H : Hp) (ps : Ps) : Prop := match pl with
  | none => ps = none
  | some (p, q, z) => ∃ po : Pool, ps = some po ∧ H p = some (.lst [.ref q, .int (po.at_ : Int)]) ∧ H q = some (.lst (po.nums.map V.int)) ∧ q ≠ p ∧ PxAt p q z H po
theorem PxAt.same {p q : Addr} {z : PlX} {H H' : Hp} {po po' : Pool} (h : PxAt p q z H po) (hw : po'.wk = po.wk) (ht : po'.tb = po.tb) (e : ∀ a, ((∃ y, z.wk = some y ∧ (a = y.1 ∨ a = y.2)) ∨ ∃ y ∈ z.tb, a = y.1) → H' a = H a)
    (t : ∀ a vs, H a = some (.tup vs) → H' a = some (.tup vs)) (f : ∀ a oc, H a = some (fzO oc) → H' a = some (fzO oc)) : PxAt p q z H' po' where
  wk := by
    have := h.wk
    cases hz : z.wk with
    | none => rw [hz] at this; rw [hw]; exact this
    | some x =>
      obtain ⟨kn, qu⟩ := x
      rw [hz] at this
      obtain ⟨st, h1, ⟨⟨vs, h2, h3⟩, xs, h4, h5⟩, h6⟩ := this
      exact ⟨st, hw.trans h1, ⟨⟨vs, (e _ (.inl ⟨_, hz, .inr rfl⟩)).trans h2, h3.mono t⟩, xs, (e _ (.inl ⟨_, hz, .inl rfl⟩)).trans h4, h5.mono t⟩, h6⟩
  te := ht.trans h.te
  tb := fun x hx => by
    obtain ⟨ps, h2, h3, h4⟩ := h.tb x hx
    exact ⟨ps, (e _ (.inr ⟨x, hx, rfl⟩)).trans h2, h3, fun pos cv hc => let ⟨c, h5, oc, vs, tk, h6, h7⟩ := h4 pos cv hc; ⟨c, h5, oc, vs, tk, f _ _ h6, h7⟩⟩
  tu := h.tu
theorem PoolAt.there {pl : Pl} {H : Hp} {ps : Ps} {a : Addr} (h : PoolAt pl H ps) (ha : plS pl a) : Thr (H a) := by
  obtain ⟨⟨p, q, z⟩, rfl, e⟩ := ha
  obtain ⟨po, _, h2, h3, _, h5⟩ := h
  rcases e with rfl | rfl | ⟨⟨kn, qu⟩, hz, e⟩ | ⟨y, e, rfl⟩
  · exact .of h2 fun _ z => nomatch z
  · exact .of h3 fun _ z => nomatch z
  · have := h5.wk
    have hz : z.wk = some (kn, qu) := hz
    rw [hz] at this
    obtain ⟨st, _, ⟨⟨vs, h6, _⟩, xs, h7, _⟩, _⟩ := this
    rcases e with rfl | rfl
    · exact .of h7 (fun _ z => nomatch z) fun _ z => by unfold nestO at z; cases z
    · exact .of h6 fun _ z => nomatch z
  · obtain ⟨ps, h6⟩ := h5.tt e
    exact .of h6 fun _ z => nomatch z
theorem PoolAt.kind {pl : Pl} {H : Hp} {ps : Ps} {a : Addr} (h : PoolAt pl H ps) (ha : plS pl a) : (∃ xs, H a = some (.lst xs)) ∨ (∃ φ, H a = some (.ext φ)) ∨ ∃ ps, H a = some (.tbl ps) := by
  obtain ⟨⟨p, q, z⟩, rfl, e⟩ := ha
  obtain ⟨po, _, h2, h3, _, h5⟩ := h
  rcases e with rfl | rfl | ⟨⟨kn, qu⟩, hz, e⟩ | ⟨y, e, rfl⟩
  · exact .inl ⟨_, h2⟩
  · exact .inl ⟨_, h3⟩
  · have := h5.wk
    have hz : z.wk = some (kn, qu) := hz
    rw [hz] at this
    obtain ⟨st, _, ⟨⟨vs, h6, _⟩, xs, h7, _⟩, _⟩ := this
    rcases e with rfl | rfl
    · exact .inr (.inl ⟨_, h7⟩)
    · exact .inl ⟨_, h6⟩
  · obtain ⟨ps, h6⟩ := h5.tt e
    exact .inr (.inr ⟨_, h6⟩)
theorem PoolAt.same {pl : Pl} {H H' : Hp} {ps : Ps} (h : PoolAt pl H ps) (e : ∀ a, plS pl a → H' a = H a) (t : ∀ a vs, H a = some (.tup vs) → H' a = some (.tup vs)) (f : ∀ a oc, H a = some (fzO oc) → H' a = some (fzO oc)) : PoolAt pl H' ps := by
  cases pl with
  | none => exact h
  | some x =>
    obtain ⟨a, q, z⟩ := x
    obtain ⟨po, h1, h2, h3, h4, h5⟩ := h
    refine ⟨po, h1, by rw [e a ⟨_, rfl, .inl rfl⟩]; exact h2, by rw [e q ⟨_, rfl, .inr (.inl rfl)⟩]; exact h3, h4, h5.same rfl rfl (fun b hb => e b ⟨_, rfl, .inr (.inr hb)⟩) t f⟩
theorem PoolAt.new {pl : Pl} {H : Hp} {ps : Ps} {p : Addr} {o : HO} (h : PoolAt pl H ps) (hp : H p = none) : PoolAt pl (upd H p o) ps :=
  h.same (fun a ha => upd_ne fun z => (h.there ha).n (by rw [z]; exact hp)) (fun a vs q => by rw [upd_ne (ne_of_none q hp)]; exact q) fun a vs q => by rw [upd_ne (ne_of_none q hp)]; exact q
theorem PoolAt.put {pl : Pl} {H : Hp} {ps : Ps} {p : Addr} {o : HO} (h : PoolAt pl H ps) (np : ¬ plS pl p) (hp : Thr (H p)) : PoolAt pl (upd H p o) ps :=
  h.same (fun a ha => upd_ne fun z => np (by rw [← z]; exact ha)) (fun a vs q => by rw [upd_ne fun z => hp.t vs (by rw [← z]; exact q)]; exact q) fun a vs q => by rw [upd_ne fun z => hp.f vs (by rw [← z]; exact q)]; exact q
abbrev Rho := List (Option D)
abbrev FE := Rho → R D
inductive Md where
  | no | sh | ow | io | sb | xc (a dx : Addr)
  deriving DecidableEq, Inhabited
inductive Kd where
  | fr | cl | bo
  deriving DecidableEq
/-- ghosts: fixed while a def's body runs -/
structure G where
  pl : Pl
  E : Addr → Prop
  B : Hp
  ex : List (D × V) := []
  sx : List (Nat × D) := []
def TopR (pl : Pl) (K : PySem.W.Frag) (Hx : Hp) : D → Option HO → Prop
  | .lst ds, o => ∃ vs, o = some (.lst vs) ∧ Reps pl K Hx ds vs
  | .dk ds, o => ∃ vs, o = some (.dK vs) ∧ RepK pl K Hx ds vs
  | .dt ds, o => ∃ vs, o = some (.dT vs) ∧ RepT pl K Hx ds vs
  | .ins C fs, o => ∃ dx vs, o = some (.ins C dx vs) ∧ RepF pl K Hx fs vs
  | _, _ => False
/-- a caught error: its fields, and its own dict -/
def XcR (pl : Pl) (K : PySem.W.Frag) (Hx : Hp) (d : D) (o : Option HO) : Prop := ∃ C fs vs, d = .ins C fs ∧ o = some (.xd vs) ∧ RepF pl K Hx fs vs
theorem XcR.mono {pl : Pl} {K : PySem.W.Frag} {Hx Hy : Hp} {d : D} {o : Option HO} (e : Ex Hx Hy) (h : XcR pl K Hx d o) : XcR pl K Hy d o :=
  let ⟨C, fs, vs, h1, h2, h3⟩ := h; ⟨C, fs, vs, h1, h2, h3.mono e⟩
theorem XcR.some {pl : Pl} {K : PySem.W.Frag} {Hx : Hp} {d : D} {o : Option HO} (h : XcR pl K Hx d o) : ∃ u, o = some u :=
  let ⟨_, _, vs, _, h2, _⟩ := h; ⟨_, h2⟩
theorem XcR.not_top {pl : Pl} {K : PySem.W.Frag} {Hx Hy : Hp} {d d' : D} {o : Option HO} (h : XcR pl K Hx d o) (t : TopR pl K Hy d' o) : False := by
  obtain ⟨C, fs, vs, h1, h2, h3⟩ := h
  subst h2
  cases d' with
  | lst _ => obtain ⟨vs, e, _⟩ := t; cases e
  | dk _ => obtain ⟨vs, e, _⟩ := t; cases e
  | dt _ => obtain ⟨vs, e, _⟩ := t; cases e
  | ins _ _ => obtain ⟨dx, vs, e, _⟩ := t; cases e
  | _ => exact t.elim
theorem TopR.some {pl : Pl} {K : PySem.W.Frag} {Hx : Hp} {d : D} {o : Option HO} (h : TopR pl K Hx d o) : ∃ u, o = some u := by
  cases d with
  | lst _ => obtain ⟨vs, e, _⟩ := h; exact ⟨_, e⟩
  | dk _ => obtain ⟨vs, e, _⟩ := h; exact ⟨_, e⟩
  | dt _ => obtain ⟨vs, e, _⟩ := h; exact ⟨_, e⟩
  | ins _ _ => obtain ⟨dx, vs, e, _⟩ := h; exact ⟨_, e⟩
  | _ => exact h.elim
theorem TopR.thr {pl : Pl} {K : PySem.W.Frag} {Hx : Hp} {d : D} {o : Option HO} (h : TopR pl K Hx d o) : Thr o := by
  cases d with
  | lst _ => obtain ⟨vs, e, _⟩ := h; exact .of e fun _ z => nomatch z
  | dk _ => obtain ⟨vs, e, _⟩ := h; exact .of e fun _ z => nomatch z
  | dt _ => obtain ⟨vs, e, _⟩ := h; exact .of e fun _ z => nomatch z
  | ins _ _ => obtain ⟨dx, vs, e, _⟩ := h; exact .of e fun _ z => nomatch z
  | _ => exact h.elim
theorem TopR.mono {pl : Pl} {K : PySem.W.Frag} {Hx Hy : Hp} {d : D} {o : Option HO} (e : Ex Hx Hy) (h : TopR pl K Hx d o) : TopR pl K Hy d o := by
  cases d with
  | lst _ => obtain ⟨vs, q, r⟩ := h; exact ⟨vs, q, r.mono e⟩
  | dk _ => obtain ⟨vs, q, r⟩ := h; exact ⟨vs, q, r.mono e⟩
  | dt _ => obtain ⟨vs, q, r⟩ := h; exact ⟨vs, q, r.mono e⟩
  | ins _ _ => obtain ⟨dx, vs, q, r⟩ := h; exact ⟨dx, vs, q, r.mono e⟩
  | _ => exact h.elim
theorem TopR.rep {pl : Pl} {K : PySem.W.Frag} {H : Hp} {d : D} {a : Addr} (h : TopR pl K H d (H a)) : Rep pl K H d (.ref a) := by
  cases d with
  | lst _ => obtain ⟨vs, q, r⟩ := h; unfold Rep; exact ⟨a, vs, rfl, q, r⟩
  | dk _ => obtain ⟨vs, q, r⟩ := h; unfold Rep; exact ⟨a, vs, rfl, .inl q, r⟩
  | dt _ => obtain ⟨vs, q, r⟩ := h; unfold Rep; exact ⟨a, vs, rfl, .inl q, r⟩
  | ins _ _ => obtain ⟨dx, vs, q, r⟩ := h; unfold Rep; exact ⟨a, dx, vs, rfl, q, r⟩
  | _ => exact h.elim
/-- .. where it is read only: a dict may be locked -/
def TopB (pl : Pl) (K : PySem.W.Frag) (Hx : Hp) (d : D) (o : Option HO) : Prop := TopR pl K Hx d o ∨
  (∃ ds vs ob, d = .dk ds ∧ o = some (.frz ob (.dK vs)) ∧ RepK pl K Hx ds vs) ∨ ∃ ds vs ob, d = .dt ds ∧ o = some (.frz ob (.dT vs)) ∧ RepT pl K Hx ds vs
theorem TopR.b {pl : Pl} {K : PySem.W.Frag} {Hx : Hp} {d : D} {o : Option HO} (h : TopR pl K Hx d o) : TopB pl K Hx d o := .inl h
theorem TopB.some {pl : Pl} {K : PySem.W.Frag} {Hx : Hp} {d : D} {o : Option HO} (h : TopB pl K Hx d o) : ∃ u, o = some u := by
  rcases h with h | ⟨_, _, _, _, h, _⟩ | ⟨_, _, _, _, h, _⟩
  · exact h.some
  · exact ⟨_, h⟩
  · exact ⟨_, h⟩
theorem TopB.mono {pl : Pl} {K : PySem.W.Frag} {Hx Hy : Hp} {d : D} {o : Option HO} (e : Ex Hx Hy) (h : TopB pl K Hx d o) : TopB pl K Hy d o := by
  rcases h with h | ⟨a, b, c, e1, e2, h⟩ | ⟨a, b, c, e1, e2, h⟩
  · exact .inl (h.mono e)
  · exact .inr (.inl ⟨a, b, c, e1, e2, h.mono e⟩)
  · exact .inr (.inr ⟨a, b, c, e1, e2, h.mono e⟩)
theorem TopB.rep {pl : Pl} {K : PySem.W.Frag} {H : Hp} {d : D} {a : Addr} (h : TopB pl K H d (H a)) : Rep pl K H d (.ref a) := by
  rcases h with h | ⟨ds, vs, c, e1, e2, h⟩ | ⟨ds, vs, c, e1, e2, h⟩
  · exact h.rep
  · subst e1; unfold Rep; exact ⟨a, vs, rfl, .inr ⟨c, e2⟩, h⟩
  · subst e1; unfold Rep; exact ⟨a, vs, rfl, .inr ⟨c, e2⟩, h⟩
theorem TopB.r {pl : Pl} {K : PySem.W.Frag} {Hx : Hp} {d : D} {o : Option HO} (h : TopB pl K Hx d o) (n1 : ∀ ds, d ≠ .dk ds) (n2 : ∀ ds, d ≠ .dt ds) : TopR pl K Hx d o := by
  rcases h with h | ⟨ds, vs, c, e1, e2, h⟩ | ⟨ds, vs, c, e1, e2, h⟩
  · exact h
  · exact (n1 _ e1).elim
  · exact (n2 _ e1).elim
/-- a value that is read: clean, or an object whose parts are clean -/
def RepB (pl : Pl) (K : PySem.W.Frag) (O : Addr → Prop) (H : Hp) (d : D) (v : V) : Prop :=
  Rep pl K (hid O H) d v ∨ ∃ a, v = .ref a ∧ ¬ plS pl a ∧ TopB pl K (hid O H) d (H a)
def RepQ (k : Kd) (pl : Pl) (K : PySem.W.Frag) (O : Addr → Prop) (H H' : Hp) (d : D) (v : V) : Prop := match k with
  | .cl => Rep pl K (hid O H') d v
  | .bo => RepB pl K O H' d v
  | .fr => ∃ p, v = .ref p ∧ H p = none ∧ TopR pl K (hid (fun a => O a ∨ a = p) H') d (H' p)
section
variable {pl : Pl} {K : PySem.W.Frag} {O : Addr → Prop} {H H' H2 : Hp} {d : D} {v : V} {ds : List D}
theorem RepB.mono (hO : ∀ a, plS pl a → O a) (e : Exo (plS pl) H H') (h : RepB pl K O H d v) : RepB pl K O H' d v := by
  rcases h with h | ⟨a, rfl, n, t⟩
  · exact .inl (h.mono (e.hid hO))
  · obtain ⟨u, hu⟩ := t.some
    refine .inr ⟨a, rfl, n, ?_⟩
    rw [e a u hu n, ← hu]
    exact t.mono (e.hid hO)
theorem RepB.full (h : RepB pl K O H d v) : Rep pl K H d v := by
  rcases h with h | ⟨a, rfl, n, t⟩
  · exact h.mono hid_ex
  · exact (t.mono hid_ex).rep
theorem RepB.lst (h : RepB pl K O H (.lst ds) v) : ∃ p vs, v = .ref p ∧ H p = some (.lst vs) ∧ Reps pl K (hid O H) ds vs := by
  rcases h with h | ⟨a, rfl, n, t⟩
  · unfold Rep at h
    obtain ⟨p, vs, h1, h2, h3⟩ := h
    exact ⟨p, vs, h1, hid_ex _ _ h2, h3⟩
  · obtain ⟨vs, q, r⟩ := t.r (fun _ z => nomatch z) (fun _ z => nomatch z)
    exact ⟨a, vs, rfl, q, r⟩
theorem RepB.tupH (h : RepB pl K O H (.tup ds) v) : ∃ p vs, v = .ref p ∧ H p = some (.tup vs) ∧ Reps pl K (hid O H) ds vs := by
  rcases h with h | ⟨a, rfl, n, t⟩
  · unfold Rep at h
    obtain ⟨p, vs, h1, h2, h3⟩ := h
    exact ⟨p, vs, h1, hid_ex _ _ h2, h3⟩
  · exact (t.r (fun _ z => nomatch z) (fun _ z => nomatch z)).elim
theorem RepB.tup (h : RepB pl K O H (.tup ds) v) : ∃ p vs, v = .ref p ∧ SqT K H p vs ∧ Reps pl K (hid O H) ds vs := by
  obtain ⟨p, vs, h1, h2, h3⟩ := h.tupH
  exact ⟨p, vs, h1, .of h2, h3⟩
theorem RepB.dk {ds : List (Key × D)} (h : RepB pl K O H (.dk ds) v) : ∃ p vs, v = .ref p ∧ Rd H p (.dK vs) ∧ RepK pl K (hid O H) ds vs := by
  rcases h with h | ⟨a, rfl, n, t⟩
  · unfold Rep at h
    obtain ⟨p, vs, h1, h2, h3⟩ := h
    exact ⟨p, vs, h1, hid_ex.rd h2, h3⟩
  · rcases t with ⟨vs, q, r⟩ | ⟨ds', vs, c, e1, e2, r⟩ | ⟨_, _, _, e1, _, _⟩
    · exact ⟨a, vs, rfl, .inl q, r⟩
    · cases e1; exact ⟨a, vs, rfl, .inr ⟨c, e2⟩, r⟩
    · cases e1
theorem RepB.dt {ds : List (List Key × D)} (h : RepB pl K O H (.dt ds) v) : ∃ p vs, v = .ref p ∧ Rd H p (.dT vs) ∧ RepT pl K (hid O H) ds vs := by
  rcases h with h | ⟨a, rfl, n, t⟩
  · unfold Rep at h
    obtain ⟨p, vs, h1, h2, h3⟩ := h
    exact ⟨p, vs, h1, hid_ex.rd h2, h3⟩
  · rcases t with ⟨vs, q, r⟩ | ⟨_, _, _, e1, _, _⟩ | ⟨ds', vs, c, e1, e2, r⟩
    · exact ⟨a, vs, rfl, .inl q, r⟩
    · cases e1
    · cases e1; exact ⟨a, vs, rfl, .inr ⟨c, e2⟩, r⟩
theorem RepB.ins {C : Addr} {fs : List (Str × D)} (h : RepB pl K O H (.ins C fs) v) : ∃ p dx vs, v = .ref p ∧ H p = some (.ins C dx vs) ∧ RepF pl K (hid O H) fs vs := by
  rcases h with h | ⟨a, rfl, n, t⟩
  · unfold Rep at h
    obtain ⟨p, dx, vs, h1, h2, h3⟩ := h
    exact ⟨p, dx, vs, h1, hid_ex _ _ h2, h3⟩
  · obtain ⟨dx, vs, q, r⟩ := t.r (fun _ z => nomatch z) (fun _ z => nomatch z)
    exact ⟨a, dx, vs, rfl, q, r⟩
/-- a value that needs no heap -/
theorem RepB.flat (h : RepB pl K O H d v) (f : d.flat = true) : Rep pl K (hid O H) d v := by
  rcases h with h | ⟨a, _, n, t⟩
  · exact h
  · rcases t with t | ⟨_, _, _, e1, _, _⟩ | ⟨_, _, _, e1, _, _⟩
    · cases d <;> first | exact t.elim | exact (Bool.noConfusion (show false = true from f))
    · subst e1; exact Bool.noConfusion (show false = true from f)
    · subst e1; exact Bool.noConfusion (show false = true from f)
theorem fresh_back {p : Addr} {ps : Ps} (e : Exo (plS pl) H H') (hp : PoolAt pl H' ps) (h : H' p = none) : H p = none := by
  cases q : H p with
  | none => rfl
  | some o =>
    by_cases z : plS pl p
    · exact absurd h (hp.there z)
    · rw [e p o q z] at h; cases h
theorem RepQ.cl_of_fr (hn : ∀ a, O a → Thr (H a)) (h : RepQ .fr pl K O H H' d v) : RepQ .cl pl K O H H' d v := by
  obtain ⟨p, rfl, hp, t⟩ := h
  have np : ¬ O p := fun z => hn p z hp
  have t' : TopR pl K (hid O H') d (hid O H' p) := by
    rw [hid_at np]
    exact t.mono (hid_sub fun a z => .inl z)
  exact t'.rep
theorem RepQ.bo_of_cl (h : RepQ .cl pl K O H H' d v) : RepQ .bo pl K O H H' d v := .inl h
/-- from a later start -/
theorem RepQ.back {k : Kd} {ps : Ps} (e : Exo (plS pl) H H') (hp : PoolAt pl H' ps) (h : RepQ k pl K O H' H2 d v) : RepQ k pl K O H H2 d v := by
  cases k with
  | cl => exact h
  | bo => exact h
  | fr =>
    obtain ⟨p, h1, h2, h3⟩ := h
    exact ⟨p, h1, fresh_back e hp h2, h3⟩
end
theorem PoolAt.thr {pl : Pl} {H H' : Hp} {ps ps' : Ps} (hp0 : PoolAt pl H ps) (e : Exo (plS pl) H H') (hp : PoolAt pl H' ps') {a : Addr} (h : Thr (H a)) : Thr (H' a) := by
  by_cases z : plS pl a
  · exact hp.there z
  · cases q : H a with
    | none => exact (h q).elim
    | some o => exact .of (e a o q z) (fun vs hv => h.t vs (by rw [q, hv])) fun vs hv => h.f vs (by rw [q, hv])
/-- what is hidden from clean values -/
def Xs (m : List Md) (own : Nat → Addr) (g : G) : Addr → Prop := fun a => g.E a ∨ plS g.pl a ∨ ∃ i, (m[i]? = some .ow ∨ m[i]? = some .io) ∧ own i = a
structure Rs (K : PySem.W.Frag) (g : G) (m : List Md) (own : Nat → Addr) (σ : L2.St) (ρ : Rho) (H : Hp) (ps : Ps) : Prop where
  len : ρ.length = σ.length
  sh : ∀ (i : Nat) (d : D), m[i]? = some .sh → ρ[i]? = some (some d) → ∃ v, σ[i]? = some (some v) ∧ Rep g.pl K (hid (Xs m own g) H) d v
  ow : ∀ (i : Nat), (m[i]? = some .ow ∨ m[i]? = some .io) → ∃ d, ρ[i]? = some (some d) ∧ σ[i]? = some (some (.ref (own i))) ∧ TopR g.pl K (hid (Xs m own g) H) d (H (own i)) ∧ g.B (own i) = none ∧ ¬ plS g.pl (own i)
  sb : ∀ (i : Nat) (d : D), m[i]? = some .sb → ρ[i]? = some (some d) → ∃ v, σ[i]? = some (some v) ∧ (Rep g.pl K (hid (Xs m own g) H) d v ∨ ∃ a, v = .ref a ∧ ¬ plS g.pl a ∧ (∀ (j : Nat), (m[j]? = some .ow ∨ m[j]? = some .io) → own j ≠ a) ∧ TopB g.pl K (hid (Xs m own g) H) d (H a))
  xc : ∀ (i : Nat) (a dx : Addr), m[i]? = some (.xc a dx) → ∃ d, ρ[i]? = some (some d) ∧ σ[i]? = some (some (.ref a)) ∧ XcR g.pl K (hid (Xs m own g) H) d (H dx) ∧ ¬ plS g.pl dx
  ex : ∀ p ∈ g.ex, Rep g.pl K (hid (Xs m own g) H) p.1 p.2
  sx : ∀ p ∈ g.sx, ∃ v, σ[p.1]? = some (some v) ∧ Rep g.pl K (hid (Xs m own g) H) p.2 v
  inj : ∀ (i j : Nat), (m[i]? = some .ow ∨ m[i]? = some .io) → (m[j]? = some .ow ∨ m[j]? = some .io) → own i = own j → i = j
  nE : ∀ (i : Nat), m[i]? = some .ow → ¬ g.E (own i)
  base : Exo (plS g.pl) g.B H
  pool : PoolAt g.pl H ps
  eT : ∀ a, g.E a → Thr (H a)
section
variable {K : PySem.W.Frag} {g : G} {m : List Md} {own : Nat → Addr} {σ : L2.St} {ρ : Rho} {H H' : Hp} {ps ps' : Ps}
theorem Xs.pl : ∀ a, plS g.pl a → Xs m own g a := fun _ h => .inr (.inl h)
theorem Rs.xT (r : Rs K g m own σ ρ H ps) : ∀ a, Xs m own g a → Thr (H a) := fun a h => by
  rcases h with h | h | ⟨i, h, rfl⟩
  · exact r.eT a h
  · exact r.pool.there h
  · obtain ⟨d, _, _, t, _⟩ := r.ow i h
    exact t.thr
theorem Rs.mono (r : Rs K g m own σ ρ H ps) (e : Exo (plS g.pl) H H') (p : PoolAt g.pl H' ps') : Rs K g m own σ ρ H' ps' where
  len := r.len
  sh := fun i d h1 h2 => by
    obtain ⟨v, h3, h4⟩ := r.sh i d h1 h2
    exact ⟨v, h3, h4.mono (e.hid Xs.pl)⟩
  ow := fun i h => by
    obtain ⟨d, h1, h2, t, h4, h5⟩ := r.ow i h
    obtain ⟨u, hu⟩ := t.some
    refine ⟨d, h1, h2, ?_, h4, h5⟩
    rw [e _ u hu h5, ← hu]
    exact t.mono (e.hid Xs.pl)
  sb := fun i d h1 h2 => by
    obtain ⟨v, h3, h4⟩ := r.sb i d h1 h2
    refine ⟨v, h3, ?_⟩
    rcases h4 with h4 | ⟨a, ea, np, no, t⟩
    · exact .inl (h4.mono (e.hid Xs.pl))
    · obtain ⟨u, hu⟩ := t.some
      refine .inr ⟨a, ea, np, no, ?_⟩
      rw [e a u hu np, ← hu]
      exact t.mono (e.hid Xs.pl)
  xc := fun i a dx h => by
    obtain ⟨d, h1, h2, t, h5⟩ := r.xc i a dx h
    obtain ⟨u, hu⟩ := t.some
    refine ⟨d, h1, h2, ?_, h5⟩
    rw [e _ u hu h5, ← hu]
    exact t.mono (e.hid Xs.pl)
  ex := fun p hp => (r.ex p hp).mono (e.hid Xs.pl)
  sx := fun p hp => let ⟨v, h1, h2⟩ := r.sx p hp; ⟨v, h1, h2.mono (e.hid Xs.pl)⟩
  inj := r.inj
  nE := r.nE
  base := r.base.trans e
  pool := p
  eT := fun a h => r.pool.thr e p (r.eT a h)
end
/-- an exception's own dict -/
def ExR (pl : Pl) (K : PySem.W.Frag) (O : Addr → Prop) (H : Hp) (dx : Addr) (x : Exn) : Prop := ∃ vs, H dx = some (.xd vs) ∧ RepF pl K (hid O H) x.fs vs
/-- what is wanted of an exception holds -/
def WOk {α : Type} (W : WX) (pl : Pl) (K : PySem.W.Frag) (O : Addr → Prop) (σ : L2.St) (H : Hp) (r : Res α) : Prop :=
  ∀ x ps' dx H', r = .exc x ps' → Exo (plS pl) H H' → PoolAt pl H' ps' → ExR pl K O H' dx x → W (.ref x.cls) (some dx) σ H'
/-- what a value is -/
def QV (k : Kd) (pl : Pl) (K : PySem.W.Frag) (O : Addr → Prop) (H : Hp) (r : Res D) : VK := fun v H' =>
  ∃ d ps', r = .ok d ps' ∧ Exo (plS pl) H H' ∧ PoolAt pl H' ps' ∧ RepQ k pl K O H H' d v
/-- an expression is worth f -/
structure Dx (k : Kd) (X : Cx) (W : WX) (m : List Md) (e : Expr) (f : FE) : Prop where
  run : ∀ (g : G) (own : Nat → Addr) (pins : List (Addr × Obj)) (s : Shared) (σ : L2.St) (ρ : Rho) (H : Hp) (ps : Ps), Inv X pins σ H s → Rs X.K g m own σ ρ H ps → f ρ ps ≠ .und →
    WOk W g.pl X.K (Xs m own g) σ H (f ρ ps) → wpAny (model X.prog X.w) X.A (eval e X.env) (EP X pins σ (QV k g.pl X.K (Xs m own g) H (f ρ ps))) X.xe s
theorem epI {X : Cx} {pins : List (Addr × Obj)} {σ : L2.St} {Q Q' : VK} {u : Value} {s : Shared} (h : EP X pins σ Q u s) (q : ∀ v H, Q v H → Q' v H) : EP X pins σ Q' u s := by
  obtain ⟨v, H, I, r, z⟩ := h
  exact ⟨v, H, I, r, q v H z⟩
section
variable {X : Cx} {W : WX} {m : List Md} {e : Expr} {f : FE}
theorem Dx.cl (h : Dx .fr X W m e f) : Dx .cl X W m e f := ⟨fun g own pins s σ ρ H ps I r n w => thn (h.run g own pins s σ ρ H ps I r n w) fun _ _ q => epI q fun v H' ⟨d, ps', h1, h2, h3, h4⟩ => ⟨d, ps', h1, h2, h3, h4.cl_of_fr r.xT⟩⟩
theorem Dx.bo (h : Dx .cl X W m e f) : Dx .bo X W m e f := ⟨fun g own pins s σ ρ H ps I r n w => thn (h.run g own pins s σ ρ H ps I r n w) fun _ _ q => epI q fun v H' ⟨d, ps', h1, h2, h3, h4⟩ => ⟨d, ps', h1, h2, h3, h4.bo_of_cl⟩⟩
theorem Dx.fb (h : Dx .fr X W m e f) : Dx .bo X W m e f := h.cl.bo
/-- the canonical reading -/
def cE (X : Cx) (e : Expr) : TE := fun σ H Q => ∀ pins s, Inv X pins σ H s → wpAny (model X.prog X.w) X.A (eval e X.env) (EP X pins σ Q) X.xe s
theorem pe_c (X : Cx) (e : Expr) : PE X e (cE X e) := ⟨fun pins s σ H Q I h => h pins s I⟩
theorem cE.mono {e : Expr} {σ : L2.St} {H : Hp} {Q Q' : VK} (h : cE X e σ H Q) (q : ∀ v H, Q v H → Q' v H) : cE X e σ H Q' := fun pins s I => thn (h pins s I) fun _ _ z => epI z q
theorem Dx.c {k : Kd} (h : Dx k X W m e f) {g : G} {own : Nat → Addr} {σ : L2.St} {ρ : Rho} {H : Hp} {ps : Ps} (r : Rs X.K g m own σ ρ H ps) (n : f ρ ps ≠ .und) (w : WOk W g.pl X.K (Xs m own g) σ H (f ρ ps)) :
    cE X e σ H (QV k g.pl X.K (Xs m own g) H (f ρ ps)) := fun pins s I => h.run g own pins s σ ρ H ps I r n w
/-- from a HandS rule -/
theorem Dx.of {k : Kd} {t : TE} (h : PE X e t) (q : ∀ (g : G) (own : Nat → Addr) (σ : L2.St) (ρ : Rho) (H : Hp) (ps : Ps), Rs X.K g m own σ ρ H ps → f ρ ps ≠ .und → WOk W g.pl X.K (Xs m own g) σ H (f ρ ps) →
    t σ H (QV k g.pl X.K (Xs m own g) H (f ρ ps))) : Dx k X W m e f := ⟨fun g own pins s σ ρ H ps I r n w => h.run pins s σ H _ I (q g own σ ρ H ps r n w)⟩
def cF (d : D) : FE := fun _ => pure d
def vF (i : Nat) : FE := fun ρ => ofO (ρ[i]?.join)
theorem dx_c {v : V} {d : D} (h : PE X e (tC v)) (hd : ∀ (pl : Pl) (K : PySem.W.Frag) (H : Hp), Rep pl K H d v) : Dx .cl X W m e (cF d) :=
  .of h fun g own σ ρ H ps r n w => ⟨d, ps, rfl, Exo.refl, r.pool, hd _ _ _⟩
theorem dx_int {i j pos} : Dx .cl X W m (.Constant (.int i) j pos) (cF (.int i)) := dx_c pe_int fun _ _ _ => by unfold Rep; rfl
theorem dx_bl {b j pos} : Dx .cl X W m (.Constant (.bool b) j pos) (cF (.bl b)) := dx_c pe_bl fun _ _ _ => by unfold Rep; rfl
theorem dx_non {j pos} : Dx .cl X W m (.Constant .none j pos) (cF .non) := dx_c pe_non fun _ _ _ => by unfold Rep; rfl
theorem dx_str {x j pos} : Dx .cl X W m (.Constant (.str x) j pos) (cF (.str x)) := dx_c pe_str fun _ _ _ => by unfold Rep; rfl
theorem join_some {ρ : Rho} {i : Nat} {d : D} (h : ρ[i]?.join = some d) : ρ[i]? = some (some d) := by
  cases e : ρ[i]? with
  | none => rw [e] at h; cases h
  | some o => rw [e] at h; cases o with
    | none => cases h
    | some d' => cases h; rfl
theorem dx_v {i : Nat} {x : Str} {pos : Pos} (hN : X.N[i]? = some x) (hv : Vis X.env.scope x) (hm : m[i]? = some .sh) (hd : (x == ("__debug__" : Str)) = false := by decide) (hcd : (x == ("__classdict__" : Str)) = false := by decide) :
    Dx .cl X W m (.Name x pos) (vF i) := .of (pe_var hN hv hd hcd) fun g own σ ρ H ps r n w => by
  obtain ⟨d, h1, h2⟩ := ofO_ne n
  obtain ⟨v, h3, h4⟩ := r.sh i d hm (join_some h1)
  exact ⟨v, h3, d, ps, h2, Exo.refl, r.pool, h4⟩
/-- a mode whose value may be read -/
def Md.rd : Option Md → Bool
  | some .sh => true | some .ow => true | some .io => true | some .sb => true | _ => false
theorem dx_b {i : Nat} {x : Str} {pos : Pos} (hN : X.N[i]? = some x) (hv : Vis X.env.scope x) (hm : Md.rd m[i]? = true) (hd : (x == ("__debug__" : Str)) = false := by decide) (hcd : (x == ("__classdict__" : Str)) = false := by decide) :
    Dx .bo X W m (.Name x pos) (vF i) := .of (pe_var hN hv hd hcd) fun g own σ ρ H ps r n w => by
  obtain ⟨d, h1, h2⟩ := ofO_ne n
  have h1 := join_some h1
  have own_case : (m[i]? = some .ow ∨ m[i]? = some .io) → tVar i σ H (QV .bo g.pl X.K (Xs m own g) H (vF i ρ ps)) := fun q => by
    obtain ⟨d', h3, h4, h5, h6, h7⟩ := r.ow i q
    rw [h1] at h3; cases h3
    exact ⟨_, h4, d, ps, h2, Exo.refl, r.pool, .inr ⟨own i, rfl, h7, h5.b⟩⟩
  cases q : m[i]? with
  | none => rw [q] at hm; cases hm
  | some z => cases z with
    | no => rw [q] at hm; cases hm
    | xc a dx => rw [q] at hm; cases hm
    | sh =>
      obtain ⟨v, h3, h4⟩ := r.sh i d q h1
      exact ⟨v, h3, d, ps, h2, Exo.refl, r.pool, .inl h4⟩
    | sb =>
      obtain ⟨v, h3, h4⟩ := r.sb i d q h1
      refine ⟨v, h3, d, ps, h2, Exo.refl, r.pool, ?_⟩
      rcases h4 with h4 | ⟨a, ea, np, no, t⟩
      · exact .inl h4
      · exact .inr ⟨a, ea, np, t⟩
    | ow => exact own_case (.inl q)
    | io => exact own_case (.inr q)
/-- a name of the module -/
theorem dx_gl {x : Str} {v : V} {u : Value} {pos : Pos} {d : D} (hg : Gl X x) (hm : X.mg x = some u) (r : RelV v u) (hd : ∀ (pl : Pl) (H : Hp), Rep pl X.K H d v) (hdb : (x == ("__debug__" : Str)) = false := by decide) : Dx .cl X W m (.Name x pos) (cF d) :=
  .of (pe_glob hg hm r hdb) fun g own σ ρ H ps r n w => ⟨d, ps, rfl, Exo.refl, r.pool, hd _ _⟩
section
variable {f1 f2 : FE} {α : Type}
theorem ne_of_bind {x : R α} {β : Type} {h : α → R β} {ps : Ps} (n : (x >>= h) ps ≠ .und) : x ps ≠ .und := fun z => n (bind_und z)
theorem WOk.left {W : WX} {pl : Pl} {K : PySem.W.Frag} {O : Addr → Prop} {σ : L2.St} {H : Hp} {x : R α} {β : Type} {h : α → R β} {ps : Ps} (w : WOk W pl K O σ H ((x >>= h) ps)) : WOk W pl K O σ H (x ps) :=
  fun e ps' dx H' q => w e ps' dx H' (bind_exc q)
theorem WOk.later {W : WX} {pl : Pl} {K : PySem.W.Frag} {O : Addr → Prop} {σ : L2.St} {H H1 : Hp} {r : Res α} (w : WOk W pl K O σ H r) (e : Exo (plS pl) H H1) : WOk W pl K O σ H1 r :=
  fun x ps' dx H' q e' => w x ps' dx H' q (e.trans e')
/-- an operator's D-function -/
def OpD (k : Kd) (X : Cx) (f : Value → Value → Sem Value) (F : D → D → R D) : Prop :=
  ∀ (pl : Pl) (O : Addr → Prop) (pins : List (Addr × Obj)) (s : Shared) (σ : L2.St) (H : Hp) (ps : Ps) (d1 d2 : D) (x y : V) (u v : Value), Inv X pins σ H s → (∀ a, plS pl a → O a) → (∀ a, O a → Thr (H a)) → PoolAt pl H ps → RepB pl X.K O H d1 x → RepB pl X.K O H d2 y → RelV x u → RelV y v →
    F d1 d2 ps ≠ .und → wpAny (model X.prog X.w) X.A (f u v) (EP X pins σ (QV k pl X.K O H (F d1 d2 ps))) X.xe s
def op2F (F : D → D → R D) (f1 f2 : FE) : FE := fun ρ => do let a ← f1 ρ; let b ← f2 ρ; F a b
theorem QV.back {k : Kd} {pl : Pl} {K : PySem.W.Frag} {O : Addr → Prop} {H H1 : Hp} {r r' : Res D} {ps : Ps} (e : Exo (plS pl) H H1) (hp : PoolAt pl H1 ps) (hr : r = r') : ∀ v H', QV k pl K O H1 r v H' → QV k pl K O H r' v H' := by
  subst hr
  exact fun v H' ⟨d, ps', h1, h2, h3, h4⟩ => ⟨d, ps', h1, e.trans h2, h3, h4.back e hp⟩
theorem dx_op2 {k : Kd} {a b : Expr} {e : Expr} {fv : Value → Value → Sem Value} {F : D → D → R D} (ho : OpD k X fv F) (ha : Dx .bo X W m a f1) (hb : Dx .bo X W m b f2)
    (he : ∀ {r : R2} {ta tb : TE}, OpR X fv r → PE X a ta → PE X b tb → PE X e (tOp r ta tb)) : Dx k X W m e (op2F F f1 f2) := by
  refine ⟨fun g own pins s σ ρ H ps I r n w => ?_⟩
  have hr : OpR X fv (fun x y H Q => ∀ pins s σ u v, Inv X pins σ H s → RelV x u → RelV y v → wpAny (model X.prog X.w) X.A (fv u v) (EP X pins σ Q) X.xe s) := fun pins s σ H x y u v Q I rx ry h => h pins s σ u v I rx ry
  refine (he hr (pe_c X a) (pe_c X b)).run pins s σ H _ I ?_
  have n1 : f1 ρ ps ≠ .und := ne_of_bind n
  refine cE.mono (ha.c r n1 (WOk.left w)) fun x H1 ⟨d1, ps1, e1, x1, p1, q1⟩ => ?_
  have r1 := r.mono x1 p1
  have c1 : op2F F f1 f2 ρ ps = (f2 ρ >>= fun b => F d1 b) ps1 := bind_ok e1
  have n2 : f2 ρ ps1 ≠ .und := ne_of_bind (by rw [← c1]; exact n)
  have w1 := WOk.later w x1
  rw [c1] at w1
  refine cE.mono (hb.c r1 n2 (WOk.left w1)) fun y H2 ⟨d2, ps2, e2, x2, p2, q2⟩ => ?_
  have c2 : (f2 ρ >>= fun b => F d1 b) ps1 = F d1 d2 ps2 := bind_ok e2
  intro pins2 s2 σ2 u v I2 rx ry
  have q1' := RepB.mono Xs.pl x2 q1
  have r2 := r1.mono x2 p2
  refine thn (ho g.pl (Xs m own g) pins2 s2 σ2 H2 ps2 d1 d2 x y u v I2 Xs.pl r2.xT p2 q1' q2 rx ry (by rw [← c2, ← c1]; exact n)) fun z s3 hz => epI hz ?_
  exact QV.back (x1.trans x2) p2 (c2.symm.trans c1.symm)
theorem dx_bin {k : Kd} {a b : Expr} {op : Operator} {F : D → D → R D} {pos : Pos} (ho : OpD k X (binaryOp op) F) (ha : Dx .bo X W m a f1) (hb : Dx .bo X W m b f2) : Dx k X W m (.BinOp a op b pos) (op2F F f1 f2) :=
  dx_op2 ho ha hb fun h1 h2 h3 => pe_op h1 h2 h3
theorem dx_cmp {k : Kd} {a b : Expr} {op : CmpOp} {F : D → D → R D} {pos : Pos} (ho : OpD k X (compareOp op) F) (ha : Dx .bo X W m a f1) (hb : Dx .bo X W m b f2) (hm : behindInMarks op b = false := by first | exact nomark _ | rfl) : Dx k X W m (.Compare a [op] [b] pos) (op2F F f1 f2) :=
  dx_op2 ho ha hb fun h1 h2 h3 => pe_cmpR h1 h2 h3 hm
end
end
end DL
set_option Elab.async false
set_option linter.all false
set_option maxRecDepth 100000
set_option maxHeartbeats 2000000
namespace DL
open PySem L2
/-- a value's own V, where it needs no heap -/
def D.fv : D → Option V
  | .non => some .non | .bl b => some (.bl b) | .int i => some (.int i) | .str s => some (.str s) | _ => none
theorem D.fv_rep {pl : Pl} {K : PySem.W.Frag} {H : Hp} {d : D} {v x : V} (h : Rep pl K H d v) (e : d.fv = some x) : v = x ∧ flatV x = true := by
  cases d <;> first | (unfold Rep at h; cases e; exact ⟨h, rfl⟩) | cases e
/-- ints in, an int out -/
def D.ints (C : Int → Int → Bool) (g : Int → Int → Int) : D → D → R D
  | .int i, .int j => if C i j = true then pure (.int (g i j)) else R.und
  | _, _ => R.und
section
variable {X : Cx}
theorem od_ints {f : Value → Value → Sem Value} {C' : Int → Int → Prop} {C : Int → Int → Bool} {g : Int → Int → Int} (h : OpR X f (rI C' fun i j => .int (g i j))) (hc : ∀ i j, C i j = true → C' i j) : OpD .cl X f (D.ints C g) := by
  intro pl O pins s σ H ps d1 d2 x y u v I hO hT p r1 r2 rx ry n
  cases d1 with
  | int i =>
    cases d2 with
    | int j =>
      have e1 := r1.flat rfl
      have e2 := r2.flat rfl
      unfold Rep at e1 e2
      subst e1 e2
      have hn : C i j = true := by
        cases q : C i j with
        | true => rfl
        | false =>
          refine (n ?_).elim
          show (if C i j = true then (pure (.int (g i j)) : R D) else R.und) ps = _
          rw [q]; rfl
      refine h pins s σ H _ _ u v _ I rx ry ⟨i, j, rfl, rfl, hc i j hn, .int (g i j), ps, ?_, Exo.refl, p, ?_⟩
      · show (if C i j = true then (pure (.int (g i j)) : R D) else R.und) ps = _
        rw [if_pos hn]; rfl
      · show Rep _ _ _ _ _
        unfold Rep; rfl
    | _ => exact (n rfl).elim
  | _ => exact (n rfl).elim
theorem od_sub : OpD .cl X (binaryOp .Sub) (D.ints (fun _ _ => true) fun i j => i - j) := od_ints (C' := fun _ _ => True) (by
  intro pins s σ H x y u v Q I rx ry ⟨i, j, e1, e2, _, q⟩
  exact op_sub pins s σ H x y u v Q I rx ry ⟨i, j, e1, e2, q⟩) fun _ _ _ => trivial
/-- how many bits -/
def bits (i : Int) : Nat := i.natAbs.log2 + 1
theorem bits_lt (i : Int) : i.natAbs < 2 ^ bits i := Nat.lt_log2_self
def D.mulC (i j : Int) : Bool := decide (bits i + bits j ≤ 1000000)
theorem od_mulI : OpD .cl X (binaryOp .Mult) (D.ints D.mulC fun i j => i * j) := od_ints op_mulW fun i j h =>
  wide_mul (bits_lt i) (bits_lt j) (Nat.succ_pos _) (Nat.succ_pos _) (of_decide_eq_true h)
def D.divC (_ : Int) (j : Int) : Bool := decide (0 < j) && decide (bits j ≤ 9000)
theorem od_fdiv : OpD .cl X (binaryOp .FloorDiv) (D.ints D.divC fun i j => i / j) := od_ints op_fdivW fun i j h => by
  unfold D.divC at h
  rw [Bool.and_eq_true] at h
  exact wide_div (of_decide_eq_true h.1) (bits_lt j) (Nat.succ_pos _) (of_decide_eq_true h.2)
theorem od_mod : OpD .cl X (binaryOp .Mod) (D.ints (fun _ j => decide (0 < j)) fun i j => i % j) := od_ints (C' := fun _ j => 0 < j) (by
  intro pins s σ H x y u v Q I rx ry ⟨i, j, e1, e2, c, q⟩
  refine op_modN pins s σ H x y u v Q I rx ry ⟨i, j, e1, e2, by omega, ?_⟩
  show Q (V.int (i.fmod j)) H
  rw [Int.fmod_eq_emod_of_nonneg _ (Int.le_of_lt c)]
  exact q) fun _ _ h => of_decide_eq_true h
theorem od_pow : OpD .cl X (binaryOp .Pow) (D.ints (fun i j => decide (0 ≤ j ∧ j ≤ 1000000 ∧ i.natAbs < 2 ^ 64)) fun i j => i ^ j.toNat) := od_ints op_pow fun i j h => by
  have h := of_decide_eq_true h
  exact h
/-- a new list -/
theorem laid_fr {pl : Pl} {K : PySem.W.Frag} {O : Addr → Prop} {H : Hp} {ps : Ps} {p : Addr} {vs : List V} {ds : List D} {r : Res D} (hO : ∀ a, O a → Thr (H a)) (hP : PoolAt pl H ps) (hp : H p = none) (hr : Reps pl K (hid O H) ds vs) (e : r = .ok (.lst ds) ps) :
    QV .fr pl K O H r (.ref p) (upd H p (.lst vs)) := by
  refine ⟨_, _, e, Exo.new hp, hP.new hp, p, rfl, hp, vs, upd_same, hr.mono fun a o q => ?_⟩
  obtain ⟨n, q⟩ := hid_of q
  have na : a ≠ p := ne_of_none q hp
  rw [hid_at (by rintro (z | z); exact n z; exact na z), upd_ne na]
  exact q
theorem QV.cl {pl : Pl} {K : PySem.W.Frag} {O : Addr → Prop} {H H' : Hp} {r : Res D} {v : V} (hn : ∀ a, O a → Thr (H a)) (h : QV .fr pl K O H r v H') : QV .cl pl K O H r v H' := by
  obtain ⟨d, ps, h1, h2, h3, h4⟩ := h
  exact ⟨d, ps, h1, h2, h3, h4.cl_of_fr hn⟩
def lenC (n : Nat) : Bool := decide (n ≤ 1000000)
theorem lenC_ok {n : Nat} (h : lenC n = true) : n ≤ sizeLine := Nat.le_trans (of_decide_eq_true h) (by decide)
def D.add : D → D → R D
  | .int i, .int j => pure (.int (i + j))
  | .str a, .str b => if lenC (a.length + b.length) = true then pure (.str (a ++ b)) else R.und
  | .lst a, .lst b => if lenC (a.length + b.length) = true then pure (.lst (a ++ b)) else R.und
  | _, _ => R.und
theorem if_und {c : Bool} {x : R D} {ps : Ps} (n : (if c = true then x else R.und) ps ≠ .und) : c = true ∧ (if c = true then x else R.und) ps = x ps := by
  cases c with
  | true => exact ⟨rfl, rfl⟩
  | false => exact (n rfl).elim
theorem od_add : OpD .cl X (binaryOp .Add) D.add := by
  intro pl O pins s σ H ps d1 d2 x y u v I hO hT p r1 r2 rx ry n
  cases d1 with
  | int i =>
    cases d2 with
    | int j =>
      have e1 := r1.flat rfl
      have e2 := r2.flat rfl
      unfold Rep at e1 e2
      subst e1 e2
      refine op_add pins s σ H _ _ u v _ I rx ry ⟨i, j, rfl, rfl, .int (i + j), ps, rfl, Exo.refl, p, ?_⟩
      show Rep _ _ _ _ _
      unfold Rep; rfl
    | _ => exact (n rfl).elim
  | str i =>
    cases d2 with
    | str j =>
      have e1 := r1.flat rfl
      have e2 := r2.flat rfl
      unfold Rep at e1 e2
      subst e1 e2
      obtain ⟨hc, he⟩ := if_und n
      refine op_add_str pins s σ H _ _ u v _ I rx ry ⟨i, j, rfl, rfl, lenC_ok hc, .str (i ++ j), ps, he, Exo.refl, p, ?_⟩
      show Rep _ _ _ _ _
      unfold Rep; rfl
    | _ => exact (n rfl).elim
  | lst a =>
    cases d2 with
    | lst b =>
      obtain ⟨hc, he⟩ := if_und n
      obtain ⟨q1, xs, rfl, h1, t1⟩ := r1.lst
      obtain ⟨q2, ys, rfl, h2, t2⟩ := r2.lst
      refine op_cat pins s σ H _ _ u v _ I rx ry ⟨q1, q2, xs, ys, rfl, rfl, h1, h2, ?_, fun z hz => QV.cl hT (laid_fr hT p hz (t1.append t2) he)⟩
      rw [t1.length, t2.length]
      exact lenC_ok hc
    | _ => exact (n rfl).elim
  | _ => exact (n rfl).elim
/-- a list many times -/
def rep (ds : List D) : Nat → List D
  | 0 => []
  | n + 1 => ds ++ rep ds n
theorem Reps.many {pl : Pl} {K : PySem.W.Frag} {H : Hp} {ds : List D} {vs : List V} (h : Reps pl K H ds vs) : ∀ n : Nat, Reps pl K H (List.replicate n ds).flatten (List.replicate n vs).flatten
  | 0 => Reps.nil
  | n + 1 => by
    rw [List.replicate_succ, List.replicate_succ, List.flatten_cons, List.flatten_cons]
    exact h.append (h.many n)
/-- true and false -/
theorem qv_bl {pl : Pl} {K : PySem.W.Frag} {O : Addr → Prop} {H : Hp} {ps : Ps} {b : Bool} {r : Res D} (p : PoolAt pl H ps) (e : r = .ok (.bl b) ps) : QV .cl pl K O H r (.bl b) H := by
  refine ⟨_, _, e, Exo.refl, p, ?_⟩
  show Rep _ _ _ _ _
  unfold Rep; rfl
theorem qv_int {pl : Pl} {K : PySem.W.Frag} {O : Addr → Prop} {H : Hp} {ps : Ps} {b : Int} {r : Res D} (p : PoolAt pl H ps) (e : r = .ok (.int b) ps) : QV .cl pl K O H r (.int b) H := by
  refine ⟨_, _, e, Exo.refl, p, ?_⟩
  show Rep _ _ _ _ _
  unfold Rep; rfl
theorem qv_str {pl : Pl} {K : PySem.W.Frag} {O : Addr → Prop} {H : Hp} {ps : Ps} {b : Str} {r : Res D} (p : PoolAt pl H ps) (e : r = .ok (.str b) ps) : QV .cl pl K O H r (.str b) H := by
  refine ⟨_, _, e, Exo.refl, p, ?_⟩
  show Rep _ _ _ _ _
  unfold Rep; rfl
/-- comparisons of ints -/
def D.cmp (g : Int → Int → Bool) : D → D → R D
  | .int i, .int j => pure (.bl (g i j))
  | _, _ => R.und
theorem od_cmp {f : Value → Value → Sem Value} {g : Int → Int → Bool} (h : OpR X f (rI0 fun i j => .bl (g i j))) : OpD .cl X f (D.cmp g) := by
  intro pl O pins s σ H ps d1 d2 x y u v I hO hT p r1 r2 rx ry n
  cases d1 with
  | int i =>
    cases d2 with
    | int j =>
      have e1 := r1.flat rfl
      have e2 := r2.flat rfl
      unfold Rep at e1 e2
      subst e1 e2
      exact h pins s σ H _ _ u v _ I rx ry ⟨i, j, rfl, rfl, qv_bl p rfl⟩
    | _ => exact (n rfl).elim
  | _ => exact (n rfl).elim
theorem od_lt : OpD .cl X (compareOp .Lt) (D.cmp fun i j => decide (i < j)) := od_cmp op_lt
theorem od_gt : OpD .cl X (compareOp .Gt) (D.cmp fun i j => decide (j < i)) := od_cmp op_gt
theorem od_ge : OpD .cl X (compareOp .GtE) (D.cmp fun i j => decide (j ≤ i)) := od_cmp op_ge
def eqAll (e : D → D → Option Bool) : List D → List D → Option Bool
  | a :: r, b :: t => match e a b, eqAll e r t with
    | some x, some y => some (x && y)
    | _, _ => none
  | _, _ => some true
/-- all pairs of the first are in the second -/
def eqPairs {κ : Type} [DecidableEq κ] (e : D → D → Option Bool) (kb : List (κ × D)) : List (κ × D) → Option Bool
  | [] => some true
  | (k, a) :: r => match kb.find? (fun p => decide (p.1 = k)), eqPairs e kb r with
    | none, some _ => some false
    | some (_, b), some y => match e a b with
      | some x => some (x && y)
      | none => none
    | _, none => none
def D.eqn : Nat → D → D → Option Bool
  | 0 => fun _ _ => none
  | n + 1 => fun x y => match x, y with
    | .lst a, .lst b => if a.length = b.length then eqAll (D.eqn n) a b else some false
    | .tup a, .tup b => (eqAll (D.eqn n) a b).map fun q => q && a.length == b.length
    | .dk a, .dk b => (eqPairs (D.eqn n) b a).map fun q => a.length == b.length && q
    | x, y => match x.fv, y.fv with
      | some u, some v => some (eqV u v)
      | _, _ => none
end
end DL
set_option Elab.async false
set_option linter.all false
set_option maxRecDepth 100000
set_option maxHeartbeats 2000000
namespace DL
open PySem L2
theorem eqAll_spec {e : D → D → Option Bool} : ∀ {a b : List D} {r : Bool}, eqAll e a b = some r →
    (∀ (j : Nat) x y, a[j]? = some x → b[j]? = some y → ∃ c, e x y = some c) ∧ (r = true ↔ ∀ (j : Nat) x y, a[j]? = some x → b[j]? = some y → e x y = some true)
  | [], b, r, h => by
    have : r = true := by cases b <;> (unfold eqAll at h; exact (Option.some.inj h).symm)
    exact ⟨fun j x y q => by simp at q, by simp [this]⟩
  | x :: a, [], r, h => by
    have : r = true := by unfold eqAll at h; exact (Option.some.inj h).symm
    exact ⟨fun j x y _ q => by simp at q, by simp [this]⟩
  | x :: a, y :: b, r, h => by
    unfold eqAll at h
    cases h1 : e x y with
    | none => rw [h1] at h; simp at h
    | some c =>
      cases h2 : eqAll e a b with
      | none => rw [h1, h2] at h; simp at h
      | some c2 =>
        rw [h1, h2] at h
        have h := Option.some.inj h
        obtain ⟨i1, i2⟩ := eqAll_spec h2
        refine ⟨fun j x' y' q1 q2 => ?_, ?_⟩
        · cases j with
          | zero => simp at q1 q2; subst q1 q2; exact ⟨c, h1⟩
          | succ j => exact i1 j x' y' (by simpa using q1) (by simpa using q2)
        · rw [← h, Bool.and_eq_true]
          refine ⟨fun ⟨q1, q2⟩ j x' y' q3 q4 => ?_, fun q => ⟨?_, i2.mpr fun j x' y' q3 q4 => q (j + 1) x' y' (by simpa using q3) (by simpa using q4)⟩⟩
          · cases j with
            | zero => simp at q3 q4; subst q3 q4; rw [h1, q1]
            | succ j => exact i2.mp q2 j x' y' (by simpa using q3) (by simpa using q4)
          · have := q 0 x y rfl rfl
            rw [h1] at this
            exact Option.some.inj this
def findD {κ : Type} [DecidableEq κ] (kb : List (κ × D)) (k : κ) : Option D := (kb.find? fun p => decide (p.1 = k)).map (·.2)
theorem eqPairs_spec {κ : Type} [DecidableEq κ] {e : D → D → Option Bool} {kb : List (κ × D)} : ∀ {a : List (κ × D)} {r : Bool}, eqPairs e kb a = some r →
    (∀ k x y, (k, x) ∈ a → findD kb k = some y → ∃ c, e x y = some c) ∧ (r = true ↔ ∀ k x, (k, x) ∈ a → ∃ y, findD kb k = some y ∧ e x y = some true)
  | [], r, h => by
    unfold eqPairs at h
    have := (Option.some.inj h).symm
    exact ⟨fun k x y q => by simp at q, by simp [this]⟩
  | (k, x) :: a, r, h => by
    unfold eqPairs at h
    cases h2 : eqPairs e kb a with
    | none => rw [h2] at h; cases h1 : kb.find? (fun p => decide (p.1 = k)) <;> (rw [h1] at h; simp at h)
    | some c2 =>
      obtain ⟨i1, i2⟩ := eqPairs_spec h2
      cases h1 : kb.find? (fun p => decide (p.1 = k)) with
      | none =>
        have hf : findD kb k = none := by unfold findD; rw [h1]; rfl
        rw [h1, h2] at h
        have h := (Option.some.inj h).symm
        subst h
        refine ⟨fun k' x' y q1 q2 => ?_, by simp, fun q => ?_⟩
        · rcases List.mem_cons.mp q1 with q | q
          · cases q; rw [hf] at q2; cases q2
          · exact i1 k' x' y q q2
        · obtain ⟨y, q1, _⟩ := q k x (List.mem_cons_self ..)
          rw [hf] at q1; cases q1
      | some p =>
        obtain ⟨k', y⟩ := p
        have hf : findD kb k = some y := by unfold findD; rw [h1]; rfl
        rw [h1, h2] at h
        cases h3 : e x y with
        | none => simp only [h3] at h; cases h
        | some c =>
          simp only [h3] at h
          have h := Option.some.inj h
          refine ⟨fun k' x' y' q1 q2 => ?_, ?_⟩
          · rcases List.mem_cons.mp q1 with q | q
            · cases q; rw [hf] at q2; cases q2; exact ⟨c, h3⟩
            · exact i1 k' x' y' q q2
          · rw [← h, Bool.and_eq_true]
            refine ⟨fun ⟨q1, q2⟩ k' x' q => ?_, fun q => ⟨?_, i2.mpr fun k' x' z => q k' x' (List.mem_cons_of_mem _ z)⟩⟩
            · rcases List.mem_cons.mp q with z | z
              · cases z; exact ⟨y, hf, by rw [h3, q1]⟩
              · exact i2.mp q2 k' x' z
            · obtain ⟨y', q1, q2⟩ := q k x (List.mem_cons_self ..)
              rw [hf] at q1; cases q1
              rw [h3] at q2
              exact Option.some.inj q2
section
variable {pl : Pl} {K : PySem.W.Frag} {H : Hp}
theorem RepK.length : ∀ {ds : List (Key × D)} {vs : List (Key × V)}, RepK pl K H ds vs → vs.length = ds.length
  | [], _, h => by unfold RepK at h; rw [h]; rfl
  | (_, _) :: _, _, h => by
    unfold RepK at h
    obtain ⟨v, r, rfl, _, h3⟩ := h
    rw [List.length_cons, List.length_cons, RepK.length h3]
theorem RepK.keys : ∀ {ds : List (Key × D)} {vs : List (Key × V)}, RepK pl K H ds vs → vs.map (·.1) = ds.map (·.1)
  | [], _, h => by unfold RepK at h; rw [h]; rfl
  | (_, _) :: _, _, h => by
    unfold RepK at h
    obtain ⟨v, r, rfl, _, h3⟩ := h
    rw [List.map_cons, List.map_cons, RepK.keys h3]
theorem RepK.val : ∀ {ds : List (Key × D)} {vs : List (Key × V)} (k : Key), RepK pl K H ds vs →
    (findD ds k = none ∧ valV vs k = none) ∨ ∃ d v, findD ds k = some d ∧ valV vs k = some v ∧ Rep pl K H d v
  | [], _, k, h => by unfold RepK at h; rw [h]; exact .inl ⟨rfl, rfl⟩
  | (k', d) :: ds, _, k, h => by
    unfold RepK at h
    obtain ⟨v, r, rfl, h2, h3⟩ := h
    by_cases e : k' = k
    · refine .inr ⟨d, v, ?_, valV_pos e, h2⟩
      unfold findD; rw [List.find?_cons_of_pos (by simpa using e)]; rfl
    · have q1 : findD ((k', d) :: ds) k = findD ds k := by unfold findD; rw [List.find?_cons_of_neg (by simpa using e)]
      rw [q1, valV_neg e]
      exact RepK.val k h3
theorem RepK.mem : ∀ {ds : List (Key × D)} {vs : List (Key × V)} {k : Key} {v : V}, RepK pl K H ds vs → (k, v) ∈ vs → ∃ d, (k, d) ∈ ds ∧ Rep pl K H d v
  | [], _, k, v, h, q => by unfold RepK at h; rw [h] at q; cases q
  | (k', d) :: ds, _, k, v, h, q => by
    unfold RepK at h
    obtain ⟨v', r, rfl, h2, h3⟩ := h
    rcases List.mem_cons.mp q with q | q
    · cases q; exact ⟨d, List.mem_cons_self .., h2⟩
    · obtain ⟨d', m, q'⟩ := RepK.mem h3 q
      exact ⟨d', List.mem_cons_of_mem _ m, q'⟩
theorem RepK.memD : ∀ {ds : List (Key × D)} {vs : List (Key × V)} {k : Key} {d : D}, RepK pl K H ds vs → (k, d) ∈ ds → ∃ v, (k, v) ∈ vs ∧ Rep pl K H d v
  | [], _, k, v, h, q => nomatch q
  | (k', d) :: ds, _, k, v, h, q => by
    unfold RepK at h
    obtain ⟨v', r, rfl, h2, h3⟩ := h
    rcases List.mem_cons.mp q with q | q
    · cases q; exact ⟨v', List.mem_cons_self .., h2⟩
    · obtain ⟨d', m, q'⟩ := RepK.memD h3 q
      exact ⟨d', List.mem_cons_of_mem _ m, q'⟩
end
theorem valV_of_mem {κ : Type} [DecidableEq κ] : ∀ {us : List (κ × V)} {k : κ} {v : V}, (us.map (·.1)).Nodup → (k, v) ∈ us → valV us k = some v
  | a :: r, k, v, nd, h => by
    have nd' := List.nodup_cons.mp nd
    rcases List.mem_cons.mp h with z | z
    · subst z; exact valV_pos rfl
    · have hne : ¬ a.1 = k := fun e => nd'.1 (by show a.1 ∈ _; rw [e]; exact List.mem_map_of_mem (f := (·.1)) z)
      rw [valV_neg hne]
      exact valV_of_mem nd'.2 z
theorem kv_at {κ : Type} : ∀ {kvs : List (κ × V)} {vs : List (κ × Value)} {i : Nat} {k : κ} {v : Value}, KV kvs vs → vs[i]? = some (k, v) → ∃ x, kvs[i]? = some (k, x) ∧ RelV x v
  | _, _, _, _, _, .nil, h => by simp at h
  | (k', x) :: _, (k2, u) :: _, 0, k, v, .cons r t, h => by
    simp at h
    obtain ⟨rfl, rfl⟩ := h
    obtain ⟨e, q⟩ := r
    have e : k' = k2 := e
    subst e
    exact ⟨x, rfl, q⟩
  | _, _, i + 1, k, v, .cons r t, h => by
    obtain ⟨x, h1, h2⟩ := kv_at (i := i) t (by simpa using h)
    exact ⟨x, by simpa using h1, h2⟩
theorem eqV_refl : ∀ {v : V}, flatV v = true → eqV v v = true := by
  intro v h
  cases v <;> first | rfl | (show (_ == _) = true; exact beq_self_eq_true _) | exact Bool.noConfusion (show false = true from h)
section
variable {X : Cx} {pins : List (Addr × Obj)} {σ : L2.St} {H : Hp} {s : Shared} {pl : Pl}
def eqnD (a b : D) : Option Bool := match a.fv, b.fv with | some u, some v => some (eqV u v) | _, _ => none
theorem eqn_dfl {a b : D} {r : Bool} (h : eqnD a b = some r) : (∃ x y, a = .lst x ∧ b = .lst y) ∨ (∃ x y, a = .tup x ∧ b = .tup y) ∨ (∃ x y, a = .dk x ∧ b = .dk y) ∨ ∃ x y, a.fv = some x ∧ b.fv = some y ∧ r = eqV x y := by
  unfold eqnD at h
  cases ea : a.fv with
  | none => rw [ea] at h; cases h
  | some u =>
    cases eb : b.fv with
    | none => rw [ea, eb] at h; cases h
    | some v => rw [ea, eb] at h; cases h; exact .inr (.inr (.inr ⟨u, v, rfl, rfl, rfl⟩))
theorem eqn_flat {n : Nat} {a b : D} {r : Bool} (h : D.eqn (n + 1) a b = some r) : (∃ x y, a = .lst x ∧ b = .lst y) ∨ (∃ x y, a = .tup x ∧ b = .tup y) ∨ (∃ x y, a = .dk x ∧ b = .dk y) ∨ ∃ x y, a.fv = some x ∧ b.fv = some y ∧ r = eqV x y := by
  cases a with
  | lst x => cases b with
    | lst y => exact .inl ⟨_, _, rfl, rfl⟩
    | _ => exact eqn_dfl h
  | tup x => cases b with
    | tup y => exact .inr (.inl ⟨_, _, rfl, rfl⟩)
    | _ => exact eqn_dfl h
  | dk x => cases b with
    | dk y => exact .inr (.inr (.inl ⟨_, _, rfl, rfl⟩))
    | _ => exact eqn_dfl h
  | _ => exact eqn_dfl h
/-- one object is equal to itself -/
theorem eqn_same (hok : HOk X.prog X.w H s.heap) (I : Inv X pins σ H s) : ∀ (n : Nat) (a b : D) (v : V) (r : Bool), Rep pl X.K H a v → Rep pl X.K H b v → D.eqn n a b = some r → r = true
  | 0, _, _, _, _, _, _, h => nomatch h
  | n + 1, a, b, v, r, ra, rb, h => by
    have items : ∀ {x y : List D} {vs : List V} {c : Bool}, Reps pl X.K H x vs → Reps pl X.K H y vs → eqAll (D.eqn n) x y = some c → c = true := fun {x y vs c} h1 h2 q => by
      obtain ⟨i1, i2⟩ := eqAll_spec q
      refine i2.mpr fun j x' y' q1 q2 => ?_
      obtain ⟨u1, e1, t1⟩ := h1.get q1
      obtain ⟨u2, e2, t2⟩ := h2.get q2
      rw [e1] at e2; cases e2
      obtain ⟨c', hc⟩ := i1 j x' y' q1 q2
      rw [hc, eqn_same hok I n x' y' u1 c' t1 t2 hc]
    rcases eqn_flat h with ⟨x, y, rfl, rfl⟩ | ⟨x, y, rfl, rfl⟩ | ⟨x, y, rfl, rfl⟩ | ⟨x, y, ex, ey, rfl⟩
    · unfold Rep at ra rb
      obtain ⟨p, vs, rfl, h1, t1⟩ := ra
      obtain ⟨q, us, e, h2, t2⟩ := rb
      cases e
      rw [h1] at h2; cases h2
      have hl : x.length = y.length := by rw [← t1.length, ← t2.length]
      have h' : (if x.length = y.length then eqAll (D.eqn n) x y else some false) = some r := h
      rw [if_pos hl] at h'
      exact items t1 t2 h'
    · unfold Rep at ra rb
      obtain ⟨p, vs, rfl, h1, t1⟩ := ra
      obtain ⟨q, us, e, h2, t2⟩ := rb
      cases e
      have e := I.tuple_inj (SqT.of h1) (SqT.of h2)
      subst e
      have hl : x.length = y.length := by rw [← t1.length, ← t2.length]
      have h' : (eqAll (D.eqn n) x y).map (fun q => q && x.length == y.length) = some r := h
      cases hc : eqAll (D.eqn n) x y with
      | none => rw [hc] at h'; cases h'
      | some c =>
        rw [hc] at h'
        have h' := Option.some.inj h'
        rw [← h', items t1 t2 hc, hl]; simp
    · unfold Rep at ra rb
      obtain ⟨p, vs, rfl, h1, t1⟩ := ra
      obtain ⟨q, us, e, h2, t2⟩ := rb
      cases e
      have e : us = vs := by
        rcases h1 with h1 | ⟨o, h1⟩ <;> rcases h2 with h2 | ⟨o', h2⟩ <;> (rw [h1] at h2; cases h2) <;> rfl
      subst e
      have hl : x.length = y.length := by rw [← t1.length, ← t2.length]
      obtain ⟨_, _, ws, kw, hd⟩ := dk_rd hok h1
      have nd : (us.map (·.1)).Nodup := by
        rw [kw.keys]
        obtain ⟨_, _, _, _, _, _, _, _, nd⟩ := hd
        exact nd
      have h' : (eqPairs (D.eqn n) y x).map (fun q => x.length == y.length && q) = some r := h
      cases hc : eqPairs (D.eqn n) y x with
      | none => rw [hc] at h'; cases h'
      | some c =>
        rw [hc] at h'
        have h' := Option.some.inj h'
        obtain ⟨i1, i2⟩ := eqPairs_spec hc
        have hc' : c = true := i2.mpr fun k d hm => by
          obtain ⟨v, hv, tv⟩ := t1.memD hm
          have q : valV us k = some v := valV_of_mem nd hv
          rcases t2.val k with ⟨_, z⟩ | ⟨d', v', z1, z2, z3⟩
          · rw [q] at z; cases z
          · rw [q] at z2; cases z2
            obtain ⟨c', hc'⟩ := i1 k d d' hm z1
            exact ⟨d', z1, by rw [hc', eqn_same hok I n d d' v c' tv z3 hc']⟩
        rw [← h', hc', hl]; simp
    · obtain ⟨e1, f1⟩ := D.fv_rep ra ex
      obtain ⟨e2, f2⟩ := D.fv_rep rb ey
      subst e1 e2
      exact eqV_refl f1
theorem eqn_tree (I : Inv X pins σ H s) : ∀ (n : Nat) (a b : D) (x y : V) (u v : Value) (r : Bool), Rep pl X.K H a x → Rep pl X.K H b y → RelV x u → RelV y v → D.eqn n a b = some r → PySem.W.EqTree X.prog X.w s n u v r
  | 0, _, _, _, _, _, _, _, _, _, _, _, h => nomatch h
  | n + 1, a, b, x, y, u, v, r, ra, rb, rx, ry, h => by
    by_cases hxy : x = y
    · subst hxy
      have huv : u = v ∨ flatV x = true := by
        cases x with
        | ref q => left; rw [show u = Value.ref q from rx, show v = Value.ref q from ry]
        | non => exact .inr rfl
        | bl _ => exact .inr rfl
        | int _ => exact .inr rfl
        | str _ => exact .inr rfl
        | byt _ => left; rcases eqn_flat h with ⟨x, y, rfl, rfl⟩ | ⟨x, y, rfl, rfl⟩ | ⟨x, y, rfl, rfl⟩ | ⟨x, y, ex, ey, rfl⟩ <;> first
          | (unfold Rep at ra; obtain ⟨p, vs, e, _⟩ := ra; cases e)
          | (obtain ⟨e1, f1⟩ := D.fv_rep ra ex; subst e1; cases f1)
        | flt _ => left; rcases eqn_flat h with ⟨x, y, rfl, rfl⟩ | ⟨x, y, rfl, rfl⟩ | ⟨x, y, rfl, rfl⟩ | ⟨x, y, ex, ey, rfl⟩ <;> first
          | (unfold Rep at ra; obtain ⟨p, vs, e, _⟩ := ra; cases e)
          | (obtain ⟨e1, f1⟩ := D.fv_rep ra ex; subst e1; cases f1)
        | ty _ => left; rcases eqn_flat h with ⟨x, y, rfl, rfl⟩ | ⟨x, y, rfl, rfl⟩ | ⟨x, y, rfl, rfl⟩ | ⟨x, y, ex, ey, rfl⟩ <;> first
          | (unfold Rep at ra; obtain ⟨p, vs, e, _⟩ := ra; cases e)
          | (obtain ⟨e1, f1⟩ := D.fv_rep ra ex; subst e1; cases f1)
      have hr := eqn_same I.hok I (n + 1) a b x r ra rb h
      subst hr
      rcases huv with rfl | f
      · exact .same
      · refine .leaf fun A _ => ?_
        have q := L2.eqAt_V (A := A) (s := s) rx ry f f
        rw [eqV_refl f] at q
        exact q
    rcases eqn_flat h with ⟨xs, ys, rfl, rfl⟩ | ⟨xs, ys, rfl, rfl⟩ | ⟨xs, ys, rfl, rfl⟩ | ⟨x', y', ex, ey, rfl⟩
    · unfold Rep at ra rb
      obtain ⟨p, vs, rfl, h1, t1⟩ := ra
      obtain ⟨q, us, rfl, h2, t2⟩ := rb
      cases rx
      cases ry
      have hpq : p ≠ q := fun e => hxy (by rw [e])
      obtain ⟨its, v1, l1, _⟩ := I.list (.of h1)
      obtain ⟨its2, v2, l2, _⟩ := I.list (.of h2)
      have e1 : its.length = xs.length := by rw [← v1.length, t1.length]
      have e2 : its2.length = ys.length := by rw [← v2.length, t2.length]
      have h' : (if xs.length = ys.length then eqAll (D.eqn n) xs ys else some false) = some r := h
      by_cases hl : xs.length = ys.length
      · rw [if_pos hl] at h'
        obtain ⟨i1, i2⟩ := eqAll_spec h'
        have key := PySem.W.EqTree.lists (n := n) (prog := X.prog) (w := X.w) (e := fun j => match xs[j]?, ys[j]? with | some a, some b => D.eqn n a b == some true | _, _ => false) hpq l1.isList l2.isList (by simp [e1, e2, hl]) fun j z1 z2 => by
          have z1' : j < xs.length := by simpa [e1] using z1
          have z2' : j < ys.length := by simpa [e2] using z2
          obtain ⟨c, hc⟩ := i1 j _ _ (List.getElem?_eq_getElem z1') (List.getElem?_eq_getElem z2')
          obtain ⟨w1, g1, k1⟩ := t1.get (List.getElem?_eq_getElem z1')
          obtain ⟨w2, g2, k2⟩ := t2.get (List.getElem?_eq_getElem z2')
          obtain ⟨a1, b1, c1⟩ := v1.get g1
          obtain ⟨a2, b2, c2⟩ := v2.get g2
          have q1 : its.toArray[j] = a1 := by
            have := List.getElem?_eq_some_iff.mp b1
            simpa using this.2
          have q2 : its2.toArray[j] = a2 := by
            have := List.getElem?_eq_some_iff.mp b2
            simpa using this.2
          rw [q1, q2, List.getElem?_eq_getElem z1', List.getElem?_eq_getElem z2']
          show PySem.W.EqTree _ _ _ _ _ _ (D.eqn n xs[j] ys[j] == some true)
          rw [hc]
          have hcc : (some c == some true) = c := by cases c <;> rfl
          rw [hcc]
          exact eqn_tree I n _ _ _ _ _ _ _ k1 k2 c1 c2 hc
        have er : r = (List.range its.toArray.size).all (fun j => match xs[j]?, ys[j]? with | some a, some b => D.eqn n a b == some true | _, _ => false) := by
          rw [Bool.eq_iff_iff, i2, List.all_eq_true]
          constructor
          · intro q j hj
            have z1' : j < xs.length := by have := List.mem_range.mp hj; simpa [e1] using this
            have z2' : j < ys.length := hl ▸ z1'
            rw [List.getElem?_eq_getElem z1', List.getElem?_eq_getElem z2']
            simp [q j _ _ (List.getElem?_eq_getElem z1') (List.getElem?_eq_getElem z2')]
          · intro q j a b g1 g2
            have z1' : j < xs.length := (List.getElem?_eq_some_iff.mp g1).1
            have := q j (List.mem_range.mpr (by simpa [e1] using z1'))
            rw [g1, g2] at this
            simpa using this
        rw [er]
        exact key
      · rw [if_neg hl] at h'
        cases h'
        exact .listsLen hpq l1.isList l2.isList (by simp [e1, e2, hl])
    · unfold Rep at ra rb
      obtain ⟨p, vs, rfl, h1, t1⟩ := ra
      obtain ⟨q, us, rfl, h2, t2⟩ := rb
      cases rx
      cases ry
      have hpq : p ≠ q := fun e => hxy (by rw [e])
      obtain ⟨its, v1, l1, _⟩ := I.tuple (SqT.of h1)
      obtain ⟨its2, v2, l2, _⟩ := I.tuple (SqT.of h2)
      have e1 : its.length = xs.length := by rw [← v1.length, t1.length]
      have e2 : its2.length = ys.length := by rw [← v2.length, t2.length]
      have h' : (eqAll (D.eqn n) xs ys).map (fun q => q && xs.length == ys.length) = some r := h
      cases hc0 : eqAll (D.eqn n) xs ys with
      | none => rw [hc0] at h'; cases h'
      | some c0 =>
        rw [hc0] at h'
        have h' := Option.some.inj h'
        obtain ⟨i1, i2⟩ := eqAll_spec hc0
        have key := PySem.W.EqTree.tuples (n := n) (prog := X.prog) (w := X.w) (e := fun j => match xs[j]?, ys[j]? with | some a, some b => D.eqn n a b == some true | _, _ => false) hpq (show s.heap.IsTuple p its.toArray from l1) (show s.heap.IsTuple q its2.toArray from l2) fun j z1 z2 => by
          have z1' : j < xs.length := by simpa [e1] using z1
          have z2' : j < ys.length := by simpa [e2] using z2
          obtain ⟨c, hc⟩ := i1 j _ _ (List.getElem?_eq_getElem z1') (List.getElem?_eq_getElem z2')
          obtain ⟨w1, g1, k1⟩ := t1.get (List.getElem?_eq_getElem z1')
          obtain ⟨w2, g2, k2⟩ := t2.get (List.getElem?_eq_getElem z2')
          obtain ⟨a1, b1, c1⟩ := v1.get g1
          obtain ⟨a2, b2, c2⟩ := v2.get g2
          have q1 : its.toArray[j] = a1 := by
            have := List.getElem?_eq_some_iff.mp b1
            simpa using this.2
          have q2 : its2.toArray[j] = a2 := by
            have := List.getElem?_eq_some_iff.mp b2
            simpa using this.2
          rw [q1, q2, List.getElem?_eq_getElem z1', List.getElem?_eq_getElem z2']
          show PySem.W.EqTree _ _ _ _ _ _ (D.eqn n xs[j] ys[j] == some true)
          rw [hc]
          have hcc : (some c == some true) = c := by cases c <;> rfl
          rw [hcc]
          exact eqn_tree I n _ _ _ _ _ _ _ k1 k2 c1 c2 hc
        have er : r = ((List.range (min its.toArray.size its2.toArray.size)).all (fun j => match xs[j]?, ys[j]? with | some a, some b => D.eqn n a b == some true | _, _ => false) && its.toArray.size == its2.toArray.size) := by
          rw [← h']
          have sz : (its.toArray.size == its2.toArray.size) = (xs.length == ys.length) := by simp [e1, e2]
          rw [sz]
          congr 1
          rw [Bool.eq_iff_iff, i2, List.all_eq_true]
          constructor
          · intro q j hj
            have z := List.mem_range.mp hj
            have z1' : j < xs.length := by simp [e1] at z; omega
            have z2' : j < ys.length := by simp [e2] at z; omega
            rw [List.getElem?_eq_getElem z1', List.getElem?_eq_getElem z2']
            simp [q j _ _ (List.getElem?_eq_getElem z1') (List.getElem?_eq_getElem z2')]
          · intro q j a b g1 g2
            have z1' : j < xs.length := (List.getElem?_eq_some_iff.mp g1).1
            have z2' : j < ys.length := (List.getElem?_eq_some_iff.mp g2).1
            have := q j (List.mem_range.mpr (by simp [e1, e2]; omega))
            rw [g1, g2] at this
            simpa using this
        rw [er]
        exact key
    · unfold Rep at ra rb
      obtain ⟨p, vs, rfl, h1, t1⟩ := ra
      obtain ⟨q, us, rfl, h2, t2⟩ := rb
      cases rx
      cases ry
      have hpq : p ≠ q := fun e => hxy (by rw [e])
      obtain ⟨_, n1, ws, kw, hd⟩ := dk_rd I.hok h1
      obtain ⟨_, n2, ws2, kw2, hd2⟩ := dk_rd I.hok h2
      have nd : (ws.map (·.1)).Nodup := by
        obtain ⟨_, _, _, _, _, _, _, _, nd⟩ := hd
        exact nd
      have h' : (eqPairs (D.eqn n) ys xs).map (fun q => xs.length == ys.length && q) = some r := h
      cases hc0 : eqPairs (D.eqn n) ys xs with
      | none => rw [hc0] at h'; cases h'
      | some c0 =>
        rw [hc0] at h'
        have h' := Option.some.inj h'
        obtain ⟨i1, i2⟩ := eqPairs_spec hc0
        -- a pair of the model's dict, by data
        have fst : ∀ k w', (k, w') ∈ ws → ∃ d v', (k, d) ∈ xs ∧ findD xs k = some d ∧ Rep pl X.K H d v' ∧ RelV v' w' := fun k w' hm => by
          obtain ⟨i, hi, he⟩ := List.getElem_of_mem hm
          obtain ⟨v', g1, g2⟩ := kv_at kw (i := i) (k := k) (v := w') (by rw [List.getElem?_eq_getElem hi, he])
          have hmv : (k, v') ∈ vs := List.mem_of_getElem? g1
          have hv : valV vs k = some v' := valV_of_mem (by rw [kw.keys]; exact nd) hmv
          rcases t1.val k with ⟨_, z⟩ | ⟨d', v2, z1, z2, z3⟩
          · rw [hv] at z; cases z
          · rw [hv] at z2; cases z2
            refine ⟨d', v', ?_, z1, z3, g2⟩
            unfold findD at z1
            cases q : xs.find? (fun p => decide (p.1 = k)) with
            | none => rw [q] at z1; cases z1
            | some pr =>
              rw [q] at z1
              cases z1
              have := List.find?_some q
              have hk : pr.1 = k := of_decide_eq_true this
              have hm2 := List.mem_of_find?_eq_some q
              rw [← hk]
              exact hm2
        have key := PySem.W.EqTree.dicts (n := n) (prog := X.prog) (w := X.w) (e := fun k => match findD xs k, findD ys k with | some a, some b => D.eqn n a b == some true | _, _ => false) hpq n1 n2 hd hd2 fun k w1 w2 hm hv => by
          obtain ⟨d, v', hmd, hf, hr1, hr2⟩ := fst k w1 hm
          have rel := kw2.val k
          rw [hv] at rel
          rcases t2.val k with ⟨_, z⟩ | ⟨d', v2, z1, z2, z3⟩
          · rw [z] at rel; exact rel.elim
          · rw [z2] at rel
            have rel : RelV v2 w2 := rel
            obtain ⟨c, hc⟩ := i1 k d d' hmd z1
            rw [hf, z1]
            show PySem.W.EqTree _ _ _ _ _ _ (D.eqn n d d' == some true)
            rw [hc]
            have hcc : (some c == some true) = c := by cases c <;> rfl
            rw [hcc]
            exact eqn_tree I n _ _ _ _ _ _ _ hr1 z3 hr2 rel hc
        have er : r = (ws.length == ws2.length && ws.all fun p => (valueAt ws2 p.1).isSome && (match findD xs p.1, findD ys p.1 with | some a, some b => D.eqn n a b == some true | _, _ => false)) := by
          rw [← h']
          have sz : (ws.length == ws2.length) = (xs.length == ys.length) := by rw [← kw.length, ← kw2.length, t1.length, t2.length]
          rw [sz]
          congr 1
          rw [Bool.eq_iff_iff, i2, List.all_eq_true]
          constructor
          · intro q pr hm
            obtain ⟨k, w1⟩ := pr
            obtain ⟨d, v', hmd, hf, hr1, hr2⟩ := fst k w1 hm
            obtain ⟨d', g1, g2⟩ := q k d hmd
            rcases t2.val k with ⟨z, _⟩ | ⟨d2, v2, z1, z2, z3⟩
            · rw [g1] at z; cases z
            · have rel := kw2.val k
              rw [z2] at rel
              cases hva : valueAt ws2 k with
              | none => rw [hva] at rel; exact rel.elim
              | some w2 => simp [hva, hf, g1, g2]
          · intro q k d hmd
            obtain ⟨v', hmv, hr1⟩ := t1.memD hmd
            have hk : k ∈ ws.map (·.1) := by rw [← kw.keys]; exact List.mem_map_of_mem (f := (·.1)) hmv
            obtain ⟨pr, hp, hpk⟩ := List.mem_map.mp hk
            obtain ⟨k0, w1⟩ := pr
            have hpk : k0 = k := hpk
            subst hpk
            obtain ⟨d0, v0, hmd0, hf0, hr0, _⟩ := fst k0 w1 hp
            have ndx : (xs.map (·.1)).Nodup := by rw [← t1.keys, kw.keys]; exact nd
            have hdd : d0 = d := by
              have f : ∀ {l : List (Key × D)} {d d0 : D}, (l.map (·.1)).Nodup → (k0, d) ∈ l → (k0, d0) ∈ l → d0 = d := by
                intro l d d0 ndl m1 m2
                induction l with
                | nil => cases m1
                | cons a t ih =>
                  have nd' := List.nodup_cons.mp ndl
                  rcases List.mem_cons.mp m1 with z1 | z1 <;> rcases List.mem_cons.mp m2 with z2 | z2
                  · rw [← z1] at z2; cases z2; rfl
                  · exact (nd'.1 (by rw [← z1]; exact List.mem_map_of_mem (f := (·.1)) z2)).elim
                  · exact (nd'.1 (by rw [← z2]; exact List.mem_map_of_mem (f := (·.1)) z1)).elim
                  · exact ih nd'.2 z1 z2
              exact f ndx hmd hmd0
            subst hdd
            have := q (k0, w1) hp
            rw [Bool.and_eq_true] at this
            obtain ⟨_, g2⟩ := this
            simp only [hf0] at g2
            cases hfy : findD ys k0 with
            | none => rw [hfy] at g2; cases g2
            | some d' => rw [hfy] at g2; exact ⟨d', rfl, by simpa using g2⟩
        rw [er]
        exact key
    · obtain ⟨e1, f1⟩ := D.fv_rep ra ex
      obtain ⟨e2, f2⟩ := D.fv_rep rb ey
      subst e1 e2
      exact .leaf fun A _ => L2.eqAt_V rx ry f1 f2
end
end DL
set_option Elab.async false
set_option linter.all false
set_option maxRecDepth 100000
set_option maxHeartbeats 2000000
namespace DL
open PySem L2
section
variable {pl : Pl} {K : PySem.W.Frag} {H : Hp}
theorem items_of {P : Value → Value → Bool → Prop} {e : D → D → Option Bool} {xs ys : List D} {vs us : List V} {its its2 : List Value} {c : Bool}
    (ih : ∀ a b x y u v r, a ∈ xs → Rep pl K H a x → Rep pl K H b y → RelV x u → RelV y v → e a b = some r → P u v r) (t1 : Reps pl K H xs vs) (t2 : Reps pl K H ys us) (v1 : Vals vs its) (v2 : Vals us its2) (hc : eqAll e xs ys = some c) :
    ∃ e' : Nat → Bool, (∀ j (h1 : j < its.toArray.size) (h2 : j < its2.toArray.size), P its.toArray[j] its2.toArray[j] (e' j)) ∧ c = (List.range (min its.toArray.size its2.toArray.size)).all e' := by
  have e1 : its.length = xs.length := by rw [← v1.length, t1.length]
  have e2 : its2.length = ys.length := by rw [← v2.length, t2.length]
  obtain ⟨i1, i2⟩ := eqAll_spec hc
  refine ⟨fun j => match xs[j]?, ys[j]? with | some a, some b => e a b == some true | _, _ => false, fun j z1 z2 => ?_, ?_⟩
  · have z1' : j < xs.length := by simpa [e1] using z1
    have z2' : j < ys.length := by simpa [e2] using z2
    obtain ⟨c, hc⟩ := i1 j _ _ (List.getElem?_eq_getElem z1') (List.getElem?_eq_getElem z2')
    obtain ⟨w1, g1, k1⟩ := t1.get (List.getElem?_eq_getElem z1')
    obtain ⟨w2, g2, k2⟩ := t2.get (List.getElem?_eq_getElem z2')
    obtain ⟨a1, b1, c1⟩ := v1.get g1
    obtain ⟨a2, b2, c2⟩ := v2.get g2
    have q1 : its.toArray[j] = a1 := by
      have := List.getElem?_eq_some_iff.mp b1
      simpa using this.2
    have q2 : its2.toArray[j] = a2 := by
      have := List.getElem?_eq_some_iff.mp b2
      simpa using this.2
    have q3 : (match xs[j]?, ys[j]? with | some a, some b => e a b == some true | _, _ => false) = (e xs[j] ys[j] == some true) := by rw [List.getElem?_eq_getElem z1', List.getElem?_eq_getElem z2']
    show P _ _ (match xs[j]?, ys[j]? with | some a, some b => e a b == some true | _, _ => false)
    rw [q1, q2, q3]
    rw [hc]
    have hcc : (some c == some true) = c := by cases c <;> rfl
    rw [hcc]
    exact ih _ _ _ _ _ _ _ (List.getElem_mem z1') k1 k2 c1 c2 hc
  · rw [Bool.eq_iff_iff, i2, List.all_eq_true]
    constructor
    · intro q j hj
      have z := List.mem_range.mp hj
      have z1' : j < xs.length := by simp [e1] at z; omega
      have z2' : j < ys.length := by simp [e2] at z; omega
      rw [List.getElem?_eq_getElem z1', List.getElem?_eq_getElem z2']
      simp [q j _ _ (List.getElem?_eq_getElem z1') (List.getElem?_eq_getElem z2')]
    · intro q j a b g1 g2
      have z1' : j < xs.length := (List.getElem?_eq_some_iff.mp g1).1
      have z2' : j < ys.length := (List.getElem?_eq_some_iff.mp g2).1
      have := q j (List.mem_range.mpr (by simp [e1, e2]; omega))
      rw [g1, g2] at this
      simpa using this
end
/-- no dict in it (to a depth) -/
def D.nod : Nat → D → Bool
  | 0 => fun _ => false
  | n + 1 => fun x => match x with
    | .lst a => a.all (D.nod n)
    | .tup a => a.all (D.nod n)
    | .dk _ => false
    | _ => true
section
variable {X : Cx} {pins : List (Addr × Obj)} {σ : L2.St} {H : Hp} {s : Shared} {pl : Pl}
theorem eqn_at (I : Inv X pins σ H s) : ∀ (n : Nat) (a b : D) (x y : V) (u v : Value) (r : Bool), D.nod n a = true → Rep pl X.K H a x → Rep pl X.K H b y → RelV x u → RelV y v → D.eqn n a b = some r → ∀ A : Around, A.units + n < cLine → PySem.SeqAt.EqAt A s u v r
  | 0, _, _, _, _, _, _, _, _, _, _, _, _, h => nomatch h
  | n + 1, a, b, x, y, u, v, r, hn, ra, rb, rx, ry, h => by
    intro A hu
    by_cases hxy : x = y ∧ ∃ q, x = .ref q
    · obtain ⟨rfl, q, rfl⟩ := hxy
      cases rx
      cases ry
      have hr := eqn_same I.hok I (n + 1) a b _ r ra rb h
      subst hr
      exact PySem.SeqAt.EqAt.same _
    rcases eqn_flat h with ⟨xs, ys, rfl, rfl⟩ | ⟨xs, ys, rfl, rfl⟩ | ⟨xs, ys, rfl, rfl⟩ | ⟨x', y', ex, ey, rfl⟩
    · have hn' : xs.all (D.nod n) = true := hn
      unfold Rep at ra rb
      obtain ⟨p, vs, rfl, h1, t1⟩ := ra
      obtain ⟨q, us, rfl, h2, t2⟩ := rb
      cases rx
      cases ry
      have hpq : p ≠ q := fun e => hxy ⟨by rw [e], _, rfl⟩
      obtain ⟨its, v1, l1, _⟩ := I.list (.of h1)
      obtain ⟨its2, v2, l2, _⟩ := I.list (.of h2)
      have e1 : its.length = xs.length := by rw [← v1.length, t1.length]
      have e2 : its2.length = ys.length := by rw [← v2.length, t2.length]
      have h' : (if xs.length = ys.length then eqAll (D.eqn n) xs ys else some false) = some r := h
      refine .of_refs hpq ?_
      by_cases hl : xs.length = ys.length
      · rw [if_pos hl] at h'
        obtain ⟨e', k1, k2⟩ := items_of (P := fun u v r => PySem.SeqAt.EqAt A.in1 s u v r) (fun a b x y u v r hm ra rb rx ry he => eqn_at I n a b x y u v r (List.all_eq_true.mp hn' a hm) ra rb rx ry he A.in1 (by show A.units + 1 + n < cLine; omega)) t1 t2 v1 v2 h'
        rw [k2]
        have hsz : its.toArray.size = its2.toArray.size := by simp [e1, e2, hl]
        rw [← hsz, Nat.min_self]
        exact .lists l1.isList l2.isList hsz (by omega) k1
      · rw [if_neg hl] at h'
        cases h'
        exact .lists_lengths l1.isList l2.isList (by simp [e1, e2, hl]) (by omega)
    · have hn' : xs.all (D.nod n) = true := hn
      unfold Rep at ra rb
      obtain ⟨p, vs, rfl, h1, t1⟩ := ra
      obtain ⟨q, us, rfl, h2, t2⟩ := rb
      cases rx
      cases ry
      have hpq : p ≠ q := fun e => hxy ⟨by rw [e], _, rfl⟩
      obtain ⟨its, v1, l1, _⟩ := I.tuple (SqT.of h1)
      obtain ⟨its2, v2, l2, _⟩ := I.tuple (SqT.of h2)
      have e1 : its.length = xs.length := by rw [← v1.length, t1.length]
      have e2 : its2.length = ys.length := by rw [← v2.length, t2.length]
      have h' : (eqAll (D.eqn n) xs ys).map (fun q => q && xs.length == ys.length) = some r := h
      cases hc0 : eqAll (D.eqn n) xs ys with
      | none => rw [hc0] at h'; cases h'
      | some c0 =>
        rw [hc0] at h'
        have h' := Option.some.inj h'
        obtain ⟨e', k1, k2⟩ := items_of (P := fun u v r => PySem.SeqAt.EqAt A.in1 s u v r) (fun a b x y u v r hm ra rb rx ry he => eqn_at I n a b x y u v r (List.all_eq_true.mp hn' a hm) ra rb rx ry he A.in1 (by show A.units + 1 + n < cLine; omega)) t1 t2 v1 v2 hc0
        have sz : (its.toArray.size == its2.toArray.size) = (xs.length == ys.length) := by simp [e1, e2]
        rw [← h', k2, ← sz]
        exact .of_refs hpq (.tuples l1 l2 (by omega) k1)
    · exact Bool.noConfusion (show false = true from hn)
    · obtain ⟨e1, f1⟩ := D.fv_rep ra ex
      obtain ⟨e2, f2⟩ := D.fv_rep rb ey
      subst e1 e2
      exact L2.eqAt_V rx ry f1 f2
/-- == as an operator -/
def D.eqO (a b : D) : Option Bool := match a, b with
  | .lst _, .lst _ => D.eqn 40 a b
  | .tup _, .tup _ => D.eqn 40 a b
  | .dk _, .dk _ => D.eqn 40 a b
  | _, _ => match a.fv, b.fv with
    | some u, some v => if scal u v = true then some (decide (u = v)) else none
    | _, _ => none
def D.eq (a b : D) : R D := ofO ((D.eqO a b).map .bl)
def neF : Option V → Option V → R D
  | some u, some v => if scal u v = true then pure (.bl (!decide (u = v))) else R.und
  | _, _ => R.und
def D.ne (a b : D) : R D := match a, b with
  | .lst _, .lst _ => if D.nod 40 a = true then ofO ((D.eqn 40 a b).map fun r => .bl (!r)) else R.und
  | .tup _, .tup _ => if D.nod 40 a = true then ofO ((D.eqn 40 a b).map fun r => .bl (!r)) else R.und
  | .dk _, .dk _ => ofO ((D.eqn 40 a b).map fun r => .bl (!r))
  | _, _ => neF a.fv b.fv
def eqOD (a b : D) : Option Bool := match a.fv, b.fv with | some u, some v => if scal u v = true then some (decide (u = v)) else none | _, _ => none
theorem eqO_dfl {a b : D} {r : Bool} (h : eqOD a b = some r) : (∃ x y, a = .lst x ∧ b = .lst y ∧ D.eqn 40 a b = some r) ∨ (∃ x y, a = .tup x ∧ b = .tup y ∧ D.eqn 40 a b = some r) ∨ (∃ x y, a = .dk x ∧ b = .dk y ∧ D.eqn 40 a b = some r) ∨
    ∃ x y, a.fv = some x ∧ b.fv = some y ∧ scal x y = true ∧ r = decide (x = y) := by
  unfold eqOD at h
  cases ea : a.fv with
  | none => rw [ea] at h; cases h
  | some u =>
    cases eb : b.fv with
    | none => rw [ea, eb] at h; cases h
    | some v =>
      rw [ea, eb] at h
      have h : (if scal u v = true then some (decide (u = v)) else none) = some r := h
      by_cases hs : scal u v = true
      · rw [if_pos hs] at h
        exact .inr (.inr (.inr ⟨u, v, rfl, rfl, hs, (Option.some.inj h).symm⟩))
      · rw [if_neg hs] at h; cases h
theorem eqO_cases {a b : D} {r : Bool} (h : D.eqO a b = some r) : (∃ x y, a = .lst x ∧ b = .lst y ∧ D.eqn 40 a b = some r) ∨ (∃ x y, a = .tup x ∧ b = .tup y ∧ D.eqn 40 a b = some r) ∨ (∃ x y, a = .dk x ∧ b = .dk y ∧ D.eqn 40 a b = some r) ∨
    ∃ x y, a.fv = some x ∧ b.fv = some y ∧ scal x y = true ∧ r = decide (x = y) := by
  cases a with
  | lst x => cases b with
    | lst y => exact .inl ⟨_, _, rfl, rfl, h⟩
    | _ => exact eqO_dfl h
  | tup x => cases b with
    | tup y => exact .inr (.inl ⟨_, _, rfl, rfl, h⟩)
    | _ => exact eqO_dfl h
  | dk x => cases b with
    | dk y => exact .inr (.inr (.inl ⟨_, _, rfl, rfl, h⟩))
    | _ => exact eqO_dfl h
  | _ => exact eqO_dfl h
theorem pairs_of {n : Nat} {xs ys : List (Key × D)} {vs us : List (Key × V)} {ws ws2 : List (Key × Value)} {c : Bool} (I : Inv X pins σ H s) (t1 : RepK pl X.K H xs vs) (t2 : RepK pl X.K H ys us) (kw : KV vs ws) (kw2 : KV us ws2)
    (nd : (ws.map (·.1)).Nodup) (hc : eqPairs (D.eqn n) ys xs = some c) :
    ∃ e : Key → Bool, (∀ k v y, (k, v) ∈ ws → valueAt ws2 k = some y → PySem.W.EqTree X.prog X.w s n v y (e k)) ∧ c = ws.all fun p => (valueAt ws2 p.1).isSome && e p.1 := by
  obtain ⟨i1, i2⟩ := eqPairs_spec hc
  have fst : ∀ k w', (k, w') ∈ ws → ∃ d v', (k, d) ∈ xs ∧ findD xs k = some d ∧ Rep pl X.K H d v' ∧ RelV v' w' := fun k w' hm => by
    obtain ⟨i, hi, he⟩ := List.getElem_of_mem hm
    obtain ⟨v', g1, g2⟩ := kv_at kw (i := i) (k := k) (v := w') (by rw [List.getElem?_eq_getElem hi, he])
    have hmv : (k, v') ∈ vs := List.mem_of_getElem? g1
    have hv : valV vs k = some v' := valV_of_mem (by rw [kw.keys]; exact nd) hmv
    rcases t1.val k with ⟨_, z⟩ | ⟨d', v2, z1, z2, z3⟩
    · rw [hv] at z; cases z
    · rw [hv] at z2; cases z2
      refine ⟨d', v', ?_, z1, z3, g2⟩
      unfold findD at z1
      cases q : xs.find? (fun p => decide (p.1 = k)) with
      | none => rw [q] at z1; cases z1
      | some pr =>
        rw [q] at z1
        cases z1
        have q' := List.find?_some q
        have hk : pr.1 = k := of_decide_eq_true q'
        have hm2 := List.mem_of_find?_eq_some q
        rw [← hk]
        exact hm2
  refine ⟨fun k => match findD xs k, findD ys k with | some a, some b => D.eqn n a b == some true | _, _ => false, fun k w1 w2 hm hv => ?_, ?_⟩
  · obtain ⟨d, v', hmd, hf, hr1, hr2⟩ := fst k w1 hm
    have rel := kw2.val k
    rw [hv] at rel
    rcases t2.val k with ⟨_, z⟩ | ⟨d', v2, z1, z2, z3⟩
    · rw [z] at rel; exact rel.elim
    · rw [z2] at rel
      have rel : RelV v2 w2 := rel
      obtain ⟨c, hc⟩ := i1 k d d' hmd z1
      show PySem.W.EqTree _ _ _ _ _ _ (match findD xs k, findD ys k with | some a, some b => D.eqn n a b == some true | _, _ => false)
      rw [hf, z1]
      show PySem.W.EqTree _ _ _ _ _ _ (D.eqn n d d' == some true)
      rw [hc]
      have hcc : (some c == some true) = c := by cases c <;> rfl
      rw [hcc]
      exact eqn_tree I n _ _ _ _ _ _ _ hr1 z3 hr2 rel hc
  · rw [Bool.eq_iff_iff, i2, List.all_eq_true]
    constructor
    · intro q pr hm
      obtain ⟨k, w1⟩ := pr
      obtain ⟨d, v', hmd, hf, hr1, hr2⟩ := fst k w1 hm
      obtain ⟨d', g1, g2⟩ := q k d hmd
      rcases t2.val k with ⟨z, _⟩ | ⟨d2, v2, z1, z2, z3⟩
      · rw [g1] at z; cases z
      · have rel := kw2.val k
        rw [z2] at rel
        cases hva : valueAt ws2 k with
        | none => rw [hva] at rel; exact rel.elim
        | some w2 => simp [hva, hf, g1, g2]
    · intro q k d hmd
      obtain ⟨v', hmv, hr1⟩ := t1.memD hmd
      have hk : k ∈ ws.map (·.1) := by rw [← kw.keys]; exact List.mem_map_of_mem (f := (·.1)) hmv
      obtain ⟨pr, hp, hpk⟩ := List.mem_map.mp hk
      obtain ⟨k0, w1⟩ := pr
      have hpk : k0 = k := hpk
      subst hpk
      obtain ⟨d0, v0, hmd0, hf0, hr0, _⟩ := fst k0 w1 hp
      have ndx : (xs.map (·.1)).Nodup := by rw [← t1.keys, kw.keys]; exact nd
      have hdd : d0 = d := by
        have f : ∀ {l : List (Key × D)} {d d0 : D}, (l.map (·.1)).Nodup → (k0, d) ∈ l → (k0, d0) ∈ l → d0 = d := by
          intro l d d0 ndl m1 m2
          induction l with
          | nil => cases m1
          | cons a t ih =>
            have nd' := List.nodup_cons.mp ndl
            rcases List.mem_cons.mp m1 with z1 | z1 <;> rcases List.mem_cons.mp m2 with z2 | z2
            · rw [← z1] at z2; cases z2; rfl
            · exact (nd'.1 (by rw [← z1]; exact List.mem_map_of_mem (f := (·.1)) z2)).elim
            · exact (nd'.1 (by rw [← z2]; exact List.mem_map_of_mem (f := (·.1)) z1)).elim
            · exact ih nd'.2 z1 z2
        exact f ndx hmd hmd0
      subst hdd
      have := q (k0, w1) hp
      rw [Bool.and_eq_true] at this
      obtain ⟨_, g2⟩ := this
      simp only [hf0] at g2
      cases hfy : findD ys k0 with
      | none => rw [hfy] at g2; cases g2
      | some d' => rw [hfy] at g2; exact ⟨d', rfl, by simpa using g2⟩
theorem map_ok {o : Option Bool} {f : Bool → D} {ps : Ps} (n : ofO (o.map f) ps ≠ .und) : ∃ r, o = some r ∧ ofO (o.map f) ps = .ok (f r) ps := by
  cases o with
  | none => exact (n rfl).elim
  | some r => exact ⟨r, rfl, rfl⟩
theorem od_eq (hu : X.A.units + 64 < cLine) : OpD .cl X (compareOp .Eq) D.eq := by
  intro pl O pins s σ H ps d1 d2 x y u v I hO hT p r1 r2 rx ry n
  obtain ⟨r, hr, ho⟩ := map_ok n
  have fin : ∀ {s' : Shared}, s' = s → EP X pins σ (QV .cl pl X.K O H (D.eq d1 d2 ps)) (.bool r) s' := fun e => ⟨.bl r, H, by rw [e]; exact I, rfl, qv_bl p ho⟩
  have f1 := r1.full
  have f2 := r2.full
  rcases eqO_cases hr with ⟨xs, ys, rfl, rfl, h⟩ | ⟨xs, ys, rfl, rfl, h⟩ | ⟨xs, ys, rfl, rfl, h⟩ | ⟨x', y', ex, ey, hs, er⟩
  · unfold Rep at f1 f2
    obtain ⟨p', vs, rfl, h1, t1⟩ := f1
    obtain ⟨q, us, rfl, h2, t2⟩ := f2
    cases rx
    cases ry
    obtain ⟨its, v1, l1, _⟩ := I.list (.of h1)
    obtain ⟨its2, v2, l2, _⟩ := I.list (.of h2)
    have e1 : its.length = xs.length := by rw [← v1.length, t1.length]
    have e2 : its2.length = ys.length := by rw [← v2.length, t2.length]
    have h' : (if xs.length = ys.length then eqAll (D.eqn 39) xs ys else some false) = some r := h
    by_cases hl : xs.length = ys.length
    · rw [if_pos hl] at h'
      obtain ⟨e', k1, k2⟩ := items_of (P := fun u v r => PySem.W.EqTree X.prog X.w s 39 u v r) (fun a b x y u v r _ ra rb rx ry he => eqn_tree I 39 a b x y u v r ra rb rx ry he) t1 t2 v1 v2 h'
      have hsz : its.toArray.size = its2.toArray.size := by simp [e1, e2, hl]
      rw [← hsz, Nat.min_self] at k2
      refine PySem.W.eq_listsT l1.isList l2.isList hsz k1 (by omega) ?_
      rw [← k2]
      exact fin rfl
    · rw [if_neg hl] at h'
      cases h'
      have := PySem.SeqAt.RcAt.lists_lengths (A := X.A) (s := s) l1.isList l2.isList (by simp [e1, e2, hl]) (by omega)
      exact this X.prog X.w X.xe _ (fin rfl)
  · unfold Rep at f1 f2
    obtain ⟨p', vs, rfl, h1, t1⟩ := f1
    obtain ⟨q, us, rfl, h2, t2⟩ := f2
    cases rx
    cases ry
    obtain ⟨its, v1, l1, _⟩ := I.tuple (SqT.of h1)
    obtain ⟨its2, v2, l2, _⟩ := I.tuple (SqT.of h2)
    have e1 : its.length = xs.length := by rw [← v1.length, t1.length]
    have e2 : its2.length = ys.length := by rw [← v2.length, t2.length]
    have h' : (eqAll (D.eqn 39) xs ys).map (fun q => q && xs.length == ys.length) = some r := h
    cases hc0 : eqAll (D.eqn 39) xs ys with
    | none => rw [hc0] at h'; cases h'
    | some c0 =>
      rw [hc0] at h'
      have h' : (c0 && xs.length == ys.length) = r := Option.some.inj h'
      obtain ⟨e', k1, k2⟩ := items_of (P := fun u v r => PySem.W.EqTree X.prog X.w s 39 u v r) (fun a b x y u v r _ ra rb rx ry he => eqn_tree I 39 a b x y u v r ra rb rx ry he) t1 t2 v1 v2 hc0
      have sz : (its.toArray.size == its2.toArray.size) = (xs.length == ys.length) := by simp [e1, e2]
      refine PySem.W.eq_tuplesT l1 l2 k1 (by omega) ?_
      rw [← k2, sz, h']
      exact fin rfl
  · unfold Rep at f1 f2
    obtain ⟨p', vs, rfl, h1, t1⟩ := f1
    obtain ⟨q, us, rfl, h2, t2⟩ := f2
    cases rx
    cases ry
    obtain ⟨_, n1, ws, kw, hd⟩ := dk_rd I.hok h1
    obtain ⟨_, n2, ws2, kw2, hd2⟩ := dk_rd I.hok h2
    have nd : (ws.map (·.1)).Nodup := by
      obtain ⟨_, _, _, _, _, _, _, _, nd⟩ := hd
      exact nd
    have h' : (eqPairs (D.eqn 39) ys xs).map (fun q => xs.length == ys.length && q) = some r := h
    cases hc0 : eqPairs (D.eqn 39) ys xs with
    | none => rw [hc0] at h'; cases h'
    | some c0 =>
      rw [hc0] at h'
      have h' : (xs.length == ys.length && c0) = r := Option.some.inj h'
      obtain ⟨e', k1, k2⟩ := pairs_of I t1 t2 kw kw2 nd hc0
      have sz : (ws.length == ws2.length) = (xs.length == ys.length) := by rw [← kw.length, ← kw2.length, t1.length, t2.length]
      refine PySem.W.eq_dictsT n1 n2 hd hd2 k1 (by omega) ?_
      rw [← k2, sz, h']
      exact fin rfl
  · obtain ⟨e1, _⟩ := D.fv_rep f1 ex
    obtain ⟨e2, _⟩ := D.fv_rep f2 ey
    subst e1 e2
    rw [er] at ho
    exact op_eq pins s σ H _ _ u v _ I rx ry ⟨hs, qv_bl p ho⟩
end
end DL
set_option Elab.async false
set_option linter.all false
set_option maxRecDepth 100000
set_option maxHeartbeats 2000000
namespace DL
open PySem L2
theorem keq_neIn {prog : Program} {w : World} {K : Type} [DecidableEq K] {knd : PySem.KeyKind prog w K} {A : Around} {E : Value → Shared → Prop} {s : Shared} {a b : Addr} {ka kb : List (K × Value)} {r : Bool} {Q : Value → Shared → Prop} (ha : (a == sysModules) = false) (hb : (b == sysModules) = false)
    (da : s.heap.DictOf knd a ka) (db : s.heap.DictOf knd b kb) (hu : A.units < cLine) (hits : ka.length = kb.length → PySem.W.KeqHitsIn prog w A.in1 s kb ka r) (h : Q (.bool (!(ka.length == kb.length && r))) s) :
    wpAny (model prog w) A (compareOp .NotEq (.ref a) (.ref b)) Q E s := by
  refine wpAny_richCompare_same_room (op := .NotEq) da.typeIs db.typeIs PySem.F.slot_dict_ne (wpAny_call_entry PySem.F.slot_dict_ne da.typeIs PySem.F.entry_dict_ne ?_ (PySem.F.args_dict_ne_2 _ _)) hu
  show wpAny _ _ (Builtin.Dict.dictSlotArgs "__ne__" ⟨[.ref a, .ref b], []⟩ >>= _) _ _ s
  refine wpAny_bind ?_
  unfold Builtin.Dict.dictSlotArgs
  refine wpAny_bind (wpAny_notOrdered_dict da.typeIs ?_)
  show wpAny _ _ (pure (Value.ref a, Value.ref b)) _ _ s
  refine wpAny_pure ?_
  refine wpAny_bind (wpAny_isInstance (T := "dict") db.typeIs PySem.F.sub_dict_dict ?_)
  simp only [Bool.not_true, Bool.false_eq_true, if_false]
  refine wpAny_bind (wpAny_pure (wpAny_bind (wpAny_pure ?_)))
  refine wpAny_bind (PySem.W.keq_samePairsIn ha hb da db hits ?_)
  refine wpAny_pure ⟨_, rfl, ?_, ?_⟩
  · exact fun x => nomatch x
  · simpa using h
section
variable {X : Cx}
/-- what a != b tells -/
def NeG (a b : D) (ps : Ps) : Prop := ∃ r, D.ne a b ps = .ok (.bl (!r)) ps ∧ ((∃ x y, a = .lst x ∧ b = .lst y ∧ D.nod 40 a = true ∧ D.eqn 40 a b = some r) ∨ (∃ x y, a = .tup x ∧ b = .tup y ∧ D.nod 40 a = true ∧ D.eqn 40 a b = some r) ∨ (∃ x y, a = .dk x ∧ b = .dk y ∧ D.eqn 40 a b = some r) ∨
    ∃ x y, a.fv = some x ∧ b.fv = some y ∧ scal x y = true ∧ r = decide (x = y))
theorem ne_flat {a b : D} {ps : Ps} (n : D.ne a b ps ≠ .und) (e : D.ne a b = neF a.fv b.fv) : NeG a b ps := by
  unfold NeG
  rw [e] at n ⊢
  generalize a.fv = x at *
  generalize b.fv = y at *
  cases x with
  | none => exact (n rfl).elim
  | some u => cases y with
    | none => exact (n rfl).elim
    | some v =>
      obtain ⟨h1, h2⟩ := if_und n
      exact ⟨_, h2, .inr (.inr (.inr ⟨u, v, rfl, rfl, h1, rfl⟩))⟩
theorem ne_cases {a b : D} {ps : Ps} (n : D.ne a b ps ≠ .und) : NeG a b ps := by
  have big : ∀ {c : Bool} {o : Option Bool}, (if c = true then ofO (o.map fun r => D.bl (!r)) else R.und) ps ≠ .und → c = true ∧ ∃ r, o = some r ∧ (if c = true then ofO (o.map fun r => D.bl (!r)) else R.und) ps = .ok (.bl (!r)) ps := by
    intro c o q
    obtain ⟨h1, h2⟩ := if_und q
    rw [h2] at q
    obtain ⟨r, h3, h4⟩ := map_ok q
    exact ⟨h1, r, h3, h2.trans h4⟩
  cases a with
  | lst x => cases b with
    | lst y => obtain ⟨h1, r, h2, h3⟩ := big n; exact ⟨r, h3, .inl ⟨_, _, rfl, rfl, h1, h2⟩⟩
    | _ => exact ne_flat n rfl
  | tup x => cases b with
    | tup y => obtain ⟨h1, r, h2, h3⟩ := big n; exact ⟨r, h3, .inr (.inl ⟨_, _, rfl, rfl, h1, h2⟩)⟩
    | _ => exact ne_flat n rfl
  | dk x => cases b with
    | dk y => obtain ⟨r, h2, h3⟩ := map_ok n; exact ⟨r, h3, .inr (.inr (.inl ⟨_, _, rfl, rfl, h2⟩))⟩
    | _ => exact ne_flat n rfl
  | _ => exact ne_flat n rfl
theorem od_ne (hu : X.A.units + 64 < cLine) : OpD .cl X (compareOp .NotEq) D.ne := by
  intro pl O pins s σ H ps d1 d2 x y u v I hO hT p r1 r2 rx ry n
  obtain ⟨r, ho, hr⟩ := ne_cases n
  have fin : ∀ {s' : Shared}, s' = s → EP X pins σ (QV .cl pl X.K O H (D.ne d1 d2 ps)) (.bool (!r)) s' := fun e => ⟨.bl (!r), H, by rw [e]; exact I, rfl, qv_bl p ho⟩
  have f1 := r1.full
  have f2 := r2.full
  rcases hr with ⟨xs, ys, rfl, rfl, hn, h⟩ | ⟨xs, ys, rfl, rfl, hn, h⟩ | ⟨xs, ys, rfl, rfl, h⟩ | ⟨x', y', ex, ey, hs, er⟩
  · unfold Rep at f1 f2
    obtain ⟨p', vs, rfl, h1, t1⟩ := f1
    obtain ⟨q, us, rfl, h2, t2⟩ := f2
    cases rx
    cases ry
    have hn' : xs.all (D.nod 39) = true := hn
    obtain ⟨its, v1, l1, _⟩ := I.list (.of h1)
    obtain ⟨its2, v2, l2, _⟩ := I.list (.of h2)
    have e1 : its.length = xs.length := by rw [← v1.length, t1.length]
    have e2 : its2.length = ys.length := by rw [← v2.length, t2.length]
    have h' : (if xs.length = ys.length then eqAll (D.eqn 39) xs ys else some false) = some r := h
    by_cases hl : xs.length = ys.length
    · rw [if_pos hl] at h'
      obtain ⟨e', k1, k2⟩ := items_of (P := fun u v r => PySem.SeqAt.EqAt X.A.in1 s u v r) (fun a b x y u v r hm ra rb rx ry he => eqn_at I 39 a b x y u v r (List.all_eq_true.mp hn' a hm) ra rb rx ry he X.A.in1 (by show X.A.units + 1 + 39 < cLine; omega)) t1 t2 v1 v2 h'
      have hsz : its.toArray.size = its2.toArray.size := by simp [e1, e2, hl]
      rw [← hsz, Nat.min_self] at k2
      refine PySem.SeqAt.RcNeAt.lists l1.isList l2.isList hsz (by omega) k1 X.prog X.w X.xe _ ?_
      rw [← k2]
      exact fin rfl
    · rw [if_neg hl] at h'
      cases h'
      exact PySem.SeqAt.RcNeAt.lists_lengths (A := X.A) (s := s) l1.isList l2.isList (by simp [e1, e2, hl]) (by omega) X.prog X.w X.xe _ (fin rfl)
  · unfold Rep at f1 f2
    obtain ⟨p', vs, rfl, h1, t1⟩ := f1
    obtain ⟨q, us, rfl, h2, t2⟩ := f2
    cases rx
    cases ry
    have hn' : xs.all (D.nod 39) = true := hn
    obtain ⟨its, v1, l1, _⟩ := I.tuple (SqT.of h1)
    obtain ⟨its2, v2, l2, _⟩ := I.tuple (SqT.of h2)
    have e1 : its.length = xs.length := by rw [← v1.length, t1.length]
    have e2 : its2.length = ys.length := by rw [← v2.length, t2.length]
    have h' : (eqAll (D.eqn 39) xs ys).map (fun q => q && xs.length == ys.length) = some r := h
    cases hc0 : eqAll (D.eqn 39) xs ys with
    | none => rw [hc0] at h'; cases h'
    | some c0 =>
      rw [hc0] at h'
      have h' : (c0 && xs.length == ys.length) = r := Option.some.inj h'
      obtain ⟨e', k1, k2⟩ := items_of (P := fun u v r => PySem.SeqAt.EqAt X.A.in1 s u v r) (fun a b x y u v r hm ra rb rx ry he => eqn_at I 39 a b x y u v r (List.all_eq_true.mp hn' a hm) ra rb rx ry he X.A.in1 (by show X.A.units + 1 + 39 < cLine; omega)) t1 t2 v1 v2 hc0
      have sz : (its.toArray.size == its2.toArray.size) = (xs.length == ys.length) := by simp [e1, e2]
      refine PySem.SeqAt.RcNeAt.tuples l1 l2 (by omega) k1 X.prog X.w X.xe _ ?_
      rw [← k2, sz, h']
      exact fin rfl
  · unfold Rep at f1 f2
    obtain ⟨p', vs, rfl, h1, t1⟩ := f1
    obtain ⟨q, us, rfl, h2, t2⟩ := f2
    cases rx
    cases ry
    obtain ⟨_, n1, ws, kw, hd⟩ := dk_rd I.hok h1
    obtain ⟨_, n2, ws2, kw2, hd2⟩ := dk_rd I.hok h2
    have nd : (ws.map (·.1)).Nodup := by
      obtain ⟨_, _, _, _, _, _, _, _, nd⟩ := hd
      exact nd
    have h' : (eqPairs (D.eqn 39) ys xs).map (fun q => xs.length == ys.length && q) = some r := h
    cases hc0 : eqPairs (D.eqn 39) ys xs with
    | none => rw [hc0] at h'; cases h'
    | some c0 =>
      rw [hc0] at h'
      have h' : (xs.length == ys.length && c0) = r := Option.some.inj h'
      obtain ⟨e', k1, k2⟩ := pairs_of I t1 t2 kw kw2 nd hc0
      have sz : (ws.length == ws2.length) = (xs.length == ys.length) := by rw [← kw.length, ← kw2.length, t1.length, t2.length]
      refine keq_neIn n1 n2 hd hd2 (by omega) (fun _ => PySem.W.KeqHitsIn.of _ fun k v y hm hv => (k1 k v y hm hv).at X.A.in1 (by show X.A.units + 1 + _ < cLine; omega)) ?_
      rw [← k2, sz, h']
      exact fin rfl
  · obtain ⟨e1, _⟩ := D.fv_rep f1 ex
    obtain ⟨e2, _⟩ := D.fv_rep f2 ey
    subst e1 e2
    rw [er] at ho
    exact op_ne pins s σ H _ _ u v _ I rx ry ⟨hs, qv_bl p ho⟩
def strIn (i j : Str) : Bool := !(Builtin.Str.occurrences j i 0 j.length 1).isEmpty
def keyOf : D → Option Key
  | .int i => some (.inl i) | .str s => some (.inr s) | _ => none
/-- some item is equal -/
def anyEq (x : V) : List D → Option Bool
  | [] => some false
  | d :: r => match d.fv, anyEq x r with
    | some y, some b => some (eqV y x || b)
    | _, _ => none
def D.inO (a b : D) : Option Bool := match b with
  | .lst ys => (a.fv).bind fun x => anyEq x ys
  | .tup ys => (a.fv).bind fun x => anyEq x ys
  | .dk kvs => (keyOf a).map fun k => (findD kvs k).isSome
  | .str j => match a with | .str i => some (strIn i j) | _ => none
  | _ => none
theorem keyOf_rep {pl : Pl} {K : PySem.W.Frag} {H : Hp} {d : D} {v : V} {k : Key} (h : Rep pl K H d v) (e : keyOf d = some k) : v = kV k := by
  cases d <;> first | (cases e; unfold Rep at h; exact h) | cases e
def keyD : Key → D
  | .inl i => .int i
  | .inr s => .str s
theorem keyD_rep {pl : Pl} {K : PySem.W.Frag} {H : Hp} (k : Key) : Rep pl K H (keyD k) (kV k) := by
  cases k <;> (unfold Rep keyD; rfl)
/-- the tuple that a key is -/
def keyTD (k : List Key) : D := .tup (k.map keyD)
theorem keysD_reps {pl : Pl} {K : PySem.W.Frag} {H : Hp} : ∀ (k : List Key), Reps pl K H (k.map keyD) (k.map kV)
  | [] => Reps.nil
  | a :: r => Reps.cons (keyD_rep a) (keysD_reps r)
def D.in_ (neg : Bool) (a b : D) : R D := ofO ((D.inO a b).map fun r => .bl (if neg then !r else r))
theorem ind {α : Type} {o : Option α} {β : Type} {f : α → β} {b : β} (h : o.map f = some b) : ∃ a, o = some a ∧ b = f a := by
  cases o with
  | none => cases h
  | some a => cases h; exact ⟨a, rfl, rfl⟩
end
abbrev FT := Rho → R Bool
def QB (pl : Pl) (H : Hp) (r : Res Bool) : Bool → Hp → Prop := fun b H' => ∃ ps', r = .ok b ps' ∧ Exo (plS pl) H H' ∧ PoolAt pl H' ps'
/-- a test is worth f -/
structure Tx (X : Cx) (W : WX) (m : List Md) (e : Expr) (f : FT) : Prop where
  run : ∀ (g : G) (own : Nat → Addr) (pins : List (Addr × Obj)) (s : Shared) (σ : L2.St) (ρ : Rho) (H : Hp) (ps : Ps), Inv X pins σ H s → Rs X.K g m own σ ρ H ps → f ρ ps ≠ .und →
    WOk W g.pl X.K (Xs m own g) σ H (f ρ ps) → wpAny (model X.prog X.w) X.A (isTrue e X.env (eval e X.env)) (TP X pins σ (QB g.pl H (f ρ ps))) X.xe s
/-- .. whatever its whole is -/
structure Tw (X : Cx) (W : WX) (m : List Md) (e : Expr) (f : FT) : Prop where
  run : ∀ (whole : Sem Value) (g : G) (own : Nat → Addr) (pins : List (Addr × Obj)) (s : Shared) (σ : L2.St) (ρ : Rho) (H : Hp) (ps : Ps), Inv X pins σ H s → Rs X.K g m own σ ρ H ps → f ρ ps ≠ .und →
    WOk W g.pl X.K (Xs m own g) σ H (f ρ ps) → wpAny (model X.prog X.w) X.A (isTrue e X.env whole) (TP X pins σ (QB g.pl H (f ρ ps))) X.xe s
def asB : D → R Bool
  | .bl b => pure b
  | _ => R.und
theorem asB_ok {d : D} {ps : Ps} (n : asB d ps ≠ .und) : ∃ b, d = .bl b ∧ asB d ps = .ok b ps := by
  cases d with
  | bl b => exact ⟨b, rfl, rfl⟩
  | _ => exact (n rfl).elim
def tvF (f : FE) : FT := fun ρ => do let d ← f ρ; asB d
section
variable {X : Cx} {W : WX} {m : List Md} {e a b c : Expr} {f f1 f2 : FE} {t t1 t2 : FT} {pos : Pos}
theorem epT {pins : List (Addr × Obj)} {σ : L2.St} {Q Q' : Bool → Hp → Prop} {u : Bool} {s : Shared} (h : TP X pins σ Q u s) (q : ∀ v H, Q v H → Q' v H) : TP X pins σ Q' u s := by
  obtain ⟨H, I, z⟩ := h
  exact ⟨H, I, q _ H z⟩
/-- a bool's value as a test -/
theorem tx_v (h : Dx .bo X W m e f) (he : ∀ whole, isTrue e X.env whole = (do let v ← whole; standAt e.pos; holding [v] (truthy v)) := by intro _; rfl) : Tx X W m e (tvF f) := by
  refine ⟨fun g own pins s σ ρ H ps I r n w => ?_⟩
  have n1 := ne_of_bind n
  refine (pt_val (pe_c X e) he).run pins s σ H _ I (cE.mono (h.c r n1 (WOk.left w)) fun v H' ⟨d, ps', e1, x1, p1, q1⟩ => ?_)
  have e2 : tvF f ρ ps = asB d ps' := bind_ok e1
  obtain ⟨b, rfl, e3⟩ := asB_ok (by rw [← e2]; exact n)
  have q2 := q1.flat rfl
  unfold Rep at q2
  exact ⟨b, q2, ps', by rw [e2, e3], x1, p1⟩
def notF (t : FT) : FT := fun ρ => do let b ← t ρ; pure (!b)
def andF (t1 t2 : FT) : FT := fun ρ => do let b ← t1 ρ; if b = true then t2 ρ else pure false
def orF (t1 t2 : FT) : FT := fun ρ => do let b ← t1 ρ; if b = true then pure true else t2 ρ
def cT (X : Cx) (e : Expr) : TT := fun σ H Q => ∀ pins s, Inv X pins σ H s → wpAny (model X.prog X.w) X.A (isTrue e X.env (eval e X.env)) (TP X pins σ Q) X.xe s
theorem pt_c (X : Cx) (e : Expr) : PT X e (cT X e) := ⟨fun pins s σ H Q I h => h pins s I⟩
def cW (X : Cx) (e : Expr) : TT := fun σ H Q => ∀ whole pins s, Inv X pins σ H s → wpAny (model X.prog X.w) X.A (isTrue e X.env whole) (TP X pins σ Q) X.xe s
theorem pw_c (X : Cx) (e : Expr) : PW X e (cW X e) := ⟨fun wh pins s σ H Q I h => h wh pins s I⟩
theorem cT.mono {σ : L2.St} {H : Hp} {Q Q' : Bool → Hp → Prop} (h : cT X e σ H Q) (q : ∀ v H, Q v H → Q' v H) : cT X e σ H Q' := fun pins s I => thn (h pins s I) fun _ _ z => epT z q
theorem cW.mono {σ : L2.St} {H : Hp} {Q Q' : Bool → Hp → Prop} (h : cW X e σ H Q) (q : ∀ v H, Q v H → Q' v H) : cW X e σ H Q' := fun wh pins s I => thn (h wh pins s I) fun _ _ z => epT z q
theorem Tx.can (h : Tx X W m e t) {g : G} {own : Nat → Addr} {σ : L2.St} {ρ : Rho} {H : Hp} {ps : Ps} (r : Rs X.K g m own σ ρ H ps) (n : t ρ ps ≠ .und) (w : WOk W g.pl X.K (Xs m own g) σ H (t ρ ps)) :
    cT X e σ H (QB g.pl H (t ρ ps)) := fun pins s I => h.run g own pins s σ ρ H ps I r n w
theorem Tw.can (h : Tw X W m e t) {g : G} {own : Nat → Addr} {σ : L2.St} {ρ : Rho} {H : Hp} {ps : Ps} (r : Rs X.K g m own σ ρ H ps) (n : t ρ ps ≠ .und) (w : WOk W g.pl X.K (Xs m own g) σ H (t ρ ps)) :
    cW X e σ H (QB g.pl H (t ρ ps)) := fun wh pins s I => h.run wh g own pins s σ ρ H ps I r n w
theorem Tw.tx (h : Tw X W m e t) : Tx X W m e t := ⟨fun g own pins s σ ρ H ps I r n w => h.run _ g own pins s σ ρ H ps I r n w⟩
theorem tx_not (h : Tx X W m a t) : Tx X W m (.UnaryOp .Not a pos) (notF t) := by
  refine ⟨fun g own pins s σ ρ H ps I r n w => ?_⟩
  have n1 := ne_of_bind n
  refine (pt_not (pos := pos) (pt_c X a)).run pins s σ H _ I (cT.mono (h.can r n1 (WOk.left w)) fun v H' ⟨ps', e1, x1, p1⟩ => ⟨ps', bind_ok e1, x1, p1⟩)
theorem tw_and1 (h : Tx X W m a t) : Tw X W m (.BoolOp .And [a] pos) t :=
  ⟨fun wh g own pins s σ ρ H ps I r n w => (pw_and1 (pt_c X a)).run wh pins s σ H _ I (h.can r n w)⟩
theorem tw_or1 (h : Tx X W m a t) : Tw X W m (.BoolOp .Or [a] pos) t :=
  ⟨fun wh g own pins s σ ρ H ps I r n w => (pw_or1 (pt_c X a)).run wh pins s σ H _ I (h.can r n w)⟩
theorem QB.back {pl : Pl} {H H1 : Hp} {r r' : Res Bool} (e : Exo (plS pl) H H1) (hr : r = r') : ∀ v H', QB pl H1 r v H' → QB pl H r' v H' := by
  subst hr
  exact fun v H' ⟨ps', h1, h2, h3⟩ => ⟨ps', h1, e.trans h2, h3⟩
theorem tw_and {rest : List Expr} (h1 : Tx X W m a t1) (h2 : Tw X W m (.BoolOp .And (b :: rest) pos) t2) : Tw X W m (.BoolOp .And (a :: b :: rest) pos) (andF t1 t2) := by
  refine ⟨fun wh g own pins s σ ρ H ps I r n w => ?_⟩
  have n1 := ne_of_bind n
  refine (pw_and (pt_c X a) (pw_c X _)).run wh pins s σ H _ I (cT.mono (h1.can r n1 (WOk.left w)) fun v H' ⟨ps', e1, x1, p1⟩ => ?_)
  have e2 : andF t1 t2 ρ ps = (if v = true then t2 ρ else pure false) ps' := bind_ok e1
  cases v with
  | true =>
    have w1 := WOk.later w x1
    rw [e2] at w1
    exact cW.mono (h2.can (r.mono x1 p1) (by rw [e2] at n; exact n) w1) (QB.back x1 e2.symm)
  | false => exact ⟨ps', e2, x1, p1⟩
theorem tw_or {rest : List Expr} (h1 : Tx X W m a t1) (h2 : Tw X W m (.BoolOp .Or (b :: rest) pos) t2) : Tw X W m (.BoolOp .Or (a :: b :: rest) pos) (orF t1 t2) := by
  refine ⟨fun wh g own pins s σ ρ H ps I r n w => ?_⟩
  have n1 := ne_of_bind n
  refine (pw_or (pt_c X a) (pw_c X _)).run wh pins s σ H _ I (cT.mono (h1.can r n1 (WOk.left w)) fun v H' ⟨ps', e1, x1, p1⟩ => ?_)
  have e2 : orF t1 t2 ρ ps = (if v = true then pure true else t2 ρ) ps' := bind_ok e1
  cases v with
  | true => exact ⟨ps', e2, x1, p1⟩
  | false =>
    have w1 := WOk.later w x1
    rw [e2] at w1
    exact cW.mono (h2.can (r.mono x1 p1) (by rw [e2] at n; exact n) w1) (QB.back x1 e2.symm)
def ifeF (t : FT) (f1 f2 : FE) : FE := fun ρ => do let b ← t ρ; if b = true then f1 ρ else f2 ρ
theorem dx_ife {k : Kd} (h : Tx X W m c t) (h1 : Dx k X W m a f1) (h2 : Dx k X W m b f2) : Dx k X W m (.IfExp c a b pos) (ifeF t f1 f2) := by
  refine ⟨fun g own pins s σ ρ H ps I r n w => ?_⟩
  have n1 := ne_of_bind n
  refine (pe_ifExp (pos := pos) (pt_c X c) (pe_c X a) (pe_c X b)).run pins s σ H _ I (cT.mono (h.can r n1 (WOk.left w)) fun v H' ⟨ps', e1, x1, p1⟩ => ?_)
  have e2 : ifeF t f1 f2 ρ ps = (if v = true then f1 ρ else f2 ρ) ps' := bind_ok e1
  have w1 := WOk.later w x1
  rw [e2] at w1 n
  cases v with
  | true => exact cE.mono (h1.c (r.mono x1 p1) n w1) (QV.back x1 p1 e2.symm)
  | false => exact cE.mono (h2.c (r.mono x1 p1) n w1) (QV.back x1 p1 e2.symm)
end
end DL
set_option Elab.async false
set_option linter.all false
set_option maxRecDepth 100000
set_option maxHeartbeats 2000000
namespace DL
open PySem L2
def ArgsR (pl : Pl) (K : PySem.W.Frag) (O : Addr → Prop) (H : Hp) : List Md → List D → List V → Prop
  | [], [], vs => vs = []
  | .sh :: ms, d :: ds, vs => ∃ v r, vs = v :: r ∧ Rep pl K (hid O H) d v ∧ ArgsR pl K O H ms ds r
  | .sb :: ms, d :: ds, vs => ∃ v r, vs = v :: r ∧ RepB pl K O H d v ∧ ArgsR pl K O H ms ds r
  | _, _, _ => False
theorem ArgsR.mono {pl : Pl} {K : PySem.W.Frag} {O : Addr → Prop} {H H' : Hp} (hO : ∀ a, plS pl a → O a) (e : Exo (plS pl) H H') : ∀ {ms : List Md} {ds : List D} {vs : List V}, ArgsR pl K O H ms ds vs → ArgsR pl K O H' ms ds vs
  | [], [], _, h => h
  | .sh :: ms, d :: ds, _, h => by
    obtain ⟨v, r, rfl, h2, h3⟩ := h
    exact ⟨v, r, rfl, h2.mono (e.hid hO), ArgsR.mono hO e h3⟩
  | .sb :: ms, d :: ds, _, h => by
    obtain ⟨v, r, rfl, h2, h3⟩ := h
    exact ⟨v, r, rfl, h2.mono hO e, ArgsR.mono hO e h3⟩
  | [], _ :: _, _, h => h.elim
  | _ :: _, [], _, h => by rename_i m _ _; cases m <;> exact h.elim
  | .no :: _, _ :: _, _, h => h.elim
  | .ow :: _, _ :: _, _, h => h.elim
  | .io :: _, _ :: _, _, h => h.elim
theorem ArgsR.len {pl : Pl} {K : PySem.W.Frag} {O : Addr → Prop} {H : Hp} : ∀ {ms : List Md} {ds : List D} {vs : List V}, ArgsR pl K O H ms ds vs → vs.length = ms.length ∧ ds.length = ms.length
  | [], [], _, h => by rw [show _ = ([] : List V) from h]; exact ⟨rfl, rfl⟩
  | .sh :: ms, d :: ds, _, h => by
    obtain ⟨v, r, rfl, h2, h3⟩ := h
    obtain ⟨q1, q2⟩ := ArgsR.len h3
    exact ⟨by rw [List.length_cons, List.length_cons, q1], by rw [List.length_cons, List.length_cons, q2]⟩
  | .sb :: ms, d :: ds, _, h => by
    obtain ⟨v, r, rfl, h2, h3⟩ := h
    obtain ⟨q1, q2⟩ := ArgsR.len h3
    exact ⟨by rw [List.length_cons, List.length_cons, q1], by rw [List.length_cons, List.length_cons, q2]⟩
  | [], _ :: _, _, h => h.elim
  | _ :: _, [], _, h => by rename_i m _ _; cases m <;> exact h.elim
  | .no :: _, _ :: _, _, h => h.elim
  | .ow :: _, _ :: _, _, h => h.elim
  | .io :: _, _ :: _, _, h => h.elim
/-- what arguments are -/
def QA (ms : List Md) (pl : Pl) (K : PySem.W.Frag) (O : Addr → Prop) (H : Hp) (r : Res (List D)) : List V → Hp → Prop := fun vs H' =>
  ∃ ds ps', r = .ok ds ps' ∧ Exo (plS pl) H H' ∧ PoolAt pl H' ps' ∧ ArgsR pl K O H' ms ds vs
abbrev FA := Rho → R (List D)
structure Ax (X : Cx) (W : WX) (m : List Md) (ms : List Md) (es : List Expr) (f : FA) : Prop where
  run : ∀ (g : G) (own : Nat → Addr) (pos : Pos) (pins : List (Addr × Obj)) (s : Shared) (σ : L2.St) (ρ : Rho) (H : Hp) (ps : Ps), Inv X pins σ H s → Rs X.K g m own σ ρ H ps → f ρ ps ≠ .und →
    WOk W g.pl X.K (Xs m own g) σ H (f ρ ps) → wpAny (model X.prog X.w) X.A (spliced (backTo pos (starEach es X.env))) (AP X pins σ (QA ms g.pl X.K (Xs m own g) H (f ρ ps))) X.xe s
def cA (X : Cx) (es : List Expr) : TA := fun σ H Q => ∀ pos pins s, Inv X pins σ H s → wpAny (model X.prog X.w) X.A (spliced (backTo pos (starEach es X.env))) (AP X pins σ Q) X.xe s
theorem pa_c (X : Cx) (es : List Expr) : PA X es (cA X es) := ⟨fun pos pins s σ H Q I h => h pos pins s I⟩
theorem apI {X : Cx} {pins : List (Addr × Obj)} {σ : L2.St} {Q Q' : List V → Hp → Prop} {u : List Value} {s : Shared} (h : AP X pins σ Q u s) (q : ∀ v H, Q v H → Q' v H) : AP X pins σ Q' u s := by
  obtain ⟨v, H, I, r, z⟩ := h
  exact ⟨v, H, I, r, q v H z⟩
theorem cA.mono {X : Cx} {es : List Expr} {σ : L2.St} {H : Hp} {Q Q' : List V → Hp → Prop} (h : cA X es σ H Q) (q : ∀ v H, Q v H → Q' v H) : cA X es σ H Q' := fun pos pins s I => thn (h pos pins s I) fun _ _ z => apI z q
section
variable {X : Cx} {W : WX} {m ms : List Md} {e a b : Expr} {es : List Expr} {f f1 f2 : FE} {fs : FA} {pos p : Pos}
theorem Ax.can (h : Ax X W m ms es fs) {g : G} {own : Nat → Addr} {σ : L2.St} {ρ : Rho} {H : Hp} {ps : Ps} (r : Rs X.K g m own σ ρ H ps) (n : fs ρ ps ≠ .und) (w : WOk W g.pl X.K (Xs m own g) σ H (fs ρ ps)) :
    cA X es σ H (QA ms g.pl X.K (Xs m own g) H (fs ρ ps)) := fun pos pins s I => h.run g own pos pins s σ ρ H ps I r n w
def nilF : FA := fun _ => pure []
def consF (f : FE) (fs : FA) : FA := fun ρ => do let d ← f ρ; let ds ← fs ρ; pure (d :: ds)
theorem ax_nil : Ax X W m [] [] nilF := ⟨fun g own pos pins s σ ρ H ps I r n w => pa_nil.run pos pins s σ H _ I ⟨[], ps, rfl, Exo.refl, r.pool, rfl⟩⟩
theorem QA.back {pl : Pl} {K : PySem.W.Frag} {O : Addr → Prop} {H H1 : Hp} {r r' : Res (List D)} (e : Exo (plS pl) H H1) (hr : r = r') : ∀ v H', QA ms pl K O H1 r v H' → QA ms pl K O H r' v H' := by
  subst hr
  exact fun v H' ⟨d, ps', h1, h2, h3, h4⟩ => ⟨d, ps', h1, e.trans h2, h3, h4⟩
theorem ax_cons {k : Kd} {md : Md} (h1 : Dx k X W m e f) (h2 : Ax X W m ms es fs) (hk : (k = .cl ∧ md = .sh) ∨ (k = .bo ∧ md = .sb))
    (hs : starEach (e :: es) X.env = (false, eval e X.env) :: starEach es X.env := by rfl) : Ax X W m (md :: ms) (e :: es) (consF f fs) := by
  refine ⟨fun g own pos pins s σ ρ H ps I r n w => ?_⟩
  have n1 := ne_of_bind n
  refine (pa_cons (pe_c X e) (pa_c X es) hs).run pos pins s σ H _ I (cE.mono (h1.c r n1 (WOk.left w)) fun v H1 ⟨d, ps1, e1, x1, p1, q1⟩ => ?_)
  have c1 : consF f fs ρ ps = (fs ρ >>= fun ds => pure (d :: ds)) ps1 := bind_ok e1
  have n2 : fs ρ ps1 ≠ .und := ne_of_bind (by rw [← c1]; exact n)
  have w1 := WOk.later w x1
  rw [c1] at w1
  refine cA.mono (h2.can (r.mono x1 p1) n2 (WOk.left w1)) fun vs H2 ⟨ds, ps2, e2, x2, p2, q2⟩ => ?_
  refine ⟨d :: ds, ps2, by rw [c1]; exact bind_ok e2, x1.trans x2, p2, ?_⟩
  rcases hk with ⟨rfl, rfl⟩ | ⟨rfl, rfl⟩
  · exact ⟨v, vs, rfl, Rep.mono (x2.hid Xs.pl) q1, q2⟩
  · exact ⟨v, vs, rfl, RepB.mono Xs.pl x2 q1, q2⟩
theorem ax_s {fs : FA} (h1 : Dx .cl X W m e f) (h2 : Ax X W m ms es fs) (hs : starEach (e :: es) X.env = (false, eval e X.env) :: starEach es X.env := by rfl) : Ax X W m (.sh :: ms) (e :: es) (consF f fs) := ax_cons h1 h2 (.inl ⟨rfl, rfl⟩) hs
theorem ax_b {fs : FA} (h1 : Dx .bo X W m e f) (h2 : Ax X W m ms es fs) (hs : starEach (e :: es) X.env = (false, eval e X.env) :: starEach es X.env := by rfl) : Ax X W m (.sb :: ms) (e :: es) (consF f fs) := ax_cons h1 h2 (.inr ⟨rfl, rfl⟩) hs
/-- what is wanted of what is raised -/
def EOk (E : XK) (pl : Pl) (K : PySem.W.Frag) (O : Addr → Prop) (H : Hp) (r : Res D) : Prop := ∀ x ps' dx H', r = .exc x ps' → Exo (plS pl) H H' → PoolAt pl H' ps' → ExR pl K O H' dx x → E (.ref x.cls) (some dx) H'
/-- the promise of a def that changes nothing that stood -/
def spD (K : PySem.W.Frag) (kr : Kd) (ms : List Md) (F : List D → R D) : Sp := fun vs H Q E => ∃ (pl : Pl) (O : Addr → Prop) (ds : List D) (ps : Ps),
  ArgsR pl K O H ms ds vs ∧ (∀ a, plS pl a → O a) ∧ (∀ a, O a → Thr (H a)) ∧ PoolAt pl H ps ∧ F ds ps ≠ .und ∧ (∀ v H', QV kr pl K O H (F ds ps) v H' → Q v H') ∧ EOk E pl K O H (F ds ps)
/-- a def keeps it -/
abbrev FnDk (X : Cx) (kr : Kd) (k : Nat) (f : Addr) (fd : FuncData) (nms : List Str) (ms : List Md) (F : List D → R D) : Prop := FnOk X.prog X.w X.K X.mg X.base (L2.CX X.prog X.w) k f fd nms (spD X.K kr ms F)
def callF (F : List D → R D) (fs : FA) : FE := fun ρ => do let ds ← fs ρ; F ds
theorem spD_of {F : List D → R D} {g : G} {own : Nat → Addr} {σ : L2.St} {ρ : Rho} {H H1 : Hp} {ps ps1 : Ps} {ds : List D} {vs : List V} (r : Rs X.K g m own σ ρ H ps) (x1 : Exo (plS g.pl) H H1) (p1 : PoolAt g.pl H1 ps1) (q : ArgsR g.pl X.K (Xs m own g) H1 ms ds vs)
    {R0 : Res D} {kr : Kd} (e : R0 = F ds ps1) (n : R0 ≠ .und) (w : WOk W g.pl X.K (Xs m own g) σ H R0) : spD X.K kr ms F vs H1 (QV kr g.pl X.K (Xs m own g) H R0) (WE W σ) := by
  subst e
  exact ⟨g.pl, Xs m own g, ds, ps1, q, Xs.pl, (r.mono x1 p1).xT, p1, n, QV.back x1 p1 rfl, fun x ps' dx H' e1 e2 => w x ps' dx H' e1 (x1.trans e2)⟩
theorem dx_call {kr : Kd} {F : List D → R D} {k : Nat} {f : Addr} {fd : FuncData} {nms : List Str} {x : Str} (hF : FnDk X kr k f fd nms ms F) (hr : Room k X.A) (hm : X.mg x = some (.ref f)) (hk : PySem.W.keepIn X.K (.ref f) = true) (hb : Binds X.K fd nms []) (tk : Takes X W) (ha : Ax X W m ms (e :: es) fs)
    (hg : Gl X x := by rfl) (hdb : (x == ("__debug__" : Str)) = false := by decide) (he : starEach (e :: es) X.env = (false, eval e X.env) :: starEach es X.env := by rfl) (hpl : (backTo pos (starEach es X.env)).any (·.1) = false := by rfl) :
    Dx kr X W m (.Call (.Name x p) (e :: es) [] pos) (callF F fs) := by
  refine ⟨fun g own pins s σ ρ H ps I r n w => ?_⟩
  refine (pe_callSD hF hr hg hm hk hb .nil (fun σ => passAt tk σ) (pa_c X _) hdb he hpl).run pins s σ H _ I (cA.mono (ha.can r (ne_of_bind n) (WOk.left w)) fun vs H1 ⟨ds, ps1, e1, x1, p1, q1⟩ => ?_)
  rw [List.append_nil]
  exact spD_of r x1 p1 q1 (bind_ok e1) n w
end
end DL
set_option Elab.async false
set_option linter.all false
set_option maxRecDepth 100000
set_option maxHeartbeats 2000000
namespace DL
open PySem PySem.Spec PyProof.Rows L2
section
variable {X : Cx} {W : WX} {m ms : List Md} {e a b o : Expr} {es : List Expr} {f f1 f2 fo : FE} {fs : FA} {pos p : Pos}
def D.fld (nm : Str) : D → R D
  | .ins _ fs => ofO (fs.lookup nm)
  | _ => R.und
/-- the class, its fields: only of one class -/
def D.insOf (C : Addr) (d : D) : Bool := match d with
  | .ins C' _ => C' == C
  | _ => false
def fldF (C : Addr) (nm : Str) (f : FE) : FE := fun ρ => do let d ← f ρ; if D.insOf C d = true then D.fld nm d else R.und
theorem ifB_und {α : Type} {c : Bool} {x : R α} {ps : Ps} (n : (if c = true then x else R.und) ps ≠ .und) : c = true ∧ (if c = true then x else R.und) ps = x ps := by
  cases c with
  | true => exact ⟨rfl, rfl⟩
  | false => exact (n rfl).elim
def D.noF (nm : Str) : D → Bool
  | .ins _ fs => (fs.lookup nm).isNone
  | _ => false
def methF (C : Addr) (nm : Str) (F : List D → R D) (fo : FE) (fs : FA) : FE := fun ρ => do let d ← fo ρ; if D.insOf C d && D.noF nm d = true then (do let ds ← fs ρ; F (d :: ds)) else R.und
/-- o[e], by an own __getitem__ -/
def subOF (C : Addr) (F : List D → R D) (fo f : FE) : FE := fun ρ => do let d ← fo ρ; let i ← f ρ; if D.insOf C d = true then F [d, i] else R.und
def noX {α : Type} (x : R α) : R α := fun ps => match x ps with
  | .ok a ps' => .ok a ps'
  | _ => .und
theorem noX_ok {α : Type} {x : R α} {ps : Ps} (n : noX x ps ≠ .und) : ∃ a ps', x ps = .ok a ps' ∧ noX x ps = .ok a ps' := by
  unfold noX at n ⊢
  cases h : x ps with
  | und => rw [h] at n; exact (n rfl).elim
  | exc e q => rw [h] at n; exact (n rfl).elim
  | ok a q => exact ⟨a, q, rfl, rfl⟩
def WF : WX := fun _ _ _ _ => False
theorem takesF {X : Cx} : Takes X WF := fun u s' ⟨_, _, _, _, _, _, _, _, _, _, _, _, _, _, _, _, z⟩ => z.elim
def D.inOwn (C : Addr) (F : List D → R D) (neg : Bool) (a b : D) : R D := if D.insOf C b = true then (do let c ← noX (do let r ← F [b, a]; asB r); pure (.bl (if neg then !c else c))) else R.und
end
end DL
set_option Elab.async false
set_option linter.all false
set_option maxRecDepth 100000
set_option maxHeartbeats 2000000
namespace DL
open PySem PySem.Spec PyProof.Rows L2
section
variable {X : Cx} {W : WX} {m ms : List Md} {e a b o : Expr} {es : List Expr} {f f1 f2 fo : FE} {fs : FA} {pos p : Pos}
def propF (C : Addr) (F : List D → R D) (fo : FE) : FE := fun ρ => do let d ← fo ρ; if D.insOf C d = true then noX (F [d]) else R.und
def mkF (C : Addr) (F : List D → R (List (Str × D))) (fs : FA) : FE := fun ρ => do let ds ← fs ρ; let fl ← F ds; pure (.ins C fl)
end
end DL
set_option Elab.async false
set_option linter.all false
set_option maxRecDepth 100000
set_option maxHeartbeats 2000000
namespace DL
open PySem PySem.Spec PyProof.Rows L2
section
variable {X : Cx} {W : WX} {m ms : List Md} {e a b o : Expr} {es : List Expr} {f f1 f2 fo : FE} {fs : FA} {pos p : Pos}
def CallD (k : Kd) (X : Cx) (fv : Value) (ms : List Md) (F : List D → R D) : Prop :=
  ∀ (pl : Pl) (O : Addr → Prop) (pins : List (Addr × Obj)) (s : Shared) (σ : L2.St) (H : Hp) (ps : Ps) (ds : List D) (vs : List V) (us : List Value), Inv X pins σ H s → (∀ a, plS pl a → O a) → (∀ a, O a → Thr (H a)) → PoolAt pl H ps → ArgsR pl X.K O H ms ds vs → Vals vs us → F ds ps ≠ .und →
    wpAny (model X.prog X.w) X.A (call fv us) (EP X pins σ (QV k pl X.K O H (F ds ps))) X.xe s
theorem call_go {k : Kd} {F : List D → R D} {fv : Value} {g : G} {own : Nat → Addr} {pins : List (Addr × Obj)} {s : Shared} {σ : L2.St} {ρ : Rho} {H H1 : Hp} {ps ps1 : Ps} {ds : List D} {vs : List V} {us : List Value} {R0 : Res D} (hc : CallD k X fv ms F) (r : Rs X.K g m own σ ρ H ps) (I : Inv X pins σ H1 s) (x1 : Exo (plS g.pl) H H1) (p1 : PoolAt g.pl H1 ps1)
    (q1 : ArgsR g.pl X.K (Xs m own g) H1 ms ds vs) (rv : Vals vs us) (e : R0 = F ds ps1) (n : R0 ≠ .und) : wpAny (model X.prog X.w) X.A (call fv us) (EP X pins σ (QV k g.pl X.K (Xs m own g) H R0)) X.xe s := by
  subst e
  exact thn (hc g.pl (Xs m own g) pins s σ H1 ps1 ds vs us I Xs.pl (r.mono x1 p1).xT p1 q1 rv n) fun _ _ z => epI z (QV.back x1 p1 rfl)
theorem dx_blt {k : Kd} {F : List D → R D} {x : Str} {id : String} (hc : CallD k X (.builtin id) ms F) (hm : X.mg x = none) (hv : bootBuiltins x = some (.builtin id)) (ha : Ax X W m ms (e :: es) fs)
    (hg : Gl X x := by rfl) (hn : x ≠ "__name__" := by decide) (hdb : (x == ("__debug__" : Str)) = false := by decide) (he : starEach (e :: es) X.env = (false, eval e X.env) :: starEach es X.env := by rfl) (hpl : (backTo pos (starEach es X.env)).any (·.1) = false := by rfl) :
    Dx k X W m (.Call (.Name x p) (e :: es) [] pos) (callF F fs) := by
  refine ⟨fun g own pins s σ ρ H ps I r n w => ?_⟩
  refine wpAny_Call_Name_kw (ld_blt I hg hm hv ?_ hn hdb)
  refine PyProof.Rows.callWith_builtin1 (thn (ha.run g own pos pins s σ ρ H ps I r (ne_of_bind n) (WOk.left w)) fun us s1 ⟨vs, H1, I1, rv, ds, ps1, e1, x1, p1, q1⟩ => ?_) he hpl
  have e2 : callF F fs ρ ps = F ds ps1 := bind_ok e1
  exact call_go hc r I1 x1 p1 q1 rv e2 n
theorem dx_bty {k : Kd} {F : List D → R D} {x : Str} {T : String} (hc : CallD k X (.type T) ms F) (hm : X.mg x = none) (hv : bootBuiltins x = some (.type T)) (ha : Ax X W m ms (e :: es) fs)
    (hg : Gl X x := by rfl) (hn : x ≠ "__name__" := by decide) (hdb : (x == ("__debug__" : Str)) = false := by decide) (he : starEach (e :: es) X.env = (false, eval e X.env) :: starEach es X.env := by rfl) (hpl : (backTo pos (starEach es X.env)).any (·.1) = false := by rfl) :
    Dx k X W m (.Call (.Name x p) (e :: es) [] pos) (callF F fs) := by
  refine ⟨fun g own pins s σ ρ H ps I r n w => ?_⟩
  refine wpAny_Call_Name_kw (ld_blt I hg hm hv ?_ hn hdb)
  refine PyProof.Rows.callWith_type1 (thn (ha.run g own pos pins s σ ρ H ps I r (ne_of_bind n) (WOk.left w)) fun us s1 ⟨vs, H1, I1, rv, ds, ps1, e1, x1, p1, q1⟩ => ?_) he hpl
  have e2 : callF F fs ρ ps = F ds ps1 := bind_ok e1
  exact call_go hc r I1 x1 p1 q1 rv e2 n
/-- one argument, read -/
theorem args1 {pl : Pl} {K : PySem.W.Frag} {O : Addr → Prop} {H : Hp} {ds : List D} {vs : List V} (h : ArgsR pl K O H [.sb] ds vs) : ∃ d v, ds = [d] ∧ vs = [v] ∧ RepB pl K O H d v := by
  cases ds with
  | nil => exact h.elim
  | cons d ds =>
    obtain ⟨v, r, rfl, h2, h3⟩ := h
    cases ds with
    | nil => rw [show r = [] from h3]; exact ⟨d, v, rfl, rfl, h2⟩
    | cons _ _ => exact h3.elim
theorem args2 {pl : Pl} {K : PySem.W.Frag} {O : Addr → Prop} {H : Hp} {ds : List D} {vs : List V} (h : ArgsR pl K O H [.sb, .sb] ds vs) : ∃ d1 d2 v1 v2, ds = [d1, d2] ∧ vs = [v1, v2] ∧ RepB pl K O H d1 v1 ∧ RepB pl K O H d2 v2 := by
  cases ds with
  | nil => exact h.elim
  | cons d ds =>
    obtain ⟨v, r, rfl, h2, h3⟩ := h
    obtain ⟨d', v', rfl, rfl, h4⟩ := args1 h3
    exact ⟨d, d', v, v', rfl, rfl, h2, h4⟩
def one (F : D → R D) : List D → R D
  | [d] => F d
  | _ => R.und
def two (F : D → D → R D) : List D → R D
  | [a, b] => F a b
  | _ => R.und
def D.len : D → R D
  | .lst ds => pure (.int ds.length)
  | .tup ds => pure (.int ds.length)
  | .dk kvs => pure (.int kvs.length)
  | .str z => if lenC z.length = true then pure (.int z.length) else R.und
  | _ => R.und
theorem cd_len : CallD .cl X (.builtin "len") [.sb] (one D.len) := by
  intro pl O pins s σ H ps ds vs us I hO hT p ha rv n
  obtain ⟨d, v, rfl, rfl, h⟩ := args1 ha
  have n : D.len d ps ≠ .und := n
  show wpAny _ _ _ (EP X pins σ (QV .cl pl X.K O H (D.len d ps))) _ _
  cases d with
  | lst xs =>
    obtain ⟨q, ws, rfl, h1, t1⟩ := h.lst
    exact call_len_seq pins s σ H _ us _ I rv ⟨q, ws, rfl, .inl (.of h1), qv_int p (by rw [t1.length]; rfl)⟩
  | tup xs =>
    obtain ⟨q, ws, rfl, h1, t1⟩ := h.tup
    exact call_len_seq pins s σ H _ us _ I rv ⟨q, ws, rfl, .inr h1, qv_int p (by rw [t1.length]; rfl)⟩
  | dk kvs =>
    obtain ⟨q, ws, rfl, h1, t1⟩ := h.dk
    obtain ⟨u, rfl, ru⟩ := vals1 rv
    cases ru
    exact L2.d_len I h1 fun t s' I' => ⟨.int _, H, I', ⟨t, rfl⟩, qv_int p (by rw [t1.length]; rfl)⟩
  | str z =>
    obtain ⟨h1, h2⟩ := if_und (x := (pure (.int z.length) : R D)) n
    have h := h.flat rfl
    unfold Rep at h
    subst h
    refine call_len_str pins s σ H _ us _ I rv ⟨z, rfl, lenC_ok h1, ?_⟩
    exact qv_int p h2
  | _ => exact (n rfl).elim
/-- a list of boolsOf, of intsOf, of texts -/
def boolsOf : List D → Option (List Bool)
  | [] => some []
  | .bl b :: r => (boolsOf r).map (b :: ·)
  | _ => none
def intsOf : List D → Option (List Int)
  | [] => some []
  | .int b :: r => (intsOf r).map (b :: ·)
  | _ => none
def strsOf : List D → Option (List Str)
  | [] => some []
  | .str b :: r => (strsOf r).map (b :: ·)
  | _ => none
theorem ints_rep {pl : Pl} {K : PySem.W.Frag} {H : Hp} : ∀ {ds : List D} {vs : List V} {bs : List Int}, Reps pl K H ds vs → intsOf ds = some bs → vs = bs.map V.int
  | [], _, _, h, e => by cases e; exact h.inv_nil
  | d :: r, _, bs, h, e => by
    obtain ⟨v, t, rfl, h2, h3⟩ := h.inv_cons
    cases d with
    | int b =>
      obtain ⟨l, h4, rfl⟩ := ind (show (intsOf r).map (b :: ·) = some bs from e)
      unfold Rep at h2
      rw [h2, ints_rep h3 h4]; rfl
    | _ => cases e
def D.all : D → R D
  | .lst ds => ofO ((boolsOf ds).map fun bs => .bl (bs.all id))
  | _ => R.und
def D.any : D → R D
  | .lst ds => ofO ((boolsOf ds).map fun bs => .bl (bs.any id))
  | _ => R.und
theorem mapD_ok {α : Type} {o : Option α} {f : α → D} {ps : Ps} (n : ofO (o.map f) ps ≠ .und) : ∃ r, o = some r ∧ ofO (o.map f) ps = .ok (f r) ps := by
  cases o with
  | none => exact (n rfl).elim
  | some r => exact ⟨r, rfl, rfl⟩
def D.toInt : D → R D
  | .int i => pure (.int i)
  | .bl b => pure (.int (if b then 1 else 0))
  | _ => R.und
theorem cd_int : CallD .cl X (.type "int") [.sb] (one D.toInt) := by
  intro pl O pins s σ H ps ds vs us I hO hT p ha rv n
  obtain ⟨d, v, rfl, rfl, h⟩ := args1 ha
  cases d with
  | int i =>
    have h := h.flat rfl
    unfold Rep at h
    subst h
    exact call_int1 pins s σ H _ us _ I rv (.inl ⟨i, rfl, qv_int p rfl⟩)
  | bl i =>
    have h := h.flat rfl
    unfold Rep at h
    subst h
    exact call_int1 pins s σ H _ us _ I rv (.inr ⟨i, rfl, qv_int p rfl⟩)
  | _ => exact (n rfl).elim
def D.max2 : D → D → R D
  | .int i, .int j => pure (.int (if j > i then j else i))
  | _, _ => R.und
def D.min2 : D → D → R D
  | .int i, .int j => pure (.int (if j < i then j else i))
  | _, _ => R.und
theorem two_ints {F : Int → Int → Int} {G : D → D → R D} (hG : ∀ i j, G (.int i) (.int j) = pure (.int (F i j))) (hn : ∀ a b ps, G a b ps ≠ .und → ∃ i j, a = .int i ∧ b = .int j) {id : String} (hc : CallR X (.builtin id) fun xs H Q => ∃ i j, xs = [.int i, .int j] ∧ Q (.int (F i j)) H) : CallD .cl X (.builtin id) [.sb, .sb] (two G) := by
  intro pl O pins s σ H ps ds vs us I hO hT p ha rv n
  obtain ⟨d1, d2, v1, v2, rfl, rfl, h1, h2⟩ := args2 ha
  obtain ⟨i, j, rfl, rfl⟩ := hn d1 d2 ps n
  have h1 := h1.flat rfl
  have h2 := h2.flat rfl
  unfold Rep at h1 h2
  subst h1 h2
  refine hc pins s σ H _ us _ I rv ⟨i, j, rfl, qv_int p ?_⟩
  show G (.int i) (.int j) ps = _
  rw [hG]; rfl
theorem cd_max2 (hc : X.calm = true) : CallD .cl X (.builtin "max") [.sb, .sb] (two D.max2) := two_ints (F := fun i j => if j > i then j else i) (fun _ _ => rfl) (fun a b ps n => by cases a <;> cases b <;> first | exact ⟨_, _, rfl, rfl⟩ | exact (n rfl).elim) (call_max2 hc)
/-- list(..) of a list, of a tuple: a new one -/
def D.toList : D → R D
  | .lst ds => pure (.lst ds)
  | .tup ds => pure (.lst ds)
  | _ => R.und
def leS (a b : Str) : Bool := !ltCps b.cps.toList a.cps.toList
def insS (x : Str) : List Str → List Str
  | [] => [x]
  | y :: r => if leS x y = true then x :: y :: r else y :: insS x r
def sortS : List Str → List Str
  | [] => []
  | x :: r => insS x (sortS r)
end
end DL
set_option Elab.async false
set_option linter.all false
set_option maxRecDepth 100000
set_option maxHeartbeats 2000000
namespace DL
open PySem PySem.Spec PyProof.Rows L2
section
variable {X : Cx} {W : WX} {m ms : List Md} {e a b o : Expr} {es : List Expr} {f f1 f2 fo : FE} {fs : FA} {pos p : Pos}
/-- the text keys of a dict -/
def keyStrs : List (Key × D) → Option (List Str)
  | [] => some []
  | (.inr k, _) :: r => (keyStrs r).map (k :: ·)
  | _ => none
def D.item : D → D → R D
  | .lst ds, .int i => ofO (atI ds i)
  | .tup ds, .int i => ofO (atI ds i)
  | .str z, .int i => if lenC z.length = true then ofO ((atI z.cps.toList i).map fun c => .str ⟨#[c]⟩) else R.und
  | .dk kvs, k => ofO ((keyOf k).bind fun k => findD kvs k)
  | _, _ => R.und
theorem atI_reps {pl : Pl} {K : PySem.W.Frag} {H : Hp} {ds : List D} {vs : List V} {i : Int} {d : D} (h : Reps pl K H ds vs) (e : atI ds i = some d) : ∃ v, atI vs i = some v ∧ Rep pl K H d v := by
  unfold atI at e ⊢
  rw [h.length]
  obtain ⟨j, h1, h2⟩ := Option.bind_eq_some_iff.mp e
  obtain ⟨v, h3, h4⟩ := h.get h2
  exact ⟨v, by rw [h1]; exact h3, h4⟩
theorem dx_sub (h1 : Dx .bo X W m a f1) (h2 : Dx .bo X W m b f2) (hu : X.A.units + 64 < cLine) (hs : PlainIx b := by intro _ _; rfl) : Dx .cl X W m (.Subscript a b pos) (op2F D.item f1 f2) := by
  refine ⟨fun g own pins s σ ρ H ps I r n w => ?_⟩
  have n1 := ne_of_bind n
  have go : ∀ {d1 : D} {ps1 : Ps}, f1 ρ ps = .ok d1 ps1 → (∃ kvs, d1 = .dk kvs) → wpAny (model X.prog X.w) X.A (eval (.Subscript a b pos) X.env) (EP X pins σ (QV .cl g.pl X.K (Xs m own g) H (op2F D.item f1 f2 ρ ps))) X.xe s := by
    rintro d1 ps1 e1 ⟨kvs, rfl⟩
    refine (pe_dget (by omega) (pe_c X a) (pe_c X b) hs).run pins s σ H _ I (cE.mono (h1.c r n1 (WOk.left w)) fun x H1 ⟨d1, ps1, e1', x1, p1, q1⟩ => ?_)
    rw [e1] at e1'
    cases e1'
    have c1 : op2F D.item f1 f2 ρ ps = (f2 ρ >>= fun b => D.item (.dk kvs) b) ps1 := bind_ok e1
    have w1 := WOk.later w x1
    rw [c1] at w1 n ⊢
    refine cE.mono (h2.c (r.mono x1 p1) (ne_of_bind n) (WOk.left w1)) fun y H2 ⟨d2, ps2, e2, x2, p2, q2⟩ => ?_
    have c2 : (f2 ρ >>= fun b => D.item (.dk kvs) b) ps1 = D.item (.dk kvs) d2 ps2 := bind_ok e2
    rw [c2] at n ⊢
    obtain ⟨d, e3, e4⟩ := ofO_ne (show ofO ((keyOf d2).bind fun k => findD kvs k) ps2 ≠ .und from n)
    obtain ⟨k, e5, e6⟩ := Option.bind_eq_some_iff.mp e3
    have q1' := q1.mono Xs.pl x2
    obtain ⟨q, vs, rfl, g1, t1⟩ := q1'.dk
    have ek := keyOf_rep q2.full e5
    rcases t1.val k with ⟨z, _⟩ | ⟨d', v, z1, z2, z3⟩
    · rw [z] at e6; cases e6
    · rw [e6] at z1
      cases z1
      exact ⟨q, v, rfl, .inl ⟨vs, k, g1, ek, z2.symm⟩, d, ps2, e4, x1.trans x2, p2, z3⟩
  have alt : ∀ {ir : R2}, IxR X ir → (∀ d1 ps1, f1 ρ ps = .ok d1 ps1 → ∀ d2 x y H2 ps2, RepB g.pl X.K (Xs m own g) H2 d1 x → RepB g.pl X.K (Xs m own g) H2 d2 y → PoolAt g.pl H2 ps2 → D.item d1 d2 ps2 ≠ .und → ∀ Q : VK, (∀ v H', QV .cl g.pl X.K (Xs m own g) H2 (D.item d1 d2 ps2) v H' → Q v H') → ir x y H2 Q) →
      wpAny (model X.prog X.w) X.A (eval (.Subscript a b pos) X.env) (EP X pins σ (QV .cl g.pl X.K (Xs m own g) H (op2F D.item f1 f2 ρ ps))) X.xe s := by
    intro ir hi hr
    refine (pe_ix hi (pe_c X a) (pe_c X b) hs).run pins s σ H _ I (cE.mono (h1.c r n1 (WOk.left w)) fun x H1 ⟨d1, ps1, e1, x1, p1, q1⟩ => ?_)
    have c1 : op2F D.item f1 f2 ρ ps = (f2 ρ >>= fun b => D.item d1 b) ps1 := bind_ok e1
    have w1 := WOk.later w x1
    rw [c1] at w1 n ⊢
    refine cE.mono (h2.c (r.mono x1 p1) (ne_of_bind n) (WOk.left w1)) fun y H2 ⟨d2, ps2, e2, x2, p2, q2⟩ => ?_
    have c2 : (f2 ρ >>= fun b => D.item d1 b) ps1 = D.item d1 d2 ps2 := bind_ok e2
    rw [c2] at n ⊢
    exact hr d1 ps1 e1 d2 x y H2 ps2 (q1.mono Xs.pl x2) q2 p2 n _ (QV.back (x1.trans x2) p2 rfl)
  cases e1 : f1 ρ ps with
  | und => exact (n1 e1).elim
  | exc x q => exact alt ix_list fun d1 ps1 e => by rw [e1] at e; cases e
  | ok d1 ps1 =>
    cases d1 with
    | dk kvs => exact go e1 ⟨kvs, rfl⟩
    | lst ds =>
      refine alt ix_list fun d1' ps1' e d2 x y H2 ps2 q1 q2 p2 n Q hQ => ?_
      rw [e1] at e; cases e
      cases d2 with
      | int i =>
        obtain ⟨d, e3, e4⟩ := ofO_ne (show ofO (atI ds i) ps2 ≠ .und from n)
        obtain ⟨q, vs, rfl, g1, t1⟩ := q1.lst
        obtain ⟨v, g2, g3⟩ := atI_reps t1 e3
        have q2 := q2.flat rfl
        unfold Rep at q2
        exact ⟨q, vs, i, v, rfl, q2, .of g1, g2, hQ v H2 ⟨d, ps2, e4, Exo.refl, p2, g3⟩⟩
      | _ => exact (n rfl).elim
    | tup ds =>
      refine alt ix_tup fun d1' ps1' e d2 x y H2 ps2 q1 q2 p2 n Q hQ => ?_
      rw [e1] at e; cases e
      cases d2 with
      | int i =>
        obtain ⟨d, e3, e4⟩ := ofO_ne (show ofO (atI ds i) ps2 ≠ .und from n)
        obtain ⟨q, vs, rfl, g1, t1⟩ := q1.tup
        obtain ⟨v, g2, g3⟩ := atI_reps t1 e3
        have q2 := q2.flat rfl
        unfold Rep at q2
        exact ⟨q, vs, i, v, rfl, q2, g1, g2, hQ v H2 ⟨d, ps2, e4, Exo.refl, p2, g3⟩⟩
      | _ => exact (n rfl).elim
    | str z =>
      refine alt ix_str fun d1' ps1' e d2 x y H2 ps2 q1 q2 p2 n Q hQ => ?_
      rw [e1] at e; cases e
      cases d2 with
      | int i =>
        obtain ⟨hc, he⟩ := if_und (show (if lenC z.length = true then ofO ((atI z.cps.toList i).map fun c => D.str ⟨#[c]⟩) else R.und) ps2 ≠ .und from n)
        have n' := n
        rw [show D.item (.str z) (.int i) ps2 = _ from he] at n'
        obtain ⟨c, e3, e4⟩ := mapD_ok n'
        have q1 := q1.flat rfl
        have q2 := q2.flat rfl
        unfold Rep at q1 q2
        exact ⟨z, i, c, q1, q2, lenC_ok hc, e3, hQ _ H2 (qv_str p2 (he.trans e4))⟩
      | _ => exact (n rfl).elim
    | _ =>
      refine alt ix_list fun d1' ps1' e d2 x y H2 ps2 q1 q2 p2 n Q hQ => ?_
      rw [e1] at e; cases e
      exact (n rfl).elim
def lstF (fs : FA) : FE := fun ρ => do let ds ← fs ρ; if lenC ds.length = true then pure (.lst ds) else R.und
def tupF (fs : FA) : FE := fun ρ => do let ds ← fs ρ; if lenC ds.length = true then pure (.tup ds) else R.und
theorem args_all {pl : Pl} {K : PySem.W.Frag} {O : Addr → Prop} {H : Hp} : ∀ {ms : List Md} {ds : List D} {vs : List V}, ms.all (· == .sh) = true → ArgsR pl K O H ms ds vs → Reps pl K (hid O H) ds vs
  | [], [], _, _, h => by rw [show _ = [] from h]; exact Reps.nil
  | .sh :: ms, d :: ds, _, hm, h => by
    obtain ⟨v, r, rfl, h2, h3⟩ := h
    exact Reps.cons h2 (args_all (by simpa using hm) h3)
  | [], _ :: _, _, _, h => h.elim
  | md :: _, [], _, _, h => by cases md <;> exact h.elim
  | .no :: _, _ :: _, _, _, h => h.elim
  | .ow :: _, _ :: _, _, _, h => h.elim
  | .io :: _, _ :: _, _, _, h => h.elim
  | .sb :: _, _ :: _, _, hm, _ => by simp at hm
theorem dx_lst (h : Ax X W m ms es fs) (hm : ms.all (· == .sh) = true := by rfl) : Dx .fr X W m (.List es pos) (lstF fs) := by
  refine ⟨fun g own pins s σ ρ H ps I r n w => ?_⟩
  refine (pe_lst (pa_c X es)).run pins s σ H _ I (cA.mono (h.can r (ne_of_bind n) (WOk.left w)) fun vs H1 ⟨ds, ps1, e1, x1, p1, q1⟩ => ?_)
  have e2 : lstF fs ρ ps = (if lenC ds.length = true then pure (.lst ds) else R.und) ps1 := bind_ok e1
  rw [e2] at n ⊢
  obtain ⟨hc, he⟩ := if_und n
  rw [he]
  have t1 := args_all hm q1
  refine ⟨by rw [t1.length]; exact lenC_ok hc, fun l hl => ?_⟩
  exact QV.back x1 p1 rfl _ _ (laid_fr (r.mono x1 p1).xT p1 hl t1 rfl)
end
end DL
set_option Elab.async false
set_option linter.all false
set_option maxRecDepth 100000
set_option maxHeartbeats 2000000
namespace DL
open PySem PySem.Spec PyProof.Rows L2
inductive Fl where
  | nx (ρ : Rho) | rt (d : D) (ρ : Rho) | bk (ρ : Rho) | ct (ρ : Rho)
abbrev SF := Rho → R Fl
/-- the modes at a loop's break and continue, at the return; the slots that are not to be stored -/
structure JP where
  mb : List Md
  mr : List Md
  px : List Nat := []
  fr : Bool := false
def OwnK (m : List Md) (own own' : Nat → Addr) : Prop := ∀ (i : Nat), m[i]? = some .io → own' i = own i
def Eo (g : G) : Addr → Prop := fun a => g.E a ∨ plS g.pl a
/-- what is returned: a clean value, or an object just made -/
def RtQ (K : PySem.W.Frag) (J : JP) (g : G) (own : Nat → Addr) (H : Hp) (d : D) (v : V) : Prop := match J.fr with
  | false => Rep g.pl K (hid (Xs J.mr own g) H) d v
  | true => ∃ p, v = .ref p ∧ g.B p = none ∧ ¬ plS g.pl p ∧ TopR g.pl K (hid (fun a => Xs J.mr own g a ∨ a = p) H) d (H p)
/-- what is wanted behind a statement, as HandS's Ends -/
def DD (X : Cx) (J : JP) (m m' : List Md) (g : G) (own : Nat → Addr) (r : Res Fl) : Ends where
  nx := fun σ' H' => ∃ ρ' ps' own', r = .ok (.nx ρ') ps' ∧ Rs X.K g m' own' σ' ρ' H' ps' ∧ OwnK m own own'
  bk := fun σ' H' => ∃ ρ' ps' own', r = .ok (.bk ρ') ps' ∧ Rs X.K g J.mb own' σ' ρ' H' ps' ∧ OwnK m own own'
  ct := fun σ' H' => ∃ ρ' ps' own', r = .ok (.ct ρ') ps' ∧ Rs X.K g J.mb own' σ' ρ' H' ps' ∧ OwnK m own own'
  rt := fun v H' => ∃ d ρ' ps' own' σ', r = .ok (.rt d ρ') ps' ∧ Rs X.K g J.mr own' σ' ρ' H' ps' ∧ OwnK m own own' ∧ RtQ X.K J g own' H' d v
/-- what is wanted of what a statement raises -/
def WS (W : WX) (K : PySem.W.Frag) (g : G) (r : Res Fl) : Prop :=
  ∀ x ps' dx H' σ', r = .exc x ps' → Exo (plS g.pl) g.B H' → PoolAt g.pl H' ps' → ExR g.pl K (Eo g) H' dx x → (∀ p ∈ g.sx, ∃ v, σ'[p.1]? = some (some v) ∧ Rep g.pl K (hid (Eo g) H') p.2 v) → W (.ref x.cls) (some dx) σ' H'
structure Ds (X : Cx) (W : WX) (J : JP) (m m' : List Md) (st : Stmt) (f : SF) : Prop where
  run : ∀ (g : G) (own : Nat → Addr) (pins : List (Addr × Obj)) (s : Shared) (σ : L2.St) (ρ : Rho) (H : Hp) (ps : Ps), Inv X pins σ H s → Rs X.K g m own σ ρ H ps → (∀ p ∈ g.sx, p.1 ∈ J.px) → f ρ ps ≠ .und → WS W X.K g (f ρ ps) →
    wpAny (model X.prog X.w) X.A (exec st X.env) (SP X pins (DD X J m m' g own (f ρ ps))) X.xe s
structure Dss (X : Cx) (W : WX) (J : JP) (m m' : List Md) (st : List Stmt) (f : SF) : Prop where
  run : ∀ (g : G) (own : Nat → Addr) (pins : List (Addr × Obj)) (s : Shared) (σ : L2.St) (ρ : Rho) (H : Hp) (ps : Ps), Inv X pins σ H s → Rs X.K g m own σ ρ H ps → (∀ p ∈ g.sx, p.1 ∈ J.px) → f ρ ps ≠ .und → WS W X.K g (f ρ ps) →
    wpAny (model X.prog X.w) X.A (execs st X.env) (SP X pins (DD X J m m' g own (f ρ ps))) X.xe s
theorem OwnK.refl {m : List Md} {own : Nat → Addr} : OwnK m own own := fun _ _ => rfl
theorem Xs.eo {m : List Md} {own : Nat → Addr} {g : G} : ∀ a, Eo g a → Xs m own g a := fun a z => by
  rcases z with z | z
  · exact .inl z
  · exact .inr (.inl z)
/-- the exceptions of an expression -/
theorem WS.ex {α : Type} {W : WX} {K : PySem.W.Frag} {m : List Md} {own : Nat → Addr} {g : G} {σ : L2.St} {ρ : Rho} {H : Hp} {x : R α} {h : α → R Fl} {ps ps1 : Ps} (w : WS W K g ((x >>= h) ps)) (r : Rs K g m own σ ρ H ps1) : WOk W g.pl K (Xs m own g) σ H (x ps) :=
  fun e ps' dx H' q e2 p ⟨vs, h1, h2⟩ => w e ps' dx H' σ (bind_exc q) (r.base.trans e2) p ⟨vs, h1, h2.mono (hid_sub Xs.eo)⟩ fun p' hp =>
    let ⟨v, h3, h4⟩ := r.sx p' hp
    ⟨v, h3, (h4.mono (e2.hid Xs.pl)).mono (hid_sub Xs.eo)⟩
theorem spI' {X : Cx} {pins : List (Addr × Obj)} {D1 D2 : Ends} {f : Flow} {s : Shared} (h : SP X pins D1 f s) (h1 : ∀ σ H, D1.nx σ H → D2.nx σ H) (h2 : ∀ σ H, D1.bk σ H → D2.bk σ H) (h3 : ∀ σ H, D1.ct σ H → D2.ct σ H) (h4 : ∀ v H, D1.rt v H → D2.rt v H) : SP X pins D2 f s := by
  cases f with
  | next => obtain ⟨σ, H, I, q⟩ := h; exact ⟨σ, H, I, h1 _ _ q⟩
  | brk => obtain ⟨σ, H, I, q⟩ := h; exact ⟨σ, H, I, h2 _ _ q⟩
  | cont => obtain ⟨σ, H, I, q⟩ := h; exact ⟨σ, H, I, h3 _ _ q⟩
  | ret u => obtain ⟨v, σ, H, I, rv, q⟩ := h; exact ⟨v, σ, H, I, rv, h4 _ _ q⟩
/-- ow, io may become less -/
def le1 : Md → Md → Bool
  | _, .no => true
  | a, b => a == b
def leM : List Md → List Md → Bool
  | [], [] => true
  | a :: r, b :: t => le1 a b && leM r t
  | _, _ => false
theorem leM_at : ∀ {m m' : List Md}, leM m m' = true → ∀ (i : Nat) (x : Md), m'[i]? = some x → x ≠ .no → m[i]? = some x
  | [], [], _, i, x, h, _ => by simp at h
  | a :: r, b :: t, h, 0, x, e, n => by
    simp at e; subst e
    unfold leM at h
    rw [Bool.and_eq_true] at h
    have h1 := h.1
    unfold le1 at h1
    split at h1
    · exact (n rfl).elim
    · rw [eq_of_beq h1]; rfl
  | a :: r, b :: t, h, i + 1, x, e, n => by
    unfold leM at h
    rw [Bool.and_eq_true] at h
    simpa using leM_at h.2 i x (by simpa using e) n
  | [], _ :: _, h, _, _, _, _ => Bool.noConfusion (show false = true from h)
  | _ :: _, [], h, _, _, _, _ => Bool.noConfusion (show false = true from h)
section
variable {K : PySem.W.Frag} {g : G} {m m' : List Md} {own : Nat → Addr} {σ : L2.St} {ρ : Rho} {H : Hp} {ps : Ps}
theorem Rs.weak (r : Rs K g m own σ ρ H ps) (h : leM m m' = true) : Rs K g m' own σ ρ H ps := by
  have at_ : ∀ (i : Nat), (m'[i]? = some .ow ∨ m'[i]? = some .io) → (m[i]? = some .ow ∨ m[i]? = some .io) := fun i q => by
    rcases q with q | q
    · exact .inl (leM_at h i _ q (by decide))
    · exact .inr (leM_at h i _ q (by decide))
  have sub : ∀ a, Xs m' own g a → Xs m own g a := fun a q => by
    rcases q with q | q | ⟨i, q, e⟩
    · exact .inl q
    · exact .inr (.inl q)
    · exact .inr (.inr ⟨i, at_ i q, e⟩)
  have ex : Ex (hid (Xs m own g) H) (hid (Xs m' own g) H) := hid_sub sub
  exact {
    len := r.len
    sh := fun i d h1 h2 => let ⟨v, h3, h4⟩ := r.sh i d (leM_at h i _ h1 (by decide)) h2; ⟨v, h3, h4.mono ex⟩
    ow := fun i q => let ⟨d, h1, h2, h3, h4⟩ := r.ow i (at_ i q); ⟨d, h1, h2, h3.mono ex, h4⟩
    sb := fun i d h1 h2 => by
      obtain ⟨v, h3, h4⟩ := r.sb i d (leM_at h i _ h1 (by decide)) h2
      refine ⟨v, h3, ?_⟩
      rcases h4 with h4 | ⟨a, ea, np, no, t⟩
      · exact .inl (h4.mono ex)
      · exact .inr ⟨a, ea, np, fun j q => no j (at_ j q), t.mono ex⟩
    xc := fun i a dx q => let ⟨d, h1, h2, h3, h4⟩ := r.xc i a dx (leM_at h i _ q (fun z => nomatch z)); ⟨d, h1, h2, h3.mono ex, h4⟩
    ex := fun p hp => (r.ex p hp).mono ex
    sx := fun p hp => let ⟨v, h1, h2⟩ := r.sx p hp; ⟨v, h1, h2.mono ex⟩
    inj := fun i j h1 h2 => r.inj i j (at_ i h1) (at_ j h2)
    nE := fun i q => r.nE i (leM_at h i _ q (by decide))
    base := r.base
    pool := r.pool
    eT := r.eT }
theorem set_at {α : Type} {l : List α} {i j : Nat} {x y : α} (h : (l.set i x)[j]? = some y) : (j = i ∧ y = x ∧ i < l.length) ∨ (j ≠ i ∧ l[j]? = some y) := by
  by_cases e : j = i
  · subst e
    by_cases hl : j < l.length
    · rw [List.getElem?_set_self hl] at h; cases h; exact .inl ⟨rfl, rfl, hl⟩
    · rw [List.getElem?_eq_none (by rw [List.length_set]; omega)] at h; cases h
  · rw [List.getElem?_set_ne (Ne.symm e)] at h; exact .inr ⟨e, h⟩
theorem set_ow {l : List Md} {i j : Nat} {x : Md} (h : ((l.set i x)[j]? = some .ow ∨ (l.set i x)[j]? = some .io)) (hx : x ≠ .ow ∧ x ≠ .io) : j ≠ i ∧ (l[j]? = some .ow ∨ l[j]? = some .io) := by
  rcases h with h | h
  · rcases set_at h with ⟨_, e, _⟩ | ⟨n, e⟩
    · exact (hx.1 e.symm).elim
    · exact ⟨n, .inl e⟩
  · rcases set_at h with ⟨_, e, _⟩ | ⟨n, e⟩
    · exact (hx.2 e.symm).elim
    · exact ⟨n, .inr e⟩
/-- a name gets a clean value -/
theorem Rs.store (r : Rs K g m own σ ρ H ps) {i : Nat} {d : D} {v : V} (h : Rep g.pl K (hid (Xs m own g) H) d v) (hp : ∀ p ∈ g.sx, p.1 ≠ i) (hi : i < σ.length) : Rs K g (m.set i .sh) own (σ.set i (some v)) (ρ.set i (some d)) H ps := by
  have at_ : ∀ (j : Nat), ((m.set i .sh)[j]? = some .ow ∨ (m.set i .sh)[j]? = some .io) → j ≠ i ∧ (m[j]? = some .ow ∨ m[j]? = some .io) := fun j q => set_ow q ⟨by decide, by decide⟩
  have sub : ∀ a, Xs (m.set i .sh) own g a → Xs m own g a := fun a q => by
    rcases q with q | q | ⟨j, q, e⟩
    · exact .inl q
    · exact .inr (.inl q)
    · exact .inr (.inr ⟨j, (at_ j q).2, e⟩)
  have ex : Ex (hid (Xs m own g) H) (hid (Xs (m.set i .sh) own g) H) := hid_sub sub
  exact {
    len := by rw [List.length_set, List.length_set]; exact r.len
    sh := fun j d' h1 h2 => by
      by_cases e : j = i
      · subst e
        rw [List.getElem?_set_self (by rw [r.len]; exact hi)] at h2
        cases h2
        exact ⟨v, List.getElem?_set_self hi, h.mono ex⟩
      · rw [List.getElem?_set_ne (Ne.symm e)] at h1 h2 ⊢
        obtain ⟨w, h3, h4⟩ := r.sh j d' h1 h2
        exact ⟨w, h3, h4.mono ex⟩
    ow := fun j q => by
      obtain ⟨ne, q⟩ := at_ j q
      obtain ⟨d', h1, h2, h3, h4⟩ := r.ow j q
      exact ⟨d', by rw [List.getElem?_set_ne (Ne.symm ne)]; exact h1, by rw [List.getElem?_set_ne (Ne.symm ne)]; exact h2, h3.mono ex, h4⟩
    sb := fun j d' h1 h2 => by
      by_cases e : j = i
      · subst e
        rcases set_at h1 with ⟨_, z, _⟩ | ⟨z, _⟩
        · cases z
        · exact (z rfl).elim
      · rw [List.getElem?_set_ne (Ne.symm e)] at h1 h2 ⊢
        obtain ⟨w, h3, h4⟩ := r.sb j d' h1 h2
        refine ⟨w, h3, ?_⟩
        rcases h4 with h4 | ⟨a, ea, np, no, t⟩
        · exact .inl (h4.mono ex)
        · exact .inr ⟨a, ea, np, fun j q => no j (at_ j q).2, t.mono ex⟩
    xc := fun j a dx q => by
      rcases set_at q with ⟨_, z, _⟩ | ⟨ne, q⟩
      · cases z
      · obtain ⟨d', h1, h2, h3, h4⟩ := r.xc j a dx q
        exact ⟨d', by rw [List.getElem?_set_ne (Ne.symm ne)]; exact h1, by rw [List.getElem?_set_ne (Ne.symm ne)]; exact h2, h3.mono ex, h4⟩
    ex := fun p hp => (r.ex p hp).mono ex
    sx := fun p hp' => by
      obtain ⟨w, h1, h2⟩ := r.sx p hp'
      exact ⟨w, by rw [List.getElem?_set_ne (Ne.symm (hp p hp'))]; exact h1, h2.mono ex⟩
    inj := fun j k h1 h2 => r.inj j k (at_ j h1).2 (at_ k h2).2
    nE := fun j q => r.nE j (by
      rcases set_at q with ⟨_, z, _⟩ | ⟨_, z⟩
      · cases z
      · exact z)
    base := r.base
    pool := r.pool
    eT := r.eT }
def own2 (own : Nat → Addr) (i : Nat) (p : Addr) : Nat → Addr := fun j => if j = i then p else own j
theorem own2_eq {own : Nat → Addr} {i : Nat} {p : Addr} {j : Nat} (h : j = i) : own2 own i p j = p := if_pos h
theorem own2_ne {own : Nat → Addr} {i : Nat} {p : Addr} {j : Nat} (h : j ≠ i) : own2 own i p j = own j := if_neg h
/-- a name gets a new object that is its own -/
theorem Rs.storeO (r : Rs K g m own σ ρ H ps) {i : Nat} {d : D} {p : Addr} {H0 : Hp} (h0 : Exo (plS g.pl) H0 H) (hB : Exo (plS g.pl) g.B H0) (hxT : ∀ a, Xs m own g a → Thr (H0 a)) (hn : H0 p = none) (t : TopR g.pl K (hid (fun a => Xs m own g a ∨ a = p) H) d (H p)) (hp : ∀ p ∈ g.sx, p.1 ≠ i) (hi : i < σ.length)
    {ps0 : Ps} (old : Rs K g m own σ ρ H0 ps0) : Rs K g (m.set i .ow) (own2 own i p) (σ.set i (some (.ref p))) (ρ.set i (some d)) H ps := by
  have np : ¬ Xs m own g p := fun z => hxT p z hn
  have at_ : ∀ (j : Nat), ((m.set i .ow)[j]? = some .ow ∨ (m.set i .ow)[j]? = some .io) → j = i ∨ (j ≠ i ∧ (m[j]? = some .ow ∨ m[j]? = some .io)) := fun j q => by
    by_cases e : j = i
    · exact .inl e
    · rw [List.getElem?_set_ne (Ne.symm e)] at q; exact .inr ⟨e, q⟩
  have sub : ∀ a, Xs (m.set i .ow) (own2 own i p) g a → Xs m own g a ∨ a = p := fun a q => by
    rcases q with q | q | ⟨j, q, e⟩
    · exact .inl (.inl q)
    · exact .inl (.inr (.inl q))
    · rcases at_ j q with z | ⟨z, q⟩
      · right; rw [← e]; exact own2_eq z
      · left; rw [own2_ne z] at e; exact .inr (.inr ⟨j, q, e⟩)
  -- what stood ahead of the new object
  have ex0 : Ex (hid (Xs m own g) H0) (hid (Xs (m.set i .ow) (own2 own i p) g) H) := fun a o q => by
    obtain ⟨n, q⟩ := hid_of q
    have na : a ≠ p := ne_of_none q hn
    rw [hid_at fun z => (sub a z).elim n na]
    exact h0 a o q fun z => n (Xs.pl a z)
  have ext : Ex (hid (fun a => Xs m own g a ∨ a = p) H) (hid (Xs (m.set i .ow) (own2 own i p) g) H) := hid_sub sub
  have opl : ¬ plS g.pl p := fun z => np (.inr (.inl z))
  exact {
    len := by rw [List.length_set, List.length_set]; exact r.len
    sh := fun j d' h1 h2 => by
      by_cases e : j = i
      · subst e
        rcases set_at h1 with ⟨_, z, _⟩ | ⟨z, _⟩
        · cases z
        · exact (z rfl).elim
      · rw [List.getElem?_set_ne (Ne.symm e)] at h1 h2 ⊢
        obtain ⟨w, h3, h4⟩ := old.sh j d' h1 h2
        exact ⟨w, h3, h4.mono ex0⟩
    ow := fun j q => by
      rcases at_ j q with rfl | ⟨ne, q⟩
      · refine ⟨d, List.getElem?_set_self (by rw [r.len]; exact hi), by rw [List.getElem?_set_self hi, own2_eq rfl], ?_, ?_, ?_⟩
        · rw [own2_eq rfl]; exact t.mono ext
        · rw [own2_eq rfl]
          cases hb : g.B p with
          | none => rfl
          | some o => rw [hB p o hb opl] at hn; cases hn
        · rw [own2_eq rfl]; exact opl
      · obtain ⟨d', h1, h2, h3, h4, h5⟩ := old.ow j q
        refine ⟨d', by rw [List.getElem?_set_ne (Ne.symm ne)]; exact h1, by rw [List.getElem?_set_ne (Ne.symm ne), own2_ne ne]; exact h2, ?_, by rw [own2_ne ne]; exact h4, by rw [own2_ne ne]; exact h5⟩
        rw [own2_ne ne]
        obtain ⟨u, hu⟩ := h3.some
        rw [h0 _ u hu h5, ← hu]
        exact h3.mono ex0
    sb := fun j d' h1 h2 => by
      by_cases e : j = i
      · subst e
        rcases set_at h1 with ⟨_, z, _⟩ | ⟨z, _⟩
        · cases z
        · exact (z rfl).elim
      · rw [List.getElem?_set_ne (Ne.symm e)] at h1 h2 ⊢
        obtain ⟨w, h3, h4⟩ := old.sb j d' h1 h2
        refine ⟨w, h3, ?_⟩
        rcases h4 with h4 | ⟨a, ea, npl, no, t⟩
        · exact .inl (h4.mono ex0)
        · obtain ⟨u, hu⟩ := t.some
          refine .inr ⟨a, ea, npl, fun j q => ?_, ?_⟩
          · rcases at_ j q with z | ⟨z, q⟩
            · rw [own2_eq z]; exact Ne.symm (ne_of_none hu hn)
            · rw [own2_ne z]; exact no j q
          · rw [h0 a u hu npl, ← hu]; exact t.mono ex0
    xc := fun j a dx q => by
      rcases set_at q with ⟨_, z, _⟩ | ⟨ne, q⟩
      · cases z
      · obtain ⟨d', h1, h2, h3, h4⟩ := old.xc j a dx q
        obtain ⟨u, hu⟩ := h3.some
        refine ⟨d', by rw [List.getElem?_set_ne (Ne.symm ne)]; exact h1, by rw [List.getElem?_set_ne (Ne.symm ne)]; exact h2, ?_, h4⟩
        rw [h0 _ u hu h4, ← hu]
        exact h3.mono ex0
    ex := fun p hp => (old.ex p hp).mono ex0
    sx := fun q hq => by
      obtain ⟨w, h1, h2⟩ := old.sx q hq
      exact ⟨w, by rw [List.getElem?_set_ne (Ne.symm (hp q hq))]; exact h1, h2.mono ex0⟩
    inj := fun j k h1 h2 e => by
      have far : ∀ {j : Nat}, (m[j]? = some .ow ∨ m[j]? = some .io) → own j ≠ p := fun {j} q z => np (.inr (.inr ⟨j, q, z⟩))
      rcases at_ j h1 with z1 | ⟨z1, q1⟩ <;> rcases at_ k h2 with z2 | ⟨z2, q2⟩
      · rw [z1, z2]
      · rw [own2_eq z1, own2_ne z2] at e; exact (far q2 e.symm).elim
      · rw [own2_ne z1, own2_eq z2] at e; exact (far q1 e).elim
      · rw [own2_ne z1, own2_ne z2] at e; exact r.inj j k q1 q2 e
    nE := fun j q => by
      rcases at_ j (.inl q) with z | ⟨z, _⟩
      · rw [own2_eq z]; exact fun z => np (.inl z)
      · rw [own2_ne z]
        rw [List.getElem?_set_ne (Ne.symm z)] at q
        exact r.nE j q
    base := r.base
    pool := r.pool
    eT := r.eT }
end
end DL
set_option Elab.async false
set_option linter.all false
set_option maxRecDepth 100000
set_option maxHeartbeats 2000000
namespace DL
open PySem PySem.Spec PyProof.Rows L2
section
variable {K : PySem.W.Frag} {g : G} {m m' : List Md} {own : Nat → Addr} {σ : L2.St} {ρ : Rho} {H : Hp} {ps : Ps}
/-- an object of its own has changed -/
theorem Rs.mut (r : Rs K g m own σ ρ H ps) {i : Nat} {d : D} {o : HO} (hi : m[i]? = some .ow ∨ m[i]? = some .io) (t : TopR g.pl K (hid (Xs m own g) H) d (some o)) : Rs K g m own σ (ρ.set i (some d)) (upd H (own i) o) ps := by
  have hx : Xs m own g (own i) := .inr (.inr ⟨i, hi, rfl⟩)
  have ex : Ex (hid (Xs m own g) H) (hid (Xs m own g) (upd H (own i) o)) := fun a u q => by
    obtain ⟨n, q⟩ := hid_of q
    rw [hid_at n, upd_ne (fun z => n (by rw [z]; exact hx))]
    exact q
  obtain ⟨d0, h1, h2, h3, h4, h5⟩ := r.ow i hi
  have hil : i < ρ.length := (List.getElem?_eq_some_iff.mp h1).1
  exact {
    len := by rw [List.length_set]; exact r.len
    sh := fun j d' k1 k2 => by
      by_cases e : j = i
      · subst e; rcases hi with z | z <;> (rw [z] at k1; cases k1)
      · rw [List.getElem?_set_ne (Ne.symm e)] at k2
        obtain ⟨v, k3, k4⟩ := r.sh j d' k1 k2
        exact ⟨v, k3, k4.mono ex⟩
    ow := fun j k => by
      by_cases e : j = i
      · subst e
        exact ⟨d, List.getElem?_set_self hil, h2, by rw [upd_same]; exact t.mono ex, h4, h5⟩
      · obtain ⟨d', k1, k2, k3, k4⟩ := r.ow j k
        exact ⟨d', by rw [List.getElem?_set_ne (Ne.symm e)]; exact k1, k2, by rw [upd_ne (fun z => e (r.inj j i k hi z))]; exact k3.mono ex, k4⟩
    sb := fun j d' k1 k2 => by
      by_cases e : j = i
      · subst e; rcases hi with z | z <;> (rw [z] at k1; cases k1)
      · rw [List.getElem?_set_ne (Ne.symm e)] at k2
        obtain ⟨v, k3, k4⟩ := r.sb j d' k1 k2
        refine ⟨v, k3, ?_⟩
        rcases k4 with k4 | ⟨a, ea, np, no, t⟩
        · exact .inl (k4.mono ex)
        · exact .inr ⟨a, ea, np, no, by rw [upd_ne (Ne.symm (no i hi))]; exact t.mono ex⟩
    xc := fun j a dx k => by
      obtain ⟨d', k1, k2, k3, k4⟩ := r.xc j a dx k
      have e : j ≠ i := fun z => by subst z; rcases hi with z | z <;> (rw [z] at k; cases k)
      have e2 : dx ≠ own i := fun z => by rw [z] at k3; exact k3.not_top h3
      exact ⟨d', by rw [List.getElem?_set_ne (Ne.symm e)]; exact k1, k2, by rw [upd_ne e2]; exact k3.mono ex, k4⟩
    ex := fun p hp => (r.ex p hp).mono ex
    sx := fun p hp => let ⟨v, k1, k2⟩ := r.sx p hp; ⟨v, k1, k2.mono ex⟩
    inj := r.inj
    nE := r.nE
    base := fun a u q n => by
      rw [upd_ne (fun z => by rw [z, h4] at q; cases q)]
      exact r.base a u q n
    pool := r.pool.put h5 h3.thr
    eT := fun a ha => by
      by_cases e : a = own i
      · rw [e, upd_same]; exact t.thr
      · rw [upd_ne e]; exact r.eT a ha }
end
section
variable {X : Cx} {W : WX} {J : JP} {m m' m2 : List Md} {e a b c : Expr} {f f1 f2 : FE} {t : FT} {st : Stmt} {sts sts2 : List Stmt} {g1 g2 : SF} {pos : Pos} {fs : FA}
def skF : SF := fun ρ => pure (.nx ρ)
def thF (g2 : SF) : Fl → R Fl
  | .nx ρ => g2 ρ
  | r => pure r
def sqF (g1 g2 : SF) : SF := fun ρ => do let fl ← g1 ρ; thF g2 fl
theorem dss_nil : Dss X W J m m [] skF := ⟨fun g own pins s σ ρ H ps I r hx n w => wpAny_execs_nil ⟨σ, H, I, ρ, ps, own, rfl, r, .refl⟩⟩
theorem OwnK.trans {m m2 : List Md} {own own1 own2 : Nat → Addr} (h : OwnK m own own1) (h' : OwnK m2 own1 own2) (hm : ∀ (i : Nat), m[i]? = some .io → m2[i]? = some .io) : OwnK m own own2 := fun i q => (h' i (hm i q)).trans (h i q)
/-- what is lent stays lent -/
def ioK (m m2 : List Md) : Bool := match m, m2 with
  | [], _ => true
  | .io :: r, .io :: t => ioK r t
  | .io :: _, _ => false
  | _ :: r, _ :: t => ioK r t
  | _ :: r, [] => ioK r []
theorem ioK_at : ∀ {m m2 : List Md}, ioK m m2 = true → ∀ (i : Nat), m[i]? = some .io → m2[i]? = some .io
  | [], _, _, i, e => by simp at e
  | .io :: r, .io :: t, h, 0, e => rfl
  | .io :: r, .io :: t, h, i + 1, e => by simpa using ioK_at (m := r) (m2 := t) h i (by simpa using e)
  | .io :: r, [], h, _, _ => Bool.noConfusion (show false = true from h)
  | .io :: r, .no :: t, h, _, _ => Bool.noConfusion (show false = true from h)
  | .io :: r, .sh :: t, h, _, _ => Bool.noConfusion (show false = true from h)
  | .io :: r, .ow :: t, h, _, _ => Bool.noConfusion (show false = true from h)
  | .io :: r, .sb :: t, h, _, _ => Bool.noConfusion (show false = true from h)
  | .io :: r, .xc _ _ :: t, h, _, _ => Bool.noConfusion (show false = true from h)
  | .no :: r, b :: t, h, 0, e => by simp at e
  | .sh :: r, b :: t, h, 0, e => by simp at e
  | .ow :: r, b :: t, h, 0, e => by simp at e
  | .sb :: r, b :: t, h, 0, e => by simp at e
  | .xc _ _ :: r, b :: t, h, 0, e => by simp at e
  | .no :: r, b :: t, h, i + 1, e => by simpa using ioK_at (m := r) (m2 := t) h i (by simpa using e)
  | .sh :: r, b :: t, h, i + 1, e => by simpa using ioK_at (m := r) (m2 := t) h i (by simpa using e)
  | .ow :: r, b :: t, h, i + 1, e => by simpa using ioK_at (m := r) (m2 := t) h i (by simpa using e)
  | .sb :: r, b :: t, h, i + 1, e => by simpa using ioK_at (m := r) (m2 := t) h i (by simpa using e)
  | .xc _ _ :: r, b :: t, h, i + 1, e => by simpa using ioK_at (m := r) (m2 := t) h i (by simpa using e)
  | .no :: r, [], h, 0, e => by simp at e
  | .sh :: r, [], h, 0, e => by simp at e
  | .ow :: r, [], h, 0, e => by simp at e
  | .sb :: r, [], h, 0, e => by simp at e
  | .xc _ _ :: r, [], h, 0, e => by simp at e
  | .no :: r, [], h, i + 1, e => by have := ioK_at (m := r) (m2 := []) h i (by simpa using e); simp at this
  | .sh :: r, [], h, i + 1, e => by have := ioK_at (m := r) (m2 := []) h i (by simpa using e); simp at this
  | .ow :: r, [], h, i + 1, e => by have := ioK_at (m := r) (m2 := []) h i (by simpa using e); simp at this
  | .sb :: r, [], h, i + 1, e => by have := ioK_at (m := r) (m2 := []) h i (by simpa using e); simp at this
  | .xc _ _ :: r, [], h, i + 1, e => by have := ioK_at (m := r) (m2 := []) h i (by simpa using e); simp at this
theorem dss_cons (h1 : Ds X W J m m2 st g1) (h2 : Dss X W J m2 m' sts g2) (hm : ioK m m2 = true := by rfl) : Dss X W J m m' (st :: sts) (sqF g1 g2) := by
  refine ⟨fun g own pins s σ ρ H ps I r hx n w => ?_⟩
  have n1 := ne_of_bind n
  have w1 : WS W X.K g (g1 ρ ps) := fun x ps' dx H' σ' e => w x ps' dx H' σ' (bind_exc e)
  refine wpAny_execs_cons (thn (h1.run g own pins s σ ρ H ps I r hx n1 w1) fun fl s1 q => ?_)
  cases fl with
  | next =>
    obtain ⟨σ1, H1, I1, ρ1, ps1, own1, e1, r1, k1⟩ := q
    have e2 : sqF g1 g2 ρ ps = g2 ρ1 ps1 := bind_ok e1
    rw [e2] at n w ⊢
    exact thn (h2.run g own1 pins s1 σ1 ρ1 H1 ps1 I1 r1 hx n w) fun f s2 q2 => spI' q2 (fun σ H ⟨ρ', ps', own', a, b, c⟩ => ⟨ρ', ps', own', a, b, k1.trans c (ioK_at hm)⟩) (fun σ H ⟨ρ', ps', own', a, b, c⟩ => ⟨ρ', ps', own', a, b, k1.trans c (ioK_at hm)⟩)
      (fun σ H ⟨ρ', ps', own', a, b, c⟩ => ⟨ρ', ps', own', a, b, k1.trans c (ioK_at hm)⟩) (fun v H ⟨d, ρ', ps', own', σ', a, b, c, z⟩ => ⟨d, ρ', ps', own', σ', a, b, k1.trans c (ioK_at hm), z⟩)
  | brk =>
    obtain ⟨σ1, H1, I1, ρ1, ps1, own1, e1, r1, k1⟩ := q
    have e2 : sqF g1 g2 ρ ps = .ok (.bk ρ1) ps1 := bind_ok e1
    exact ⟨σ1, H1, I1, ρ1, ps1, own1, e2, r1, k1⟩
  | cont =>
    obtain ⟨σ1, H1, I1, ρ1, ps1, own1, e1, r1, k1⟩ := q
    have e2 : sqF g1 g2 ρ ps = .ok (.ct ρ1) ps1 := bind_ok e1
    exact ⟨σ1, H1, I1, ρ1, ps1, own1, e2, r1, k1⟩
  | ret u =>
    obtain ⟨v, σ1, H1, I1, rv, d, ρ1, ps1, own1, σ', e1, r1, k1, z⟩ := q
    have e2 : sqF g1 g2 ρ ps = .ok (.rt d ρ1) ps1 := bind_ok e1
    exact ⟨v, σ1, H1, I1, rv, d, ρ1, ps1, own1, σ', e2, r1, k1, z⟩
/-- less is known ahead -/
theorem dss_weak (h : Dss X W J m2 m' sts g1) (hl : leM m m2 = true := by rfl) (hm : ioK m m2 = true := by rfl) : Dss X W J m m' sts g1 := by
  refine ⟨fun g own pins s σ ρ H ps I r hx n w => ?_⟩
  have k : ∀ {own1}, OwnK m2 own own1 → OwnK m own own1 := fun k i q => k i (ioK_at hm i q)
  exact thn (h.run g own pins s σ ρ H ps I (r.weak hl) hx n w) fun f s2 q2 => spI' q2 (fun σ H ⟨ρ', ps', own', a, b, c⟩ => ⟨ρ', ps', own', a, b, k c⟩) (fun σ H ⟨ρ', ps', own', a, b, c⟩ => ⟨ρ', ps', own', a, b, k c⟩)
      (fun σ H ⟨ρ', ps', own', a, b, c⟩ => ⟨ρ', ps', own', a, b, k c⟩) (fun v H ⟨d, ρ', ps', own', σ', a, b, c, z⟩ => ⟨d, ρ', ps', own', σ', a, b, k c, z⟩)
def exF (f : FE) : SF := fun ρ => do let _ ← f ρ; pure (.nx ρ)
def stF (i : Nat) (f : FE) : SF := fun ρ => do let d ← f ρ; pure (.nx (ρ.set i (some d)))
theorem sx_ne {g : G} {i : Nat} (hx : ∀ p ∈ g.sx, p.1 ∈ J.px) (hp : J.px.contains i = false) : ∀ p ∈ g.sx, p.1 ≠ i := fun p q z => by
  have := hx p q
  rw [z] at this
  have h2 : J.px.contains i = true := by simpa using this
  rw [hp] at h2; cases h2
theorem ds_set {i : Nat} {x : Str} {py : Pos} (h : Dx .cl X W m e f) (hN : X.N.Nodup) (hi : X.N[i]? = some x) (hl : Loc X.env.scope x) (hp : J.px.contains i = false := by rfl) (hs : swapsWith e (some (.Name x py)) pos.line X.env = pure false := by rfl) (hf : X.fn x = true ∨ X.env.scope.names.lookup x = some .local := by first | exact .inl rfl | exact .inr rfl) :
    Ds X W J m (m.set i .sh) (.Assign [.Name x py] e pos) (stF i f) := by
  refine ⟨fun g own pins s σ ρ H ps I r hx n w => ?_⟩
  have hiσ : i < σ.length := by rw [I.len]; exact (List.getElem?_eq_some_iff.mp hi).1
  refine (ps_set hN hi hl (pe_c X e) hs hf).run pins s σ H _ I (cE.mono (h.c r (ne_of_bind n) (WS.ex w r)) fun v H' ⟨d, ps', e1, x1, p1, q1⟩ => ?_)
  exact ⟨_, ps', own, bind_ok e1, (r.mono x1 p1).store q1 (sx_ne hx hp) hiσ, .refl⟩
theorem ds_own {i : Nat} {x : Str} {py : Pos} (h : Dx .fr X W m e f) (hN : X.N.Nodup) (hi : X.N[i]? = some x) (hl : Loc X.env.scope x) (hio : (m[i]? == some .io) = false := by rfl) (hp : J.px.contains i = false := by rfl) (hs : swapsWith e (some (.Name x py)) pos.line X.env = pure false := by rfl) (hf : X.fn x = true ∨ X.env.scope.names.lookup x = some .local := by first | exact .inl rfl | exact .inr rfl) :
    Ds X W J m (m.set i .ow) (.Assign [.Name x py] e pos) (stF i f) := by
  refine ⟨fun g own pins s σ ρ H ps I r hx n w => ?_⟩
  have hiσ : i < σ.length := by rw [I.len]; exact (List.getElem?_eq_some_iff.mp hi).1
  refine (ps_set hN hi hl (pe_c X e) hs hf).run pins s σ H _ I (cE.mono (h.c r (ne_of_bind n) (WS.ex w r)) fun v H' ⟨d, ps', e1, x1, p1, p, ev, hn, t⟩ => ?_)
  subst ev
  have nio : m[i]? ≠ some .io := fun z => by rw [z] at hio; cases hio
  exact ⟨_, ps', own2 own i p, bind_ok e1, Rs.storeO (r.mono x1 p1) (d := d) x1 r.base r.xT hn t (sx_ne hx hp) hiσ r, fun j q => own2_ne fun z => nio (by rw [← z]; exact q)⟩
end
end DL
set_option Elab.async false
set_option linter.all false
set_option maxRecDepth 100000
set_option maxHeartbeats 2000000
namespace DL
open PySem PySem.Spec PyProof.Rows L2
section
variable {X : Cx} {W : WX} {J : JP} {m m' m2 : List Md} {e a b c o : Expr} {f f1 f2 : FE} {t : FT} {st : Stmt} {sts sts2 : List Stmt} {g1 g2 : SF} {pos p1' : Pos} {fs : FA}
/-- the list, the dict, the instance at a slot -/
def lstAt (ρ : Rho) (i : Nat) : R (List D) := match ρ[i]?.join with
  | some (.lst ds) => pure ds
  | _ => R.und
def apF (i : Nat) (f : FE) : SF := fun ρ => do
  let ds ← lstAt ρ i
  let d ← f ρ
  if lenC (ds.length + 1) = true then pure (.nx (ρ.set i (some (.lst (ds ++ [d]))))) else R.und
theorem lstAt_ne {ρ : Rho} {i : Nat} {ps : Ps} (n : lstAt ρ i ps ≠ .und) : ∃ ds, ρ[i]? = some (some (.lst ds)) ∧ lstAt ρ i ps = .ok ds ps := by
  unfold lstAt at n ⊢
  cases h : ρ[i]?.join with
  | none => rw [h] at n; exact (n rfl).elim
  | some d =>
    cases d with
    | lst ds => exact ⟨ds, join_some h, rfl⟩
    | _ => rw [h] at n; exact (n rfl).elim
theorem ifF_und {α : Type} {c : Bool} {x : R α} {ps : Ps} (n : (if c = true then x else R.und) ps ≠ .und) : c = true ∧ (if c = true then x else R.und) ps = x ps := by
  cases c with
  | true => exact ⟨rfl, rfl⟩
  | false => exact (n rfl).elim
theorem ds_app {i : Nat} {x : Str} {px apos cpos : Pos} (h : Dx .cl X W m e f) (hN : X.N[i]? = some x) (hv : Vis X.env.scope x) (hm : m[i]? = some .ow ∨ m[i]? = some .io)
    (hd : (x == ("__debug__" : Str)) = false := by decide) (hcd : (x == ("__classdict__" : Str)) = false := by decide) (hbase : attributeBase (.Name x px) "append" X.env (eval (.Name x px) X.env) = eval (.Name x px) X.env := by rfl)
    (hfew : ((backTo cpos (starEach [e] X.env)).all (fun x => !x.1) && (backToKw cpos (keywordEach [] X.env)).all (fun x => x.1.isSome)
      && decide ([e].length + ([] : List Keyword).length + (if ([] : List Keyword).isEmpty then 0 else 1) < 30)) = true := by rfl)
    (hline : (apos.endLine == cpos.line) = true := by rfl) (hs : starEach [e] X.env = (false, eval e X.env) :: starEach [] X.env := by rfl) (hplain : (backTo cpos (starEach [] X.env)).any (·.1) = false := by rfl)
    (hsw : swapsWith (.Call (.Attribute (.Name x px) "append" apos) [e] [] cpos) none pos.line X.env = pure false := by rfl) :
    Ds X W J m m (.Expr (.Call (.Attribute (.Name x px) "append" apos) [e] [] cpos) pos) (apF i f) := by
  refine ⟨fun g own pins s σ ρ H ps I r hx n w => ?_⟩
  obtain ⟨ds, hds, he0⟩ := lstAt_ne (ne_of_bind n)
  obtain ⟨d0, h1, h2, h3, h4, h5⟩ := r.ow i hm
  rw [hds] at h1
  cases h1
  have e0 : apF i f ρ ps = (f ρ >>= fun d => if lenC (ds.length + 1) = true then (pure (.nx (ρ.set i (some (.lst (ds ++ [d]))))) : R Fl) else R.und) ps := bind_ok he0
  rw [e0] at n w ⊢
  refine (ps_expr (pe_bm PySem.F.plainAttrs_list PySem.F.slot_list_append PySem.F.type_list_append mt_append (pe_var hN hv hd hcd) (pa_cons (pe_c X e) pa_nil hs) hbase hfew hline hs hplain) hsw).run pins s σ H _ I ?_
  obtain ⟨vs, hvs, t1⟩ := h3
  refine ⟨_, h2, .inl ⟨rfl, _, .of hvs⟩, cE.mono (h.c r (ne_of_bind n) (WS.ex w r)) fun v H1 ⟨d, ps1, e1, x1, p1, q1⟩ => ?_⟩
  have e2 : (f ρ >>= fun d => if lenC (ds.length + 1) = true then (pure (.nx (ρ.set i (some (.lst (ds ++ [d]))))) : R Fl) else R.und) ps = (if lenC (ds.length + 1) = true then (pure (.nx (ρ.set i (some (.lst (ds ++ [d]))))) : R Fl) else R.und) ps1 := bind_ok e1
  rw [e2] at n
  obtain ⟨hc, he⟩ := ifF_und n
  have r1 := r.mono x1 p1
  have hvs1 : H1 (own i) = some (.lst vs) := x1 _ _ hvs h5
  refine ⟨own i, vs, v, rfl, rfl, hvs1, ?_, ?_⟩
  · rw [t1.length]; exact Nat.lt_of_lt_of_le (Nat.lt_succ_self _) (lenC_ok hc)
  · refine ⟨_, ps1, own, e2.trans he, ?_, .refl⟩
    exact r1.mut hm ⟨_, rfl, (t1.mono (x1.hid Xs.pl)).append (Reps.cons q1 Reps.nil)⟩
/-- d[k] = v, xs[i] = v, the object one of its own -/
def dkAt (ρ : Rho) (i : Nat) : R (List (Key × D)) := match ρ[i]?.join with
  | some (.dk ds) => pure ds
  | _ => R.und
def putD (kvs : List (Key × D)) (k : Key) (d : D) : List (Key × D) := if (kvs.any fun kv => decide (kv.1 = k)) = true then kvs.map (fun kv => if kv.1 = k then (kv.1, d) else kv) else kvs ++ [(k, d)]
theorem RepK.put {pl : Pl} {K : PySem.W.Frag} {H : Hp} {kvs : List (Key × D)} {vs : List (Key × V)} (h : RepK pl K H kvs vs) (k : Key) {d : D} {v : V} (hd : Rep pl K H d v) : RepK pl K H (putD kvs k d) (putK vs k v) := by
  have hany : (kvs.any fun kv => decide (kv.1 = k)) = (vs.any fun kv => decide (kv.1 = k)) := by
    induction kvs generalizing vs with
    | nil => unfold RepK at h; rw [h]; rfl
    | cons a r ih =>
      obtain ⟨k', d'⟩ := a
      unfold RepK at h
      obtain ⟨v', r', rfl, h2, h3⟩ := h
      rw [List.any_cons, List.any_cons, ih h3]
  unfold putD putK
  rw [hany]
  split
  · rename_i hh; clear hany hh
    induction kvs generalizing vs with
    | nil => unfold RepK at h; rw [h]; unfold RepK; rfl
    | cons a r ih =>
      obtain ⟨k', d'⟩ := a
      unfold RepK at h
      obtain ⟨v', r', rfl, h2, h3⟩ := h
      rw [List.map_cons, List.map_cons]
      by_cases e : k' = k
      · rw [if_pos e, if_pos e]
        unfold RepK
        exact ⟨v, _, rfl, hd, ih h3⟩
      · rw [if_neg e, if_neg e]
        unfold RepK
        exact ⟨v', _, rfl, h2, ih h3⟩
  · rename_i hh; clear hany hh
    induction kvs generalizing vs with
    | nil =>
      unfold RepK at h; rw [h]
      show RepK pl K H [(k, d)] [(k, v)]
      unfold RepK
      exact ⟨v, [], rfl, hd, by unfold RepK; rfl⟩
    | cons a r ih =>
      obtain ⟨k', d'⟩ := a
      unfold RepK at h
      obtain ⟨v', r', rfl, h2, h3⟩ := h
      rw [List.cons_append, List.cons_append]
      unfold RepK
      exact ⟨v', _, rfl, h2, ih h3⟩
def putF' (i : Nat) (fk f : FE) : SF := fun ρ => do
  let kvs ← dkAt ρ i
  let d ← f ρ
  let k ← fk ρ
  match keyOf k with
  | some k => if lenC (kvs.length + 1) = true then pure (.nx (ρ.set i (some (.dk (putD kvs k d))))) else R.und
  | none => R.und
/-- self.f = v, the object lent or of its own -/
def insAt (C : Addr) (ρ : Rho) (i : Nat) : R (List (Str × D)) := match ρ[i]?.join with
  | some (.ins C' fs) => if C' = C then pure fs else R.und
  | _ => R.und
def setFl (nm : Str) (d : D) : List (Str × D) → List (Str × D)
  | [] => [(nm, d)]
  | (g, x) :: r => if g = nm then (g, d) :: r else (g, x) :: setFl nm d r
theorem RepF.put {pl : Pl} {K : PySem.W.Frag} {H : Hp} {nm : Str} {d : D} {v : V} (hd : Rep pl K H d v) : ∀ {fs : List (Str × D)} {vs : List (Str × V)}, RepF pl K H fs vs → RepF pl K H (setFl nm d fs) (putF nm v vs)
  | [], _, h => by
    unfold RepF at h; rw [h]
    show RepF pl K H [(nm, d)] [(nm, v)]
    unfold RepF
    exact ⟨v, [], rfl, hd, by unfold RepF; rfl⟩
  | (g, x) :: r, _, h => by
    unfold RepF at h
    obtain ⟨v', t, rfl, h2, h3⟩ := h
    unfold setFl putF
    by_cases e : g = nm
    · rw [if_pos e, if_pos e]; unfold RepF; exact ⟨v, t, rfl, hd, h3⟩
    · rw [if_neg e, if_neg e]; unfold RepF; exact ⟨v', _, rfl, h2, RepF.put hd h3⟩
theorem RepF.length {pl : Pl} {K : PySem.W.Frag} {H : Hp} : ∀ {fs : List (Str × D)} {vs : List (Str × V)}, RepF pl K H fs vs → vs.length = fs.length
  | [], _, h => by unfold RepF at h; rw [h]; rfl
  | (g, x) :: r, _, h => by
    unfold RepF at h
    obtain ⟨v', t, rfl, h2, h3⟩ := h
    rw [List.length_cons, List.length_cons, RepF.length h3]
def fsF (C : Addr) (i : Nat) (nm : Str) (f : FE) : SF := fun ρ => do
  let d ← f ρ
  let fs ← insAt C ρ i
  if decide (fs.length < 900) = true then pure (.nx (ρ.set i (some (.ins C (setFl nm d fs))))) else R.und
def reF (f : FE) : SF := fun ρ => do let d ← f ρ; pure (.rt d ρ)
theorem ds_ret (h : Dx .cl X W m e f) (hl : leM m J.mr = true := by rfl) (hf : J.fr = false := by rfl) : Ds X W J m m' (.Return (some e) pos) (reF f) := by
  refine ⟨fun g own pins s σ ρ H ps I r hx n w => ?_⟩
  refine (ps_ret (pe_c X e)).run pins s σ H _ I (cE.mono (h.c r (ne_of_bind n) (WS.ex w r)) fun v H' ⟨d, ps', e1, x1, p1, q1⟩ => ?_)
  have r1 := r.mono x1 p1
  refine ⟨d, ρ, ps', own, σ, bind_ok e1, r1.weak hl, .refl, ?_⟩
  unfold RtQ; rw [hf]
  refine Rep.mono (hid_sub fun a z => ?_) q1
  rcases z with z | z | ⟨i, z, q⟩
  · exact .inl z
  · exact .inr (.inl z)
  · refine .inr (.inr ⟨i, ?_, q⟩)
    rcases z with z | z
    · exact .inl (leM_at hl i _ z (by decide))
    · exact .inr (leM_at hl i _ z (by decide))
theorem xs_weak {m m' : List Md} {own : Nat → Addr} {g : G} (hl : leM m m' = true) : ∀ a, Xs m' own g a → Xs m own g a := fun a z => by
  rcases z with z | z | ⟨i, z, q⟩
  · exact .inl z
  · exact .inr (.inl z)
  · refine .inr (.inr ⟨i, ?_, q⟩)
    rcases z with z | z
    · exact .inl (leM_at hl i _ z (by decide))
    · exact .inr (leM_at hl i _ z (by decide))
/-- a new object is returned -/
theorem ds_retF (h : Dx .fr X W m e f) (hl : leM m J.mr = true := by rfl) (hf : J.fr = true := by rfl) : Ds X W J m m' (.Return (some e) pos) (reF f) := by
  refine ⟨fun g own pins s σ ρ H ps I r hx n w => ?_⟩
  refine (ps_ret (pe_c X e)).run pins s σ H _ I (cE.mono (h.c r (ne_of_bind n) (WS.ex w r)) fun v H' ⟨d, ps', e1, x1, p1, p, ev, hn, t⟩ => ?_)
  refine ⟨d, ρ, ps', own, σ, bind_ok e1, (r.mono x1 p1).weak hl, .refl, ?_⟩
  unfold RtQ; rw [hf]
  have np : ¬ plS g.pl p := fun z => r.pool.there z hn
  refine ⟨p, ev, ?_, np, t.mono (hid_sub fun a z => z.imp (xs_weak hl a) id)⟩
  cases z : g.B p with
  | none => rfl
  | some o => rw [r.base p o z np] at hn; cases hn
/-- an object of its own is returned -/
theorem ds_retO {i : Nat} {x : Str} {px : Pos} (hN : X.N[i]? = some x) (hv : Vis X.env.scope x) (hm : m[i]? = some .ow) (hd : (x == ("__debug__" : Str)) = false := by decide) (hcd : (x == ("__classdict__" : Str)) = false := by decide) (hl : leM m J.mr = true := by rfl) (hf : J.fr = true := by rfl) : Ds X W J m m' (.Return (some (.Name x px)) pos) (reF (vF i)) := by
  refine ⟨fun g own pins s σ ρ H ps I r hx n w => ?_⟩
  obtain ⟨d0, e0, e1⟩ := ofO_ne (show vF i ρ ps ≠ .und from ne_of_bind n)
  obtain ⟨d, h1, h2, t, h4, h5⟩ := r.ow i (.inl hm)
  rw [join_some e0] at h1
  cases h1
  refine (ps_ret (pe_var hN hv hd hcd)).run pins s σ H _ I ⟨_, h2, d0, ρ, ps, own, σ, bind_ok e1, r.weak hl, .refl, ?_⟩
  unfold RtQ; rw [hf]
  refine ⟨own i, rfl, h4, h5, t.mono (hid_sub fun a z => ?_)⟩
  rcases z with z | z
  · exact xs_weak hl a z
  · exact .inr (.inr ⟨i, .inl hm, z.symm⟩)
def ifF (t : FT) (g1 g2 : SF) : SF := fun ρ => do let b ← t ρ; if b = true then g1 ρ else g2 ρ
theorem ds_if (h : Tx X W m c t) (h1 : Dss X W J m m' sts g1) (h2 : Dss X W J m m' sts2 g2) : Ds X W J m m' (.If c sts sts2 pos) (ifF t g1 g2) := by
  refine ⟨fun g own pins s σ ρ H ps I r hx n w => ?_⟩
  refine wpAny_If (thn (h.run g own pins s σ ρ H ps I r (ne_of_bind n) (WS.ex w r)) fun d s1 ⟨H1, I1, ps1, e1, x1, p1⟩ => ?_)
  have e2 : ifF t g1 g2 ρ ps = (if d = true then g1 ρ else g2 ρ) ps1 := bind_ok e1
  rw [e2] at n w ⊢
  cases d with
  | true => exact h1.run g own pins s1 σ ρ H1 ps1 I1 (r.mono x1 p1) hx n w
  | false => exact h2.run g own pins s1 σ ρ H1 ps1 I1 (r.mono x1 p1) hx n w
end
end DL
set_option Elab.async false
set_option linter.all false
set_option maxRecDepth 100000
set_option maxHeartbeats 2000000
namespace DL
open PySem PySem.Spec PyProof.Rows L2
section
variable {X : Cx} {W : WX} {J : JP} {m m' m2 mT : List Md} {e a b c o tg : Expr} {f f1 f2 : FE} {t : FT} {st : Stmt} {sts sts2 : List Stmt} {g1 g2 : SF} {pos p1' : Pos} {fs : FA}
/-- what follows a turn -/
def lpK (k : SF) : Fl → R Fl
  | .nx ρ => k ρ
  | .ct ρ => k ρ
  | .bk ρ => pure (.nx ρ)
  | .rt d ρ => pure (.rt d ρ)
def cSs (X : Cx) (sts : List Stmt) : TS := fun D σ H => ∀ pins s, Inv X pins σ H s → wpAny (model X.prog X.w) X.A (execs sts X.env) (SP X pins D) X.xe s
theorem pss_c (X : Cx) (sts : List Stmt) : PSs X sts (cSs X sts) := ⟨fun pins s σ H D I h => h pins s I⟩
/-- within a loop -/
def JP.lp (J : JP) (m : List Md) : JP := { J with mb := m }
/-- only these slots are stored -/
def SameBut (is : List Nat) (σ σ' : L2.St) : Prop := σ'.length = σ.length ∧ ∀ j, j ∉ is → σ'[j]? = σ[j]?
theorem SameBut.set {i : Nat} {σ : L2.St} {v : Option V} : SameBut [i] σ (σ.set i v) := ⟨List.length_set .., fun j h => List.getElem?_set_ne (fun z => h (by rw [z]; exact List.mem_cons_self ..))⟩
def TQ (X : Cx) (mT : List Md) (g : G) (own : Nat → Addr) (pins : List (Addr × Obj)) (σ : L2.St) (is : List Nat) (H : Hp) (ps : Ps) (r : Res Rho) (s' : Shared) : Prop := ∃ ρ' σ', r = .ok ρ' ps ∧ Inv X pins σ' H s' ∧ Rs X.K g mT own σ' ρ' H ps ∧ SameBut is σ σ'
structure TgD (X : Cx) (J : JP) (m mT : List Md) (tg : Expr) (is : List Nat) (F : D → Rho → R Rho) : Prop where
  run : ∀ (g : G) (own : Nat → Addr) (pins : List (Addr × Obj)) (s : Shared) (σ : L2.St) (ρ : Rho) (H : Hp) (ps : Ps) (d : D) (v : V) (u : Value), Inv X pins σ H s → Rs X.K g m own σ ρ H ps → (∀ p ∈ g.sx, p.1 ∈ J.px) → Rep g.pl X.K (hid (Xs m own g) H) d v → RelV v u → F d ρ ps ≠ .und →
    wpAny (model X.prog X.w) X.A (assign tg X.env u) (fun _ s' => TQ X mT g own pins σ is H ps (F d ρ ps) s') X.xe s
  io : ∀ (i : Nat), m[i]? = some .io → mT[i]? = some .io
def nmF (i : Nat) : D → Rho → R Rho := fun d ρ => pure (ρ.set i (some d))
theorem set_io {m : List Md} {i : Nat} (hio : (m[i]? == some .io) = false) : ∀ (j : Nat), m[j]? = some .io → (m.set i .sh)[j]? = some .io := fun j q => by
  rw [List.getElem?_set_ne (fun z => by subst z; rw [q] at hio; cases hio)]; exact q
theorem tg_name {i : Nat} {x : Str} {py : Pos} (hN : X.N.Nodup) (hi : X.N[i]? = some x) (hl : Loc X.env.scope x) (hio : (m[i]? == some .io) = false := by rfl) (hp : J.px.contains i = false := by rfl) (hf : X.fn x = true ∨ X.env.scope.names.lookup x = some .local := by first | exact .inl rfl | exact .inr rfl) : TgD X J m (m.set i .sh) (.Name x py) [i] (nmF i) := by
  refine ⟨fun g own pins s σ ρ H ps d v u I r hx hd rv n => ?_, set_io hio⟩
  exact wpAny_assign_Name (store_ok I hN hi hl rv (fun s' I' => ⟨_, _, rfl, I', r.store hd (sx_ne hx hp) (by rw [I.len]; exact (List.getElem?_eq_some_iff.mp hi).1), .set⟩) hf)
/-- names, one after another -/
def nmsF : List Nat → List D → Rho → R Rho
  | [], [], ρ => pure ρ
  | i :: is, d :: ds, ρ => nmsF is ds (ρ.set i (some d))
  | _, _, _ => R.und
theorem nmsF_len : ∀ {is : List Nat} {ds : List D} {ρ : Rho} {ps : Ps}, nmsF is ds ρ ps ≠ .und → ds.length = is.length
  | [], [], _, _, _ => rfl
  | i :: is, d :: ds, ρ, ps, n => by rw [List.length_cons, List.length_cons, nmsF_len (show nmsF is ds (ρ.set i (some d)) ps ≠ .und from n)]
  | [], _ :: _, _, _, n => (n rfl).elim
  | _ :: _, [], _, _, n => (n rfl).elim
structure TgsD (X : Cx) (J : JP) (m mT : List Md) (tgs : List Expr) (is : List Nat) (F : List D → Rho → R Rho) : Prop where
  run : ∀ (g : G) (own : Nat → Addr) (pins : List (Addr × Obj)) (s : Shared) (σ : L2.St) (ρ : Rho) (H : Hp) (ps : Ps) (ds : List D) (vs : List V) (us : List Value), Inv X pins σ H s → Rs X.K g m own σ ρ H ps → (∀ p ∈ g.sx, p.1 ∈ J.px) → Reps g.pl X.K (hid (Xs m own g) H) ds vs → Vals vs us → F ds ρ ps ≠ .und →
    wpAny (model X.prog X.w) X.A (assignInOrder ((assignEach tgs X.env).map (·.2)) us) (fun _ s' => TQ X mT g own pins σ is H ps (F ds ρ ps) s') X.xe s
  io : ∀ (i : Nat), m[i]? = some .io → mT[i]? = some .io
theorem tgs_nil : TgsD X J m m [] [] (nmsF []) := by
  refine ⟨fun g own pins s σ ρ H ps ds vs us I r hx hd rv n => ?_, fun _ z => z⟩
  cases ds with
  | nil =>
    rw [hd.inv_nil] at rv
    cases rv
    exact assignInOrder_nil ⟨ρ, σ, rfl, I, r, rfl, fun _ _ => rfl⟩
  | cons _ _ => exact (n rfl).elim
theorem Xs.set {i : Nat} {g : G} {own : Nat → Addr} {H : Hp} : Ex (hid (Xs m own g) H) (hid (Xs (m.set i .sh) own g) H) := hid_sub fun a q => by
  rcases q with q | q | ⟨j, q, e⟩
  · exact .inl q
  · exact .inr (.inl q)
  · exact .inr (.inr ⟨j, (set_ow q ⟨by decide, by decide⟩).2, e⟩)
theorem tgs_cons {i : Nat} {is : List Nat} {x : Str} {py : Pos} {tgs : List Expr} (hN : X.N.Nodup) (hi : X.N[i]? = some x) (hl : Loc X.env.scope x) (ht : TgsD X J (m.set i .sh) mT tgs is (nmsF is)) (hio : (m[i]? == some .io) = false := by rfl) (hp : J.px.contains i = false := by rfl) (hf : X.fn x = true ∨ X.env.scope.names.lookup x = some .local := by first | exact .inl rfl | exact .inr rfl)
    (hs : (assignEach (.Name x py :: tgs) X.env).map (·.2) = assign (.Name x py) X.env :: (assignEach tgs X.env).map (·.2) := by rfl) : TgsD X J m mT (.Name x py :: tgs) (i :: is) (nmsF (i :: is)) := by
  refine ⟨fun g own pins s σ ρ H ps ds vs us I r hx hd rv n => ?_, fun j z => ht.io j (set_io hio j z)⟩
  cases ds with
  | nil => exact (n rfl).elim
  | cons d ds =>
    obtain ⟨v, vs', rfl, h2, h3⟩ := hd.inv_cons
    cases rv with
    | cons r1 r2 =>
      rw [hs]
      refine assignInOrder_cons (wpAny_assign_Name (store_ok I hN hi hl r1 (fun s1 I1 => ?_) hf))
      refine thn (ht.run g own pins s1 _ _ H ps ds vs' _ I1 (r.store h2 (sx_ne hx hp) (by rw [I.len]; exact (List.getElem?_eq_some_iff.mp hi).1)) hx (h3.mono Xs.set) r2 n) fun _ s2 ⟨ρ', σ', a1, a2, a3, a4⟩ => ⟨ρ', σ', a1, a2, a3, by rw [a4.1, List.length_set], fun j hj => ?_⟩
      rw [a4.2 j (fun z => hj (List.mem_cons_of_mem _ z)), List.getElem?_set_ne (fun z => hj (by rw [z]; exact List.mem_cons_self ..))]
/-- (a, b, ..) = a tuple -/
def tpF (is : List Nat) : D → Rho → R Rho := fun d ρ => match d with
  | .tup ds => nmsF is ds ρ
  | _ => R.und
theorem tg_tup {is : List Nat} {tgs : List Expr} {k : Nat} {py : Pos} (hc : X.calm = true) (h : TgsD X J m mT tgs is (nmsF is)) (hn : (assignEach tgs X.env).length = is.length := by rfl) (hst : (assignEach tgs X.env).findIdx? (·.1) = none := by rfl) : TgD X J m mT (.Tuple tgs k py) is (tpF is) := by
  refine ⟨fun g own pins s σ ρ H ps d v u I r hx hd rv n => ?_, h.io⟩
  cases d with
  | tup ds =>
    unfold Rep at hd
    obtain ⟨a, xs, rfl, hq, t1⟩ := hd
    have hq := hid_ex.st (SqT.of (K := X.K) hq)
    obtain rfl : u = Value.ref a := rv
    obtain ⟨its, rv, ht, hz⟩ := I.tuple hq
    have hl := nmsF_len (show nmsF is ds ρ ps ≠ .und from n)
    refine assign_Tuple_tuple (I.ok.hd hc) ht (by simp [hn, ← hl, ← t1.length, rv.length]) hst fun h' hx' => ?_
    have I1 : Inv X pins σ H { s with heap := h' } := I.kept (t' := s.toks) fun b o e => hx' b o (Nat.ne_of_lt (Heap.lt_size e)) e
    exact h.run g own pins _ σ ρ H ps ds xs _ I1 r hx t1 (by simpa using rv) n
  | _ => exact (n rfl).elim
/-- a, b = e -/
def asF (f : FE) (F : D → Rho → R Rho) : SF := fun ρ => do let d ← f ρ; let ρ' ← F d ρ; pure (.nx ρ')
end
end DL
set_option Elab.async false
set_option linter.all false
set_option maxRecDepth 100000
set_option maxHeartbeats 2000000
namespace DL
open PySem PySem.Spec PyProof.Rows L2
/-- what a turn yields: a value, or a new tuple of values -/
inductive Item where
  | one (d : D) (v : V) | tup (ds : List D) (vs : List V) | key (k : List Key)
def Item.d : Item → D
  | .one d _ => d
  | .tup ds _ => .tup ds
  | .key k => keyTD k
def Item.ps : Item → List (D × V)
  | .one d v => [(d, v)]
  | .tup ds vs => ds.zip vs
  | .key _ => []
def Item.R (pl : Pl) (K : PySem.W.Frag) (H : Hp) : Item → Prop
  | .one d v => Rep pl K H d v
  | .tup ds vs => Reps pl K H ds vs
  | .key _ => True
def Item.Y (it : Item) (H : Hp) (x : V) (H' : Hp) : Prop := match it with
  | .one _ v => x = v ∧ H' = H
  | .tup _ vs => ∃ T, x = .ref T ∧ H T = none ∧ H' = upd H T (.tup vs)
  | .key k => H' = H ∧ ∃ q, x = .ref q ∧ H q = some (.tup (k.map kV))
def KeepH (ks : List (Addr × HO)) (H : Hp) : Prop := ∀ p ∈ ks, H p.1 = some p.2
structure WalkOk (J : It) (ks : List (Addr × HO)) (its : List Item) : Prop where
  go : ∀ i H, i < its.length → KeepH ks H → J.go i H
  stop : ∀ H, KeepH ks H → J.stop its.length H
  yld : ∀ i x H H' it, its[i]? = some it → KeepH ks H → J.yld i H x H' → it.Y H x H'
  ne : ∀ p ∈ ks, ∀ φ, p.2 ≠ .ext φ
def UOw (m : List Md) (own : Nat → Addr) : Addr → Prop := fun a => ∃ i, (m[i]? = some .ow ∨ m[i]? = some .io) ∧ own i = a
def QI (m : List Md) (own : Nat → Addr) (pl : Pl) (K : PySem.W.Frag) (O : Addr → Prop) (H : Hp) (r : Res (List D)) : It → Hp → Prop := fun J H1 =>
  ∃ its ps1 ks, r = .ok (its.map Item.d) ps1 ∧ Exo (plS pl) H H1 ∧ PoolAt pl H1 ps1 ∧ WalkOk J ks its ∧ (∀ p ∈ ks, H1 p.1 = some p.2 ∧ ¬ plS pl p.1 ∧ ¬ UOw m own p.1) ∧ ∀ it ∈ its, it.R pl K (hid O H1)
def cI (X : Cx) (tg iter : Expr) : TI := fun σ H R => ∀ pins s, Inv X pins σ H s → wpAny (model X.prog X.w) X.A (eval iter X.env) (fun v s1 => wpAny (model X.prog X.w) X.A (pyIter v) (PIE X pins σ tg R) X.xe s1) X.xe s
theorem pi_c (X : Cx) (tg iter : Expr) : PI X tg iter (cI X tg iter) := ⟨fun pins s σ H R I h => h pins s I⟩
structure DI (X : Cx) (W : WX) (m : List Md) (tg iter : Expr) (f : FA) : Prop where
  run : ∀ (g : G) (own : Nat → Addr) (pins : List (Addr × Obj)) (s : Shared) (σ : L2.St) (ρ : Rho) (H : Hp) (ps : Ps), Inv X pins σ H s → Rs X.K g m own σ ρ H ps → f ρ ps ≠ .und → WOk W g.pl X.K (Xs m own g) σ H (f ρ ps) →
    wpAny (model X.prog X.w) X.A (eval iter X.env) (fun v s1 => wpAny (model X.prog X.w) X.A (pyIter v) (PIE X pins σ tg (QI m own g.pl X.K (Xs m own g) H (f ρ ps))) X.xe s1) X.xe s
theorem DI.can {X : Cx} {W : WX} {m : List Md} {tg iter : Expr} {f : FA} (h : DI X W m tg iter f) {g : G} {own : Nat → Addr} {σ : L2.St} {ρ : Rho} {H : Hp} {ps : Ps} (r : Rs X.K g m own σ ρ H ps) (n : f ρ ps ≠ .und) (w : WOk W g.pl X.K (Xs m own g) σ H (f ρ ps)) :
    cI X tg iter σ H (QI m own g.pl X.K (Xs m own g) H (f ρ ps)) := fun pins s I => h.run g own pins s σ ρ H ps I r n w
def overB (B : Hp) (ks : List (Addr × HO)) : Hp := fun b => match ks.find? (fun p => decide (p.1 = b)) with
  | some p => some p.2
  | none => B b
theorem overB_in {B : Hp} {ks : List (Addr × HO)} {H : Hp} {p : Addr × HO} (hk : ∀ p ∈ ks, H p.1 = some p.2) (hp : p ∈ ks) : overB B ks p.1 = some p.2 := by
  unfold overB
  cases h : ks.find? (fun q => decide (q.1 = p.1)) with
  | none =>
    have := List.find?_eq_none.mp h p hp
    simp at this
  | some q =>
    have h1 := List.find?_some h
    have e : q.1 = p.1 := of_decide_eq_true h1
    have h2 := hk q (List.mem_of_find?_eq_some h)
    rw [e, hk p hp] at h2
    show some q.2 = some p.2
    exact h2.symm
theorem overB_cases {B : Hp} {ks : List (Addr × HO)} {b : Addr} {o : HO} (h : overB B ks b = some o) : (b, o) ∈ ks ∨ B b = some o := by
  unfold overB at h
  cases q : ks.find? (fun p => decide (p.1 = b)) with
  | none => rw [q] at h; exact .inr h
  | some p =>
    rw [q] at h
    have q1 := List.find?_some q
    have e : p.1 = b := of_decide_eq_true q1
    have h : p.2 = o := Option.some.inj h
    left
    rw [← e, ← h]
    exact List.mem_of_find?_eq_some q
def G.wk (g : G) (ks : List (Addr × HO)) (its : List Item) : G := { g with B := overB g.B ks, ex := its.flatMap Item.ps ++ g.ex }
section
variable {K : PySem.W.Frag} {g : G} {m m' : List Md} {own : Nat → Addr} {σ : L2.St} {ρ : Rho} {H : Hp} {ps : Ps} {ks : List (Addr × HO)} {its : List Item}
theorem zip_reps {pl : Pl} {H : Hp} : ∀ {ds : List D} {vs : List V}, Reps pl K H ds vs → ∀ p ∈ ds.zip vs, Rep pl K H p.1 p.2
  | [], _, _, p, hp => by simp at hp
  | d :: ds, _, h, p, hp => by
    obtain ⟨v, r, rfl, h2, h3⟩ := h.inv_cons
    rw [List.zip_cons_cons] at hp
    rcases List.mem_cons.mp hp with rfl | hp
    · exact h2
    · exact zip_reps h3 p hp
theorem reps_zip {pl : Pl} {H : Hp} : ∀ {ds : List D} {vs : List V}, vs.length = ds.length → (∀ p ∈ ds.zip vs, Rep pl K H p.1 p.2) → Reps pl K H ds vs
  | [], [], _, _ => Reps.nil
  | d :: ds, v :: vs, hl, h => Reps.cons (h (d, v) (List.mem_cons_self ..)) (reps_zip (by simpa using hl) fun p hp => h p (List.mem_cons_of_mem _ hp))
  | [], _ :: _, hl, _ => by simp at hl
  | _ :: _, [], hl, _ => by simp at hl
theorem Rs.wk (r : Rs K g m own σ ρ H ps) (hk : ∀ p ∈ ks, H p.1 = some p.2 ∧ ¬ plS g.pl p.1 ∧ ¬ UOw m own p.1) (hi : ∀ it ∈ its, it.R g.pl K (hid (Xs m own g) H)) : Rs K (g.wk ks its) m own σ ρ H ps :=
  { r with
    ow := fun i q => by
      obtain ⟨d, h1, h2, h3, h4, h5⟩ := r.ow i q
      refine ⟨d, h1, h2, h3, ?_, h5⟩
      show overB g.B ks (own i) = none
      cases hb : overB g.B ks (own i) with
      | none => rfl
      | some o =>
        rcases overB_cases hb with z | z
        · exact ((hk _ z).2.2 ⟨i, q, rfl⟩).elim
        · rw [h4] at z; cases z
    ex := fun p hp => by
      rcases List.mem_append.mp hp with hp | hp
      · obtain ⟨it, h1, h2⟩ := List.mem_flatMap.mp hp
        have := hi it h1
        cases it with
        | one d v =>
          rw [show p = (d, v) from by simpa [Item.ps] using h2]
          exact this
        | tup ds vs => exact zip_reps this p h2
        | key k => simp [Item.ps] at h2
      · exact r.ex p hp
    base := fun a o h n => by
      rcases overB_cases h with z | z
      · exact (hk _ z).1
      · exact r.base a o z n }
theorem Rs.unwk {own' : Nat → Addr} (r : Rs K (g.wk ks its) m own' σ ρ H ps) {H0 : Hp} (hk : ∀ p ∈ ks, H0 p.1 = some p.2 ∧ ¬ plS g.pl p.1) (hB : Exo (plS g.pl) g.B H0) : Rs K g m own' σ ρ H ps :=
  have up : ∀ a o, g.B a = some o → ¬ plS g.pl a → overB g.B ks a = some o := fun a o h n => by
    unfold overB
    cases q : ks.find? (fun p => decide (p.1 = a)) with
    | none => exact h
    | some p =>
      have q1 := List.find?_some q
      have e : p.1 = a := of_decide_eq_true q1
      have h2 := (hk p (List.mem_of_find?_eq_some q)).1
      rw [e, hB a o h n] at h2
      show some p.2 = some o
      exact h2.symm
  { r with
    ow := fun i q => by
      obtain ⟨d, h1, h2, h3, h4, h5⟩ := r.ow i q
      refine ⟨d, h1, h2, h3, ?_, h5⟩
      cases hb : g.B (own' i) with
      | none => rfl
      | some o => rw [show (g.wk ks its).B (own' i) = overB g.B ks (own' i) from rfl, up _ o hb h5] at h4; cases h4
    ex := fun p hp => r.ex p (List.mem_append_right _ hp)
    base := fun a o h n => r.base a o (up a o h n) n }
theorem Rs.keep {own' : Nat → Addr} (r : Rs K (g.wk ks its) m own' σ ρ H ps) {H0 : Hp} (hk : ∀ p ∈ ks, H0 p.1 = some p.2 ∧ ¬ plS g.pl p.1) : KeepH ks H := fun p hp =>
  r.base p.1 p.2 (overB_in (fun q hq => (hk q hq).1) hp) (hk p hp).2
end
section
variable {X : Cx} {W : WX} {J : JP} {m m' m2 mT : List Md} {e a b c o tg iter : Expr} {f f1 f2 : FE} {t : FT} {st : Stmt} {sts sts2 : List Stmt} {g1 g2 : SF} {pos p1' : Pos} {fs : FA} {F : D → Rho → R Rho}
def foN (F : D → Rho → R Rho) (body : SF) : List D → SF
  | [] => fun ρ => pure (.nx ρ)
  | d :: ds => fun ρ => do let ρ1 ← F d ρ; let fl ← body ρ1; lpK (foN F body ds) fl
def foF (fs : FA) (F : D → Rho → R Rho) (body : SF) : SF := fun ρ => do let ds ← fs ρ; foN F body ds ρ
def cG (X : Cx) (tg : Expr) : TG := fun v σ H Q => ∀ pins s u, Inv X pins σ H s → RelV v u → wpAny (model X.prog X.w) X.A (assign tg X.env u) (fun _ s' => ∃ σ' H', Inv X pins σ' H' s' ∧ Q σ' H') X.xe s
theorem pg_c (X : Cx) (tg : Expr) : PG X tg (cG X tg) := ⟨fun pins s σ H v u Q I rv h => h pins s u I rv⟩
theorem WS.wk {K : PySem.W.Frag} {g : G} {ks : List (Addr × HO)} {its : List Item} {r : Res Fl} (w : WS W K g r) {H0 : Hp} (hk : ∀ p ∈ ks, H0 p.1 = some p.2 ∧ ¬ plS g.pl p.1) (hB : Exo (plS g.pl) g.B H0) : WS W K (g.wk ks its) r :=
  fun x ps' dx H' σ' e1 e2 => w x ps' dx H' σ' e1 fun a o h n => e2 a o (by
    show overB g.B ks a = some o
    unfold overB
    cases q : ks.find? (fun p => decide (p.1 = a)) with
    | none => exact h
    | some p =>
      have q1 := List.find?_some q
      have e : p.1 = a := of_decide_eq_true q1
      have h2 := (hk p (List.mem_of_find?_eq_some q)).1
      rw [e, hB a o h n] at h2
      show some p.2 = some o
      exact h2.symm) n
theorem RtQ.unwk {K : PySem.W.Frag} {J : JP} {g : G} {m : List Md} {own : Nat → Addr} {H H0 : Hp} {d : D} {v : V} {ks : List (Addr × HO)} {its : List Item} (h : RtQ K (J.lp m) (g.wk ks its) own H d v) (hk : ∀ p ∈ ks, H0 p.1 = some p.2 ∧ ¬ plS g.pl p.1) (hB : Exo (plS g.pl) g.B H0) : RtQ K J g own H d v := by
  unfold RtQ at h ⊢
  have e : (J.lp m).fr = J.fr := rfl
  rw [e] at h
  cases hf : J.fr with
  | false => rw [hf] at h; exact h
  | true =>
    rw [hf] at h
    obtain ⟨p, e1, e2, e3, e4⟩ := h
    refine ⟨p, e1, ?_, e3, e4⟩
    cases hb : g.B p with
    | none => rfl
    | some o =>
      have e2 : overB g.B ks p = none := e2
      unfold overB at e2
      cases q : ks.find? (fun z => decide (z.1 = p)) with
      | none => rw [q] at e2; rw [hb] at e2; cases e2
      | some z => rw [q] at e2; cases e2
theorem for_core (hp : PassesOwn (model X.prog X.w) X.A X.env X.xe) (hc : X.calm = true) {is : List Nat} (ht : TgD X (J.lp m) m mT tg is F) (hb : Dss X W (J.lp m) mT m sts g1) (hs : ∀ x, foldedSetIterable iter X.env x = pure x)
    {g : G} {own : Nat → Addr} {pins : List (Addr × Obj)} {s : Shared} {σ : L2.St} {ρ : Rho} {H : Hp} {ps : Ps} (I : Inv X pins σ H s) (r : Rs X.K g m own σ ρ H ps) (hx : ∀ p ∈ g.sx, p.1 ∈ J.px) (hcI : cI X tg iter σ H (QI m own g.pl X.K (Xs m own g) H (fs ρ ps)))
    (n : foF fs F g1 ρ ps ≠ .und) (w : WS W X.K g (foF fs F g1 ρ ps)) : wpAny (model X.prog X.w) X.A (exec (.For tg iter sts [] pos) X.env) (SP X pins (DD X J m m g own (foF fs F g1 ρ ps))) X.xe s := by
  refine (ps_for hp hc (pi_c X tg iter) (pg_c X tg) (pss_c X sts) hs).run pins s σ H _ I fun pins0 s0 I0 => ?_
  refine thn (hcI pins0 s0 I0) fun v s1 h1 => thn h1 fun itv s2 h2 => ?_
  obtain ⟨it, fp, tn, JJ, H1, e1, I1, T, st2, f2, its, ps1, ks, e2, x1, p1, wk, hk, hits⟩ := h2
  refine ⟨it, fp, tn, JJ, H1, e1, I1, T, st2, f2, ?_⟩
  have e3 : foF fs F g1 ρ ps = foN F g1 (its.map Item.d) ρ ps1 := bind_ok e2
  have r1 := (r.mono x1 p1).wk hk hits
  have hk' : ∀ p ∈ ks, H1 p.1 = some p.2 ∧ ¬ plS g.pl p.1 := fun p hp => ⟨(hk p hp).1, (hk p hp).2.1⟩
  have hB := r.base.trans x1
  have w' := WS.wk (its := its) w hk' hB
  have unw : ∀ {mm : List Md} {own1 : Nat → Addr} {σ1 : L2.St} {ρ1 : Rho} {H2 : Hp} {ps2 : Ps}, Rs X.K (g.wk ks its) mm own1 σ1 ρ1 H2 ps2 → Rs X.K g mm own1 σ1 ρ1 H2 ps2 := fun q => q.unwk hk' hB
  refine ⟨fun i k σ1 H2 => k = its.length - i ∧ i ≤ its.length ∧ ∃ ρ1 ps2 own1, Rs X.K (g.wk ks its) m own1 σ1 ρ1 H2 ps2 ∧ foF fs F g1 ρ ps = foN F g1 ((its.map Item.d).drop i) ρ1 ps2 ∧ OwnK m own own1, ⟨its.length, by simp, Nat.zero_le _, ρ, ps1, own, r1, e3, .refl⟩, ?_⟩
  rintro i k σ1 H2 ⟨rfl, hil, ρ1, ps2, own1, r2, e4, k1⟩
  have kH := r2.keep hk'
  by_cases hlt : i < its.length
  · right
    refine ⟨wk.go i H2 hlt kH, fun σ' H' => (i + 1 ≤ its.length) ∧ ∃ ρ' ps' own', Rs X.K (g.wk ks its) m own' σ' ρ' H' ps' ∧ foF fs F g1 ρ ps = foN F g1 ((its.map Item.d).drop (i + 1)) ρ' ps' ∧ OwnK m own own', fun σ' H' ⟨q1, q2⟩ => ⟨its.length - (i + 1), by omega, rfl, q1, q2⟩, fun x H' hy => ?_⟩
    have hit := List.getElem?_eq_getElem hlt
    have hY := wk.yld i x H2 H' its[i] hit kH hy
    have hdrop : (its.map Item.d).drop i = its[i].d :: (its.map Item.d).drop (i + 1) := by
      rw [List.drop_eq_getElem_cons (by simpa using hlt)]; simp
    rw [hdrop] at e4
    have e4 : foF fs F g1 ρ ps = (F its[i].d ρ1 >>= fun ρ1 => g1 ρ1 >>= fun fl => lpK (foN F g1 ((its.map Item.d).drop (i + 1))) fl) ps2 := e4
    have n4 := n
    have w4 := w'
    rw [e4] at n4 w4
    -- the turn's value
    have hval : Exo (plS g.pl) H2 H' ∧ PoolAt g.pl H' ps2 ∧ Rep g.pl X.K (hid (Xs m own1 (g.wk ks its)) H') its[i].d x := by
      cases hc' : its[i] with
      | one d v =>
        rw [hc'] at hY
        obtain ⟨rfl, rfl⟩ := hY
        refine ⟨Exo.refl, r2.pool, ?_⟩
        exact r2.ex (d, x) (List.mem_append_left _ (List.mem_flatMap.mpr ⟨its[i], List.getElem_mem hlt, by rw [hc']; exact List.mem_cons_self ..⟩))
      | tup ds vs =>
        rw [hc'] at hY
        obtain ⟨T', rfl, hT, rfl⟩ := hY
        have hl : vs.length = ds.length := by
          have := hits its[i] (List.getElem_mem hlt)
          rw [hc'] at this
          exact Reps.length (show Reps g.pl X.K _ ds vs from this)
        have hr : Reps g.pl X.K (hid (Xs m own1 (g.wk ks its)) H2) ds vs := reps_zip hl fun p hp => r2.ex p (List.mem_append_left _ (List.mem_flatMap.mpr ⟨its[i], List.getElem_mem hlt, by rw [hc']; exact hp⟩))
        refine ⟨Exo.new hT, r2.pool.new hT, ?_⟩
        have np : ¬ Xs m own1 (g.wk ks its) T' := fun z => r2.xT T' z hT
        show Rep _ _ _ (.tup ds) _
        unfold Rep
        refine ⟨T', vs, rfl, (by rw [hid_at np]; exact upd_same), hr.mono fun a o q => ?_⟩
        obtain ⟨n1, q⟩ := hid_of q
        rw [hid_at n1, upd_ne (ne_of_none q hT)]
        exact q
      | key k =>
        rw [hc'] at hY
        obtain ⟨rfl, q, rfl, hq⟩ := hY
        refine ⟨Exo.refl, r2.pool, ?_⟩
        show Rep _ _ _ (.tup (k.map keyD)) _
        unfold Rep
        exact ⟨q, k.map kV, rfl, by rw [hid_at fun z => (r2.xT q z).t _ hq]; exact hq, keysD_reps k⟩
    obtain ⟨x2, p2, hrep⟩ := hval
    have r3 := r2.mono x2 p2
    intro pins3 s3 u I3 rv
    refine thn (ht.run (g.wk ks its) own1 pins3 s3 σ1 ρ1 H' ps2 its[i].d x u I3 r3 hx hrep rv (ne_of_bind n4)) fun _ s4 ⟨ρ2, σ2, e5, I4, r4, _⟩ => ⟨σ2, H', I4, fun pins5 s5 I5 => ?_⟩
    rw [bind_ok e5] at e4 n4 w4
    have w5 : WS W X.K (g.wk ks its) (g1 ρ2 ps2) := fun x ps' dx H' σ' e => w4 x ps' dx H' σ' (bind_exc e)
    have kk : ∀ {own'}, OwnK mT own1 own' → OwnK m own own' := fun z i q => (z i (ht.io i q)).trans (k1 i q)
    refine thn (hb.run (g.wk ks its) own1 pins5 s5 σ2 ρ2 H' ps2 I5 r4 hx (ne_of_bind n4) w5) fun fl s6 q => spI' q (fun σ' H' ⟨ρ', ps', own', a1, a2, a3⟩ => ⟨hlt, ρ', ps', own', a2, ?_, kk a3⟩) (fun σ' H' ⟨ρ', ps', own', a1, a2, a3⟩ => ⟨ρ', ps', own', ?_, unw a2, kk a3⟩)
        (fun σ' H' ⟨ρ', ps', own', a1, a2, a3⟩ => ⟨hlt, ρ', ps', own', a2, ?_, kk a3⟩) (fun v H' ⟨d, ρ', ps', own', σ', a1, a2, a3, a4⟩ => ⟨d, ρ', ps', own', σ', ?_, unw a2, kk a3, a4.unwk hk' hB⟩)
    · rw [e4]; exact bind_ok a1
    · rw [e4]; exact bind_ok a1
    · rw [e4]; exact bind_ok a1
    · rw [e4]; exact bind_ok a1
  · left
    have hie : i = its.length := by omega
    subst hie
    refine ⟨wk.stop H2 kH, ρ1, ps2, own1, ?_, unw r2, k1⟩
    rw [e4, List.drop_eq_nil_of_le (by simp)]
    rfl
theorem ds_for (hp : PassesOwn (model X.prog X.w) X.A X.env X.xe) (hc : X.calm = true) (hi : DI X W m tg iter fs) {is : List Nat} (ht : TgD X (J.lp m) m mT tg is F) (hb : Dss X W (J.lp m) mT m sts g1) (hs : ∀ x, foldedSetIterable iter X.env x = pure x := by intro _; rfl) :
    Ds X W J m m (.For tg iter sts [] pos) (foF fs F g1) :=
  ⟨fun g own pins s σ ρ H ps I r hx n w => for_core hp hc ht hb hs I r hx (hi.can r (ne_of_bind n) (WS.ex w r)) n w⟩
/-- a list, a tuple that is walked -/
def D.items : D → R (List D)
  | .lst ds => pure ds
  | .tup ds => pure ds
  | _ => R.und
def itF (f : FE) : FA := fun ρ => do let d ← f ρ; D.items d
theorem ones_d : ∀ {ds : List D} {vs : List V}, vs.length = ds.length → ((ds.zip vs).map fun p => Item.one p.1 p.2).map Item.d = ds
  | [], [], _ => rfl
  | d :: ds, v :: vs, h => by
    rw [List.zip_cons_cons, List.map_cons, List.map_cons, ones_d (by simpa using h)]; rfl
  | [], _ :: _, h => by simp at h
  | _ :: _, [], h => by simp at h
theorem zip_at {ds : List D} {vs : List V} {i : Nat} {it : Item} (h : ((ds.zip vs).map fun p => Item.one p.1 p.2)[i]? = some it) : ∃ d v, it = .one d v ∧ ds[i]? = some d ∧ vs[i]? = some v := by
  rw [List.getElem?_map] at h
  cases q : (ds.zip vs)[i]? with
  | none => rw [q] at h; cases h
  | some p =>
    rw [q] at h
    cases h
    obtain ⟨a, b⟩ := List.getElem?_zip_eq_some.mp q
    exact ⟨p.1, p.2, rfl, a, b⟩
theorem di_seq (h : Dx .cl X W m iter f) : DI X W m tg iter (itF f) := by
  refine ⟨fun g own pins s σ ρ H ps I r n w => ?_⟩
  have n1 := ne_of_bind n
  have fin : ∀ {JJ : It} {H1 : Hp} {d : D} {ps1 : Ps} {ds : List D} {vs : List V} {ks : List (Addr × HO)}, f ρ ps = .ok d ps1 → D.items d = pure ds → Exo (plS g.pl) H H1 → PoolAt g.pl H1 ps1 → Reps g.pl X.K (hid (Xs m own g) H1) ds vs →
      WalkOk JJ ks ((ds.zip vs).map fun p => Item.one p.1 p.2) → (∀ p ∈ ks, H1 p.1 = some p.2 ∧ ¬ plS g.pl p.1 ∧ ¬ UOw m own p.1) → QI m own g.pl X.K (Xs m own g) H (itF f ρ ps) JJ H1 := fun {JJ H1 d ps1 ds vs ks} e1 e2 x1 p1 t1 wk hk => by
    refine ⟨_, ps1, ks, ?_, x1, p1, wk, hk, fun it hit => ?_⟩
    · rw [ones_d t1.length]
      have : itF f ρ ps = D.items d ps1 := bind_ok e1
      rw [this, e2]; rfl
    · obtain ⟨p, hp, rfl⟩ := List.mem_map.mp hit
      exact zip_reps t1 p hp
  cases e1 : f ρ ps with
  | und => exact (n1 e1).elim
  | exc x q =>
    refine (pi_list (tg := tg) (pe_c X iter)).run pins s σ H _ I (cE.mono (h.c r n1 (WOk.left w)) fun v H1 ⟨d, ps1, e2, _⟩ => ?_)
    rw [e1] at e2; cases e2
  | ok d ps1 =>
    have e2 : itF f ρ ps = D.items d ps1 := bind_ok e1
    cases d with
    | lst ds =>
      refine (pi_list (tg := tg) (pe_c X iter)).run pins s σ H _ I (cE.mono (h.c r n1 (WOk.left w)) fun v H1 ⟨d, ps1', e3, x1, p1, q1⟩ => ?_)
      rw [e1] at e3; cases e3
      have q1 : Rep g.pl X.K (hid (Xs m own g) H1) (.lst ds) v := q1
      unfold Rep at q1
      obtain ⟨a, vs, rfl, h1, t1⟩ := q1
      obtain ⟨nx, h1⟩ := hid_of h1
      refine ⟨a, rfl, ⟨vs, .of h1⟩, fin (ks := [(a, .lst vs)]) e1 rfl x1 p1 t1 ⟨fun i H2 hi hk => ?_, fun H2 hk => ?_, fun i x H2 H3 it hit hk hy => ?_, fun p hp φ z => ?_⟩ fun p hp => ?_⟩
      · have hk := hk _ (List.mem_cons_self ..)
        rw [List.length_map, List.length_zip, t1.length, Nat.min_self] at hi
        exact ⟨vs, vs[i]'(by rw [t1.length]; exact hi), .of hk, List.getElem?_eq_getElem _⟩
      · have hk := hk _ (List.mem_cons_self ..)
        exact ⟨vs, .of hk, by rw [List.length_map, List.length_zip, t1.length, Nat.min_self]; exact Nat.le_refl _⟩
      · have hk := hk _ (List.mem_cons_self ..)
        obtain ⟨d, v, rfl, g1, g2⟩ := zip_at hit
        obtain ⟨rfl, hy⟩ := hy
        have := hy vs (.of hk)
        rw [g2] at this
        exact ⟨(Option.some.inj this).symm, rfl⟩
      · have e : p = (a, .lst vs) := by simpa using hp
        subst e; cases z
      · have e : p = (a, .lst vs) := by simpa using hp
        subst e
        exact ⟨h1, fun z => nx (Xs.pl _ z), fun z => nx (.inr (.inr z))⟩
    | tup ds =>
      refine (L2.pi_tup (tg := tg) (pe_c X iter)).run pins s σ H _ I (cE.mono (h.c r n1 (WOk.left w)) fun v H1 ⟨d, ps1', e3, x1, p1, q1⟩ => ?_)
      rw [e1] at e3; cases e3
      have q1 : Rep g.pl X.K (hid (Xs m own g) H1) (.tup ds) v := q1
      unfold Rep at q1
      obtain ⟨a, vs, rfl, h1, t1⟩ := q1
      -- a tuple of the heap is kept, one of the module stands
      have hks : ∃ ks : List (Addr × HO), (∀ p ∈ ks, H1 p.1 = some p.2 ∧ ¬ plS g.pl p.1 ∧ ¬ UOw m own p.1) ∧ (∀ p ∈ ks, ∀ φ, p.2 ≠ .ext φ) ∧ ∀ H2, KeepH ks H2 → SqT X.K H2 a vs := by
        obtain ⟨nx, ho⟩ := hid_of h1
        refine ⟨[(a, .tup vs)], fun p hp => ?_, fun p hp => ?_, fun H2 hk => SqT.of (hk _ (List.mem_cons_self ..))⟩
        · have e : p = (a, .tup vs) := by simpa using hp
          subst e
          exact ⟨ho, fun z => nx (Xs.pl _ z), fun z => nx (.inr (.inr z))⟩
        · have e : p = (a, .tup vs) := by simpa using hp
          subst e
          exact fun φ z => nomatch z
      obtain ⟨ks, hk1, hk3, hk2⟩ := hks
      refine ⟨a, rfl, ⟨vs, hk2 H1 fun p hp => (hk1 p hp).1⟩, fin (ks := ks) e1 rfl x1 p1 t1 ⟨fun i H2 hi hk => ?_, fun H2 hk => ?_, fun i x H2 H3 it hit hk hy => ?_, hk3⟩ hk1⟩
      · rw [List.length_map, List.length_zip, t1.length, Nat.min_self] at hi
        exact ⟨vs, vs[i]'(by rw [t1.length]; exact hi), hk2 H2 hk, List.getElem?_eq_getElem _⟩
      · exact ⟨vs, hk2 H2 hk, by rw [List.length_map, List.length_zip, t1.length, Nat.min_self]; exact Nat.le_refl _⟩
      · obtain ⟨d, v, rfl, g1, g2⟩ := zip_at hit
        obtain ⟨rfl, hy⟩ := hy
        have := hy vs (hk2 _ hk)
        rw [g2] at this
        exact ⟨(Option.some.inj this).symm, rfl⟩
    | _ => rw [e2] at n; exact (n rfl).elim
end
end DL
set_option Elab.async false
set_option linter.all false
set_option maxRecDepth 100000
set_option maxHeartbeats 2000000
namespace DL
open PySem PySem.Spec PyProof.Rows L2
def padM (n : Nat) (ms : List Md) : List Md := ms ++ List.replicate (n - ms.length) .no
def padR (n : Nat) (ds : List D) : Rho := ds.map some ++ List.replicate (n - ds.length) none
def finD : Fl → R D
  | .rt d _ => pure d
  | .nx _ => pure .non
  | _ => R.und
/-- a def's worth: its body's, run at the arguments -/
def runD (n : Nat) (G : SF) (ds : List D) : R D := do let fl ← G (padR n ds); finD fl
theorem pad_at {α : Type} {ms : List α} {k i : Nat} {x y : α} (h : (ms ++ List.replicate k y)[i]? = some x) (n : x ≠ y) : ms[i]? = some x := by
  by_cases hl : i < ms.length
  · rw [List.getElem?_append_left hl] at h; exact h
  · rw [List.getElem?_append_right (by omega), List.getElem?_replicate] at h
    split at h
    · cases h; exact (n rfl).elim
    · cases h
theorem ArgsR.at_ {pl : Pl} {K : PySem.W.Frag} {O : Addr → Prop} {H : Hp} : ∀ {ms : List Md} {ds : List D} {vs : List V}, ArgsR pl K O H ms ds vs → ∀ (i : Nat) (d : D), ds[i]? = some d → ∃ v, vs[i]? = some v ∧ ((ms[i]? = some .sh ∧ Rep pl K (hid O H) d v) ∨ (ms[i]? = some .sb ∧ RepB pl K O H d v))
  | [], [], _, h, i, d, e => by simp at e
  | .sh :: ms, d' :: ds, _, h, i, d, e => by
    obtain ⟨v, r, rfl, h2, h3⟩ := h
    cases i with
    | zero => simp at e; subst e; exact ⟨v, rfl, .inl ⟨rfl, h2⟩⟩
    | succ i => simpa using ArgsR.at_ h3 i d (by simpa using e)
  | .sb :: ms, d' :: ds, _, h, i, d, e => by
    obtain ⟨v, r, rfl, h2, h3⟩ := h
    cases i with
    | zero => simp at e; subst e; exact ⟨v, rfl, .inr ⟨rfl, h2⟩⟩
    | succ i => simpa using ArgsR.at_ h3 i d (by simpa using e)
  | [], _ :: _, _, h, _, _, _ => h.elim
  | md :: _, [], _, h, _, _, _ => by cases md <;> exact h.elim
  | .no :: _, _ :: _, _, h, _, _, _ => h.elim
  | .ow :: _, _ :: _, _, h, _, _, _ => h.elim
  | .io :: _, _ :: _, _, h, _, _, _ => h.elim
theorem ArgsR.kinds {pl : Pl} {K : PySem.W.Frag} {O : Addr → Prop} {H : Hp} : ∀ {ms : List Md} {ds : List D} {vs : List V}, ArgsR pl K O H ms ds vs → ∀ (i : Nat) (x : Md), ms[i]? = some x → x = .sh ∨ x = .sb
  | [], [], _, h, i, x, e => by simp at e
  | .sh :: ms, d' :: ds, _, h, i, x, e => by
    obtain ⟨v, r, rfl, h2, h3⟩ := h
    cases i with
    | zero => simp at e; exact .inl e.symm
    | succ i => exact ArgsR.kinds h3 i x (by simpa using e)
  | .sb :: ms, d' :: ds, _, h, i, x, e => by
    obtain ⟨v, r, rfl, h2, h3⟩ := h
    cases i with
    | zero => simp at e; exact .inr e.symm
    | succ i => exact ArgsR.kinds h3 i x (by simpa using e)
  | [], _ :: _, _, h, _, _, _ => h.elim
  | md :: _, [], _, h, _, _, _ => by cases md <;> exact h.elim
  | .no :: _, _ :: _, _, h, _, _, _ => h.elim
  | .ow :: _, _ :: _, _, h, _, _, _ => h.elim
  | .io :: _, _ :: _, _, h, _, _, _ => h.elim
theorem pad_some {α : Type} {l : List α} {k i : Nat} {x : α} (h : (l.map some ++ List.replicate k none)[i]? = some (some x)) : l[i]? = some x := by
  have := pad_at (ms := l.map some) (y := none) h (fun z => nomatch z)
  rw [List.getElem?_map] at this
  cases q : l[i]? with
  | none => rw [q] at this; cases this
  | some a => rw [q] at this; cases this; rfl
theorem at_pad {α : Type} {l : List α} {k i : Nat} {x : α} (h : l[i]? = some x) : (l.map some ++ List.replicate k none)[i]? = some (some x) := by
  have hl : i < l.length := (List.getElem?_eq_some_iff.mp h).1
  rw [List.getElem?_append_left (by simpa using hl), List.getElem?_map, h]; rfl
section
variable {P : Program} {w : World} {K : PySem.W.Frag} {mg : Str → Option Value} {base : Heap}
/-- the modes at the end: nothing -/
def mrOf (n : Nat) : List Md := List.replicate n .no
theorem bodyD' {qual : Str} {st : Stmt} {f : Addr} {N nms : List Str} {k : Nat} {ms mE : List Md} {G0 : SF} {cdv : Value} {A : Around} {outer : List Env} {s : Shared} {H : Hp} {E : XK} (hms : ms.length = nms.length) (hN : nms.length ≤ N.length)
    (body : Takes (cxOf (L2.CX P w) P w K mg base N qual (defScope st) f cdv A outer s H E) (fun cls d _ H => E cls d H) →
      Dss (cxOf (L2.CX P w) P w K mg base N qual (defScope st) f cdv A outer s H E) (fun cls d _ H => E cls d H) { mb := [], mr := mrOf N.length } (padM N.length ms) mE (defBody st) G0) {vs : List V} (Q : VK) (hr : Room k (A.deeper (envOfC qual (defScope st) s.heap.objs.size f cdv))) (h : spD K .cl ms (runD N.length G0) vs H Q E) :
    ∃ t, PSs (cxOf (L2.CX P w) P w K mg base N qual (defScope st) f cdv A outer s H E) (defBody st) t ∧ t { nx := fun _ H' => Q .non H', rt := Q } (start N vs) H := by
  obtain ⟨pl, O, ds, ps, ha, hO, hT, hp, hn, hQ, hE⟩ := h
  have hl := ha.len
  let g : G := { pl := pl, E := O, B := H }
  have tk : Takes (cxOf (L2.CX P w) P w K mg base N qual (defScope st) f cdv A outer s H E) (fun cls d _ H => E cls d H) := takes_of rfl rfl rfl rfl
  have noOw : ∀ (i : Nat), ¬ ((padM N.length ms)[i]? = some .ow ∨ (padM N.length ms)[i]? = some .io) := fun i z => by
    rcases z with z | z
    · rcases ha.kinds i _ (pad_at z (by decide)) with e | e <;> cases e
    · rcases ha.kinds i _ (pad_at z (by decide)) with e | e <;> cases e
  have sub : ∀ own a, Xs (padM N.length ms) own g a → O a := fun own a z => by
    rcases z with z | z | ⟨i, z, _⟩
    · exact z
    · exact hO a z
    · exact (noOw i z).elim
  have r0 : Rs K g (padM N.length ms) (fun _ => 0) (L2.start N vs) (padR N.length ds) H ps := {
    len := by
      unfold padR L2.start
      rw [List.length_append, List.length_append, List.length_map, List.length_map, List.length_replicate, List.length_replicate, hl.1, hl.2]
    sh := fun i d h1 h2 => by
      obtain ⟨v, h3, h4⟩ := ha.at_ i d (pad_some h2)
      have h1 := pad_at h1 (by decide)
      rcases h4 with ⟨_, h4⟩ | ⟨h5, _⟩
      · exact ⟨v, at_pad h3, h4.mono (hid_sub (sub _))⟩
      · rw [h1] at h5; cases h5
    ow := fun i q => (noOw i q).elim
    sb := fun i d h1 h2 => by
      obtain ⟨v, h3, h4⟩ := ha.at_ i d (pad_some h2)
      have h1 := pad_at h1 (by decide)
      rcases h4 with ⟨h5, _⟩ | ⟨_, h4⟩
      · rw [h1] at h5; cases h5
      · refine ⟨v, at_pad h3, ?_⟩
        rcases h4 with h4 | ⟨a, ea, np, t⟩
        · exact .inl (h4.mono (hid_sub (sub _)))
        · exact .inr ⟨a, ea, np, fun j q => (noOw j q).elim, t.mono (hid_sub (sub _))⟩
    xc := fun i b dx z => by rcases ha.kinds i _ (pad_at z (fun y => nomatch y)) with e | e <;> cases e
    ex := fun p hp => by cases hp
    sx := fun p hp => by cases hp
    inj := fun i j q _ _ => (noOw i q).elim
    nE := fun i q => (noOw i (.inl q)).elim
    base := Exo.refl
    pool := hp
    eT := hT }
  refine ⟨_, pss_c _ _, fun pins s1 I1 => ?_⟩
  have e0 : ∀ {fl : Fl} {ps' : Ps}, G0 (padR N.length ds) ps = .ok fl ps' → runD N.length G0 ds ps = finD fl ps' := fun e => bind_ok e
  have n0 : G0 (padR N.length ds) ps ≠ .und := ne_of_bind hn
  have wsub : ∀ {mm : List Md} {own : Nat → Addr} {H' : Hp}, Ex (hid (Xs mm own g) H') (hid O H') := hid_sub fun a z => .inl z
  refine thn ((body tk).run g (fun _ => 0) pins s1 _ _ H ps I1 r0 (fun p hp => by cases hp) n0 ?_) fun fl s2 q => spI' q ?_ ?_ ?_ ?_
  · intro y ps' dx H' σ' e1 e2 e3 ⟨ws, e4, e5⟩ _
    exact hE y ps' dx H' (bind_exc e1) e2 e3 ⟨ws, e4, e5.mono (hid_sub fun a z => .inl z)⟩
  · rintro σ' H' ⟨ρ', ps', own', a1, a2, a3⟩
    refine hQ _ _ ⟨.non, ps', (e0 a1).trans rfl, a2.base, a2.pool, ?_⟩
    show Rep _ _ _ _ _
    unfold Rep; rfl
  · rintro σ' H' ⟨ρ', ps', own', a1, a2, a3⟩
    exact (hn ((e0 a1).trans rfl)).elim
  · rintro σ' H' ⟨ρ', ps', own', a1, a2, a3⟩
    exact (hn ((e0 a1).trans rfl)).elim
  · rintro v H' ⟨d, ρ', ps', own', σ', a1, a2, a3, a4⟩
    have a4 : Rep g.pl K (hid (Xs (mrOf N.length) own' g) H') d v := a4
    exact hQ _ _ ⟨d, ps', (e0 a1).trans rfl, a2.base, a2.pool, a4.mono wsub⟩
theorem bodyD {qual : Str} {st : Stmt} {f : Addr} {N nms : List Str} {k : Nat} {ms mE : List Md} {G0 : SF} (hms : ms.length = nms.length) (hN : nms.length ≤ N.length)
    (body : ∀ (cdv : Value) (A : Around) (outer : List Env) (s : Shared) (H : Hp) (E : XK), Room k (A.deeper (envOfC qual (defScope st) s.heap.objs.size f cdv)) → Takes (cxOf (L2.CX P w) P w K mg base N qual (defScope st) f cdv A outer s H E) (fun cls d _ H => E cls d H) →
      Dss (cxOf (L2.CX P w) P w K mg base N qual (defScope st) f cdv A outer s H E) (fun cls d _ H => E cls d H) { mb := [], mr := mrOf N.length } (padM N.length ms) mE (defBody st) G0) (cdv : Value) (A : Around) (outer : List Env) (s : Shared) (H : Hp) (vs : List V) (Q : VK) (E : XK) (hr : Room k (A.deeper (envOfC qual (defScope st) s.heap.objs.size f cdv))) (h : spD K .cl ms (runD N.length G0) vs H Q E) :
    ∃ t, PSs (cxOf (L2.CX P w) P w K mg base N qual (defScope st) f cdv A outer s H E) (defBody st) t ∧ t { nx := fun _ H' => Q .non H', rt := Q } (start N vs) H :=
  bodyD' hms hN (fun tk => body cdv A outer s H E hr tk) Q hr h
theorem fnD_mk {x qual : Str} {st : Stmt} {f : Addr} {fd : FuncData} {N nms : List Str} {k : Nat} {ms mE : List Md} {G0 : SF} (Fn : Fun K x qual st f fd) (S : FnScope N nms (defScope st)) (hms : ms.length = nms.length) (hN : nms.length ≤ N.length)
    (body : ∀ (cdv : Value) (A : Around) (outer : List Env) (s : Shared) (H : Hp) (E : XK), Room k (A.deeper (envOfC qual (defScope st) s.heap.objs.size f cdv)) → Takes (cxOf (L2.CX P w) P w K mg base N qual (defScope st) f cdv A outer s H E) (fun cls d _ H => E cls d H) →
      Dss (cxOf (L2.CX P w) P w K mg base N qual (defScope st) f cdv A outer s H E) (fun cls d _ H => E cls d H) { mb := [], mr := mrOf N.length } (padM N.length ms) mE (defBody st) G0) : FnOk P w K mg base (L2.CX P w) (k + 1) f fd nms (spD K .cl ms (runD N.length G0)) := by
  refine Fn.okX S (fun vs H Q E h => ?_) (fun cdv A outer s H vs Q E hr h => bodyD hms hN body cdv A outer s H vs Q E hr h)
  obtain ⟨pl, O, ds, ps, ha, _⟩ := h
  rw [ha.len.1, hms]
def insO (C : Addr) : Option D → R (List (Str × D))
  | some (D.ins C' fs) => if C' = C then pure fs else R.und
  | _ => R.und
def finI (C : Addr) : Fl → R (List (Str × D))
  | .nx ρ => insO C (ρ[0]?.join)
  | _ => R.und
def runI (n : Nat) (C : Addr) (G : SF) (ds : List D) : R (List (Str × D)) := do let fl ← G (padR n (.ins C [] :: ds)); finI C fl
end
end DL
set_option Elab.async false
set_option linter.all false
set_option maxRecDepth 100000
set_option maxHeartbeats 2000000
namespace DL
open PySem PySem.Spec PyProof.Rows L2
section
variable {X : Cx} {W : WX} {J : JP} {m m' m2 mT ms : List Md} {e a b c o tg iter : Expr} {f f1 f2 f3 fo : FE} {t : FT} {st : Stmt} {sts sts2 : List Stmt} {g1 g2 : SF} {pos p1' : Pos} {fs : FA} {F : D → Rho → R Rho}
def auF (F : D → D → R D) (i : Nat) (f : FE) : SF := fun ρ => do
  let x ← vF i ρ
  let y ← f ρ
  let z ← F x y
  pure (.nx (ρ.set i (some z)))
def asDk : D → R (List (Key × D))
  | .dk kvs => pure kvs
  | _ => R.und
def getF (fo fk fx : FE) : FE := fun ρ => do
  let d ← fo ρ
  let kvs ← asDk d
  let k ← fk ρ
  let x ← fx ρ
  let k ← ofO (keyOf k)
  pure ((findD kvs k).getD x)
def chF (F F' : D → D → R D) (f1 f2 f3 : FE) : FT := fun ρ => do
  let x ← f1 ρ
  let y ← f2 ρ
  let z ← F x y
  let k ← asB z
  if k = true then (do let w ← f3 ρ; let z ← F' y w; asB z) else pure false
end
end DL
set_option Elab.async false
set_option linter.all false
set_option maxRecDepth 100000
set_option maxHeartbeats 2000000
namespace DL
open PySem PySem.Spec PyProof.Rows L2
section
variable {X : Cx} {W : WX} {J : JP} {m m' m2 ms : List Md} {e a b c o : Expr} {lo hi : Option Expr} {f f1 f2 f3 fo fl fh : FE} {t : FT} {pos p2 p1' : Pos} {fs : FA}
def notV (f : FE) : FE := fun ρ => do let d ← f ρ; let b ← asB d; pure (.bl (!b))
def andV (f1 f2 : FE) : FE := fun ρ => do let d ← f1 ρ; let b ← asB d; if b = true then f2 ρ else pure (.bl false)
theorem rep_int {pl : Pl} {K : PySem.W.Frag} {H : Hp} {b : Int} : Rep pl K H (.int b) (.int b) := by unfold Rep; rfl
abbrev FO := Rho → R (Option Int)
def asI : D → R Int
  | .int i => pure i
  | _ => R.und
theorem asI_ok {d : D} {ps : Ps} (n : asI d ps ≠ .und) : ∃ b, d = .int b ∧ asI d ps = .ok b ps := by
  cases d with
  | int b => exact ⟨b, rfl, rfl⟩
  | _ => exact (n rfl).elim
/-- a slice's bound -/
def cO (X : Cx) (e : Option Expr) : TO := fun σ H Q => ∀ pins s, Inv X pins σ H s → wpAny (model X.prog X.w) X.A (evalPart e X.env) (fun u s' => ∃ o H', Inv X pins σ H' s' ∧ IsPart u o ∧ Q o H') X.xe s
theorem cO.mono {e : Option Expr} {σ : L2.St} {H : Hp} {Q Q' : Option Int → Hp → Prop} (h : cO X e σ H Q) (q : ∀ v H, Q v H → Q' v H) : cO X e σ H Q' := fun pins s I => thn (h pins s I) fun _ _ ⟨o, H', I', p, z⟩ => ⟨o, H', I', p, q _ _ z⟩
def noO : FO := fun _ => pure none
def soO (f : FE) : FO := fun ρ => do let d ← f ρ; let i ← asI d; pure (some i)
def cutD (xs : List D) (lo hi : Option Int) : List D := (xs.drop (HT.sIx xs.length 0 lo)).take (HT.sIx xs.length xs.length hi - HT.sIx xs.length 0 lo)
def D.cut (lo hi : Option Int) : D → R D
  | .lst xs => pure (.lst (cutD xs lo hi))
  | _ => R.und
def cutF (G : Option Int → Option Int → D → R D) (f : FE) (fl fh : FO) : FE := fun ρ => do let d ← f ρ; let l ← fl ρ; let h ← fh ρ; G l h d
/-- xs[::-1] -/
def D.rev : D → R D
  | .lst xs => pure (.lst xs.reverse)
  | _ => R.und
def revF (f : FE) : FE := fun ρ => do let d ← f ρ; D.rev d
inductive Tk where
  | non | bl | int | str | lst | tup | dct | ins (C : Addr)
  deriving DecidableEq
def Tk.val : Tk → Value
  | .non => .type "NoneType" | .bl => .type "bool" | .int => .type "int" | .str => .type "str" | .lst => .type "list" | .tup => .type "tuple" | .dct => .type "dict" | .ins C => .ref C
def D.tk : D → Option Tk
  | .non => some .non | .bl _ => some .bl | .int _ => some .int | .str _ => some .str | .lst _ => some .lst | .tup _ => some .tup | .dk _ => some .dct | .ins C _ => some (.ins C) | _ => none
structure InsOk (K : PySem.W.Frag) (C : Addr) : Prop where
  cl : Cls K C
  ha : PySem.W.findIn K (.ref C) "__class__" = some (some (.builtin "object.__class__"))
  hn : PySem.W.specialIn K (.builtin "object.__class__") "__get__" = some (some (.builtin "getset_descriptor.__get__"))
  htk : PySem.W.takesIn K (.builtin "object.__class__") = some true
  hm : PySem.W.mroIn K C (.type "object") = some true
end
end DL
set_option Elab.async false
set_option linter.all false
set_option maxRecDepth 100000
set_option maxHeartbeats 2000000
namespace DL
open PySem PySem.Spec PyProof.Rows L2
/-- one more object is hidden -/
def G.hd (g : G) (p : Addr) : G := { g with E := fun a => g.E a ∨ a = p }
section
variable {K : PySem.W.Frag} {g : G} {m : List Md} {own : Nat → Addr} {σ : L2.St} {ρ : Rho} {H : Hp} {ps : Ps} {p : Addr} {o : HO}
theorem Xs.hd_in : ∀ a, Xs m own g a → Xs m own (g.hd p) a := fun a h => by
  rcases h with h | h | h
  · exact .inl (.inl h)
  · exact .inr (.inl h)
  · exact .inr (.inr h)
theorem Xs.hd_out : ∀ a, Xs m own (g.hd p) a → Xs m own g a ∨ a = p := fun a h => by
  rcases h with (h | h) | h | h
  · exact .inl (.inl h)
  · exact .inr h
  · exact .inl (.inr (.inl h))
  · exact .inl (.inr (.inr h))
theorem Rs.hide (r : Rs K g m own σ ρ H ps) (hp : H p = none) (ho : ∀ vs, o ≠ .tup vs := by exact fun _ z => nomatch z) (hf : ∀ oc, o ≠ fzO oc := by exact fun _ z => nomatch z) : Rs K (g.hd p) m own σ ρ (upd H p o) ps := by
  have ex : Ex (hid (Xs m own g) H) (hid (Xs m own (g.hd p)) (upd H p o)) := fun a u q => by
    obtain ⟨n, q⟩ := hid_of q
    have na : a ≠ p := ne_of_none q hp
    rw [hid_at (fun z => (Xs.hd_out a z).elim n na), upd_ne na]
    exact q
  have far : ∀ (i : Nat), (m[i]? = some .ow ∨ m[i]? = some .io) → own i ≠ p := fun i q z => by
    obtain ⟨d, _, _, t, _⟩ := r.ow i q
    obtain ⟨u, hu⟩ := t.some
    rw [z, hp] at hu; cases hu
  exact {
    len := r.len
    sh := fun i d h1 h2 => let ⟨v, h3, h4⟩ := r.sh i d h1 h2; ⟨v, h3, h4.mono ex⟩
    ow := fun i q => by
      obtain ⟨d, h1, h2, t, h4, h5⟩ := r.ow i q
      exact ⟨d, h1, h2, by rw [upd_ne (far i q)]; exact t.mono ex, h4, h5⟩
    sb := fun i d h1 h2 => by
      obtain ⟨v, h3, h4⟩ := r.sb i d h1 h2
      refine ⟨v, h3, ?_⟩
      rcases h4 with h4 | ⟨a, ea, np, no, t⟩
      · exact .inl (h4.mono ex)
      · obtain ⟨u, hu⟩ := t.some
        exact .inr ⟨a, ea, np, no, by rw [upd_ne (ne_of_none hu hp)]; exact t.mono ex⟩
    xc := fun i a dx q => by
      obtain ⟨d, h1, h2, t, h4⟩ := r.xc i a dx q
      obtain ⟨u, hu⟩ := t.some
      exact ⟨d, h1, h2, by rw [upd_ne (ne_of_none hu hp)]; exact t.mono ex, h4⟩
    ex := fun q hq => (r.ex q hq).mono ex
    sx := fun q hq => let ⟨v, h1, h2⟩ := r.sx q hq; ⟨v, h1, h2.mono ex⟩
    inj := r.inj
    nE := fun i q z => by
      rcases z with z | z
      · exact r.nE i q z
      · exact far i (.inl q) z
    base := r.base.trans (Exo.new hp)
    pool := r.pool.new hp
    eT := fun a z => by
      rcases z with z | z
      · by_cases e : a = p
        · rw [e]; exact .of upd_same ho hf
        · rw [upd_ne e]; exact r.eT a z
      · rw [z]; exact .of upd_same ho hf }
theorem WOk.hide {α : Type} {W : WX} {r : Res α} (w : WOk W g.pl K (Xs m own g) σ H r) (hp : H p = none) : WOk W (g.hd p).pl K (Xs m own (g.hd p)) σ (upd H p o) r :=
  fun x ps' dx H' e e2 e3 ⟨vs, e4, e5⟩ => w x ps' dx H' e ((Exo.new hp).trans e2) e3 ⟨vs, e4, e5.mono (hid_sub Xs.hd_in)⟩
theorem pool_unhide {H2 : Hp} {o2 : HO} {pl : Pl} {ps2 : Ps} (np : ¬ plS pl p) (ht : Thr (H2 p)) (h : PoolAt pl H2 ps2) : PoolAt pl (upd H2 p o2) ps2 := h.put np ht
theorem Rs.npl (r : Rs K g m own σ ρ H ps) (hp : H p = none) : ¬ plS g.pl p := fun z => r.pool.there z hp
end
section
variable {X : Cx} {W : WX} {J : JP} {m m' m2 ms : List Md} {e a b c o : Expr} {es : List Expr} {f f1 f2 f3 fo fk fv : FE} {t : FT} {pos p2 p1' : Pos} {fs : FA}
def dnF : FE := fun _ => pure (.dk [])
abbrev FP := Rho → R (List (Key × D))
def repPairs (pl : Pl) (K : PySem.W.Frag) (H : Hp) : List (Key × D) → List (V × V) → Prop
  | [], vs => vs = []
  | (k, d) :: r, vs => ∃ v t, vs = (kV k, v) :: t ∧ Rep pl K H d v ∧ repPairs pl K H r t
theorem repPairs.mono {pl : Pl} {K : PySem.W.Frag} {H H' : Hp} (e : Ex H H') : ∀ {ds : List (Key × D)} {vs : List (V × V)}, repPairs pl K H ds vs → repPairs pl K H' ds vs
  | [], _, h => h
  | (k, d) :: r, _, ⟨v, t, e1, e2, e3⟩ => ⟨v, t, e1, e2.mono e, repPairs.mono e e3⟩
def pnF : FP := fun _ => pure []
def pcF (fk fv : FE) (fr : FP) : FP := fun ρ => do let k ← fk ρ; let v ← fv ρ; let r ← fr ρ; let k ← ofO (keyOf k); pure ((k, v) :: r)
def mergeD (kvs more : List (Key × D)) : List (Key × D) := more.foldl (fun acc kv => putD acc kv.1 kv.2) kvs
def dsF (fp : FP) : FE := fun ρ => do let kvs ← fp ρ; if decide (kvs.length ≤ 15) = true then pure (.dk (mergeD [] kvs)) else R.und
def D.rep : D → D → R D
  | .lst xs, .int k => if (decide (-1000000 ≤ k) && decide (k ≤ 1000000) && lenC (xs.length * k.toNat)) = true then pure (.lst (List.replicate k.toNat xs).flatten) else R.und
  | _, _ => R.und
theorem od_rep : OpD .fr X (binaryOp .Mult) D.rep := by
  intro pl O pins s σ H ps d1 d2 x y u v I hO hT p r1 r2 rx ry n
  cases d1 with
  | lst xs =>
    cases d2 with
    | int k =>
      obtain ⟨hc, he⟩ := if_und n
      rw [Bool.and_eq_true, Bool.and_eq_true] at hc
      obtain ⟨⟨h1, h2⟩, h3⟩ := hc
      have h1 := of_decide_eq_true h1
      have h2 := of_decide_eq_true h2
      obtain ⟨q, vs, rfl, g1, t1⟩ := r1.lst
      have r2 := r2.flat rfl
      unfold Rep at r2
      subst r2
      exact op_rep pins s σ H _ _ u v _ I rx ry ⟨q, k, vs, rfl, rfl, g1, by omega, by omega, by rw [t1.length]; exact lenC_ok h3, fun z hz => laid_fr hT p hz (t1.many _) he⟩
    | _ => exact (n rfl).elim
  | _ => exact (n rfl).elim
def D.toDict : D → R D
  | .dk kvs => pure (.dk kvs)
  | _ => R.und
def D.keysL : D → R D
  | .dk kvs => pure (.lst (kvs.map fun kv => keyD kv.1))
  | _ => R.und
/-- dict([(k, v), ..]) -/
def pairsD : List D → Option (List (Key × D))
  | [] => some []
  | .tup [a, b] :: r => match keyOf a, pairsD r with
    | some k, some t => some ((k, b) :: t)
    | _, _ => none
  | _ => none
def D.pairs : D → R D
  | .lst ds => ofO ((pairsD ds).map fun kvs => .dk (mergeD [] kvs))
  | _ => R.und
end
end DL
set_option Elab.async false
set_option linter.all false
set_option maxRecDepth 100000
set_option maxHeartbeats 2000000
namespace DL
open PySem PySem.Spec PyProof.Rows L2
section
variable {X : Cx} {W : WX} {m ms : List Md} {pos p : Pos}
theorem rq_int {pl : Pl} {K : PySem.W.Frag} {O : Addr → Prop} {H H' : Hp} {b : Int} : RepQ .cl pl K O H H' (.int b) (.int b) := by show Rep _ _ _ _ _; exact rep_int
def D.lenO (C : Addr) (F : List D → R D) (d : D) : R D := if D.insOf C d = true then (do let i ← noX (do let r ← F [d]; asI r); if (decide (0 ≤ i) && decide (i ≤ 1000000)) = true then pure (.int i) else R.und) else R.und
/-- own == -/
def D.eqOwn (C : Addr) (nf : Tk → Bool) (F : List D → R D) (a b : D) : R D := if (D.insOf C a && (b.tk.map nf).getD false) = true then (do let c ← noX (do let r ← F [a, b]; asB r); pure (.bl c)) else R.und
end
end DL
set_option Elab.async false
set_option linter.all false
set_option maxRecDepth 100000
set_option maxHeartbeats 2000000
namespace DL
open PySem PySem.Spec PyProof.Rows L2
def DkO : HO → Prop
  | .dK _ => True
  | .dT _ => True
  | _ => False
theorem DkO.mut {u : HO} (h : DkO u) : Mut (some u) := by cases u <;> first | exact True.intro | exact h.elim
/-- what stands stands, dicts may be locked or unlocked -/
def ExM (H H' : Hp) : Prop := ∀ a o, H a = some o → H' a = some o ∨ (∃ od, DkO o ∧ H' a = some (.frz od o)) ∨ (∃ od u, DkO u ∧ o = .frz od u ∧ H' a = some u)
theorem ExM.of {H H' : Hp} (e : Ex H H') : ExM H H' := fun a o h => .inl (e a o h)
theorem ExM.rd {H H' : Hp} {a : Addr} {u : HO} (e : ExM H H') (hn : ∀ od u', u ≠ .frz od u') (h : Rd H a u) : Rd H' a u := by
  rcases h with h | ⟨o, h⟩
  · rcases e a _ h with q | ⟨od, _, q⟩ | ⟨od, u', d, z, q⟩
    · exact .inl q
    · exact .inr ⟨od, q⟩
    · exact (hn _ _ z).elim
  · rcases e a _ h with q | ⟨od, z, q⟩ | ⟨od, u', d, z, q⟩
    · exact .inr ⟨o, q⟩
    · exact z.elim
    · cases z; exact .inl q
theorem ExM.at {H H' : Hp} {a : Addr} {u : HO} (e : ExM H H') (hn : ∀ od u', u ≠ .frz od u') (hd : ¬ DkO u) (h : H a = some u) : H' a = some u := by
  rcases e a _ h with q | ⟨od, z, q⟩ | ⟨od, u', d, z, q⟩
  · exact q
  · exact (hd z).elim
  · exact (hn _ _ z).elim
theorem ExM.lam {K : PySem.W.Frag} {H H' : Hp} {k : Nat} {f : Addr} (e : ExM H H') (h : LamAt K H k f) : LamAt K H' k f :=
  let ⟨nm, C, dd, h1, h2, h3, h4⟩ := h; ⟨nm, C, dd, h1, h2, e.at (fun _ _ z => by unfold xoH at z; cases z) (fun z => z) h3, fun d hd => let ⟨vs, h5⟩ := h4 d hd; ⟨vs, e.at (fun _ _ z => nomatch z) (fun z => z) h5⟩⟩
theorem ExM.st {K : PySem.W.Frag} {H H' : Hp} {a : Addr} {xs : List V} (e : ExM H H') (h : SqT K H a xs) : SqT K H' a xs := by
  rcases h with h | h
  · exact .inl (e.rd (fun _ _ z => nomatch z) h)
  · exact .inr h
end DL
set_option Elab.async false
set_option linter.all false
set_option maxRecDepth 100000
set_option maxHeartbeats 2000000
namespace DL
open PySem PySem.Spec PyProof.Rows L2
section
variable {X : Cx} {W : WX} {J : JP} {m m' m2 mT : List Md} {e a b c o tg iter : Expr} {f f1 f2 : FE} {t : FT} {st : Stmt} {sts sts2 : List Stmt} {g1 g2 : SF} {pos p1' apos cpos : Pos} {fs : FA} {F : D → Rho → R Rho}
theorem RepK.get {pl : Pl} {K : PySem.W.Frag} {H : Hp} : ∀ {kvs : List (Key × D)} {vs : List (Key × V)} {i : Nat} {k : Key} {v : V}, RepK pl K H kvs vs → vs[i]? = some (k, v) → ∃ d, kvs[i]? = some (k, d) ∧ Rep pl K H d v
  | [], _, i, k, v, h, e => by unfold RepK at h; rw [h] at e; simp at e
  | (k', d) :: r, _, 0, k, v, h, e => by
    unfold RepK at h
    obtain ⟨v', t, rfl, h2, h3⟩ := h
    simp at e
    obtain ⟨rfl, rfl⟩ := e
    exact ⟨d, rfl, h2⟩
  | (k', d) :: r, _, i + 1, k, v, h, e => by
    unfold RepK at h
    obtain ⟨v', t, rfl, h2, h3⟩ := h
    obtain ⟨d', h4, h5⟩ := RepK.get (i := i) h3 (by simpa using e)
    exact ⟨d', by simpa using h4, h5⟩
def keysG (kvs : List (Key × D)) : List D := kvs.map fun kv => keyD kv.1
def valsG (kvs : List (Key × D)) : List D := kvs.map fun kv => kv.2
def kwF (Gk : List (Key × D) → List D) (f : FE) : FA := fun ρ => do let d ← f ρ; let kvs ← asDk d; pure (Gk kvs)
end
end DL
set_option Elab.async false
set_option linter.all false
set_option maxRecDepth 100000
set_option maxHeartbeats 2000000
namespace DL
open PySem PySem.Spec PyProof.Rows L2
def wipeM (m : List Md) : List Nat → List Md
  | [] => m
  | v :: vs => (wipeM m vs).set v .no
def wipeR (ρ : Rho) : List Nat → Rho
  | [] => ρ
  | v :: vs => (wipeR ρ vs).set v none
theorem wipe_at {σ : L2.St} {j : Nat} : ∀ {vs : List Nat}, j ∈ vs → (wipe σ vs)[j]? = if j < σ.length then some none else none
  | v :: vs, h => by
    unfold wipe
    by_cases e : v = j
    · subst e
      by_cases hl : v < σ.length
      · rw [if_pos hl, List.getElem?_set_self (by rw [wipe_length]; exact hl)]
      · rw [if_neg hl, List.getElem?_eq_none (by rw [List.length_set, wipe_length]; omega)]
    · rw [List.getElem?_set_ne e]
      exact wipe_at ((List.mem_cons.mp h).resolve_left fun z => e z.symm)
theorem wipe_same {is vs : List Nat} {σ σ' : L2.St} (h : SameBut is σ σ') (hi : ∀ i ∈ is, i ∈ vs) : wipe σ' vs = wipe σ vs := by
  apply List.ext_getElem?
  intro j
  by_cases hj : j ∈ vs
  · rw [wipe_at hj, wipe_at hj, h.1]
  · rw [wipe_out hj, wipe_out hj, h.2 j fun z => hj (hi j z)]
theorem wipe_idem {vs : List Nat} {σ : L2.St} : wipe (wipe σ vs) vs = wipe σ vs := by
  apply List.ext_getElem?
  intro j
  by_cases hj : j ∈ vs
  · rw [wipe_at hj, wipe_at hj, wipe_length]
  · rw [wipe_out hj]
section
variable {K : PySem.W.Frag} {g : G} {m : List Md} {own : Nat → Addr} {σ : L2.St} {ρ : Rho} {H : Hp} {ps : Ps}
def G.ns (g : G) : G := { g with sx := [] }
theorem Rs.ns (r : Rs K g m own σ ρ H ps) : Rs K g.ns m own σ ρ H ps := { r with sx := fun p hp => by cases hp }
theorem le1_iff {a b : Md} : le1 a b = true ↔ b = .no ∨ a = b := by
  by_cases hb : b = .no
  · subst hb; exact ⟨fun _ => .inl rfl, fun _ => by cases a <;> rfl⟩
  · constructor
    · intro h
      have h2 : le1 a b = (a == b) := by cases b <;> first | exact (hb rfl).elim | (cases a <;> rfl)
      rw [h2] at h
      exact .inr (eq_of_beq h)
    · rintro (h | h)
      · exact (hb h).elim
      · have h2 : le1 a b = (a == b) := by cases b <;> first | exact (hb rfl).elim | (cases a <;> rfl)
        rw [h2, h]; exact beq_self_eq_true _
theorem leM_refl : ∀ (m : List Md), leM m m = true
  | [] => rfl
  | a :: r => by unfold leM; rw [leM_refl r, le1_iff.mpr (.inr rfl)]; rfl
theorem leM_set : ∀ (m : List Md) (v : Nat), leM m (m.set v .no) = true
  | [], _ => rfl
  | a :: r, 0 => by show (le1 a .no && leM r r) = true; rw [leM_refl]; cases a <;> rfl
  | a :: r, v + 1 => by show (le1 a a && leM r (r.set v .no)) = true; rw [leM_set, le1_iff.mpr (.inr rfl)]; rfl
theorem le1_tr : ∀ {x y z : Md}, le1 x y = true → le1 y z = true → le1 x z = true := by
  intro x y z h1 h2
  rcases le1_iff.mp h2 with e | e
  · exact le1_iff.mpr (.inl e)
  · rw [← e]; exact h1
theorem leM_tr : ∀ {a b c : List Md}, leM a b = true → leM b c = true → leM a c = true
  | [], [], _, _, h2 => h2
  | [], _ :: _, _, h1, _ => Bool.noConfusion (show false = true from h1)
  | _ :: _, [], _, h1, _ => Bool.noConfusion (show false = true from h1)
  | _ :: _, _ :: _, [], _, h2 => Bool.noConfusion (show false = true from h2)
  | x :: a, y :: b, z :: c, h1, h2 => by
    unfold leM at h1 h2 ⊢
    rw [Bool.and_eq_true] at h1 h2 ⊢
    exact ⟨le1_tr h1.1 h2.1, leM_tr h1.2 h2.2⟩
theorem leM_wipe (m : List Md) : ∀ vs : List Nat, leM m (wipeM m vs) = true
  | [] => leM_refl m
  | v :: vs => leM_tr (leM_wipe m vs) (leM_set _ v)
theorem Rs.wipe1 (r : Rs K g m own σ ρ H ps) (hs : g.sx = []) (v : Nat) : Rs K g (m.set v .no) own (σ.set v none) (ρ.set v none) H ps := by
  have r1 := r.weak (leM_set m v)
  have ne : ∀ {j : Nat} {x : Md}, (m.set v .no)[j]? = some x → x ≠ .no → j ≠ v := fun {j x} h hx z => by
    subst z
    rcases set_at h with ⟨_, z, _⟩ | ⟨z, _⟩
    · exact hx z
    · exact z rfl
  exact {
    len := by rw [List.length_set, List.length_set]; exact r.len
    sh := fun j d h1 h2 => by
      have e := ne h1 (by decide)
      rw [List.getElem?_set_ne (Ne.symm e)] at h2
      obtain ⟨w, h3, h4⟩ := r1.sh j d h1 h2
      exact ⟨w, by rw [List.getElem?_set_ne (Ne.symm e)]; exact h3, h4⟩
    ow := fun j h => by
      have e : j ≠ v := by rcases h with h | h <;> exact ne h (by decide)
      obtain ⟨d, h1, h2, h3⟩ := r1.ow j h
      exact ⟨d, by rw [List.getElem?_set_ne (Ne.symm e)]; exact h1, by rw [List.getElem?_set_ne (Ne.symm e)]; exact h2, h3⟩
    sb := fun j d h1 h2 => by
      have e := ne h1 (by decide)
      rw [List.getElem?_set_ne (Ne.symm e)] at h2
      obtain ⟨w, h3, h4⟩ := r1.sb j d h1 h2
      exact ⟨w, by rw [List.getElem?_set_ne (Ne.symm e)]; exact h3, h4⟩
    xc := fun j a dx h => by
      have e : j ≠ v := ne h (fun z => nomatch z)
      obtain ⟨d, h1, h2, h3⟩ := r1.xc j a dx h
      exact ⟨d, by rw [List.getElem?_set_ne (Ne.symm e)]; exact h1, by rw [List.getElem?_set_ne (Ne.symm e)]; exact h2, h3⟩
    ex := r1.ex
    sx := fun p hp => by rw [hs] at hp; cases hp
    inj := r1.inj
    nE := r1.nE
    base := r1.base
    pool := r1.pool
    eT := r1.eT }
theorem Rs.wipe (r : Rs K g m own σ ρ H ps) (hs : g.sx = []) : ∀ vs : List Nat, Rs K g (wipeM m vs) own (L2.wipe σ vs) (wipeR ρ vs) H ps
  | [] => r
  | v :: vs => (r.wipe hs vs).wipe1 hs v
theorem Rs.hideTo {p : Addr} {o : HO} {H' : Hp} {ps' : Ps} (r : Rs K g m own σ ρ H ps) (hp : H p = none) (hx : Exo (plS g.pl) H H') (ho : H' p = some o) (hT : ∀ vs, o ≠ .tup vs := by exact fun _ z => nomatch z) (pp : PoolAt g.pl H' ps') (hF : ∀ oc, o ≠ fzO oc := by exact fun _ z => nomatch z) : Rs K (g.hd p) m own σ ρ H' ps' :=
  (r.hide (o := o) hp hT hF).mono (g := g.hd p) (fun a u e n => by
    by_cases z : a = p
    · subst z; rw [upd_same] at e; cases e; exact ho
    · rw [upd_ne z] at e; exact hx a u e n) pp
end
/-- what an item is worth at its turn -/
theorem item_val {pl : Pl} {K : PySem.W.Frag} {O : Addr → Prop} {H H' : Hp} {ps : Ps} {it : Item} {x : V} (hO : ∀ a, O a → Thr (H a)) (hp : PoolAt pl H ps) (hR : it.R pl K (hid O H)) (hY : it.Y H x H') : Exo (plS pl) H H' ∧ PoolAt pl H' ps ∧ Rep pl K (hid O H') it.d x := by
  cases it with
  | one d v =>
    obtain ⟨rfl, rfl⟩ := hY
    exact ⟨Exo.refl, hp, hR⟩
  | tup ds vs =>
    obtain ⟨T', rfl, hT, rfl⟩ := hY
    have np : ¬ O T' := fun z => hO T' z hT
    have hR : Reps pl K (hid O H) ds vs := hR
    refine ⟨Exo.new hT, hp.new hT, ?_⟩
    show Rep _ _ _ (.tup ds) _
    unfold Rep
    refine ⟨T', vs, rfl, (by rw [hid_at np]; exact upd_same), hR.mono fun a o q => ?_⟩
    obtain ⟨n1, q⟩ := hid_of q
    rw [hid_at n1, upd_ne (ne_of_none q hT)]
    exact q
  | key k =>
    obtain ⟨rfl, q, rfl, hq⟩ := hY
    refine ⟨Exo.refl, hp, ?_⟩
    show Rep _ _ _ (.tup (k.map keyD)) _
    unfold Rep
    exact ⟨q, k.map kV, rfl, by rw [hid_at fun z => (hO q z).t _ hq]; exact hq, keysD_reps k⟩
theorem Item.R.mono {pl : Pl} {K : PySem.W.Frag} {H H' : Hp} {it : Item} (e : Ex H H') (h : it.R pl K H) : it.R pl K H' := by
  cases it with
  | one d v => exact Rep.mono e h
  | tup ds vs => exact Reps.mono e h
  | key k => exact h
abbrev blkOf (X : Cx) (scope : Scope) (s : Shared) (H : Hp) (C : Addr) (cl : List (Str × Addr)) (fp : List Addr) : Cx := X.blk s H scope (compEnvC scope cl C X.env) fp
def bE (X : Cx) (scope : Scope) (e : Expr) : TE := fun σ H Q => ∀ s H0 C cl fp, cE (blkOf X scope s H0 C cl fp) e σ H Q
def bG (X : Cx) (scope : Scope) (e : Expr) : TG := fun v σ H Q => ∀ s H0 C cl fp, cG (blkOf X scope s H0 C cl fp) e v σ H Q
def cTs (X : Cx) (ifs : List Expr) : TT := fun σ H Q => ∀ pins s, Inv X pins σ H s →
    wpAny (model X.prog X.w) X.A (forIn ifs true fun c r => if r = true then do let ok ← isTrue c X.env (eval c X.env); pure (ForInStep.yield ok) else pure (ForInStep.yield r)) (TP X pins σ Q) X.xe s
def bTs (X : Cx) (scope : Scope) (ifs : List Expr) : TT := fun σ H Q => ∀ s H0 C cl fp, cTs (blkOf X scope s H0 C cl fp) ifs σ H Q
structure Txs (X : Cx) (m : List Md) (ifs : List Expr) (f : FT) : Prop where
  can : ∀ {g : G} {own : Nat → Addr} {σ : L2.St} {ρ : Rho} {H : Hp} {ps : Ps}, Rs X.K g m own σ ρ H ps → noX (f ρ) ps ≠ .und → cTs X ifs σ H (QB g.pl H (noX (f ρ) ps))
def yesF : FT := fun _ => pure true
theorem txs_nil {X : Cx} {m : List Md} : Txs X m [] yesF := ⟨fun r n pins s I => pts_nil.run pins s _ _ _ I ⟨_, rfl, Exo.refl, r.pool⟩⟩
theorem WF_ok {α : Type} {pl : Pl} {K : PySem.W.Frag} {O : Addr → Prop} {σ : L2.St} {H : Hp} {x : R α} {ps : Ps} (n : noX x ps ≠ .und) : WOk WF pl K O σ H (x ps) ∧ x ps ≠ .und ∧ noX x ps = x ps := by
  obtain ⟨a, ps', h1, h2⟩ := noX_ok n
  refine ⟨fun y ps'' dx H' e => (by rw [h1] at e; cases e), (by rw [h1]; exact fun z => nomatch z), h2.trans h1.symm⟩
theorem Dx.cX {X : Cx} {k : Kd} {m : List Md} {e : Expr} {f : FE} (h : Dx k X WF m e f) {g : G} {own : Nat → Addr} {σ : L2.St} {ρ : Rho} {H : Hp} {ps : Ps} (r : Rs X.K g m own σ ρ H ps) (n : noX (f ρ) ps ≠ .und) : cE X e σ H (QV k g.pl X.K (Xs m own g) H (noX (f ρ) ps)) := by
  obtain ⟨w, n1, e⟩ := WF_ok n
  rw [e]
  exact h.c r n1 w
end DL
set_option Elab.async false
set_option linter.all false
set_option maxRecDepth 100000
set_option maxHeartbeats 2000000
namespace DL
open PySem PySem.Spec PyProof.Rows L2
section
variable {X : Cx} {W : WX} {m mT : List Md} {elt tg iter kx vx : Expr} {ifs : List Expr} {scope : Scope} {own0 : List (Str × Nat)} {pos : Pos} {F : D → Rho → R Rho} {fc : FT} {fe fk fv : FE} {fi : FA} {is : List Nat} {Jc : JP}
/-- a turn's beginning: the target, the tests -/
def tuF {α : Type} (F : D → Rho → R Rho) (fc : FT) (d : D) (k : Rho → Bool → R α) : Rho → R α := fun ρ => do let ρ1 ← noX (F d ρ); let b ← noX (fc ρ1); k ρ1 b
/-- owned slots stay owned -/
def owM : Md → Bool
  | .ow => true
  | .io => true
  | _ => false
def keepM : List Md → List Md → Bool
  | [], _ => true
  | a :: r, b :: t => (!owM a || owM b) && keepM r t
  | a :: r, [] => !owM a && keepM r []
theorem owM_iff {a : Md} : owM a = true ↔ a = .ow ∨ a = .io := by cases a <;> simp [owM]
theorem keepM_at : ∀ {m m2 : List Md}, keepM m m2 = true → ∀ (i : Nat), (m[i]? = some .ow ∨ m[i]? = some .io) → (m2[i]? = some .ow ∨ m2[i]? = some .io)
  | [], _, _, i, h => by simp at h
  | a :: r, b :: t, h, 0, q => by
    unfold keepM at h
    rw [Bool.and_eq_true] at h
    have ha : owM a = true := owM_iff.mpr (by simpa using q)
    have hb : owM b = true := by simpa [ha] using h.1
    simpa using owM_iff.mp hb
  | a :: r, b :: t, h, i + 1, q => by
    unfold keepM at h
    rw [Bool.and_eq_true] at h
    simpa using keepM_at h.2 i (by simpa using q)
  | a :: r, [], h, 0, q => by
    unfold keepM at h
    rw [Bool.and_eq_true] at h
    have ha : owM a = true := owM_iff.mpr (by simpa using q)
    rw [ha] at h
    exact Bool.noConfusion h.1
  | a :: r, [], h, i + 1, q => by
    unfold keepM at h
    rw [Bool.and_eq_true] at h
    have := keepM_at h.2 i (by simpa using q)
    simp at this
theorem keepM_xs {m m2 : List Md} {own : Nat → Addr} {g : G} (h : keepM m m2 = true) : ∀ a, Xs m own g a → Xs m2 own g a := fun a z => by
  rcases z with z | z | ⟨i, z, e⟩
  · exact .inl z
  · exact .inr (.inl z)
  · exact .inr (.inr ⟨i, keepM_at h i z, e⟩)
/-- what is seen of a comprehension's block -/
structure Blk (X : Cx) (scope : Scope) (m : List Md) (vs : List Nat) (tg : Expr) (ifs : List Expr) (Jc : JP) (mT : List Md) (is : List Nat) (F : D → Rho → R Rho) (fc : FT) : Prop where
  tg : ∀ (s : Shared) (H : Hp) (C : Addr) (cl : List (Str × Addr)) (fp : List Addr), TgD (blkOf X scope s H C cl fp) Jc (wipeM m vs) mT tg is F
  ifs : ∀ (s : Shared) (H : Hp) (C : Addr) (cl : List (Str × Addr)) (fp : List Addr), Txs (blkOf X scope s H C cl fp) mT ifs fc
  sub : ∀ i ∈ is, i ∈ vs
  keep1 : keepM m (wipeM m vs) = true
  keep2 : keepM (wipeM m vs) mT = true
theorem turn_go {vs : List Nat} {α : Type} {k : Rho → Bool → R α} (B : Blk X scope m vs tg ifs Jc mT is F fc) {g : G} {own : Nat → Addr} {σ : L2.St} {ρ : Rho} {H H' : Hp} {ps : Ps} {it : Item} {x : V} {Post : Bool → L2.St → Hp → Prop} (hs : g.sx = [])
    (r : Rs X.K g (wipeM m vs) own (wipe σ vs) (wipeR ρ vs) H ps) (hR : it.R g.pl X.K (hid (Xs (wipeM m vs) own g) H)) (hY : it.Y H x H') (n : tuF F fc it.d k (wipeR ρ vs) ps ≠ .und)
    (hq : ∀ ρ1 σ1 b H4 ps4, Rs X.K g mT own σ1 ρ1 H4 ps4 → Exo (plS g.pl) H H4 → tuF F fc it.d k (wipeR ρ vs) ps = k ρ1 b ps4 → Post b σ1 H4) :
    bG X scope tg x (wipe σ vs) H' fun σ2 H2 => wipe σ2 vs = wipe σ vs ∧ bTs X scope ifs σ2 H2 fun b H3 => Post b σ2 H3 := by
  obtain ⟨x1, p1, hd⟩ := item_val r.xT r.pool hR hY
  have r1 := r.mono x1 p1
  intro s0 H0 C cl fp pins s u I rv
  obtain ⟨ρ', ps', h1, h2⟩ := noX_ok (ne_of_bind n)
  refine thn ((B.tg s0 H0 C cl fp).run g own pins s (wipe σ vs) (wipeR ρ vs) H' ps it.d x u I r1 (fun p hp => by rw [hs] at hp; cases hp) hd rv (by rw [h1]; exact fun z => nomatch z)) fun _ s2 ⟨ρ1, σ1, e1, I1, r2, sb⟩ => ?_
  rw [h1] at e1
  cases e1
  refine ⟨σ1, H', I1, by rw [wipe_same sb B.sub, wipe_idem], fun s0' H0' C' cl' fp' => ?_⟩
  have e2 : tuF F fc it.d k (wipeR ρ vs) ps = (noX (fc ρ') >>= fun b => k ρ' b) ps := bind_ok h2
  rw [e2] at n
  have hk := (B.ifs s0' H0' C' cl' fp').can (σ := σ1) r2 (ne_of_bind n)
  intro pins3 s3 I3
  refine thn (hk pins3 s3 I3) fun b s4 ⟨H4, I4, ps4, e4, x4, p4⟩ => ⟨H4, I4, ?_⟩
  exact hq ρ' σ1 b H4 ps4 (r2.mono x4 p4) (x1.trans x4) (by rw [e2]; exact bind_ok e4)
def lcGo (F : D → Rho → R Rho) (fc : FT) (fe : FE) : List D → Rho → R (List D)
  | [], _ => pure []
  | d :: r, ρ => tuF F fc d (fun ρ1 b => if b = true then (do let y ← noX (fe ρ1); let t ← lcGo F fc fe r ρ; pure (y :: t)) else lcGo F fc fe r ρ) ρ
def lcF (vs : List Nat) (fi : FA) (F : D → Rho → R Rho) (fc : FT) (fe : FE) : FE := fun ρ => do let its ← fi ρ; let ds ← noX (lcGo F fc fe its (wipeR ρ vs)); if lenC ds.length = true then pure (.lst ds) else R.und
/-- a list comprehension, its iterator's walk given -/
theorem lc_t {vs : List Nat} {Q : VK} (B : Blk X scope m vs tg ifs Jc mT is F fc) (he : ∀ (s : Shared) (H : Hp) (C : Addr) (cl : List (Str × Addr)) (fp : List Addr), Dx .cl (blkOf X scope s H C cl fp) WF mT elt fe)
    {g : G} {own : Nat → Addr} {σ : L2.St} {ρ : Rho} {H : Hp} {ps : Ps} (r : Rs X.K g m own σ ρ H ps) (hcI : cI X tg iter σ H (QI m own g.pl X.K (Xs m own g) H (fi ρ ps))) (n : lcF vs fi F fc fe ρ ps ≠ .und) (hQ : ∀ v H', QV .fr g.pl X.K (Xs m own g) H (lcF vs fi F fc fe ρ ps) v H' → Q v H') :
    tLc (cI X tg iter) (bG X scope tg) (bTs X scope ifs) (bE X scope elt) vs σ H Q := by
  intro pins0 s0 I0
  refine thn (hcI pins0 s0 I0) fun v s1 h1 => thn h1 fun itv s2 h2 => ?_
  obtain ⟨it, fp, tn, JJ, H1, e1, I1, T, st2, f2, its, ps1, ks, e2, x1, p1, wk, hk, hits⟩ := h2
  refine ⟨it, fp, tn, JJ, H1, e1, I1, T, st2, f2, fun Da hDa => ?_⟩
  have e3 : lcF vs fi F fc fe ρ ps = (noX (lcGo F fc fe (its.map Item.d) (wipeR ρ vs)) >>= fun ds => if lenC ds.length = true then (pure (.lst ds) : R D) else R.und) ps1 := bind_ok e2
  rw [e3] at n hQ
  obtain ⟨fin, psf, hfin, hfin'⟩ := noX_ok (ne_of_bind n)
  rw [bind_ok hfin'] at n hQ
  obtain ⟨hlen, hret⟩ := ifB_und n
  rw [hret] at hQ
  have r0 := (r.mono x1 p1).ns.wipe rfl vs
  have r1 := r.mono x1 p1
  have npl : ¬ plS g.pl Da := r1.npl hDa
  have nX : ¬ Xs m own g Da := fun z => r1.xT _ z hDa
  have xsw : ∀ a, Xs (wipeM m vs) own g.ns a → Xs m own g a := fun a z => by
    rcases z with z | z | ⟨i, z, e⟩
    · exact .inl z
    · exact .inr (.inl z)
    · refine .inr (.inr ⟨i, ?_, e⟩)
      rcases z with z | z
      · exact .inl (leM_at (leM_wipe m vs) i _ z (by decide))
      · exact .inr (leM_at (leM_wipe m vs) i _ z (by decide))
  -- the state at a turn
  have stt : ∀ {H2 : Hp} {ps2 : Ps} {acc : List V}, Exo (plS g.pl) H1 H2 → PoolAt g.pl H2 ps2 → H2 Da = some (.lst acc) → Rs X.K (g.ns.hd Da) (wipeM m vs) own (wipe σ vs) (wipeR ρ vs) H2 ps2 := fun x2 p2 hd => r0.hideTo hDa x2 hd (fun _ z => nomatch z) p2
  have lift : ∀ {H2 : Hp}, Exo (plS g.pl) H1 H2 → Ex (hid (Xs m own g) H1) (hid (Xs (wipeM m vs) own (g.ns.hd Da)) H2) := fun {H2} x2 a o q => by
    obtain ⟨n1, q⟩ := hid_of q
    have na : a ≠ Da := ne_of_none q hDa
    rw [hid_at (fun z => (Xs.hd_out a z).elim (fun z => n1 (xsw a z)) na)]
    exact x2 a o q fun z => n1 (Xs.pl _ z)
  let P : Nat → Hp → Prop := fun i H2 => i ≤ its.length ∧ ∃ (acc : List D) (av : List V) (ps2 : Ps), Exo (plS g.pl) H1 H2 ∧ PoolAt g.pl H2 ps2 ∧ H2 Da = some (.lst av) ∧ Reps g.pl X.K (hid (Xs (wipeM m vs) own (g.ns.hd Da)) H2) acc av ∧
    (lcGo F fc fe ((its.map Item.d).drop i) (wipeR ρ vs) >>= fun t => (pure (acc ++ t) : R (List D))) ps2 = .ok fin psf
  refine ⟨fun i k H2 => k = its.length - i ∧ P i H2, ⟨its.length, by simp, Nat.zero_le _, [], [], ps1, Exo.new hDa, p1.new hDa, upd_same, Reps.nil, ?_⟩, ?_⟩
  · rw [List.drop_zero, bind_ok hfin]; rfl
  rintro i k H2 ⟨rfl, hil, acc, av, ps2, x2, p2, hav, hreps, heq⟩
  have kH : KeepH ks H2 := fun p hp => x2 _ _ (hk p hp).1 (hk p hp).2.1
  by_cases hlt : i < its.length
  · right
    refine ⟨wk.go i H2 hlt kH, fun H' => P (i + 1) H', fun H' q => ⟨its.length - (i + 1), by omega, rfl, q⟩, fun x H' hy => ?_⟩
    have hit := List.getElem?_eq_getElem hlt
    have hY := wk.yld i x H2 H' its[i] hit kH hy
    have hdrop : (its.map Item.d).drop i = its[i].d :: (its.map Item.d).drop (i + 1) := by
      rw [List.drop_eq_getElem_cons (by simpa using hlt)]; simp
    rw [hdrop] at heq
    have ntot := ne_of_bind (show (lcGo F fc fe (its[i].d :: (its.map Item.d).drop (i + 1)) (wipeR ρ vs) >>= fun t => (pure (acc ++ t) : R (List D))) ps2 ≠ .und by rw [heq]; exact fun z => nomatch z)
    have rr := stt x2 p2 hav
    refine turn_go B rfl rr ((hits _ (List.getElem_mem hlt)).mono (lift x2)) hY ntot fun ρ1 σ1 b H4 ps4 r4 x4 e4 => ?_
    have x14 := x2.trans x4
    have hav4 : H4 Da = some (.lst av) := x4 _ _ hav npl
    have ex4 : Ex (hid (Xs (wipeM m vs) own (g.ns.hd Da)) H2) (hid (Xs (wipeM m vs) own (g.ns.hd Da)) H4) := x4.hid Xs.pl
    have heq4 : ((if b = true then (do let y ← noX (fe ρ1); let t ← lcGo F fc fe ((its.map Item.d).drop (i + 1)) (wipeR ρ vs); pure (y :: t)) else lcGo F fc fe ((its.map Item.d).drop (i + 1)) (wipeR ρ vs)) >>= fun t => (pure (acc ++ t) : R (List D))) ps4 = .ok fin psf := by
      rw [← heq]
      show R.bnd _ _ ps4 = R.bnd _ _ ps2
      unfold R.bnd
      rw [show lcGo F fc fe (its[i].d :: (its.map Item.d).drop (i + 1)) (wipeR ρ vs) ps2 = _ from e4]
    cases b with
    | false =>
      exact ⟨hlt, acc, av, ps4, x14, r4.pool, hav4, hreps.mono ex4, heq4⟩
    | true =>
      rw [if_pos rfl] at heq4 ⊢
      have n5 : noX (fe ρ1) ps4 ≠ .und := ne_of_bind (ne_of_bind (show ((do let y ← noX (fe ρ1); let t ← lcGo F fc fe ((its.map Item.d).drop (i + 1)) (wipeR ρ vs); pure (y :: t) : R (List D)) >>= fun t => (pure (acc ++ t) : R (List D))) ps4 ≠ .und by rw [heq4]; exact fun z => nomatch z))
      intro s5 H5 C5 cl5 fp5
      refine cE.mono ((he s5 H5 C5 cl5 fp5).cX r4 n5) fun y H6 ⟨d6, ps6, e6, x6, p6, q6⟩ => ?_
      have heq6 : (lcGo F fc fe ((its.map Item.d).drop (i + 1)) (wipeR ρ vs) >>= fun t => (pure (acc ++ d6 :: t) : R (List D))) ps6 = .ok fin psf := by
        rw [← heq4]
        show R.bnd _ _ ps6 = R.bnd (R.bnd (noX (fe ρ1)) _) _ ps4
        unfold R.bnd
        rw [e6]
        show _ = R.bnd (R.bnd _ _) _ ps6
        unfold R.bnd
        cases lcGo F fc fe ((its.map Item.d).drop (i + 1)) (wipeR ρ vs) ps6 <;> rfl
      have hav6 : H6 Da = some (.lst av) := x6 _ _ hav4 npl
      have hacc : acc.length < fin.length := by
        cases z : lcGo F fc fe ((its.map Item.d).drop (i + 1)) (wipeR ρ vs) ps6 with
        | und => rw [bind_und z] at heq6; cases heq6
        | exc e q => rw [bind_exc z] at heq6; cases heq6
        | ok t q =>
          rw [bind_ok z] at heq6
          have : Res.ok (acc ++ d6 :: t) q = Res.ok fin psf := heq6
          cases this
          simp
      refine ⟨av, hav6, ?_, hlt, acc ++ [d6], av ++ [y], ps6, ?_, pool_unhide npl (.of hav6 fun _ z => nomatch z) p6, upd_same, ?_, ?_⟩
      · rw [hreps.length]; exact Nat.lt_of_lt_of_le hacc (lenC_ok hlen)
      · exact fun a o h nn => by rw [upd_ne (ne_of_none h hDa)]; exact (x14.trans x6) a o h nn
      · have hm : Ex (hid (Xs (wipeM m vs) own (g.ns.hd Da)) H6) (hid (Xs (wipeM m vs) own (g.ns.hd Da)) (upd H6 Da (.lst (av ++ [y])))) := fun a o q => by
          obtain ⟨n1, q⟩ := hid_of q
          rw [hid_at n1, upd_ne (fun z => n1 (.inl (.inr z)))]
          exact q
        refine Reps.mono hm (((hreps.mono ex4).mono (x6.hid Xs.pl)).append (Reps.cons ?_ Reps.nil))
        exact Rep.mono (hid_sub (keepM_xs B.keep2)) q6
      · rw [← heq6]; simp
  · left
    have hie : i = its.length := by omega
    subst hie
    refine ⟨wk.stop H2 kH, ?_⟩
    rw [List.drop_eq_nil_of_le (by simp)] at heq
    have : Res.ok (acc ++ []) ps2 = Res.ok fin psf := heq
    rw [List.append_nil] at this
    cases this
    refine hQ _ _ ⟨.lst fin, psf, rfl, x1.trans x2, p2, Da, rfl, ?_, av, hav, hreps.mono fun a o q => ?_⟩
    · cases z : H Da with
      | none => rfl
      | some o => rw [x1 _ _ z npl] at hDa; cases hDa
    · obtain ⟨n1, q⟩ := hid_of q
      rw [hid_at (fun z => z.elim (fun z => n1 (Xs.hd_in a (keepM_xs (g := g.ns) B.keep1 a z))) fun z => n1 (.inl (.inr z)))]
      exact q
theorem lc_run (hc : X.calm = true) (hN : X.N.Nodup) (ok : BlkOk X.N X.env.scope scope own0) (B : Blk X scope m (own0.map (·.2)) tg ifs Jc mT is F fc) (he : ∀ (s : Shared) (H : Hp) (C : Addr) (cl : List (Str × Addr)) (fp : List Addr), Dx .cl (blkOf X scope s H C cl fp) WF mT elt fe) (hsf : ∀ x, foldedSetIterable iter X.env x = pure x)
    {g : G} {own : Nat → Addr} {pins : List (Addr × Obj)} {s : Shared} {σ : L2.St} {ρ : Rho} {H : Hp} {ps : Ps} (I : Inv X pins σ H s) (r : Rs X.K g m own σ ρ H ps) (hcI : cI X tg iter σ H (QI m own g.pl X.K (Xs m own g) H (fi ρ ps))) (n : lcF (own0.map (·.2)) fi F fc fe ρ ps ≠ .und) :
    wpAny (model X.prog X.w) X.A (eval (.ListComp elt [⟨tg, iter, ifs, 0⟩] scope pos) X.env) (EP X pins σ (QV .fr g.pl X.K (Xs m own g) H (lcF (own0.map (·.2)) fi F fc fe ρ ps))) X.xe s :=
  (pe_lc (te := bE X scope elt) (g := bG X scope tg) (tt := bTs X scope ifs) hc hN (pi_c X tg iter) ok (fun s H0 C cl fp => ⟨fun pins s' σ H v u Q I rv h => h s H0 C cl fp pins s' u I rv⟩) (fun s H0 C cl fp => ⟨fun pins s' σ H Q I h => h s H0 C cl fp pins s' I⟩) (fun s H0 C cl fp => ⟨fun pins s' σ H Q I h => h s H0 C cl fp pins s' I⟩) hsf).run pins s σ H _ I (lc_t B he r hcI n fun _ _ z => z)
end
end DL
set_option Elab.async false
set_option linter.all false
set_option maxRecDepth 100000
set_option maxHeartbeats 2000000
namespace DL
open PySem PySem.Spec PyProof.Rows L2
section
variable {X : Cx} {W : WX} {m mT : List Md} {elt tg iter kx vx e : Expr} {ifs : List Expr} {scope : Scope} {own0 : List (Str × Nat)} {pos : Pos} {F : D → Rho → R Rho} {fc : FT} {fe fk fv f : FE} {fi : FA} {is : List Nat} {Jc : JP}
theorem dx_lc (hc : X.calm = true) (hN : X.N.Nodup) (ok : blkC X.N X.env.scope scope own0 = true) (hi : DI X W m tg iter fi) (B : Blk X scope m (own0.map (·.2)) tg ifs Jc mT is F fc) (he : ∀ (s : Shared) (H : Hp) (C : Addr) (cl : List (Str × Addr)) (fp : List Addr), Dx .cl (blkOf X scope s H C cl fp) WF mT elt fe) (hsf : ∀ x, foldedSetIterable iter X.env x = pure x := by intro _; rfl) :
    Dx .fr X W m (.ListComp elt [⟨tg, iter, ifs, 0⟩] scope pos) (lcF (own0.map (·.2)) fi F fc fe) :=
  ⟨fun g own pins s σ ρ H ps I r n w => lc_run hc hN (blkOk_by ok) B he hsf I r (hi.can r (ne_of_bind n) (WOk.left w)) n⟩
def dcGo (F : D → Rho → R Rho) (fc : FT) (fk fv : FE) : List D → Rho → List (Key × D) → R (List (Key × D))
  | [], _, acc => pure acc
  | d :: r, ρ, acc => tuF F fc d (fun ρ1 b => if b = true then (do
      let k ← noX (fk ρ1)
      let y ← noX (fv ρ1)
      let k ← ofO (keyOf k)
      if lenC (acc.length + 1) = true then dcGo F fc fk fv r ρ (putD acc k y) else R.und) else dcGo F fc fk fv r ρ acc) ρ
def dcF (vs : List Nat) (fi : FA) (F : D → Rho → R Rho) (fc : FT) (fk fv : FE) : FE := fun ρ => do let its ← fi ρ; let kvs ← noX (dcGo F fc fk fv its (wipeR ρ vs) []); pure (.dk kvs)
end
end DL
set_option Elab.async false
set_option linter.all false
set_option maxRecDepth 100000
set_option maxHeartbeats 2000000
namespace DL
open PySem PySem.Spec PyProof.Rows L2
section
variable {P : Program} {w : World} {A : Around} {E : Value → Shared → Prop} {s : Shared} {a : Addr} {S : Key → Bool} {n : Nat} {h h' : Heap}
/-- two entries hold no key in common -/
def Apart (P : Program) (w : World) (x y : Int × Value) : Prop := ∀ k : Key, ¬ ((mixKind P w).is k x.2 = true ∧ (mixKind P w).is k y.2 = true)
theorem Apart.symm {x y : Int × Value} (q : Apart P w x y) : Apart P w y x := fun k z => q k ⟨z.2, z.1⟩
/-- the set at a: its keys, their number; a table that can be walked -/
def SetG (P : Program) (w : World) (h : Heap) (a : Addr) (S : Key → Bool) (n : Nat) : Prop :=
  ∃ o es ep t, h.get? a = some o ∧ o.ExactSet ∧ o.data = .set es ep t ∧ ElemsOf (mixKind P w) es.toList ∧ es.toList.Pairwise (Apart P w) ∧ (∀ k, S k = true ↔ ∃ e ∈ es.toList, (mixKind P w).is k e.2 = true) ∧
    es.size < scanBound ∧ t.fits es.size = true ∧ es.size = n ∧ Ris t.place.toList ∧ (w.params.followText "set-order" = true ∨ t.led = true)
theorem SetG.at (R : SetG P w h a S n) (k : ∀ o, h.get? a = some o → h'.get? a = some o) : SetG P w h' a S n := by
  obtain ⟨o, es, ep, t, ho, r⟩ := R
  exact ⟨o, es, ep, t, k o ho, r⟩
end
end DL
set_option Elab.async false
set_option linter.all false
set_option maxRecDepth 100000
set_option maxHeartbeats 2000000
namespace DL
open PySem PySem.Spec PyProof.Rows L2
end DL
set_option Elab.async false
set_option linter.all false
set_option maxRecDepth 100000
set_option maxHeartbeats 2000000
namespace DL
open PySem PySem.Spec PyProof.Rows L2
section
variable {B : Cx} {pn : List (Addr × Obj)} {tg : Expr} {J : It} {fp : List Addr} {it : Addr} {tn : Nat → Heap → Prop}
/-- the walk stands ahead of turn i -/
def AtT (B : Cx) (pn : List (Addr × Obj)) (fp : List Addr) (tn : Nat → Heap → Prop) (i : Nat) (σ : L2.St) (H : Hp) (s : Shared) : Prop := Inv B pn σ H s ∧ tn i s.heap ∧ ∀ b ∈ fp, H b = none
/-- an iterator's objects are no one's -/
def FpS (B : Cx) (pn : List (Addr × Obj)) (fp : List Addr) : Prop := ∀ b ∈ fp, ∀ H : Hp, H b = none → FpOk B pn H b
theorem FpS.of {H : Hp} (h : ∀ b ∈ fp, FpOk B pn H b) : FpS B pn fp := fun b hb H' e => ⟨e, (h b hb).2⟩
theorem AtT.stop {i : Nat} {σ : L2.St} {H : Hp} {s : Shared} (T : Turn B.prog B.w B.K tg J fp it tn) (hc : B.calm = true) (hf : FpS B pn fp) (a : AtT B pn fp tn i σ H s) (h : J.stop i H) : wpAny (model B.prog B.w) B.A (pyNext (.ref it)) (fun r s1 => r = none ∧ Inv B pn σ H s1) (fun _ _ => False) s :=
  T.done B rfl rfl rfl hc i pn s σ H _ a.1 (fun b hb => hf b hb H (a.2.2 b hb)) a.2.1 h
theorem AtT.go {i : Nat} {σ : L2.St} {H : Hp} {s : Shared} (T : Turn B.prog B.w B.K tg J fp it tn) (hc : B.calm = true) (hf : FpS B pn fp) (a : AtT B pn fp tn i σ H s) (h : J.go i H) : wpAny (model B.prog B.w) B.A (pyNext (.ref it)) (fun r s1 => ∃ u, r = some u ∧
    wpAny (model B.prog B.w) B.A (letOwnedTupleGo tg (.ref it) u) (fun _ s2 => ∃ x H', RelV x u ∧ J.yld i H x H' ∧ ∃ pl, Inv B (pn ++ pl) σ H' s2 ∧ ∀ σ3 H3 s3, Inv B (pn ++ pl) σ3 H3 s3 → AtT B pn fp tn (i + 1) σ3 H3 s3) (fun _ _ => False) s1) (fun _ _ => False) s := by
  refine thnF (T.item B rfl rfl rfl hc i pn s σ H _ a.1 (fun b hb => hf b hb H (a.2.2 b hb)) a.2.1 h) fun r s1 ⟨u, e, q⟩ => ⟨u, e, thnF q fun _ s2 ⟨x, H', I', rx, y, st, nf⟩ => ?_⟩
  refine ⟨x, H', rx, y, pinsAt fp s2.heap, I'.pinned (fun b hb => hf b hb H' (nf b hb)) (T.obj _ _ st), fun σ3 H3 s3 I3 => ?_⟩
  have key : ∀ b ∈ fp, ∀ o, s2.heap.get? b = some o → s3.heap.get? b = some o ∧ H3 b = none := fun b hb o e =>
    let z := I3.pin (b, o) (List.mem_append_right _ (List.mem_append_right _ (mem_pinsAt hb e)))
    ⟨z.1, z.2.1⟩
  refine ⟨I3.unpinned, T.keep _ _ _ st fun b hb o e => (key b hb o e).1, fun b hb => ?_⟩
  obtain ⟨o, e, _⟩ := T.obj _ _ st b hb
  exact (key b hb o e).2
theorem AtT.weak {i : Nat} {σ σ' : L2.St} {H : Hp} {s : Shared} (a : AtT B pn fp tn i σ H s) (hl : σ'.length = σ.length) (h : ∀ (j : Nat) v, σ'[j]? = some (some v) → σ[j]? = some (some v)) : AtT B pn fp tn i σ' H s := ⟨a.1.weak hl h, a.2⟩
end
end DL
set_option Elab.async false
set_option linter.all false
set_option maxRecDepth 100000
set_option maxHeartbeats 2000000
namespace DL
open PySem PySem.Spec PyProof.Rows L2
end DL
set_option Elab.async false
set_option linter.all false
set_option maxRecDepth 100000
set_option maxHeartbeats 2000000
namespace DL
open PySem PySem.Spec PyProof.Rows L2
def memK (k : Key) (ks : List Key) : Bool := ks.any fun j => decide (j = k)
def addK (ks : List Key) (k : Key) : List Key := if memK k ks = true then ks else ks ++ [k]
section
variable {X : Cx} {W : WX} {m mT mT1 : List Md} {elt tg iter tg1 iter1 e : Expr} {ifs ifs1 : List Expr} {scope : Scope} {own0 : List (Str × Nat)} {pos : Pos} {F F1 : D → Rho → R Rho} {fc fc1 : FT} {fe f : FE} {fi fi1 : FA} {is is1 : List Nat} {Jc Jc1 : JP}
def scGo (F : D → Rho → R Rho) (fc : FT) (fe : FE) : List D → Rho → List Key → R (List Key)
  | [], _, acc => pure acc
  | d :: r, ρ, acc => tuF F fc d (fun ρ1 b => if b = true then (do
      let y ← noX (fe ρ1)
      let k ← ofO (keyOf y)
      if decide (acc.length < 4000) = true then scGo F fc fe r ρ (addK acc k) else R.und) else scGo F fc fe r ρ acc) ρ
def scF (vs : List Nat) (fi : FA) (F : D → Rho → R Rho) (fc : FT) (fe : FE) : Rho → R (List Key) := fun ρ => do let its ← fi ρ; noX (scGo F fc fe its (wipeR ρ vs) [])
end
end DL
set_option Elab.async false
set_option linter.all false
set_option maxRecDepth 100000
set_option maxHeartbeats 2000000
namespace DL
open PySem PySem.Spec PyProof.Rows L2
section
variable {X : Cx} {W : WX} {m mT mT1 : List Md} {elt tg iter tg1 iter1 e : Expr} {ifs ifs1 : List Expr} {scope : Scope} {own0 : List (Str × Nat)} {pos p : Pos} {F F1 : D → Rho → R Rho} {fc fc1 : FT} {fe f : FE} {fi fi1 : FA} {is is1 : List Nat} {Jc Jc1 : JP} {fs : Rho → R (List Key)}
def sc2Go (vs1 : List Nat) (F : D → Rho → R Rho) (fc : FT) (fi1 : FA) (F1 : D → Rho → R Rho) (fc1 : FT) (fe : FE) : List D → Rho → List Key → R (List Key)
  | [], _, acc => pure acc
  | d :: r, ρ, acc => tuF F fc d (fun ρ1 b => if b = true then (do
      let its ← noX (fi1 ρ1)
      let acc' ← scGo F1 fc1 fe its (wipeR ρ1 vs1) acc
      sc2Go vs1 F fc fi1 F1 fc1 fe r ρ acc') else sc2Go vs1 F fc fi1 F1 fc1 fe r ρ acc) ρ
def sc2F (vs vs1 : List Nat) (fi : FA) (F : D → Rho → R Rho) (fc : FT) (fi1 : FA) (F1 : D → Rho → R Rho) (fc1 : FT) (fe : FE) : Rho → R (List Key) := fun ρ => do let its ← fi ρ; noX (sc2Go vs1 F fc fi1 F1 fc1 fe its (wipeR ρ vs) [])
def strK : List Key → Option (List Str)
  | [] => some []
  | .inr s :: r => (strK r).map (s :: ·)
  | _ => none
def intK : List Key → Option (List Int)
  | [] => some []
  | .inl s :: r => (intK r).map (s :: ·)
  | _ => none
def insI (x : Int) : List Int → List Int
  | [] => [x]
  | y :: r => if x ≤ y then x :: y :: r else y :: insI x r
def sortI : List Int → List Int
  | [] => []
  | x :: r => insI x (sortI r)
/-- the members in order -/
def sortKs (ks : List Key) : Option D := if ks.length < 64 then (match strK ks with
  | some ss => some (.lst ((sortS ss).map D.str))
  | none => (intK ks).map fun is => .lst ((sortI is).map D.int)) else none
def ssF (fs : Rho → R (List Key)) : FE := fun ρ => do let ks ← fs ρ; ofO (sortKs ks)
def slF (fs : Rho → R (List Key)) : FE := fun ρ => do let ks ← fs ρ; if decide (ks.length < 4096) = true then pure (.int ks.length) else R.und
theorem blt_e {x : Str} {id : String} {te : TE} {r0 : List V → Hp → VK → Prop} (hcr : CallR X (.builtin id) r0) (he : PE X e te) (hm : X.mg x = none) (hv : bootBuiltins x = some (.builtin id)) (hg : Gl X x) (hn : x ≠ "__name__") (hdb : (x == ("__debug__" : Str)) = false)
    (hs : starEach [e] X.env = (false, eval e X.env) :: starEach [] X.env) (hpl : (backTo pos (starEach [] X.env)).any (·.1) = false) : PE X (.Call (.Name x p) [e] [] pos) (fun σ H Q => te σ H fun v H1 => r0 [v] H1 Q) := by
  refine ⟨fun pins s σ H Q I h => ?_⟩
  refine wpAny_Call_Name_kw (ld_blt I hg hm hv ?_ hn hdb)
  exact PyProof.Rows.callWith_builtin1 (thn ((pa_cons he pa_nil hs).run pos pins s σ H (fun vs H1 => r0 vs H1 Q) I h) fun us s1 ⟨vs, H1, I1, rv, q⟩ => hcr pins s1 σ H1 vs us Q I1 rv q) hs hpl
end
end DL
set_option Elab.async false
set_option linter.all false
set_option maxRecDepth 100000
set_option maxHeartbeats 2000000
namespace DL
open PySem PySem.Spec PyProof.Rows L2
end DL
set_option Elab.async false
set_option linter.all false
set_option maxRecDepth 100000
set_option maxHeartbeats 2000000
namespace DL
open PySem PySem.Spec PyProof.Rows L2
def finF : Fl → R D
  | .rt d _ => pure d
  | _ => R.und
def runF (n : Nat) (G : SF) (ds : List D) : R D := do let fl ← G (padR n ds); finF fl
section
variable {P : Program} {w : World} {K : PySem.W.Frag} {mg : Str → Option Value} {base : Heap}
theorem bodyF {qual : Str} {st : Stmt} {f : Addr} {N nms : List Str} {k : Nat} {ms mE : List Md} {G0 : SF} (hms : ms.length = nms.length) (hN : nms.length ≤ N.length)
    (body : ∀ (cdv : Value) (A : Around) (outer : List Env) (s : Shared) (H : Hp) (E : XK), Room k (A.deeper (envOfC qual (defScope st) s.heap.objs.size f cdv)) → Takes (cxOf (L2.CX P w) P w K mg base N qual (defScope st) f cdv A outer s H E) (fun cls d _ H => E cls d H) →
      Dss (cxOf (L2.CX P w) P w K mg base N qual (defScope st) f cdv A outer s H E) (fun cls d _ H => E cls d H) { mb := [], mr := mrOf N.length, fr := true } (padM N.length ms) mE (defBody st) G0) (cdv : Value) (A : Around) (outer : List Env) (s : Shared) (H : Hp) (vs : List V) (Q : VK) (E : XK) (hr : Room k (A.deeper (envOfC qual (defScope st) s.heap.objs.size f cdv))) (h : spD K .fr ms (runF N.length G0) vs H Q E) :
    ∃ t, PSs (cxOf (L2.CX P w) P w K mg base N qual (defScope st) f cdv A outer s H E) (defBody st) t ∧ t { nx := fun _ H' => Q .non H', rt := Q } (start N vs) H := by
  obtain ⟨pl, O, ds, ps, ha, hO, hT, hp, hn, hQ, hE⟩ := h
  have hl := ha.len
  let g : G := { pl := pl, E := O, B := H }
  have tk : Takes (cxOf (L2.CX P w) P w K mg base N qual (defScope st) f cdv A outer s H E) (fun cls d _ H => E cls d H) := takes_of rfl rfl rfl rfl
  have noOw : ∀ (i : Nat), ¬ ((padM N.length ms)[i]? = some .ow ∨ (padM N.length ms)[i]? = some .io) := fun i z => by
    rcases z with z | z
    · rcases ha.kinds i _ (pad_at z (by decide)) with e | e <;> cases e
    · rcases ha.kinds i _ (pad_at z (by decide)) with e | e <;> cases e
  have sub : ∀ own a, Xs (padM N.length ms) own g a → O a := fun own a z => by
    rcases z with z | z | ⟨i, z, _⟩
    · exact z
    · exact hO a z
    · exact (noOw i z).elim
  have r0 : Rs K g (padM N.length ms) (fun _ => 0) (L2.start N vs) (padR N.length ds) H ps := {
    len := by
      unfold padR L2.start
      rw [List.length_append, List.length_append, List.length_map, List.length_map, List.length_replicate, List.length_replicate, hl.1, hl.2]
    sh := fun i d h1 h2 => by
      obtain ⟨v, h3, h4⟩ := ha.at_ i d (pad_some h2)
      have h1 := pad_at h1 (by decide)
      rcases h4 with ⟨_, h4⟩ | ⟨h5, _⟩
      · exact ⟨v, at_pad h3, h4.mono (hid_sub (sub _))⟩
      · rw [h1] at h5; cases h5
    ow := fun i q => (noOw i q).elim
    sb := fun i d h1 h2 => by
      obtain ⟨v, h3, h4⟩ := ha.at_ i d (pad_some h2)
      have h1 := pad_at h1 (by decide)
      rcases h4 with ⟨h5, _⟩ | ⟨_, h4⟩
      · rw [h1] at h5; cases h5
      · refine ⟨v, at_pad h3, ?_⟩
        rcases h4 with h4 | ⟨a, ea, np, t⟩
        · exact .inl (h4.mono (hid_sub (sub _)))
        · exact .inr ⟨a, ea, np, fun j q => (noOw j q).elim, t.mono (hid_sub (sub _))⟩
    xc := fun i b dx z => by rcases ha.kinds i _ (pad_at z (fun y => nomatch y)) with e | e <;> cases e
    ex := fun p hp => by cases hp
    sx := fun p hp => by cases hp
    inj := fun i j q _ _ => (noOw i q).elim
    nE := fun i q => (noOw i (.inl q)).elim
    base := Exo.refl
    pool := hp
    eT := hT }
  refine ⟨_, pss_c _ _, fun pins s1 I1 => ?_⟩
  have e0 : ∀ {fl : Fl} {ps' : Ps}, G0 (padR N.length ds) ps = .ok fl ps' → runF N.length G0 ds ps = finF fl ps' := fun e => bind_ok e
  have n0 : G0 (padR N.length ds) ps ≠ .und := ne_of_bind hn
  have wsub : ∀ {mm : List Md} {own : Nat → Addr} {H' : Hp}, Ex (hid (Xs mm own g) H') (hid O H') := hid_sub fun a z => .inl z
  refine thn ((body cdv A outer s H E hr tk).run g (fun _ => 0) pins s1 _ _ H ps I1 r0 (fun p hp => by cases hp) n0 ?_) fun fl s2 q => spI' q ?_ ?_ ?_ ?_
  · intro y ps' dx H' σ' e1 e2 e3 ⟨ws, e4, e5⟩ _
    exact hE y ps' dx H' (bind_exc e1) e2 e3 ⟨ws, e4, e5.mono (hid_sub fun a z => .inl z)⟩
  · rintro σ' H' ⟨ρ', ps', own', a1, a2, a3⟩
    exact (hn ((e0 a1).trans rfl)).elim
  · rintro σ' H' ⟨ρ', ps', own', a1, a2, a3⟩
    exact (hn ((e0 a1).trans rfl)).elim
  · rintro σ' H' ⟨ρ', ps', own', a1, a2, a3⟩
    exact (hn ((e0 a1).trans rfl)).elim
  · rintro v H' ⟨d, ρ', ps', own', σ', a1, a2, a3, p, e1, e2, e3, e4⟩
    exact hQ _ _ ⟨d, ps', (e0 a1).trans rfl, a2.base, a2.pool, p, e1, e2, e4.mono (hid_sub fun a z => z.imp (fun z => .inl z) id)⟩
theorem fnF_mk {x qual : Str} {st : Stmt} {f : Addr} {fd : FuncData} {N nms : List Str} {k : Nat} {ms mE : List Md} {G0 : SF} (Fn : Fun K x qual st f fd) (S : FnScope N nms (defScope st)) (hms : ms.length = nms.length) (hN : nms.length ≤ N.length)
    (body : ∀ (cdv : Value) (A : Around) (outer : List Env) (s : Shared) (H : Hp) (E : XK), Room k (A.deeper (envOfC qual (defScope st) s.heap.objs.size f cdv)) → Takes (cxOf (L2.CX P w) P w K mg base N qual (defScope st) f cdv A outer s H E) (fun cls d _ H => E cls d H) →
      Dss (cxOf (L2.CX P w) P w K mg base N qual (defScope st) f cdv A outer s H E) (fun cls d _ H => E cls d H) { mb := [], mr := mrOf N.length, fr := true } (padM N.length ms) mE (defBody st) G0) : FnOk P w K mg base (L2.CX P w) (k + 1) f fd nms (spD K .fr ms (runF N.length G0)) := by
  refine Fn.okX S (fun vs H Q E h => ?_) (fun cdv A outer s H vs Q E hr h => bodyF hms hN body cdv A outer s H vs Q E hr h)
  obtain ⟨pl, O, ds, ps, ha, _⟩ := h
  rw [ha.len.1, hms]
end
section
variable {X : Cx} {W : WX} {m ms : List Md} {tg iter a b : Expr} {f : FE} {fs : FA} {pos p tpos : Pos}
theorem its_go {JJ : It} {its : List Item} (hg : ∀ i H, i < its.length → JJ.go i H) (hs : ∀ H, JJ.stop its.length H) (hy : ∀ i x H H' it, its[i]? = some it → JJ.yld i H x H' → it.Y H x H') : WalkOk JJ [] its :=
  ⟨fun i H h _ => hg i H h, fun H _ => hs H, fun i x H H' it h _ y => hy i x H H' it h y, fun p hp => by simp at hp⟩
/-- lo, .., lo + n - 1 -/
def rngD (lo : Int) (n : Nat) : List D := (List.range n).map fun (i : Nat) => .int (lo + (i : Int))
theorem walk_rng (lo : Int) (n : Nat) : WalkOk (Itr lo n) [] ((List.range n).map fun (i : Nat) => Item.one (.int (lo + (i : Int))) (.int (lo + (i : Int)))) := by
  have hl : ((List.range n).map fun (i : Nat) => Item.one (.int (lo + (i : Int))) (.int (lo + (i : Int)))).length = n := by simp
  refine its_go (fun i H h => by rw [hl] at h; exact h) (fun H => by rw [hl]; exact Nat.le_refl _) fun i x H H' it h ⟨e, y⟩ => ?_
  subst e
  rw [List.getElem?_map] at h
  cases q : (List.range n)[i]? with
  | none => rw [q] at h; cases h
  | some j =>
    rw [q] at h
    cases h
    have : j = i := by
      obtain ⟨h1, h2⟩ := List.getElem?_eq_some_iff.mp q
      rw [List.getElem_range] at h2
      exact h2.symm
    subst this
    exact ⟨y, rfl⟩
theorem rng_d (lo : Int) (n : Nat) : ((List.range n).map fun (i : Nat) => Item.one (.int (lo + (i : Int))) (.int (lo + (i : Int)))).map Item.d = rngD lo n := by
  rw [List.map_map]; rfl
theorem qi_rng {g : G} {own : Nat → Addr} {H H1 : Hp} {ps1 : Ps} {r : Res (List D)} {lo : Int} {n : Nat} (e : r = .ok (rngD lo n) ps1) (x1 : Exo (plS g.pl) H H1) (p1 : PoolAt g.pl H1 ps1) : QI m own g.pl X.K (Xs m own g) H r (Itr lo n) H1 := by
  refine ⟨_, ps1, [], by rw [rng_d]; exact e, x1, p1, walk_rng lo n, fun p hp => by simp at hp, fun it hit => ?_⟩
  obtain ⟨i, _, rfl⟩ := List.mem_map.mp hit
  show Rep _ _ _ _ _
  exact rep_int
def rgC (j : Int) : Bool := decide (-1000000000 ≤ j) && decide (j ≤ 1000000000)
def rg1 : List D → R (List D)
  | [.int j] => if rgC j = true then pure (rngD 0 j.toNat) else R.und
  | _ => R.und
def rg2 : List D → R (List D)
  | [.int i, .int j] => if (rgC i && rgC j) = true then pure (rngD i (j - i).toNat) else R.und
  | _ => R.und
def wkF (G : List D → R (List D)) (fs : FA) : FA := fun ρ => do let ds ← fs ρ; G ds
theorem ifR_und {α : Type} {c : Bool} {x : R α} {ps : Ps} (n : (if c = true then x else R.und) ps ≠ .und) : c = true ∧ (if c = true then x else R.und) ps = x ps := by
  cases c with
  | true => exact ⟨rfl, rfl⟩
  | false => exact (n rfl).elim
theorem di_range1 (ha : Ax X W m [.sb] [a] fs) (hm : X.mg "range" = none) (hg : Gl X "range" := by rfl) (hs : starEach [a] X.env = [(false, eval a X.env)] := by rfl) : DI X W m tg (.Call (.Name "range" p) [a] [] pos) (wkF rg1 fs) := by
  refine ⟨fun g own pins s σ ρ H ps I r n w => ?_⟩
  refine (pi_range1 (tg := tg) hg hm (pa_c X [a]) hs).run pins s σ H _ I (cA.mono (ha.can r (ne_of_bind n) (WOk.left w)) fun vs H1 ⟨ds, ps1, e1, x1, p1, q1⟩ => ?_)
  have e2 : wkF rg1 fs ρ ps = rg1 ds ps1 := bind_ok e1
  rw [e2] at n ⊢
  obtain ⟨d, v, rfl, rfl, q2⟩ := args1 q1
  cases d with
  | int j =>
    obtain ⟨hc, he⟩ := ifR_und (show (if rgC j = true then (pure (rngD 0 j.toNat) : R (List D)) else R.und) ps1 ≠ .und from n)
    have q2 := q2.flat rfl
    unfold Rep at q2
    subst q2
    unfold rgC at hc
    rw [Bool.and_eq_true] at hc
    have h1 := of_decide_eq_true hc.1
    have h2 := of_decide_eq_true hc.2
    exact ⟨j, rfl, by omega, by omega, qi_rng he x1 p1⟩
  | _ => exact (n rfl).elim
/-- the characters -/
def chars (x : Str) : List D := x.cps.toList.map fun c => .str ⟨#[c]⟩
def chrD : D → R (List D)
  | .str x => pure (chars x)
  | _ => R.und
def itsF (f : FE) : FA := fun ρ => do let d ← f ρ; chrD d
/-- enumerate(xs) -/
def enuG : Nat → List D → List D
  | _, [] => []
  | i, d :: r => .tup [.int (i : Int), d] :: enuG (i + 1) r
def enuI : Nat → List D → List V → List Item
  | i, d :: r, v :: t => .tup [.int (i : Int), d] [.int (i : Int), v] :: enuI (i + 1) r t
  | _, _, _ => []
theorem enuI_d : ∀ {i : Nat} {ds : List D} {vs : List V}, vs.length = ds.length → (enuI i ds vs).map Item.d = enuG i ds
  | _, [], [], _ => rfl
  | i, d :: r, v :: t, h => by
    unfold enuI enuG
    rw [List.map_cons, enuI_d (by simpa using h)]; rfl
  | _, [], _ :: _, h => by simp at h
  | _, _ :: _, [], h => by simp at h
theorem enuI_at : ∀ {i j : Nat} {ds : List D} {vs : List V} {it : Item}, (enuI i ds vs)[j]? = some it → ∃ d v, it = .tup [.int ((i + j : Nat) : Int), d] [.int ((i + j : Nat) : Int), v] ∧ ds[j]? = some d ∧ vs[j]? = some v
  | i, 0, d :: r, v :: t, it, h => by
    unfold enuI at h
    simp at h
    exact ⟨d, v, by rw [← h]; rfl, rfl, rfl⟩
  | i, j + 1, d :: r, v :: t, it, h => by
    unfold enuI at h
    obtain ⟨d', v', e, h1, h2⟩ := enuI_at (i := i + 1) (j := j) (by simpa using h)
    exact ⟨d', v', by rw [e, show i + 1 + j = i + (j + 1) from by omega], by simpa using h1, by simpa using h2⟩
  | _, _, [], _, it, h => by unfold enuI at h; simp at h
  | _, _, _ :: _, [], it, h => by unfold enuI at h; simp at h
theorem enuI_len : ∀ {i : Nat} {ds : List D} {vs : List V}, vs.length = ds.length → (enuI i ds vs).length = vs.length
  | i, ds, vs, h => by
    have := congrArg List.length (enuI_d (i := i) h)
    rw [List.length_map] at this
    rw [this, h]
    clear this h
    induction ds generalizing i with
    | nil => rfl
    | cons d r ih => unfold enuG; rw [List.length_cons, List.length_cons, ih]
def enu : List D → R (List D)
  | [.lst ds] => pure (enuG 0 ds)
  | _ => R.und
theorem di_enum {elts : List Expr} {kk : Nat} (ha : Ax X W m [.sh] [a] fs) (hm : X.mg "enumerate" = none) (hg : Gl X "enumerate" := by rfl) (hs : starEach [a] X.env = [(false, eval a X.env)] := by rfl) : DI X W m (.Tuple elts kk tpos) (.Call (.Name "enumerate" p) [a] [] pos) (wkF enu fs) := by
  refine ⟨fun g own pins s σ ρ H ps I r n w => ?_⟩
  refine (pi_enum hg hm (pa_c X [a]) hs).run pins s σ H _ I (cA.mono (ha.can r (ne_of_bind n) (WOk.left w)) fun vs H1 ⟨ds, ps1, e1, x1, p1, q1⟩ => ?_)
  have e2 : wkF enu fs ρ ps = enu ds ps1 := bind_ok e1
  rw [e2] at n ⊢
  cases ds with
  | nil => exact q1.elim
  | cons d ds =>
    obtain ⟨v, r', rfl, h2, h3⟩ := q1
    cases ds with
    | cons _ _ => exact h3.elim
    | nil =>
      have h3 : r' = [] := h3
      subst h3
      cases d with
      | lst ds =>
        unfold Rep at h2
        obtain ⟨q, us, rfl, h1, t1⟩ := h2
        obtain ⟨nx, h1⟩ := hid_of h1
        have hl := t1.length
        refine ⟨q, us, rfl, .inl (.of h1), enuI 0 ds us, ps1, [(q, .lst us)], ?_, x1, p1, ⟨fun i H2 hi hk => ?_, fun H2 hk => ?_, fun i x H2 H3 it hit hk hy => ?_, fun p hp φ z => ?_⟩, fun p hp => ?_, fun it hit => ?_⟩
        · rw [enuI_d hl]; rfl
        · have hk := hk _ (List.mem_cons_self ..)
          rw [enuI_len hl] at hi
          exact ⟨us, us[i], .inl (.of hk), List.getElem?_eq_getElem hi⟩
        · have hk := hk _ (List.mem_cons_self ..)
          exact ⟨us, .inl (.of hk), by rw [enuI_len hl]; exact Nat.le_refl _⟩
        · have hk := hk _ (List.mem_cons_self ..)
          obtain ⟨d, v, rfl, g1, g2⟩ := enuI_at hit
          obtain ⟨T, x', e, hT, e3, hx⟩ := hy
          have := hx us (.inl (.of hk))
          rw [g2] at this
          cases this
          rw [Nat.zero_add]
          exact ⟨T, e, hT, e3⟩
        · have e : p = (q, .lst us) := by simpa using hp
          subst e; cases z
        · have e : p = (q, .lst us) := by simpa using hp
          subst e
          exact ⟨h1, fun z => nx (Xs.pl _ z), fun z => nx (.inr (.inr z))⟩
        · obtain ⟨i, hi⟩ := List.mem_iff_getElem?.mp hit
          obtain ⟨d, v, rfl, g1, g2⟩ := enuI_at hi
          obtain ⟨d', g3, g4⟩ := t1.getV g2
          rw [g1] at g3
          cases g3
          exact Reps.cons rep_int (Reps.cons g4 Reps.nil)
      | _ => exact (n rfl).elim
/-- a list that is only lent -/
def D.itemsL : D → R (List D)
  | .lst ds => pure ds
  | _ => R.und
def itlF (f : FE) : FA := fun ρ => do let d ← f ρ; D.itemsL d
end
end DL
set_option Elab.async false
set_option linter.all false
set_option maxRecDepth 100000
set_option maxHeartbeats 2000000
namespace DL
open PySem PySem.Spec PyProof.Rows L2
section
variable {K : PySem.W.Frag} {g : G} {m : List Md} {own : Nat → Addr} {σ : L2.St} {ρ : Rho} {H : Hp} {ps : Ps} {p : Addr} {fr : List Addr}
/-- values by kind: clean ones, new objects -/
def KR (pl : Pl) (K : PySem.W.Frag) (Hx H : Hp) : List Bool → List D → List V → List Addr → Prop
  | [], [], vs, fr => vs = [] ∧ fr = []
  | false :: ks, d :: ds, vs, fr => ∃ v t, vs = v :: t ∧ Rep pl K Hx d v ∧ KR pl K Hx H ks ds t fr
  | true :: ks, d :: ds, vs, fr => ∃ p t fr', vs = .ref p :: t ∧ fr = p :: fr' ∧ TopR pl K Hx d (H p) ∧ KR pl K Hx H ks ds t fr'
  | _, _, _, _ => False
theorem KR.mono {pl : Pl} {Hx Hy H H' : Hp} (e : Ex Hx Hy) : ∀ {ks : List Bool} {ds : List D} {vs : List V} {fr : List Addr}, (∀ p ∈ fr, H' p = H p) → KR pl K Hx H ks ds vs fr → KR pl K Hy H' ks ds vs fr
  | [], [], _, _, _, h => h
  | false :: ks, d :: ds, _, _, hp, ⟨v, t, h1, h2, h3⟩ => ⟨v, t, h1, h2.mono e, KR.mono e hp h3⟩
  | true :: ks, d :: ds, _, _, hp, ⟨p, t, fr', h1, h2, h3, h4⟩ => ⟨p, t, fr', h1, h2, by rw [hp p (by rw [h2]; exact List.mem_cons_self ..)]; exact h3.mono e, KR.mono e (fun q hq => hp q (by rw [h2]; exact List.mem_cons_of_mem _ hq)) h4⟩
  | [], _ :: _, _, _, _, h => h.elim
  | k :: _, [], _, _, _, h => by cases k <;> exact h.elim
def stR (ρ : Rho) : List Nat → List D → Rho
  | i :: is, d :: ds => stR (ρ.set i (some d)) is ds
  | _, _ => ρ
end
end DL
set_option Elab.async false
set_option linter.all false
set_option maxRecDepth 100000
set_option maxHeartbeats 2000000
namespace DL
open PySem PySem.Spec PyProof.Rows L2
section
variable {X : Cx} {W : WX} {J : JP} {m : List Md} {e a b c : Expr} {es : List Expr} {f : FE} {fs : FA} {ks : List Bool} {pos : Pos}
theorem KR.there {pl : Pl} {K : PySem.W.Frag} {Hx H : Hp} : ∀ {ks : List Bool} {ds : List D} {vs : List V} {fr : List Addr}, KR pl K Hx H ks ds vs fr → (∀ p ∈ fr, Thr (H p)) ∧ ds.length = ks.length ∧ vs.length = ks.length
  | [], [], _, _, ⟨h1, h2⟩ => by subst h1 h2; exact ⟨fun p hp => by simp at hp, rfl, rfl⟩
  | false :: ks, d :: ds, _, _, ⟨v, t, h1, h2, h3⟩ => by
    obtain ⟨a, b, c⟩ := KR.there h3
    subst h1
    exact ⟨a, by simp [b], by simp [c]⟩
  | true :: ks, d :: ds, _, _, ⟨p, t, fr', h1, h2, h3, h4⟩ => by
    obtain ⟨a, b, c⟩ := KR.there h4
    subst h1 h2
    refine ⟨fun q hq => ?_, by simp [b], by simp [c]⟩
    rcases List.mem_cons.mp hq with rfl | hq
    · exact h3.thr
    · exact a q hq
  | [], _ :: _, _, _, h => h.elim
  | k :: _, [], _, _, h => by cases k <;> exact h.elim
def paF (is : List Nat) (fs : FA) : SF := fun ρ => do let ds ← fs ρ; pure (.nx (stR ρ is ds))
end
end DL
set_option Elab.async false
set_option linter.all false
set_option maxRecDepth 100000
set_option maxHeartbeats 2000000
namespace DL
open PySem PySem.Spec PyProof.Rows L2
section
variable {X : Cx} {W : WX} {J : JP} {m m' m2 mT : List Md} {e a b c o tg : Expr} {tgs : List Expr} {f f1 f2 fk : FE} {pos p1' : Pos} {F : List D → Rho → R Rho}
def tmN : List D → Rho → R Rho
  | [], ρ => pure ρ
  | _, _ => R.und
def tmV (i : Nat) (F : List D → Rho → R Rho) : List D → Rho → R Rho
  | d :: ds, ρ => F ds (ρ.set i (some d))
  | _, _ => R.und
def tmP (i : Nat) (fk : FE) (F : List D → Rho → R Rho) : List D → Rho → R Rho
  | d :: ds, ρ => do
    let kvs ← dkAt ρ i
    let k ← noX (fk ρ)
    let k ← ofO (keyOf k)
    if lenC (kvs.length + 1) = true then F ds (ρ.set i (some (.dk (putD kvs k d)))) else R.und
  | _, _ => R.und
def amG (F : List D → Rho → R Rho) (ρ : Rho) : D → R Fl
  | .tup ds => do let ρ' ← F ds ρ; pure (.nx ρ')
  | _ => R.und
def amF (f : FE) (F : List D → Rho → R Rho) : SF := fun ρ => do let d ← f ρ; amG F ρ d
end
end DL
set_option Elab.async false
set_option linter.all false
set_option maxRecDepth 100000
set_option maxHeartbeats 2000000
namespace DL
open PySem PySem.Spec PyProof.Rows L2
def psGet : R Pool := fun ps => match ps with
  | some po => .ok po ps
  | none => .und
def isPool (ρ : Rho) (i : Nat) : R Unit := match ρ[i]?.join with
  | some .pool => pure ()
  | _ => R.und
theorem isPool_ne {ρ : Rho} {i : Nat} {ps : Ps} (n : isPool ρ i ps ≠ .und) : ρ[i]? = some (some .pool) ∧ isPool ρ i ps = .ok () ps := by
  unfold isPool at n ⊢
  cases h : ρ[i]?.join with
  | none => rw [h] at n; exact (n rfl).elim
  | some d =>
    cases d with
    | pool => exact ⟨join_some h, rfl⟩
    | _ => rw [h] at n; exact (n rfl).elim
theorem psGet_ne {ps : Ps} (n : psGet ps ≠ .und) : ∃ po, ps = some po ∧ psGet ps = .ok po ps := by
  cases ps with
  | none => exact (n rfl).elim
  | some po => exact ⟨po, rfl, rfl⟩
theorem PxAt.updP {p q : Addr} {z : PlX} {H : Hp} {po : Pool} (h : PxAt p q z H po) {xs : List V} (a : H p = some (.lst xs)) {o : HO} {n : Nat} : PxAt p q z (upd H p o) { po with at_ := n } := by
  refine h.same rfl rfl (fun b hb => upd_ne fun e => ?_) (fun b vs e => by rw [upd_ne fun y => by rw [y, a] at e; cases e]; exact e) fun b vs e => by rw [upd_ne fun y => by rw [y, a] at e; cases e]; exact e
  subst e
  rcases hb with ⟨⟨kn, qu⟩, hz, hb⟩ | hb
  · have := h.wk
    rw [hz] at this
    obtain ⟨st, _, ⟨_, xs2, h7, _⟩, h8, _⟩ := this
    rcases hb with rfl | rfl
    · have h7 : H b = some _ := h7
      rw [a] at h7; cases h7
    · exact h8 rfl
  · obtain ⟨y, hy, e⟩ := hb
    obtain ⟨ps, h6⟩ := h.tt hy
    rw [← e, a] at h6; cases h6
section
variable {K : PySem.W.Frag} {g : G} {m : List Md} {own : Nat → Addr} {σ : L2.St} {ρ : Rho} {H : Hp} {ps : Ps}
theorem Rs.pool_at (r : Rs K g m own σ ρ H ps) {i : Nat} (hm : m[i]? = some .sh) (h : ρ[i]? = some (some .pool)) {po : Pool} (hp : ps = some po) : ∃ p q zz, g.pl = some (p, q, zz) ∧ σ[i]? = some (some (.ref p)) ∧ H p = some (.lst [.ref q, .int (po.at_ : Int)]) ∧ H q = some (.lst (po.nums.map V.int)) ∧ q ≠ p ∧ PxAt p q zz H po := by
  obtain ⟨v, h1, h2⟩ := r.sh i _ hm h
  unfold Rep at h2
  have pp := r.pool
  cases hg : g.pl with
  | none => rw [hg] at h2; cases h2
  | some x =>
    obtain ⟨p, q, zz⟩ := x
    rw [hg] at h2 pp
    cases h2
    obtain ⟨po', e, a, b, c⟩ := pp
    rw [hp] at e
    cases e
    exact ⟨p, q, zz, rfl, h1, a, b, c.1, c.2⟩
theorem Rs.pmut {p q : Addr} (r : Rs K g m own σ ρ H ps) {zz : PlX} (hg : g.pl = some (p, q, zz)) {o : HO} {ps' : Ps} (pp : PoolAt g.pl (upd H p o) ps') : Rs K g m own σ ρ (upd H p o) ps' := by
  have hp : plS g.pl p := ⟨(p, q, zz), hg, .inl rfl⟩
  have ex : Ex (hid (Xs m own g) H) (hid (Xs m own g) (upd H p o)) := fun a u q => by
    obtain ⟨n, q⟩ := hid_of q
    rw [hid_at n, upd_ne (fun z => n (by rw [z]; exact Xs.pl _ hp))]
    exact q
  exact {
    len := r.len
    sh := fun i d h1 h2 => let ⟨v, h3, h4⟩ := r.sh i d h1 h2; ⟨v, h3, h4.mono ex⟩
    ow := fun i h => by
      obtain ⟨d, h1, h2, t, h4, h5⟩ := r.ow i h
      exact ⟨d, h1, h2, by rw [upd_ne (fun z => h5 (by rw [z]; exact hp))]; exact t.mono ex, h4, h5⟩
    sb := fun i d h1 h2 => by
      obtain ⟨v, h3, h4⟩ := r.sb i d h1 h2
      refine ⟨v, h3, ?_⟩
      rcases h4 with h4 | ⟨a, ea, npa, noa, t⟩
      · exact .inl (h4.mono ex)
      · exact .inr ⟨a, ea, npa, noa, by rw [upd_ne (fun z => npa (by rw [z]; exact hp))]; exact t.mono ex⟩
    xc := fun i b dx h => by
      obtain ⟨d, h1, h2, t, h4⟩ := r.xc i b dx h
      exact ⟨d, h1, h2, by rw [upd_ne (fun z => h4 (by rw [z]; exact hp))]; exact t.mono ex, h4⟩
    ex := fun q hq => (r.ex q hq).mono ex
    sx := fun q hq => let ⟨v, h1, h2⟩ := r.sx q hq; ⟨v, h1, h2.mono ex⟩
    inj := r.inj
    nE := r.nE
    base := fun a u h n => by rw [upd_ne (fun z => n (by rw [z]; exact hp))]; exact r.base a u h n
    pool := pp
    eT := fun a h => by
      by_cases e : a = p
      · rw [e]; exact pp.there hp
      · rw [upd_ne e]; exact r.eT a h }
end
section
variable {X : Cx} {W : WX} {J : JP} {m : List Md} {e : Expr} {f : FE} {pos p1 p2 p3 p4 : Pos} {i k0 : Nat} {x : Str}
def patF (i : Nat) : FE := fun ρ => do isPool ρ i; let po ← psGet; pure (.int (po.at_ : Int))
theorem dx_pat (hN : X.N[i]? = some x) (hv : Vis X.env.scope x) (hm : m[i]? = some .sh) (hd : (x == ("__debug__" : Str)) = false := by decide) (hcd : (x == ("__classdict__" : Str)) = false := by decide) (hs : PlainIx (.Constant (.int 1) k0 p2) := by intro _ _; rfl) : Dx .cl X W m (.Subscript (.Name x p1) (.Constant (.int 1) k0 p2) pos) (patF i) := by
  refine ⟨fun g own pins s σ ρ H ps I r n w => ?_⟩
  obtain ⟨h1, h2⟩ := isPool_ne (ne_of_bind n)
  have e2 : patF i ρ ps = (psGet >>= fun po => (pure (.int (po.at_ : Int)) : R D)) ps := bind_ok h2
  rw [e2] at n ⊢
  obtain ⟨po, rfl, h3⟩ := psGet_ne (ne_of_bind n)
  rw [bind_ok h3]
  obtain ⟨p, q, zz, hg, hσ, a, b, c, _⟩ := r.pool_at hm h1 rfl
  exact (pe_ix ix_list (pe_var hN hv hd hcd) pe_int hs).run pins s σ H _ I ⟨_, hσ, p, _, 1, _, rfl, rfl, .inl (.of a), rfl, .int (po.at_ : Int), some po, rfl, Exo.refl, r.pool, rq_int⟩
def plnF (i : Nat) : FE := fun ρ => do isPool ρ i; let po ← psGet; pure (.int (po.nums.length : Int))
theorem dx_plen (hN : X.N[i]? = some x) (hv : Vis X.env.scope x) (hm : m[i]? = some .sh) (hmg : X.mg "len" = none) (hd : (x == ("__debug__" : Str)) = false := by decide) (hcd : (x == ("__classdict__" : Str)) = false := by decide) (hs : PlainIx (.Constant (.int 0) k0 p2) := by intro _ _; rfl)
    (hg : Gl X "len" := by rfl) (hst : starEach [.Subscript (.Name x p1) (.Constant (.int 0) k0 p2) p3] X.env = (false, eval (.Subscript (.Name x p1) (.Constant (.int 0) k0 p2) p3) X.env) :: starEach [] X.env := by rfl) (hpl : (backTo pos (starEach [] X.env)).any (·.1) = false := by rfl) :
    Dx .cl X W m (.Call (.Name "len" p4) [.Subscript (.Name x p1) (.Constant (.int 0) k0 p2) p3] [] pos) (plnF i) := by
  refine ⟨fun g own pins s σ ρ H ps I r n w => ?_⟩
  obtain ⟨h1, h2⟩ := isPool_ne (ne_of_bind n)
  have e2 : plnF i ρ ps = (psGet >>= fun po => (pure (.int (po.nums.length : Int)) : R D)) ps := bind_ok h2
  rw [e2] at n ⊢
  obtain ⟨po, rfl, h3⟩ := psGet_ne (ne_of_bind n)
  rw [bind_ok h3]
  obtain ⟨p, q, zz, hgp, hσ, a, b, c, _⟩ := r.pool_at hm h1 rfl
  refine (blt_e call_len_seq (pe_ix ix_list (pe_var hN hv hd hcd) pe_int hs) hmg rfl hg (by decide) (by decide) hst hpl).run pins s σ H _ I ⟨_, hσ, p, _, 0, _, rfl, rfl, .inl (.of a), rfl, q, _, rfl, .inl (.of b), ?_⟩
  exact ⟨.int (po.nums.length : Int), some po, rfl, Exo.refl, r.pool, by rw [List.length_map]; exact rq_int⟩
def pnumF (i : Nat) (f : FE) : FE := fun ρ => do isPool ρ i; let d ← f ρ; let po ← psGet; let j ← asI d; ofO ((atI po.nums j).map .int)
theorem dx_pnum (h : Dx .bo X W m e f) (hN : X.N[i]? = some x) (hv : Vis X.env.scope x) (hm : m[i]? = some .sh) (hd : (x == ("__debug__" : Str)) = false := by decide) (hcd : (x == ("__classdict__" : Str)) = false := by decide) (hs : PlainIx (.Constant (.int 0) k0 p2) := by intro _ _; rfl) (hs2 : PlainIx e := by intro _ _; rfl) :
    Dx .cl X W m (.Subscript (.Subscript (.Name x p1) (.Constant (.int 0) k0 p2) p3) e pos) (pnumF i f) := by
  refine ⟨fun g own pins s σ ρ H ps I r n w => ?_⟩
  obtain ⟨h1, h2⟩ := isPool_ne (ne_of_bind n)
  have e2 : pnumF i f ρ ps = (f ρ >>= fun d => psGet >>= fun po => asI d >>= fun j => (ofO ((atI po.nums j).map .int) : R D)) ps := bind_ok h2
  rw [e2] at n w ⊢
  have key : ∃ p q zz, g.pl = some (p, q, zz) ∧ σ[i]? = some (some (.ref p)) ∧ (∃ at0, H p = some (.lst [.ref q, .int at0])) := by
    obtain ⟨v, k1, k2⟩ := r.sh i _ hm h1
    unfold Rep at k2
    have pp := r.pool
    cases hg : g.pl with
    | none => rw [hg] at k2; cases k2
    | some z =>
      obtain ⟨p, q, zz⟩ := z
      rw [hg] at k2 pp
      cases k2
      obtain ⟨po', e, a, b, c⟩ := pp
      exact ⟨p, q, zz, rfl, k1, _, a⟩
  obtain ⟨p, q, zz, hg, hσ, at0, a⟩ := key
  refine (pe_ix ix_list (pe_ix ix_list (pe_var hN hv hd hcd) pe_int hs) (pe_c X e) hs2).run pins s σ H _ I ⟨_, hσ, p, _, 0, _, rfl, rfl, .inl (.of a), rfl, cE.mono (h.c r (ne_of_bind n) (WOk.left w)) fun v H1 ⟨d, ps1, e1, x1, p1, q1⟩ => ?_⟩
  rw [bind_ok e1] at n ⊢
  obtain ⟨po, rfl, h3⟩ := psGet_ne (ne_of_bind n)
  rw [bind_ok h3] at n ⊢
  obtain ⟨j, rfl, h4⟩ := asI_ok (ne_of_bind n)
  rw [bind_ok h4] at n ⊢
  obtain ⟨z, h5, h6⟩ := mapD_ok n
  rw [h6]
  have q1 := q1.flat rfl
  unfold Rep at q1
  have p1' := p1
  rw [hg] at p1'
  obtain ⟨po', e, a', b, c⟩ := p1'
  cases e
  refine ⟨q, po.nums.map V.int, j, .int z, rfl, q1, .inl (.of b), ?_, .int z, _, rfl, x1, p1, rq_int⟩
  unfold atI at h5 ⊢
  rw [List.length_map]
  obtain ⟨k, k1, k2⟩ := Option.bind_eq_some_iff.mp h5
  rw [k1]
  show (po.nums.map V.int)[k]? = _
  rw [List.getElem?_map, k2]; rfl
def pstF (i : Nat) (f : FE) : SF := fun ρ => do
  isPool ρ i
  let d ← f ρ
  let j ← asI d
  let po ← psGet
  if decide (0 ≤ j) = true then (fun _ => .ok (.nx ρ) (some { po with at_ := j.toNat })) else R.und
theorem ds_pst (h : Dx .cl X W m e f) (hN : X.N[i]? = some x) (hv : Vis X.env.scope x) (hm : m[i]? = some .sh) (hd : (x == ("__debug__" : Str)) = false := by decide) (hcd : (x == ("__classdict__" : Str)) = false := by decide)
    (hs : swapsWithSole [.Subscript (.Name x p1) (.Constant (.int 1) k0 p2) p3] e pos.line X.env = pure false := by rfl) (hw : swappedStores [.Subscript (.Name x p1) (.Constant (.int 1) k0 p2) p3] e X.env = pure none := by rfl)
    (ha1 : (assignEach [.Subscript (.Name x p1) (.Constant (.int 1) k0 p2) p3] X.env).map (·.2) = [assign (.Subscript (.Name x p1) (.Constant (.int 1) k0 p2) p3) X.env] := by rfl)
    (ha : ∀ v, assign (.Subscript (.Name x p1) (.Constant (.int 1) k0 p2) p3) X.env v = (do
      let ov ← holding [v] (eval (.Name x p1) X.env)
      let iv ← holding [v, ov] (eval (.Constant (.int 1) k0 p2) X.env)
      standAt p3
      holding [v, ov, iv] (setItem ov iv v)
      release [v, ov, iv] []) := by intro _; rfl) :
    Ds X W J m m (.Assign [.Subscript (.Name x p1) (.Constant (.int 1) k0 p2) p3] e pos) (pstF i f) := by
  refine ⟨fun g own pins s σ ρ H ps I r hx n w => ?_⟩
  obtain ⟨h1, h2⟩ := isPool_ne (ne_of_bind n)
  have e2 : pstF i f ρ ps = (f ρ >>= fun d => asI d >>= fun j => psGet >>= fun po => if decide (0 ≤ j) = true then ((fun _ => .ok (.nx ρ) (some { po with at_ := j.toNat })) : R Fl) else R.und) ps := bind_ok h2
  rw [e2] at n w ⊢
  refine (ps_asg (pe_c X e) (pg_sub (pe_var hN hv hd hcd) pe_int set_list ha) hs hw ha1).run pins s σ H _ I (cE.mono (h.c r (ne_of_bind n) (WS.ex w r)) fun v H1 ⟨d, ps1, e1, x1, p1, q1⟩ => ?_)
  rw [bind_ok e1] at n ⊢
  obtain ⟨j, rfl, h4⟩ := asI_ok (ne_of_bind n)
  rw [bind_ok h4] at n ⊢
  obtain ⟨po, rfl, h3⟩ := psGet_ne (ne_of_bind n)
  rw [bind_ok h3] at n ⊢
  obtain ⟨hc, he⟩ := ifR_und n
  rw [he]
  have hc := of_decide_eq_true hc
  have r1 := r.mono x1 p1
  obtain ⟨p, q, zz, hg, hσ, a, b, c, px⟩ := r1.pool_at hm h1 rfl
  have q1 : Rep g.pl X.K (hid (Xs m own g) H1) (.int j) v := q1
  unfold Rep at q1
  subst q1
  refine ⟨_, hσ, p, _, 1, 1, rfl, rfl, a, rfl, ?_⟩
  have pp : PoolAt g.pl (upd H1 p (.lst [.ref q, .int j])) (some { po with at_ := j.toNat }) := by
    rw [hg]
    exact ⟨_, rfl, by rw [upd_same]; show some (HO.lst [.ref q, .int j]) = some (HO.lst [.ref q, .int ((j.toNat : Nat) : Int)]); rw [Int.toNat_of_nonneg hc], by rw [upd_ne c]; exact b, c, px.updP a⟩
  exact ⟨ρ, _, own, rfl, r1.pmut hg pp, .refl⟩
end
end DL
set_option Elab.async false
set_option linter.all false
set_option maxRecDepth 100000
set_option maxHeartbeats 2000000
namespace DL
open PySem PySem.Spec PyProof.Rows L2
section
variable {X : Cx} {W : WX} {m : List Md} {pos : Pos}
/-- a class of the module as a value -/
theorem dx_cn {x : Str} {C : Addr} (hm : X.mg x = some (.ref C)) (hg : Gl X x := by rfl) (hd : (x == ("__debug__" : Str)) = false := by decide) : Dx .cl X W m (.Name x pos) (cF (.ob (.ref C))) :=
  dx_gl (v := .ref C) hg hm rfl (fun _ _ => by unfold Rep; rfl) hd
end
end DL
set_option Elab.async false
set_option linter.all false
set_option maxRecDepth 100000
set_option maxHeartbeats 2000000
namespace DL
open PySem PySem.Spec PyProof.Rows L2
abbrev ltD : D → D → R D := D.cmp fun i j => decide (i < j)
abbrev gtD : D → D → R D := D.cmp fun i j => decide (j < i)
abbrev geD : D → D → R D := D.cmp fun i j => decide (j ≤ i)
abbrev subD : D → D → R D := D.ints (fun _ _ => true) fun i j => i - j
abbrev mulD : D → D → R D := D.ints D.mulC fun i j => i * j
abbrev fdivD : D → D → R D := D.ints D.divC fun i j => i / j
abbrev modD : D → D → R D := D.ints (fun _ j => decide (0 < j)) fun i j => i % j
abbrev powD : D → D → R D := D.ints (fun i j => decide (0 ≤ j ∧ j ≤ 1000000 ∧ i.natAbs < 2 ^ 64)) fun i j => i ^ j.toNat
def negF (f : FE) : FE := fun ρ => do let d ← f ρ; let i ← asI d; pure (.int (-i))
section
variable {X : Cx} {W : WX} {J : JP} {m m' m2 mT : List Md} {e a : Expr} {f fk : FE} {pos : Pos} {K : PySem.W.Frag}
theorem dx_neg (h : Dx .bo X W m a f) : Dx .cl X W m (.UnaryOp .USub a pos) (negF f) := by
  refine ⟨fun g own pins s σ ρ H ps I r n w => ?_⟩
  refine (pe_un (pos := pos) un_neg (pe_c X a)).run pins s σ H _ I (cE.mono (h.c r (ne_of_bind n) (WOk.left w)) fun v H' ⟨d, ps', e1, x1, p1, q1⟩ => ?_)
  have e2 : negF f ρ ps = (asI d >>= fun i => (pure (.int (-i)) : R D)) ps' := bind_ok e1
  rw [e2] at n ⊢
  obtain ⟨i, rfl, e3⟩ := asI_ok (ne_of_bind n)
  have q1 := q1.flat rfl
  unfold Rep at q1
  subst q1
  exact ⟨i, rfl, .int (-i), ps', bind_ok e3, x1, p1, rq_int⟩
end
end DL
set_option Elab.async false
set_option linter.all false
set_option maxRecDepth 100000
set_option maxHeartbeats 2000000
namespace DL
open PySem PySem.Spec PyProof.Rows L2
section
variable {X : Cx} {W : WX} {m : List Md} {a b : Expr} {f1 f2 : FE} {pos : Pos}
theorem tx_cmp {op : CmpOp} {F : D → D → R D} (ho : OpD .cl X (compareOp op) F) (ha : Dx .bo X W m a f1) (hb : Dx .bo X W m b f2) (hm : behindInMarks op b = false := by first | exact nomark _ | rfl) : Tx X W m (.Compare a [op] [b] pos) (tvF (op2F F f1 f2)) := by
  refine ⟨fun g own pins s σ ρ H ps I r n w => ?_⟩
  have hr : OpR X (compareOp op) (fun x y H Q => ∀ pins s σ u v, Inv X pins σ H s → RelV x u → RelV y v → wpAny (model X.prog X.w) X.A (compareOp op u v) (EP X pins σ Q) X.xe s) := fun pins s σ H x y u v Q I rx ry h => h pins s σ u v I rx ry
  have n0 : op2F F f1 f2 ρ ps ≠ .und := ne_of_bind n
  have w0 := WOk.left w
  refine (pt_cmpR hr (pe_c X a) (pe_c X b) hm).run pins s σ H _ I ?_
  have n1 : f1 ρ ps ≠ .und := ne_of_bind n0
  refine cE.mono (ha.c r n1 (WOk.left w0)) fun x H1 ⟨d1, ps1, e1, x1, p1, q1⟩ => ?_
  have r1 := r.mono x1 p1
  have c1 : op2F F f1 f2 ρ ps = (f2 ρ >>= fun b => F d1 b) ps1 := bind_ok e1
  have n2 : f2 ρ ps1 ≠ .und := ne_of_bind (by rw [← c1]; exact n0)
  have w1 := WOk.later w0 x1
  rw [c1] at w1
  refine cE.mono (hb.c r1 n2 (WOk.left w1)) fun y H2 ⟨d2, ps2, e2, x2, p2, q2⟩ => ?_
  have c2 : (f2 ρ >>= fun b => F d1 b) ps1 = F d1 d2 ps2 := bind_ok e2
  intro pins2 s2 σ2 u v I2 rx ry
  have q1' := RepB.mono Xs.pl x2 q1
  have r2 := r1.mono x2 p2
  refine thn (ho g.pl (Xs m own g) pins2 s2 σ2 H2 ps2 d1 d2 x y u v I2 Xs.pl r2.xT p2 q1' q2 rx ry (by rw [← c2, ← c1]; exact n0)) fun z s3 hz => epI hz ?_
  intro v' H' hq
  obtain ⟨d, ps', g1, g2, g3, g4⟩ := QV.back (x1.trans x2) p2 (c2.symm.trans c1.symm) v' H' hq
  have e3 : tvF (op2F F f1 f2) ρ ps = asB d ps' := bind_ok g1
  obtain ⟨bb, rfl, e4⟩ := asB_ok (by rw [← e3]; exact n)
  have q5 := g4
  unfold RepQ at q5
  unfold Rep at q5
  exact ⟨bb, q5, ps', by rw [e3, e4], g2, g3⟩
end
end DL
set_option Elab.async false
set_option linter.all false
set_option maxRecDepth 100000
set_option maxHeartbeats 2000000
namespace DL
open PySem PySem.Spec PyProof.Rows L2
abbrev exB : List Value := [.type "Exception", .type "BaseException", .type "object"]
/-- what the written part says of an error's class at C -/
structure XcC (K : PySem.W.Frag) (C : Addr) : Prop where
  cls : ∃ nm q N bs bm sn sub ab col dd k0 k1 k2 k3 k5, K.lookup C = some (excClassObj nm q C N bs bm true sn sub ab col dd k0 k1 k2 k3 k5 "Exception.__new__") ∧ PySem.W.excTail exB bm = true
  sa : PySem.W.findIn K (.ref C) "__setattr__" = some (some (.builtin "object.__setattr__"))
  ga : PySem.W.findIn K (.ref C) "__getattribute__" = some (some (.builtin "BaseException.__getattribute__"))
  gg : PySem.W.findIn K (.ref C) "__getattr__" = some none
  kC : PySem.W.keepIn K (.ref C) = true
  exC : PySem.W.subIn K (.ref C) (.type "BaseException") = some true
  tyC : PySem.W.typeIn K (.ref C) = some (.type "type")
  hdC : PySem.W.hasDictIn K C = true
theorem XcC.fld {K : PySem.W.Frag} {C : Addr} (T : XcC K C) : XfC K C := ⟨T.ga, T.gg, T.exC, T.hdC⟩
/-- its __init__(self, f): self.f = f -/
structure XcI (K : PySem.W.Frag) (C fI : Addr) (fd : FuncData) (f : Str) : Prop extends XcC K C where
  init : PySem.W.findIn K (.ref C) "__init__" = some (some (.ref fI))
  tyI : PySem.W.typeIn K (.ref fI) = some (.type "function")
  noN : PySem.W.findIn K (.ref C) f = some none
  fn : ∃ (oc : Value) (od : Option Addr) (osl : Array (Option Value)) (qual : Str) (pr : Arguments) (sc : Scope) (kV doc pm : Value) (an : Option Addr) (cdv ct : Value) (q1 q2 q3 q4 : Pos),
    fd = PySem.W.fnOf "__init__" qual pr [.Assign [.Attribute (.Name "self" q1) f q2] (.Name f q3) q4] sc .none kV doc pm an cdv ct ∧ K.lookup fI = some ⟨oc, od, .func fd, osl⟩ ∧ PySem.W.codeIn K cdv qual = true ∧
    (∀ a b : Value, bindArgs fd ⟨[a, b], []⟩ = pure [(("self" : Str), a), (f, b)]) ∧ sc.names = [(("self" : Str), NameKind.local), (f, NameKind.local)] ∧ sc.isCoroutine = false ∧ sc.isGenerator = false ∧ sc.kind = .function
theorem one_fits (v : Value) : [v].length ≤ sizeLine := by
  rw [sizeLine_eq]
  exact (by decide : 1 ≤ 16777216)
theorem ld_own {M : Model} {s : Shared} {name : Str} {scope : Scope} {L a : Addr} {cd : Value} {mm : Str → Option Value} {x : Str} {pos : Pos} {v : Value} {Q : Value → Shared → Prop} {A : Around} {E : Value → Shared → Prop} (hn : s.heap.Ns L mm) (hv : mm x = some v)
    (hk : scope.kind = .function) (hl : (envOfC name scope L a cd).kindOf x = some .local) (hd : (x == ("__debug__" : Str)) = false) (h : Q v s) : wpAny M A (eval (.Name x pos) (envOfC name scope L a cd)) Q E s :=
  wpAny_Name (wpAny_loadName_local hk hl hn hv h) hd
/-- what __init__ leaves of a fresh error at x -/
structure XcEnd (h h' : Heap) (x C dx t1 : Addr) (f : Str) (v : Value) : Prop where
  stay : ∀ b o, b ≠ x → h.get? b = some o → h'.get? b = some o
  obj : h'.get? x = some { cls := .ref C, dict := some dx, data := .fields #[.ref t1, .none, .none, .none, .bool false, .none] }
  far : h.objs.size ≤ dx
  dne : dx ≠ x
  ns : h'.Ns1 dx (fun y => if y = f then some v else none)
/-- a made one -/
structure XcMade (h h' : Heap) (e C d : Addr) (f : Str) (v : Value) : Prop where
  stay : ∀ b o, h.get? b = some o → h'.get? b = some o
  new : h.objs.size ≤ e
  obj : ∃ oe vs, h'.get? e = some oe ∧ oe.cls = .ref C ∧ oe.dict = some d ∧ oe.data = .fields vs ∧ vs[1]? = some .none
  far : h.objs.size ≤ d
  dne : d ≠ e
  ns : h'.Ns1 d (fun y => if y = f then some v else none)
section
open Builtin Builtin.ObjectAttr
variable {prog : Program} {w : World} {A : Around} {E : Value → Shared → Prop} {R : Result → Shared → Prop} {hp : Heap} {g : Array GenState} {d : Drawn} {t : Nat} {os : OsState} {K : PySem.W.Frag}
theorem xc_osa {name : Str} {tk : Tok} {v : Value} {x C : Addr} {fv : Array Value} {cd : ClassData}
    (X : K.In hp) (hx : hp.get? x = some { cls := .ref C, data := .fields fv }) (hcd : PySem.W.clsIn K C = some cd) (hm : PySem.W.excTail exB cd.mro = true) (hh : cd.hasDict = true) (ha : PySem.W.findIn K (.ref C) name = some none)
    (hq : ∀ h' tk' dx, (∀ b o, b ≠ x → hp.get? b = some o → h'.get? b = some o) → hp.objs.size ≤ dx → dx ≠ x → h'.get? x = some { cls := .ref C, dict := some dx, data := .fields fv } → h'.Ns1 dx (fun y => if y = name then some v else none) → R (.ok (.ret .none)) ⟨h', g, d, tk', os⟩) :
    codeAny (model prog w) A (.call (.builtin "object.__setattr__") ⟨[.ref x, .str name tk, v], []⟩) R ⟨hp, g, d, t, os⟩ := by
  have I : PySem.W.InstAt hp x { cls := .ref C, data := .fields fv } C none := ⟨hx, rfl, rfl, trivial⟩
  have SF := PySem.F.store_object
  have ne : cd.mro.isEmpty = false := by
    cases e : cd.mro with
    | nil => rw [e] at hm; exact absurd hm (by decide)
    | cons _ _ => rfl
  have hob : cd.mro.contains (.type "object") = true := (PySem.W.excTail_contains "object" _ hm).trans (by decide +kernel)
  have hxs : x ≠ hp.objs.size := Nat.ne_of_lt (Heap.lt_size hx)
  have sub : PySem.W.Looks (model prog w) hp (isInstance (.ref x) (.type "object")) true := I.type.andThen (PySem.W.looks_mroIn X (by unfold PySem.W.mroIn; rw [hcd, Option.bind_some, if_neg (by rw [ne]; decide), hob]))
  refine codeAny_call_builtin SF.slot.plain SF.entry (@PySem.W.check_slot (model prog w) _ _ ⟨hp, g, d, t, os⟩ "object.__setattr__" "object" "__setattr__" (.ref x) [.str name tk, v] [] _ SF.kind SF.split sub (SF.args (.ref x) (.str name tk) v) ?_)
  have hmr : PySem.W.Looks (model prog w) hp (mroOf (.ref C)) cd.mro := (PySem.W.looks_clsIn X hcd).andThen .now
  have L3 : PySem.W.Looks (model prog w) hp (storeTaker? none) none := .now
  have hcls : PySem.W.Looks (model prog w) hp (classData C) cd := PySem.W.looks_clsIn X hcd
  rw [PySem.W.osa_eq, refuse_eq]
  refine wpAny_bind (wpAny_bind (I.type.at (wpAny_bind (hmr.at ?_))))
  rw [PySem.W.excTail_pass _ (PySem.F.store_Exception.passes _) _ hm]
  refine wpAny_pure (wpAny_bind (I.type.at (wpAny_bind ((PySem.W.looks_findIn X ha).at (wpAny_bind (L3.at ?_))))))
  show wpAny _ _ (storeInOwnDict (.ref x) (.ref C) (.str name tk) name v false) _ _ _
  obtain ⟨nm, bs, mro, ns, qn, hd, sn, sb, ab, col, del⟩ := cd
  dsimp only at hh
  subst hh
  unfold storeInOwnDict ownDictForStores
  repeat (first | with_reducible refine PySem.HandSPX.store_in_new ?_ ?_ | with_reducible refine wpAny_loadPart_at hx ?_ | with_reducible refine hcls.at ?_ | wp_step)
  · exact ⟨_, #[], _, (Heap.get?_update_ne _ _ _ _ hxs.symm).trans (Heap.get?_push_at rfl rfl), rfl, fun e he => absurd he (by simp), fun _ => rfl⟩
  · intro h' tk' hn' hs
    have hx₁ : (hp.push { cls := .type "dict", data := .dict #[] }).get? x = some { cls := .ref C, data := .fields fv } := Heap.get?_push_of_some _ hx
    refine hq h' tk' hp.objs.size (fun b o hb ho => ?_) (Nat.le_refl _) hxs.symm ?_ hn'
    · exact (hs.2 b (Nat.ne_of_lt (Heap.lt_size ho))).trans ((Heap.get?_update_ne _ _ _ _ hb).trans (Heap.get?_push_of_some _ ho))
    · exact (hs.2 x hxs).trans (Heap.get?_update_self _ hx₁ rfl)
end
section
variable {prog : Program} {w : World} {A : Around} {E : Value → Shared → Prop} {R : Result → Shared → Prop} {s : Shared} {K : PySem.W.Frag} {C fI : Addr} {fd : FuncData} {f : Str}
theorem xc_init (T : XcI K C fI fd f) (hfs : (f == ("self" : Str)) = false) (hfd : (f == ("__debug__" : Str)) = false) {x t0 : Addr} {v : Value} (X : K.In s.heap) (hlim : s.heap.NoLimit) (hx : s.heap.get? x = some (PySem.HandSPX.excO C t0)) (hroom : A.depth < recursionLimit)
    (hq : ∀ h' tk dx, XcEnd s.heap h' x C dx t0 f v → R (.ok (.ret .none)) { s with heap := h', toks := tk }) :
    codeAny (model prog w) A (.call (.ref fI) ⟨[.ref x, v], []⟩) R s := by
  obtain ⟨oc, od, osl, qual, pr, sc, kV, doc, pm, an, cdv, ct, q1, q2, q3, q4, rfl, ho, hcd, hb, hsc, hco, hgen, hk⟩ := T.fn
  obtain ⟨nm, q, N, bs, bm, sn, sub, ab, col, dd, k0, k1, k2, k3, k5, hC, hbm⟩ := T.cls
  have hcl : PySem.W.clsIn K C = some { name := nm, bases := bs, mro := .ref C :: bm, ns := N, qualname := q, hasDict := true, slotNames := sn, subclasses := sub, abstract := ab, collection := col, hasDel := false } := by unfold PySem.W.clsIn; rw [hC] <;> rfl
  have hne : f ≠ "self" := fun z => by rw [z] at hfs; exact absurd hfs (by decide)
  have lS : sc.names.lookup ("self" : Str) = some NameKind.local := by rw [hsc]; rfl
  have lF : sc.names.lookup f = some NameKind.local := by
    rw [hsc]
    show (match (f == ("self" : Str)) with | true => _ | false => _) = _
    rw [hfs]
    show (match (f == f) with | true => _ | false => _) = _
    rw [beq_self_eq_true]
  refine _root_.Att.call_fn (binds := [(("self" : Str), Value.ref x), (f, v)]) X hlim ho hcd hroom (BindsTo.of_eq (hb _ _)) ?_ (fun s₁ IC => ?_) hco hgen hk
  · show ((_ == _ || _ == _) && ((_ == _ || _ == _) && true)) = true
    rw [lS, lF]; rfl
  obtain ⟨h₁, tk₁, rfl⟩ := IC.toInCall.same
  have k : ∀ b o, s.heap.get? b = some o → h₁.get? b = some o := IC.toInCall.keep
  have hn := IC.toInCall.ns
  have hxL : s.heap.objs.size ≠ x := Nat.ne_of_gt (Heap.lt_size hx)
  have X₁ : K.In h₁ := X.keeps k
  have hx₁ := k _ _ hx
  have kS : (envOfC qual sc s.heap.objs.size fI cdv).kindOf "self" = some .local := lS
  have kF : (envOfC qual sc s.heap.objs.size fI cdv).kindOf f = some .local := lF
  have bF : bindL (envOfC qual sc s.heap.objs.size fI cdv).kindOf [(("self" : Str), Value.ref x), (f, v)] (fun _ => none) f = some v := by
    unfold bindL bindL bindL
    rw [if_pos kS, if_pos kF, if_pos rfl]
  have bS : bindL (envOfC qual sc s.heap.objs.size fI cdv).kindOf [(("self" : Str), Value.ref x), (f, v)] (fun _ => none) "self" = some (.ref x) := by
    unfold bindL bindL bindL
    rw [if_pos kS, if_pos kF, if_neg (fun z => hne z.symm), if_pos rfl]
  -- self.f = f
  show wpAny _ _ (execs _ _) _ _ _
  refine wpAny_execs_cons (plainObj_wpAny_Assign_Attribute ?_)
  refine ld_own (v := v) hn bF hk kF hfd (ld_own (v := .ref x) hn bS hk kS (by decide) ?_)
  refine PySem.W.set_plain X₁ (ox := PySem.HandSPX.excO C t0) (od := none) ⟨hx₁, rfl, rfl, trivial⟩ T.sa ?_
  refine xc_osa X₁ hx₁ hcl (show PySem.W.excTail exB (.ref C :: bm) = true from hbm) rfl T.noN (fun h₃ tk₃ dx k₃ dn dne hx₃ hn₃ => ?_)
  show wpAny _ _ (execs _ _) _ _ _
  have z : s.heap.objs.size < h₁.objs.size := hn.lt
  exact wpAny_execs_nil (hq h₃ tk₃ dx ⟨fun b o hb e => k₃ b o hb (k b o e), hx₃, Nat.le_of_lt (Nat.lt_of_lt_of_le z dn), dne, hn₃⟩)
theorem xc_made (T : XcI K C fI fd f) (hfs : (f == ("self" : Str)) = false) (hfd : (f == ("__debug__" : Str)) = false) {v : Value} (X : K.In s.heap) (hlim : s.heap.NoLimit) (hroom : A.depth + 1 < recursionLimit)
    (hq : ∀ h' tk e d, XcMade s.heap h' e C d f v → R (.ok (.ret (.ref e))) { s with heap := h', toks := tk }) :
    codeAny (model prog w) A (.call (.ref C) ⟨[v], []⟩) R s := by
  obtain ⟨nm, q, N, bs, bm, sn, sub, ab, col, dd, k0, k1, k2, k3, k5, hC, hbm⟩ := T.cls
  obtain ⟨hp, g, dr, tk, os⟩ := s
  have k : ∀ b o, hp.get? b = some o → ((hp.push (PySem.W.kdv_tup [v])).push (PySem.HandSPX.excO C hp.objs.size)).get? b = some o := fun b o e => Heap.get?_push_of_some _ (Heap.get?_push_of_some _ e)
  have hget : ((hp.push (PySem.W.kdv_tup [v])).push (PySem.HandSPX.excO C hp.objs.size)).get? (hp.objs.size + 1) = some (PySem.HandSPX.excO C hp.objs.size) := by heap_get
  refine PySem.HandSPX.call_own PySem.F.excBase_Exception (fun Y => PySem.W.excTail_contains Y bm hbm) (X _ _ hC) (PySem.W.looks_findIn X T.init) (fun self => PySem.W.bind_fn X self T.tyI) (one_fits v) ?_
  refine xc_init (s := ⟨(hp.push (PySem.W.kdv_tup [v])).push (PySem.HandSPX.excO C hp.objs.size), g, dr, tk, os⟩) T hfs hfd (X.keeps k) (hlim.keeps k) hget ?_ fun h' tk' dx ⟨k', hx, dn, dne, hns⟩ => ?_
  · show A.depth + 1 < recursionLimit
    exact hroom
  · have old : ∀ b o, hp.get? b = some o → h'.get? b = some o := fun b o e => k' b o (Nat.ne_of_lt (Nat.lt_succ_of_lt (Heap.lt_size e))) (k b o e)
    have z : hp.objs.size + 1 + 1 ≤ dx := by
      first
        | (simpa only [Heap.size_push] using dn)
        | exact dn
        | (have q := dn; rw [Heap.size_push, Heap.size_push] at q; exact q)
    exact ⟨rfl, hq h' tk' (hp.objs.size + 1) dx ⟨old, Nat.le_succ _, ⟨_, _, hx, rfl, rfl, rfl, rfl⟩, Nat.le_trans (Nat.le_trans (Nat.le_succ _) (Nat.le_succ _)) z, dne, hns⟩⟩
end
theorem relO_one {v : V} {v' : Value} (r : RelV v v') (f g : Str) : RelO (List.lookup g [(f, v)]) (if g = f then some v' else none) := by
  by_cases h : g = f
  · subst h
    rw [if_pos rfl]
    have q : List.lookup g [(g, v)] = some v := by simp [List.lookup]
    rw [q]; exact r
  · rw [if_neg h]
    have q1 : (g == f) = false := by simpa using h
    have q2 : List.lookup g [(f, v)] = none := by simp [List.lookup, q1]
    rw [q2]; trivial
section
variable {X : Cx} {C fI : Addr} {fd : FuncData} {fld nm : Str}
/-- X(e): the error made, its field's value that of e -/
def tXc (C : Addr) (fld : Str) (ta : TA) : L2.St → Hp → XK → Prop := fun σ H Q => ta σ H fun vs H1 => ∃ v, vs = [v] ∧ ∀ d, H1 d = none → Q (.ref C) (some d) (upd H1 d (.xd [(fld, v)]))
theorem pmk_xc {a : Expr} {ta : TA} {p pos : Pos} {k : Nat} (T : XcI X.K C fI fd fld) (hfs : (fld == ("self" : Str)) = false) (hfd : (fld == ("__debug__" : Str)) = false) (hm : X.mg nm = some (.ref C)) (hr : Room k X.A) (ha : PA X [a] ta) (hg : Gl X nm) (hdb : (nm == ("__debug__" : Str)) = false)
    (he : starEach (a :: []) X.env = (false, eval a X.env) :: starEach [] X.env) (hpl : (backTo pos (starEach [] X.env)).any (·.1) = false) : PMk X (.Call (.Name nm p) [a] [] pos) (tXc C fld ta) := by
  intro pins s σ H Q I h
  refine wpAny_Call_Name_kw (ld_glob I hg hm ?_ hdb)
  refine PySem.W.callWith_K (h₀ := X.base) I.ok.mod.kin T.kC (thn (ha.run pos pins s σ H _ I h) fun us s1 hh => ?_) he hpl
  obtain ⟨vs, H1, I1, r1, v, ev, q1⟩ := hh
  subst ev
  refine ⟨I1.kIn, ?_⟩
  cases r1 with
  | cons rv rn =>
    rename_i v' us'
    cases rn
    show wpAny _ _ (call (.ref C) [v']) _ _ _
    have hlim := I1.nolimit
    obtain ⟨hp, g, dr, tk, os⟩ := s1
    refine wpAny_call (xc_made T hfs hfd I1.kIn hlim (by have := hr.dp; omega) fun h' tk' e d M => ?_)
    show MkP X pins σ Q (.ref e) ⟨h', g, dr, tk', os⟩
    obtain ⟨oe, fv, hoe, hc, hd, hdat, h1⟩ := M.obj
    have hns := M.ns
    obtain ⟨G', g1, g2⟩ := restrict h' fun b => decide (b ≠ e)
    have gk : ∀ b, b ≠ e → G'.get? b = h'.get? b := fun b hb => g1 b (decide_eq_true hb)
    have ge : G'.get? e = none := g2 e (by simp)
    have old : ∀ b o, hp.get? b = some o → G'.get? b = some o := fun b o q => (gk b (Nat.ne_of_lt (Nat.lt_of_lt_of_le (Heap.lt_size q) M.new))).trans (M.stay b o q)
    have ob : ObjOk X.prog X.w (upd H1 d (.xd [(fld, v)])) G' d (.xd [(fld, v)]) :=
      ⟨_, hns.at (fun o q => (gk d M.dne).trans q), fun f => relO_one rv fld f⟩
    have J : Inv X pins σ (upd H1 d (.xd [(fld, v)])) ⟨G', g, dr, tk', os⟩ := I1.laid (t' := tk') old M.far ob
    refine ⟨e, oe, fv, ⟨G', g, dr, tk', os⟩, _, .ref C, some d, rfl, J, fun b o q => ?_, ge, hoe, ⟨hc, hd⟩, hdat, h1, ?_, rfl, I1.bare, raises_own T.exC T.tyC, q1 d (I1.hok.fresh M.far)⟩
    · by_cases hb : b = e
      · have q' : G'.get? b = some o := q
        rw [hb, ge] at q'; cases q'
      · exact (gk b hb).symm.trans q
    · rw [upd_ne (Ne.symm M.dne)]
      exact I1.hok.fresh M.new
end
section
variable {X : Cx} {W : WX} {J : JP} {m m' : List Md} {e : Expr} {f : FE} {p pos pos2 : Pos}
/-- raise X(e) -/
def raF (C : Addr) (fld : Str) (f : FE) : SF := fun ρ => do let d ← f ρ; R.exc ⟨C, [(fld, d)]⟩
theorem ds_raise {C fI : Addr} {fd : FuncData} {fld nm : Str} {k : Nat} (h : Dx .cl X W m e f) (T : XcI X.K C fI fd fld) (hm : X.mg nm = some (.ref C)) (hr : Room k X.A) (tk : Takes X W) (hc : X.calm = true := by rfl)
    (hfs : (fld == ("self" : Str)) = false := by decide) (hfd : (fld == ("__debug__" : Str)) = false := by decide) (hg : Gl X nm := by rfl) (hdb : (nm == ("__debug__" : Str)) = false := by decide)
    (he : starEach (e :: []) X.env = (false, eval e X.env) :: starEach [] X.env := by rfl) (hpl : (backTo pos (starEach [] X.env)).any (·.1) = false := by rfl) :
    Ds X W J m m' (.Raise (some (.Call (.Name nm p) [e] [] pos)) none pos2) (raF C fld f) := by
  refine ⟨fun g own pins s σ ρ H ps I r hx n w => ?_⟩
  refine (ps_raise hc tk (pmk_xc T hfs hfd hm hr (pa_cons (pe_c X e) pa_nil he) hg hdb he hpl)).run pins s σ H _ I ?_
  refine cE.mono (h.c r (ne_of_bind n) (WS.ex w r)) fun v H1 ⟨d, ps1, e1, x1, p1, q1⟩ => ?_
  refine ⟨v, rfl, fun dx hdx => ?_⟩
  have e2 : raF C fld f ρ ps = .exc ⟨C, [(fld, d)]⟩ ps1 := bind_ok e1
  have r1 := r.mono x1 p1
  have x2 : Exo (plS g.pl) H1 (upd H1 dx (.xd [(fld, v)])) := Exo.new hdx
  refine w ⟨C, [(fld, d)]⟩ ps1 dx _ σ e2 (r.base.trans (x1.trans x2)) (p1.new hdx) ⟨[(fld, v)], upd_same, ?_⟩ fun p hp => ?_
  · unfold RepF
    refine ⟨v, [], rfl, ?_, by unfold RepF; rfl⟩
    exact (Rep.mono (x2.hid Xs.pl) q1).mono (hid_sub Xs.eo)
  · obtain ⟨v', h3, h4⟩ := r1.sx p hp
    exact ⟨v', h3, (h4.mono (x2.hid Xs.pl)).mono (hid_sub Xs.eo)⟩
end
end DL
set_option Elab.async false
set_option linter.all false
set_option maxRecDepth 100000
set_option maxHeartbeats 2000000
namespace DL
open PySem PySem.Spec PyProof.Rows L2
abbrev TSx := Addr → Value → Option Addr → TS
/-- a suite behind whose end slot i is empty -/
def unI (i : Nat) (D : Ends) : Ends := { nx := fun σ H => D.nx (σ.set i none) H, rt := D.rt, bk := fun σ H => D.bk (σ.set i none) H, ct := fun σ H => D.ct (σ.set i none) H }
def wMA (K : PySem.W.Frag) (Wout : WX) (D : Ends) : List (Value × Option Nat × TSx) → WX
  | [] => Wout
  | (c, none, ts) :: r => fun cls d σ H => ∃ b, PySem.W.exmOne K cls c = some b ∧ (b = true → ∀ a, H a = none → ts a cls d D σ H) ∧ (b = false → wMA K Wout D r cls d σ H)
  | (c, some i, ts) :: r => fun cls d σ H => ∃ b, PySem.W.exmOne K cls c = some b ∧ (b = true → ∀ a, H a = none → ts a cls d (unI i D) (σ.set i (some (.ref a))) H) ∧ (b = false → wMA K Wout D r cls d σ H)
inductive HdsA (X : Cx) : List ExceptHandler → List (Value × Option Nat × TSx) → Prop
  | nil : HdsA X [] []
  | only {x : Str} {c : Value} {ts : TSx} {b₀ : Stmt} {suite : List Stmt} {np pos' : Pos} {hds : List ExceptHandler} {l : List (Value × Option Nat × TSx)} (hc : Names X x c)
      (hsu : ∀ (a : Addr) (oe : Obj) (cls : Value) (d : Option Addr) (pn : List (Addr × Obj)), Zc cls d oe → (∃ vs, oe.data = .fields vs) → PSs (X.suite a ((a, oe) :: pn)) (b₀ :: suite) (ts a cls d)) (r : HdsA X hds l) :
      HdsA X (.ExceptHandler (some (.Name x np)) none (b₀ :: suite) pos' :: hds) ((c, none, ts) :: l)
  | named {x n : Str} {i : Nat} {c : Value} {ts : TSx} {b₀ : Stmt} {suite : List Stmt} {np pos' : Pos} {hds : List ExceptHandler} {l : List (Value × Option Nat × TSx)} (hc : Names X x c) (hN : X.N.Nodup) (hi : X.N[i]? = some n) (hln : X.env.kindOf n = some .local)
      (hsu : ∀ (a : Addr) (oe : Obj) (cls : Value) (d : Option Addr) (pn : List (Addr × Obj)), Zc cls d oe → (∃ vs, oe.data = .fields vs) → PSs (X.suite a ((a, oe) :: pn)) (b₀ :: suite) (ts a cls d)) (r : HdsA X hds l) :
      HdsA X (.ExceptHandler (some (.Name x np)) (some n) (b₀ :: suite) pos' :: hds) ((c, some i, ts) :: l)
section
variable {X : Cx} {body : List Stmt} {h₀ : ExceptHandler} {hds : List ExceptHandler} {l : List (Value × Option Nat × TSx)} {pos : Pos} {tb : WX → TS} {Wout : WX}
theorem ps_try_all (hs : X.stack = X.env :: X.outer) (hf : X.env.frame = some X.env.locals) (tk : Takes X Wout)
    (hb : ∀ (W : WX) (pn : List (Addr × Obj)) (xe : Value → Shared → Prop), Takes (X.tr pn xe) W → PassesOwn (model X.prog X.w) X.A X.env xe → PSs (X.tr pn xe) body (tb W))
    (hh : HdsA X (h₀ :: hds) l) : PS X (.Try body (h₀ :: hds) [] [] pos) (fun D σ H => tb (wMA X.K Wout D l) D σ H) := by
  refine ⟨fun pins s σ H D I h => ?_⟩
  have ok := I.ok
  have hfr : X.A.frames = some (X.env :: X.outer) := by rw [ok.frames, hs]
  refine wpAny_Try_except ?_
  refine wpAny_mono ((hb (wMA X.K Wout D l) (X.pn ++ pins) (fun e s₁ => wpAny (model X.prog X.w) X.A (noteFrame e X.env) (fun _ s₂ => wpAny (model X.prog X.w) X.A (setFlight e none) (fun _ s₃ =>
    wpAny (model X.prog X.w) X.A (handleBy e X.env (h₀ :: hds)) (SP X pins D) X.xe s₃) X.xe s₂) X.xe s₁) (fun u s' xx => ?_) PassesOwn.looking).run [] s σ H D (I.toTry _) h) (fun f s1 hsp => ?_) (fun e s1 he => he)
  · obtain ⟨a, B, sI, pins', σ', H', cls, d, rfl, J', nb, up, sky, na, os, ag, w⟩ := xx
    have J : Inv X pins σ' H' sI := J'.ofTry ok
    have sky' : Sky B (X.env :: X.outer) a (Zc cls d) X.env.locals s'.heap := by rw [← hs]; exact sky
    show wpAny (model X.prog X.w) X.A (noteFrame (.ref a) X.env) _ _ _
    refine Sky.land Zc.steady hfr hf sky' fun h3 fl3 up3 => ?_
    have J3 : Inv X pins σ' H' { s' with heap := h3 } := J.landed nb fl3.1 (up.trans up3) os ag
    obtain ⟨oe3, vs3, he3, hz3, hd3⟩ := fl3.there
    have notFr : ∀ {h : Heap} {o : Obj} {vs : Array Value}, h.FunFrames B (X.env :: X.outer) → h.get? a = some o → o.data = .fields vs → a ∉ frs (X.env :: X.outer) := fun {h o vs} ff e dd hm => by
      obtain ⟨_, o', e', hnf⟩ := ff.mem hm
      rw [e] at e'; cases e'
      exact hnf _ dd
    have nfr := notFr fl3.2.2.1 he3 hd3
    have nL : a ≠ X.env.locals := fun z => nfr (List.mem_filterMap.mpr ⟨X.env, List.mem_cons_self, by rw [hf, z]⟩)
    have nF : a ∉ X.fs := fun hm => by
      obtain ⟨e, he, q⟩ := List.mem_filterMap.mp hm
      exact nfr (List.mem_filterMap.mpr ⟨e, List.mem_cons_of_mem _ he, q⟩)
    have S3 := J3.suite he3 hd3 na nL nF
    have test0 : ∀ {x : Str} {c : Value} {np : Pos}, Names X x c → ∀ {Q : Value → Shared → Prop} {E : Value → Shared → Prop}, Q c { s' with heap := h3 } → wpAny (model X.prog X.w) (X.A.mark (some (.ref a))) (eval (.Name x np) X.env) Q E { s' with heap := h3 } := fun {x c np} hc {Q E} q => by
      obtain ⟨hg, hdbg, hm | ⟨hm, hv, hnn⟩⟩ := hc
      · exact ld_glob (X := X.suite a ((a, oe3) :: (X.pn ++ pins))) S3 hg hm q hdbg
      · exact ld_blt (X := X.suite a ((a, oe3) :: (X.pn ++ pins))) S3 hg hm hv q hnn hdbg
    have LT : PySem.W.Looks (model X.prog X.w) h3 (typeOf (.ref a)) cls := fun A Q E s k q => wpAny_typeOf_ref (k _ _ he3) (by rw [hz3.1]; exact q)
    have go : ∀ {hds' : List ExceptHandler} {l' : List (Value × Option Nat × TSx)}, HdsA X hds' l' → wMA X.K Wout D l' cls d σ' H' →
        wpAny (model X.prog X.w) X.A (handleBy (.ref a) X.env hds') (SP X pins D) X.xe { s' with heap := h3 } := by
      intro hds' l' hk
      induction hk with
      | nil =>
        intro w
        refine wpAny_handleBy_nil ?_
        obtain ⟨k1, k2, k3, oe, vs, T, oT, ts', he, hz, hd, h1, hr⟩ := id fl3
        unfold PySem.passOn
        refine wpAny_bind (wpAny_field he hd h1 ?_)
        rw [if_neg (show ¬ ((Value.ref T == Value.none) = true) from by simp)]
        have fin : wpAny (model X.prog X.w) X.A (setFlight (.ref a) X.env.frame) (fun _ s4 => wpAny (model X.prog X.w) X.A (throw (.ref a) : Sem Flow) (SP X pins D) X.xe s4) X.xe { s' with heap := h3 } := by
          rw [hf]
          refine HandSPX.setFlight_upZ fl3 fun h4 hh4 up4 => wpAny_throw (tk _ _ ?_)
          exact ⟨a, B, sI, pins, σ', H', cls, d, rfl, J, nb, (up.trans up3).trans up4, .inr (.inr (by rw [hs]; exact hh4)), na, os, ag, w⟩
        first
          | exact wpAny_bind (wpAny_pure (wpAny_bind fin))
          | exact wpAny_bind fin
      | @only x c ts b₀ suite np pos' hds2 l2 hc hsu r ih =>
        intro w
        obtain ⟨b, hb1, hyes, hno⟩ := w
        refine wpAny_handleBy_cons (codeAny_handlers_test ?_) (by intro q; cases q)
        refine test0 hc ((PySem.W.exm_one (M := model X.prog X.w) (J3.kIn) LT hb1).here ?_)
        cases b with
        | true =>
          refine codeAny_handlers_suite ?_
          refine HandSPX.lands_againZ fl3 fun h4 fl4 up4 => ?_
          have J4 : Inv X pins σ' H' { s' with heap := h4 } := J.landed nb fl4.1 ((up.trans up3).trans up4) os ag
          obtain ⟨oe4, vs4, he4, hz4, hd4⟩ := fl4.there
          have S4 := J4.suite he4 hd4 na nL nF
          refine wpAny_mono ((hsu a oe4 cls d (X.pn ++ pins) hz4 ⟨_, hd4⟩).run [] _ _ H' _ S4 (hyes rfl a na)) (fun f s6 hsp => ?_) (fun _ _ z => False.elim z)
          cases f with
          | next => obtain ⟨σ6, H6, S6, q6⟩ := hsp; exact ⟨_, _, S6.unsuite ok, q6⟩
          | brk => obtain ⟨σ6, H6, S6, q6⟩ := hsp; exact ⟨_, _, S6.unsuite ok, q6⟩
          | cont => obtain ⟨σ6, H6, S6, q6⟩ := hsp; exact ⟨_, _, S6.unsuite ok, q6⟩
          | ret u => obtain ⟨v6, σ6, H6, S6, r6, q6⟩ := hsp; exact ⟨_, _, _, S6.unsuite ok, r6, q6⟩
        | false =>
          show wpAny _ X.A (handleBy (.ref a) X.env hds2) _ _ _
          exact ih (hno rfl)
      | @named x n i c ts b₀ suite np pos' hds2 l2 hc hN hi hln hsu r ih =>
        intro w
        obtain ⟨b, hb1, hyes, hno⟩ := w
        refine wpAny_handleBy_cons (codeAny_handlers_test ?_) (by intro q; cases q)
        refine test0 hc ((PySem.W.exm_one (M := model X.prog X.w) (J3.kIn) LT hb1).here ?_)
        cases b with
        | true =>
          refine codeAny_handlers_suite_as ?_
          refine HandSPX.lands_againZ fl3 fun h4 fl4 up4 => ?_
          have J4 : Inv X pins σ' H' { s' with heap := h4 } := J.landed nb fl4.1 ((up.trans up3).trans up4) os ag
          obtain ⟨oe4, vs4, he4, hz4, hd4⟩ := fl4.there
          have S4 := J4.suite he4 hd4 na nL nF
          refine store_ok (X := X.suite a ((a, oe4) :: (X.pn ++ pins))) (v := .ref a) S4 hN hi (.inl hln) rfl (fun s5 S5 => ?_) (.inr hln)
          refine wpAny_mono ((hsu a oe4 cls d (X.pn ++ pins) hz4 ⟨_, hd4⟩).run [] s5 _ H' _ S5 (hyes rfl a na)) (fun f s6 hsp => ?_) (fun _ _ z => False.elim z)
          have end_ : ∀ {σ6 : L2.St} {H6 : Hp} {Q : Shared → Prop}, Inv (X.suite a ((a, oe4) :: (X.pn ++ pins))) [] σ6 H6 s6 → (∀ s7, Inv X pins (σ6.set i none) H6 s7 → Q s7) →
              wpAny (model X.prog X.w) X.A (do bindName X.env n .none; unbindBehindTheSuite X.env n pos') (fun _ s7 => Q s7) X.xe s6 := fun {σ6 H6 Q} S6 hq => gone_ok (S6.unsuite ok) hN hi hln hq
          cases f with
          | next => obtain ⟨σ6, H6, S6, q6⟩ := hsp; exact end_ S6 fun s7 J7 => ⟨_, _, J7, q6⟩
          | brk => obtain ⟨σ6, H6, S6, q6⟩ := hsp; exact end_ S6 fun s7 J7 => ⟨_, _, J7, q6⟩
          | cont => obtain ⟨σ6, H6, S6, q6⟩ := hsp; exact end_ S6 fun s7 J7 => ⟨_, _, J7, q6⟩
          | ret u => obtain ⟨v6, σ6, H6, S6, r6, q6⟩ := hsp; exact end_ S6 fun s7 J7 => ⟨_, _, _, J7, r6, q6⟩
        | false =>
          show wpAny _ X.A (handleBy (.ref a) X.env hds2) _ _ _
          exact ih (hno rfl)
    exact go hh w
  · cases f with
    | next => obtain ⟨σ', H', J', q⟩ := hsp; exact wpAny_execs_nil ⟨σ', H', J'.ofTry ok, q⟩
    | brk => obtain ⟨σ', H', J', q⟩ := hsp; exact ⟨σ', H', J'.ofTry ok, q⟩
    | cont => obtain ⟨σ', H', J', q⟩ := hsp; exact ⟨σ', H', J'.ofTry ok, q⟩
    | ret u => obtain ⟨v, σ', H', J', r, q⟩ := hsp; exact ⟨v, σ', H', J'.ofTry ok, r, q⟩
end
end DL
set_option Elab.async false
set_option linter.all false
set_option maxRecDepth 100000
set_option maxHeartbeats 2000000
namespace DL
open PySem PySem.Spec PyProof.Rows L2
/-- which classes a clause takes; its suite, by the caught error -/
abbrev Hdl := (Addr → Option Bool) × (Exn → SF)
def hdlF : List Hdl → Exn → SF
  | [], x => fun _ => R.exc x
  | (mt, f) :: r, x => fun ρ ps => match mt x.cls with
    | some true => noX (f x ρ) ps
    | some false => hdlF r x ρ ps
    | none => .und
def tryF (g1 : SF) (hl : List Hdl) : SF := fun ρ ps => match g1 ρ ps with
  | .exc x ps' => hdlF hl x ρ ps'
  | r => r
/-- slot i is the error's while the suite runs, and empty behind it -/
def unF (i : Nat) : Fl → R Fl
  | .nx ρ => pure (.nx (ρ.set i none))
  | .ct ρ => pure (.ct (ρ.set i none))
  | .bk ρ => pure (.bk (ρ.set i none))
  | .rt d ρ => pure (.rt d ρ)
def hdF (i : Nat) (f : SF) : Exn → SF := fun x ρ => do let fl ← f (ρ.set i (some (.ins x.cls x.fs))); unF i fl
/-- what of m a suite knows: the slots of ks -/
def kpM (m : List Md) (ks : List Nat) : List Md := (List.range m.length).map fun i => if ks.contains i && (m[i]? == some .sh) then .sh else .no
theorem kpM_at {m : List Md} {ks : List Nat} {i : Nat} {x : Md} (h : (kpM m ks)[i]? = some x) : x = .no ∨ (x = .sh ∧ i ∈ ks ∧ m[i]? = some .sh) := by
  unfold kpM at h
  rw [List.getElem?_map] at h
  cases e : (List.range m.length)[i]? with
  | none => rw [e] at h; cases h
  | some j =>
    rw [e] at h
    have hj : j = i := by
      have := (List.getElem?_eq_some_iff.mp e).2
      rw [List.getElem_range] at this
      exact this.symm
    subst hj
    have h' : (if (ks.contains j && (m[j]? == some .sh)) = true then Md.sh else Md.no) = x := Option.some.inj h
    by_cases c : (ks.contains j && (m[j]? == some .sh)) = true
    · rw [if_pos c] at h'
      rw [Bool.and_eq_true] at c
      exact .inr ⟨h'.symm, by simpa using c.1, eq_of_beq c.2⟩
    · rw [if_neg c] at h'
      exact .inl h'.symm
/-- own objects of m -/
def OwA (m : List Md) (own : Nat → Addr) : Addr → Prop := fun a => ∃ i, (m[i]? = some .ow ∨ m[i]? = some .io) ∧ own i = a
/-- the slots that stay, their values -/
def keepV (ks : List Nat) (ρ : Rho) (m : List Md) : List (Nat × D) := (ks.filter fun i => m[i]? == some .sh).filterMap fun i => (ρ[i]?.join).map fun d => (i, d)
/-- the ghosts within a try's body -/
noncomputable def G.tr (g : G) (m : List Md) (own : Nat → Addr) (H : Hp) (kv : List (Nat × D)) : G := { g with B := hid (OwA m own) H, sx := kv ++ g.sx }
section
variable {K : PySem.W.Frag} {g : G} {m m' : List Md} {own own' : Nat → Addr} {σ σ' : L2.St} {ρ ρ' : Rho} {H H' : Hp} {ps ps' : Ps} {kv : List (Nat × D)} {ks : List Nat}
theorem keepV_mem {i : Nat} {d : D} (h : (i, d) ∈ keepV ks ρ m) : i ∈ ks ∧ m[i]? = some .sh ∧ ρ[i]? = some (some d) := by
  unfold keepV at h
  obtain ⟨j, h1, h2⟩ := List.mem_filterMap.mp h
  obtain ⟨h3, h4⟩ := List.mem_filter.mp h1
  obtain ⟨d', h5, h6⟩ := Option.map_eq_some_iff.mp h2
  cases h6
  exact ⟨h3, eq_of_beq h4, join_some h5⟩
theorem mem_keepV {i : Nat} {d : D} (h1 : i ∈ ks) (h2 : m[i]? = some .sh) (h3 : ρ[i]? = some (some d)) : (i, d) ∈ keepV ks ρ m := by
  unfold keepV
  refine List.mem_filterMap.mpr ⟨i, List.mem_filter.mpr ⟨h1, by rw [h2]; exact beq_self_eq_true _⟩, ?_⟩
  rw [h3]; rfl
theorem Rs.tr (r : Rs K g m own σ ρ H ps) (ks : List Nat) : Rs K (g.tr m own H (keepV ks ρ m)) m own σ ρ H ps := { r with
  ow := fun i q => by
    obtain ⟨d, h1, h2, h3, h4, h5⟩ := r.ow i q
    refine ⟨d, h1, h2, h3, ?_, h5⟩
    show hid (OwA m own) H (own i) = none
    unfold hid
    exact if_pos ⟨i, q, rfl⟩
  sx := fun p hp => by
    rcases List.mem_append.mp hp with h | h
    · obtain ⟨i, d⟩ := p
      obtain ⟨_, h2, h3⟩ := keepV_mem h
      obtain ⟨v, h4, h5⟩ := r.sh i d h2 h3
      exact ⟨v, h4, h5⟩
    · exact r.sx p h
  base := fun a o h n => (hid_of h).2 }
/-- what stood ahead of the try stands -/
theorem trB (r : Rs K g m own σ ρ H ps) {a : Addr} (np : ¬ plS g.pl a) (h : hid (OwA m own) H a = none) : g.B a = none := by
  cases e : g.B a with
  | none => rfl
  | some o =>
    have h1 := r.base a o e np
    by_cases c : OwA m own a
    · obtain ⟨i, q, rfl⟩ := c
      obtain ⟨_, _, _, _, h4, _⟩ := r.ow i q
      rw [h4] at e; cases e
    · rw [hid_at c, h1] at h; cases h
theorem trX (r : Rs K g m own σ ρ H ps) (e : Exo (plS g.pl) (hid (OwA m own) H) H') : Exo (plS g.pl) g.B H' := fun a o h n => by
  refine e a o ?_ n
  have h1 := r.base a o h n
  have no : ¬ OwA m own a := fun ⟨i, q, z⟩ => by
    obtain ⟨_, _, _, _, h4, _⟩ := r.ow i q
    rw [z, h] at h4; cases h4
  exact (hid_at no).trans h1
theorem trE (r : Rs K g m own σ ρ H ps) (e : Exo (plS g.pl) (hid (OwA m own) H) H') : Ex (hid (Xs m own g) H) (hid (Eo g) H') := fun a o h => by
  obtain ⟨n, h⟩ := hid_of h
  rw [hid_at fun z => n (Xs.eo a z)]
  refine e a o ?_ fun z => n (Xs.pl a z)
  rw [hid_at fun ⟨i, q, z⟩ => n (.inr (.inr ⟨i, q, z⟩))]
  exact h
theorem Rs.untr (r0 : Rs K g m own σ ρ H ps) (r : Rs K (g.tr m own H kv) m' own' σ' ρ' H' ps') : Rs K g m' own' σ' ρ' H' ps' := { r with
  ow := fun i q => by
    obtain ⟨d, h1, h2, h3, h4, h5⟩ := r.ow i q
    exact ⟨d, h1, h2, h3, trB r0 h5 h4, h5⟩
  sx := fun p hp => r.sx p (List.mem_append_right _ hp)
  base := trX r0 r.base }
/-- the state of a suite -/
theorem Rs.caught (r0 : Rs K g m own σ ρ H ps) (hio : ∀ (i : Nat), m[i]? ≠ some .io) (hl : σ'.length = ρ.length) (e : Exo (plS g.pl) (hid (OwA m own) H) H') (hp : PoolAt g.pl H' ps')
    (hx : ∀ p ∈ keepV ks ρ m ++ g.sx, ∃ v, σ'[p.1]? = some (some v) ∧ Rep g.pl K (hid (Eo g) H') p.2 v) : Rs K g (kpM m ks) own σ' ρ H' ps' := by
  have sub : ∀ a, Xs (kpM m ks) own g a → Eo g a := fun a z => by
    rcases z with z | z | ⟨i, z, _⟩
    · exact .inl z
    · exact .inr z
    · rcases z with z | z <;> rcases kpM_at z with q | ⟨q, _⟩ <;> cases q
  have ex : Ex (hid (Eo g) H') (hid (Xs (kpM m ks) own g) H') := hid_sub sub
  have noOw : ∀ (i : Nat), ¬ ((kpM m ks)[i]? = some .ow ∨ (kpM m ks)[i]? = some .io) := fun i z => by
    rcases z with z | z <;> rcases kpM_at z with q | ⟨q, _⟩ <;> cases q
  exact {
    len := hl.symm
    sh := fun i d h1 h2 => by
      rcases kpM_at h1 with q | ⟨_, h3, h4⟩
      · cases q
      · obtain ⟨v, h5, h6⟩ := hx (i, d) (List.mem_append_left _ (mem_keepV h3 h4 h2))
        exact ⟨v, h5, h6.mono ex⟩
    ow := fun i q => (noOw i q).elim
    sb := fun i d h1 h2 => by rcases kpM_at h1 with q | ⟨q, _⟩ <;> cases q
    xc := fun i a dx h1 => by rcases kpM_at h1 with q | ⟨q, _⟩ <;> cases q
    ex := fun p hp => ((r0.ex p hp).mono (trE r0 e)).mono ex
    sx := fun p hp => let ⟨v, h1, h2⟩ := hx p (List.mem_append_right _ hp); ⟨v, h1, h2.mono ex⟩
    inj := fun i j q _ _ => (noOw i q).elim
    nE := fun i q => (noOw i (.inl q)).elim
    base := trX r0 e
    pool := hp
    eT := fun a h => by
      by_cases c : OwA m own a
      · refine False.elim ?_
        obtain ⟨i, q | q, e⟩ := c
        · exact r0.nE i q (by rw [e]; exact h)
        · exact hio i q
      · have h1 := r0.eT a h
        cases q : H a with
        | none => exact (h1 q).elim
        | some o =>
          by_cases np : plS g.pl a
          · exact hp.there np
          · exact .of (e a o (by rw [hid_at c]; exact q) np) (fun vs hv => h1.t vs (by rw [q, hv])) fun vs hv => h1.f vs (by rw [q, hv]) }
theorem Rs.noc (r : Rs K g m own σ ρ H ps) {i : Nat} (hp : ∀ p ∈ g.sx, p.1 ≠ i) : Rs K g (m.set i .no) own (σ.set i none) (ρ.set i none) H ps := by
  have r1 := r.weak (leM_set m i)
  have ne : ∀ {j : Nat} {x : Md}, (m.set i .no)[j]? = some x → x ≠ .no → j ≠ i := fun {j x} h hx z => by
    subst z
    rcases set_at h with ⟨_, z, _⟩ | ⟨z, _⟩
    · exact hx z
    · exact z rfl
  exact {
    len := by rw [List.length_set, List.length_set]; exact r.len
    sh := fun j d h1 h2 => by
      have e := ne h1 (by decide)
      rw [List.getElem?_set_ne (Ne.symm e)] at h2
      obtain ⟨w, h3, h4⟩ := r1.sh j d h1 h2
      exact ⟨w, by rw [List.getElem?_set_ne (Ne.symm e)]; exact h3, h4⟩
    ow := fun j h => by
      have e : j ≠ i := by rcases h with h | h <;> exact ne h (by decide)
      obtain ⟨d, h1, h2, h3⟩ := r1.ow j h
      exact ⟨d, by rw [List.getElem?_set_ne (Ne.symm e)]; exact h1, by rw [List.getElem?_set_ne (Ne.symm e)]; exact h2, h3⟩
    sb := fun j d h1 h2 => by
      have e := ne h1 (by decide)
      rw [List.getElem?_set_ne (Ne.symm e)] at h2
      obtain ⟨w, h3, h4⟩ := r1.sb j d h1 h2
      exact ⟨w, by rw [List.getElem?_set_ne (Ne.symm e)]; exact h3, h4⟩
    xc := fun j a dx h => by
      have e : j ≠ i := ne h (fun z => nomatch z)
      obtain ⟨d, h1, h2, h3⟩ := r1.xc j a dx h
      exact ⟨d, by rw [List.getElem?_set_ne (Ne.symm e)]; exact h1, by rw [List.getElem?_set_ne (Ne.symm e)]; exact h2, h3⟩
    ex := r1.ex
    sx := fun p hq => by
      obtain ⟨v, h1, h2⟩ := r1.sx p hq
      exact ⟨v, by rw [List.getElem?_set_ne (Ne.symm (hp p hq))]; exact h1, h2⟩
    inj := r1.inj
    nE := r1.nE
    base := r1.base
    pool := r1.pool
    eT := r1.eT }
theorem noXs {pl : Pl} {H : Hp} {ps : Ps} {dx : Addr} {vs : List (Str × V)} (hp : PoolAt pl H ps) (h : H dx = some (.xd vs)) : ¬ plS pl dx := by
  intro z
  rcases hp.kind z with ⟨_, e⟩ | ⟨_, e⟩ | ⟨_, e⟩ <;> (rw [h] at e; cases e)
/-- the error comes into slot i -/
theorem Rs.xcs (r : Rs K g m own σ ρ H ps) {i : Nat} (hi : i < σ.length) (hp : ∀ p ∈ g.sx, p.1 ≠ i) {a dx C : Addr} {fs : List (Str × D)} {vs : List (Str × V)} (h : H dx = some (.xd vs)) (q : RepF g.pl K (hid (Xs m own g) H) fs vs) (hm : m[i]? = some .no) :
    Rs K g (m.set i (.xc a dx)) own (σ.set i (some (.ref a))) (ρ.set i (some (.ins C fs))) H ps := by
  have at_ : ∀ (j : Nat), ((m.set i (.xc a dx))[j]? = some .ow ∨ (m.set i (.xc a dx))[j]? = some .io) → j ≠ i ∧ (m[j]? = some .ow ∨ m[j]? = some .io) := fun j q => set_ow q ⟨(fun z => nomatch z), (fun z => nomatch z)⟩
  have xe : ∀ b, Xs (m.set i (.xc a dx)) own g b → Xs m own g b := fun b q => by
    rcases q with q | q | ⟨j, q, e⟩
    · exact .inl q
    · exact .inr (.inl q)
    · exact .inr (.inr ⟨j, (at_ j q).2, e⟩)
  have ex : Ex (hid (Xs m own g) H) (hid (Xs (m.set i (.xc a dx)) own g) H) := hid_sub xe
  have ne : ∀ {j : Nat} {x : Md}, (m.set i (.xc a dx))[j]? = some x → (∀ b d, x ≠ .xc b d) → j ≠ i ∧ m[j]? = some x := fun {j x} h hx => by
    rcases set_at h with ⟨_, z, _⟩ | ⟨z, h⟩
    · exact (hx _ _ z).elim
    · exact ⟨z, h⟩
  exact {
    len := by rw [List.length_set, List.length_set]; exact r.len
    sh := fun j d h1 h2 => by
      obtain ⟨e, h1⟩ := ne h1 (fun _ _ z => nomatch z)
      rw [List.getElem?_set_ne (Ne.symm e)] at h2
      obtain ⟨w, h3, h4⟩ := r.sh j d h1 h2
      exact ⟨w, by rw [List.getElem?_set_ne (Ne.symm e)]; exact h3, h4.mono ex⟩
    ow := fun j h => by
      obtain ⟨e, h⟩ := at_ j h
      obtain ⟨d, h1, h2, h3, h4⟩ := r.ow j h
      exact ⟨d, by rw [List.getElem?_set_ne (Ne.symm e)]; exact h1, by rw [List.getElem?_set_ne (Ne.symm e)]; exact h2, h3.mono ex, h4⟩
    sb := fun j d h1 h2 => by
      obtain ⟨e, h1⟩ := ne h1 (fun _ _ z => nomatch z)
      rw [List.getElem?_set_ne (Ne.symm e)] at h2
      obtain ⟨w, h3, h4⟩ := r.sb j d h1 h2
      refine ⟨w, by rw [List.getElem?_set_ne (Ne.symm e)]; exact h3, ?_⟩
      rcases h4 with h4 | ⟨b, eb, np, no, t⟩
      · exact .inl (h4.mono ex)
      · exact .inr ⟨b, eb, np, fun k q => no k (at_ k q).2, t.mono ex⟩
    xc := fun j b dy h1 => by
      rcases set_at h1 with ⟨e, z, hl⟩ | ⟨e, h1⟩
      · cases z
        subst e
        refine ⟨.ins C fs, List.getElem?_set_self (by rw [r.len]; exact hi), List.getElem?_set_self hi, ⟨C, fs, vs, rfl, h, ?_⟩, noXs r.pool h⟩
        exact q.mono ex
      · obtain ⟨d, k1, k2, k3, k4⟩ := r.xc j b dy h1
        exact ⟨d, by rw [List.getElem?_set_ne (Ne.symm e)]; exact k1, by rw [List.getElem?_set_ne (Ne.symm e)]; exact k2, k3.mono ex, k4⟩
    ex := fun p hp => (r.ex p hp).mono ex
    sx := fun p hq => by
      obtain ⟨v, h1, h2⟩ := r.sx p hq
      exact ⟨v, by rw [List.getElem?_set_ne (Ne.symm (hp p hq))]; exact h1, h2.mono ex⟩
    inj := fun j k h1 h2 => r.inj j k (at_ j h1).2 (at_ k h2).2
    nE := fun j q => r.nE j (ne q (fun _ _ z => nomatch z)).2
    base := r.base
    pool := r.pool
    eT := r.eT }
end
end DL
set_option Elab.async false
set_option linter.all false
set_option maxRecDepth 100000
set_option maxHeartbeats 2000000
namespace DL
open PySem PySem.Spec PyProof.Rows L2
/-- a suite's canonical reading -/
def tsC (X : Cx) (sts : List Stmt) : TSx := fun a cls d D σ H => ∀ oe pn pins s, Zc cls d oe → (∃ vs, oe.data = .fields vs) → Inv (X.suite a ((a, oe) :: pn)) pins σ H s →
  wpAny (model X.prog X.w) (X.suite a ((a, oe) :: pn)).A (execs sts X.env) (SP (X.suite a ((a, oe) :: pn)) pins D) (X.suite a ((a, oe) :: pn)).xe s
theorem tsC_ok {X : Cx} {sts : List Stmt} (a : Addr) (oe : Obj) (cls : Value) (d : Option Addr) (pn : List (Addr × Obj)) (hz : Zc cls d oe) (hf : ∃ vs, oe.data = .fields vs) : PSs (X.suite a ((a, oe) :: pn)) sts (tsC X sts a cls d) :=
  ⟨fun pins s σ H D I h => h oe pn pins s hz hf I⟩
/-- the clauses over data: the modes ahead of a suite, and behind the try -/
inductive HdD (X : Cx) (J : JP) (mS m' : List Md) : List ExceptHandler → List Hdl → Prop
  | nil : HdD X J mS m' [] []
  | only {x : Str} {c : Value} {b₀ : Stmt} {suite : List Stmt} {np pos' : Pos} {hds : List ExceptHandler} {l : List Hdl} {mt : Addr → Option Bool} {f : SF} (hc : Names X x c) (hm : ∀ C b, mt C = some b → PySem.W.exmOne X.K (.ref C) c = some b)
      (hd : ∀ (a : Addr) (oe : Obj) (cls : Value) (d : Option Addr) (pn : List (Addr × Obj)), Zc cls d oe → (∃ vs, oe.data = .fields vs) → Dss (X.suite a ((a, oe) :: pn)) WF J mS m' (b₀ :: suite) f) (r : HdD X J mS m' hds l) :
      HdD X J mS m' (.ExceptHandler (some (.Name x np)) none (b₀ :: suite) pos' :: hds) ((mt, fun _ => f) :: l)
  | named {x n : Str} {i : Nat} {c : Value} {b₀ : Stmt} {suite : List Stmt} {np pos' : Pos} {hds : List ExceptHandler} {l : List Hdl} {mt : Addr → Option Bool} {f : SF} {m1 : List Md} (hc : Names X x c) (hm : ∀ C b, mt C = some b → PySem.W.exmOne X.K (.ref C) c = some b)
      (hN : X.N.Nodup) (hi : X.N[i]? = some n) (hln : X.env.kindOf n = some .local) (hp : J.px.contains i = false) (hno : mS[i]? = some .no) (h1 : leM (m1.set i .no) m' = true) (hb : leM (J.mb.set i .no) J.mb = true)
      (hd : ∀ (a : Addr) (oe : Obj) (C : Addr) (dx : Addr) (pn : List (Addr × Obj)), mt C = some true → Zc (.ref C) (some dx) oe → (∃ vs, oe.data = .fields vs) → Dss (X.suite a ((a, oe) :: pn)) WF { J with px := i :: J.px } (mS.set i (.xc a dx)) (m1.set i (.xc a dx)) (b₀ :: suite) f) (r : HdD X J mS m' hds l) :
      HdD X J mS m' (.ExceptHandler (some (.Name x np)) (some n) (b₀ :: suite) pos' :: hds) ((mt, hdF i f) :: l)
theorem noX_of {α : Type} {x : R α} {ps ps' : Ps} {a : α} (h : x ps = .ok a ps') : noX x ps = .ok a ps' := by
  unfold noX; rw [h]
theorem wsF {K : PySem.W.Frag} {g : G} {r : Res Fl} {fl : Fl} {ps' : Ps} (h : r = .ok fl ps') : WS WF K g r := fun x ps2 dx H' σ' e => by
  rw [h] at e; cases e
section
variable {X : Cx} {W : WX} {J : JP} {m m' : List Md} {ks : List Nat} {hds : List ExceptHandler} {hl : List Hdl}
theorem hdd_go (hh : HdD X J (kpM m ks) m' hds hl) : ∃ l, HdsA X hds l ∧ ∀ {g : G} {own : Nat → Addr} {σ σ' : L2.St} {ρ : Rho} {H H' : Hp} {ps ps' : Ps} {x : Exn} {dx : Addr}, Rs X.K g m own σ ρ H ps → (∀ (i : Nat), m[i]? ≠ some .io) → ρ.length = X.N.length → (∀ p ∈ g.sx, p.1 ∈ J.px) →
    Exo (plS g.pl) (hid (OwA m own) H) H' → PoolAt g.pl H' ps' → ExR g.pl X.K (Eo g) H' dx x → (∀ p ∈ keepV ks ρ m ++ g.sx, ∃ v, σ'[p.1]? = some (some v) ∧ Rep g.pl X.K (hid (Eo g) H') p.2 v) →
    hdlF hl x ρ ps' ≠ .und → WS W X.K g (hdlF hl x ρ ps') → wMA X.K W (DD X J m m' g own (hdlF hl x ρ ps')) l (.ref x.cls) (some dx) σ' H' := by
  induction hh with
  | nil =>
    refine ⟨[], .nil, fun {g own σ σ' ρ H H' ps ps' x dx} r0 hio hlen hx e hp hxr hs n w => ?_⟩
    exact w x ps' dx H' σ' rfl (trX r0 e) hp hxr fun p hp => hs p (List.mem_append_right _ hp)
  | @only x c b₀ suite np pos' hds2 l2 mt f hc hm hd r ih =>
    obtain ⟨l', h1, h2⟩ := ih
    refine ⟨_, .only (ts := tsC X (b₀ :: suite)) hc tsC_ok h1, fun {g own σ σ' ρ H H' ps ps' y dx} r0 hio hlen hx e hp hxr hs n w => ?_⟩
    cases q : mt y.cls with
    | none => exact (n (by show (match mt y.cls with | some true => _ | some false => _ | none => _) = _; rw [q])).elim
    | some b =>
      refine ⟨b, hm _ _ q, ?_, ?_⟩
      · rintro rfl a na oe pn pins s hz hf I
        have e1 : hdlF ((mt, fun _ => f) :: l2) y ρ ps' = noX (f ρ) ps' := by show (match mt y.cls with | some true => _ | some false => _ | none => _) = _; rw [q]
        rw [e1] at n ⊢
        obtain ⟨fl, p2, e2, e3⟩ := noX_ok n
        have rc := r0.caught hio (ks := ks) (σ' := σ') (ρ := ρ) (by rw [hlen]; exact I.len) e hp hs
        refine thn ((hd a oe _ _ pn hz hf).run g own pins s σ' ρ H' ps' I rc hx (by rw [e2]; exact fun z => nomatch z) (wsF e2)) fun fl s1 q1 => spI' q1 ?_ ?_ ?_ ?_
        · rintro σ2 H2 ⟨ρ2, ps2, own2, a1, a2, a3⟩; exact ⟨ρ2, ps2, own2, noX_of a1, a2, fun i z => (hio i z).elim⟩
        · rintro σ2 H2 ⟨ρ2, ps2, own2, a1, a2, a3⟩; exact ⟨ρ2, ps2, own2, noX_of a1, a2, fun i z => (hio i z).elim⟩
        · rintro σ2 H2 ⟨ρ2, ps2, own2, a1, a2, a3⟩; exact ⟨ρ2, ps2, own2, noX_of a1, a2, fun i z => (hio i z).elim⟩
        · rintro v H2 ⟨d, ρ2, ps2, own2, σ2, a1, a2, a3, a4⟩; exact ⟨d, ρ2, ps2, own2, σ2, noX_of a1, a2, fun i z => (hio i z).elim, a4⟩
      · rintro rfl
        have e1 : hdlF ((mt, fun _ => f) :: l2) y ρ ps' = hdlF l2 y ρ ps' := by show (match mt y.cls with | some true => _ | some false => _ | none => _) = _; rw [q]
        rw [e1] at n w ⊢
        exact h2 r0 hio hlen hx e hp hxr hs n w
  | @named x nm i c b₀ suite np pos' hds2 l2 mt f m1 hc hm hN hi hln hp0 hno hE hb hd r ih =>
    obtain ⟨l', h1, h2⟩ := ih
    refine ⟨_, .named (ts := tsC X (b₀ :: suite)) hc hN hi hln tsC_ok h1, fun {g own σ σ' ρ H H' ps ps' y dx} r0 hio hlen hx e hp hxr hs n w => ?_⟩
    have px : ∀ p ∈ g.sx, p.1 ≠ i := sx_ne hx hp0
    cases q : mt y.cls with
    | none => exact (n (by show (match mt y.cls with | some true => _ | some false => _ | none => _) = _; rw [q])).elim
    | some b =>
      refine ⟨b, hm _ _ q, ?_, ?_⟩
      · rintro rfl a na oe pn pins s hz hf I
        have e1 : hdlF ((mt, hdF i f) :: l2) y ρ ps' = noX (hdF i f y ρ) ps' := by show (match mt y.cls with | some true => _ | some false => _ | none => _) = _; rw [q]
        rw [e1] at n ⊢
        obtain ⟨fl, p2, e2, e3⟩ := noX_ok n
        have hl : σ'.length = ρ.length := by rw [hlen, ← I.len, List.length_set]
        have hil : i < σ'.length := by rw [hl, hlen]; exact (List.getElem?_eq_some_iff.mp hi).1
        have rc := r0.caught hio (ks := ks) (σ' := σ') (ρ := ρ) hl e hp hs
        obtain ⟨vs, hv1, hv2⟩ := hxr
        have sub : Ex (hid (Eo g) H') (hid (Xs (kpM m ks) own g) H') := hid_sub fun b z => by
          rcases z with z | z | ⟨j, z, _⟩
          · exact .inl z
          · exact .inr z
          · rcases z with z | z <;> rcases kpM_at z with y | ⟨y, _⟩ <;> cases y
        have rx := rc.xcs hil px (a := a) (C := y.cls) hv1 (hv2.mono sub) hno
        have e4 : ∀ {fl : Fl} {p : Ps}, f (ρ.set i (some (.ins y.cls y.fs))) ps' = .ok fl p → hdF i f y ρ ps' = unF i fl p := fun z => bind_ok z
        have nf : f (ρ.set i (some (.ins y.cls y.fs))) ps' ≠ .und := ne_of_bind (show hdF i f y ρ ps' ≠ .und by rw [e2]; exact fun z => nomatch z)
        have nx : ∀ (fl : Exn) (p : Ps), f (ρ.set i (some (.ins y.cls y.fs))) ps' ≠ .exc fl p := fun fl p z => by
          have : hdF i f y ρ ps' = .exc fl p := bind_exc z
          rw [e2] at this; cases this
        refine thn ((hd a oe _ _ pn q hz hf).run g own pins s _ _ H' ps' I rx (fun p hp => List.mem_cons_of_mem _ (hx p hp)) nf (fun fl p dx H' σ' z => (nx _ _ z).elim)) fun fl s1 q1 => spI' q1 ?_ ?_ ?_ ?_
        · rintro σ2 H2 ⟨ρ2, ps2, own2, a1, a2, a3⟩
          have a4 := a2.noc px
          rw [List.set_set] at a4
          exact ⟨ρ2.set i none, ps2, own2, noX_of ((e4 a1).trans rfl), a4.weak hE, fun i z => (hio i z).elim⟩
        · rintro σ2 H2 ⟨ρ2, ps2, own2, a1, a2, a3⟩
          exact ⟨ρ2.set i none, ps2, own2, noX_of ((e4 a1).trans rfl), (a2.noc px).weak hb, fun i z => (hio i z).elim⟩
        · rintro σ2 H2 ⟨ρ2, ps2, own2, a1, a2, a3⟩
          exact ⟨ρ2.set i none, ps2, own2, noX_of ((e4 a1).trans rfl), (a2.noc px).weak hb, fun i z => (hio i z).elim⟩
        · rintro v H2 ⟨d, ρ2, ps2, own2, σ2, a1, a2, a3, a4⟩
          exact ⟨d, ρ2, ps2, own2, σ2, noX_of ((e4 a1).trans rfl), a2, fun i z => (hio i z).elim, a4⟩
      · rintro rfl
        have e1 : hdlF ((mt, hdF i f) :: l2) y ρ ps' = hdlF l2 y ρ ps' := by show (match mt y.cls with | some true => _ | some false => _ | none => _) = _; rw [q]
        rw [e1] at n w ⊢
        exact h2 r0 hio hlen hx e hp hxr hs n w
def noIo (m : List Md) : Bool := m.all fun x => !(x == .io)
theorem noIo_at (h : noIo m = true) (i : Nat) : m[i]? ≠ some .io := fun z => by
  have := List.all_eq_true.mp h _ (List.mem_of_getElem? z)
  cases this
theorem ds_try {body : List Stmt} {h₀ : ExceptHandler} {pos : Pos} {g1 : SF} (tk : Takes X W) (hb : ∀ (W' : WX) (pn : List (Addr × Obj)) (xe : Value → Shared → Prop), Takes (X.tr pn xe) W' → PassesOwn (model X.prog X.w) X.A X.env xe → Dss (X.tr pn xe) W' { J with px := ks ++ J.px } m m' body g1)
    (hh : HdD X J (kpM m ks) m' (h₀ :: hds) hl) (hio : noIo m = true := by rfl) (hs : X.stack = X.env :: X.outer := by rfl) (hf : X.env.frame = some X.env.locals := by rfl) : Ds X W J m m' (.Try body (h₀ :: hds) [] [] pos) (tryF g1 hl) := by
  refine ⟨fun g own pins s σ ρ H ps I r hx n w => ?_⟩
  obtain ⟨l, hA, hgo⟩ := hdd_go (W := W) hh
  have hio := noIo_at hio
  have hlen : ρ.length = X.N.length := r.len.trans I.len
  have tt : ∀ {x : Exn} {ps' : Ps}, g1 ρ ps = .exc x ps' → tryF g1 hl ρ ps = hdlF hl x ρ ps' := fun {x ps'} e => by unfold tryF; rw [e]
  have to : ∀ {fl : Fl} {ps' : Ps}, g1 ρ ps = .ok fl ps' → tryF g1 hl ρ ps = .ok fl ps' := fun {fl ps'} e => by unfold tryF; rw [e]
  refine (ps_try_all (tb := fun W' D σ' H' => ∀ pn xe, Takes (X.tr pn xe) W' → PassesOwn (model X.prog X.w) X.A X.env xe → cSs (X.tr pn xe) body D σ' H') hs hf tk
    (fun W' pn xe tk po => ⟨fun pins s σ H D I h => h pn xe tk po pins s I⟩) hA).run pins s σ H _ I ?_
  intro pn xe tk' po pins' s' I'
  have n1 : g1 ρ ps ≠ .und := fun z => n (by unfold tryF; rw [z])
  refine thn ((hb _ pn xe tk' po).run (g.tr m own H (keepV ks ρ m)) own pins' s' σ ρ H ps I' (r.tr ks) (fun p hp => ?_) n1 (fun x ps' dx H' σ' e e2 e3 e4 e5 => ?_)) fun fl s1 q1 => spI' q1 ?_ ?_ ?_ ?_
  · rcases List.mem_append.mp hp with h | h
    · exact List.mem_append_left _ (keepV_mem h).1
    · exact List.mem_append_right _ (hx p h)
  · rw [tt e] at n w ⊢
    exact hgo r hio hlen hx e2 e3 e4 e5 n w
  · rintro σ2 H2 ⟨ρ2, ps2, own2, a1, a2, a3⟩; exact ⟨ρ2, ps2, own2, to a1, r.untr a2, a3⟩
  · rintro σ2 H2 ⟨ρ2, ps2, own2, a1, a2, a3⟩; exact ⟨ρ2, ps2, own2, to a1, r.untr a2, a3⟩
  · rintro σ2 H2 ⟨ρ2, ps2, own2, a1, a2, a3⟩; exact ⟨ρ2, ps2, own2, to a1, r.untr a2, a3⟩
  · rintro v H2 ⟨d, ρ2, ps2, own2, σ2, a1, a2, a3, a4⟩
    refine ⟨d, ρ2, ps2, own2, σ2, to a1, r.untr a2, a3, ?_⟩
    unfold RtQ at a4 ⊢
    show match J.fr with | false => _ | true => _
    have a4 : match J.fr with | false => Rep g.pl X.K (hid (Xs J.mr own2 g) H2) d v | true => ∃ p, v = .ref p ∧ hid (OwA m own) H p = none ∧ ¬ plS g.pl p ∧ TopR g.pl X.K (hid (fun a => Xs J.mr own2 g a ∨ a = p) H2) d (H2 p) := a4
    cases hf : J.fr with
    | false => rw [hf] at a4; exact a4
    | true =>
      rw [hf] at a4
      obtain ⟨p, h1, h2, h3, h4⟩ := a4
      exact ⟨p, h1, trB r h3 h2, h3, h4⟩
end
end DL
set_option Elab.async false
set_option linter.all false
set_option maxRecDepth 100000
set_option maxHeartbeats 2000000
namespace DL
open PySem PySem.Spec PyProof.Rows L2
end DL
set_option Elab.async false
set_option linter.all false
set_option maxRecDepth 100000
set_option maxHeartbeats 2000000
namespace DL
open PySem PySem.Spec PyProof.Rows L2
/-- xs != [], xs any list that is read -/
theorem op_neL {X : Cx} (hu : X.A.units + 64 < cLine) : OpR X (compareOp .NotEq) (fun x y H Q => ∃ (a b : Addr) (xs : List V), x = .ref a ∧ y = .ref b ∧ SqL X.K H a xs ∧ SqL X.K H b [] ∧ Q (.bl (!xs.isEmpty)) H) := by
  intro pins s σ H x y u v Q I rx ry ⟨a, b, xs, hx, hy, h1, h2, q⟩
  subst hx hy
  cases rx
  cases ry
  obtain ⟨its, v1, l1, _⟩ := I.list h1
  obtain ⟨its2, v2, l2, _⟩ := I.list h2
  have e2 : its2 = [] := by cases v2; rfl
  subst e2
  have fin : ∀ c : Bool, c = (!xs.isEmpty) → EP X pins σ Q (.bool c) s := fun c e => ⟨.bl c, H, I, rfl, by rw [e]; exact q⟩
  cases xs with
  | nil =>
    have e1 : its = [] := by cases v1; rfl
    subst e1
    refine PySem.SeqAt.RcNeAt.lists (e := fun _ => true) l1.isList l2.isList rfl (by omega) (fun j z => absurd z (by simp)) X.prog X.w X.xe _ (fin _ (by simp))
  | cons x r =>
    have e1 : its.length = r.length + 1 := by rw [← v1.length]; rfl
    exact PySem.SeqAt.RcNeAt.lists_lengths (A := X.A) (s := s) l1.isList l2.isList (by simp [e1]) (by omega) X.prog X.w X.xe _ (fin true rfl)
/-- the cell that a turn reads -/
def cellN (ns : List Int) (k : Nat) : Int := match ns with
  | [] => 7
  | _ => ns.getD k 0
/-- _law_opened(script, k, many): a new pool -/
def spOp (K : PySem.W.Frag) (F : List D → R D) : Sp := fun vs H Q _ => ∃ (a : Addr) (ns : List Int) (k : Nat) (many : Int) (d : D), vs = [.ref a, .int (k : Int), .int many] ∧ SqL K H a (ns.map V.int) ∧ (ns = [] ∨ k < ns.length) ∧
  F [.int (cellN ns k), .int (k : Int), .int many] none = .ok d none ∧ ∃ O : Addr → Prop, (∀ x, O x → Thr (H x)) ∧ ∀ v H', QV .fr none K O H (.ok d none) v H' → Q v H'
end DL
set_option Elab.async false
set_option linter.all false
set_option maxRecDepth 100000
set_option maxHeartbeats 2000000
namespace DL
open PySem PySem.Spec PyProof.Rows L2
def forRest (st : Stmt) : List Stmt := match defBody st with
  | (.For _ _ (_ :: r) _ _) :: _ => r
  | _ => []
def forTail (st : Stmt) : List Stmt := match defBody st with
  | _ :: r => r
  | _ => []
/-- law's: a list of at most 63 ints is handed in, True comes out; the tables are empty -/
def spLaw (T : List (Addr × Str)) (K : PySem.W.Frag) : Sp := fun vs H Q _ => ∃ (a : Addr) (ns : List Int), vs = [.ref a] ∧ SqL K H a (ns.map V.int) ∧ (∀ t ∈ T, H t.1 = some (.tbl #[])) ∧ ns.length ≤ 63 ∧ ∀ H', Q (.bl true) H'
/-- the tables, as they stand -/
structure Tbs (T : List (Addr × Str)) (H : Hp) : Prop where
  at_ : ∀ t ∈ T, TbAt H t.1 t.2
  uq : ∀ t ∈ T, ∀ t' ∈ T, t.1 = t'.1 → t.2 = t'.2
theorem TbAt.mono {H H' : Hp} {P : Addr} {q : Str} (e : Ex H H') (h : TbAt H P q) : TbAt H' P q :=
  let ⟨ps, h1, h2, h3⟩ := h; ⟨ps, e _ _ h1, h2, fun pos cv hc => let ⟨c, h4, h5⟩ := h3 pos cv hc; ⟨c, h4, h5.mono e⟩⟩
theorem TbAt.nil {H : Hp} {P : Addr} {q : Str} (h : H P = some (.tbl #[])) : TbAt H P q := ⟨#[], h, True.intro, fun pos cv hc => by
  have z : codeAmong pos [] = some cv := hc
  simp [codeAmong] at z⟩
theorem Tbs.mono {T : List (Addr × Str)} {H H' : Hp} (e : Ex H H') (h : Tbs T H) : Tbs T H' := ⟨fun t ht => (h.at_ t ht).mono e, h.uq⟩
theorem Tbs.nil {T : List (Addr × Str)} {H : Hp} (u : ∀ t ∈ T, ∀ t' ∈ T, t.1 = t'.1 → t.2 = t'.2) (h : ∀ t ∈ T, H t.1 = some (.tbl #[])) : Tbs T H := ⟨fun t ht => .nil (h t ht), u⟩
/-- the script, hidden while the pool is made -/
def scO (H : Hp) (b : Addr) (xs : List V) : Addr → Prop := fun a => a = b ∧ Rd H b (.lst xs)
theorem scO_thr {H : Hp} {b : Addr} {xs : List V} : ∀ a, scO H b xs a → Thr (H a) := by
  rintro a ⟨rfl, h⟩
  rcases h with h | ⟨o, h⟩
  · exact .of h fun _ z => nomatch z
  · exact .of h fun _ z => nomatch z
/-- the modes of a turn: k, the pool -/
def turnM (n : Nat) : List Md := .no :: .sh :: .sh :: List.replicate (n - 3) .no
def turnR (n : Nat) (k : Nat) : Rho := none :: some (.int (k : Int)) :: some .pool :: List.replicate (n - 3) none
def turnJ (n : Nat) : JP := { mb := turnM n, mr := mrOf n, px := [0] }
/-- a pool as it is opened -/
def poolD (nums : List Int) : D := .lst [.lst (nums.map .int), .int 0]
theorem intsOf_map : ∀ nums : List Int, intsOf (nums.map D.int) = some nums
  | [] => rfl
  | a :: r => by show (intsOf (r.map D.int)).map (a :: ·) = _; rw [intsOf_map r]; rfl
theorem pool_at {K : PySem.W.Frag} {O : Addr → Prop} {H H' : Hp} {v : V} {nums : List Int} (h : QV .fr none K O H (.ok (poolD nums) none) v H') :
    ∃ p q, v = .ref p ∧ H p = none ∧ Same H H' ∧ p ≠ q ∧ H' p = some (.lst [.ref q, .int 0]) ∧ H' q = some (.lst (nums.map V.int)) ∧ ¬ O q := by
  obtain ⟨d, ps, e, x, _, p, rfl, hp, t⟩ := h
  cases e
  obtain ⟨vs, h1, h2⟩ := (show TopR none K (hid (fun a => O a ∨ a = p) H') (.lst [.lst (nums.map .int), .int 0]) (H' p) from t)
  obtain ⟨v1, r1, rfl, g1, g2⟩ := h2.inv_cons
  obtain ⟨v2, r2, rfl, g3, g4⟩ := g2.inv_cons
  rw [g4.inv_nil] at h1
  unfold Rep at g1 g3
  subst g3
  obtain ⟨q, us, rfl, k1, k2⟩ := g1
  obtain ⟨n1, k1⟩ := hid_of k1
  have e2 := ints_rep k2 (intsOf_map nums)
  refine ⟨p, q, rfl, hp, fun a o h => x a o h (fun ⟨y, z, _⟩ => by cases z), fun z => n1 (.inr z.symm), h1, by rw [k1, e2], fun z => n1 (.inl z)⟩
theorem atI_cellN {ns : List Int} {k : Nat} (h : k < ns.length) : atI (ns.map V.int) ((k : Nat) : Int) = some (V.int (cellN ns k)) := by
  rw [atI_cell h]
  cases ns with
  | nil => simp at h
  | cons x r => rfl
theorem opened_call {K : PySem.W.Frag} {F : List D → R D} {c k many : Int} {d : D} {H H1 : Hp} {Q : VK} {E : XK} (hf : F [.int c, .int k, .int many] none = .ok d none) (hQ : ∃ O : Addr → Prop, (∀ x, O x → Thr (H x)) ∧ ∀ v H', QV .fr none K O H (.ok d none) v H' → Q v H') (hSame : Same H H1) :
    spD K .fr [.sb, .sb, .sb] F [.int c, .int k, .int many] H1 Q E := by
  obtain ⟨O, hO, hQ⟩ := hQ
  have hO1 : ∀ x, O x → Thr (H1 x) := fun x hx => by
    have h := hO x hx
    cases q : H x with
    | none => exact (h q).elim
    | some o => exact .of (hSame x o q) (fun vs z => h.t vs (by rw [q, z])) fun vs z => h.f vs (by rw [q, z])
  refine ⟨none, O, [.int c, .int k, .int many], none, ?_, ?_, ?_, rfl, ?_, ?_, ?_⟩
  · refine ⟨_, _, rfl, .inl (by unfold Rep; rfl), _, _, rfl, .inl (by unfold Rep; rfl), _, _, rfl, .inl (by unfold Rep; rfl), rfl⟩
  · rintro x ⟨y, h, _⟩; cases h
  · exact hO1
  · rw [hf]; exact fun z => nomatch z
  · rintro v H' q
    rw [hf] at q
    obtain ⟨d', ps', e1, x1, p1, q1⟩ := q
    cases e1
    refine hQ v H' ⟨d, none, rfl, fun x o hx n => x1 x o (hSame x o hx) n, p1, ?_⟩
    obtain ⟨p, h1, h2, h3⟩ := q1
    exact ⟨p, h1, hSame.free h2, h3⟩
  · intro x ps' dx H' e; rw [hf] at e; cases e
/-- the ghosts of a turn -/
def turnG (T : List (Addr × Str)) (p q b : Addr) (H : Hp) : G := { pl := some (p, q, ⟨none, T⟩), E := fun _ => False, B := H, sx := [(0, .ob (.ref b))] }
theorem turnM_at {n i : Nat} {x : Md} (h : (turnM n)[i]? = some x) : x = .no ∨ (x = .sh ∧ (i = 1 ∨ i = 2)) := by
  unfold turnM at h
  match i with
  | 0 => simp at h; exact .inl h.symm
  | 1 => simp at h; exact .inr ⟨h.symm, .inl rfl⟩
  | 2 => simp at h; exact .inr ⟨h.symm, .inr rfl⟩
  | i + 3 =>
    have h' : (List.replicate (n - 3) Md.no)[i]? = some x := by simpa using h
    exact .inl (List.eq_of_mem_replicate (List.mem_of_getElem? h'))
theorem turn_rs {K : PySem.W.Frag} {σ : L2.St} {H : Hp} {b p q : Addr} {nums : List Int} {n k : Nat} (hn : 3 ≤ n) (hl : σ.length = n) (h0 : σ[0]? = some (some (.ref b))) (h1 : σ[1]? = some (some (.int (k : Int)))) (h2 : σ[2]? = some (some (.ref p)))
    (hp : H p = some (.lst [.ref q, .int 0])) (hq : H q = some (.lst (nums.map V.int))) (hne : q ≠ p) {T : List (Addr × Str)} (hT : Tbs T H) : Rs K (turnG T p q b H) (turnM n) (fun _ => 0) σ (turnR n k) H (some ⟨nums, 0, none, T⟩) := {
  len := by unfold turnR; simp; omega
  sh := fun i d e1 e2 => by
    rcases turnM_at e1 with e | ⟨_, rfl | rfl⟩
    · cases e
    · have : d = .int (k : Int) := by unfold turnR at e2; simp at e2; exact e2.symm
      subst this
      exact ⟨_, h1, by unfold Rep; rfl⟩
    · have : d = .pool := by unfold turnR at e2; simp at e2; exact e2.symm
      subst this
      exact ⟨_, h2, by unfold Rep; rfl⟩
  ow := fun i z => by rcases z with z | z <;> rcases turnM_at z with e | ⟨e, _⟩ <;> cases e
  sb := fun i d z _ => by rcases turnM_at z with e | ⟨e, _⟩ <;> cases e
  xc := fun i c dx z => by rcases turnM_at z with e | ⟨e, _⟩ <;> cases e
  ex := fun p hp => by cases hp
  sx := fun p hp => by
    rcases List.mem_cons.mp hp with rfl | hp
    · exact ⟨_, h0, by unfold Rep; rfl⟩
    · cases hp
  inj := fun i j z _ _ => by rcases z with z | z <;> rcases turnM_at z with e | ⟨e, _⟩ <;> cases e
  nE := fun i z => fun h => h.elim
  base := Exo.refl
  pool := ⟨⟨nums, 0, none, T⟩, rfl, hp, hq, hne, ⟨rfl, rfl, hT.at_, hT.uq⟩⟩
  eT := fun a h => h.elim }
theorem spL {X : Cx} {pins : List (Addr × Obj)} {D1 D2 : Ends} {f : Flow} {s : Shared} (h : SP X pins D1 f s) (h1 : ∀ σ H, σ.length = X.N.length → D1.nx σ H → D2.nx σ H) (h2 : ∀ σ H, σ.length = X.N.length → D1.bk σ H → D2.bk σ H) (h3 : ∀ σ H, σ.length = X.N.length → D1.ct σ H → D2.ct σ H) (h4 : ∀ v H, D1.rt v H → D2.rt v H) : SP X pins D2 f s := by
  cases f with
  | next => obtain ⟨σ, H, I, q⟩ := h; exact ⟨σ, H, I, h1 _ _ I.len q⟩
  | brk => obtain ⟨σ, H, I, q⟩ := h; exact ⟨σ, H, I, h2 _ _ I.len q⟩
  | cont => obtain ⟨σ, H, I, q⟩ := h; exact ⟨σ, H, I, h3 _ _ I.len q⟩
  | ret u => obtain ⟨v, σ, H, I, rv, q⟩ := h; exact ⟨v, σ, H, I, rv, h4 _ _ q⟩
theorem end_rs {K : PySem.W.Frag} {σ : L2.St} {H : Hp} {n : Nat} (hl : σ.length = n) : Rs K { pl := none, E := fun _ => False, B := H } (mrOf n) (fun _ => 0) σ (List.replicate n none) H none := by
  have no : ∀ {i : Nat} {x : Md}, (mrOf n)[i]? = some x → x = .no := fun h => List.eq_of_mem_replicate (List.mem_of_getElem? h)
  exact {
    len := by rw [List.length_replicate, hl]
    sh := fun i d z _ => by cases no z
    ow := fun i z => by rcases z with z | z <;> cases no z
    sb := fun i d z _ => by cases no z
    xc := fun i c dx z => by cases no z
    ex := fun p hp => by cases hp
    sx := fun p hp => by cases hp
    inj := fun i j z _ _ => by rcases z with z | z <;> cases no z
    nE := fun i z => fun h => h.elim
    base := Exo.refl
    pool := rfl
    eT := fun a h => h.elim }
/-- what a turn leaves -/
def turnP (T : List (Addr × Str)) (K : PySem.W.Frag) (n : Nat) (b : Addr) (ns : List Int) : Nat → L2.St → Hp → Prop := fun _ σ H => σ.length = n ∧ σ[0]? = some (some (.ref b)) ∧ SqL K H b (ns.map V.int) ∧ Tbs T H
theorem sq_same {K : PySem.W.Frag} {H H' : Hp} {a : Addr} {xs : List V} (h : SqL K H a xs) (s : Same H H') : SqL K H' a xs := s.seq h
/-- what stands behind the turns -/
theorem tail_run {X : Cx} {gT : SF} {tail : List Stmt} {n : Nat} {mT : List Md} {D : Ends} {σ : L2.St} {H : Hp} (hT : Dss X WF { mb := [], mr := mrOf n } (mrOf n) mT tail gT) (hm : ∃ ρ' ps', gT (List.replicate n none) none = .ok (.rt (.bl true) ρ') ps') (hl : σ.length = n)
    (hD : ∀ H', D.rt (.bl true) H') : cSs X tail D σ H := by
  intro pins s I
  obtain ⟨ρ', ps', e⟩ := hm
  refine thn (hT.run { pl := none, E := fun _ => False, B := H } (fun _ => 0) pins s σ (List.replicate n none) H none I (end_rs hl) (fun p hp => by cases hp) (by rw [e]; exact fun z => nomatch z) (wsF e)) fun fl s1 q1 => spL q1 ?_ ?_ ?_ ?_
  · rintro σ2 H2 l2 ⟨ρ2, ps2, own2, a1, a2, a3⟩; rw [e] at a1; cases a1
  · rintro σ2 H2 l2 ⟨ρ2, ps2, own2, a1, a2, a3⟩; rw [e] at a1; cases a1
  · rintro σ2 H2 l2 ⟨ρ2, ps2, own2, a1, a2, a3⟩; rw [e] at a1; cases a1
  · rintro v H2 ⟨d, ρ2, ps2, own2, σ2, a1, a2, a3, a4⟩
    rw [e] at a1
    cases a1
    have a4 : Rep none X.K (hid (Xs (mrOf n) own2 { pl := none, E := fun _ => False, B := H }) H2) (.bl true) v := a4
    unfold Rep at a4
    subst a4
    exact hD H2
end DL
set_option Elab.async false
set_option linter.all false
set_option maxRecDepth 100000
set_option maxHeartbeats 2000000
namespace DL
open PySem PySem.Spec PyProof.Rows L2
/-- lists that stood nowhere in H0 -/
inductive NwR (pl : Pl) (H0 H : Hp) : List D → List V → Prop
  | nil : NwR pl H0 H [] []
  | cons {ds : List D} {a : Addr} {xs : List V} {r : List D} {t : List V} (h0 : H0 a = none) (np : ¬ plS pl a) (h : H a = some (.lst xs)) (hl : xs.length = ds.length) (q : NwR pl H0 H r t) : NwR pl H0 H (.lst ds :: r) (.ref a :: t)
theorem NwR.mono {pl : Pl} {H0 H H' : Hp} {ds : List D} {vs : List V} (x : Exo (plS pl) H H') (h : NwR pl H0 H ds vs) : NwR pl H0 H' ds vs := by
  induction h with
  | nil => exact .nil
  | cons h0 np h hl q ih => exact .cons h0 np (x _ _ h np) hl ih
theorem NwR.length {pl : Pl} {H0 H : Hp} {ds : List D} {vs : List V} (h : NwR pl H0 H ds vs) : vs.length = ds.length := by
  induction h with
  | nil => rfl
  | cons h0 np h hl q ih => rw [List.length_cons, List.length_cons, ih]
theorem NwR.append {pl : Pl} {H0 H : Hp} {ds es : List D} {vs us : List V} (h : NwR pl H0 H ds vs) (t : NwR pl H0 H es us) : NwR pl H0 H (ds ++ es) (vs ++ us) := by
  induction h with
  | nil => exact t
  | cons g0 gp g gl q ih => exact .cons g0 gp g gl ih
end DL
set_option Elab.async false
set_option linter.all false
set_option maxRecDepth 100000
set_option maxHeartbeats 2000000
namespace DL
open PySem PySem.Spec PyProof.Rows L2
end DL
set_option Elab.async false
set_option linter.all false
set_option maxRecDepth 100000
set_option maxHeartbeats 2000000
namespace DL
open PySem PySem.Spec PyProof.Rows L2
structure ClsX (K : PySem.W.Frag) (C : Addr) : Prop extends Cls K C where
  isc : PySem.W.isClsIn K C = true
  tyC : PySem.W.typeIn K (.ref C) = some (.type "type")
  slf : PySem.W.mroIn K C (.ref C) = some true
  obj : PySem.W.mroIn K C (.type "object") = some true
  kcl : PySem.W.findIn K (.ref C) "__class__" = some (some (.builtin "object.__class__"))
  kgt : PySem.W.specialIn K (.builtin "object.__class__") "__get__" = some (some (.builtin "getset_descriptor.__get__"))
  ktk : PySem.W.takesIn K (.builtin "object.__class__") = some true
theorem ClsX.ins {K : PySem.W.Frag} {C : Addr} (x : ClsX K C) : InsOk K C := ⟨x.toCls, x.kcl, x.kgt, x.ktk, x.obj⟩
end DL
set_option Elab.async false
set_option linter.all false
set_option maxRecDepth 100000
set_option maxHeartbeats 2000000
namespace DL
open PySem L2
end DL
set_option Elab.async false
set_option linter.all false
set_option maxRecDepth 100000
set_option maxHeartbeats 2000000
namespace DL
open PySem PySem.Spec PyProof.Rows L2
open Sem (wp)
end DL
namespace DL
open PySem PySem.Spec PyProof.Rows L2
end DL
set_option Elab.async false
set_option linter.all false
set_option maxRecDepth 100000
set_option maxHeartbeats 2000000
namespace DL
open PySem PySem.Spec PyProof.Rows L2
/-- arguments: the named ones, and what is left over -/
def ArgsS (pl : Pl) (K : PySem.W.Frag) (O : Addr → Prop) (H : Hp) (ms : List Md) (ds rs : List D) (vs : List V) : Prop := ∃ ws rest, vs = ws ++ rest ∧ ArgsR pl K O H ms ds ws ∧ Reps pl K (hid O H) rs rest
end DL
set_option Elab.async false
set_option linter.all false
set_option maxRecDepth 100000
set_option maxHeartbeats 2000000
namespace DL
open PySem PySem.Spec PyProof.Rows L2
theorem ArgsR.ofReps {pl : Pl} {K : PySem.W.Frag} {O : Addr → Prop} {H : Hp} : ∀ {rs : List D} {rest : List V}, Reps pl K (hid O H) rs rest → ArgsR pl K O H (List.replicate rs.length .sh) rs rest
  | [], _, h => h.inv_nil
  | d :: r, _, h => by
    obtain ⟨v, t, rfl, h2, h3⟩ := h.inv_cons
    exact ⟨v, t, rfl, h2, ArgsR.ofReps h3⟩
theorem ArgsR.toReps {pl : Pl} {K : PySem.W.Frag} {O : Addr → Prop} {H : Hp} : ∀ {n : Nat} {rs : List D} {rest : List V}, ArgsR pl K O H (List.replicate n .sh) rs rest → Reps pl K (hid O H) rs rest
  | 0, [], _, h => by rw [show _ = ([] : List V) from h]; exact Reps.nil
  | 0, _ :: _, _, h => h.elim
  | n + 1, [], _, h => h.elim
  | n + 1, d :: r, _, h => by
    obtain ⟨v, t, rfl, h2, h3⟩ := h
    exact Reps.cons h2 (ArgsR.toReps (n := n) h3)
theorem ArgsS.join {pl : Pl} {K : PySem.W.Frag} {O : Addr → Prop} {H : Hp} {rs : List D} {rest : List V} (t : Reps pl K (hid O H) rs rest) : ∀ {ms : List Md} {ds : List D} {ws : List V}, ArgsR pl K O H ms ds ws → ArgsR pl K O H (ms ++ List.replicate rs.length .sh) (ds ++ rs) (ws ++ rest)
  | [], [], _, h => by
    rw [show _ = ([] : List V) from h]
    exact ArgsR.ofReps t
  | .sh :: ms, d' :: ds, _, h => by
    obtain ⟨u, r, rfl, h2, h3⟩ := h
    exact ⟨u, r ++ rest, rfl, h2, ArgsS.join t h3⟩
  | .sb :: ms, d' :: ds, _, h => by
    obtain ⟨u, r, rfl, h2, h3⟩ := h
    exact ⟨u, r ++ rest, rfl, h2, ArgsS.join t h3⟩
  | [], _ :: _, _, h => h.elim
  | md :: _, [], _, h => by cases md <;> exact h.elim
  | .no :: _, _ :: _, _, h => h.elim
  | .ow :: _, _ :: _, _, h => h.elim
  | .io :: _, _ :: _, _, h => h.elim
theorem ArgsS.split {pl : Pl} {K : PySem.W.Frag} {O : Addr → Prop} {H : Hp} {n : Nat} : ∀ {ms : List Md} {ds : List D} {ws : List V}, ArgsR pl K O H (ms ++ List.replicate n .sh) ds ws → ∃ w1 rest, ws = w1 ++ rest ∧ ArgsR pl K O H ms (ds.take ms.length) w1 ∧ Reps pl K (hid O H) (ds.drop ms.length) rest
  | [], ds, ws, h => ⟨[], ws, rfl, rfl, ArgsR.toReps h⟩
  | .sh :: ms, d' :: ds, _, h => by
    obtain ⟨u, r, rfl, h2, h3⟩ := h
    obtain ⟨w1, rest, rfl, h4, h5⟩ := ArgsS.split h3
    exact ⟨u :: w1, rest, rfl, ⟨u, w1, rfl, h2, h4⟩, h5⟩
  | .sb :: ms, d' :: ds, _, h => by
    obtain ⟨u, r, rfl, h2, h3⟩ := h
    obtain ⟨w1, rest, rfl, h4, h5⟩ := ArgsS.split h3
    exact ⟨u :: w1, rest, rfl, ⟨u, w1, rfl, h2, h4⟩, h5⟩
  | md :: _, [], _, h => by cases md <;> exact h.elim
  | .no :: _, _ :: _, _, h => h.elim
  | .ow :: _, _ :: _, _, h => h.elim
  | .io :: _, _ :: _, _, h => h.elim
end DL
namespace DL
open PySem PySem.Spec PyProof.Rows L2
end DL
set_option Elab.async false
set_option linter.all false
set_option maxRecDepth 100000
set_option maxHeartbeats 2000000
namespace DL
open PySem PySem.Spec PyProof.Rows L2
end DL
set_option Elab.async false
set_option linter.all false
set_option maxRecDepth 100000
set_option maxHeartbeats 2000000
namespace DL
open PySem PySem.Spec PyProof.Rows L2
end DL
set_option Elab.async false
set_option linter.all false
set_option maxRecDepth 100000
set_option maxHeartbeats 2000000
namespace DL
open PySem PySem.Spec PyProof.Rows L2 HT
end DL
set_option Elab.async false
set_option linter.all false
set_option maxRecDepth 100000
set_option maxHeartbeats 2000000
namespace DL
open PySem PySem.Spec PyProof.Rows L2
end DL
set_option Elab.async false
set_option linter.all false
set_option maxRecDepth 100000
set_option maxHeartbeats 2000000
namespace DL
open PySem PySem.Spec PyProof.Rows L2
abbrev TK := List Key
section
variable {pl : Pl} {K : PySem.W.Frag} {H : Hp}
theorem RepT.length : ∀ {ds : List (TK × D)} {vs : List (TK × V)}, RepT pl K H ds vs → vs.length = ds.length
  | [], _, h => by unfold RepT at h; rw [h]; rfl
  | (_, _) :: _, _, h => by
    unfold RepT at h
    obtain ⟨v, r, rfl, _, h3⟩ := h
    rw [List.length_cons, List.length_cons, RepT.length h3]
theorem RepT.keys : ∀ {ds : List (TK × D)} {vs : List (TK × V)}, RepT pl K H ds vs → vs.map (·.1) = ds.map (·.1)
  | [], _, h => by unfold RepT at h; rw [h]; rfl
  | (_, _) :: _, _, h => by
    unfold RepT at h
    obtain ⟨v, r, rfl, _, h3⟩ := h
    rw [List.map_cons, List.map_cons, RepT.keys h3]
theorem RepT.val : ∀ {ds : List (TK × D)} {vs : List (TK × V)} (k : TK), RepT pl K H ds vs →
    (findD ds k = none ∧ valV vs k = none) ∨ ∃ d v, findD ds k = some d ∧ valV vs k = some v ∧ Rep pl K H d v
  | [], _, k, h => by unfold RepT at h; rw [h]; exact .inl ⟨rfl, rfl⟩
  | (k', d) :: ds, _, k, h => by
    unfold RepT at h
    obtain ⟨v, r, rfl, h2, h3⟩ := h
    by_cases e : k' = k
    · subst e
      exact .inr ⟨d, v, by unfold findD; rw [List.find?_cons_of_pos (by simp)]; rfl, valV_pos rfl, h2⟩
    · have e1 : findD ((k', d) :: ds) k = findD ds k := by unfold findD; rw [List.find?_cons_of_neg (by simpa using e)]
      rw [e1, valV_neg e]
      exact RepT.val k h3
theorem RepT.get : ∀ {kvs : List (TK × D)} {vs : List (TK × V)} {i : Nat} {k : TK} {v : V}, RepT pl K H kvs vs → vs[i]? = some (k, v) → ∃ d, kvs[i]? = some (k, d) ∧ Rep pl K H d v
  | [], _, i, k, v, h, e => by unfold RepT at h; rw [h] at e; simp at e
  | (k', d) :: r, _, 0, k, v, h, e => by
    unfold RepT at h
    obtain ⟨v', t, rfl, h2, h3⟩ := h
    simp at e
    obtain ⟨rfl, rfl⟩ := e
    exact ⟨d, rfl, h2⟩
  | (k', d) :: r, _, i + 1, k, v, h, e => by
    unfold RepT at h
    obtain ⟨v', t, rfl, h2, h3⟩ := h
    obtain ⟨d', h4, h5⟩ := RepT.get (i := i) h3 (by simpa using e)
    exact ⟨d', by simpa using h4, h5⟩
def putT (kvs : List (TK × D)) (k : TK) (d : D) : List (TK × D) := if (kvs.any fun kv => decide (kv.1 = k)) = true then kvs.map (fun kv => if kv.1 = k then (kv.1, d) else kv) else kvs ++ [(k, d)]
theorem RepT.put {kvs : List (TK × D)} {vs : List (TK × V)} (h : RepT pl K H kvs vs) (k : TK) {d : D} {v : V} (hd : Rep pl K H d v) : RepT pl K H (putT kvs k d) (putK vs k v) := by
  have hany : (kvs.any fun kv => decide (kv.1 = k)) = (vs.any fun kv => decide (kv.1 = k)) := by
    have h1 : (kvs.map (·.1)).any (fun j => decide (j = k)) = (vs.map (·.1)).any fun j => decide (j = k) := by rw [h.keys]
    rw [List.any_map, List.any_map] at h1
    exact h1
  unfold putT putK
  rw [hany]
  split
  · rename_i hh; clear hany hh
    induction kvs generalizing vs with
    | nil => unfold RepT at h; rw [h]; unfold RepT; rfl
    | cons a r ih =>
      obtain ⟨k', d'⟩ := a
      unfold RepT at h
      obtain ⟨v', r', rfl, h2, h3⟩ := h
      rw [List.map_cons, List.map_cons]
      by_cases e : k' = k
      · rw [if_pos e, if_pos e]
        unfold RepT
        exact ⟨v, _, rfl, hd, ih h3⟩
      · rw [if_neg e, if_neg e]
        unfold RepT
        exact ⟨v', _, rfl, h2, ih h3⟩
  · rename_i hh; clear hany hh
    induction kvs generalizing vs with
    | nil =>
      unfold RepT at h; rw [h]
      show RepT pl K H [(k, d)] [(k, v)]
      unfold RepT
      exact ⟨v, [], rfl, hd, by unfold RepT; rfl⟩
    | cons a r ih =>
      obtain ⟨k', d'⟩ := a
      unfold RepT at h
      obtain ⟨v', r', rfl, h2, h3⟩ := h
      rw [List.cons_append, List.cons_append]
      unfold RepT
      exact ⟨v', _, rfl, h2, ih h3⟩
end
end DL
set_option Elab.async false
set_option linter.all false
set_option maxRecDepth 100000
set_option maxHeartbeats 2000000
namespace DL
open PySem PySem.Spec PyProof.Rows L2
end DL
set_option Elab.async false
set_option linter.all false
set_option maxRecDepth 100000
set_option maxHeartbeats 2000000
namespace DL
open PySem PySem.Spec PyProof.Rows L2
end DL
set_option Elab.async false
set_option linter.all false
set_option maxRecDepth 100000
set_option maxHeartbeats 2000000
namespace DL
open PySem PySem.Spec PyProof.Rows L2
end DL
set_option Elab.async false
set_option linter.all false
set_option maxRecDepth 100000
set_option maxHeartbeats 2000000
namespace DL
open PySem PySem.Spec PyProof.Rows L2
/-- a def's promise where no repr is under way -/
structure FnG (P : Program) (w : World) (K : PySem.W.Frag) (mg : Str → Option Value) (base : Heap) (CX : CXT) (k : Nat) (f : Addr) (fd : FuncData) (nms : List Str) (sp : Sp) : Prop where
  len : ∀ vs H Q E, sp vs H Q E → vs.length = nms.length
  run : ∀ (A : Around) (outer : List Env) (s : Shared) (H : Hp) (args : Args) (us : List Value) (vs : List V) (Q : VK) (E : XK), Room k A → A.guards = some [] → Env0 P w K mg base A outer s H → BindsTo s fd args (nms.zip us) → Vals vs us → sp vs H Q E →
    codeAny (model P w) A (.call (.ref f) args) (CR CX outer P w H s Q E) s
theorem FnOk.g {P : Program} {w : World} {K : PySem.W.Frag} {mg : Str → Option Value} {base : Heap} {CX : CXT} {k : Nat} {f : Addr} {fd : FuncData} {nms : List Str} {sp : Sp} (F : FnOk P w K mg base CX k f fd nms sp) : FnG P w K mg base CX k f fd nms sp :=
  ⟨F.len, fun A outer s H args us vs Q E hr _ => F.run A outer s H args us vs Q E hr⟩
end DL
set_option Elab.async false
set_option linter.all false
set_option maxRecDepth 100000
set_option maxHeartbeats 2000000
namespace DL
open PySem PySem.Spec PyProof.Rows L2
end DL
set_option Elab.async false
set_option linter.all false
set_option maxRecDepth 100000
set_option maxHeartbeats 2000000
namespace DL
open PySem PySem.Spec PyProof.Rows L2
/-- nothing but the script is tracked -/
structure ScriptAt (P : Program) (w : World) (K : PySem.W.Frag) (s : Shared) (a : Addr) (ns : List Int) (H : Hp) : Prop where
  only : Only H
  seq : SqL K H a (ns.map V.int)
  ok : HOk P w H s.heap
  one : ∀ b, H b ≠ none → b = a
  new : H a ≠ none → K.lookup a = none
theorem ScriptAt.make {P : Program} {w : World} {K : PySem.W.Frag} {s : Shared} {a : Addr} {vs : List Value} {ns : List Int} (KX : K.In s.heap) (ha : s.heap.get? a = some { cls := .type "list", data := .seq vs.toArray }) (hi : IntsAre vs ns) (hl : ns.length ≤ sizeLine) : ∃ H, ScriptAt P w K s a ns H := by
  have rv := vals_ints hi
  cases q : K.lookup a with
  | some o =>
    have e := (KX a o q).symm.trans ha
    obtain rfl := Option.some.inj e
    exact ⟨fun _ => none, fun _ => .inl rfl, .inr ⟨_, vs.toArray, _, q, rfl, rfl, rfl, by rw [List.size_toArray, hi.length]; exact hl, by simpa using rv⟩, fun b u z => (nomatch z), fun b z => (z rfl).elim, fun z => (z rfl).elim⟩
  | none =>
    have at_ : ∀ {b : Addr} {u : HO}, (if b = a then some (HO.frz { cls := .type "list", data := .seq vs.toArray } (.lst (ns.map V.int))) else none) = some u → b = a ∧ u = .frz { cls := .type "list", data := .seq vs.toArray } (.lst (ns.map V.int)) := fun {b u} z => by
      by_cases e : b = a
      · rw [if_pos e] at z; exact ⟨e, (Option.some.inj z).symm⟩
      · rw [if_neg e] at z; cases z
    refine ⟨fun b => if b = a then some (.frz { cls := .type "list", data := .seq vs.toArray } (.lst (ns.map V.int))) else none, fun b => ?_, .inl (.inr ⟨_, if_pos rfl⟩), fun b u z => ?_, fun b z => ?_, fun _ => q⟩
    · exact if h : b = a then .inr ⟨_, _, if_pos h⟩ else .inl (if_neg h)
    · obtain ⟨rfl, rfl⟩ := at_ z
      exact ⟨ha, by rw [List.length_map]; exact hl, vs, _, rv, ha⟩
    · exact Classical.byContradiction fun h => z (if_neg h)
end DL
set_option Elab.async false
set_option linter.all false
set_option maxRecDepth 100000
set_option maxHeartbeats 2000000
namespace DL
open PySem PySem.Spec PyProof.Rows L2
open L2H (RoomH)
/-- a def's promise wherever it is called from -/
structure FnA (P : Program) (w : World) (K : PySem.W.Frag) (mg : Str → Option Value) (base : Heap) (CX : CXT) (k : Nat) (f : Addr) (fd : FuncData) (nms : List Str) (sp : Sp) : Prop where
  len : ∀ vs H Q E, sp vs H Q E → vs.length = nms.length
  run : ∀ (A : Around) (outer : List Env) (s : Shared) (H : Hp) (args : Args) (us : List Value) (vs : List V) (Q : VK) (E : XK), RoomH k A → Env0 P w K mg base A outer s H → BindsTo s fd args (nms.zip us) → Vals vs us → sp vs H Q E →
    codeAny (model P w) A (.call (.ref f) args) (CR CX outer P w H s Q E) s
theorem FnA.ok {P : Program} {w : World} {K : PySem.W.Frag} {mg : Str → Option Value} {base : Heap} {CX : CXT} {k : Nat} {f : Addr} {fd : FuncData} {nms : List Str} {sp : Sp} (F : FnA P w K mg base CX k f fd nms sp) : FnOk P w K mg base CX k f fd nms sp :=
  ⟨F.len, fun A outer s H args us vs Q E hr => F.run A outer s H args us vs Q E (L2H.roomH_of hr)⟩
def _root_.L2H.RoomH.units {k : Nat} {A : Around} (r : RoomH k A) : A.units + 64 < cLine := by have := r.un; omega
end DL
set_option Elab.async false
set_option linter.all false
set_option maxRecDepth 100000
set_option maxHeartbeats 2000000
namespace DL
open PySem PySem.Spec PyProof.Rows L2
end DL
set_option Elab.async false
set_option linter.all false
set_option maxRecDepth 100000
set_option maxHeartbeats 2000000
namespace DL
open PySem PySem.Spec PyProof.Rows L2
theorem am_nil {p : Addr → Prop} : ∀ y ∈ ([] : List Addr), p y := fun y h => by cases h
theorem am_cons {p : Addr → Prop} {a : Addr} {l : List Addr} (h : p a) (r : ∀ y ∈ l, p y) : ∀ y ∈ a :: l, p y := fun y hy => by
  rcases List.mem_cons.mp hy with z | z
  · rw [z]; exact h
  · exact r y z
theorem exm_mk {K : PySem.W.Frag} {y S : Addr} {b : Bool} (h1 : PySem.W.subIn K (.ref S) (.type "BaseException") = some true) (h2 : PySem.W.isClsIn K S = true) (h3 : PySem.W.typeIn K (.ref S) = some (.type "type")) (h4 : PySem.W.subIn K (.ref y) (.ref S) = some b) : PySem.W.exmOne K (.ref y) (.ref S) = some b := by
  unfold PySem.W.exmOne
  rw [if_pos (show (PySem.W.subIn K (.ref S) (.type "BaseException") == some true) = true by rw [h1]; rfl)]
  unfold PySem.W.kitCls
  have h2' : (PySem.W.clsIn K S).isSome = true := h2
  have e2 : ((PySem.W.clsIn K S).isSome && PySem.W.typeIn K (.ref S) == some (.type "type")) = true := by rw [h2', h3]; rfl
  show (if _ = true then _ else _) = _
  rw [if_pos e2]
  exact h4
end DL
set_option Elab.async false
set_option linter.all false
set_option maxRecDepth 100000
set_option maxHeartbeats 2000000
namespace DL
open PySem PySem.Spec PyProof.Rows L2
end DL
set_option Elab.async false
set_option linter.all false
set_option maxRecDepth 100000
set_option maxHeartbeats 2000000
namespace DL
open PySem PySem.Spec PyProof.Rows L2
end DL
set_option Elab.async false
set_option linter.all false
set_option maxRecDepth 100000
set_option maxHeartbeats 2000000
namespace DL
open PySem PySem.Spec PyProof.Rows L2
end DL
set_option Elab.async false
set_option linter.all false
set_option maxRecDepth 100000
set_option maxHeartbeats 2000000
namespace DL
open PySem PySem.Spec PyProof.Rows L2
end DL
set_option Elab.async false
set_option linter.all false
set_option maxRecDepth 100000
set_option maxHeartbeats 2000000
namespace DL
open PySem PySem.Spec PyProof.Rows L2 GenW
end DL
set_option Elab.async false
set_option linter.all false
set_option maxRecDepth 100000
set_option maxHeartbeats 2000000
namespace DL
open PySem PySem.Spec PyProof.Rows L2 GenW
abbrev YF := Rho → List D → R (Fl × List D)
/-- the ghosts may keep more values -/
def GX (g g' : G) : Prop := ∃ e, g' = { g with ex := e ++ g.ex }
theorem GX.refl {g : G} : GX g g := ⟨[], rfl⟩
theorem GX.trans {g1 g2 g3 : G} (a : GX g1 g2) (b : GX g2 g3) : GX g1 g3 := by
  obtain ⟨e, rfl⟩ := a
  obtain ⟨e2, rfl⟩ := b
  exact ⟨e2 ++ e, by simp⟩
def WSy (W : WX) (K : PySem.W.Frag) (g : G) (r : Res (Fl × List D)) : Prop :=
  ∀ x ps' dx H' σ', r = .exc x ps' → Exo (plS g.pl) g.B H' → PoolAt g.pl H' ps' → ExR g.pl K (Eo g) H' dx x → (∀ p ∈ g.sx, ∃ v, σ'[p.1]? = some (some v) ∧ Rep g.pl K (hid (Eo g) H') p.2 v) → W (.ref x.cls) (some dx) σ' H'
section
variable {X : Cx} {W : WX} {J : JP} {m m' m2 mT : List Md} {e tg iter : Expr} {f : FE} {t : FT} {st : Stmt} {sts sts2 : List Stmt} {g1 g2 : YF} {pos yp : Pos} {fs : FA} {F : D → Rho → R Rho}
theorem WSy.ex {α : Type} {K : PySem.W.Frag} {own : Nat → Addr} {g : G} {σ : L2.St} {ρ : Rho} {H : Hp} {x : R α} {h : α → R (Fl × List D)} {ps ps1 : Ps} (w : WSy W K g ((x >>= h) ps)) (r : Rs K g m own σ ρ H ps1) : WOk W g.pl K (Xs m own g) σ H (x ps) :=
  fun e ps' dx H' q e2 p ⟨vs, h1, h2⟩ => w e ps' dx H' σ (bind_exc q) (r.base.trans e2) p ⟨vs, h1, h2.mono (hid_sub Xs.eo)⟩ fun p' hp =>
    let ⟨v, h3, h4⟩ := r.sx p' hp
    ⟨v, h3, (h4.mono (e2.hid Xs.pl)).mono (hid_sub Xs.eo)⟩
end
end DL
set_option Elab.async false
set_option linter.all false
set_option maxRecDepth 100000
set_option maxHeartbeats 2000000
namespace DL
open PySem PySem.Spec PyProof.Rows L2 GenW
end DL
set_option Elab.async false
set_option linter.all false
set_option maxRecDepth 100000
set_option maxHeartbeats 2000000
namespace DL
open PySem PySem.Spec PyProof.Rows L2 GenW
end DL
set_option Elab.async false
set_option linter.all false
set_option maxRecDepth 100000
set_option maxHeartbeats 2000000
namespace DL
open PySem PySem.Spec PyProof.Rows L2
section
variable {X : Cx} {W : WX} {J : JP} {m mT mT1 : List Md} {elt tg iter tg1 iter1 e : Expr} {ifs ifs1 : List Expr} {scope : Scope} {own0 : List (Str × Nat)} {pos spos py : Pos} {F F1 : D → Rho → R Rho} {fc fc1 : FT} {fe f : FE} {fi fi1 : FA} {is is1 : List Nat} {Jc Jc1 : JP} {i : Nat} {y : Str}
def QIs (pl : Pl) (K : PySem.W.Frag) (O : Addr → Prop) (H : Hp) (r : Res (List D)) : It → Hp → Prop := fun J H1 =>
  ∃ its ps1 ks, r = .ok (its.map Item.d) ps1 ∧ Exo (plS pl) H H1 ∧ PoolAt pl H1 ps1 ∧ WalkOk J ks its ∧ (∀ p ∈ ks, H1 p.1 = some p.2 ∧ ¬ O p.1) ∧ ∀ it ∈ its, it.R pl K (hid O H1)
/-- what is walked is none of the hidden objects -/
structure DIs (X : Cx) (W : WX) (m : List Md) (tg iter : Expr) (f : FA) : Prop where
  run : ∀ (g : G) (own : Nat → Addr) (pins : List (Addr × Obj)) (s : Shared) (σ : L2.St) (ρ : Rho) (H : Hp) (ps : Ps), Inv X pins σ H s → Rs X.K g m own σ ρ H ps → f ρ ps ≠ .und → WOk W g.pl X.K (Xs m own g) σ H (f ρ ps) →
    wpAny (model X.prog X.w) X.A (eval iter X.env) (fun v s1 => wpAny (model X.prog X.w) X.A (pyIter v) (PIE X pins σ tg (QIs g.pl X.K (Xs m own g) H (f ρ ps))) X.xe s1) X.xe s
theorem DIs.can {X : Cx} {W : WX} {m : List Md} {tg iter : Expr} {f : FA} (h : DIs X W m tg iter f) {g : G} {own : Nat → Addr} {σ : L2.St} {ρ : Rho} {H : Hp} {ps : Ps} (r : Rs X.K g m own σ ρ H ps) (n : f ρ ps ≠ .und) (w : WOk W g.pl X.K (Xs m own g) σ H (f ρ ps)) :
    cI X tg iter σ H (QIs g.pl X.K (Xs m own g) H (f ρ ps)) := fun pins s I => h.run g own pins s σ ρ H ps I r n w
end
end DL
set_option Elab.async false
set_option linter.all false
set_option maxRecDepth 100000
set_option maxHeartbeats 2000000
namespace DL
open PySem PySem.Spec PyProof.Rows L2 GenW
end DL
set_option Elab.async false
set_option linter.all false
set_option maxRecDepth 100000
set_option maxHeartbeats 2000000
namespace DL
open PySem PySem.Spec PyProof.Rows L2
end DL
set_option Elab.async false
set_option linter.all false
set_option maxRecDepth 100000
set_option maxHeartbeats 2000000
namespace DL
open PySem PySem.Spec PyProof.Rows L2
section
variable {X : Cx} {W : WX} {m ms : List Md} {o e : Expr} {es : List Expr} {fo f : FE} {fs : FA} {pos : Pos}
/-- is a list not empty -/
def D.full : D → R Bool
  | .lst xs => pure (decide (xs ≠ []))
  | _ => R.und
end
end DL
set_option Elab.async false
set_option linter.all false
set_option maxRecDepth 100000
set_option maxHeartbeats 2000000
namespace DL
open PySem PySem.Spec PyProof.Rows L2
section
variable {K : PySem.W.Frag} {g : G} {m m' : List Md} {own : Nat → Addr} {σ : L2.St} {ρ : Rho} {H : Hp} {ps : Ps}
/-- a slot's value is kept in mind -/
def G.sl (g : G) (i : Nat) (v : V) : G := { g with sx := (i, .ob v) :: g.sx }
theorem Rs.slot (r : Rs K g m own σ ρ H ps) {i : Nat} {v : V} (h : σ[i]? = some (some v)) : Rs K (g.sl i v) m own σ ρ H ps :=
  { r with
    sx := fun p hp => by
      rcases List.mem_cons.mp hp with rfl | hp
      · exact ⟨v, h, by show Rep _ _ _ _ _; unfold Rep; rfl⟩
      · exact r.sx p hp }
end
def WSa {α : Type} (W : WX) (K : PySem.W.Frag) (g : G) (r : Res α) : Prop :=
  ∀ x ps' dx H' σ', r = .exc x ps' → Exo (plS g.pl) g.B H' → PoolAt g.pl H' ps' → ExR g.pl K (Eo g) H' dx x → (∀ p ∈ g.sx, ∃ v, σ'[p.1]? = some (some v) ∧ Rep g.pl K (hid (Eo g) H') p.2 v) → W (.ref x.cls) (some dx) σ' H'
theorem WSa.ex {α β : Type} {W : WX} {K : PySem.W.Frag} {m : List Md} {own : Nat → Addr} {g : G} {σ : L2.St} {ρ : Rho} {H : Hp} {x : R α} {h : α → R β} {ps ps1 : Ps} (w : WSa W K g ((x >>= h) ps)) (r : Rs K g m own σ ρ H ps1) : WOk W g.pl K (Xs m own g) σ H (x ps) :=
  fun e ps' dx H' q e2 p ⟨vs, h1, h2⟩ => w e ps' dx H' σ (bind_exc q) (r.base.trans e2) p ⟨vs, h1, h2.mono (hid_sub Xs.eo)⟩ fun p' hp =>
    let ⟨v, h3, h4⟩ := r.sx p' hp
    ⟨v, h3, (h4.mono (e2.hid Xs.pl)).mono (hid_sub Xs.eo)⟩
end DL
set_option Elab.async false
set_option linter.all false
set_option maxRecDepth 100000
set_option maxHeartbeats 2000000
namespace DL
open PySem PySem.Spec PyProof.Rows L2
end DL
set_option Elab.async false
set_option linter.all false
set_option maxRecDepth 100000
set_option maxHeartbeats 2000000
namespace DL
open PySem PySem.Spec PyProof.Rows L2
end DL
set_option Elab.async false
set_option linter.all false
set_option maxRecDepth 100000
set_option maxHeartbeats 2000000
namespace DL
open PySem PySem.Spec PyProof.Rows L2
end DL
set_option Elab.async false
set_option linter.all false
set_option maxRecDepth 100000
set_option maxHeartbeats 2000000
namespace DL
open PySem PySem.Spec PyProof.Rows L2
end DL
set_option Elab.async false
set_option linter.all false
set_option maxRecDepth 100000
set_option maxHeartbeats 4000000
namespace DL
open PySem PySem.Spec PyProof.Rows L2
end DL
set_option Elab.async false
set_option linter.all false
set_option maxRecDepth 100000
set_option maxHeartbeats 4000000
namespace DL
open PySem PySem.Spec PyProof.Rows L2
end DL
set_option Elab.async false
set_option linter.all false
set_option maxRecDepth 100000
set_option maxHeartbeats 4000000
namespace DL
open PySem PySem.Spec PyProof.Rows L2 GenW
end DL
set_option Elab.async false
set_option linter.all false
set_option maxRecDepth 100000
set_option maxHeartbeats 4000000
namespace DL
open PySem PySem.Spec PyProof.Rows L2 GenW
end DL
set_option Elab.async false
set_option linter.all false
set_option maxRecDepth 100000
set_option maxHeartbeats 4000000
namespace DL
open PySem PySem.Spec PyProof.Rows L2 GenW
end DL
set_option Elab.async false
set_option linter.all false
set_option maxRecDepth 100000
set_option maxHeartbeats 4000000
namespace DL
open PySem PySem.Spec PyProof.Rows L2 GenW
end DL
set_option Elab.async false
set_option linter.all false
set_option maxRecDepth 100000
set_option maxHeartbeats 4000000
namespace PySem.SeqAt
open PySem PySem.Spec PyProof.Rows
open MeetsSeq MeetsSeq2 MeetsSeq3 SeqRoads2
end PySem.SeqAt
set_option Elab.async false
set_option linter.all false
set_option maxRecDepth 100000
set_option maxHeartbeats 4000000
namespace DL
open PySem PySem.Spec PyProof.Rows L2
end DL
set_option Elab.async false
set_option linter.all false
set_option maxRecDepth 100000
set_option maxHeartbeats 4000000
namespace DL
open PySem PySem.Spec PyProof.Rows L2 L2H
end DL
set_option Elab.async false
set_option linter.all false
set_option maxRecDepth 100000
set_option maxHeartbeats 4000000
namespace PySem.W
open PySem PySem.Spec PyProof.Rows
open PySem.SeqAt (EqIn EqAt)
end PySem.W
set_option Elab.async false
set_option linter.all false
set_option maxRecDepth 100000
set_option maxHeartbeats 4000000
namespace DL
open PySem PySem.Spec PyProof.Rows L2
end DL
set_option Elab.async false
set_option linter.all false
set_option maxRecDepth 100000
set_option maxHeartbeats 4000000
namespace DL
open PySem PySem.Spec PyProof.Rows L2
end DL
set_option Elab.async false
set_option linter.all false
set_option maxRecDepth 100000
set_option maxHeartbeats 4000000
namespace DL
open PySem PySem.Spec PyProof.Rows L2
section
variable {X : Cx} {W : WX} {J : JP} {m : List Md} {e : Expr} {es : List Expr} {f : FE} {fs : FA} {ms : List Md} {pos p1' : Pos}
def D.abs : D → R D
  | .int i => pure (.int (if i < 0 then -i else i))
  | _ => R.und
end
end DL
set_option Elab.async false
set_option linter.all false
set_option maxRecDepth 100000
set_option maxHeartbeats 4000000
namespace DL
open PySem PySem.Spec PyProof.Rows L2
end DL
set_option Elab.async false
set_option linter.all false
set_option maxRecDepth 100000
set_option maxHeartbeats 2000000
namespace DL
open PySem PySem.Spec PyProof.Rows L2
structure FnE where
  ad : PySem.W.Frag → Addr
  name : Str
  qual : Str
  st : Stmt
def FnE.val (d : FnE) : He.FnV := some (d.name, d.qual, defArgs d.st, .stmts (defBody d.st), defScope d.st, mainGlobals, [], .none, builtinsNs)
def FnE.obs (K : PySem.W.Frag) (d : FnE) : He.FnV := match K.lookup (d.ad K) with
  | some ⟨_, _, .func fd, _⟩ => some (fd.name, fd.qualname, fd.params, fd.body, fd.scope, fd.globals, fd.closure, fd.defaults, fd.builtins)
  | _ => none
def FnE.ok (K : PySem.W.Frag) (d : FnE) : Bool := PySem.W.keepIn K (.ref (d.ad K)) && (match K.lookup (d.ad K) with
  | some ⟨_, _, .func fd, _⟩ => PySem.W.codeIn K fd.code d.qual
  | _ => false)
theorem FnE.fun_ {K : PySem.W.Frag} {d : FnE} (e : d.obs K = d.val) (c : d.ok K = true) : ∃ fd, Fun K d.name d.qual d.st (d.ad K) fd := by
  obtain ⟨kp, c2⟩ := Bool.and_eq_true_iff.mp c
  unfold FnE.obs at e
  cases q : K.lookup (d.ad K) with
  | none =>
    rw [q] at c2
    cases c2
  | some o =>
    obtain ⟨oc, od, dt, osl⟩ := o
    rw [q] at c2 e
    cases dt with
    | func fd =>
      obtain ⟨n1, n2, n3, n4, n5, n6, n7, n8, n9, n10, n11, n12, n13, n14, n15⟩ := fd
      have e2 : (some (n1, n2, n3, n4, n5, n6, n7, n8, n15) : He.FnV) = some (d.name, d.qual, defArgs d.st, .stmts (defBody d.st), defScope d.st, mainGlobals, [], .none, builtinsNs) := e
      simp only [Option.some.injEq, Prod.mk.injEq] at e2
      obtain ⟨h1, h2, h3, h4, h5, h6, h7, h8, h9⟩ := e2
      subst h1 h2 h3 h4 h5 h6 h7 h8 h9
      exact ⟨_, ⟨⟨oc, od, n9, n10, n11, n12, n13, n14, osl, rfl, q, c2⟩, kp⟩⟩
    | _ => cases c2
/-- what is looked at: facts, and the defs as they stand -/
structure HX where
  cs : List (List (PySem.W.Frag → Bool))
  fns : List FnE
def obsX (h : HX) (K : PySem.W.Frag) : Bool × List He.FnV := ((h.cs.all fun l => l.all fun f => f K) && h.fns.all fun d => d.ok K, h.fns.map fun d => d.obs K)
def valX (h : HX) : Bool × List He.FnV := (true, h.fns.map FnE.val)
def SaysX (h : HX) (K : PySem.W.Frag) : Prop := obsX h K = valX h
/-- all addresses below n, the newest first -/
def dn : Nat → List Addr
  | 0 => []
  | n + 1 => n :: dn n
section
variable {h : HX} {K : PySem.W.Frag}
theorem SaysX.at_ (c : SaysX h K) (j i : Nat) {l : List (PySem.W.Frag → Bool)} {f : PySem.W.Frag → Bool} (hl : h.cs[j]? = some l) (hf : l[i]? = some f) : f K = true := by
  have c1 := (Bool.and_eq_true_iff.mp (show ((h.cs.all fun l => l.all fun f => f K) && h.fns.all fun d => d.ok K) = true from congrArg (fun z : Bool × List He.FnV => z.1) c)).1
  exact List.all_eq_true.mp (List.all_eq_true.mp c1 l (List.mem_of_getElem? hl)) f (List.mem_of_getElem? hf)
theorem SaysX.def_ (c : SaysX h K) (i : Nat) {d : FnE} (hd : h.fns[i]? = some d) : ∃ fd, Fun K d.name d.qual d.st (d.ad K) fd := by
  have c2 := (Bool.and_eq_true_iff.mp (show ((h.cs.all fun l => l.all fun f => f K) && h.fns.all fun d => d.ok K) = true from congrArg (fun z : Bool × List He.FnV => z.1) c)).2
  have e : h.fns.map (fun d => d.obs K) = h.fns.map FnE.val := congrArg (fun z : Bool × List He.FnV => z.2) c
  have e2 : (h.fns.map fun d => d.obs K)[i]? = (h.fns.map FnE.val)[i]? := by rw [e]
  rw [List.getElem?_map, List.getElem?_map, hd] at e2
  exact FnE.fun_ (Option.some.inj e2) (List.all_eq_true.mp c2 d (List.mem_of_getElem? hd))
end
/-- an error's class -/
def excB (K : PySem.W.Frag) (C : Addr) : Bool := match K.lookup C with
  | some ⟨.type t, _, .cls cd, sl⟩ => decide (t = "type") && ((match cd.mro with
    | c :: bm => decide (c = .ref C) && PySem.W.excTail exB bm
    | _ => false) && (cd.hasDict && (!cd.hasDel && (match sl.toList with
    | [_, _, _, _, some (.builtin i), _] => decide (i = "Exception.__new__")
    | _ => false))))
  | _ => false
theorem excB_ok {K : PySem.W.Frag} {C : Addr} (h : excB K C = true) : ∃ nm q N bs bm sn sub ab col dd k0 k1 k2 k3 k5, K.lookup C = some (excClassObj nm q C N bs bm true sn sub ab col dd k0 k1 k2 k3 k5 "Exception.__new__") ∧ PySem.W.excTail exB bm = true := by
  unfold excB at h
  cases q : K.lookup C with
  | none => rw [q] at h; cases h
  | some o =>
    obtain ⟨oc, od, dt, sl⟩ := o
    rw [q] at h
    cases oc with
    | type t =>
      cases dt with
      | cls cd =>
        obtain ⟨n1, n2, mro, n4, n5, hd, n7, n8, n9, n10, dl⟩ := cd
        simp only [Bool.and_eq_true, decide_eq_true_eq] at h
        obtain ⟨h1, h2, h3, h4, h5⟩ := h
        cases mro with
        | nil => cases h2
        | cons c bm =>
          obtain ⟨h6, h7⟩ := Bool.and_eq_true_iff.mp h2
          have h6 := of_decide_eq_true h6
          subst h1 h6
          obtain ⟨sl⟩ := sl
          match sl, h5 with
          | [k0, k1, k2, k3, some (.builtin i), k5], h5 =>
            have h5 : decide (i = "Exception.__new__") = true := h5
            have h5 := of_decide_eq_true h5
            subst h5
            have h3 : hd = true := h3
            have h4 : dl = false := by simpa using h4
            subst h3 h4
            exact ⟨n1, n5, n4, n2, bm, n7, n8, n9, n10, od, k0, k1, k2, k3, k5, rfl, h7⟩
      | _ => cases h
    | _ => cases dt <;> cases h
end DL
set_option Elab.async false
set_option linter.all false
set_option maxRecDepth 100000
set_option maxHeartbeats 2000000
namespace DL
open PySem PySem.Spec PyProof.Rows L2
end DL
set_option Elab.async false
set_option linter.all false
set_option maxRecDepth 100000
set_option maxHeartbeats 2000000
namespace DL
open PySem PySem.Spec PyProof.Rows L2
end DL
set_option Elab.async false
set_option linter.all false
set_option maxRecDepth 100000
set_option maxHeartbeats 2000000
namespace DL
open PySem PySem.Spec PyProof.Rows L2
section
variable {X : Cx}
theorem KT.len {H : Hp} {kvs : List (TK × V)} {xs : List (TK × Addr × Value)} (r : KT H kvs xs) : kvs.length = xs.length := by
  unfold KT at r
  induction r with
  | nil => rfl
  | cons _ _ ih => rw [List.length_cons, List.length_cons, ih]
end
end DL
set_option Elab.async false
set_option linter.all false
set_option maxRecDepth 100000
set_option maxHeartbeats 2000000
namespace DL
open PySem PySem.Spec PyProof.Rows L2
end DL
set_option Elab.async false
set_option linter.all false
set_option maxRecDepth 100000
set_option maxHeartbeats 4000000
namespace DL
open PySem PySem.Spec PyProof.Rows L2
end DL
set_option Elab.async false
set_option linter.all false
set_option maxRecDepth 100000
set_option maxHeartbeats 2000000
namespace DL
open PySem PySem.Spec PyProof.Rows L2
end DL
set_option Elab.async false
set_option linter.all false
set_option maxRecDepth 100000
set_option maxHeartbeats 2000000
namespace DL
open PySem PySem.Spec PyProof.Rows L2
abbrev TI := Int × List Int
end DL
set_option Elab.async false
set_option linter.all false
set_option maxRecDepth 100000
set_option maxHeartbeats 2000000
namespace DL
open PySem PySem.Spec PyProof.Rows L2
end DL
set_option Elab.async false
set_option linter.all false
set_option maxRecDepth 100000
set_option maxHeartbeats 4000000
namespace PySem
namespace HandSPX
open Builtin Builtin.ObjectAttr
section
variable {M : Model} {A : Around} {E : Value → Shared → Prop} {h : Heap} {g : Array GenState} {d : Drawn} {t : Nat} {os : OsState}
variable {nm q : Str} {C N : Addr} {bs bm bmB : List Value} {hdct : Bool} {sn : List Str} {sub : List Value} {ab : Bool} {col : Option Bool} {dd : Option Addr} {k0 k1 k2 k3 k5 : Option Value} {B newId initId : String}
theorem xkw_check (F : ExcBaseFacts B newId initId bmB) (hT : ∀ X : String, bm.contains (.type X) = bmB.contains (.type X)) {kw : List (Str × Value)} {Q : Unit → Shared → Prop}
    (hC : h.get? C = some (excClassObj nm q C N bs bm hdct sn sub ab col dd k0 k1 k2 k3 k5 newId)) (hq : Q () ⟨h, g, d, t, os⟩) : wpAny M A (checkBuiltinCall newId ⟨[.ref C], kw⟩) Q E ⟨h, g, d, t, os⟩ := by
  have hcont : (Value.ref C :: bm).contains (.type B) = true := by rw [List.contains_cons, hT, F.hasB, Bool.or_true]
  have hstar := F.noStar
  simp only [checkBuiltinCall, F.newKind, F.newSplit, F.newRow]
  repeat (first | refine wpAny_loadPart_at hC ?_ | (refine wpAny_isSubtype_exc hC ?_; rw [hcont]) | refine wpAny_staticBase_exc hC ?_ | refine wpAny_madeBy_exc hC ?_ | simp only [bne_self_eq_false, Bool.false_eq_true, if_false] | wp_step)
  exact hq
end
section
variable {prog : Program} {w : World} {A : Around} {E : Value → Shared → Prop} {R : Result → Shared → Prop} {h : Heap} {g : Array GenState} {d : Drawn} {t : Nat} {os : OsState}
variable {nm q : Str} {C N : Addr} {bs bm bmB : List Value} {hdct : Bool} {sn : List Str} {sub : List Value} {ab : Bool} {col : Option Bool} {dd : Option Addr} {k0 k1 k2 k3 k5 : Option Value} {B newId initId : String}
theorem xkw_new (F : ExcBaseFacts B newId initId bmB) (hT : ∀ X : String, bm.contains (.type X) = bmB.contains (.type X)) {kw : List (Str × Value)}
    (hC : h.get? C = some (excClassObj nm q C N bs bm hdct sn sub ab col dd k0 k1 k2 k3 k5 newId))
    (hq : R (.ok (.ret (.ref (h.objs.size + 1)))) ⟨(h.push { cls := .type "tuple", data := .seq ([] : List Value).toArray }).push
      { cls := .ref C, data := .fields #[.ref h.objs.size, .none, .none, .none, .bool false, .none] }, g, d, t, os⟩) :
    codeAny (model prog w) A (.builtin newId ⟨[.ref C], kw⟩) R ⟨h, g, d, t, os⟩ := by
  have hends := F.ends
  have hrest : ([] : List Value).length ≤ sizeLine := Nat.zero_le _
  have hcB : (Value.ref C :: bm).contains (.type B) = true := by rw [List.contains_cons, hT, F.hasB, Bool.or_true]
  have hcA : (Value.ref C :: bm).contains (.type "AttributeError") = false := by rw [List.contains_cons, hT, F.noAttr]; rfl
  have hcN : (Value.ref C :: bm).contains (.type "NameError") = false := by rw [List.contains_cons, hT, F.noName]; rfl
  refine codeAny_builtinAt F.entry ?_
  unfold Builtin.«BaseException.__new__»
  refine wpAt_bind ?_
  show wpAt _ _ _ (stack >>= _) _ _ _
  refine wpAt_bind (wpAt_stack fun p below => wpAt_of_wpAny ?_)
  wp_walk
  refine wpAt_of_wpAny ?_
  rw [F.owner]
  repeat (first | with_reducible refine wpAny_madeHere_exc F.canon hC ?_ | with_reducible refine wpAny_loadPart_at hC ?_ | (with_reducible refine wpAny_isSubtype_exc hC ?_; first | rw [hcB] | rw [hcA] | rw [hcN]) | wp_step)
  show R _ _
  rw [Heap.size_push]
  exact hq
theorem xkw_type (F : ExcBaseFacts B newId initId bmB) (hT : ∀ X : String, bm.contains (.type X) = bmB.contains (.type X)) {kw : List (Str × Value)} {fI : Addr} {Q : Fin → Shared → Prop}
    (hC : h.get? C = some (excClassObj nm q C N bs bm hdct sn sub ab col dd k0 k1 k2 k3 k5 newId))
    (hi : W.Looks (model prog w) h (typeLookup (.ref C) "__init__") (some (.ref fI))) (hb : ∀ self, W.Looks (model prog w) h (bindSpecial (.ref fI) self) (.ref fI, [self]))
    (hq : codeAny (model prog w) A (.call (.ref fI) ⟨[.ref (h.objs.size + 1)], kw⟩)
      (fun r s' => match r with | .ok (.ret v) => v = .none ∧ Q (.done (.ret (.ref (h.objs.size + 1)))) s' | .ok _ => False | .error e => E e s')
      ⟨(h.push (W.kdv_tup [])).push (excO C h.objs.size), g, d, t, os⟩) :
    wpAny (model prog w) A (Builtin.«type.__call__» ⟨[.ref C], kw⟩) Q E ⟨h, g, d, t, os⟩ := by
  repeat (first | with_reducible refine wpAny_loadPart_at hC ?_ | with_reducible refine wpAny_madeBy_exc hC ?_ | wp_step)
  refine codeAny_call_builtin_code (Code.quiet_builtin _ F.quiet) (xkw_check F hT hC ?_)
  refine xkw_new F hT hC ?_
  show wpAny _ _ _ _ _ _
  have k : ∀ b o, h.get? b = some o → ((h.push (W.kdv_tup [])).push (excO C h.objs.size)).get? b = some o := fun b o e => Heap.get?_push_of_some _ (Heap.get?_push_of_some _ e)
  have hC₁ := k _ _ hC
  have hget : ((h.push (W.kdv_tup [])).push (excO C h.objs.size)).get? (h.objs.size + 1) = some (excO C h.objs.size) := by heap_get
  have hcC : (Value.ref C :: bm).contains (.ref C) = true := by simp
  have i1 := hi.keeps k
  have b1 := (hb (.ref (h.objs.size + 1))).keeps k
  unfold isInstance
  repeat (first | with_reducible refine wpAny_loadPart_at hget ?_ | (with_reducible refine wpAny_isSubtype_exc hC₁ ?_; rw [hcC]) | wp_step)
  show wpAny _ _ (typeLookup (.ref C) _) _ _ _
  refine i1.at ?_
  refine wpAny_holding (wpAny_bind (b1.at ?_))
  refine wpAny_bind (wpAny_call (codeAny_mono hq fun r s' z => ?_))
  rcases r with e | (v | _ | _ | _) <;> first | exact z | exact z.elim | skip
  obtain ⟨rfl, z⟩ := z
  first
    | exact wpAny_pure (wpAny_pure z)
    | (wp_walk; exact z)
theorem xkw_call (F : ExcBaseFacts B newId initId bmB) (hT : ∀ X : String, bm.contains (.type X) = bmB.contains (.type X)) {kw : List (Str × Value)} {fI : Addr}
    (hC : h.get? C = some (excClassObj nm q C N bs bm hdct sn sub ab col dd k0 k1 k2 k3 k5 newId))
    (hi : W.Looks (model prog w) h (typeLookup (.ref C) "__init__") (some (.ref fI))) (hb : ∀ self, W.Looks (model prog w) h (bindSpecial (.ref fI) self) (.ref fI, [self]))
    (hq : codeAny (model prog w) (A.under (.builtin "type.__call__" ⟨[.ref C], kw⟩)) (.call (.ref fI) ⟨[.ref (h.objs.size + 1)], kw⟩) (W.InitBack (h.objs.size + 1) R)
      ⟨(h.push (W.kdv_tup [])).push (excO C h.objs.size), g, d, t, os⟩) :
    codeAny (model prog w) A (.call (.ref C) ⟨[], kw⟩) R ⟨h, g, d, t, os⟩ := by
  have f1 := tc_lookup
  have f2 := tc_bind (.ref C)
  have hTy : (⟨h, g, d, t, os⟩ : Shared).TypeIs (.ref C) "type" := ⟨_, hC, rfl⟩
  refine codeAny_of_tree ?_
  show wpAny _ _ (callAny (.ref C) _) _ _ _
  repeat (any_goals (first | assumption | with_reducible refine wpAny_loadPart_at hC ?_ | wp_step))
  refine ⟨rfl, ?_⟩
  refine codeAny_call_builtin_at (Code.quiet_builtin _ (by decide +kernel)) entry_typeCall (wpAny_check_type_call_sub hC (xkw_type F hT hC hi hb ?_))
  refine codeAny_mono hq fun r s' z => ?_
  rcases r with e | (v | _ | _ | _) <;> exact z
end
end HandSPX
end PySem
set_option Elab.async false
set_option linter.all false
set_option maxRecDepth 100000
set_option maxHeartbeats 4000000
namespace DL
open PySem PySem.Spec PyProof.Rows L2
/-- .. its __init__ asked by name -/
structure XcK (fd : FuncData) (f : Str) : Prop where
  kw : ∀ a b : Value, bindArgs fd ⟨[a], [(f, b)]⟩ = pure [(("self" : Str), a), (f, b)]
section
variable {prog : Program} {w : World} {A : Around} {E : Value → Shared → Prop} {R : Result → Shared → Prop} {s : Shared} {K : PySem.W.Frag} {C fI : Addr} {fd : FuncData} {f : Str}
theorem xk_init (T : XcI K C fI fd f) (U : XcK fd f) (hfs : (f == ("self" : Str)) = false) (hfd : (f == ("__debug__" : Str)) = false) {x t0 : Addr} {v : Value} (X : K.In s.heap) (hlim : s.heap.NoLimit) (hx : s.heap.get? x = some (PySem.HandSPX.excO C t0)) (hroom : A.depth < recursionLimit)
    (hq : ∀ h' tk dx, XcEnd s.heap h' x C dx t0 f v → R (.ok (.ret .none)) { s with heap := h', toks := tk }) :
    codeAny (model prog w) A (.call (.ref fI) ⟨[.ref x], [(f, v)]⟩) R s := by
  have hb := U.kw
  obtain ⟨oc, od, osl, qual, pr, sc, kV, doc, pm, an, cdv, ct, q1, q2, q3, q4, rfl, ho, hcd, _, hsc, hco, hgen, hk⟩ := T.fn
  obtain ⟨nm, q, N, bs, bm, sn, sub, ab, col, dd, k0, k1, k2, k3, k5, hC, hbm⟩ := T.cls
  have hcl : PySem.W.clsIn K C = some { name := nm, bases := bs, mro := .ref C :: bm, ns := N, qualname := q, hasDict := true, slotNames := sn, subclasses := sub, abstract := ab, collection := col, hasDel := false } := by unfold PySem.W.clsIn; rw [hC] <;> rfl
  have hne : f ≠ "self" := fun z => by rw [z] at hfs; exact absurd hfs (by decide)
  have lS : sc.names.lookup ("self" : Str) = some NameKind.local := by rw [hsc]; rfl
  have lF : sc.names.lookup f = some NameKind.local := by
    rw [hsc]
    show (match (f == ("self" : Str)) with | true => _ | false => _) = _
    rw [hfs]
    show (match (f == f) with | true => _ | false => _) = _
    rw [beq_self_eq_true]
  refine _root_.Att.call_fn (binds := [(("self" : Str), Value.ref x), (f, v)]) X hlim ho hcd hroom (BindsTo.of_eq (hb _ _)) ?_ (fun s₁ IC => ?_) hco hgen hk
  · show ((_ == _ || _ == _) && ((_ == _ || _ == _) && true)) = true
    rw [lS, lF]; rfl
  obtain ⟨h₁, tk₁, rfl⟩ := IC.toInCall.same
  have k : ∀ b o, s.heap.get? b = some o → h₁.get? b = some o := IC.toInCall.keep
  have hn := IC.toInCall.ns
  have hxL : s.heap.objs.size ≠ x := Nat.ne_of_gt (Heap.lt_size hx)
  have X₁ : K.In h₁ := X.keeps k
  have hx₁ := k _ _ hx
  have kS : (envOfC qual sc s.heap.objs.size fI cdv).kindOf "self" = some .local := lS
  have kF : (envOfC qual sc s.heap.objs.size fI cdv).kindOf f = some .local := lF
  have bF : bindL (envOfC qual sc s.heap.objs.size fI cdv).kindOf [(("self" : Str), Value.ref x), (f, v)] (fun _ => none) f = some v := by
    unfold bindL bindL bindL
    rw [if_pos kS, if_pos kF, if_pos rfl]
  have bS : bindL (envOfC qual sc s.heap.objs.size fI cdv).kindOf [(("self" : Str), Value.ref x), (f, v)] (fun _ => none) "self" = some (.ref x) := by
    unfold bindL bindL bindL
    rw [if_pos kS, if_pos kF, if_neg (fun z => hne z.symm), if_pos rfl]
  show wpAny _ _ (execs _ _) _ _ _
  refine wpAny_execs_cons (plainObj_wpAny_Assign_Attribute ?_)
  refine ld_own (v := v) hn bF hk kF hfd (ld_own (v := .ref x) hn bS hk kS (by decide) ?_)
  refine PySem.W.set_plain X₁ (ox := PySem.HandSPX.excO C t0) (od := none) ⟨hx₁, rfl, rfl, trivial⟩ T.sa ?_
  refine xc_osa X₁ hx₁ hcl (show PySem.W.excTail exB (.ref C :: bm) = true from hbm) rfl T.noN (fun h₃ tk₃ dx k₃ dn dne hx₃ hn₃ => ?_)
  show wpAny _ _ (execs _ _) _ _ _
  have z : s.heap.objs.size < h₁.objs.size := hn.lt
  exact wpAny_execs_nil (hq h₃ tk₃ dx ⟨fun b o hb e => k₃ b o hb (k b o e), hx₃, Nat.le_of_lt (Nat.lt_of_lt_of_le z dn), dne, hn₃⟩)
theorem xk_made (T : XcI K C fI fd f) (U : XcK fd f) (hfs : (f == ("self" : Str)) = false) (hfd : (f == ("__debug__" : Str)) = false) {v : Value} (X : K.In s.heap) (hlim : s.heap.NoLimit) (hroom : A.depth + 1 < recursionLimit)
    (hq : ∀ h' tk e d, XcMade s.heap h' e C d f v → R (.ok (.ret (.ref e))) { s with heap := h', toks := tk }) :
    codeAny (model prog w) A (.call (.ref C) ⟨[], [(f, v)]⟩) R s := by
  obtain ⟨nm, q, N, bs, bm, sn, sub, ab, col, dd, k0, k1, k2, k3, k5, hC, hbm⟩ := T.cls
  obtain ⟨hp, g, dr, tk, os⟩ := s
  have k : ∀ b o, hp.get? b = some o → ((hp.push (PySem.W.kdv_tup [])).push (PySem.HandSPX.excO C hp.objs.size)).get? b = some o := fun b o e => Heap.get?_push_of_some _ (Heap.get?_push_of_some _ e)
  have hget : ((hp.push (PySem.W.kdv_tup [])).push (PySem.HandSPX.excO C hp.objs.size)).get? (hp.objs.size + 1) = some (PySem.HandSPX.excO C hp.objs.size) := by heap_get
  refine PySem.HandSPX.xkw_call PySem.F.excBase_Exception (fun Y => PySem.W.excTail_contains Y bm hbm) (X _ _ hC) (PySem.W.looks_findIn X T.init) (fun self => PySem.W.bind_fn X self T.tyI) ?_
  refine xk_init (s := ⟨(hp.push (PySem.W.kdv_tup [])).push (PySem.HandSPX.excO C hp.objs.size), g, dr, tk, os⟩) T U hfs hfd (X.keeps k) (hlim.keeps k) hget ?_ fun h' tk' dx ⟨k', hx, dn, dne, hns⟩ => ?_
  · show A.depth + 1 < recursionLimit
    exact hroom
  · have old : ∀ b o, hp.get? b = some o → h'.get? b = some o := fun b o e => k' b o (Nat.ne_of_lt (Nat.lt_succ_of_lt (Heap.lt_size e))) (k b o e)
    have z : hp.objs.size + 1 + 1 ≤ dx := by
      first
        | (simpa only [Heap.size_push] using dn)
        | exact dn
        | (have q := dn; rw [Heap.size_push, Heap.size_push] at q; exact q)
    exact ⟨rfl, hq h' tk' (hp.objs.size + 1) dx ⟨old, Nat.le_succ _, ⟨_, _, hx, rfl, rfl, rfl, rfl⟩, Nat.le_trans (Nat.le_trans (Nat.le_succ _) (Nat.le_succ _)) z, dne, hns⟩⟩
end
theorem xo_ok {P : Program} {w : World} {H : Hp} {h : Heap} {e C : Addr} {dd : Option Addr} {oe : Obj} {vs : Array Value} (h1 : h.get? e = some oe) (h2 : oe.cls = .ref C) (h3 : oe.dict = dd) (h4 : oe.data = .fields vs) : ObjOk P w H h e (xoH e C dd) :=
  ⟨⟨oe, vs, h1, h2, h3, h4⟩, ⟨oe, h1⟩, fun _ _ ⟨o, v, q, r⟩ k => ⟨o, v, k o q, r⟩⟩
section
variable {X : Cx} {C fI : Addr} {fd : FuncData} {fld nm : Str}
/-- what is made is held -/
theorem xmk_inv {pins : List (Addr × Obj)} {σ : L2.St} {H1 : Hp} {s1 : Shared} {h' : Heap} {e d : Addr} {v : V} {v' : Value} {tk' : Nat} (I1 : Inv X pins σ H1 s1) (M : XcMade s1.heap h' e C d fld v') (rv : RelV v v') :
    H1 d = none ∧ H1 e = none ∧ e ≠ d ∧ Inv X pins σ (upd (upd H1 d (.xd [(fld, v)])) e (xoH e C (some d))) { s1 with heap := h', toks := tk' } := by
  obtain ⟨oe, fv, hoe, hc, hd, hdat, h1⟩ := M.obj
  have hns := M.ns
  obtain ⟨G', g1, g2⟩ := restrict h' fun b => decide (b ≠ e)
  have gk : ∀ b, b ≠ e → G'.get? b = h'.get? b := fun b hb => g1 b (decide_eq_true hb)
  have ge : G'.get? e = none := g2 e (by simp)
  have old : ∀ b o, s1.heap.get? b = some o → G'.get? b = some o := fun b o q => (gk b (Nat.ne_of_lt (Nat.lt_of_lt_of_le (Heap.lt_size q) M.new))).trans (M.stay b o q)
  have ob : ObjOk X.prog X.w (upd H1 d (.xd [(fld, v)])) G' d (.xd [(fld, v)]) :=
    ⟨_, hns.at (fun o q => (gk d M.dne).trans q), fun f => relO_one rv fld f⟩
  have J : Inv X pins σ (upd H1 d (.xd [(fld, v)])) { s1 with heap := G', toks := tk' } := I1.laid (t' := tk') old M.far ob
  have hn : H1 e = none := I1.hok.fresh M.new
  have hn2 : (upd H1 d (.xd [(fld, v)])) e = none := by rw [upd_ne (Ne.symm M.dne)]; exact hn
  have z := J.laidN (t' := tk') (h' := h') (a := e) (o := xoH e C (some d)) (fun b u q => by
    have q : G'.get? b = some u := q
    by_cases hb : b = e
    · rw [hb, ge] at q; cases q
    · rw [← gk b hb]; exact q) ge hn2 (xo_ok hoe hc hd hdat)
  exact ⟨I1.hok.fresh M.far, hn, Ne.symm M.dne, z⟩
/-- X(e) or X(f=e) -/
def tXm (C : Addr) (fld : Str) (ta : TA) : TE := fun σ H Q => ta σ H fun vs H1 => ∃ v, vs = [v] ∧ ∀ d e, H1 d = none → H1 e = none → e ≠ d → Q (.ref e) (upd (upd H1 d (.xd [(fld, v)])) e (xoH e C (some d)))
theorem pe_xm {a : Expr} {ta : TA} {p pos : Pos} {k : Nat} (T : XcI X.K C fI fd fld) (hfs : (fld == ("self" : Str)) = false) (hfd : (fld == ("__debug__" : Str)) = false) (hm : X.mg nm = some (.ref C)) (hr : Room k X.A) (ha : PA X [a] ta) (hg : Gl X nm) (hdb : (nm == ("__debug__" : Str)) = false)
    (he : starEach (a :: []) X.env = (false, eval a X.env) :: starEach [] X.env) (hpl : (backTo pos (starEach [] X.env)).any (·.1) = false) : PE X (.Call (.Name nm p) [a] [] pos) (tXm C fld ta) := by
  refine ⟨fun pins s σ H Q I h => ?_⟩
  refine wpAny_Call_Name_kw (ld_glob I hg hm ?_ hdb)
  refine PySem.W.callWith_K (h₀ := X.base) I.ok.mod.kin T.kC (thn (ha.run pos pins s σ H _ I h) fun us s1 hh => ?_) he hpl
  obtain ⟨vs, H1, I1, r1, v, ev, q1⟩ := hh
  subst ev
  refine ⟨I1.kIn, ?_⟩
  cases r1 with
  | cons rv rn =>
    rename_i v' us'
    cases rn
    show wpAny _ _ (call (.ref C) [v']) _ _ _
    have hlim := I1.nolimit
    refine wpAny_call (xc_made T hfs hfd I1.kIn hlim (by have := hr.dp; omega) fun h' tk' e d M => ?_)
    obtain ⟨n1, n2, n3, J⟩ := xmk_inv (tk' := tk') I1 M rv
    exact ⟨.ref e, _, J, rfl, q1 d e n1 n2 n3⟩
theorem pe_xmK {a : Expr} {ta : TA} {p pos kp : Pos} {k : Nat} (T : XcI X.K C fI fd fld) (U : XcK fd fld) (hfs : (fld == ("self" : Str)) = false) (hfd : (fld == ("__debug__" : Str)) = false) (hm : X.mg nm = some (.ref C)) (hr : Room k X.A) (ha : PK X [⟨some fld, a, kp⟩] ta) (hg : Gl X nm) (hdb : (nm == ("__debug__" : Str)) = false) :
    PE X (.Call (.Name nm p) [] [⟨some fld, a, kp⟩] pos) (tXm C fld ta) := by
  refine ⟨fun pins s σ H Q I h => ?_⟩
  refine wpAny_Call_Name_kw (ld_glob I hg hm ?_ hdb)
  refine PySem.W.callWith_KW0 (h₀ := X.base) I.ok.mod.kin T.kC rfl (thn (ha.run pos pins s σ H _ I h) fun us s1 hh => ?_) rfl
  obtain ⟨vs, H1, I1, r1, v, ev, q1⟩ := hh
  subst ev
  refine ⟨I1.kIn, ?_⟩
  cases r1 with
  | cons rv rn =>
    rename_i v' us'
    cases rn
    show wpAny _ _ (call (.ref C) [] [(fld, v')]) _ _ _
    have hlim := I1.nolimit
    refine wpAny_call (xk_made T U hfs hfd I1.kIn hlim (by have := hr.dp; omega) fun h' tk' e d M => ?_)
    obtain ⟨n1, n2, n3, J⟩ := xmk_inv (tk' := tk') I1 M rv
    exact ⟨.ref e, _, J, rfl, q1 d e n1 n2 n3⟩
/-- e.f of an error that is held -/
def tXa (C : Addr) (n : Str) (te : TE) : TE := fun σ H Q => te σ H fun x H1 => ∃ (a d : Addr) (fs : List (Str × V)) (v : V), x = .ref a ∧ H1 a = some (xoH a C (some d)) ∧ H1 d = some (.xd fs) ∧ fs.lookup n = some v ∧ Q v H1
theorem pe_xa {e : Expr} {te : TE} {pos : Pos} {n : Str} (T : XfC X.K C) (hno : PySem.W.findIn X.K (.ref C) n = some none) (he : PE X e te) (hb : attributeBase e n X.env (eval e X.env) = eval e X.env) : PE X (.Attribute e n pos) (tXa C n te) := by
  refine ⟨fun pins s σ H Q I h => ?_⟩
  refine attr_of hb (thn (he.run pins s σ H _ I h) fun u s1 hh => ?_)
  obtain ⟨x, H1, I1, rx, a, d, fs, v, ex, ea, ed, l, q⟩ := hh
  subst ex
  obtain rfl : u = Value.ref a := rx
  have ho : ObjOk X.prog X.w H1 s1.heap a (xoH a C (some d)) := I1.hok a _ ea
  obtain ⟨⟨oe, vs, h1, h2, h3, h4⟩, _, _⟩ := ho
  have hx : ObjOk X.prog X.w H1 s1.heap d (.xd fs) := I1.hok d _ ed
  obtain ⟨mA, hns, hr⟩ := hx
  obtain ⟨od, ho, hl⟩ := lookIn_ns hns
  obtain ⟨u, hu, ru⟩ := RelO.some_of (v := v) (o := mA n) (by rw [← l]; exact hr n)
  have J : PySem.W.InstAt s1.heap a oe C (some od) := ⟨h1, h2, by unfold PySem.W.notCls; rw [h4] <;> rfl, by rw [h3]; exact ho⟩
  exact PySem.HandSPX.exc_get I1.kIn J T.ga T.gg T.exC (PySem.W.findObj_own T.hdC hno rfl (by rw [hl, hu])) (handed_of ru) ⟨v, H1, I1.tok _, ru, q⟩
end
end DL
set_option Elab.async false
set_option linter.all false
set_option maxRecDepth 100000
set_option maxHeartbeats 4000000
namespace DL
open PySem PySem.Spec PyProof.Rows L2
/-- X(e), a value -/
def xmF (j : Nat) (fe : FE) : FE := fun ρ => do let _ ← fe ρ; pure (.lam j)
def xzF (j : Nat) : FE := fun _ => pure (.lam j)
theorem lam_rep {pl : Pl} {K : PySem.W.Frag} {O : Addr → Prop} {H : Hp} {j : Nat} {nm : Str} {C a : Addr} {dd : Option Addr} (hn : exN[j]? = some nm) (hs : PySem.W.nsIn K mainGlobals nm = some (some (.ref C))) (ha : H a = some (xoH a C dd)) (hO : ¬ O a) (hd : ∀ d, dd = some d → ¬ O d ∧ ∃ vs, H d = some (.xd vs)) :
    Rep pl K (hid O H) (.lam j) (.ref a) := by
  unfold Rep
  exact ⟨a, rfl, nm, C, dd, hn, hs, by rw [hid_at hO]; exact ha, fun d h => let ⟨h1, vs, h2⟩ := hd d h; ⟨vs, by rw [hid_at h1]; exact h2⟩⟩
section
variable {X : Cx} {W : WX} {m : List Md} {a : Expr} {f : FE} {C fI : Addr} {fd : FuncData} {fld nm : Str} {p p2 pos kp : Pos} {k j : Nat}
theorem dx_xm (hd : Dx .cl X W m a f) (T : XcI X.K C fI fd fld) (hn : exN[j]? = some nm) (hs : PySem.W.nsIn X.K mainGlobals nm = some (some (.ref C))) (hm : X.mg nm = some (.ref C)) (hr : Room k X.A)
    (hfs : (fld == ("self" : Str)) = false := by decide) (hfd : (fld == ("__debug__" : Str)) = false := by decide) (hg : Gl X nm := by rfl) (hdb : (nm == ("__debug__" : Str)) = false := by decide)
    (he : starEach (a :: []) X.env = (false, eval a X.env) :: starEach [] X.env := by rfl) (hpl : (backTo pos (starEach [] X.env)).any (·.1) = false := by rfl) : Dx .cl X W m (.Call (.Name nm p) [a] [] pos) (xmF j f) := by
  refine ⟨fun g own pins s σ ρ H ps I r n w => ?_⟩
  refine (pe_xm T hfs hfd hm hr (pa_cons (pe_c X a) pa_nil he) hg hdb he hpl).run pins s σ H _ I ?_
  refine cE.mono (hd.c r (ne_of_bind n) (WOk.left w)) fun v H1 ⟨d, ps1, e1, x1, p1, q1⟩ => ?_
  refine ⟨v, rfl, fun dx e h1 h2 h3 => ?_⟩
  have r1 := r.mono x1 p1
  have x2 : Exo (plS g.pl) H1 (upd H1 dx (.xd [(fld, v)])) := Exo.new h1
  have h2' : (upd H1 dx (.xd [(fld, v)])) e = none := by rw [upd_ne h3]; exact h2
  have x3 : Exo (plS g.pl) (upd H1 dx (.xd [(fld, v)])) (upd (upd H1 dx (.xd [(fld, v)])) e (xoH e C (some dx))) := Exo.new h2'
  refine ⟨.lam j, ps1, bind_ok e1, x1.trans (x2.trans x3), (p1.new h1).new h2', ?_⟩
  exact lam_rep (pl := g.pl) hn hs upd_same (fun hx => (r1.xT e hx).n h2) fun d' hd' => by
    cases hd'
    exact ⟨fun hx => (r1.xT dx hx).n h1, _, by rw [upd_ne (Ne.symm h3)]; exact upd_same⟩
/-- X(e).f -/
theorem dx_xa (hd : Dx .cl X W m a f) (T : XcI X.K C fI fd fld) (hm : X.mg nm = some (.ref C)) (hr : Room k X.A)
    (hfs : (fld == ("self" : Str)) = false := by decide) (hfd : (fld == ("__debug__" : Str)) = false := by decide) (hg : Gl X nm := by rfl) (hdb : (nm == ("__debug__" : Str)) = false := by decide)
    (he : starEach (a :: []) X.env = (false, eval a X.env) :: starEach [] X.env := by rfl) (hpl : (backTo pos (starEach [] X.env)).any (·.1) = false := by rfl) : Dx .cl X W m (.Attribute (.Call (.Name nm p) [a] [] pos) fld p2) f := by
  refine ⟨fun g own pins s σ ρ H ps I r n w => ?_⟩
  refine (pe_xa T.toXcC.fld T.noN (pe_xm T hfs hfd hm hr (pa_cons (pe_c X a) pa_nil he) hg hdb he hpl) rfl).run pins s σ H _ I ?_
  refine cE.mono (hd.c r n w) fun v H1 ⟨d, ps1, e1, x1, p1, q1⟩ => ?_
  refine ⟨v, rfl, fun dx e h1 h2 h3 => ?_⟩
  have x2 : Exo (plS g.pl) H1 (upd H1 dx (.xd [(fld, v)])) := Exo.new h1
  have h2' : (upd H1 dx (.xd [(fld, v)])) e = none := by rw [upd_ne h3]; exact h2
  have x3 : Exo (plS g.pl) (upd H1 dx (.xd [(fld, v)])) (upd (upd H1 dx (.xd [(fld, v)])) e (xoH e C (some dx))) := Exo.new h2'
  refine ⟨e, dx, [(fld, v)], v, rfl, upd_same, by rw [upd_ne (Ne.symm h3)]; exact upd_same, by simp [List.lookup], ?_⟩
  exact ⟨d, ps1, e1, x1.trans (x2.trans x3), (p1.new h1).new h2', Rep.mono ((x2.trans x3).hid Xs.pl) q1⟩
/-- X(f=e).f -/
theorem dx_xaK (hd : Dx .cl X W m a f) (T : XcI X.K C fI fd fld) (U : XcK fd fld) (hm : X.mg nm = some (.ref C)) (hr : Room k X.A)
    (hfs : (fld == ("self" : Str)) = false := by decide) (hfd : (fld == ("__debug__" : Str)) = false := by decide) (hg : Gl X nm := by rfl) (hdb : (nm == ("__debug__" : Str)) = false := by decide) :
    Dx .cl X W m (.Attribute (.Call (.Name nm p) [] [⟨some fld, a, kp⟩] pos) fld p2) f := by
  refine ⟨fun g own pins s σ ρ H ps I r n w => ?_⟩
  refine (pe_xa T.toXcC.fld T.noN (pe_xmK T U hfs hfd hm hr (pk_cons (pe_c X a) pk_nil) hg hdb) rfl).run pins s σ H _ I ?_
  refine cE.mono (hd.c r n w) fun v H1 ⟨d, ps1, e1, x1, p1, q1⟩ => ?_
  refine ⟨v, rfl, fun dx e h1 h2 h3 => ?_⟩
  have x2 : Exo (plS g.pl) H1 (upd H1 dx (.xd [(fld, v)])) := Exo.new h1
  have h2' : (upd H1 dx (.xd [(fld, v)])) e = none := by rw [upd_ne h3]; exact h2
  have x3 : Exo (plS g.pl) (upd H1 dx (.xd [(fld, v)])) (upd (upd H1 dx (.xd [(fld, v)])) e (xoH e C (some dx))) := Exo.new h2'
  refine ⟨e, dx, [(fld, v)], v, rfl, upd_same, by rw [upd_ne (Ne.symm h3)]; exact upd_same, by simp [List.lookup], ?_⟩
  exact ⟨d, ps1, e1, x1.trans (x2.trans x3), (p1.new h1).new h2', Rep.mono ((x2.trans x3).hid Xs.pl) q1⟩
/-- an error without a field -/
structure XcZ (K : PySem.W.Frag) (C : Addr) : Prop where
  ex : PySem.W.excIn K C exB "Exception.__new__" = true
  kC : PySem.W.keepIn K (.ref C) = true
theorem pe_x0 (T : XcZ X.K C) (gC : X.mg nm = some (.ref C)) (hg : Gl X nm) (hdb : (nm == ("__debug__" : Str)) = false) :
    PE X (.Call (.Name nm p) [] [] pos) (fun _ H Q => ∀ a, H a = none → Q (.ref a) (upd H a (xoH a C none))) := by
  refine ⟨fun pins s σ H Q I h => ?_⟩
  refine wpAny_Call_Name_kw (ld_glob I hg gC ?_ hdb)
  refine PySem.W.callWith_K0 I.kIn T.kC ?_
  show wpAny _ _ (call (.ref C) []) _ _ _
  obtain ⟨bm, N, nm', qn, bs, hdct, sn, sub, ab, col, dd, k0, k1, k2, k3, k5, mN, hC, hN, hni, T'⟩ := exc_obj I.kIn T.ex
  refine wpAny_call_exc_subT PySem.F.excBase_Exception T' hC hN hni (fun h' a hm => ?_) (by show 0 ≤ sizeLine; exact Nat.zero_le _)
  have hn : H a = none := I.hok.gone hm.new
  obtain ⟨t, ht, _, _⟩ := hm.there
  exact ⟨.ref a, upd H a (xoH a C none), I.laidN hm.keeps hm.new hn (xo_ok ht rfl rfl rfl), rfl, h a hn⟩
theorem dx_x0 (T : XcZ X.K C) (hn : exN[j]? = some nm) (hs : PySem.W.nsIn X.K mainGlobals nm = some (some (.ref C))) (hm : X.mg nm = some (.ref C)) (hg : Gl X nm := by rfl) (hdb : (nm == ("__debug__" : Str)) = false := by decide) :
    Dx .cl X W m (.Call (.Name nm p) [] [] pos) (xzF j) := by
  refine ⟨fun g own pins s σ ρ H ps I r n w => ?_⟩
  refine (pe_x0 T hm hg hdb).run pins s σ H _ I fun e h2 => ?_
  have x2 : Exo (plS g.pl) H (upd H e (xoH e C none)) := Exo.new h2
  exact ⟨.lam j, ps, rfl, x2, r.pool.new h2, lam_rep (pl := g.pl) hn hs upd_same (fun hx => (r.xT e hx).n h2) fun d' hd' => nomatch hd'⟩
end
/-- isinstance of errors -/
structure IsX (K : PySem.W.Frag) (c : V) (ans : List Bool) : Prop where
  ok : ∃ u, ClsV c u ∧ ∀ j nm C', exN[j]? = some nm → PySem.W.nsIn K mainGlobals nm = some (some (.ref C')) → PySem.W.kitOne K (.ref C') u = some (ans.getD j false) ∧
    (PySem.W.clsIn K C').isSome = true ∧ PySem.W.findIn K (.ref C') "__getattribute__" = some (some (.builtin "BaseException.__getattribute__")) ∧ PySem.W.findIn K (.ref C') "__getattr__" = some none ∧
    PySem.W.subIn K (.ref C') (.type "BaseException") = some true ∧ PySem.W.findIn K (.ref C') "__class__" = some (some (.builtin "object.__class__")) ∧ PySem.W.specialIn K (.builtin "object.__class__") "__get__" = some (some (.builtin "getset_descriptor.__get__")) ∧
    PySem.W.takesIn K (.builtin "object.__class__") = some true ∧ PySem.W.mroIn K C' (.type "object") = some true
def isxF (c : V) (ans : List Bool) : List D → R D := two fun d k => match d, k with
  | .lam j, .ob v => if v = c then pure (.bl (ans.getD j false)) else R.und
  | _, _ => R.und
section
variable {X : Cx}
theorem call_isX : CallR X (.builtin "isinstance") (fun xs H Q => ∃ (a : Addr) (c : V) (u : Value) (b : Bool) (C' : Addr) (dd : Option Addr), xs = [.ref a, c] ∧ ClsV c u ∧ H a = some (xoH a C' dd) ∧ (∀ d, dd = some d → ∃ vs, H d = some (.xd vs)) ∧ PySem.W.kitOne X.K (.ref C') u = some b ∧
    ((PySem.W.clsIn X.K C').isSome = true ∧ PySem.W.findIn X.K (.ref C') "__getattribute__" = some (some (.builtin "BaseException.__getattribute__")) ∧ PySem.W.findIn X.K (.ref C') "__getattr__" = some none ∧
    PySem.W.subIn X.K (.ref C') (.type "BaseException") = some true ∧ PySem.W.findIn X.K (.ref C') "__class__" = some (some (.builtin "object.__class__")) ∧ PySem.W.specialIn X.K (.builtin "object.__class__") "__get__" = some (some (.builtin "getset_descriptor.__get__")) ∧
    PySem.W.takesIn X.K (.builtin "object.__class__") = some true ∧ PySem.W.mroIn X.K C' (.type "object") = some true) ∧ Q (.bl b) H) := by
  intro pins s σ H xs us Q I r h
  obtain ⟨a, c, u, b, C', dd, rfl, k, ea, ed, e, ⟨z1, z2, z3, z4, z5, z6, z7, z8⟩, q⟩ := h
  obtain ⟨u1, u2, rfl, r1, r2⟩ := vals2 r
  have e2 := k.eq r2
  subst e2
  cases (show u1 = Value.ref a from r1)
  have ho : ObjOk X.prog X.w H s.heap a (xoH a C' dd) := I.hok a _ ea
  obtain ⟨⟨oe, vs, h1, h2, h3, h4⟩, _, _⟩ := ho
  have J : ∃ od, PySem.W.InstAt s.heap a oe C' od := by
    cases dd with
    | none => exact ⟨none, h1, h2, by unfold PySem.W.notCls; rw [h4] <;> rfl, by rw [h3]; trivial⟩
    | some d =>
      obtain ⟨ws, hd⟩ := ed d rfl
      have hx : ObjOk X.prog X.w H s.heap d (.xd ws) := I.hok d _ hd
      obtain ⟨mA, ⟨o, _, _, ho, _⟩, _⟩ := hx
      exact ⟨some o, h1, h2, by unfold PySem.W.notCls; rw [h4] <;> rfl, by rw [h3]; exact ho⟩
  obtain ⟨od, J⟩ := J
  exact PySem.W.kia_one (PySem.W.kitx_exc (ox := oe) (od := od) z1 z2 z3 z4 z5 z6 z7 z8) I.kIn J e (fun z => nomatch z) fun tk => ⟨.bl b, H, I.tok tk, rfl, q⟩
theorem RepB.lamE {pl : Pl} {K : PySem.W.Frag} {O : Addr → Prop} {H : Hp} {j : Nat} {v : V} (h : RepB pl K O H (.lam j) v) : ∃ a, v = .ref a ∧ LamAt K H j a := by
  have h := h.full
  unfold Rep at h
  exact h
theorem cd_isX {c : V} {ans : List Bool} (hT : IsX X.K c ans) : CallD .cl X (.builtin "isinstance") [.sb, .sb] (isxF c ans) := by
  intro pl O pins s σ H ps ds vs us I hO hT' p ha rv n
  obtain ⟨d1, d2, v1, v2, rfl, rfl, h1, h2⟩ := args2 ha
  cases d1 with
  | lam j =>
    cases d2 with
    | ob v =>
      have h2 := h2.flat rfl
      unfold Rep at h2
      subst h2
      by_cases e : v2 = c
      · subst e
        have en : isxF v2 ans [.lam j, .ob v2] ps = (pure (.bl (ans.getD j false)) : R D) ps := by
          show (if v2 = v2 then (pure (.bl (ans.getD j false)) : R D) else R.und) ps = _
          rw [if_pos rfl]
        rw [en] at n ⊢
        obtain ⟨u, k1, k2⟩ := hT.ok
        obtain ⟨q, rfl, nm, C', dd, g1, g2, g3, g4⟩ := h1.lamE
        obtain ⟨z0, z⟩ := k2 j nm C' g1 g2
        exact call_isX pins s σ H _ us _ I rv ⟨q, v2, u, _, C', dd, rfl, k1, g3, g4, z0, z, qv_bl p rfl⟩
      · refine (n ?_).elim
        show (if v2 = c then (pure (.bl (ans.getD j false)) : R D) else R.und) ps = _
        rw [if_neg e]; rfl
    | _ => exact (n rfl).elim
  | _ => exact (n rfl).elim
end
/-- .. as the head tells it -/
def isxB (K : PySem.W.Frag) (x : Str) (ans : List Bool) : Bool := match PySem.W.nsIn K mainGlobals x with
  | some (some (.ref C)) => decide (ans.length = exN.length) && PySem.W.isClsIn K C && ((exN.zip ans).all fun q => match PySem.W.nsIn K mainGlobals q.1 with
    | some (some (.ref C')) => decide (PySem.W.kitOne K (.ref C') (.ref C) = some q.2)
    | _ => false)
  | _ => false
def exkB (K : PySem.W.Frag) : Bool := exN.all fun x => match PySem.W.nsIn K mainGlobals x with
  | some (some (.ref C')) => (PySem.W.clsIn K C').isSome && (decide (PySem.W.findIn K (.ref C') "__getattribute__" = some (some (.builtin "BaseException.__getattribute__"))) && (decide (PySem.W.findIn K (.ref C') "__getattr__" = some none) &&
    (decide (PySem.W.subIn K (.ref C') (.type "BaseException") = some true) && (decide (PySem.W.findIn K (.ref C') "__class__" = some (some (.builtin "object.__class__"))) && decide (PySem.W.mroIn K C' (.type "object") = some true)))))
  | _ => false
theorem isxB_ok {K : PySem.W.Frag} {x : Str} {ans : List Bool} {C : Addr} (h : isxB K x ans = true) (hc : PySem.W.nsIn K mainGlobals x = some (some (.ref C))) (h2 : exkB K = true) (hn : PySem.W.specialIn K (.builtin "object.__class__") "__get__" = some (some (.builtin "getset_descriptor.__get__")))
    (ht : PySem.W.takesIn K (.builtin "object.__class__") = some true) : IsX K (.ref C) ans := by
  unfold isxB at h
  rw [hc] at h
  dsimp only at h
  obtain ⟨h, h3⟩ := Bool.and_eq_true_iff.mp h
  obtain ⟨h1, _⟩ := Bool.and_eq_true_iff.mp h
  have hl : ans.length = exN.length := of_decide_eq_true h1
  refine ⟨_, .own C, fun j nm C' hj hs => ?_⟩
  have hlt : j < exN.length := (List.getElem?_eq_some_iff.mp hj).1
  have ha : ans[j]? = some (ans.getD j false) := by
    rw [List.getD_eq_getElem?_getD, List.getElem?_eq_getElem (by omega)]; rfl
  have hz : (nm, ans.getD j false) ∈ exN.zip ans := by
    refine List.mem_of_getElem? (i := j) ?_
    rw [List.getElem?_zip_eq_some]
    exact ⟨hj, ha⟩
  have k1 := List.all_eq_true.mp h3 _ hz
  have k1 : (match PySem.W.nsIn K mainGlobals nm with | some (some (.ref C')) => decide (PySem.W.kitOne K (.ref C') (.ref C) = some (ans.getD j false)) | _ => false) = true := k1
  rw [hs] at k1
  have k2 := List.all_eq_true.mp (show (exN.all _) = true from h2) nm (List.mem_of_getElem? hj)
  rw [hs] at k2
  dsimp only at k1 k2
  obtain ⟨e1, k2⟩ := Bool.and_eq_true_iff.mp k2
  obtain ⟨e2, k2⟩ := Bool.and_eq_true_iff.mp k2
  obtain ⟨e3, k2⟩ := Bool.and_eq_true_iff.mp k2
  obtain ⟨e4, k2⟩ := Bool.and_eq_true_iff.mp k2
  obtain ⟨e5, e6⟩ := Bool.and_eq_true_iff.mp k2
  exact ⟨of_decide_eq_true k1, e1, of_decide_eq_true e2, of_decide_eq_true e3, of_decide_eq_true e4, of_decide_eq_true e5, hn, ht, of_decide_eq_true e6⟩
/-- str(n) -/
def D.toStr : D → R D
  | .int i => if decide (i.natAbs.log2 < 1920) = true then pure (.str (toString i)) else R.und
  | _ => R.und
theorem cd_str {X : Cx} : CallD .cl X (.type "str") [.sb] (one D.toStr) := by
  intro pl O pins s σ H ps ds vs us I hO hT p ha rv n
  obtain ⟨d, v, rfl, rfl, h⟩ := args1 ha
  cases d with
  | int i =>
    have h := h.flat rfl
    unfold Rep at h
    subst h
    by_cases z : i.natAbs.log2 < 1920
    · have e : one D.toStr [.int i] ps = (pure (.str (toString i)) : R D) ps := by
        show (if decide (i.natAbs.log2 < 1920) = true then (pure (.str (toString i)) : R D) else R.und) ps = _
        rw [decide_eq_true z, if_pos rfl]
      rw [e] at n ⊢
      exact call_str_int pins s σ H _ us _ I rv ⟨i, rfl, z, _, ps, rfl, Exo.refl, p, by show Rep _ _ _ _ _; unfold Rep; rfl⟩
    · refine (n ?_).elim
      show (if decide (i.natAbs.log2 < 1920) = true then (pure (.str (toString i)) : R D) else R.und) ps = _
      rw [decide_eq_false z]; rfl
  | _ => exact (n rfl).elim
/-- a clause that takes those of ts, not those of ys -/
def mtB (ts ys : List Addr) : Addr → Option Bool := fun C => if ts.contains C then some true else if ys.contains C then some false else none
theorem mtB_ok {K : PySem.W.Frag} {E : Addr} {ts ys : List Addr} (h1 : ∀ y ∈ ts, PySem.W.exmOne K (.ref y) (.ref E) = some true) (h2 : ∀ y ∈ ys, PySem.W.exmOne K (.ref y) (.ref E) = some false) : ∀ C b, mtB ts ys C = some b → PySem.W.exmOne K (.ref C) (.ref E) = some b := by
  intro C b h
  unfold mtB at h
  split at h
  · rename_i hc; cases h; exact h1 C (by simpa using hc)
  · split at h
    · rename_i hc; cases h; exact h2 C (by simpa using hc)
    · cases h
end DL
set_option Elab.async false
set_option linter.all false
set_option maxRecDepth 100000
set_option maxHeartbeats 2000000
namespace DL
open PySem PySem.Spec PyProof.Rows L2
end DL
set_option Elab.async false
set_option linter.all false
set_option maxRecDepth 100000
set_option maxHeartbeats 2000000
namespace DL
open PySem PySem.Spec PyProof.Rows L2
end DL
set_option Elab.async false
set_option linter.all false
set_option maxRecDepth 100000
set_option maxHeartbeats 2000000
namespace DL
open PySem PySem.Spec PyProof.Rows L2
/-- the tuple's parts -/
def NVall (H : Hp) (ks : List NK) (vs : List V) : Prop := vs.length = ks.length ∧ ∀ (i : Nat) (h1 : i < ks.length) (h2 : i < vs.length), NV H ks[i] vs[i]
theorem NVall.cons {H : Hp} {k : NK} {ks : List NK} {v : V} {vs : List V} (h : NV H k v) (t : NVall H ks vs) : NVall H (k :: ks) (v :: vs) :=
  ⟨by simp [t.1], fun i h1 h2 => by
    cases i with
    | zero => exact h
    | succ i => exact t.2 i (by simpa using h1) (by simpa using h2)⟩
theorem NVall.inv {H : Hp} {k : NK} {ks : List NK} {vs : List V} (h : NVall H (k :: ks) vs) : ∃ v r, vs = v :: r ∧ NV H k v ∧ NVall H ks r := by
  cases vs with
  | nil => exact absurd h.1 (by simp)
  | cons v r => exact ⟨v, r, rfl, h.2 0 (by simp) (by simp), by simpa using h.1, fun i h1 h2 => h.2 (i + 1) (by simpa using h1) (by simpa using h2)⟩
theorem NVall.nil_inv {H : Hp} {vs : List V} (h : NVall H [] vs) : vs = [] := by
  cases vs with
  | nil => rfl
  | cons v r => exact absurd h.1 (by simp)
/-- keys that are not hidden -/
theorem NV.hid {H : Hp} {O : Addr → Prop} (hO : ∀ a, O a → Thr (H a)) {k : NK} {v : V} (h : NV H k v) : NV (hid O H) k v :=
  h.mono fun p vs e => by rw [hid_at fun z => (hO p z).t vs e]; exact e
end DL
set_option Elab.async false
set_option linter.all false
set_option maxRecDepth 100000
set_option maxHeartbeats 2000000
namespace DL
open PySem PySem.Spec PyProof.Rows L2
noncomputable section
def findW (l : List (NK × NK)) (k : NK) : Option NK := (l.find? fun x => decide (x.1 = k)).map (·.2)
theorem NKs.inv {H : Hp} {p : NK × NK} {t : List (NK × NK)} {xs : List NX} (h : NKs H (p :: t) xs) : ∃ x r, xs = x :: r ∧ p.1 = x.1 ∧ x.1.depth ≤ 8 ∧ NV H x.1 (.ref x.2.1) ∧ (∃ v, RelV v x.2.2 ∧ NV H p.2 v) ∧ NKs H t r := by
  cases xs with
  | nil => exact absurd h.1 (by simp)
  | cons x r =>
    obtain ⟨x', e, h1, h2, h3, h4⟩ := h.2 0 p rfl
    cases e
    exact ⟨x, r, rfl, h1, h2, h3, h4, by simpa using h.1, fun i q hq => h.2 (i + 1) q hq⟩
theorem NKs.nil_inv {H : Hp} {xs : List NX} (h : NKs H [] xs) : xs = [] := by
  cases xs with
  | nil => rfl
  | cons x r => exact absurd h.1 (by simp)
theorem NKs.nil {H : Hp} : NKs H [] [] := ⟨rfl, fun i p h => by simp at h⟩
theorem NKs.cons {H : Hp} {p : NK × NK} {t : List (NK × NK)} {x : NX} {xs : List NX} (h1 : p.1 = x.1) (h2 : x.1.depth ≤ 8) (h3 : NV H x.1 (.ref x.2.1)) (h4 : ∃ v, RelV v x.2.2 ∧ NV H p.2 v) (h : NKs H t xs) : NKs H (p :: t) (x :: xs) :=
  ⟨by simp [h.1], fun i q hq => by
    cases i with
    | zero => cases hq; exact ⟨x, rfl, h1, h2, h3, h4⟩
    | succ i => exact h.2 i q hq⟩
theorem NKs.append {H : Hp} : ∀ {l l' : List (NK × NK)} {xs xs' : List NX}, NKs H l xs → NKs H l' xs' → NKs H (l ++ l') (xs ++ xs')
  | [], _, xs, _, h, h' => by rw [h.nil_inv]; exact h'
  | p :: t, _, xs, _, h, h' => by
    obtain ⟨x, r, rfl, h1, h2, h3, h4, h5⟩ := h.inv
    exact .cons h1 h2 h3 h4 (NKs.append h5 h')
theorem NKs.at_ {H : Hp} {k : NK} : ∀ {kvs : List (NK × NK)} {xs : List NX}, NKs H kvs xs → (findW kvs k = none ∧ atKey xs k = none) ∨ ∃ n p v, findW kvs k = some n ∧ atKey xs k = some p ∧ RelV v p.2 ∧ NV H n v
  | [], xs, h => by rw [h.nil_inv]; exact .inl ⟨rfl, rfl⟩
  | p :: t, xs, h => by
    obtain ⟨x, r, rfl, h1, h2, h3, ⟨v, h4, h5⟩, h6⟩ := h.inv
    by_cases z : x.1 = k
    · refine .inr ⟨p.2, x.2, v, ?_, ?_, h4, h5⟩
      · unfold findW; rw [List.find?_cons_of_pos (by simpa [h1] using z)]; rfl
      · unfold atKey; rw [List.find?_cons_of_pos (by simpa using z)]; rfl
    · have e1 : findW (p :: t) k = findW t k := by unfold findW; rw [List.find?_cons_of_neg (by simpa [h1] using z)]
      have e2 : atKey (x :: r) k = atKey r k := by unfold atKey; rw [List.find?_cons_of_neg (by simpa using z)]
      rw [e1, e2]
      exact NKs.at_ h6
theorem NKs.all {H : Hp} : ∀ {kvs : List (NK × NK)} {xs : List NX}, NKs H kvs xs → ∀ x ∈ xs, x.1.depth ≤ 8 ∧ NV H x.1 (.ref x.2.1)
  | [], xs, h, x, hx => by rw [h.nil_inv] at hx; cases hx
  | p :: t, xs, h, x, hx => by
    obtain ⟨y, r, rfl, h1, h2, h3, h4, h5⟩ := h.inv
    rcases List.mem_cons.mp hx with rfl | hx
    · exact ⟨h2, h3⟩
    · exact NKs.all h5 x hx
end
end DL
set_option Elab.async false
set_option linter.all false
set_option maxRecDepth 100000
set_option maxHeartbeats 2000000
namespace DL
open PySem PySem.Spec PyProof.Rows L2
end DL
set_option Elab.async false
set_option linter.all false
set_option maxRecDepth 100000
set_option maxHeartbeats 2000000
namespace DL
open PySem PySem.Spec PyProof.Rows L2
end DL
set_option Elab.async false
set_option linter.all false
set_option maxRecDepth 100000
set_option maxHeartbeats 2000000
namespace DL
open PySem PySem.Spec PyProof.Rows L2
def opn (pl : Pl) (kn qu : Addr) : Pl := pl.map fun x => (x.1, x.2.1, { x.2.2 with wk := some (kn, qu) })
/-- no walk is open -/
def Cld (pl : Pl) : Prop := ∀ x, pl = some x → x.2.2.wk = none
section
variable {pl : Pl} {K : PySem.W.Frag} {H H' : Hp} {kn qu : Addr}
theorem cld_wk (h : Cld pl) : (pl.bind fun x => x.2.2.wk) = none := by
  cases pl with
  | none => rfl
  | some x => exact h x rfl
mutual
theorem Rep.opn (h0 : Cld pl) : ∀ {d : D} {v : V}, Rep pl K H d v → Rep (opn pl kn qu) K H d v
  | .non, _, h => h
  | .bl _, _, h => h
  | .int _, _, h => h
  | .str _, _, h => h
  | .lst _, _, h => by
    unfold Rep at h ⊢
    obtain ⟨p, vs, h1, h2, h3⟩ := h
    exact ⟨p, vs, h1, h2, Reps.opn h0 h3⟩
  | .tup _, _, h => by
    unfold Rep at h ⊢
    obtain ⟨p, vs, h1, h2, h3⟩ := h
    exact ⟨p, vs, h1, h2, Reps.opn h0 h3⟩
  | .dk _, _, h => by
    unfold Rep at h ⊢
    obtain ⟨p, vs, h1, h2, h3⟩ := h
    exact ⟨p, vs, h1, h2, RepK.opn h0 h3⟩
  | .dt _, _, h => by
    unfold Rep at h ⊢
    obtain ⟨p, vs, h1, h2, h3⟩ := h
    exact ⟨p, vs, h1, h2, RepT.opn h0 h3⟩
  | .ins _ _, _, h => by
    unfold Rep at h ⊢
    obtain ⟨p, dx, vs, h1, h2, h3⟩ := h
    exact ⟨p, dx, vs, h1, h2, RepF.opn h0 h3⟩
  | .pool, _, h => by
    unfold Rep at h ⊢
    cases pl with
    | none => cases h
    | some x => exact h
  | .ob _, _, h => h
  | .wkn, _, h => by
    unfold Rep at h
    rw [cld_wk h0] at h; cases h
  | .wqu, _, h => by
    unfold Rep at h
    rw [cld_wk h0] at h; cases h
  | .lam _, _, h => h
theorem Reps.opn (h0 : Cld pl) : ∀ {ds : List D} {vs : List V}, Reps pl K H ds vs → Reps (opn pl kn qu) K H ds vs
  | [], _, h => h
  | _ :: _, _, h => by
    unfold Reps at h ⊢
    obtain ⟨v, r, h1, h2, h3⟩ := h
    exact ⟨v, r, h1, Rep.opn h0 h2, Reps.opn h0 h3⟩
theorem RepK.opn (h0 : Cld pl) : ∀ {ds : List (Key × D)} {vs : List (Key × V)}, RepK pl K H ds vs → RepK (opn pl kn qu) K H ds vs
  | [], _, h => h
  | (_, _) :: _, _, h => by
    unfold RepK at h ⊢
    obtain ⟨v, r, h1, h2, h3⟩ := h
    exact ⟨v, r, h1, Rep.opn h0 h2, RepK.opn h0 h3⟩
theorem RepT.opn (h0 : Cld pl) : ∀ {ds : List (List Key × D)} {vs : List (List Key × V)}, RepT pl K H ds vs → RepT (opn pl kn qu) K H ds vs
  | [], _, h => h
  | (_, _) :: _, _, h => by
    unfold RepT at h ⊢
    obtain ⟨v, r, h1, h2, h3⟩ := h
    exact ⟨v, r, h1, Rep.opn h0 h2, RepT.opn h0 h3⟩
theorem RepF.opn (h0 : Cld pl) : ∀ {ds : List (Str × D)} {vs : List (Str × V)}, RepF pl K H ds vs → RepF (opn pl kn qu) K H ds vs
  | [], _, h => h
  | (_, _) :: _, _, h => by
    unfold RepF at h ⊢
    obtain ⟨v, r, h1, h2, h3⟩ := h
    exact ⟨v, r, h1, Rep.opn h0 h2, RepF.opn h0 h3⟩
end
mutual
/-- nothing of a walk -/
def D.noW : D → Bool
  | .non => true | .bl _ => true | .int _ => true | .str _ => true | .ob _ => true | .pool => true
  | .lst ds => D.noWs ds
  | .tup ds => D.noWs ds
  | .dk _ => false | .dt _ => false | .ins _ _ => false | .wkn => false | .wqu => false | .lam _ => true
def D.noWs : List D → Bool
  | [] => true
  | d :: r => D.noW d && D.noWs r
end
mutual
theorem Rep.cls : ∀ {d : D} {v : V}, D.noW d = true → Rep (opn pl kn qu) K H d v → Rep pl K H d v
  | .non, _, _, h => h
  | .bl _, _, _, h => h
  | .int _, _, _, h => h
  | .str _, _, _, h => h
  | .ob _, _, _, h => h
  | .lam _, _, _, h => h
  | .pool, _, _, h => by
    unfold Rep at h ⊢
    cases pl with
    | none => cases h
    | some x => exact h
  | .lst _, _, n, h => by
    unfold D.noW at n
    unfold Rep at h ⊢
    obtain ⟨p, vs, h1, h2, h3⟩ := h
    exact ⟨p, vs, h1, h2, Reps.cls n h3⟩
  | .tup _, _, n, h => by
    unfold D.noW at n
    unfold Rep at h ⊢
    obtain ⟨p, vs, h1, h2, h3⟩ := h
    exact ⟨p, vs, h1, h2, Reps.cls n h3⟩
  | .dk _, _, n, _ => by unfold D.noW at n; cases n
  | .dt _, _, n, _ => by unfold D.noW at n; cases n
  | .ins _ _, _, n, _ => by unfold D.noW at n; cases n
  | .wkn, _, n, _ => by unfold D.noW at n; cases n
  | .wqu, _, n, _ => by unfold D.noW at n; cases n
theorem Reps.cls : ∀ {ds : List D} {vs : List V}, D.noWs ds = true → Reps (opn pl kn qu) K H ds vs → Reps pl K H ds vs
  | [], _, _, h => h
  | _ :: _, _, n, h => by
    unfold D.noWs at n
    rw [Bool.and_eq_true] at n
    unfold Reps at h ⊢
    obtain ⟨v, r, h1, h2, h3⟩ := h
    exact ⟨v, r, h1, Rep.cls n.1 h2, Reps.cls n.2 h3⟩
end
theorem PoolAt.cls {po : Pool} (h0 : Cld pl) (hn : pl ≠ none) (p : PoolAt (DL.opn pl kn qu) H (some po)) : PoolAt pl H (some { po with wk := none }) := by
  cases pl with
  | none => exact (hn rfl).elim
  | some x =>
    obtain ⟨p0, q0, z⟩ := x
    obtain ⟨po', e, a1, a2, a3, px⟩ := p
    cases e
    have hz : z.wk = none := h0 _ rfl
    refine ⟨_, rfl, a1, a2, a3, ?_, px.te, px.tb, px.tu⟩
    show match z.wk with
      | none => (none : Option WkSt) = none
      | some (kn, qu) => _
    rw [hz]
end
end DL
set_option Elab.async false
set_option linter.all false
set_option maxRecDepth 100000
set_option maxHeartbeats 2000000
namespace DL
open PySem PySem.Spec PyProof.Rows L2
end DL
set_option Elab.async false
set_option linter.all false
set_option maxRecDepth 100000
set_option maxHeartbeats 2000000
namespace DL
open PySem PySem.Spec PyProof.Rows L2
/-- a turn's body behind the opening of its pool -/
theorem turn_run2 {X : Cx} {gB : SF} {rest : List Stmt} {n k : Nat} {b p q : Addr} {ns nums : List Int} {D : Ends} {σ : L2.St} {H : Hp} {T : List (Addr × Str)} (hN : X.N.length = n) (hn : 3 ≤ n) (hB : Dss X WF (turnJ n) (turnM n) (turnM n) rest gB) (hm : ∃ ρ' ps', gB (turnR n k) (some ⟨nums, 0, none, T⟩) = .ok (.nx ρ') ps')
    (hl : σ.length = n) (h0 : σ[0]? = some (some (.ref b))) (h1 : σ[1]? = some (some (.int (k : Int)))) (h2 : σ[2]? = some (some (.ref p))) (hS : SqL X.K H b (ns.map V.int)) (hqb : q ≠ b ∨ SqL X.K (fun _ => none) b (ns.map V.int)) (hp : H p = some (.lst [.ref q, .int 0])) (hq : H q = some (.lst (nums.map V.int))) (hne : q ≠ p) (hT : Tbs T H)
    (hD : ∀ σ' H', turnP T X.K n b ns 0 σ' H' → D.nx σ' H') : cSs X rest D σ H := by
  intro pins s I
  obtain ⟨ρ', ps', e⟩ := hm
  refine thn (hB.run (turnG T p q b H) (fun _ => 0) pins s σ (turnR n k) H _ I (turn_rs hn hl h0 h1 h2 hp hq hne hT) (fun p hp => ?_) (by rw [e]; exact fun z => nomatch z) (wsF e)) fun fl s1 q1 => spL q1 ?_ ?_ ?_ ?_
  · rcases List.mem_cons.mp hp with rfl | hp
    · exact List.mem_cons_self ..
    · cases hp
  · rintro σ2 H2 l2 ⟨ρ2, ps2, own2, a1, a2, a3⟩
    refine hD σ2 H2 ⟨by rw [l2, hN], ?_, ?_, ?_⟩
    · obtain ⟨v, h3, h4⟩ := a2.sx (0, .ob (.ref b)) (List.mem_cons_self ..)
      unfold Rep at h4
      subst h4
      exact h3
    · rcases hqb with hqb | hst
      · have far : Rd H b (.lst (ns.map V.int)) → ¬ plS (turnG T p q b H).pl b := by
          intro hb z
          obtain ⟨x, hx, y⟩ := z
          cases hx
          rcases y with y | y | ⟨_, y, _⟩ | ⟨y, hy, e2⟩
          · have y : b = p := y
            rw [y] at hb
            rcases hb with hb | ⟨o, hb⟩
            · rw [hp] at hb
              cases ns with
              | nil => cases hb
              | cons _ _ => cases hb
            · rw [hp] at hb; cases hb
          · exact hqb (show b = q from y).symm
          · cases y
          · obtain ⟨tp, h6, _⟩ := hT.at_ y hy
            rw [← e2] at h6
            rcases hb with hb | ⟨o, hb⟩ <;> (rw [h6] at hb; cases hb)
        rcases hS with h | h
        · refine .inl ?_
          have nf := far h
          rcases h with h | ⟨o, h⟩
          · exact .inl (a2.base b _ h nf)
          · exact .inr ⟨o, a2.base b _ h nf⟩
        · exact .inr h
      · rcases hst with h | h
        · rcases h with h | ⟨o, h⟩ <;> cases h
        · exact .inr h
    · obtain ⟨po, _, _, _, _, px⟩ := a2.pool
      exact ⟨px.tb, px.tu⟩
  · rintro σ2 H2 l2 ⟨ρ2, ps2, own2, a1, a2, a3⟩; rw [e] at a1; cases a1
  · rintro σ2 H2 l2 ⟨ρ2, ps2, own2, a1, a2, a3⟩; rw [e] at a1; cases a1
  · rintro v H2 ⟨d, ρ2, ps2, own2, σ2, a1, a2, a3, a4⟩; rw [e] at a1; cases a1
theorem sq_static {K : PySem.W.Frag} {H : Hp} {b q : Addr} {xs : List V} (h : SqL K H b xs) (n : ¬ scO H b xs q) : q ≠ b ∨ SqL K (fun _ => none) b xs := by
  rcases h with h | h
  · exact .inl fun z => n ⟨z, h⟩
  · exact .inr (.inr h)
end DL
set_option Elab.async false
set_option linter.all false
set_option maxRecDepth 100000
set_option maxHeartbeats 2000000
namespace DL
open PySem PySem.Spec PyProof.Rows L2
end DL
set_option Elab.async false
set_option linter.all false
set_option maxRecDepth 100000
set_option maxHeartbeats 2000000
namespace DL
open PySem PySem.Spec PyProof.Rows L2
/-- the script and the tables are tracked, nothing else -/
structure ScriptTb (P : Program) (w : World) (K : PySem.W.Frag) (s : Shared) (a : Addr) (ns : List Int) (ts : List (Addr × Addr)) (H : Hp) : Prop where
  only : ∀ b, H b = none ∨ (∃ t ∈ ts, b = t.2) ∨ ∃ o xs, H b = some (.frz o (.lst xs))
  seq : SqL K H a (ns.map V.int)
  ok : HOk P w H s.heap
  one : ∀ b, H b ≠ none → b = a ∨ ∃ t ∈ ts, b = t.2
  new : H a ≠ none → K.lookup a = none
  tab : ∀ t ∈ ts, H t.2 = some (.tbl #[])
theorem ScriptTb.make {P : Program} {w : World} {K : PySem.W.Frag} {s : Shared} {a : Addr} {vs : List Value} {ns : List Int} {ts : List (Addr × Addr)} {H0 : Hp} (S : ScriptAt P w K s a ns H0) (ha : s.heap.get? a = some { cls := .type "list", data := .seq vs.toArray }) (hT : ∀ t ∈ ts, s.heap.get? t.2 = some { cls := .none, data := .fields #[] }) : ∃ H, ScriptTb P w K s a ns ts H := by
  have na : ∀ t ∈ ts, t.2 ≠ a := fun t ht z => by
    have h := hT t ht
    rw [z, ha] at h
    cases h
  let H : Hp := fun b => @ite _ (∃ t ∈ ts, b = t.2) (Classical.propDecidable _) (some (.tbl #[])) (H0 b)
  have at1 : ∀ {b : Addr}, (∃ t ∈ ts, b = t.2) → H b = some (.tbl #[]) := fun h => if_pos h
  have at2 : ∀ {b : Addr}, (¬ ∃ t ∈ ts, b = t.2) → H b = H0 b := fun h => if_neg h
  have aa : ¬ ∃ t ∈ ts, a = t.2 := fun ⟨t, ht, e⟩ => na t ht e.symm
  refine ⟨H, fun b => ?_, ?_, fun b u e => ?_, fun b z => ?_, fun z => S.new (by rw [← at2 aa]; exact z), fun t ht => at1 ⟨t, ht, rfl⟩⟩
  · by_cases h : ∃ t ∈ ts, b = t.2
    · exact .inr (.inl h)
    · rw [at2 h]
      rcases S.only b with z | z
      · exact .inl z
      · exact .inr (.inr z)
  · have := S.seq
    rcases this with (h | ⟨o, h⟩) | h
    · exact .inl (.inl (by rw [at2 aa]; exact h))
    · exact .inl (.inr ⟨o, by rw [at2 aa]; exact h⟩)
    · exact .inr h
  · by_cases h : ∃ t ∈ ts, b = t.2
    · rw [at1 h] at e
      cases e
      obtain ⟨t, ht, rfl⟩ := h
      exact hT t ht
    · rw [at2 h] at e
      rcases S.only b with z | ⟨o, xs, z⟩
      · rw [z] at e; cases e
      · rw [z] at e; cases e
        exact S.ok b _ z
  · by_cases h : ∃ t ∈ ts, b = t.2
    · exact .inr h
    · rw [at2 h] at z
      exact .inl (S.one b z)
theorem law_atT {P : Program} {w : World} {K : PySem.W.Frag} {mg mb : Str → Option Value} {k : Nat} {fa a : Addr} {fd : FuncData} {x : Str} {sp : Sp} {s₁ : Shared} {vs : List Value} {ns : List Int} {ts : List (Addr × Addr)} {H : Hp} (S : ScriptTb P w K s₁ a ns ts H)
    (KX : K.In s₁.heap) (hns : s₁.heap.Ns mainGlobals mg) (hb : s₁.heap.Ns builtinsNs mb) (hbb : ∀ x : Str, x ≠ "__name__" → mb x = bootBuiltins x) (hlim : s₁.heap.NoLimit) (hg : s₁.gens = #[])
    (hT : ∀ t ∈ ts, s₁.heap.get? t.2 = some { cls := .none, data := .fields #[] }) (nT : ∀ t ∈ ts, K.lookup t.2 = none) (C : ∀ t ∈ ts, PySem.W.CodeHd s₁.heap t.1 t.2)
    (hbm : ∃ (bm : Addr) (ob : Obj), mg "__builtins__" = some (.ref bm) ∧ bm ≠ builtinsNs ∧ s₁.heap.get? bm = some ob ∧ ob.cls = .type "module" ∧ ob.dict = some builtinsNs ∧ ob.data = .plain)
    (ha : s₁.heap.get? a = some { cls := .type "list", data := .seq vs.toArray }) (hr : Room k callerA)
    (F : ∀ base : Heap, K.In base → base.Ns mainGlobals mg → (∀ t ∈ ts, LamX.TabB base mg t.1 t.2) → FnG P w K mg base CX0 k fa fd [x] sp) (hbind : ∀ (s : Shared) (u : Value), BindsTo s fd ⟨[u], []⟩ [(x, u)])
    (hsp : sp [.ref a] H (fun v _ => v = .bl true) fun _ _ _ => False) :
    codeAny (model P w) callerA (.call (.ref fa) ⟨[.ref a], []⟩) (fun r s' => r = .ok (.ret (.bool true)) ∧ OldK s₁.heap s'.heap ∧ s'.os = s₁.os ∧ AllBare s'.gens) s₁ := by
  have far : ∀ {b : Addr} {o : Obj}, s₁.heap.get? b = some o → o.data ≠ .seq vs.toArray 0 → o.data ≠ .fields #[] → H b = none := fun {b o} e d1 d2 => Classical.byContradiction fun z => by
    rcases S.one b z with rfl | ⟨t, ht, rfl⟩
    · rw [ha] at e
      exact d1 (by rw [← Option.some.inj e])
    · rw [hT t ht] at e
      exact d2 (by rw [← Option.some.inj e])
  have nsK : ∀ {b : Addr} {m : Str → Option Value}, s₁.heap.Ns b m → (hidT s₁.heap H).Ns b m := fun {b m} ⟨o, es, ep, e, d, r⟩ => ⟨o, es, ep, hidT_get e (far e (fun z => by rw [d] at z; cases z) fun z => by rw [d] at z; cases z), d, r⟩
  have hKb : K.In (hidT s₁.heap H) := fun b o e => hidT_get (KX b o e) (Classical.byContradiction fun z => by
    rcases S.one b z with rfl | ⟨t, ht, rfl⟩
    · rw [S.new z] at e; cases e
    · rw [nT t ht] at e; cases e)
  have TB : ∀ t ∈ ts, LamX.TabB (hidT s₁.heap H) mg t.1 t.2 := fun t ht => by
    obtain ⟨bm, ob, b1, b2, b3, b4, b5, b6⟩ := hbm
    obtain ⟨og, es, ep, g1, g2, _⟩ := id hns
    refine ⟨?_, ⟨bm, ob, b1, b2, fun z => ?_, fun z => ?_, hidT_get b3 (far b3 (fun z => by rw [b6] at z; cases z) fun z => by rw [b6] at z; cases z), b4, b5, b6⟩, fun z => ?_⟩
    · obtain ⟨o, us, file, tf, flags, tg, inF, text, tt, e1, e2, e3, e4, e5⟩ := C t ht
      refine ⟨o, us, file, tf, flags, tg, inF, text, tt, hidT_get e1 (far e1 (fun z => by rw [e3] at z; cases z) fun z => ?_), e2, e3, e4, e5⟩
      rw [e3] at z
      cases z
      simp at e4
    · rw [z, g1] at b3
      cases b3
      rw [g2] at b6; cases b6
    · rw [z, hT t ht] at b3
      cases b3
      cases b6
    · rw [z, hT t ht] at g1
      cases g1
      cases g2
  obtain ⟨mc, l1, l2⟩ := hlim
  have e0 : Env0 P w K mg (hidT s₁.heap H) callerA [] s₁ H := ⟨rfl, ⟨hKb, nsK hns, ⟨mb, nsK hb, hbb⟩, ⟨mc, nsK l1, l2⟩⟩, fun b o e => of_hidT e, Nat.le_of_eq (hidT_size _ _), trivial, fun b hb => (by cases hb), S.ok, .of_eq hg⟩
  refine codeAny_mono ((F _ hKb (nsK hns) TB).run callerA [] s₁ H ⟨[.ref a], []⟩ [.ref a] [.ref a] _ _ hr rfl e0 (hbind s₁ (.ref a)) (.cons rfl .nil) hsp) fun r s' h => ?_
  have h : CR CX0 [] P w H s₁ (fun v _ => v = .bl true) (fun _ _ _ => False) r s' := h
  match r, h with
  | .ok (.ret u), ⟨v, H', os, bare, un, hok', r', q⟩ =>
    obtain rfl : v = .bl true := q
    obtain rfl : u = Value.bool true := r'
    have kept : ∀ b o, (¬ ∃ t ∈ ts, b = t.2) → s₁.heap.get? b = some o → s'.heap.get? b = some o := fun b o nb e => by
      rcases S.only b with z | z | ⟨ob, xs, z⟩
      · exact un.keep b o e z (by intro z; cases z) (by intro z; cases z)
      · exact (nb z).elim
      · have g1 := (S.ok b _ z).1
        have g2 := (hok' b _ (un.frzs b ob _ z)).1
        rw [e] at g1
        cases g1
        exact g2
    have grown : ∀ t ∈ ts, ∃ more : Array Value, s'.heap.get? t.2 = some { cls := .none, data := .fields more } := fun t ht => by
      obtain ⟨more, z⟩ := un.tbls t.2 #[] (S.tab t ht)
      exact ⟨_, hok' t.2 _ z⟩
    refine ⟨rfl, ⟨fun b o e => ?_, fun b o e => ?_⟩, os, bare⟩
    · by_cases h : ∃ t ∈ ts, b = t.2
      · obtain ⟨t, ht, rfl⟩ := h
        obtain ⟨more, hm⟩ := grown t ht
        rw [hT t ht] at e
        cases e
        exact .inr (.inl ⟨((C t ht).tab (hT t ht)).isCodeTable, rfl, #[], more, rfl, by rw [Array.empty_append]; exact hm⟩)
      · exact .inl (kept b o h e)
    · by_cases h : ∃ t ∈ ts, b = t.2
      · obtain ⟨t, ht, rfl⟩ := h
        obtain ⟨more, hm⟩ := grown t ht
        exact ⟨_, hm⟩
      · exact ⟨o, kept b o h e⟩
end DL
set_option Elab.async false
set_option linter.all false
set_option maxRecDepth 100000
set_option maxHeartbeats 2000000
namespace DL
open PySem PySem.Spec PyProof.Rows L2
/-- the written part without some objects -/
def dropF (K : PySem.W.Frag) (bs : List Addr) : PySem.W.Frag := K.filter fun p => !(bs.contains p.1)
theorem dropF_at {K : PySem.W.Frag} {bs : List Addr} {a : Addr} {o : Obj} (h : (dropF K bs).lookup a = some o) : K.lookup a = some o ∧ a ∉ bs := by
  induction K with
  | nil => cases h
  | cons p r ih =>
    obtain ⟨b, ob⟩ := p
    unfold dropF at h ih
    rw [List.filter_cons] at h
    by_cases e : a = b
    · subst e
      by_cases z : a ∈ bs
      · have z' : bs.contains a = true := by simpa using z
        simp only [z', Bool.not_true, Bool.false_eq_true, if_false] at h
        exact absurd z (ih h).2
      · have z' : bs.contains a = false := by simpa using z
        simp only [z', Bool.not_false, if_true] at h
        rw [List.lookup_cons_self] at h ⊢
        exact ⟨h, z⟩
    · have ne : (a == b) = false := by simpa using e
      have h2 : (List.filter (fun p => !(bs.contains p.1)) r).lookup a = some o := by
        by_cases z : bs.contains b = true
        · simp only [z, Bool.not_true, Bool.false_eq_true, if_false] at h
          exact h
        · have z' : bs.contains b = false := by simpa using z
          simp only [z', Bool.not_false, if_true] at h
          rw [List.lookup_cons, ne] at h
          exact h
      obtain ⟨h3, h4⟩ := ih h2
      exact ⟨by rw [List.lookup_cons, ne]; exact h3, h4⟩
theorem dropF_in {K : PySem.W.Frag} {bs : List Addr} {h : Heap} (x : K.In h) : (dropF K bs).In h := fun a o e => x a o (dropF_at e).1
theorem dropF_no {K : PySem.W.Frag} {bs : List Addr} {a : Addr} (h : a ∈ bs) : (dropF K bs).lookup a = none := by
  cases e : (dropF K bs).lookup a with
  | none => rfl
  | some o => exact absurd h (dropF_at e).2
/-- a def's code object, and its table -/
def tabOf (K : PySem.W.Frag) (f : Addr) : Addr × Addr := match K.lookup f with
  | some ⟨_, _, .func fd, _⟩ => match fd.code with
    | .ref c => match K.lookup c with
      | some ⟨_, _, .fields vs, _⟩ => match vs.getD 11 .none with
        | .ref P => (c, P)
        | _ => (0, 0)
      | _ => (0, 0)
    | _ => (0, 0)
  | _ => (0, 0)
def codeOf (K : PySem.W.Frag) (f : Addr) : Bool := match K.lookup f with
  | some ⟨_, _, .func fd, _⟩ => match fd.code with
    | .ref c => c == (tabOf K f).1
    | _ => false
  | _ => false
def refB (v : Value) (P : Addr) : Bool := match v with
  | .ref Q => Q == P
  | _ => false
theorem refB_ok {v : Value} {P : Addr} (h : refB v P = true) : v = .ref P := by
  cases v with
  | ref Q => rw [eq_of_beq h]
  | _ => cases h
def strB (v : Value) : Bool := match v with
  | .str _ _ => true
  | _ => false
def intB (v : Value) : Bool := match v with
  | .int _ _ => true
  | _ => false
def blB (v : Value) : Bool := match v with
  | .bool _ => true
  | _ => false
/-- the code object heads an empty table -/
def tabB (K : PySem.W.Frag) (t : Addr × Addr) : Bool := (match K.lookup t.2 with
  | some ⟨.none, none, .fields vs, sl⟩ => vs.toList.isEmpty && sl.toList.isEmpty
  | _ => false) && (match K.lookup t.1 with
  | some ⟨.type T, _, .fields vs, _⟩ => decide (T = "code") && ((match vs[11]? with
    | some v => refB v t.2
    | none => false) && (refB (vs.getD 11 .none) t.2 && (strB (vs.getD 18 .none) && (intB (vs.getD 7 .none) && (blB (vs.getD 9 .none) && (intB (vs.getD 10 .none) && !(t.1 == t.2)))))))
  | _ => false)
theorem tabB_ok {K : PySem.W.Frag} {t : Addr × Addr} {h : Heap} (e : tabB K t = true) (X : K.In h) : h.get? t.2 = some { cls := .none, data := .fields #[] } ∧ PySem.W.CodeHd h t.1 t.2 := by
  unfold tabB at e
  rw [Bool.and_eq_true] at e
  obtain ⟨e1, e2⟩ := e
  constructor
  · split at e1
    · rename_i vs sl q
      rw [Bool.and_eq_true] at e1
      have h1 : vs = #[] := by
        have := e1.1
        cases vs with
        | mk l => cases l with
          | nil => rfl
          | cons _ _ => cases this
      have h2 : sl = #[] := by
        have := e1.2
        cases sl with
        | mk l => cases l with
          | nil => rfl
          | cons _ _ => cases this
      subst h1 h2
      exact X _ _ q
    · cases e1
  · split at e2
    · rename_i T od vs sl q
      simp only [Bool.and_eq_true, decide_eq_true_eq] at e2
      obtain ⟨rfl, g1, g2, g3, g4, g5, g6, g7⟩ := e2
      have hs : ∀ {v : Value}, strB v = true → ∃ x tk, v = .str x tk := fun {v} z => by
        cases v with
        | str x tk => exact ⟨x, tk, rfl⟩
        | _ => cases z
      have hi : ∀ {v : Value}, intB v = true → ∃ x tk, v = .int x tk := fun {v} z => by
        cases v with
        | int x tk => exact ⟨x, tk, rfl⟩
        | _ => cases z
      have hb : ∀ {v : Value}, blB v = true → ∃ x, v = .bool x := fun {v} z => by
        cases v with
        | bool x => exact ⟨x, rfl⟩
        | _ => cases z
      have k1 : vs[11]? = some (.ref t.2) := by
        cases h11 : vs[11]? with
        | none => rw [h11] at g1; cases g1
        | some v => rw [h11] at g1; rw [refB_ok g1]
      obtain ⟨file, tf, f1⟩ := hs g3
      obtain ⟨flags, tg, f2⟩ := hi g4
      obtain ⟨inF, f3⟩ := hb g5
      obtain ⟨text, tt, f4⟩ := hi g6
      exact ⟨_, vs, file, tf, flags, tg, inF, text, tt, X _ _ q, rfl, rfl, k1, refB_ok g2, f1, f2, f3, f4, by simpa using g7⟩
    · cases e2
/-- what is looked at, with the tables of some defs -/
def tbsT (fs : PySem.W.Frag → List Addr) (K : PySem.W.Frag) : List (Addr × Addr) := (fs K).map (tabOf K)
def cutT (fs : PySem.W.Frag → List Addr) (K : PySem.W.Frag) : PySem.W.Frag := dropF K ((tbsT fs K).map (·.2))
def apart : List Addr → Bool
  | [] => true
  | a :: r => !(r.contains a) && apart r
def obsT (h : HX) (fs : PySem.W.Frag → List Addr) (K : PySem.W.Frag) : (Bool × List He.FnV) × Bool := (obsX h (cutT fs K), (tbsT fs K).all (tabB K) && ((fs K).all (codeOf K) && (apart ((tbsT fs K).map (·.2)) && decide (fs (cutT fs K) = fs K))))
def valT (h : HX) : (Bool × List He.FnV) × Bool := (valX h, true)
def hookT (h : HX) (fs : PySem.W.Frag → List Addr) : PySem.W.Hook where
  α := (Bool × List He.FnV) × Bool
  obs := fun s => obsT h fs (He.frG s.heap.get? (dn s.heap.objs.size))
  val := fun _ => valT h
  says := fun _ hp => ∃ K : PySem.W.Frag, K.In hp ∧ obsT h fs K = valT h
  of := fun _ _ e => ⟨_, He.frG_in, e⟩
  keeps := fun _ _ _ ⟨K, hK, c⟩ k => ⟨K, PySem.W.Frag.In.keeps hK k, c⟩
def obT (h : HX) (fs : PySem.W.Frag → List Addr) (s : PySem.W.SharedT) : (Bool × List He.FnV) × Bool := obsT h fs (He.frG (HandSHeadRun.getT s) (dn s.n))
theorem obT_eq (h : HX) (fs : PySem.W.Frag → List Addr) (s : PySem.W.SharedT) : obT h fs s = (hookT h fs).obs s.abs := by
  have e : HandSHeadRun.getT s = s.abs.heap.get? := funext fun a => HandSHeadRun.getT_eq s a
  have e2 : s.abs.heap.objs.size = s.n := PySem.W.absHeap_size s.tree s.n s.life
  show obsT h fs (He.frG (HandSHeadRun.getT s) (dn s.n)) = obsT h fs (He.frG s.abs.heap.get? (dn s.abs.heap.objs.size))
  rw [e, e2]
/-- a law whose defs make lambdas, its head run: T are the tables -/
theorem walk_lawT {l : PySem.W.OpenLaw} {q : Program} {loose : List Str} {XP : (Str → Option Value) → Heap → Prop} {d : DefRec} {hx : HX} {fs : PySem.W.Frag → List Addr} (k : Nat) (hn : l.most = some 63) (hdf : d.params.defaults = []) (hr : Room k callerA)
    (F : ∀ (w : World) (G K : PySem.W.Frag) (mg : Str → Option Value) (fa : Addr) (h : Heap), K = cutT fs G → G.In h → K.In h → SaysX hx K → (fs G).all (codeOf G) = true → apart ((tbsT fs G).map (·.2)) = true → fs K = fs G → h.Ns mainGlobals mg → mg d.name = some (.ref fa) →
      ∃ (fd : FuncData) (T : List (Addr × Str)), T.map (·.1) = (tbsT fs G).map (·.2) ∧ (∀ (s : Shared) (u : Value), BindsTo s fd ⟨[u], []⟩ [("script", u)]) ∧ ∀ base : Heap, K.In base → base.Ns mainGlobals mg → (∀ t ∈ tbsT fs G, LamX.TabB base mg t.1 t.2) → FnG l.prog w K mg base CX0 k fa fd ["script"] (spLaw T K)) :
    PySem.W.WalkO q loose XP (hookT hx fs).says l.row.toRowW d [] (fun f vs => PySem.call f vs) := by
  refine Att.attach_call hn hdf fun w s₀ s₁ mg mb fa o pm cd doc a vs ns G Y ho hd hcd hmg hobj hints hlen hg => ?_
  obtain ⟨K0, K0X, c⟩ := Y
  have c1 : obsX hx (cutT fs K0) = valX hx := congrArg (fun z : (Bool × List He.FnV) × Bool => z.1) c
  have c2 : ((tbsT fs K0).all (tabB K0) && ((fs K0).all (codeOf K0) && (apart ((tbsT fs K0).map (·.2)) && decide (fs (cutT fs K0) = fs K0)))) = true := congrArg (fun z : (Bool × List He.FnV) × Bool => z.2) c
  simp only [Bool.and_eq_true] at c2
  obtain ⟨c2, c3, c4, c5⟩ := c2
  have KX : (cutT fs K0).In s₁.heap := dropF_in K0X
  obtain ⟨fd, T, hTm, hb, hF⟩ := F w K0 (cutT fs K0) mg fa _ rfl K0X KX c1 c3 c4 (of_decide_eq_true c5) G.T.g hmg
  have tb : ∀ t ∈ tbsT fs K0, s₁.heap.get? t.2 = some { cls := .none, data := .fields #[] } ∧ PySem.W.CodeHd s₁.heap t.1 t.2 := fun t ht => tabB_ok (List.all_eq_true.mp c2 t ht) K0X
  obtain ⟨H0, S0⟩ := ScriptAt.make (P := l.prog) (w := w) KX hobj hints (Nat.le_trans hlen (by decide))
  obtain ⟨H, S⟩ := ScriptTb.make (ts := tbsT fs K0) S0 hobj fun t ht => (tb t ht).1
  refine law_atT S KX G.T.g G.T.b G.T.builtins G.T.nolimit hg (fun t ht => (tb t ht).1) (fun t ht => dropF_no (List.mem_map.mpr ⟨t, ht, rfl⟩)) (fun t ht => (tb t ht).2) G.T.bmain hobj hr hF hb ⟨a, ns, rfl, S.seq, fun t ht => ?_, hlen, fun _ => rfl⟩
  have : t.1 ∈ (tbsT fs K0).map (·.2) := by rw [← hTm]; exact List.mem_map.mpr ⟨t, ht, rfl⟩
  obtain ⟨y, hy, e⟩ := List.mem_map.mp this
  rw [← e]
  exact S.tab y hy
theorem apart_uq : ∀ {T : List (Addr × Str)}, apart (T.map (·.1)) = true → ∀ t ∈ T, ∀ t' ∈ T, t.1 = t'.1 → t.2 = t'.2
  | [], _, t, ht, _, _, _ => by cases ht
  | y :: r, h, t, ht, t', ht', e => by
    have h : (!((r.map (·.1)).contains y.1) && apart (r.map (·.1))) = true := h
    rw [Bool.and_eq_true] at h
    have no : ∀ z ∈ r, z.1 ≠ y.1 := fun z hz q => by
      have : (r.map (·.1)).contains y.1 = true := by
        rw [List.contains_iff_mem]
        exact List.mem_map.mpr ⟨z, hz, q⟩
      rw [this] at h; cases h.1
    rcases List.mem_cons.mp ht with e1 | h1
    · rcases List.mem_cons.mp ht' with e2 | h2
      · rw [e1, e2]
      · exact absurd (e.symm.trans (by rw [e1])) (no t' h2)
    · rcases List.mem_cons.mp ht' with e2 | h2
      · exact absurd (e.trans (by rw [e2])) (no t h1)
      · exact apart_uq h.2 t h1 t' h2 e
end DL
set_option Elab.async false
set_option linter.all false
set_option maxRecDepth 100000
set_option maxHeartbeats 2000000
namespace K42
open PySem PySem.Spec PyProof.Rows L2 DL
def top (i : Nat) : Stmt := PySem.Challenge.pw_countededges_k42_classes_of_errors.main.body.getD i (.Pass ⟨0, 0, 0, 0⟩)
noncomputable section
set_option genInjectivity false
set_option genSizeOf false
structure Ad where
  w : World
  NothingToUndo : Addr
  CountError : Addr
  BadArgument : Addr
  xi_BadArgument : Addr
  xd_BadArgument : FuncData
  BadProgram : Addr
  xi_BadProgram : Addr
  xd_BadProgram : FuncData
  BadPlace : Addr
  xi_BadPlace : Addr
  xd_BadPlace : FuncData
  BadWay : Addr
  xi_BadWay : Addr
  xd_BadWay : FuncData
  BadRun : Addr
  xi_BadRun : Addr
  xd_BadRun : FuncData
  BadCounter : Addr
  xi_BadCounter : Addr
  xd_BadCounter : FuncData
  BadLot : Addr
  xi_BadLot : Addr
  xd_BadLot : FuncData
  NoLot : Addr
  xi_NoLot : Addr
  xd_NoLot : FuncData
  BadNumber : Addr
  xi_BadNumber : Addr
  xd_BadNumber : FuncData
  BadValues : Addr
  xi_BadValues : Addr
  xd_BadValues : FuncData
  NotTold : Addr
  xi_NotTold : Addr
  xd_NotTold : FuncData
  Rings : Addr
  xi_Rings : Addr
  xd_Rings : FuncData
  BadCosts : Addr
  xi_BadCosts : Addr
  xd_BadCosts : FuncData
  BadLevels : Addr
  xi_BadLevels : Addr
  xd_BadLevels : FuncData
  TooMany : Addr
  xi_TooMany : Addr
  xd_TooMany : FuncData
  BadChange : Addr
  xi_BadChange : Addr
  xd_BadChange : FuncData
  BadText : Addr
  xi_BadText : Addr
  xd_BadText : FuncData
  BadName : Addr
  xi_BadName : Addr
  xd_BadName : FuncData
  NameTaken : Addr
  xi_NameTaken : Addr
  xd_NameTaken : FuncData
  UnknownName : Addr
  xi_UnknownName : Addr
  xd_UnknownName : FuncData
  FailedDeed : Addr
  xi_FailedDeed : Addr
  xd_FailedDeed : FuncData
  BadCommand : Addr
  xi_BadCommand : Addr
  xd_BadCommand : FuncData
  v__law_numbers : Addr
  d__law_numbers : FuncData
  v__law_pool : Addr
  d__law_pool : FuncData
  v__law_draw : Addr
  d__law_draw : FuncData
  v__law_objects : Addr
  d__law_objects : FuncData
  v__law_classes : Addr
  d__law_classes : FuncData
  v__law_fields : Addr
  d__law_fields : FuncData
  v__law_caught : Addr
  d__law_caught : FuncData
  v__law_opened : Addr
  d__law_opened : FuncData
  v_law : Addr
  d_law : FuncData
def T0 (a : Ad) : List (Addr × Str) := []
structure Txt (K : PySem.W.Frag) (mg : Str → Option Value) (base : Heap) (a : Ad) : Prop where
  F__law_numbers : Fun K "_law_numbers" "_law_numbers" (top 26) a.v__law_numbers a.d__law_numbers
  B__law_numbers : Binds K a.d__law_numbers ["cell", "salt", "sizes"] []
  m__law_numbers : mg "_law_numbers" = some (.ref a.v__law_numbers)
  F__law_pool : Fun K "_law_pool" "_law_pool" (top 27) a.v__law_pool a.d__law_pool
  B__law_pool : Binds K a.d__law_pool ["cell", "salt", "many"] []
  m__law_pool : mg "_law_pool" = some (.ref a.v__law_pool)
  F__law_draw : Fun K "_law_draw" "_law_draw" (top 28) a.v__law_draw a.d__law_draw
  B__law_draw : Binds K a.d__law_draw ["pool", "many"] []
  m__law_draw : mg "_law_draw" = some (.ref a.v__law_draw)
  F__law_objects : Fun K "_law_objects" "_law_objects" (top 30) a.v__law_objects a.d__law_objects
  B__law_objects : Binds K a.d__law_objects ["thing"] []
  m__law_objects : mg "_law_objects" = some (.ref a.v__law_objects)
  F__law_classes : Fun K "_law_classes" "_law_classes" (top 31) a.v__law_classes a.d__law_classes
  B__law_classes : Binds K a.d__law_classes ["one"] []
  m__law_classes : mg "_law_classes" = some (.ref a.v__law_classes)
  F__law_fields : Fun K "_law_fields" "_law_fields" (top 32) a.v__law_fields a.d__law_fields
  B__law_fields : Binds K a.d__law_fields ["thing"] []
  m__law_fields : mg "_law_fields" = some (.ref a.v__law_fields)
  F__law_caught : Fun K "_law_caught" "_law_caught" (top 33) a.v__law_caught a.d__law_caught
  B__law_caught : Binds K a.d__law_caught ["thing"] []
  m__law_caught : mg "_law_caught" = some (.ref a.v__law_caught)
  F__law_opened : Fun K "_law_opened" "_law_opened" (top 29) a.v__law_opened a.d__law_opened
  B__law_opened : Binds K a.d__law_opened ["script", "k", "many"] []
  m__law_opened : mg "_law_opened" = some (.ref a.v__law_opened)
  F_law : Fun K "law" "law" (top 34) a.v_law a.d_law
  B_law : Binds K a.d_law ["script"] []
  m_law : mg "law" = some (.ref a.v_law)
  b_int : mg "int" = none
  b_max : mg "max" = none
  b_len : mg "len" = none
  b_range : mg "range" = none
  nsn_BadArgument : PySem.W.nsIn K mainGlobals "BadArgument" = some (some (.ref a.BadArgument))
  xc_BadArgument : XcI K a.BadArgument a.xi_BadArgument a.xd_BadArgument "value"
  mg_BadArgument : mg "BadArgument" = some (.ref a.BadArgument)
  nsn_BadProgram : PySem.W.nsIn K mainGlobals "BadProgram" = some (some (.ref a.BadProgram))
  xc_BadProgram : XcI K a.BadProgram a.xi_BadProgram a.xd_BadProgram "part"
  mg_BadProgram : mg "BadProgram" = some (.ref a.BadProgram)
  nsn_BadPlace : PySem.W.nsIn K mainGlobals "BadPlace" = some (some (.ref a.BadPlace))
  xc_BadPlace : XcI K a.BadPlace a.xi_BadPlace a.xd_BadPlace "value"
  mg_BadPlace : mg "BadPlace" = some (.ref a.BadPlace)
  nsn_BadWay : PySem.W.nsIn K mainGlobals "BadWay" = some (some (.ref a.BadWay))
  xc_BadWay : XcI K a.BadWay a.xi_BadWay a.xd_BadWay "value"
  mg_BadWay : mg "BadWay" = some (.ref a.BadWay)
  nsn_BadRun : PySem.W.nsIn K mainGlobals "BadRun" = some (some (.ref a.BadRun))
  xc_BadRun : XcI K a.BadRun a.xi_BadRun a.xd_BadRun "value"
  mg_BadRun : mg "BadRun" = some (.ref a.BadRun)
  nsn_BadCounter : PySem.W.nsIn K mainGlobals "BadCounter" = some (some (.ref a.BadCounter))
  xc_BadCounter : XcI K a.BadCounter a.xi_BadCounter a.xd_BadCounter "value"
  mg_BadCounter : mg "BadCounter" = some (.ref a.BadCounter)
  nsn_BadLot : PySem.W.nsIn K mainGlobals "BadLot" = some (some (.ref a.BadLot))
  xc_BadLot : XcI K a.BadLot a.xi_BadLot a.xd_BadLot "value"
  mg_BadLot : mg "BadLot" = some (.ref a.BadLot)
  nsn_NoLot : PySem.W.nsIn K mainGlobals "NoLot" = some (some (.ref a.NoLot))
  xc_NoLot : XcI K a.NoLot a.xi_NoLot a.xd_NoLot "reason"
  mg_NoLot : mg "NoLot" = some (.ref a.NoLot)
  nsn_BadNumber : PySem.W.nsIn K mainGlobals "BadNumber" = some (some (.ref a.BadNumber))
  xc_BadNumber : XcI K a.BadNumber a.xi_BadNumber a.xd_BadNumber "value"
  mg_BadNumber : mg "BadNumber" = some (.ref a.BadNumber)
  nsn_BadValues : PySem.W.nsIn K mainGlobals "BadValues" = some (some (.ref a.BadValues))
  xc_BadValues : XcI K a.BadValues a.xi_BadValues a.xd_BadValues "value"
  mg_BadValues : mg "BadValues" = some (.ref a.BadValues)
  nsn_NotTold : PySem.W.nsIn K mainGlobals "NotTold" = some (some (.ref a.NotTold))
  xc_NotTold : XcI K a.NotTold a.xi_NotTold a.xd_NotTold "counter"
  mg_NotTold : mg "NotTold" = some (.ref a.NotTold)
  nsn_Rings : PySem.W.nsIn K mainGlobals "Rings" = some (some (.ref a.Rings))
  xc_Rings : XcI K a.Rings a.xi_Rings a.xd_Rings "ring"
  mg_Rings : mg "Rings" = some (.ref a.Rings)
  nsn_BadCosts : PySem.W.nsIn K mainGlobals "BadCosts" = some (some (.ref a.BadCosts))
  xc_BadCosts : XcI K a.BadCosts a.xi_BadCosts a.xd_BadCosts "value"
  mg_BadCosts : mg "BadCosts" = some (.ref a.BadCosts)
  nsn_BadLevels : PySem.W.nsIn K mainGlobals "BadLevels" = some (some (.ref a.BadLevels))
  xc_BadLevels : XcI K a.BadLevels a.xi_BadLevels a.xd_BadLevels "value"
  mg_BadLevels : mg "BadLevels" = some (.ref a.BadLevels)
  nsn_TooMany : PySem.W.nsIn K mainGlobals "TooMany" = some (some (.ref a.TooMany))
  xc_TooMany : XcI K a.TooMany a.xi_TooMany a.xd_TooMany "number"
  mg_TooMany : mg "TooMany" = some (.ref a.TooMany)
  nsn_BadChange : PySem.W.nsIn K mainGlobals "BadChange" = some (some (.ref a.BadChange))
  xc_BadChange : XcI K a.BadChange a.xi_BadChange a.xd_BadChange "value"
  mg_BadChange : mg "BadChange" = some (.ref a.BadChange)
  nsn_BadText : PySem.W.nsIn K mainGlobals "BadText" = some (some (.ref a.BadText))
  xc_BadText : XcI K a.BadText a.xi_BadText a.xd_BadText "at"
  mg_BadText : mg "BadText" = some (.ref a.BadText)
  nsn_BadName : PySem.W.nsIn K mainGlobals "BadName" = some (some (.ref a.BadName))
  xc_BadName : XcI K a.BadName a.xi_BadName a.xd_BadName "value"
  mg_BadName : mg "BadName" = some (.ref a.BadName)
  nsn_NameTaken : PySem.W.nsIn K mainGlobals "NameTaken" = some (some (.ref a.NameTaken))
  xc_NameTaken : XcI K a.NameTaken a.xi_NameTaken a.xd_NameTaken "name"
  mg_NameTaken : mg "NameTaken" = some (.ref a.NameTaken)
  nsn_UnknownName : PySem.W.nsIn K mainGlobals "UnknownName" = some (some (.ref a.UnknownName))
  xc_UnknownName : XcI K a.UnknownName a.xi_UnknownName a.xd_UnknownName "name"
  mg_UnknownName : mg "UnknownName" = some (.ref a.UnknownName)
  nsn_FailedDeed : PySem.W.nsIn K mainGlobals "FailedDeed" = some (some (.ref a.FailedDeed))
  xc_FailedDeed : XcI K a.FailedDeed a.xi_FailedDeed a.xd_FailedDeed "at"
  mg_FailedDeed : mg "FailedDeed" = some (.ref a.FailedDeed)
  nsn_NothingToUndo : PySem.W.nsIn K mainGlobals "NothingToUndo" = some (some (.ref a.NothingToUndo))
  x0_NothingToUndo : XcZ K a.NothingToUndo
  mg_NothingToUndo : mg "NothingToUndo" = some (.ref a.NothingToUndo)
  nsn_BadCommand : PySem.W.nsIn K mainGlobals "BadCommand" = some (some (.ref a.BadCommand))
  xc_BadCommand : XcI K a.BadCommand a.xi_BadCommand a.xd_BadCommand "line"
  mg_BadCommand : mg "BadCommand" = some (.ref a.BadCommand)
  isx_BadArgument : IsX K (.ref a.BadArgument) [true, false, false, false, false, false, false, false, false, false, false, false, false, false, false, false, false, false, false, false, false, false, false]
  b_isinstance : mg "isinstance" = none
  isx_BadProgram : IsX K (.ref a.BadProgram) [false, true, false, false, false, false, false, false, false, false, false, false, false, false, false, false, false, false, false, false, false, false, false]
  isx_BadPlace : IsX K (.ref a.BadPlace) [false, false, true, false, false, false, false, false, false, false, false, false, false, false, false, false, false, false, false, false, false, false, false]
  isx_BadWay : IsX K (.ref a.BadWay) [false, false, false, true, false, false, false, false, false, false, false, false, false, false, false, false, false, false, false, false, false, false, false]
  isx_BadRun : IsX K (.ref a.BadRun) [false, false, false, false, true, false, false, false, false, false, false, false, false, false, false, false, false, false, false, false, false, false, false]
  isx_BadCounter : IsX K (.ref a.BadCounter) [false, false, false, false, false, true, false, false, false, false, false, false, false, false, false, false, false, false, false, false, false, false, false]
  isx_BadLot : IsX K (.ref a.BadLot) [false, false, false, false, false, false, true, false, false, false, false, false, false, false, false, false, false, false, false, false, false, false, false]
  isx_NoLot : IsX K (.ref a.NoLot) [false, false, false, false, false, false, false, true, false, false, false, false, false, false, false, false, false, false, false, false, false, false, false]
  isx_BadNumber : IsX K (.ref a.BadNumber) [false, false, false, false, false, false, false, false, true, false, false, false, false, false, false, false, false, false, false, false, false, false, false]
  isx_BadValues : IsX K (.ref a.BadValues) [false, false, false, false, false, false, false, false, false, true, false, false, false, false, false, false, false, false, false, false, false, false, false]
  isx_NotTold : IsX K (.ref a.NotTold) [false, false, false, false, false, false, false, false, false, false, true, false, false, false, false, false, false, false, false, false, false, false, false]
  isx_Rings : IsX K (.ref a.Rings) [false, false, false, false, false, false, false, false, false, false, false, true, false, false, false, false, false, false, false, false, false, false, false]
  isx_BadCosts : IsX K (.ref a.BadCosts) [false, false, false, false, false, false, false, false, false, false, false, false, true, false, false, false, false, false, false, false, false, false, false]
  isx_BadLevels : IsX K (.ref a.BadLevels) [false, false, false, false, false, false, false, false, false, false, false, false, false, true, false, false, false, false, false, false, false, false, false]
  isx_TooMany : IsX K (.ref a.TooMany) [false, false, false, false, false, false, false, false, false, false, false, false, false, false, true, false, false, false, false, false, false, false, false]
  isx_BadChange : IsX K (.ref a.BadChange) [false, false, false, false, false, false, false, false, false, false, false, false, false, false, false, true, false, false, false, false, false, false, false]
  isx_BadText : IsX K (.ref a.BadText) [false, false, false, false, false, false, false, false, false, false, false, false, false, false, false, false, true, false, false, false, false, false, false]
  isx_BadName : IsX K (.ref a.BadName) [false, false, false, false, false, false, false, false, false, false, false, false, false, false, false, false, false, true, false, false, false, false, false]
  isx_NameTaken : IsX K (.ref a.NameTaken) [false, false, false, false, false, false, false, false, false, false, false, false, false, false, false, false, false, false, true, false, false, false, false]
  isx_UnknownName : IsX K (.ref a.UnknownName) [false, false, false, false, false, false, false, false, false, false, false, false, false, false, false, false, false, false, false, true, false, false, false]
  isx_FailedDeed : IsX K (.ref a.FailedDeed) [false, false, false, false, false, false, false, false, false, false, false, false, false, false, false, false, false, false, false, false, true, false, false]
  isx_NothingToUndo : IsX K (.ref a.NothingToUndo) [false, false, false, false, false, false, false, false, false, false, false, false, false, false, false, false, false, false, false, false, false, true, false]
  isx_BadCommand : IsX K (.ref a.BadCommand) [false, false, false, false, false, false, false, false, false, false, false, false, false, false, false, false, false, false, false, false, false, false, true]
  xw_BadArgument : XcK a.xd_BadArgument "value"
  xw_BadProgram : XcK a.xd_BadProgram "part"
  xw_BadPlace : XcK a.xd_BadPlace "value"
  xw_BadWay : XcK a.xd_BadWay "value"
  xw_BadRun : XcK a.xd_BadRun "value"
  xw_BadCounter : XcK a.xd_BadCounter "value"
  xw_BadLot : XcK a.xd_BadLot "value"
  xw_NoLot : XcK a.xd_NoLot "reason"
  xw_BadNumber : XcK a.xd_BadNumber "value"
  xw_BadValues : XcK a.xd_BadValues "value"
  xw_NotTold : XcK a.xd_NotTold "counter"
  xw_Rings : XcK a.xd_Rings "ring"
  xw_BadCosts : XcK a.xd_BadCosts "value"
  xw_BadLevels : XcK a.xd_BadLevels "value"
  xw_TooMany : XcK a.xd_TooMany "number"
  xw_BadChange : XcK a.xd_BadChange "value"
  xw_BadName : XcK a.xd_BadName "value"
  xw_NameTaken : XcK a.xd_NameTaken "name"
  xw_UnknownName : XcK a.xd_UnknownName "name"
  xw_BadCommand : XcK a.xd_BadCommand "line"
  ex_BadWay_BadWay : PySem.W.exmOne K (.ref a.BadWay) (.ref a.BadWay) = some true
  ex_CountError_BadWay : PySem.W.exmOne K (.ref a.CountError) (.ref a.BadWay) = some false
  ex_BadRun_BadWay : PySem.W.exmOne K (.ref a.BadRun) (.ref a.BadWay) = some false
  ex_CountError_CountError : PySem.W.exmOne K (.ref a.CountError) (.ref a.CountError) = some true
  ex_BadRun_CountError : PySem.W.exmOne K (.ref a.BadRun) (.ref a.CountError) = some true
  mg_CountError : mg "CountError" = some (.ref a.CountError)
  b_str : mg "str" = none
  b_enumerate : mg "enumerate" = none
  isx_CountError : IsX K (.ref a.CountError) [true, true, true, true, true, true, true, true, true, true, true, true, true, true, true, true, true, true, true, true, true, true, true]
  b_min : mg "min" = none
  uq : ∀ t ∈ T0 a, ∀ t' ∈ T0 a, t.1 = t'.1 → t.2 = t'.2
section
variable {P : Program} {K : PySem.W.Frag} {mg : Str → Option Value} {base : Heap} {a : Ad}
abbrev s__law_numbers : Stmt := top 26
theorem sc__law_numbers : FnScope ["cell", "salt", "sizes", "whole", "left", "result", "k", "one"] ["cell", "salt", "sizes"] (defScope s__law_numbers) := ⟨rfl, rfl, rfl, by decide +kernel, rfl, by decide +kernel, by decide +kernel⟩
def lb1__law_numbers (a : Ad) : SF :=
  sqF (ifF (andF (tvF (op2F geD (vF 3) (op2F powD (cF (.int 10)) (cF (.int 18))))) (tvF (op2F gtD (vF 4) (cF (.int 0))))) (sqF (apF 5 (op2F modD (callF (one D.toInt) (consF (vF 4) nilF)) (op2F D.item (vF 2) (vF 6)))) (sqF (stF 4 (op2F fdivD (vF 4) (op2F D.item (vF 2) (vF 6)))) skF)) (sqF (stF 7 (op2F powD (op2F D.add (op2F D.add (op2F modD (callF (one D.toInt) (consF (vF 3) nilF)) (cF (.int 2147483629))) (op2F mulD (cF (.int 7919)) (vF 1))) (cF (.int 1))) (cF (.int 3)))) (sqF (stF 7 (op2F mulD (op2F D.add (op2F modD (callF (one D.toInt) (consF (vF 7) nilF)) (cF (.int 2147483647))) (op2F mulD (cF (.int 104729)) (op2F D.add (vF 6) (cF (.int 1))))) (op2F D.add (vF 6) (cF (.int 3))))) (sqF (stF 7 (op2F modD (callF (one D.toInt) (consF (vF 7) nilF)) (cF (.int 2147483629)))) (sqF (stF 7 (op2F mulD (op2F modD (callF (one D.toInt) (consF (op2F powD (vF 7) (cF (.int 5))) nilF)) (cF (.int 2147483647))) (cF (.int 48271)))) (sqF (stF 7 (op2F modD (callF (one D.toInt) (consF (vF 7) nilF)) (cF (.int 2147483629)))) (sqF (apF 5 (op2F modD (callF (one D.toInt) (consF (op2F fdivD (vF 7) (cF (.int 16))) nilF)) (op2F D.item (vF 2) (vF 6)))) skF))))))) skF
def g__law_numbers (a : Ad) : SF :=
  sqF (stF 3 (callF (two D.max2) (consF (callF (one D.toInt) (consF (vF 0) nilF)) (consF (callF (one D.toInt) (consF (op2F subD (negF (cF (.int 1))) (vF 0)) nilF)) nilF)))) (sqF (stF 4 (vF 3)) (sqF (stF 5 (lstF nilF)) (sqF (foF (wkF rg1 (consF (callF (one D.len) (consF (vF 2) nilF)) nilF)) (nmF 6) (lb1__law_numbers a)) (sqF (reF (vF 5)) skF))))
def f__law_numbers (a : Ad) : List D → R D := runF 8 (g__law_numbers a)
theorem ok__law_numbers (T : Txt K mg base a) : FnOk P a.w K mg base (L2.CX P a.w) 1 a.v__law_numbers a.d__law_numbers ["cell", "salt", "sizes"] (spD K .fr [.sb, .sb, .sb] (f__law_numbers a)) :=
  fnF_mk (N := ["cell", "salt", "sizes", "whole", "left", "result", "k", "one"]) (G0 := g__law_numbers a) (ms := [.sb, .sb, .sb]) (mE := [.sb, .sb, .sb, .no, .no, .no, .no, .no]) T.F__law_numbers sc__law_numbers rfl (by decide) fun cdv A outer s H E hr tk =>
    have hu := hr.units
    dss_cons (ds_set (dx_blt (cd_max2 rfl) T.b_max rfl (ax_b (Dx.bo (dx_bty cd_int T.b_int rfl (ax_b (dx_b rfl (.inl rfl) rfl) ax_nil))) (ax_b (Dx.bo (dx_bty cd_int T.b_int rfl (ax_b (Dx.bo (dx_bin od_sub (Dx.bo (dx_neg (Dx.bo dx_int))) (dx_b rfl (.inl rfl) rfl))) ax_nil))) ax_nil))) sc__law_numbers.nd rfl (.inl rfl)) (dss_cons (ds_set (dx_v rfl (.inl rfl) rfl) sc__law_numbers.nd rfl (.inl rfl)) (dss_cons (ds_own (dx_lst ax_nil) sc__law_numbers.nd rfl (.inl rfl)) (dss_cons (ds_for (m := [.sb, .sb, .sb, .sh, .sh, .ow, .no, .no]) (passes_of rfl) rfl (di_range1 (ax_b (Dx.bo (dx_blt cd_len T.b_len rfl (ax_b (dx_b rfl (.inl rfl) rfl) ax_nil))) ax_nil) T.b_range) (tg_name sc__law_numbers.nd rfl (.inl rfl)) (dss_cons (ds_if (m' := [.sb, .sb, .sb, .sh, .sh, .ow, .sh, .no]) ((tw_and (tx_cmp od_ge (Dx.bo (dx_v rfl (.inl rfl) rfl)) (Dx.bo (dx_bin od_pow (Dx.bo dx_int) (Dx.bo dx_int)))) (tw_and1 (tx_cmp od_gt (Dx.bo (dx_v rfl (.inl rfl) rfl)) (Dx.bo dx_int)))).tx) (dss_cons (ds_app (dx_bin od_mod (Dx.bo (dx_bty cd_int T.b_int rfl (ax_b (Dx.bo (dx_v rfl (.inl rfl) rfl)) ax_nil))) (Dx.bo (dx_sub (dx_b rfl (.inl rfl) rfl) (Dx.bo (dx_v rfl (.inl rfl) rfl)) hu))) rfl (.inl rfl) (.inl rfl)) (dss_cons (ds_set (dx_bin od_fdiv (Dx.bo (dx_v rfl (.inl rfl) rfl)) (Dx.bo (dx_sub (dx_b rfl (.inl rfl) rfl) (Dx.bo (dx_v rfl (.inl rfl) rfl)) hu))) sc__law_numbers.nd rfl (.inl rfl)) dss_nil)) (dss_cons (ds_set (dx_bin od_pow (Dx.bo (dx_bin od_add (Dx.bo (dx_bin od_add (Dx.bo (dx_bin od_mod (Dx.bo (dx_bty cd_int T.b_int rfl (ax_b (Dx.bo (dx_v rfl (.inl rfl) rfl)) ax_nil))) (Dx.bo dx_int))) (Dx.bo (dx_bin od_mulI (Dx.bo dx_int) (dx_b rfl (.inl rfl) rfl))))) (Dx.bo dx_int))) (Dx.bo dx_int)) sc__law_numbers.nd rfl (.inl rfl)) (dss_cons (ds_set (dx_bin od_mulI (Dx.bo (dx_bin od_add (Dx.bo (dx_bin od_mod (Dx.bo (dx_bty cd_int T.b_int rfl (ax_b (Dx.bo (dx_v rfl (.inl rfl) rfl)) ax_nil))) (Dx.bo dx_int))) (Dx.bo (dx_bin od_mulI (Dx.bo dx_int) (Dx.bo (dx_bin od_add (Dx.bo (dx_v rfl (.inl rfl) rfl)) (Dx.bo dx_int))))))) (Dx.bo (dx_bin od_add (Dx.bo (dx_v rfl (.inl rfl) rfl)) (Dx.bo dx_int)))) sc__law_numbers.nd rfl (.inl rfl)) (dss_cons (ds_set (dx_bin od_mod (Dx.bo (dx_bty cd_int T.b_int rfl (ax_b (Dx.bo (dx_v rfl (.inl rfl) rfl)) ax_nil))) (Dx.bo dx_int)) sc__law_numbers.nd rfl (.inl rfl)) (dss_cons (ds_set (dx_bin od_mulI (Dx.bo (dx_bin od_mod (Dx.bo (dx_bty cd_int T.b_int rfl (ax_b (Dx.bo (dx_bin od_pow (Dx.bo (dx_v rfl (.inl rfl) rfl)) (Dx.bo dx_int))) ax_nil))) (Dx.bo dx_int))) (Dx.bo dx_int)) sc__law_numbers.nd rfl (.inl rfl)) (dss_cons (ds_set (dx_bin od_mod (Dx.bo (dx_bty cd_int T.b_int rfl (ax_b (Dx.bo (dx_v rfl (.inl rfl) rfl)) ax_nil))) (Dx.bo dx_int)) sc__law_numbers.nd rfl (.inl rfl)) (dss_cons (ds_app (dx_bin od_mod (Dx.bo (dx_bty cd_int T.b_int rfl (ax_b (Dx.bo (dx_bin od_fdiv (Dx.bo (dx_v rfl (.inl rfl) rfl)) (Dx.bo dx_int))) ax_nil))) (Dx.bo (dx_sub (dx_b rfl (.inl rfl) rfl) (Dx.bo (dx_v rfl (.inl rfl) rfl)) hu))) rfl (.inl rfl) (.inl rfl)) (dss_weak (m2 := [.sb, .sb, .sb, .sh, .sh, .ow, .sh, .no]) dss_nil)))))))) (dss_weak (m2 := [.sb, .sb, .sb, .sh, .sh, .ow, .no, .no]) dss_nil))) (dss_cons (ds_retO rfl (.inl rfl) rfl) dss_nil))))
abbrev s__law_pool : Stmt := top 27
theorem sc__law_pool : FnScope ["cell", "salt", "many"] ["cell", "salt", "many"] (defScope s__law_pool) := ⟨rfl, rfl, rfl, by decide +kernel, rfl, by decide +kernel, by decide +kernel⟩
def g__law_pool (a : Ad) : SF :=
  sqF (reF (lstF (consF (callF (f__law_numbers a) (consF (vF 0) (consF (vF 1) (consF (op2F D.rep (lstF (consF (cF (.int 420)) nilF)) (vF 2)) nilF)))) (consF (cF (.int 0)) nilF)))) skF
def f__law_pool (a : Ad) : List D → R D := runF 3 (g__law_pool a)
theorem ok__law_pool (T : Txt K mg base a) : FnOk P a.w K mg base (L2.CX P a.w) 2 a.v__law_pool a.d__law_pool ["cell", "salt", "many"] (spD K .fr [.sb, .sb, .sb] (f__law_pool a)) :=
  fnF_mk (N := ["cell", "salt", "many"]) (G0 := g__law_pool a) (ms := [.sb, .sb, .sb]) (mE := [.sb, .sb, .sb]) T.F__law_pool sc__law_pool rfl (by decide) fun cdv A outer s H E hr tk =>
    have hu := hr.units
    dss_cons (ds_retF (dx_lst (ax_s ((dx_call (ok__law_numbers T) (hr.mono (by decide)) T.m__law_numbers T.F__law_numbers.kp T.B__law_numbers tk (ax_b (dx_b rfl (.inl rfl) rfl) (ax_b (dx_b rfl (.inl rfl) rfl) (ax_b (Dx.fb (dx_bin od_rep (Dx.fb (dx_lst (ax_s dx_int ax_nil))) (dx_b rfl (.inl rfl) rfl))) ax_nil)))).cl) (ax_s dx_int ax_nil)))) dss_nil
abbrev s__law_draw : Stmt := top 28
theorem sc__law_draw : FnScope ["pool", "many", "at"] ["pool", "many"] (defScope s__law_draw) := ⟨rfl, rfl, rfl, by decide +kernel, rfl, by decide +kernel, by decide +kernel⟩
def g__law_draw (a : Ad) : SF :=
  sqF (stF 2 (patF 0)) (sqF (pstF 0 (op2F D.add (vF 2) (cF (.int 1)))) (sqF (reF (ifeF (tvF (op2F ltD (vF 2) (plnF 0))) (op2F modD (callF (one D.toInt) (consF (pnumF 0 (vF 2)) nilF)) (vF 1)) (cF (.int 0)))) skF))
def f__law_draw (a : Ad) : List D → R D := runD 3 (g__law_draw a)
theorem ok__law_draw (T : Txt K mg base a) : FnOk P a.w K mg base (L2.CX P a.w) 1 a.v__law_draw a.d__law_draw ["pool", "many"] (spD K .cl [.sh, .sb] (f__law_draw a)) :=
  fnD_mk (N := ["pool", "many", "at"]) (G0 := g__law_draw a) (ms := [.sh, .sb]) (mE := [.sh, .sb, .no]) T.F__law_draw sc__law_draw rfl (by decide) fun cdv A outer s H E hr tk =>
    have hu := hr.units
    dss_cons (ds_set (dx_pat rfl (.inl rfl) rfl) sc__law_draw.nd rfl (.inl rfl)) (dss_cons (ds_pst (dx_bin od_add (Dx.bo (dx_v rfl (.inl rfl) rfl)) (Dx.bo dx_int)) rfl (.inl rfl) rfl) (dss_cons (ds_ret (dx_ife (tx_cmp od_lt (Dx.bo (dx_v rfl (.inl rfl) rfl)) (Dx.bo (dx_plen rfl (.inl rfl) rfl T.b_len))) (dx_bin od_mod (Dx.bo (dx_bty cd_int T.b_int rfl (ax_b (Dx.bo (dx_pnum (Dx.bo (dx_v rfl (.inl rfl) rfl)) rfl (.inl rfl) rfl)) ax_nil))) (dx_b rfl (.inl rfl) rfl)) dx_int)) dss_nil))
abbrev s__law_objects : Stmt := top 30
theorem sc__law_objects : FnScope ["thing", "found"] ["thing"] (defScope s__law_objects) := ⟨rfl, rfl, rfl, by decide +kernel, rfl, by decide +kernel, by decide +kernel⟩
def g__law_objects (a : Ad) : SF :=
  sqF (stF 1 (lstF (consF (xmF 0 (vF 0)) (consF (xmF 1 (vF 0)) (consF (xmF 2 (vF 0)) (consF (xmF 3 (vF 0)) (consF (xmF 4 (vF 0)) (consF (xmF 5 (vF 0)) nilF)))))))) (sqF (stF 1 (op2F D.add (vF 1) (lstF (consF (xmF 6 (vF 0)) (consF (xmF 7 (vF 0)) (consF (xmF 8 (vF 0)) (consF (xmF 9 (vF 0)) (consF (xmF 10 (vF 0)) (consF (xmF 11 (vF 0)) nilF))))))))) (sqF (stF 1 (op2F D.add (vF 1) (lstF (consF (xmF 12 (vF 0)) (consF (xmF 13 (vF 0)) (consF (xmF 14 (vF 0)) (consF (xmF 15 (vF 0)) (consF (xmF 16 (vF 0)) (consF (xmF 17 (vF 0)) nilF))))))))) (sqF (reF (op2F D.add (vF 1) (lstF (consF (xmF 18 (vF 0)) (consF (xmF 19 (vF 0)) (consF (xmF 20 (vF 0)) (consF (xzF 21) (consF (xmF 22 (vF 0)) nilF)))))))) skF)))
def f__law_objects (a : Ad) : List D → R D := runD 2 (g__law_objects a)
theorem ok__law_objects (T : Txt K mg base a) : FnOk P a.w K mg base (L2.CX P a.w) 1 a.v__law_objects a.d__law_objects ["thing"] (spD K .cl [.sh] (f__law_objects a)) :=
  fnD_mk (N := ["thing", "found"]) (G0 := g__law_objects a) (ms := [.sh]) (mE := [.sh, .no]) T.F__law_objects sc__law_objects rfl (by decide) fun cdv A outer s H E hr tk =>
    have hu := hr.units
    dss_cons (ds_set ((dx_lst (ax_s (dx_xm (j := 0) (dx_v rfl (.inl rfl) rfl) T.xc_BadArgument rfl T.nsn_BadArgument T.mg_BadArgument hr) (ax_s (dx_xm (j := 1) (dx_v rfl (.inl rfl) rfl) T.xc_BadProgram rfl T.nsn_BadProgram T.mg_BadProgram hr) (ax_s (dx_xm (j := 2) (dx_v rfl (.inl rfl) rfl) T.xc_BadPlace rfl T.nsn_BadPlace T.mg_BadPlace hr) (ax_s (dx_xm (j := 3) (dx_v rfl (.inl rfl) rfl) T.xc_BadWay rfl T.nsn_BadWay T.mg_BadWay hr) (ax_s (dx_xm (j := 4) (dx_v rfl (.inl rfl) rfl) T.xc_BadRun rfl T.nsn_BadRun T.mg_BadRun hr) (ax_s (dx_xm (j := 5) (dx_v rfl (.inl rfl) rfl) T.xc_BadCounter rfl T.nsn_BadCounter T.mg_BadCounter hr) ax_nil))))))).cl) sc__law_objects.nd rfl (.inl rfl)) (dss_cons (ds_set (dx_bin od_add (Dx.bo (dx_v rfl (.inl rfl) rfl)) (Dx.fb (dx_lst (ax_s (dx_xm (j := 6) (dx_v rfl (.inl rfl) rfl) T.xc_BadLot rfl T.nsn_BadLot T.mg_BadLot hr) (ax_s (dx_xm (j := 7) (dx_v rfl (.inl rfl) rfl) T.xc_NoLot rfl T.nsn_NoLot T.mg_NoLot hr) (ax_s (dx_xm (j := 8) (dx_v rfl (.inl rfl) rfl) T.xc_BadNumber rfl T.nsn_BadNumber T.mg_BadNumber hr) (ax_s (dx_xm (j := 9) (dx_v rfl (.inl rfl) rfl) T.xc_BadValues rfl T.nsn_BadValues T.mg_BadValues hr) (ax_s (dx_xm (j := 10) (dx_v rfl (.inl rfl) rfl) T.xc_NotTold rfl T.nsn_NotTold T.mg_NotTold hr) (ax_s (dx_xm (j := 11) (dx_v rfl (.inl rfl) rfl) T.xc_Rings rfl T.nsn_Rings T.mg_Rings hr) ax_nil))))))))) sc__law_objects.nd rfl (.inl rfl)) (dss_cons (ds_set (dx_bin od_add (Dx.bo (dx_v rfl (.inl rfl) rfl)) (Dx.fb (dx_lst (ax_s (dx_xm (j := 12) (dx_v rfl (.inl rfl) rfl) T.xc_BadCosts rfl T.nsn_BadCosts T.mg_BadCosts hr) (ax_s (dx_xm (j := 13) (dx_v rfl (.inl rfl) rfl) T.xc_BadLevels rfl T.nsn_BadLevels T.mg_BadLevels hr) (ax_s (dx_xm (j := 14) (dx_v rfl (.inl rfl) rfl) T.xc_TooMany rfl T.nsn_TooMany T.mg_TooMany hr) (ax_s (dx_xm (j := 15) (dx_v rfl (.inl rfl) rfl) T.xc_BadChange rfl T.nsn_BadChange T.mg_BadChange hr) (ax_s (dx_xm (j := 16) (dx_v rfl (.inl rfl) rfl) T.xc_BadText rfl T.nsn_BadText T.mg_BadText hr) (ax_s (dx_xm (j := 17) (dx_v rfl (.inl rfl) rfl) T.xc_BadName rfl T.nsn_BadName T.mg_BadName hr) ax_nil))))))))) sc__law_objects.nd rfl (.inl rfl)) (dss_cons (ds_ret (dx_bin od_add (Dx.bo (dx_v rfl (.inl rfl) rfl)) (Dx.fb (dx_lst (ax_s (dx_xm (j := 18) (dx_v rfl (.inl rfl) rfl) T.xc_NameTaken rfl T.nsn_NameTaken T.mg_NameTaken hr) (ax_s (dx_xm (j := 19) (dx_v rfl (.inl rfl) rfl) T.xc_UnknownName rfl T.nsn_UnknownName T.mg_UnknownName hr) (ax_s (dx_xm (j := 20) (dx_v rfl (.inl rfl) rfl) T.xc_FailedDeed rfl T.nsn_FailedDeed T.mg_FailedDeed hr) (ax_s (dx_x0 (j := 21) T.x0_NothingToUndo rfl T.nsn_NothingToUndo T.mg_NothingToUndo) (ax_s (dx_xm (j := 22) (dx_v rfl (.inl rfl) rfl) T.xc_BadCommand rfl T.nsn_BadCommand T.mg_BadCommand hr) ax_nil))))))))) dss_nil)))
abbrev s__law_classes : Stmt := top 31
theorem sc__law_classes : FnScope ["one", "found"] ["one"] (defScope s__law_classes) := ⟨rfl, rfl, rfl, by decide +kernel, rfl, by decide +kernel, by decide +kernel⟩
def g__law_classes (a : Ad) : SF :=
  sqF (stF 1 (lstF (consF (callF (isxF (.ref a.BadArgument) [true, false, false, false, false, false, false, false, false, false, false, false, false, false, false, false, false, false, false, false, false, false, false]) (consF (vF 0) (consF (cF (.ob (.ref a.BadArgument))) nilF))) (consF (callF (isxF (.ref a.BadProgram) [false, true, false, false, false, false, false, false, false, false, false, false, false, false, false, false, false, false, false, false, false, false, false]) (consF (vF 0) (consF (cF (.ob (.ref a.BadProgram))) nilF))) (consF (callF (isxF (.ref a.BadPlace) [false, false, true, false, false, false, false, false, false, false, false, false, false, false, false, false, false, false, false, false, false, false, false]) (consF (vF 0) (consF (cF (.ob (.ref a.BadPlace))) nilF))) nilF))))) (sqF (stF 1 (op2F D.add (vF 1) (lstF (consF (callF (isxF (.ref a.BadWay) [false, false, false, true, false, false, false, false, false, false, false, false, false, false, false, false, false, false, false, false, false, false, false]) (consF (vF 0) (consF (cF (.ob (.ref a.BadWay))) nilF))) (consF (callF (isxF (.ref a.BadRun) [false, false, false, false, true, false, false, false, false, false, false, false, false, false, false, false, false, false, false, false, false, false, false]) (consF (vF 0) (consF (cF (.ob (.ref a.BadRun))) nilF))) (consF (callF (isxF (.ref a.BadCounter) [false, false, false, false, false, true, false, false, false, false, false, false, false, false, false, false, false, false, false, false, false, false, false]) (consF (vF 0) (consF (cF (.ob (.ref a.BadCounter))) nilF))) nilF)))))) (sqF (stF 1 (op2F D.add (vF 1) (lstF (consF (callF (isxF (.ref a.BadLot) [false, false, false, false, false, false, true, false, false, false, false, false, false, false, false, false, false, false, false, false, false, false, false]) (consF (vF 0) (consF (cF (.ob (.ref a.BadLot))) nilF))) (consF (callF (isxF (.ref a.NoLot) [false, false, false, false, false, false, false, true, false, false, false, false, false, false, false, false, false, false, false, false, false, false, false]) (consF (vF 0) (consF (cF (.ob (.ref a.NoLot))) nilF))) (consF (callF (isxF (.ref a.BadNumber) [false, false, false, false, false, false, false, false, true, false, false, false, false, false, false, false, false, false, false, false, false, false, false]) (consF (vF 0) (consF (cF (.ob (.ref a.BadNumber))) nilF))) nilF)))))) (sqF (stF 1 (op2F D.add (vF 1) (lstF (consF (callF (isxF (.ref a.BadValues) [false, false, false, false, false, false, false, false, false, true, false, false, false, false, false, false, false, false, false, false, false, false, false]) (consF (vF 0) (consF (cF (.ob (.ref a.BadValues))) nilF))) (consF (callF (isxF (.ref a.NotTold) [false, false, false, false, false, false, false, false, false, false, true, false, false, false, false, false, false, false, false, false, false, false, false]) (consF (vF 0) (consF (cF (.ob (.ref a.NotTold))) nilF))) (consF (callF (isxF (.ref a.Rings) [false, false, false, false, false, false, false, false, false, false, false, true, false, false, false, false, false, false, false, false, false, false, false]) (consF (vF 0) (consF (cF (.ob (.ref a.Rings))) nilF))) nilF)))))) (sqF (stF 1 (op2F D.add (vF 1) (lstF (consF (callF (isxF (.ref a.BadCosts) [false, false, false, false, false, false, false, false, false, false, false, false, true, false, false, false, false, false, false, false, false, false, false]) (consF (vF 0) (consF (cF (.ob (.ref a.BadCosts))) nilF))) (consF (callF (isxF (.ref a.BadLevels) [false, false, false, false, false, false, false, false, false, false, false, false, false, true, false, false, false, false, false, false, false, false, false]) (consF (vF 0) (consF (cF (.ob (.ref a.BadLevels))) nilF))) (consF (callF (isxF (.ref a.TooMany) [false, false, false, false, false, false, false, false, false, false, false, false, false, false, true, false, false, false, false, false, false, false, false]) (consF (vF 0) (consF (cF (.ob (.ref a.TooMany))) nilF))) nilF)))))) (sqF (stF 1 (op2F D.add (vF 1) (lstF (consF (callF (isxF (.ref a.BadChange) [false, false, false, false, false, false, false, false, false, false, false, false, false, false, false, true, false, false, false, false, false, false, false]) (consF (vF 0) (consF (cF (.ob (.ref a.BadChange))) nilF))) (consF (callF (isxF (.ref a.BadText) [false, false, false, false, false, false, false, false, false, false, false, false, false, false, false, false, true, false, false, false, false, false, false]) (consF (vF 0) (consF (cF (.ob (.ref a.BadText))) nilF))) (consF (callF (isxF (.ref a.BadName) [false, false, false, false, false, false, false, false, false, false, false, false, false, false, false, false, false, true, false, false, false, false, false]) (consF (vF 0) (consF (cF (.ob (.ref a.BadName))) nilF))) nilF)))))) (sqF (stF 1 (op2F D.add (vF 1) (lstF (consF (callF (isxF (.ref a.NameTaken) [false, false, false, false, false, false, false, false, false, false, false, false, false, false, false, false, false, false, true, false, false, false, false]) (consF (vF 0) (consF (cF (.ob (.ref a.NameTaken))) nilF))) (consF (callF (isxF (.ref a.UnknownName) [false, false, false, false, false, false, false, false, false, false, false, false, false, false, false, false, false, false, false, true, false, false, false]) (consF (vF 0) (consF (cF (.ob (.ref a.UnknownName))) nilF))) (consF (callF (isxF (.ref a.FailedDeed) [false, false, false, false, false, false, false, false, false, false, false, false, false, false, false, false, false, false, false, false, true, false, false]) (consF (vF 0) (consF (cF (.ob (.ref a.FailedDeed))) nilF))) nilF)))))) (sqF (reF (op2F D.add (vF 1) (lstF (consF (callF (isxF (.ref a.NothingToUndo) [false, false, false, false, false, false, false, false, false, false, false, false, false, false, false, false, false, false, false, false, false, true, false]) (consF (vF 0) (consF (cF (.ob (.ref a.NothingToUndo))) nilF))) (consF (callF (isxF (.ref a.BadCommand) [false, false, false, false, false, false, false, false, false, false, false, false, false, false, false, false, false, false, false, false, false, false, true]) (consF (vF 0) (consF (cF (.ob (.ref a.BadCommand))) nilF))) nilF))))) skF)))))))
def f__law_classes (a : Ad) : List D → R D := runD 2 (g__law_classes a)
theorem ok__law_classes (T : Txt K mg base a) : FnOk P a.w K mg base (L2.CX P a.w) 1 a.v__law_classes a.d__law_classes ["one"] (spD K .cl [.sb] (f__law_classes a)) :=
  fnD_mk (N := ["one", "found"]) (G0 := g__law_classes a) (ms := [.sb]) (mE := [.sb, .no]) T.F__law_classes sc__law_classes rfl (by decide) fun cdv A outer s H E hr tk =>
    have hu := hr.units
    dss_cons (ds_set ((dx_lst (ax_s (dx_blt (cd_isX T.isx_BadArgument) T.b_isinstance rfl (ax_b (dx_b rfl (.inl rfl) rfl) (ax_b (Dx.bo (dx_cn T.mg_BadArgument)) ax_nil))) (ax_s (dx_blt (cd_isX T.isx_BadProgram) T.b_isinstance rfl (ax_b (dx_b rfl (.inl rfl) rfl) (ax_b (Dx.bo (dx_cn T.mg_BadProgram)) ax_nil))) (ax_s (dx_blt (cd_isX T.isx_BadPlace) T.b_isinstance rfl (ax_b (dx_b rfl (.inl rfl) rfl) (ax_b (Dx.bo (dx_cn T.mg_BadPlace)) ax_nil))) ax_nil)))).cl) sc__law_classes.nd rfl (.inl rfl)) (dss_cons (ds_set (dx_bin od_add (Dx.bo (dx_v rfl (.inl rfl) rfl)) (Dx.fb (dx_lst (ax_s (dx_blt (cd_isX T.isx_BadWay) T.b_isinstance rfl (ax_b (dx_b rfl (.inl rfl) rfl) (ax_b (Dx.bo (dx_cn T.mg_BadWay)) ax_nil))) (ax_s (dx_blt (cd_isX T.isx_BadRun) T.b_isinstance rfl (ax_b (dx_b rfl (.inl rfl) rfl) (ax_b (Dx.bo (dx_cn T.mg_BadRun)) ax_nil))) (ax_s (dx_blt (cd_isX T.isx_BadCounter) T.b_isinstance rfl (ax_b (dx_b rfl (.inl rfl) rfl) (ax_b (Dx.bo (dx_cn T.mg_BadCounter)) ax_nil))) ax_nil)))))) sc__law_classes.nd rfl (.inl rfl)) (dss_cons (ds_set (dx_bin od_add (Dx.bo (dx_v rfl (.inl rfl) rfl)) (Dx.fb (dx_lst (ax_s (dx_blt (cd_isX T.isx_BadLot) T.b_isinstance rfl (ax_b (dx_b rfl (.inl rfl) rfl) (ax_b (Dx.bo (dx_cn T.mg_BadLot)) ax_nil))) (ax_s (dx_blt (cd_isX T.isx_NoLot) T.b_isinstance rfl (ax_b (dx_b rfl (.inl rfl) rfl) (ax_b (Dx.bo (dx_cn T.mg_NoLot)) ax_nil))) (ax_s (dx_blt (cd_isX T.isx_BadNumber) T.b_isinstance rfl (ax_b (dx_b rfl (.inl rfl) rfl) (ax_b (Dx.bo (dx_cn T.mg_BadNumber)) ax_nil))) ax_nil)))))) sc__law_classes.nd rfl (.inl rfl)) (dss_cons (ds_set (dx_bin od_add (Dx.bo (dx_v rfl (.inl rfl) rfl)) (Dx.fb (dx_lst (ax_s (dx_blt (cd_isX T.isx_BadValues) T.b_isinstance rfl (ax_b (dx_b rfl (.inl rfl) rfl) (ax_b (Dx.bo (dx_cn T.mg_BadValues)) ax_nil))) (ax_s (dx_blt (cd_isX T.isx_NotTold) T.b_isinstance rfl (ax_b (dx_b rfl (.inl rfl) rfl) (ax_b (Dx.bo (dx_cn T.mg_NotTold)) ax_nil))) (ax_s (dx_blt (cd_isX T.isx_Rings) T.b_isinstance rfl (ax_b (dx_b rfl (.inl rfl) rfl) (ax_b (Dx.bo (dx_cn T.mg_Rings)) ax_nil))) ax_nil)))))) sc__law_classes.nd rfl (.inl rfl)) (dss_cons (ds_set (dx_bin od_add (Dx.bo (dx_v rfl (.inl rfl) rfl)) (Dx.fb (dx_lst (ax_s (dx_blt (cd_isX T.isx_BadCosts) T.b_isinstance rfl (ax_b (dx_b rfl (.inl rfl) rfl) (ax_b (Dx.bo (dx_cn T.mg_BadCosts)) ax_nil))) (ax_s (dx_blt (cd_isX T.isx_BadLevels) T.b_isinstance rfl (ax_b (dx_b rfl (.inl rfl) rfl) (ax_b (Dx.bo (dx_cn T.mg_BadLevels)) ax_nil))) (ax_s (dx_blt (cd_isX T.isx_TooMany) T.b_isinstance rfl (ax_b (dx_b rfl (.inl rfl) rfl) (ax_b (Dx.bo (dx_cn T.mg_TooMany)) ax_nil))) ax_nil)))))) sc__law_classes.nd rfl (.inl rfl)) (dss_cons (ds_set (dx_bin od_add (Dx.bo (dx_v rfl (.inl rfl) rfl)) (Dx.fb (dx_lst (ax_s (dx_blt (cd_isX T.isx_BadChange) T.b_isinstance rfl (ax_b (dx_b rfl (.inl rfl) rfl) (ax_b (Dx.bo (dx_cn T.mg_BadChange)) ax_nil))) (ax_s (dx_blt (cd_isX T.isx_BadText) T.b_isinstance rfl (ax_b (dx_b rfl (.inl rfl) rfl) (ax_b (Dx.bo (dx_cn T.mg_BadText)) ax_nil))) (ax_s (dx_blt (cd_isX T.isx_BadName) T.b_isinstance rfl (ax_b (dx_b rfl (.inl rfl) rfl) (ax_b (Dx.bo (dx_cn T.mg_BadName)) ax_nil))) ax_nil)))))) sc__law_classes.nd rfl (.inl rfl)) (dss_cons (ds_set (dx_bin od_add (Dx.bo (dx_v rfl (.inl rfl) rfl)) (Dx.fb (dx_lst (ax_s (dx_blt (cd_isX T.isx_NameTaken) T.b_isinstance rfl (ax_b (dx_b rfl (.inl rfl) rfl) (ax_b (Dx.bo (dx_cn T.mg_NameTaken)) ax_nil))) (ax_s (dx_blt (cd_isX T.isx_UnknownName) T.b_isinstance rfl (ax_b (dx_b rfl (.inl rfl) rfl) (ax_b (Dx.bo (dx_cn T.mg_UnknownName)) ax_nil))) (ax_s (dx_blt (cd_isX T.isx_FailedDeed) T.b_isinstance rfl (ax_b (dx_b rfl (.inl rfl) rfl) (ax_b (Dx.bo (dx_cn T.mg_FailedDeed)) ax_nil))) ax_nil)))))) sc__law_classes.nd rfl (.inl rfl)) (dss_cons (ds_ret (dx_bin od_add (Dx.bo (dx_v rfl (.inl rfl) rfl)) (Dx.fb (dx_lst (ax_s (dx_blt (cd_isX T.isx_NothingToUndo) T.b_isinstance rfl (ax_b (dx_b rfl (.inl rfl) rfl) (ax_b (Dx.bo (dx_cn T.mg_NothingToUndo)) ax_nil))) (ax_s (dx_blt (cd_isX T.isx_BadCommand) T.b_isinstance rfl (ax_b (dx_b rfl (.inl rfl) rfl) (ax_b (Dx.bo (dx_cn T.mg_BadCommand)) ax_nil))) ax_nil)))))) dss_nil)))))))
abbrev s__law_fields : Stmt := top 32
theorem sc__law_fields : FnScope ["thing", "found"] ["thing"] (defScope s__law_fields) := ⟨rfl, rfl, rfl, by decide +kernel, rfl, by decide +kernel, by decide +kernel⟩
def g__law_fields (a : Ad) : SF :=
  sqF (stF 1 (lstF (consF (vF 0) (consF (vF 0) (consF (vF 0) nilF))))) (sqF (stF 1 (op2F D.add (vF 1) (lstF (consF (vF 0) (consF (vF 0) (consF (vF 0) nilF)))))) (sqF (stF 1 (op2F D.add (vF 1) (lstF (consF (vF 0) (consF (vF 0) (consF (vF 0) nilF)))))) (sqF (stF 1 (op2F D.add (vF 1) (lstF (consF (vF 0) (consF (vF 0) (consF (vF 0) nilF)))))) (sqF (stF 1 (op2F D.add (vF 1) (lstF (consF (vF 0) (consF (vF 0) (consF (vF 0) nilF)))))) (sqF (stF 1 (op2F D.add (vF 1) (lstF (consF (vF 0) (consF (vF 0) (consF (vF 0) nilF)))))) (sqF (stF 1 (op2F D.add (vF 1) (lstF (consF (vF 0) (consF (vF 0) (consF (vF 0) nilF)))))) (sqF (reF (op2F D.add (vF 1) (lstF (consF (vF 0) nilF)))) skF)))))))
def f__law_fields (a : Ad) : List D → R D := runD 2 (g__law_fields a)
theorem ok__law_fields (T : Txt K mg base a) : FnOk P a.w K mg base (L2.CX P a.w) 1 a.v__law_fields a.d__law_fields ["thing"] (spD K .cl [.sh] (f__law_fields a)) :=
  fnD_mk (N := ["thing", "found"]) (G0 := g__law_fields a) (ms := [.sh]) (mE := [.sh, .no]) T.F__law_fields sc__law_fields rfl (by decide) fun cdv A outer s H E hr tk =>
    have hu := hr.units
    dss_cons (ds_set ((dx_lst (ax_s (dx_xaK (dx_v rfl (.inl rfl) rfl) T.xc_BadArgument T.xw_BadArgument T.mg_BadArgument hr) (ax_s (dx_xaK (dx_v rfl (.inl rfl) rfl) T.xc_BadProgram T.xw_BadProgram T.mg_BadProgram hr) (ax_s (dx_xaK (dx_v rfl (.inl rfl) rfl) T.xc_BadPlace T.xw_BadPlace T.mg_BadPlace hr) ax_nil)))).cl) sc__law_fields.nd rfl (.inl rfl)) (dss_cons (ds_set (dx_bin od_add (Dx.bo (dx_v rfl (.inl rfl) rfl)) (Dx.fb (dx_lst (ax_s (dx_xaK (dx_v rfl (.inl rfl) rfl) T.xc_BadWay T.xw_BadWay T.mg_BadWay hr) (ax_s (dx_xaK (dx_v rfl (.inl rfl) rfl) T.xc_BadRun T.xw_BadRun T.mg_BadRun hr) (ax_s (dx_xaK (dx_v rfl (.inl rfl) rfl) T.xc_BadCounter T.xw_BadCounter T.mg_BadCounter hr) ax_nil)))))) sc__law_fields.nd rfl (.inl rfl)) (dss_cons (ds_set (dx_bin od_add (Dx.bo (dx_v rfl (.inl rfl) rfl)) (Dx.fb (dx_lst (ax_s (dx_xaK (dx_v rfl (.inl rfl) rfl) T.xc_BadLot T.xw_BadLot T.mg_BadLot hr) (ax_s (dx_xaK (dx_v rfl (.inl rfl) rfl) T.xc_NoLot T.xw_NoLot T.mg_NoLot hr) (ax_s (dx_xaK (dx_v rfl (.inl rfl) rfl) T.xc_BadNumber T.xw_BadNumber T.mg_BadNumber hr) ax_nil)))))) sc__law_fields.nd rfl (.inl rfl)) (dss_cons (ds_set (dx_bin od_add (Dx.bo (dx_v rfl (.inl rfl) rfl)) (Dx.fb (dx_lst (ax_s (dx_xaK (dx_v rfl (.inl rfl) rfl) T.xc_BadValues T.xw_BadValues T.mg_BadValues hr) (ax_s (dx_xaK (dx_v rfl (.inl rfl) rfl) T.xc_NotTold T.xw_NotTold T.mg_NotTold hr) (ax_s (dx_xaK (dx_v rfl (.inl rfl) rfl) T.xc_Rings T.xw_Rings T.mg_Rings hr) ax_nil)))))) sc__law_fields.nd rfl (.inl rfl)) (dss_cons (ds_set (dx_bin od_add (Dx.bo (dx_v rfl (.inl rfl) rfl)) (Dx.fb (dx_lst (ax_s (dx_xaK (dx_v rfl (.inl rfl) rfl) T.xc_BadCosts T.xw_BadCosts T.mg_BadCosts hr) (ax_s (dx_xaK (dx_v rfl (.inl rfl) rfl) T.xc_BadLevels T.xw_BadLevels T.mg_BadLevels hr) (ax_s (dx_xaK (dx_v rfl (.inl rfl) rfl) T.xc_TooMany T.xw_TooMany T.mg_TooMany hr) ax_nil)))))) sc__law_fields.nd rfl (.inl rfl)) (dss_cons (ds_set (dx_bin od_add (Dx.bo (dx_v rfl (.inl rfl) rfl)) (Dx.fb (dx_lst (ax_s (dx_xaK (dx_v rfl (.inl rfl) rfl) T.xc_BadChange T.xw_BadChange T.mg_BadChange hr) (ax_s (dx_xa (dx_v rfl (.inl rfl) rfl) T.xc_BadText T.mg_BadText hr) (ax_s (dx_xaK (dx_v rfl (.inl rfl) rfl) T.xc_BadName T.xw_BadName T.mg_BadName hr) ax_nil)))))) sc__law_fields.nd rfl (.inl rfl)) (dss_cons (ds_set (dx_bin od_add (Dx.bo (dx_v rfl (.inl rfl) rfl)) (Dx.fb (dx_lst (ax_s (dx_xaK (dx_v rfl (.inl rfl) rfl) T.xc_NameTaken T.xw_NameTaken T.mg_NameTaken hr) (ax_s (dx_xaK (dx_v rfl (.inl rfl) rfl) T.xc_UnknownName T.xw_UnknownName T.mg_UnknownName hr) (ax_s (dx_xa (dx_v rfl (.inl rfl) rfl) T.xc_FailedDeed T.mg_FailedDeed hr) ax_nil)))))) sc__law_fields.nd rfl (.inl rfl)) (dss_cons (ds_ret (dx_bin od_add (Dx.bo (dx_v rfl (.inl rfl) rfl)) (Dx.fb (dx_lst (ax_s (dx_xaK (dx_v rfl (.inl rfl) rfl) T.xc_BadCommand T.xw_BadCommand T.mg_BadCommand hr) ax_nil))))) dss_nil)))))))
abbrev s__law_caught : Stmt := top 33
theorem sc__law_caught : FnScope ["thing", "e"] ["thing"] (defScope s__law_caught) := ⟨rfl, rfl, rfl, by decide +kernel, rfl, by decide +kernel, by decide +kernel⟩
def g__law_caught (a : Ad) : SF :=
  sqF (tryF (sqF (raF a.BadRun "value" (vF 0)) skF) [(mtB [] [a.BadRun], hdF 1 (sqF (reF (cF (.str "way"))) skF)), (mtB [a.BadRun] [], hdF 1 (sqF (reF (cF (.str "count"))) skF))]) skF
def f__law_caught (a : Ad) : List D → R D := runD 2 (g__law_caught a)
theorem ok__law_caught (T : Txt K mg base a) : FnOk P a.w K mg base (L2.CX P a.w) 1 a.v__law_caught a.d__law_caught ["thing"] (spD K .cl [.sh] (f__law_caught a)) :=
  fnD_mk (N := ["thing", "e"]) (G0 := g__law_caught a) (ms := [.sh]) (mE := [.sh, .no]) T.F__law_caught sc__law_caught rfl (by decide) fun cdv A outer s H E hr tk =>
    have hu := hr.units
    dss_cons (ds_try (ks := []) (m' := [.sh, .no]) tk (fun W1 pn1 xe1 tk1x po1 => dss_cons (ds_raise (dx_v rfl (.inl rfl) rfl) T.xc_BadRun T.mg_BadRun hr tk1x) dss_nil) (.named (mt := mtB [] [a.BadRun]) (f := sqF (reF (cF (.str "way"))) skF) (m1 := [.sh, .no]) ⟨rfl, by decide, .inl T.mg_BadWay⟩ (mtB_ok (am_nil) (am_cons T.ex_BadRun_BadWay (am_nil))) sc__law_caught.nd rfl rfl rfl rfl rfl rfl (fun b oe C dx pn hC hz hf => dss_cons (ds_ret dx_str) dss_nil) (.named (mt := mtB [a.BadRun] []) (f := sqF (reF (cF (.str "count"))) skF) (m1 := [.sh, .no]) ⟨rfl, by decide, .inl T.mg_CountError⟩ (mtB_ok (am_cons T.ex_BadRun_CountError (am_nil)) (am_nil)) sc__law_caught.nd rfl rfl rfl rfl rfl rfl (fun b oe C dx pn hC hz hf => dss_cons (ds_ret dx_str) dss_nil) (.nil)))) dss_nil
abbrev s__law_opened : Stmt := top 29
theorem sc__law_opened : FnScope ["script", "k", "many", "cell"] ["script", "k", "many"] (defScope s__law_opened) := ⟨rfl, rfl, rfl, by decide +kernel, rfl, by decide +kernel, by decide +kernel⟩
theorem ok__law_opened (T : Txt K mg base a) : FnOk P a.w K mg base (L2.CX P a.w) 3 a.v__law_opened a.d__law_opened ["script", "k", "many"] (spOp K (f__law_pool a)) := by
  refine T.F__law_opened.okX sc__law_opened (fun vs H Q E h => ?_) (fun cdv A outer s H vs Q E hr h => ?_)
  · obtain ⟨b, ns, k, many, d, rfl, _⟩ := h
    rfl
  · obtain ⟨b, ns, k, many, d, rfl, hS, hk, hf, hQ⟩ := h
    have hu := hr.units
    have tk : Takes (cxOf (L2.CX P a.w) P a.w K mg base ["script", "k", "many", "cell"] "_law_opened" (defScope s__law_opened) a.v__law_opened cdv A outer s H E) (fun cls d _ H => E cls d H) := takes_of rfl rfl rfl rfl
    refine ⟨_, pss_cons (ps_set (i := 3) sc__law_opened.nd rfl (Or.inl rfl) (pe_ifExp (pt_cmpR (op_neL hu) (pv 0) (pe_lst pa_nil) (nomark _)) (pe_ix ix_seq (pv 0) (pv 1) fun _ _ => rfl) pe_int))
      (pss_one (ps_ret (pe_callS (ok__law_pool T) hr rfl T.m__law_pool T.F__law_pool.kp T.B__law_pool (fun σ => passAt tk σ) (pa_cons (pv 3) (pa_cons (pv 1) (pa_cons (pv 2) pa_nil)))))), ?_⟩
    have call : ∀ (H1 : Hp) (c : Int), c = cellN ns k → Same H H1 → SqL K H1 b (ns.map V.int) →
        spD K .fr [.sb, .sb, .sb] (f__law_pool a) [.int c, .int (k : Int), .int many] H1 Q (WE (fun cls d _ H => E cls d H) [some (.ref b), some (.int (k : Int)), some (.int many), some (.int c)]) := by
      rintro H1 c rfl hSame hS1
      exact opened_call hf hQ hSame
    refine ⟨_, rfl, (by decide), fun l hl => ?_⟩
    have sm : Same H (upd H l (.lst [])) := fun x o h => by rw [upd_ne (ne_of_none h hl)]; exact h
    have hb : SqL K (upd H l (.lst [])) b (ns.map V.int) := sm.seq hS
    refine ⟨b, l, _, rfl, rfl, hb, SqL.of upd_same, _, rfl, ?_⟩
    cases ns with
    | nil =>
      refine iteF ?_
      exact ⟨_, rfl, _, rfl, _, rfl, call _ 7 rfl sm hb⟩
    | cons x r =>
      refine iteT ?_
      have hk' : k < (x :: r).length := by
        rcases hk with z | z
        · cases z
        · exact z
      exact ⟨_, rfl, _, rfl, .inl ⟨b, _, _, _, rfl, rfl, hb, atI_cellN hk', ⟨_, rfl, _, rfl, _, rfl, call _ _ rfl sm hb⟩⟩⟩
abbrev s_law : Stmt := top 34
abbrev N_law : List Str := ["script", "k", "pool", "amount", "thing", "place", "one", "j"]
theorem sc_law : FnScope N_law ["script"] (defScope s_law) := ⟨rfl, rfl, rfl, by decide +kernel, rfl, by decide +kernel, by decide +kernel⟩
def lb1_law (a : Ad) : SF :=
  sqF (ifF (tvF (op2F D.ne (callF (f__law_classes a) (consF (vF 6) nilF)) (lcF [7] (wkF rg1 (consF (cF (.int 23)) nilF)) (nmF 7) yesF (op2F D.eq (vF 5) (vF 7))))) (sqF (reF (cF (.bl false))) skF) skF) (sqF (ifF (notF (tvF (callF (isxF (.ref a.CountError) [true, true, true, true, true, true, true, true, true, true, true, true, true, true, true, true, true, true, true, true, true, true, true]) (consF (vF 6) (consF (cF (.ob (.ref a.CountError))) nilF))))) (sqF (reF (cF (.bl false))) skF) skF) skF)
def lb2_law (a : Ad) : SF :=
  sqF (ifF (orF (tvF (op2F D.ne (callF (f__law_fields a) (consF (vF 4) nilF)) (op2F D.rep (lstF (consF (vF 4) nilF)) (cF (.int 22))))) (tvF (op2F D.ne (callF (f__law_caught a) (consF (vF 4) nilF)) (cF (.str "count"))))) (sqF (reF (cF (.bl false))) skF) skF) (sqF (foF (wkF enu (consF (callF (f__law_objects a) (consF (vF 4) nilF)) nilF)) (tpF [5, 6]) (lb1_law a)) skF)
def g_turn (a : Ad) : SF :=
  sqF (stF 3 (callF (f__law_draw a) (consF (vF 2) (consF (cF (.int 400)) nilF)))) (sqF (foF (itF (lstF (consF (vF 3) (consF (callF (one D.toStr) (consF (vF 3) nilF)) (consF (lstF (consF (vF 3) nilF)) (consF (cF .non) nilF)))))) (nmF 4) (lb2_law a)) skF)
def g_tail (a : Ad) : SF :=
  sqF (reF (cF (.bl true))) skF
theorem law_rest (T : Txt K mg base a) (cdv : Value) (A : Around) (outer : List Env) (s : Shared) (H : Hp) (E : XK) (hr : Room 3 (A.deeper (envOfC "law" (defScope s_law) s.heap.objs.size a.v_law cdv))) : Dss (cxOf CX0 P a.w K mg base N_law "law" (defScope s_law) a.v_law cdv A outer s H E).nox WF (turnJ 8) (turnM 8) (turnM 8) (forRest s_law) (g_turn a) :=
    have hu := hr.units
    dss_cons (ds_set (dx_call (ok__law_draw T) (hr.mono (by decide)) T.m__law_draw T.F__law_draw.kp T.B__law_draw takesF (ax_s (dx_v rfl (.inl rfl) rfl) (ax_b (Dx.bo dx_int) ax_nil))) sc_law.nd rfl (.inl rfl)) (dss_cons (ds_for (m := [.no, .sh, .sh, .sh, .no, .no, .no, .no]) (PassesOwn.never) rfl (di_seq ((dx_lst (ax_s (dx_v rfl (.inl rfl) rfl) (ax_s (dx_bty cd_str T.b_str rfl (ax_b (Dx.bo (dx_v rfl (.inl rfl) rfl)) ax_nil)) (ax_s ((dx_lst (ax_s (dx_v rfl (.inl rfl) rfl) ax_nil)).cl) (ax_s dx_non ax_nil))))).cl)) (tg_name sc_law.nd rfl (.inl rfl)) (dss_cons (ds_if (m' := [.no, .sh, .sh, .sh, .sh, .no, .no, .no]) ((tw_or (tx_cmp (od_ne hu) (Dx.bo (dx_call (ok__law_fields T) (hr.mono (by decide)) T.m__law_fields T.F__law_fields.kp T.B__law_fields takesF (ax_s (dx_v rfl (.inl rfl) rfl) ax_nil))) (Dx.fb (dx_bin od_rep (Dx.fb (dx_lst (ax_s (dx_v rfl (.inl rfl) rfl) ax_nil))) (Dx.bo dx_int)))) (tw_or1 (tx_cmp (od_ne hu) (Dx.bo (dx_call (ok__law_caught T) (hr.mono (by decide)) T.m__law_caught T.F__law_caught.kp T.B__law_caught takesF (ax_s (dx_v rfl (.inl rfl) rfl) ax_nil))) (Dx.bo dx_str)))).tx) (dss_cons (ds_ret dx_bl) dss_nil) dss_nil) (dss_cons (ds_for (m := [.no, .sh, .sh, .sh, .sh, .no, .no, .no]) (PassesOwn.never) rfl (di_enum (ax_s (dx_call (ok__law_objects T) (hr.mono (by decide)) T.m__law_objects T.F__law_objects.kp T.B__law_objects takesF (ax_s (dx_v rfl (.inl rfl) rfl) ax_nil)) ax_nil) T.b_enumerate) (tg_tup rfl (tgs_cons sc_law.nd rfl (.inr rfl) (tgs_cons sc_law.nd rfl (.inl rfl) tgs_nil))) (dss_cons (ds_if (m' := [.no, .sh, .sh, .sh, .sh, .sh, .sh, .no]) (tx_cmp (od_ne hu) (Dx.bo (dx_call (ok__law_classes T) (hr.mono (by decide)) T.m__law_classes T.F__law_classes.kp T.B__law_classes takesF (ax_b (Dx.bo (dx_v rfl (.inl rfl) rfl)) ax_nil))) (Dx.fb (dx_lc (own0 := [("j", 7)]) rfl sc_law.nd rfl (di_range1 (ax_b (Dx.bo dx_int) ax_nil) T.b_range) ⟨fun s H C cl fp => tg_name (J := ⟨[], [], [], false⟩) sc_law.nd rfl (.inl rfl), fun s H C cl fp => txs_nil, by decide, rfl, rfl⟩ (fun s H C cl fp => dx_cmp (od_eq hu) (Dx.bo (dx_v rfl (.inr (.inl rfl)) rfl)) (Dx.bo (dx_v rfl (.inl rfl) rfl)))))) (dss_cons (ds_ret dx_bl) dss_nil) dss_nil) (dss_cons (ds_if (m' := [.no, .sh, .sh, .sh, .sh, .sh, .sh, .no]) (tx_not (tx_v (Dx.bo (dx_blt (cd_isX T.isx_CountError) T.b_isinstance rfl (ax_b (Dx.bo (dx_v rfl (.inl rfl) rfl)) (ax_b (Dx.bo (dx_cn T.mg_CountError)) ax_nil)))))) (dss_cons (ds_ret dx_bl) dss_nil) dss_nil) (dss_weak (m2 := [.no, .sh, .sh, .sh, .sh, .no, .no, .no]) dss_nil)))) (dss_weak (m2 := [.no, .sh, .sh, .sh, .no, .no, .no, .no]) dss_nil)))) (dss_weak (m2 := [.no, .sh, .sh, .no, .no, .no, .no, .no]) dss_nil))
theorem law_tail (T : Txt K mg base a) (cdv : Value) (A : Around) (outer : List Env) (s : Shared) (H : Hp) (E : XK) (hr : Room 3 (A.deeper (envOfC "law" (defScope s_law) s.heap.objs.size a.v_law cdv))) : Dss (cxOf CX0 P a.w K mg base N_law "law" (defScope s_law) a.v_law cdv A outer s H E).nox WF { mb := [], mr := mrOf 8 } (mrOf 8) [.no, .no, .no, .no, .no, .no, .no, .no] (forTail s_law) (g_tail a) :=
    have hu := hr.units
    dss_cons (ds_ret dx_bl) dss_nil
theorem ok_law (T : Txt K mg base a) (hpool : ∀ (c : Int) (k : Nat), k ≤ 63 → ∃ nums : List Int, f__law_pool a [.int c, .int (k : Int), .int 4] none = .ok (poolD nums) none ∧ ∃ ρ' ps', g_turn a (turnR 8 k) (some ⟨nums, 0, none, T0 a⟩) = .ok (.nx ρ') ps')
    (hend : ∃ ρ' ps', g_tail a (List.replicate 8 none) none = .ok (.rt (.bl true) ρ') ps') : FnOk P a.w K mg base CX0 4 a.v_law a.d_law ["script"] (spLaw (T0 a) K) := by
  refine T.F_law.ok sc_law (fun vs H Q E h => ?_) (fun cdv A outer s0 H vs Q E hr h => ?_)
  · obtain ⟨b, ns, rfl, _⟩ := h
    rfl
  · obtain ⟨b, ns, rfl, hS, hO, hlen, hQ⟩ := h
    refine ⟨_, pss_cons (ps_for PassesOwn.never rfl (pi_range1 rfl T.b_range (pa_cons (pe_callB (call_max2 rfl) rfl T.b_max (by decide +kernel) (pa_cons pe_int (pa_cons (pe_callB (call_min2 rfl) rfl T.b_min (by decide +kernel) (pa_cons (pe_callB call_len rfl T.b_len PySem.boot_len (pa_cons (pv 0) pa_nil)) (pa_cons pe_int pa_nil))) pa_nil))) pa_nil))
      (pg_name (i := 1) sc_law.nd rfl (Or.inl rfl)) (pss_cons (ps_set (i := 2) sc_law.nd rfl (.inl rfl) (pe_callS (ok__law_opened T) (hr.mono (by decide)) rfl T.m__law_opened T.F__law_opened.kp T.B__law_opened (fun σ => passAt takesF σ) (pa_cons (pv 0) (pa_cons (pv 1) (pa_cons pe_int pa_nil))))) (pss_c _ (forRest s_law)))) (pss_c _ (forTail s_law)), ?_⟩
    refine ⟨_, rfl, _, _, rfl, .inl ⟨_, hS, rfl⟩, _, _, rfl, _, _, rfl, _, rfl, ?_, ?_, for_range (lo := 0) (turnP (T0 a) K 8 b ns) ⟨rfl, rfl, hS, Tbs.nil T.uq hO⟩ ?_ ?_⟩
    · rw [List.length_map]; split <;> split <;> omega
    · rw [List.length_map]; split <;> split <;> omega
    · rintro i σ H1 hi ⟨p1, p2, p3, p4⟩
      have hi' : ns = [] ∨ i < ns.length := by
        cases ns with
        | nil => exact .inl rfl
        | cons x r =>
          right
          rw [List.length_map, List.length_cons] at hi
          rw [List.length_cons]
          split at hi <;> split at hi <;> omega
      have hk63 : i ≤ 63 := by
        rw [List.length_map] at hi
        split at hi <;> split at hi <;> omega
      obtain ⟨nums, e1, e2⟩ := hpool (cellN ns i) i hk63
      have g0 : (σ.set 1 (some (V.int (0 + (i : Int)))))[0]? = some (some (.ref b)) := by rw [List.getElem?_set_ne (by decide)]; exact p2
      have g1 : (σ.set 1 (some (V.int (0 + (i : Int)))))[1]? = some (some (.int (i : Int))) := by rw [List.getElem?_set_self (by rw [p1]; decide), Int.zero_add]
      refine ⟨_, g0, _, g1, b, ns, i, 4, poolD nums, rfl, p3, hi', e1, scO H1 b (ns.map V.int), scO_thr, fun v H2 q => ?_⟩
      obtain ⟨p, q0, rfl, k1, k2, k3, k4, k5, k6⟩ := pool_at q
      refine turn_run2 (n := 8) rfl (by decide) (law_rest (P := P) (base := base) T cdv A outer s0 H E hr) e2 ?_ ?_ ?_ ?_ (sq_same p3 k2) (sq_static p3 k6) k4 k5 k3.symm (p4.mono fun x o h => k2 x o h) fun σ' H' z => z
      · rw [List.length_set, List.length_set]; exact p1
      · rw [List.getElem?_set_ne (by decide)]; exact g0
      · rw [List.getElem?_set_ne (by decide)]; exact g1
      · exact List.getElem?_set_self (by rw [List.length_set, p1]; decide)
    · rintro σ H1 ⟨p1, p2, p3, p4⟩
      have z1 := law_tail (P := P) (base := base) T cdv A outer s0 H E hr
      have z2 : ∀ H', ({ nx := fun _ H' => Q .non H', rt := Q } : Ends).rt (.bl true) H' := hQ
      generalize forTail s_law = tl at z1 ⊢
      exact tail_run (H := H1) (n := 8) z1 hend p1 z2
end
end
end K42
set_option Elab.async false
set_option linter.all false
set_option maxRecDepth 100000
set_option maxHeartbeats 2000000
namespace DL
open PySem L2
/-- what follows an outcome -/
def Res.bd {α β : Type} (r : Res α) (f : α → Ps → Res β) : Res β := match r with
  | .und => .und
  | .exc e p => .exc e p
  | .ok a p => f a p
@[simp] theorem bd_ok {α β : Type} (a : α) (p : Ps) (f : α → Ps → Res β) : Res.bd (.ok a p) f = f a p := rfl
@[simp] theorem bd_und {α β : Type} (f : α → Ps → Res β) : Res.bd (.und : Res α) f = .und := rfl
theorem ap_bind {α β : Type} (x : R α) (f : α → R β) (ps : Ps) : (x >>= f) ps = Res.bd (x ps) (fun a p => f a p) := by
  show R.bnd x f ps = _
  unfold R.bnd Res.bd
  cases x ps <;> rfl
@[simp] theorem ap_pure {α : Type} (a : α) (ps : Ps) : (pure a : R α) ps = .ok a ps := rfl
@[simp] theorem ap_und {α : Type} (ps : Ps) : (R.und : R α) ps = .und := rfl
@[simp] theorem ap_some {α : Type} (a : α) (ps : Ps) : ofO (some a) ps = .ok a ps := rfl
@[simp] theorem ap_none {α : Type} (ps : Ps) : ofO (none : Option α) ps = .und := rfl
@[simp] theorem ap_ite {α : Type} (c : Prop) [Decidable c] (x y : R α) (ps : Ps) : (if c then x else y) ps = if c then x ps else y ps := by split <;> rfl
@[simp] theorem a_cF (d : D) (ρ : Rho) (ps : Ps) : cF d ρ ps = .ok d ps := rfl
@[simp] theorem a_vF (i : Nat) (ρ : Rho) (ps : Ps) : vF i ρ ps = ofO (ρ[i]?.join) ps := rfl
@[simp] theorem a_op2 (F : D → D → R D) (f1 f2 : FE) (ρ : Rho) (ps : Ps) : op2F F f1 f2 ρ ps = Res.bd (f1 ρ ps) fun a p => Res.bd (f2 ρ p) fun b q => F a b q := by
  unfold op2F; simp only [ap_bind]
@[simp] theorem a_nil (ρ : Rho) (ps : Ps) : nilF ρ ps = .ok [] ps := rfl
@[simp] theorem a_cons (f : FE) (fs : FA) (ρ : Rho) (ps : Ps) : consF f fs ρ ps = Res.bd (f ρ ps) fun d p => Res.bd (fs ρ p) fun ds q => .ok (d :: ds) q := by
  unfold consF; simp only [ap_bind, ap_pure]
@[simp] theorem a_call (F : List D → R D) (fs : FA) (ρ : Rho) (ps : Ps) : callF F fs ρ ps = Res.bd (fs ρ ps) fun ds p => F ds p := by
  unfold callF; simp only [ap_bind]
@[simp] theorem a_one (F : D → R D) (d : D) : one F [d] = F d := rfl
@[simp] theorem a_two (F : D → D → R D) (d e : D) : two F [d, e] = F d e := rfl
@[simp] theorem a_skF (ρ : Rho) (ps : Ps) : skF ρ ps = .ok (.nx ρ) ps := rfl
@[simp] theorem a_sqF (g1 g2 : SF) (ρ : Rho) (ps : Ps) : sqF g1 g2 ρ ps = Res.bd (g1 ρ ps) fun fl p => thF g2 fl p := by
  unfold sqF; simp only [ap_bind]
@[simp] theorem a_th_nx (g : SF) (ρ : Rho) : thF g (.nx ρ) = g ρ := rfl
@[simp] theorem a_th_rt (g : SF) (d : D) (ρ : Rho) : thF g (.rt d ρ) = pure (.rt d ρ) := rfl
@[simp] theorem a_stF (i : Nat) (f : FE) (ρ : Rho) (ps : Ps) : stF i f ρ ps = Res.bd (f ρ ps) fun d p => .ok (.nx (ρ.set i (some d))) p := by
  unfold stF; simp only [ap_bind, ap_pure]
@[simp] theorem a_exF (f : FE) (ρ : Rho) (ps : Ps) : exF f ρ ps = Res.bd (f ρ ps) fun d p => .ok (.nx ρ) p := by
  unfold exF; simp only [ap_bind, ap_pure]
@[simp] theorem a_reF (f : FE) (ρ : Rho) (ps : Ps) : reF f ρ ps = Res.bd (f ρ ps) fun d p => .ok (.rt d ρ) p := by
  unfold reF; simp only [ap_bind, ap_pure]
@[simp] theorem a_apF (i : Nat) (f : FE) (ρ : Rho) (ps : Ps) : apF i f ρ ps = Res.bd (lstAt ρ i ps) fun ds p => Res.bd (f ρ p) fun d q => if lenC (ds.length + 1) = true then .ok (.nx (ρ.set i (some (.lst (ds ++ [d]))))) q else .und := by
  unfold apF; simp only [ap_bind, ap_ite, ap_pure, ap_und]
@[simp] theorem a_ifF (t : FT) (g1 g2 : SF) (ρ : Rho) (ps : Ps) : ifF t g1 g2 ρ ps = Res.bd (t ρ ps) fun b p => if b = true then g1 ρ p else g2 ρ p := by
  unfold ifF; simp only [ap_bind, ap_ite]
@[simp] theorem a_lstF (fs : FA) (ρ : Rho) (ps : Ps) : lstF fs ρ ps = Res.bd (fs ρ ps) fun ds p => if lenC ds.length = true then .ok (.lst ds) p else .und := by
  unfold lstF; simp only [ap_bind, ap_ite, ap_pure, ap_und]
@[simp] theorem a_tupF (fs : FA) (ρ : Rho) (ps : Ps) : tupF fs ρ ps = Res.bd (fs ρ ps) fun ds p => if lenC ds.length = true then .ok (.tup ds) p else .und := by
  unfold tupF; simp only [ap_bind, ap_ite, ap_pure, ap_und]
@[simp] theorem a_foF (fs : FA) (F : D → Rho → R Rho) (body : SF) (ρ : Rho) (ps : Ps) : foF fs F body ρ ps = Res.bd (fs ρ ps) fun ds p => foN F body ds ρ p := by
  unfold foF; simp only [ap_bind]
@[simp] theorem a_wkF (G : List D → R (List D)) (fs : FA) (ρ : Rho) (ps : Ps) : wkF G fs ρ ps = Res.bd (fs ρ ps) fun ds p => G ds p := by
  unfold wkF; simp only [ap_bind]
@[simp] theorem a_nmF (i : Nat) (d : D) (ρ : Rho) (ps : Ps) : nmF i d ρ ps = .ok (ρ.set i (some d)) ps := rfl
@[simp] theorem a_runD (n : Nat) (G : SF) (ds : List D) (ps : Ps) : runD n G ds ps = Res.bd (G (padR n ds) ps) fun fl p => finD fl p := by
  unfold runD; simp only [ap_bind]
@[simp] theorem a_runF (n : Nat) (G : SF) (ds : List D) (ps : Ps) : runF n G ds ps = Res.bd (G (padR n ds) ps) fun fl p => finF fl p := by
  unfold runF; simp only [ap_bind]
@[simp] theorem a_finD (d : D) (ρ : Rho) : finD (.rt d ρ) = pure d := rfl
@[simp] theorem a_finDn (ρ : Rho) : finD (.nx ρ) = pure .non := rfl
@[simp] theorem a_finF (d : D) (ρ : Rho) : finF (.rt d ρ) = pure d := rfl
theorem foN_run {F : D → Rho → R Rho} {body : SF} (P : List D → Rho → Ps → Prop) (hs : ∀ d r ρ ps, P (d :: r) ρ ps → ∃ ρ1 fl ρ' ps', F d ρ ps = .ok ρ1 ps ∧ body ρ1 ps = .ok fl ps' ∧ (fl = .nx ρ' ∨ fl = .ct ρ') ∧ P r ρ' ps') :
    ∀ ds ρ ps, P ds ρ ps → ∃ ρ' ps', foN F body ds ρ ps = .ok (.nx ρ') ps' ∧ P [] ρ' ps'
  | [], ρ, ps, h => ⟨ρ, ps, rfl, h⟩
  | d :: r, ρ, ps, h => by
    obtain ⟨ρ1, fl, ρ', ps', h1, h2, h3, h4⟩ := hs d r ρ ps h
    obtain ⟨ρ2, ps2, h5, h6⟩ := foN_run P hs r ρ' ps' h4
    refine ⟨ρ2, ps2, ?_, h6⟩
    show (F d ρ >>= fun ρ1 => body ρ1 >>= fun fl => lpK (foN F body r) fl) ps = _
    rw [ap_bind, h1, bd_ok, ap_bind, h2, bd_ok]
    rcases h3 with rfl | rfl <;> exact h5
@[simp] theorem a_len_l (ds : List D) : D.len (.lst ds) = pure (.int ds.length) := rfl
@[simp] theorem a_len_t (ds : List D) : D.len (.tup ds) = pure (.int ds.length) := rfl
@[simp] theorem a_len_d (ds : List (Key × D)) : D.len (.dk ds) = pure (.int ds.length) := rfl
@[simp] theorem a_len_s (z : Str) (ps : Ps) : D.len (.str z) ps = if lenC z.length = true then .ok (.int z.length) ps else .und := by
  show (if lenC z.length = true then (pure (.int z.length) : R D) else R.und) ps = _
  split <;> rfl
@[simp] theorem a_toInt (i : Int) : D.toInt (.int i) = pure (.int i) := rfl
@[simp] theorem a_max2 (i j : Int) : D.max2 (.int i) (.int j) = pure (.int (if j > i then j else i)) := rfl
@[simp] theorem a_min2 (i j : Int) : D.min2 (.int i) (.int j) = pure (.int (if j < i then j else i)) := rfl
@[simp] theorem a_ints (C : Int → Int → Bool) (g : Int → Int → Int) (i j : Int) (ps : Ps) : D.ints C g (.int i) (.int j) ps = if C i j = true then .ok (.int (g i j)) ps else .und := by
  show (if C i j = true then (pure (.int (g i j)) : R D) else R.und) ps = _
  split <;> rfl
@[simp] theorem a_add_i (i j : Int) : D.add (.int i) (.int j) = pure (.int (i + j)) := rfl
@[simp] theorem a_add_l (x y : List D) (ps : Ps) : D.add (.lst x) (.lst y) ps = if lenC (x.length + y.length) = true then .ok (.lst (x ++ y)) ps else .und := by
  show (if lenC (x.length + y.length) = true then (pure (.lst (x ++ y)) : R D) else R.und) ps = _
  split <;> rfl
@[simp] theorem a_add_s (x y : Str) (ps : Ps) : D.add (.str x) (.str y) ps = if lenC (x.length + y.length) = true then .ok (.str (x ++ y)) ps else .und := by
  show (if lenC (x.length + y.length) = true then (pure (.str (x ++ y)) : R D) else R.und) ps = _
  split <;> rfl
@[simp] theorem a_cmp (g : Int → Int → Bool) (i j : Int) : D.cmp g (.int i) (.int j) = pure (.bl (g i j)) := rfl
@[simp] theorem a_asB (b : Bool) : asB (.bl b) = pure b := rfl
@[simp] theorem a_asI (b : Int) : asI (.int b) = pure b := rfl
@[simp] theorem a_negF (f : FE) (ρ : Rho) (ps : Ps) : negF f ρ ps = Res.bd (f ρ ps) fun d p => Res.bd (asI d p) fun i q => .ok (.int (-i)) q := by
  unfold negF; simp only [ap_bind, ap_pure]
@[simp] theorem a_item_l (ds : List D) (i : Int) : D.item (.lst ds) (.int i) = ofO (atI ds i) := rfl
@[simp] theorem a_item_t (ds : List D) (i : Int) : D.item (.tup ds) (.int i) = ofO (atI ds i) := rfl
@[simp] theorem a_item_d (kvs : List (Key × D)) (s : Str) : D.item (.dk kvs) (.str s) = ofO (findD kvs (.inr s)) := rfl
def lsO : Option D → R (List D)
  | some (.lst ds) => pure ds
  | _ => R.und
@[simp] theorem a_lstAt (ρ : Rho) (i : Nat) : lstAt ρ i = lsO (ρ[i]?.join) := by unfold lstAt lsO; rfl
@[simp] theorem a_lsO (ds : List D) : lsO (some (.lst ds)) = pure ds := rfl
@[simp] theorem a_rep (xs : List D) (k : Int) (ps : Ps) : D.rep (.lst xs) (.int k) ps = if (decide (-1000000 ≤ k) && decide (k ≤ 1000000) && lenC (xs.length * k.toNat)) = true then .ok (.lst (List.replicate k.toNat xs).flatten) ps else .und := by
  show (if (decide (-1000000 ≤ k) && decide (k ≤ 1000000) && lenC (xs.length * k.toNat)) = true then (pure (.lst (List.replicate k.toNat xs).flatten) : R D) else R.und) ps = _
  split <;> rfl
@[simp] theorem a_rg1 (j : Int) (ps : Ps) : rg1 [.int j] ps = if rgC j = true then .ok (rngD 0 j.toNat) ps else .und := by
  show (if rgC j = true then (pure (rngD 0 j.toNat) : R (List D)) else R.und) ps = _
  split <;> rfl
@[simp] theorem a_rg2 (i j : Int) (ps : Ps) : rg2 [.int i, .int j] ps = if (rgC i && rgC j) = true then .ok (rngD i (j - i).toNat) ps else .und := by
  show (if (rgC i && rgC j) = true then (pure (rngD i (j - i).toNat) : R (List D)) else R.und) ps = _
  split <;> rfl
@[simp] theorem a_tvF (f : FE) (ρ : Rho) (ps : Ps) : tvF f ρ ps = Res.bd (f ρ ps) fun d p => asB d p := by
  unfold tvF; simp only [ap_bind]
@[simp] theorem a_notF (t : FT) (ρ : Rho) (ps : Ps) : notF t ρ ps = Res.bd (t ρ ps) fun b p => .ok (!b) p := by
  unfold notF; simp only [ap_bind, ap_pure]
@[simp] theorem a_andF (t1 t2 : FT) (ρ : Rho) (ps : Ps) : andF t1 t2 ρ ps = Res.bd (t1 ρ ps) fun b p => if b = true then t2 ρ p else .ok false p := by
  unfold andF; simp only [ap_bind, ap_ite, ap_pure]
@[simp] theorem a_orF (t1 t2 : FT) (ρ : Rho) (ps : Ps) : orF t1 t2 ρ ps = Res.bd (t1 ρ ps) fun b p => if b = true then .ok true p else t2 ρ p := by
  unfold orF; simp only [ap_bind, ap_ite, ap_pure]
@[simp] theorem a_andV (t1 t2 : FE) (ρ : Rho) (ps : Ps) : andV t1 t2 ρ ps = Res.bd (t1 ρ ps) fun d p => Res.bd (asB d p) fun b p => if b = true then t2 ρ p else .ok (.bl false) p := by
  unfold andV; simp only [ap_bind, ap_ite, ap_pure]
@[simp] theorem a_notV (t1 : FE) (ρ : Rho) (ps : Ps) : notV t1 ρ ps = Res.bd (t1 ρ ps) fun d p => Res.bd (asB d p) fun b p => .ok (.bl (!b)) p := by
  unfold notV; simp only [ap_bind, ap_pure]
@[simp] theorem a_chF (F F' : D → D → R D) (f1 f2 f3 : FE) (ρ : Rho) (ps : Ps) : chF F F' f1 f2 f3 ρ ps = Res.bd (f1 ρ ps) fun x p => Res.bd (f2 ρ p) fun y p => Res.bd (F x y p) fun z p => Res.bd (asB z p) fun k p => if k = true then (Res.bd (f3 ρ p) fun w p => Res.bd (F' y w p) fun z p => asB z p) else .ok false p := by
  unfold chF; simp only [ap_bind, ap_ite, ap_pure]
@[simp] theorem a_yesF (ρ : Rho) (ps : Ps) : yesF ρ ps = .ok true ps := rfl
@[simp] theorem a_ifeF (t : FT) (f1 f2 : FE) (ρ : Rho) (ps : Ps) : ifeF t f1 f2 ρ ps = Res.bd (t ρ ps) fun b p => if b = true then f1 ρ p else f2 ρ p := by
  unfold ifeF; simp only [ap_bind, ap_ite]
@[simp] theorem a_fldF (C : Addr) (nm : Str) (f : FE) (ρ : Rho) (ps : Ps) : fldF C nm f ρ ps = Res.bd (f ρ ps) fun d p => if D.insOf C d = true then D.fld nm d p else .und := by
  unfold fldF; simp only [ap_bind, ap_ite, ap_und]
@[simp] theorem a_insOf (C : Addr) (fs : List (Str × D)) : D.insOf C (.ins C fs) = true := beq_self_eq_true C
@[simp] theorem a_methF (C : Addr) (nm : Str) (F : List D → R D) (fo : FE) (fs : FA) (ρ : Rho) (ps : Ps) : methF C nm F fo fs ρ ps = Res.bd (fo ρ ps) fun d p => if (D.insOf C d && D.noF nm d) = true then (Res.bd (fs ρ p) fun ds p => F (d :: ds) p) else .und := by
  unfold methF; simp [ap_bind, ap_ite, ap_und]
@[simp] theorem a_subOF (C : Addr) (F : List D → R D) (fo f : FE) (ρ : Rho) (ps : Ps) : subOF C F fo f ρ ps = Res.bd (fo ρ ps) fun d p => Res.bd (f ρ p) fun i p => if D.insOf C d = true then F [d, i] p else .und := by
  unfold subOF; simp only [ap_bind, ap_ite, ap_und]
@[simp] theorem a_mkF (C : Addr) (F : List D → R (List (Str × D))) (fs : FA) (ρ : Rho) (ps : Ps) : mkF C F fs ρ ps = Res.bd (fs ρ ps) fun ds p => Res.bd (F ds p) fun fl p => .ok (.ins C fl) p := by
  unfold mkF; simp only [ap_bind, ap_pure]
@[simp] theorem a_noX {α : Type} (x : R α) (ps : Ps) : noX x ps = match x ps with | .ok a p => .ok a p | _ => .und := rfl
@[simp] theorem a_propF (C : Addr) (F : List D → R D) (fo : FE) (ρ : Rho) (ps : Ps) : propF C F fo ρ ps = Res.bd (fo ρ ps) fun d p => if D.insOf C d = true then noX (F [d]) p else .und := by
  unfold propF; simp only [ap_bind, ap_ite, ap_und]
@[simp] theorem a_eqOwn (C : Addr) (nf : Tk → Bool) (F : List D → R D) (a b : D) (ps : Ps) : D.eqOwn C nf F a b ps = if (D.insOf C a && (b.tk.map nf).getD false) = true then (Res.bd (noX (do let r ← F [a, b]; asB r) ps) fun c p => .ok (.bl c) p) else .und := by
  unfold D.eqOwn; simp only [ap_bind, ap_ite, ap_und, ap_pure]
@[simp] theorem a_inOwn (C : Addr) (F : List D → R D) (neg : Bool) (a b : D) (ps : Ps) : D.inOwn C F neg a b ps = if D.insOf C b = true then (Res.bd (noX (do let r ← F [b, a]; asB r) ps) fun c p => .ok (.bl (if neg then !c else c)) p) else .und := by
  unfold D.inOwn; simp only [ap_bind, ap_ite, ap_und, ap_pure]
@[simp] theorem a_lenO (C : Addr) (F : List D → R D) (d : D) (ps : Ps) : D.lenO C F d ps = if D.insOf C d = true then (Res.bd (noX (do let r ← F [d]; asI r) ps) fun i p => if (decide (0 ≤ i) && decide (i ≤ 1000000)) = true then .ok (.int i) p else .und) else .und := by
  unfold D.lenO; simp only [ap_bind, ap_ite, ap_und, ap_pure]
@[simp] theorem a_eq (a b : D) : D.eq a b = ofO ((D.eqO a b).map .bl) := rfl
@[simp] theorem a_in (neg : Bool) (a b : D) : D.in_ neg a b = ofO ((D.inO a b).map fun r => .bl (if neg then !r else r)) := rfl
@[simp] theorem a_itF (f : FE) (ρ : Rho) (ps : Ps) : itF f ρ ps = Res.bd (f ρ ps) fun d p => D.items d p := by
  unfold itF; simp only [ap_bind]
@[simp] theorem a_items_l (ds : List D) : D.items (.lst ds) = pure ds := rfl
@[simp] theorem a_items_t (ds : List D) : D.items (.tup ds) = pure ds := rfl
@[simp] theorem a_itlF (f : FE) (ρ : Rho) (ps : Ps) : itlF f ρ ps = Res.bd (f ρ ps) fun d p => D.itemsL d p := by
  unfold itlF; simp only [ap_bind]
@[simp] theorem a_itemsL (ds : List D) : D.itemsL (.lst ds) = pure ds := rfl
@[simp] theorem a_itsF (f : FE) (ρ : Rho) (ps : Ps) : itsF f ρ ps = Res.bd (f ρ ps) fun d p => chrD d p := by
  unfold itsF; simp only [ap_bind]
@[simp] theorem a_chrD (s : Str) : chrD (.str s) = pure (chars s) := rfl
@[simp] theorem a_kwF (G : List (Key × D) → List D) (f : FE) (ρ : Rho) (ps : Ps) : kwF G f ρ ps = Res.bd (f ρ ps) fun d p => Res.bd (asDk d p) fun kvs p => .ok (G kvs) p := by
  unfold kwF; simp only [ap_bind, ap_pure]
@[simp] theorem a_asDk (kvs : List (Key × D)) : asDk (.dk kvs) = pure kvs := rfl
@[simp] theorem a_keysL (kvs : List (Key × D)) : D.keysL (.dk kvs) = pure (.lst (kvs.map fun kv => keyD kv.1)) := rfl
@[simp] theorem a_toList (ds : List D) : D.toList (.lst ds) = pure (.lst ds) := rfl
@[simp] theorem a_toDict (ds : List (Key × D)) : D.toDict (.dk ds) = pure (.dk ds) := rfl
@[simp] theorem a_auF (F : D → D → R D) (i : Nat) (f : FE) (ρ : Rho) (ps : Ps) : auF F i f ρ ps = Res.bd (vF i ρ ps) fun x p => Res.bd (f ρ p) fun y p => Res.bd (F x y p) fun z p => .ok (.nx (ρ.set i (some z))) p := by
  unfold auF; simp only [ap_bind, ap_pure]
@[simp] theorem a_dnF (ρ : Rho) (ps : Ps) : dnF ρ ps = .ok (.dk []) ps := rfl
@[simp] theorem a_pnF (ρ : Rho) (ps : Ps) : pnF ρ ps = .ok [] ps := rfl
@[simp] theorem a_pcF (fk fv : FE) (fr : FP) (ρ : Rho) (ps : Ps) : pcF fk fv fr ρ ps = Res.bd (fk ρ ps) fun k p => Res.bd (fv ρ p) fun v p => Res.bd (fr ρ p) fun r p => Res.bd (ofO (keyOf k) p) fun k p => .ok ((k, v) :: r) p := by
  unfold pcF; simp only [ap_bind, ap_pure]
@[simp] theorem a_dsF (fp : FP) (ρ : Rho) (ps : Ps) : dsF fp ρ ps = Res.bd (fp ρ ps) fun kvs p => if decide (kvs.length ≤ 15) = true then .ok (.dk (mergeD [] kvs)) p else .und := by
  unfold dsF; simp only [ap_bind, ap_ite, ap_pure, ap_und]
@[simp] theorem a_putF (i : Nat) (fk f : FE) (ρ : Rho) (ps : Ps) : putF' i fk f ρ ps = Res.bd (dkAt ρ i ps) fun kvs p => Res.bd (f ρ p) fun d p => Res.bd (fk ρ p) fun k p => match keyOf k with | some k => if lenC (kvs.length + 1) = true then .ok (.nx (ρ.set i (some (.dk (putD kvs k d))))) p else .und | none => .und := by
  unfold putF'; simp only [ap_bind]
  congr 1; funext kvs p; congr 1; funext d p; congr 1; funext k p
  cases keyOf k <;> simp only [ap_ite, ap_pure, ap_und]
def dkO : Option D → R (List (Key × D))
  | some (.dk ds) => pure ds
  | _ => R.und
@[simp] theorem a_dkAt (ρ : Rho) (i : Nat) : dkAt ρ i = dkO (ρ[i]?.join) := by unfold dkAt dkO; rfl
@[simp] theorem a_dkO (ds : List (Key × D)) : dkO (some (.dk ds)) = pure ds := rfl
@[simp] theorem a_paF (is : List Nat) (fs : FA) (ρ : Rho) (ps : Ps) : paF is fs ρ ps = Res.bd (fs ρ ps) fun ds p => .ok (.nx (stR ρ is ds)) p := by
  unfold paF; simp only [ap_bind, ap_pure]
@[simp] theorem a_stR_n (ρ : Rho) (ds : List D) : stR ρ [] ds = ρ := rfl
@[simp] theorem a_stR_c (ρ : Rho) (i : Nat) (is : List Nat) (d : D) (ds : List D) : stR ρ (i :: is) (d :: ds) = stR (ρ.set i (some d)) is ds := rfl
@[simp] theorem a_asF (f : FE) (F : D → Rho → R Rho) (ρ : Rho) (ps : Ps) : asF f F ρ ps = Res.bd (f ρ ps) fun d p => Res.bd (F d ρ p) fun ρ' p => .ok (.nx ρ') p := by
  unfold asF; simp only [ap_bind, ap_pure]
@[simp] theorem a_tpF (is : List Nat) (ds : List D) (ρ : Rho) : tpF is (.tup ds) ρ = nmsF is ds ρ := rfl
@[simp] theorem a_nmsF_n (ρ : Rho) : nmsF [] [] ρ = pure ρ := rfl
@[simp] theorem a_nmsF_c (i : Nat) (is : List Nat) (d : D) (ds : List D) (ρ : Rho) : nmsF (i :: is) (d :: ds) ρ = nmsF is ds (ρ.set i (some d)) := rfl
@[simp] theorem a_amF (f : FE) (F : List D → Rho → R Rho) (ρ : Rho) (ps : Ps) : amF f F ρ ps = Res.bd (f ρ ps) fun d p => amG F ρ d p := by
  unfold amF; simp only [ap_bind]
@[simp] theorem a_amG (F : List D → Rho → R Rho) (ρ : Rho) (ds : List D) (ps : Ps) : amG F ρ (.tup ds) ps = Res.bd (F ds ρ ps) fun ρ' p => .ok (.nx ρ') p := by
  show (F ds ρ >>= fun ρ' => (pure (.nx ρ') : R Fl)) ps = _
  rw [ap_bind]; rfl
@[simp] theorem a_tmN (ρ : Rho) : tmN [] ρ = pure ρ := rfl
@[simp] theorem a_tmV (i : Nat) (F : List D → Rho → R Rho) (d : D) (ds : List D) (ρ : Rho) : tmV i F (d :: ds) ρ = F ds (ρ.set i (some d)) := rfl
@[simp] theorem a_tmP (i : Nat) (fk : FE) (F : List D → Rho → R Rho) (d : D) (ds : List D) (ρ : Rho) (ps : Ps) : tmP i fk F (d :: ds) ρ ps = Res.bd (dkAt ρ i ps) fun kvs p => Res.bd (noX (fk ρ) p) fun k p => Res.bd (ofO (keyOf k) p) fun k p => if lenC (kvs.length + 1) = true then F ds (ρ.set i (some (.dk (putD kvs k d)))) p else .und := by
  show (dkAt ρ i >>= fun kvs => noX (fk ρ) >>= fun k => ofO (keyOf k) >>= fun k => if lenC (kvs.length + 1) = true then F ds (ρ.set i (some (.dk (putD kvs k d)))) else R.und) ps = _
  simp only [ap_bind, ap_ite, ap_und]
@[simp] theorem a_keyOf_s (s : Str) : keyOf (.str s) = some (.inr s) := rfl
@[simp] theorem a_keyD_s (s : Str) : keyD (.inr s) = .str s := rfl
@[simp] theorem a_noO (ρ : Rho) (ps : Ps) : noO ρ ps = .ok none ps := rfl
@[simp] theorem a_soO (f : FE) (ρ : Rho) (ps : Ps) : soO f ρ ps = Res.bd (f ρ ps) fun d p => Res.bd (asI d p) fun i p => .ok (some i) p := by
  unfold soO; simp only [ap_bind, ap_pure]
@[simp] theorem a_cutF (G : Option Int → Option Int → D → R D) (f : FE) (fl fh : FO) (ρ : Rho) (ps : Ps) : cutF G f fl fh ρ ps = Res.bd (f ρ ps) fun d p => Res.bd (fl ρ p) fun l p => Res.bd (fh ρ p) fun h p => G l h d p := by
  unfold cutF; simp only [ap_bind]
@[simp] theorem a_cut (lo hi : Option Int) (xs : List D) : D.cut lo hi (.lst xs) = pure (.lst (cutD xs lo hi)) := rfl
@[simp] theorem a_revF (f : FE) (ρ : Rho) (ps : Ps) : revF f ρ ps = Res.bd (f ρ ps) fun d p => D.rev d p := by
  unfold revF; simp only [ap_bind]
@[simp] theorem a_rev (xs : List D) : D.rev (.lst xs) = pure (.lst xs.reverse) := rfl
@[simp] theorem a_pairs (xs : List D) : D.pairs (.lst xs) = ofO ((pairsD xs).map fun kvs => .dk (mergeD [] kvs)) := rfl
def plO : Option D → R Unit
  | some .pool => pure ()
  | _ => R.und
@[simp] theorem a_isPool (ρ : Rho) (i : Nat) : isPool ρ i = plO (ρ[i]?.join) := by unfold isPool plO; rfl
@[simp] theorem a_plO : plO (some .pool) = pure () := rfl
@[simp] theorem a_psGet (po : Pool) : psGet (some po) = .ok po (some po) := rfl
@[simp] theorem a_patF (i : Nat) (ρ : Rho) (ps : Ps) : patF i ρ ps = Res.bd (isPool ρ i ps) fun _ p => Res.bd (psGet p) fun po p => .ok (.int (po.at_ : Int)) p := by
  unfold patF; simp only [ap_bind, ap_pure]
@[simp] theorem a_pnumF (i : Nat) (f : FE) (ρ : Rho) (ps : Ps) : pnumF i f ρ ps = Res.bd (isPool ρ i ps) fun _ p => Res.bd (f ρ p) fun d p => Res.bd (psGet p) fun po p => Res.bd (asI d p) fun j p => ofO ((atI po.nums j).map .int) p := by
  unfold pnumF; simp only [ap_bind]
@[simp] theorem a_pstF (i : Nat) (f : FE) (ρ : Rho) (ps : Ps) : pstF i f ρ ps = Res.bd (isPool ρ i ps) fun _ p => Res.bd (f ρ p) fun d p => Res.bd (asI d p) fun j p => Res.bd (psGet p) fun po p => if decide (0 ≤ j) = true then .ok (.nx ρ) (some { po with at_ := j.toNat }) else .und := by
  unfold pstF; simp only [ap_bind]
  congr 1; funext _ p; congr 1; funext d p; congr 1; funext j p; congr 1; funext po p; cases decide (0 ≤ j) <;> rfl
@[simp] theorem a_plnF (i : Nat) (ρ : Rho) (ps : Ps) : plnF i ρ ps = Res.bd (isPool ρ i ps) fun _ p => Res.bd (psGet p) fun po p => .ok (.int (po.nums.length : Int)) p := by
  unfold plnF; simp only [ap_bind, ap_pure]
@[simp] theorem a_ssF (fs : Rho → R (List Key)) (ρ : Rho) (ps : Ps) : ssF fs ρ ps = Res.bd (fs ρ ps) fun ks p => ofO (sortKs ks) p := by
  unfold ssF; simp only [ap_bind]
@[simp] theorem a_slF (fs : Rho → R (List Key)) (ρ : Rho) (ps : Ps) : slF fs ρ ps = Res.bd (fs ρ ps) fun ks p => if decide (ks.length < 4096) = true then .ok (.int ks.length) p else .und := by
  unfold slF; simp only [ap_bind, ap_ite, ap_pure, ap_und]
@[simp] theorem a_fsF (C : Addr) (i : Nat) (nm : Str) (f : FE) (ρ : Rho) (ps : Ps) : fsF C i nm f ρ ps = Res.bd (f ρ ps) fun d p => Res.bd (insAt C ρ i p) fun fs p => if decide (fs.length < 900) = true then .ok (.nx (ρ.set i (some (.ins C (setFl nm d fs))))) p else .und := by
  unfold fsF; simp only [ap_bind, ap_ite, ap_pure, ap_und]
def inO (C : Addr) : Option D → R (List (Str × D))
  | some (.ins C' fs) => if C' = C then pure fs else R.und
  | _ => R.und
@[simp] theorem a_insAt (C : Addr) (ρ : Rho) (i : Nat) : insAt C ρ i = inO C (ρ[i]?.join) := by unfold insAt inO; rfl
@[simp] theorem a_inO (C : Addr) (fs : List (Str × D)) : inO C (some (.ins C fs)) = pure fs := if_pos rfl
@[simp] theorem a_getF (fo fk fx : FE) (ρ : Rho) (ps : Ps) : getF fo fk fx ρ ps = Res.bd (fo ρ ps) fun d p => Res.bd (asDk d p) fun kvs p => Res.bd (fk ρ p) fun k p => Res.bd (fx ρ p) fun x p => Res.bd (ofO (keyOf k) p) fun k p => .ok ((findD kvs k).getD x) p := by
  unfold getF; simp only [ap_bind, ap_pure]
@[simp] theorem a_runI (n : Nat) (C : Addr) (G : SF) (ds : List D) (ps : Ps) : runI n C G ds ps = Res.bd (G (padR n (.ins C [] :: ds)) ps) fun fl p => finI C fl p := by
  unfold runI; simp only [ap_bind]
end DL
set_option Elab.async false
set_option linter.all false
set_option maxRecDepth 100000
set_option maxHeartbeats 2000000
namespace K42
open PySem L2 DL
def rngL (j m : Nat) : List D := (List.range' j m).map fun (i : Nat) => .int (i : Int)
theorem rng_L (n : Nat) : rngD 0 n = rngL 0 n := by unfold rngD rngL; rw [List.range_eq_range']; simp
theorem rngL_len (j m : Nat) : (rngL j m).length = m := by unfold rngL; simp
theorem rngL_cons {d : D} {r : List D} {j : Nat} (g : d :: r = rngL j (r.length + 1)) : d = .int (j : Int) ∧ r = rngL (j + 1) r.length := by
  unfold rngL at g ⊢
  rw [List.range'_succ] at g
  simpa using g
theorem atI_nat {α : Type} {xs : List α} {j : Nat} {d : α} (h : xs[j]? = some d) : atI xs ((j : Nat) : Int) = some d := by
  have hl := (List.getElem?_eq_some_iff.mp h).1
  unfold atI ixN
  simp [hl]
  exact (List.getElem?_eq_some_iff.mp h).2
theorem bits_lt {i : Int} {n : Nat} (h : i.natAbs < 2 ^ n) (hn : 0 < n) : bits i ≤ n := by
  unfold bits
  by_cases e : i.natAbs = 0
  · rw [e]; simp; omega
  · have := (Nat.log2_lt e).mpr h
    omega
theorem mulC_ok {i j : Int} (hi : i.natAbs < 2 ^ 1000) (hj : j.natAbs < 2 ^ 1000) : D.mulC i j = true := by
  unfold D.mulC
  have := bits_lt hi (by decide)
  have := bits_lt hj (by decide)
  exact decide_eq_true (by omega)
theorem p1000 {i : Int} (h : i.natAbs < 2 ^ 64) : i.natAbs < 2 ^ 1000 := Nat.lt_of_lt_of_le h (Nat.pow_le_pow_right (by decide) (by decide))
/-- the numbers so far -/
def NumP (c s : D) (whole : Int) (n : Nat) (ps : Ps) (rem : List D) (ρ : Rho) (p : Ps) : Prop := p = ps ∧ ∃ (j : Nat) (left : Int) (res : List Int) (x y : Option D), j + rem.length = n ∧ rem = rngL j rem.length ∧ 0 ≤ left ∧ res.length = j ∧ (∀ z ∈ res, 0 ≤ z ∧ z < 420) ∧
  ρ = [some c, some s, some (.lst (List.replicate n (.int 420))), some (.int whole), some (.int left), some (.lst (res.map .int)), x, y]
theorem law_numbers (a : Ad) (c : Int) (k n : Nat) (hk : k ≤ 63) (hn : n ≤ 1000) (ps : Ps) : ∃ nums : List Int, f__law_numbers a [.int c, .int (k : Int), .lst (List.replicate n (.int 420))] ps = .ok (.lst (nums.map .int)) ps ∧ nums.length = n ∧ ∀ z ∈ nums, 0 ≤ z ∧ z < 420 := by
  have hpad : padR 8 [.int c, .int (k : Int), .lst (List.replicate n (.int 420))] = [some (.int c), some (.int (k : Int)), some (.lst (List.replicate n (.int 420))), none, none, none, none, none] := rfl
  have hn1 : (n : Int) ≤ 1000000000 := by omega
  have hw : 0 ≤ (if c < -1 - c then -1 - c else c) := by split <;> omega
  obtain ⟨ρ', ps', h1, h2, j, left, res, x, y, g1, g2, g3, g4, g5, g6⟩ := foN_run (F := nmF 6) (body := lb1__law_numbers a) (NumP (.int c) (.int (k : Int)) (if c < -1 - c then -1 - c else c) n ps) (fun d r ρ p hP => by
    obtain ⟨rfl, j, left, res, x, y, g1, g2, g3, g4, g5, rfl⟩ := hP
    rw [List.length_cons] at g1 g2
    obtain ⟨rfl, hr⟩ := rngL_cons g2
    have hj : j < n := by omega
    have at_ : atI (List.replicate n (D.int 420)) ((j : Nat) : Int) = some (.int 420) := atI_nat (by rw [List.getElem?_replicate]; simp [hj])
    have hl : res.length ≤ 999999 := by omega
    by_cases hc : (10 : Int) ^ 18 ≤ (if c < -1 - c then -1 - c else c) ∧ 0 < left
    · refine ⟨_, _, [some (.int c), some (.int (k : Int)), some (.lst (List.replicate n (.int 420))), some (.int (if c < -1 - c then -1 - c else c)), some (.int (left / 420)), some (.lst ((res ++ [left % 420]).map .int)), some (.int (j : Int)), y], p, rfl, ?_, .inl rfl, ?_⟩
      · have hc1 : (1000000000000000000 : Int) ≤ (if c < -1 - c then -1 - c else c) := hc.1
        have hd : D.divC left 420 = true := by unfold D.divC; rw [show bits 420 = 9 from by decide +kernel]; decide
        unfold lb1__law_numbers
        simp [hc1, hc.2, at_, hl, lenC, hd]
      · refine ⟨rfl, j + 1, left / 420, res ++ [left % 420], some (.int (j : Int)), y, by omega, hr, by omega, by simp [g4], fun z hz => ?_, rfl⟩
        rcases List.mem_append.mp hz with h | h
        · exact g5 z h
        · rw [List.mem_singleton.mp h]; omega
    · generalize hW : (if c < -1 - c then -1 - c else c) = W at *
      let o1 : Int := (W % 2147483629 + 7919 * (k : Int) + 1) ^ 3
      let o2 : Int := (o1 % 2147483647 + 104729 * ((j : Int) + 1)) * ((j : Int) + 3)
      let o3 : Int := o2 % 2147483629
      let o4 : Int := o3 ^ 5 % 2147483647 * 48271
      let o5 : Int := o4 % 2147483629
      refine ⟨_, _, [some (.int c), some (.int (k : Int)), some (.lst (List.replicate n (.int 420))), some (.int W), some (.int left), some (.lst ((res ++ [o5 / 16 % 420]).map .int)), some (.int (j : Int)), some (.int o5)], p, rfl, ?_, .inl rfl, ?_⟩
      · have hc' : ¬ ((1000000000000000000 : Int) ≤ W) ∨ ¬ 0 < left := by
          rcases Classical.em ((1000000000000000000 : Int) ≤ W) with h | h
          · exact .inr fun z => hc ⟨h, z⟩
          · exact .inl h
        have e0 : D.mulC 7919 (k : Int) = true := mulC_ok (p1000 (by omega)) (p1000 (by omega))
        have e1 : (W % 2147483629 + 7919 * (k : Int) + 1).natAbs < 18446744073709551616 := by omega
        have e2 : D.mulC 104729 ((j : Int) + 1) = true := mulC_ok (p1000 (by omega)) (p1000 (by omega))
        have e3 : D.mulC (o1 % 2147483647 + 104729 * ((j : Int) + 1)) ((j : Int) + 3) = true := mulC_ok (p1000 (by omega)) (p1000 (by omega))
        have e4 : o3.natAbs < 18446744073709551616 := by omega
        have e5 : D.mulC (o3 ^ 5 % 2147483647) 48271 = true := mulC_ok (p1000 (by omega)) (p1000 (by omega))
        have e6 : D.divC o5 16 = true := by unfold D.divC; rw [show bits 16 = 5 from by decide +kernel]; decide
        have q1 : (W % 2147483629 + 7919 * (k : Int) + 1) ^ 3 = o1 := rfl
        have q2 : (o1 % 2147483647 + 104729 * ((j : Int) + 1)) * ((j : Int) + 3) = o2 := rfl
        have q3 : o2 % 2147483629 = o3 := rfl
        have q4 : o3 ^ 5 % 2147483647 * 48271 = o4 := rfl
        have q5 : o4 % 2147483629 = o5 := rfl
        clear_value o1 o2 o3 o4 o5
        unfold lb1__law_numbers
        have ht : andF (tvF (op2F geD (vF 3) (op2F powD (cF (.int 10)) (cF (.int 18))))) (tvF (op2F gtD (vF 4) (cF (.int 0)))) [some (.int c), some (.int (k : Int)), some (.lst (List.replicate n (.int 420))), some (.int W), some (.int left), some (.lst (res.map .int)), some (.int (j : Int)), y] p = .ok false p := by
          rcases Classical.em ((1000000000000000000 : Int) ≤ W) with h | h
          · have h' : ¬ 0 < left := fun z => hc ⟨h, z⟩
            simp [h, h']
          · simp [h]
        simp [-a_andF, ht, at_, hl, lenC, e0, e1, e2, e3, e4, e5, e6, q1, q2, q3, q4, q5]
      · refine ⟨rfl, j + 1, left, res ++ [o5 / 16 % 420], some (.int (j : Int)), some (.int o5), by omega, hr, g3, by simp [g4], fun z hz => ?_, rfl⟩
        rcases List.mem_append.mp hz with h | h
        · exact g5 z h
        · rw [List.mem_singleton.mp h]; omega) (rngD 0 n) [some (.int c), some (.int (k : Int)), some (.lst (List.replicate n (.int 420))), some (.int (if c < -1 - c then -1 - c else c)), some (.int (if c < -1 - c then -1 - c else c)), some (.lst []), none, none] ps
    ⟨rfl, 0, _, [], none, none, by rw [rng_L, rngL_len]; omega, by rw [rng_L, rngL_len], hw, rfl, (fun z hz => by cases hz), rfl⟩
  refine ⟨res, ?_, by simp at g1; omega, g5⟩
  subst h2 g6
  unfold f__law_numbers g__law_numbers
  simp [hpad, lenC, rgC, hn1, h1]
theorem law_pool (a : Ad) (c : Int) (k n : Nat) (hk : k ≤ 63) (hn : n ≤ 1000) (ps : Ps) : ∃ nums : List Int, f__law_pool a [.int c, .int (k : Int), .int n] ps = .ok (poolD nums) ps ∧ nums.length = n ∧ ∀ z ∈ nums, 0 ≤ z ∧ z < 420 := by
  obtain ⟨nums, h1, h2, h3⟩ := law_numbers a c k n hk hn ps
  refine ⟨nums, ?_, h2, h3⟩
  have hpad : padR 3 [.int c, .int (k : Int), .int (n : Int)] = [some (.int c), some (.int (k : Int)), some (.int (n : Int))] := rfl
  have hn1 : n ≤ 1000000 := by omega
  have hn2 : (n : Int) ≤ 1000000 := by omega
  have hn3 : (-1000000 : Int) ≤ n := by omega
  have hf : (List.replicate n [D.int 420]).flatten = List.replicate n (D.int 420) := by
    clear h1 hpad hn1 hn2 hn3 hn h2
    induction n with
    | zero => rfl
    | succ n ih => rw [List.replicate_succ, List.flatten_cons, ih, List.replicate_succ]; rfl
  unfold f__law_pool g__law_pool
  simp [hpad, lenC, hn1, hn2, hn3, hf, h1]
  rfl
theorem law_draw (a : Ad) (nums : List Int) (at_ : Nat) (T : List (Addr × Str)) (m : Nat) (hm : 0 < m) (hp : ∀ z ∈ nums, 0 ≤ z) : ∃ r : Nat, f__law_draw a [.pool, .int (m : Int)] (some ⟨nums, at_, none, T⟩) = .ok (.int (r : Int)) (some ⟨nums, at_ + 1, none, T⟩) ∧ r < m := by
  have hpad : padR 3 [.pool, .int (m : Int)] = [some .pool, some (.int (m : Int)), none] := rfl
  have hm1 : (0 : Int) < m := by omega
  by_cases h : at_ < nums.length
  · have e : atI nums (at_ : Int) = some nums[at_] := atI_nat (List.getElem?_eq_getElem h)
    have e0 : 0 ≤ nums[at_] := hp _ (List.getElem_mem h)
    refine ⟨(nums[at_] % (m : Int)).toNat, ?_, ?_⟩
    · have e1 : ((nums[at_] % (m : Int)).toNat : Int) = nums[at_] % (m : Int) := Int.toNat_of_nonneg (Int.emod_nonneg _ (by omega))
      rw [e1]
      unfold f__law_draw g__law_draw
      have h1 : (at_ : Int) < nums.length := by omega
      have h2 : (0 : Int) ≤ (at_ : Int) + 1 := by omega
      simp [hpad, h, h1, h2, e, hm, hm1]
    · have := Int.emod_lt_of_pos nums[at_] hm1
      omega
  · refine ⟨0, ?_, hm⟩
    unfold f__law_draw g__law_draw
    have h1 : ¬ (at_ : Int) < nums.length := by omega
    have h2 : (0 : Int) ≤ (at_ : Int) + 1 := by omega
    simp [hpad, h, h1, h2]
end K42
set_option Elab.async false
set_option linter.all false
set_option maxRecDepth 100000
set_option maxHeartbeats 2000000
namespace DL
open PySem L2
abbrev strL (N : List Str) : List D := N.map .str
def dkL (N : List Str) (f : Str → D) : List (Key × D) := N.map fun n => (.inr n, f n)
@[simp] theorem dkL_len (N : List Str) (f : Str → D) : (dkL N f).length = N.length := by unfold dkL; simp
theorem dkL_cons (n : Str) (N : List Str) (f : Str → D) : dkL (n :: N) f = (.inr n, f n) :: dkL N f := rfl
@[simp] theorem findD_dkL (N : List Str) (f : Str → D) (n : Str) : findD (dkL N f) (.inr n) = if n ∈ N then some (f n) else none := by
  induction N with
  | nil => rfl
  | cons m r ih =>
    rw [dkL_cons]
    unfold findD at ih ⊢
    by_cases h : m = n
    · subst h; rw [List.find?_cons_of_pos (by simp)]; simp
    · rw [List.find?_cons_of_neg (by simpa using h), ih]
      have : n ≠ m := fun e => h e.symm
      simp [this]
@[simp] theorem keysG_dkL (N : List Str) (f : Str → D) : keysG (dkL N f) = strL N := by unfold keysG dkL; rw [List.map_map]; rfl
@[simp] theorem keysD_dkL (N : List Str) (f : Str → D) : (dkL N f).map (fun kv => keyD kv.1) = strL N := keysG_dkL N f
@[simp] theorem valsG_dkL (N : List Str) (f : Str → D) : valsG (dkL N f) = N.map f := by unfold valsG dkL; rw [List.map_map]; rfl
@[simp] theorem keyStrs_dkL : ∀ (N : List Str) (f : Str → D), keyStrs (dkL N f) = some N
  | [], _ => rfl
  | n :: r, f => by
    show (keyStrs (dkL r f)).map (n :: ·) = _
    rw [keyStrs_dkL r f]; rfl
@[simp] theorem strsOf_strL : ∀ (N : List Str), strsOf (strL N) = some N
  | [] => rfl
  | n :: r => by
    show (strsOf (strL r)).map (n :: ·) = _
    rw [strsOf_strL r]; rfl
@[simp] theorem in_strL (n : Str) : ∀ (N : List Str), anyEq (.str n) (strL N) = some (decide (n ∈ N))
  | [] => rfl
  | m :: r => by
    show (match (D.str m).fv, anyEq (.str n) (strL r) with | some y, some b => some (eqV y (.str n) || b) | _, _ => none) = _
    rw [in_strL n r]
    show some (eqV (.str m) (.str n) || decide (n ∈ r)) = _
    have : eqV (.str m) (.str n) = decide (n = m) := by
      unfold eqV
      by_cases e : n = m
      · subst e; simp
      · have : m ≠ n := fun z => e z.symm
        simp [e, this]
    rw [this]
    by_cases e : n = m <;> by_cases e2 : n ∈ r <;> simp [e, e2]
@[simp] theorem inO_l (n : Str) (N : List Str) : D.inO (.str n) (.lst (strL N)) = some (decide (n ∈ N)) := in_strL n N
@[simp] theorem inO_d (n : Str) (N : List Str) (f : Str → D) : D.inO (.str n) (.dk (dkL N f)) = some (decide (n ∈ N)) := by
  show some (findD (dkL N f) (.inr n)).isSome = _
  rw [findD_dkL]
  by_cases h : n ∈ N <;> simp [h]
theorem eqV_s (m n : Str) : eqV (.str m) (.str n) = decide (m = n) := by
  unfold eqV; by_cases e : m = n <;> simp [e]
theorem ne_s (m n : Str) : D.ne (.str m) (.str n) = pure (.bl (!decide (m = n))) := by
  show (if scal (.str m) (.str n) = true then (pure (.bl (!decide ((V.str m) = (V.str n)))) : R D) else R.und) = _
  rw [if_pos (show scal (.str m) (.str n) = true from rfl)]
  by_cases h : m = n <;> simp [h]
section
variable {F : D → Rho → R Rho} {fc : FT} {fe fk fv : FE} {ρ : Rho} {ps : Ps} {i : Nat}
@[simp] theorem a_lcF (vs : List Nat) (fi : FA) (F : D → Rho → R Rho) (fc : FT) (fe : FE) (ρ : Rho) (ps : Ps) : lcF vs fi F fc fe ρ ps = Res.bd (fi ρ ps) fun its p => Res.bd (noX (lcGo F fc fe its (wipeR ρ vs)) p) fun ds p => if lenC ds.length = true then .ok (.lst ds) p else .und := by
  unfold lcF; simp only [ap_bind, ap_ite, ap_pure, ap_und]
@[simp] theorem a_dcF (vs : List Nat) (fi : FA) (F : D → Rho → R Rho) (fc : FT) (fk fv : FE) (ρ : Rho) (ps : Ps) : dcF vs fi F fc fk fv ρ ps = Res.bd (fi ρ ps) fun its p => Res.bd (noX (dcGo F fc fk fv its (wipeR ρ vs) []) p) fun ds p => .ok (.dk ds) p := by
  unfold dcF; simp only [ap_bind, ap_ite, ap_pure, ap_und]
@[simp] theorem a_scF (vs : List Nat) (fi : FA) (F : D → Rho → R Rho) (fc : FT) (fe : FE) (ρ : Rho) (ps : Ps) : scF vs fi F fc fe ρ ps = Res.bd (fi ρ ps) fun its p => noX (scGo F fc fe its (wipeR ρ vs) []) p := by
  unfold scF; simp only [ap_bind, ap_ite, ap_pure, ap_und]
@[simp] theorem a_sc2F (vs vs1 : List Nat) (fi : FA) (F : D → Rho → R Rho) (fc : FT) (fi1 : FA) (F1 : D → Rho → R Rho) (fc1 : FT) (fe : FE) (ρ : Rho) (ps : Ps) : sc2F vs vs1 fi F fc fi1 F1 fc1 fe ρ ps = Res.bd (fi ρ ps) fun its p => noX (sc2Go vs1 F fc fi1 F1 fc1 fe its (wipeR ρ vs) []) p := by
  unfold sc2F; simp only [ap_bind, ap_ite, ap_pure, ap_und]
theorem tu_ap {α : Type} (F : D → Rho → R Rho) (fc : FT) (d : D) (k : Rho → Bool → R α) (ρ : Rho) (ps : Ps) : tuF F fc d k ρ ps = Res.bd (noX (F d ρ) ps) fun ρ1 p => Res.bd (noX (fc ρ1) p) fun b p => k ρ1 b p := by
  unfold tuF; simp only [ap_bind]
def keyL (N : List Str) : List Key := N.map Sum.inr
@[simp] theorem keyL_len (N : List Str) : (keyL N).length = N.length := by simp [keyL]
@[simp] theorem strK_L : ∀ N : List Str, strK (keyL N) = some N
  | [] => rfl
  | n :: r => by
    show (strK (keyL r)).map (n :: ·) = _
    rw [strK_L r]; rfl
end
end DL
set_option Elab.async false
set_option linter.all false
set_option maxRecDepth 100000
set_option maxHeartbeats 16000000
namespace DL
open PySem L2
theorem eq_i (m n : Int) : D.eqO (.int m) (.int n) = some (decide (m = n)) := by
  show (if scal (.int m) (.int n) = true then some (decide ((V.int m) = (V.int n))) else none) = _
  rw [if_pos (show scal (.int m) (.int n) = true from rfl)]
  by_cases h : m = n <;> simp [h]
theorem foN_nx {F : D → Rho → R Rho} {body : SF} {d : D} {r : List D} {ρ ρ1 ρ2 : Rho} {ps : Ps} (h1 : F d ρ ps = .ok ρ1 ps) (h2 : body ρ1 ps = .ok (.nx ρ2) ps) : foN F body (d :: r) ρ ps = foN F body r ρ2 ps := by
  show (F d ρ >>= fun ρ1 => body ρ1 >>= fun p => lpK (foN F body r) p) ps = _
  simp only [ap_bind, h1, bd_ok, h2]
  rfl
theorem isx_at (c : V) (ans : List Bool) (j : Nat) (ps : Ps) : isxF c ans [.lam j, .ob c] ps = .ok (.bl (ans.getD j false)) ps := by
  show (if c = c then (pure (.bl (ans.getD j false)) : R D) else R.und) ps = _
  rw [if_pos rfl]; rfl
@[simp] theorem a_xmF (j : Nat) (f : FE) (ρ : Rho) (ps : Ps) : xmF j f ρ ps = Res.bd (f ρ ps) fun _ p => .ok (.lam j) p := by
  unfold xmF; simp only [ap_bind, ap_pure]
@[simp] theorem a_xzF (j : Nat) (ρ : Rho) (ps : Ps) : xzF j ρ ps = .ok (.lam j) ps := rfl
theorem eqAll_me {F : D → D → Option Bool} : ∀ {L : List D}, (∀ x ∈ L, F x x = some true) → eqAll F L L = some true
  | [], _ => rfl
  | x :: r, h => by
    show (match F x x, eqAll F r r with | some x, some y => some (x && y) | _, _ => none) = _
    rw [h x (List.mem_cons_self ..), eqAll_me fun y hy => h y (List.mem_cons_of_mem _ hy)]; rfl
theorem ne_self {L : List D} (h1 : ∀ x ∈ L, D.nod 39 x = true) (h2 : ∀ x ∈ L, D.eqn 39 x x = some true) : D.ne (.lst L) (.lst L) = pure (.bl false) := by
  show (if D.nod 40 (.lst L) = true then ofO ((D.eqn 40 (.lst L) (.lst L)).map fun r => D.bl (!r)) else R.und) = _
  rw [if_pos (show D.nod 40 (.lst L) = true from List.all_eq_true.mpr h1)]
  have : D.eqn 40 (.lst L) (.lst L) = some true := by
    show (if L.length = L.length then eqAll (D.eqn 39) L L else some false) = _
    rw [if_pos rfl, eqAll_me h2]
  rw [this]; rfl
end DL
namespace K42
open PySem L2 DL
/-- the four things -/
inductive Tg where
  | n (r : Nat) | s (r : Nat) | l (r : Nat) | o
def tg : Tg → D
  | .n r => .int (r : Int)
  | .s r => .str (toString (r : Int))
  | .l r => .lst [.int (r : Int)]
  | .o => .non
theorem eqV_i (i : Int) : eqV (V.int i) (V.int i) = true := eqV_refl rfl
theorem eqV_s (i : Str) : eqV (V.str i) (V.str i) = true := eqV_refl rfl
theorem tg_nod (t : Tg) : D.nod 39 (tg t) = true := by cases t <;> rfl
theorem tg_eq (t : Tg) : D.eqn 39 (tg t) (tg t) = some true := by
  cases t with
  | n r => show some (eqV (V.int (r : Int)) (V.int (r : Int))) = _; rw [eqV_i]
  | s r => show some (eqV (V.str (toString (r : Int))) (V.str (toString (r : Int)))) = _; rw [eqV_s]
  | l r =>
    show eqAll (D.eqn 38) [.int (r : Int)] [.int (r : Int)] = _
    refine eqAll_me fun x hx => ?_
    rw [List.mem_singleton.mp hx]
    show some (eqV (V.int (r : Int)) (V.int (r : Int))) = _
    rw [eqV_i]
  | o => rfl
section
variable (a : Ad) (ps : Ps)
theorem fields_ok (t : D) : f__law_fields a [t] ps = .ok (.lst (List.replicate 22 t)) ps := by
  have hpad : padR 2 [t] = [some t, none] := rfl
  unfold f__law_fields g__law_fields
  simp [hpad, lenC]
theorem caught_ok (t : D) : f__law_caught a [t] ps = .ok (.str "count") ps := by
  have hpad : padR 2 [t] = [some t, none] := rfl
  have h1 : mtB [] [a.BadRun] a.BadRun = some false := by unfold mtB; simp
  have h2 : mtB [a.BadRun] [] a.BadRun = some true := by unfold mtB; simp
  have e1 : sqF (raF a.BadRun "value" (vF 0)) skF [some t, none] ps = .exc ⟨a.BadRun, [("value", t)]⟩ ps := rfl
  have e2 : tryF (sqF (raF a.BadRun "value" (vF 0)) skF) [(mtB [] [a.BadRun], hdF 1 (sqF (reF (cF (.str "way"))) skF)), (mtB [a.BadRun] [], hdF 1 (sqF (reF (cF (.str "count"))) skF))] [some t, none] ps = .ok (.rt (.str "count") [some t, some (.ins a.BadRun [("value", t)])]) ps := by
    show (match sqF (raF a.BadRun "value" (vF 0)) skF [some t, none] ps with | .exc x ps' => hdlF _ x [some t, none] ps' | r => r) = _
    rw [e1]
    show (match mtB [] [a.BadRun] a.BadRun with | some true => _ | some false => hdlF [(mtB [a.BadRun] [], hdF 1 (sqF (reF (cF (.str "count"))) skF))] ⟨a.BadRun, [("value", t)]⟩ [some t, none] ps | none => _) = _
    rw [h1]
    show (match mtB [a.BadRun] [] a.BadRun with | some true => hdF 1 (sqF (reF (cF (.str "count"))) skF) ⟨a.BadRun, [("value", t)]⟩ [some t, none] ps | some false => _ | none => _) = _
    rw [h2]
    rfl
  unfold f__law_caught g__law_caught
  simp [hpad, e2]
theorem objects_ok (t : D) : f__law_objects a [t] ps = .ok (.lst ((List.range 23).map D.lam)) ps := by
  have hpad : padR 2 [t] = [some t, none] := rfl
  have e : (List.range 23).map D.lam = [.lam 0, .lam 1, .lam 2, .lam 3, .lam 4, .lam 5, .lam 6, .lam 7, .lam 8, .lam 9, .lam 10, .lam 11, .lam 12, .lam 13, .lam 14, .lam 15, .lam 16, .lam 17, .lam 18, .lam 19, .lam 20, .lam 21, .lam 22] := rfl
  rw [e]
  unfold f__law_objects g__law_objects
  simp [hpad, lenC]
theorem classes_ok (j : Nat) (hj : j < 23) : f__law_classes a [.lam j] ps = .ok (.lst ((List.range 23).map fun i => D.bl (decide (j = i)))) ps := by
  have hpad : padR 2 [.lam j] = [some (.lam j), none] := rfl
  unfold f__law_classes g__law_classes
  simp [hpad, lenC, isx_at]
  have : j = 0 ∨ j = 1 ∨ j = 2 ∨ j = 3 ∨ j = 4 ∨ j = 5 ∨ j = 6 ∨ j = 7 ∨ j = 8 ∨ j = 9 ∨ j = 10 ∨ j = 11 ∨ j = 12 ∨ j = 13 ∨ j = 14 ∨ j = 15 ∨ j = 16 ∨ j = 17 ∨ j = 18 ∨ j = 19 ∨ j = 20 ∨ j = 21 ∨ j = 22 := by omega
  rcases this with rfl | rfl | rfl | rfl | rfl | rfl | rfl | rfl | rfl | rfl | rfl | rfl | rfl | rfl | rfl | rfl | rfl | rfl | rfl | rfl | rfl | rfl | rfl <;> rfl
theorem comp_ok (t : D) (k : Int) (am : D) (j : Nat) : ∀ (L : List Nat), lcGo (nmF 7) yesF (op2F D.eq (vF 5) (vF 7)) (L.map fun (i : Nat) => D.int (i : Int)) [none, some (.int k), some .pool, some am, some t, some (.int (j : Int)), some (.lam j), none] ps = .ok (L.map fun i => D.bl (decide (j = i))) ps
  | [] => rfl
  | i :: r => by
    have ih := comp_ok t k am j r
    have he : D.eqO (.int (j : Int)) (.int (i : Int)) = some (decide (j = i)) := by
      rw [eq_i]
      by_cases h : j = i
      · subst h; simp
      · have : ¬ (j : Int) = (i : Int) := by omega
        rw [decide_eq_false h, decide_eq_false this]
    show tuF (nmF 7) yesF (D.int (i : Int)) _ _ ps = _
    rw [tu_ap]
    have y0 : ∀ ρ, yesF ρ ps = .ok true ps := fun _ => rfl
    simp only [a_noX, a_nmF, bd_ok, y0, if_true, ap_bind]
    simp [he]
    rw [ih]
    simp
theorem lb1_ok (t am : D) (k : Int) (j : Nat) (hj : j < 23) (x7 : Option D) : lb1_law a [none, some (.int k), some .pool, some am, some t, some (.int (j : Int)), some (.lam j), none] ps = .ok (.nx [none, some (.int k), some .pool, some am, some t, some (.int (j : Int)), some (.lam j), none]) ps := by
  have hc := classes_ok a ps j hj
  have hl : ((List.range 23).map fun (i : Nat) => D.int (i : Int)) = rngD 0 23 := rfl
  have hq := comp_ok ps t k am j (List.range 23)
  rw [hl] at hq
  have hn := ne_self (L := (List.range 23).map fun i => D.bl (decide (j = i))) (fun x hx => by obtain ⟨i, _, rfl⟩ := List.mem_map.mp hx; rfl) (fun x hx => by
    obtain ⟨i, _, rfl⟩ := List.mem_map.mp hx
    cases decide (j = i) <;> rfl)
  have rg : rgC 23 = true := by decide
  have he : ([true, true, true, true, true, true, true, true, true, true, true, true, true, true, true, true, true, true, true, true, true, true, true] : List Bool).getD j false = true := by
    have : j = 0 ∨ j = 1 ∨ j = 2 ∨ j = 3 ∨ j = 4 ∨ j = 5 ∨ j = 6 ∨ j = 7 ∨ j = 8 ∨ j = 9 ∨ j = 10 ∨ j = 11 ∨ j = 12 ∨ j = 13 ∨ j = 14 ∨ j = 15 ∨ j = 16 ∨ j = 17 ∨ j = 18 ∨ j = 19 ∨ j = 20 ∨ j = 21 ∨ j = 22 := by omega
    rcases this with rfl | rfl | rfl | rfl | rfl | rfl | rfl | rfl | rfl | rfl | rfl | rfl | rfl | rfl | rfl | rfl | rfl | rfl | rfl | rfl | rfl | rfl | rfl <;> rfl
  have hi := isx_at (.ref a.CountError) [true, true, true, true, true, true, true, true, true, true, true, true, true, true, true, true, true, true, true, true, true, true, true] j ps
  rw [he] at hi
  have hlen : ((List.range 23).map fun i => D.bl (decide (j = i))).length = 23 := by simp
  generalize hB : ((List.range 23).map fun i => D.bl (decide (j = i))) = B at *
  unfold lb1_law
  simp [hc, rg, wipeR, hq, lenC, hlen, hn, hi]
theorem enu_ok : ∀ (L : List Nat) (n : Nat), L = List.range' n L.length → enuG n (L.map D.lam) = L.map fun (j : Nat) => .tup [.int (j : Int), .lam j]
  | [], _, _ => rfl
  | j :: r, n, h => by
    rw [List.length_cons, List.range'_succ] at h
    obtain ⟨h1, h2⟩ := List.cons.inj h
    subst h1
    show D.tup [.int (j : Int), .lam j] :: enuG (j + 1) (r.map D.lam) = _
    rw [enu_ok r (j + 1) h2]; rfl
theorem lp_ok (t am : D) (k : Int) : ∀ (L : List Nat) (x5 x6 : Option D), (∀ j ∈ L, j < 23) → ∃ y5 y6, foN (tpF [5, 6]) (lb1_law a) (L.map fun (j : Nat) => .tup [.int (j : Int), .lam j]) [none, some (.int k), some .pool, some am, some t, x5, x6, none] ps = .ok (.nx [none, some (.int k), some .pool, some am, some t, y5, y6, none]) ps
  | [], x5, x6, _ => ⟨x5, x6, rfl⟩
  | j :: r, x5, x6, h => by
    obtain ⟨y5, y6, ih⟩ := lp_ok t am k r (some (.int (j : Int))) (some (.lam j)) fun i hi => h i (List.mem_cons_of_mem _ hi)
    refine ⟨y5, y6, ?_⟩
    have n1 : tpF [5, 6] (.tup [.int (j : Int), .lam j]) [none, some (.int k), some .pool, some am, some t, x5, x6, none] ps = .ok [none, some (.int k), some .pool, some am, some t, some (.int (j : Int)), some (.lam j), none] ps := rfl
    rw [List.map_cons, foN_nx n1 (lb1_ok a ps t am k j (h j (List.mem_cons_self ..)) none), ih]
theorem rep_one (t : D) (n : Nat) : (List.replicate n [t]).flatten = List.replicate n t := by
  induction n with
  | zero => rfl
  | succ n ih => rw [List.replicate_succ, List.flatten_cons, ih]; rfl
theorem lb2_ok (t : Tg) (am : D) (k : Int) (x5 x6 : Option D) : ∃ y5 y6, lb2_law a [none, some (.int k), some .pool, some am, some (tg t), x5, x6, none] ps = .ok (.nx [none, some (.int k), some .pool, some am, some (tg t), y5, y6, none]) ps := by
  obtain ⟨y5, y6, lp⟩ := lp_ok a ps (tg t) am k (List.range 23) x5 x6 (fun j hj => List.mem_range.mp hj)
  refine ⟨y5, y6, ?_⟩
  have h1 := fields_ok a ps (tg t)
  have h2 := caught_ok a ps (tg t)
  have h3 := objects_ok a ps (tg t)
  have h4 : enu [.lst ((List.range 23).map D.lam)] = pure ((List.range 23).map fun (j : Nat) => .tup [.int (j : Int), .lam j]) := by
    show (pure (enuG 0 ((List.range 23).map D.lam)) : R (List D)) = _
    rw [enu_ok (List.range 23) 0 (by rw [List.length_range, List.range_eq_range'])]
  have h5 := ne_self (L := List.replicate 22 (tg t)) (fun x hx => by rw [(List.mem_replicate.mp hx).2]; exact tg_nod t) (fun x hx => by rw [(List.mem_replicate.mp hx).2]; exact tg_eq t)
  have h6 : D.rep (.lst [tg t]) (.int 22) = pure (.lst (List.replicate 22 (tg t))) := by
    show (if (decide ((-1000000 : Int) ≤ 22) && decide ((22 : Int) ≤ 1000000) && lenC (1 * (22 : Int).toNat)) = true then (pure (.lst (List.replicate (22 : Int).toNat [tg t]).flatten) : R D) else R.und) = _
    rw [if_pos (by decide), show (22 : Int).toNat = 22 from rfl, rep_one]
  have h7 : D.ne (.str "count") (.str "count") = pure (.bl false) := by rw [ne_s]; simp
  have e22 : List.replicate 22 (tg t) = [tg t, tg t, tg t, tg t, tg t, tg t, tg t, tg t, tg t, tg t, tg t, tg t, tg t, tg t, tg t, tg t, tg t, tg t, tg t, tg t, tg t, tg t] := rfl
  rw [e22] at h1 h5 h6
  generalize ((List.range 23).map fun (j : Nat) => D.tup [.int (j : Int), .lam j]) = E23 at *
  generalize (List.range 23).map D.lam = L23 at *
  generalize tg t = tt at *
  unfold lb2_law
  simp [h1, h2, h3, h4, h5, h6, h7, lp, lenC]
end
theorem turn_ok (a : Ad) {nums : List Int} (hp : ∀ z ∈ nums, 0 ≤ z) (k : Nat) : ∃ ρ' ps', g_turn a (turnR 8 k) (some ⟨nums, 0, none, T0 a⟩) = .ok (.nx ρ') ps' := by
  obtain ⟨r, h1, h2⟩ := law_draw a nums 0 (T0 a) 400 (by decide) hp
  let ps : Ps := some ⟨nums, 0 + 1, none, T0 a⟩
  have h1 : f__law_draw a [.pool, .int 400] (some ⟨nums, 0, none, T0 a⟩) = .ok (.int (r : Int)) ps := h1
  have am : D := .int (r : Int)
  obtain ⟨y1, z1, e1⟩ := lb2_ok a ps (.n r) (.int (r : Int)) (k : Int) none none
  obtain ⟨y2, z2, e2⟩ := lb2_ok a ps (.s r) (.int (r : Int)) (k : Int) y1 z1
  obtain ⟨y3, z3, e3⟩ := lb2_ok a ps (.l r) (.int (r : Int)) (k : Int) y2 z2
  obtain ⟨y4, z4, e4⟩ := lb2_ok a ps .o (.int (r : Int)) (k : Int) y3 z3
  have lp : foN (nmF 4) (lb2_law a) [.int (r : Int), .str (toString (r : Int)), .lst [.int (r : Int)], .non] [none, some (.int (k : Int)), some .pool, some (.int (r : Int)), none, none, none, none] ps = .ok (.nx [none, some (.int (k : Int)), some .pool, some (.int (r : Int)), some .non, y4, z4, none]) ps := by
    rw [foN_nx rfl e1, foN_nx rfl e2, foN_nx rfl e3, foN_nx rfl e4]; rfl
  have ts : D.toStr (.int (r : Int)) = pure (.str (toString (r : Int))) := by
    show (if decide ((r : Int).natAbs.log2 < 1920) = true then (pure (.str (toString (r : Int))) : R D) else R.und) = _
    have : (r : Int).natAbs.log2 < 1920 := by
      have h3 : (r : Int).natAbs = r := rfl
      rw [h3]
      by_cases z : r = 0
      · subst z; decide
      · exact Nat.lt_of_lt_of_le (Nat.log2_lt z |>.mpr (show r < 2 ^ 9 by omega)) (by decide)
    rw [decide_eq_true this, if_pos rfl]
  have hR : turnR 8 k = [none, some (.int (k : Int)), some .pool, none, none, none, none, none] := rfl
  refine ⟨[none, some (.int (k : Int)), some .pool, some (.int (r : Int)), some .non, y4, z4, none], ps, ?_⟩
  rw [hR]
  clear_value ps
  generalize toString (r : Int) = tx at *
  unfold g_turn
  simp [h1, ts, lenC, lp]
theorem math_pool (a : Ad) : ∀ (c : Int) (k : Nat), k ≤ 63 → ∃ nums : List Int, f__law_pool a [.int c, .int (k : Int), .int 4] none = .ok (poolD nums) none ∧ ∃ ρ' ps', g_turn a (turnR 8 k) (some ⟨nums, 0, none, T0 a⟩) = .ok (.nx ρ') ps' := fun c k hk => by
  obtain ⟨nums, h1, h2, h3⟩ := law_pool a c k 4 hk (by decide) none
  exact ⟨nums, h1, turn_ok a (fun z hz => (h3 z hz).1) k⟩
theorem math_end (a : Ad) : ∃ ρ' ps', g_tail a (List.replicate 8 none) none = .ok (.rt (.bl true) ρ') ps' := ⟨_, _, rfl⟩
end K42
set_option Elab.async false
set_option linter.all false
set_option maxRecDepth 100000
set_option maxHeartbeats 0
namespace K42
open PySem PySem.Spec PyProof.Rows L2 DL
abbrev rowR : PySem.W.OpenRow := PySem.W.OpenLaw.row PySem.Challenge.rw_countededges_k42_classes_of_errors
abbrev qv : Program := PySem.W.view rowR.prog [34]
def names0 : List Str := ["CountError", "BadArgument", "BadProgram", "BadPlace", "BadWay", "BadRun", "BadCounter", "BadLot", "NoLot", "BadNumber", "BadValues", "NotTold", "Rings", "BadCosts", "BadLevels", "TooMany", "BadChange", "BadText", "BadName", "NameTaken", "UnknownName", "FailedDeed", "BadCommand", "NothingToUndo", "_law_numbers", "_law_pool", "_law_draw", "_law_opened", "_law_objects", "_law_classes"]
def names1 : List Str := ["_law_fields", "_law_caught"]
def names : List Str := names0 ++ (names1)
def cs0 : List (PySem.W.Frag → Bool) := [
  fun K => decide (PySem.W.nsIn K mainGlobals "BadArgument" = some (some (.ref (He.ga K "BadArgument")))),
  fun K => decide (PySem.W.nsIn K mainGlobals "BadProgram" = some (some (.ref (He.ga K "BadProgram")))),
  fun K => decide (PySem.W.nsIn K mainGlobals "BadPlace" = some (some (.ref (He.ga K "BadPlace")))),
  fun K => decide (PySem.W.nsIn K mainGlobals "BadWay" = some (some (.ref (He.ga K "BadWay")))),
  fun K => decide (PySem.W.nsIn K mainGlobals "BadRun" = some (some (.ref (He.ga K "BadRun")))),
  fun K => decide (PySem.W.nsIn K mainGlobals "BadCounter" = some (some (.ref (He.ga K "BadCounter")))),
  fun K => decide (PySem.W.nsIn K mainGlobals "BadLot" = some (some (.ref (He.ga K "BadLot")))),
  fun K => decide (PySem.W.nsIn K mainGlobals "NoLot" = some (some (.ref (He.ga K "NoLot")))),
  fun K => decide (PySem.W.nsIn K mainGlobals "BadNumber" = some (some (.ref (He.ga K "BadNumber")))),
  fun K => decide (PySem.W.nsIn K mainGlobals "BadValues" = some (some (.ref (He.ga K "BadValues")))),
  fun K => decide (PySem.W.nsIn K mainGlobals "NotTold" = some (some (.ref (He.ga K "NotTold")))),
  fun K => decide (PySem.W.nsIn K mainGlobals "Rings" = some (some (.ref (He.ga K "Rings")))),
  fun K => decide (PySem.W.nsIn K mainGlobals "BadCosts" = some (some (.ref (He.ga K "BadCosts")))),
  fun K => decide (PySem.W.nsIn K mainGlobals "BadLevels" = some (some (.ref (He.ga K "BadLevels")))),
  fun K => decide (PySem.W.nsIn K mainGlobals "TooMany" = some (some (.ref (He.ga K "TooMany")))),
  fun K => decide (PySem.W.nsIn K mainGlobals "BadChange" = some (some (.ref (He.ga K "BadChange")))),
  fun K => decide (PySem.W.nsIn K mainGlobals "BadText" = some (some (.ref (He.ga K "BadText")))),
  fun K => decide (PySem.W.nsIn K mainGlobals "BadName" = some (some (.ref (He.ga K "BadName")))),
  fun K => decide (PySem.W.nsIn K mainGlobals "NameTaken" = some (some (.ref (He.ga K "NameTaken")))),
  fun K => decide (PySem.W.nsIn K mainGlobals "UnknownName" = some (some (.ref (He.ga K "UnknownName")))),
  fun K => decide (PySem.W.nsIn K mainGlobals "FailedDeed" = some (some (.ref (He.ga K "FailedDeed")))),
  fun K => decide (PySem.W.nsIn K mainGlobals "BadCommand" = some (some (.ref (He.ga K "BadCommand")))),
  fun K => decide (PySem.W.nsIn K mainGlobals "NothingToUndo" = some (some (.ref (He.ga K "NothingToUndo")))),
  fun K => decide (PySem.W.nsIn K mainGlobals "CountError" = some (some (.ref (He.ga K "CountError")))),
  fun K => decide (PySem.W.nsIn K mainGlobals "_law_numbers" = some (some (.ref (He.ga K "_law_numbers"))))]
def cs1 : List (PySem.W.Frag → Bool) := [
  fun K => decide (PySem.W.nsIn K mainGlobals "_law_pool" = some (some (.ref (He.ga K "_law_pool")))),
  fun K => decide (PySem.W.nsIn K mainGlobals "_law_draw" = some (some (.ref (He.ga K "_law_draw")))),
  fun K => decide (PySem.W.nsIn K mainGlobals "_law_objects" = some (some (.ref (He.ga K "_law_objects")))),
  fun K => decide (PySem.W.nsIn K mainGlobals "_law_classes" = some (some (.ref (He.ga K "_law_classes")))),
  fun K => decide (PySem.W.nsIn K mainGlobals "_law_fields" = some (some (.ref (He.ga K "_law_fields")))),
  fun K => decide (PySem.W.nsIn K mainGlobals "_law_caught" = some (some (.ref (He.ga K "_law_caught")))),
  fun K => decide (PySem.W.nsIn K mainGlobals "_law_opened" = some (some (.ref (He.ga K "_law_opened")))),
  fun K => decide (PySem.W.nsIn K mainGlobals "law" = some (some (.ref (He.ga K "law")))),
  fun K => decide (PySem.W.nsIn K mainGlobals "int" = some none),
  fun K => decide (PySem.W.nsIn K mainGlobals "max" = some none),
  fun K => decide (PySem.W.nsIn K mainGlobals "len" = some none),
  fun K => decide (PySem.W.nsIn K mainGlobals "range" = some none),
  fun K => excB K (He.ga K "BadArgument"),
  fun K => decide (PySem.W.findIn K (.ref (He.ga K "BadArgument")) "__setattr__" = some (some (.builtin "object.__setattr__"))),
  fun K => decide (PySem.W.findIn K (.ref (He.ga K "BadArgument")) "__getattribute__" = some (some (.builtin "BaseException.__getattribute__"))),
  fun K => decide (PySem.W.findIn K (.ref (He.ga K "BadArgument")) "__getattr__" = some none),
  fun K => decide (PySem.W.findIn K (.ref (He.ga K "BadArgument")) "value" = some none),
  fun K => decide (PySem.W.findIn K (.ref (He.ga K "BadArgument")) "__init__" = some (some (.ref (He.ma K (He.ga K "BadArgument") "__init__")))),
  fun K => decide (PySem.W.typeIn K (.ref (He.ma K (He.ga K "BadArgument") "__init__")) = some (.type "function")),
  fun K => decide (PySem.W.keepIn K (.ref (He.ga K "BadArgument")) = true),
  fun K => decide (PySem.W.subIn K (.ref (He.ga K "BadArgument")) (.type "BaseException") = some true),
  fun K => decide (PySem.W.typeIn K (.ref (He.ga K "BadArgument")) = some (.type "type")),
  fun K => decide (PySem.W.hasDictIn K (He.ga K "BadArgument") = true),
  fun K => excB K (He.ga K "BadProgram"),
  fun K => decide (PySem.W.findIn K (.ref (He.ga K "BadProgram")) "__setattr__" = some (some (.builtin "object.__setattr__")))]
def cs2 : List (PySem.W.Frag → Bool) := [
  fun K => decide (PySem.W.findIn K (.ref (He.ga K "BadProgram")) "__getattribute__" = some (some (.builtin "BaseException.__getattribute__"))),
  fun K => decide (PySem.W.findIn K (.ref (He.ga K "BadProgram")) "__getattr__" = some none),
  fun K => decide (PySem.W.findIn K (.ref (He.ga K "BadProgram")) "part" = some none),
  fun K => decide (PySem.W.findIn K (.ref (He.ga K "BadProgram")) "__init__" = some (some (.ref (He.ma K (He.ga K "BadProgram") "__init__")))),
  fun K => decide (PySem.W.typeIn K (.ref (He.ma K (He.ga K "BadProgram") "__init__")) = some (.type "function")),
  fun K => decide (PySem.W.keepIn K (.ref (He.ga K "BadProgram")) = true),
  fun K => decide (PySem.W.subIn K (.ref (He.ga K "BadProgram")) (.type "BaseException") = some true),
  fun K => decide (PySem.W.typeIn K (.ref (He.ga K "BadProgram")) = some (.type "type")),
  fun K => decide (PySem.W.hasDictIn K (He.ga K "BadProgram") = true),
  fun K => excB K (He.ga K "BadPlace"),
  fun K => decide (PySem.W.findIn K (.ref (He.ga K "BadPlace")) "__setattr__" = some (some (.builtin "object.__setattr__"))),
  fun K => decide (PySem.W.findIn K (.ref (He.ga K "BadPlace")) "__getattribute__" = some (some (.builtin "BaseException.__getattribute__"))),
  fun K => decide (PySem.W.findIn K (.ref (He.ga K "BadPlace")) "__getattr__" = some none),
  fun K => decide (PySem.W.findIn K (.ref (He.ga K "BadPlace")) "value" = some none),
  fun K => decide (PySem.W.findIn K (.ref (He.ga K "BadPlace")) "__init__" = some (some (.ref (He.ma K (He.ga K "BadPlace") "__init__")))),
  fun K => decide (PySem.W.typeIn K (.ref (He.ma K (He.ga K "BadPlace") "__init__")) = some (.type "function")),
  fun K => decide (PySem.W.keepIn K (.ref (He.ga K "BadPlace")) = true),
  fun K => decide (PySem.W.subIn K (.ref (He.ga K "BadPlace")) (.type "BaseException") = some true),
  fun K => decide (PySem.W.typeIn K (.ref (He.ga K "BadPlace")) = some (.type "type")),
  fun K => decide (PySem.W.hasDictIn K (He.ga K "BadPlace") = true),
  fun K => excB K (He.ga K "BadWay"),
  fun K => decide (PySem.W.findIn K (.ref (He.ga K "BadWay")) "__setattr__" = some (some (.builtin "object.__setattr__"))),
  fun K => decide (PySem.W.findIn K (.ref (He.ga K "BadWay")) "__getattribute__" = some (some (.builtin "BaseException.__getattribute__"))),
  fun K => decide (PySem.W.findIn K (.ref (He.ga K "BadWay")) "__getattr__" = some none),
  fun K => decide (PySem.W.findIn K (.ref (He.ga K "BadWay")) "value" = some none)]
def cs3 : List (PySem.W.Frag → Bool) := [
  fun K => decide (PySem.W.findIn K (.ref (He.ga K "BadWay")) "__init__" = some (some (.ref (He.ma K (He.ga K "BadWay") "__init__")))),
  fun K => decide (PySem.W.typeIn K (.ref (He.ma K (He.ga K "BadWay") "__init__")) = some (.type "function")),
  fun K => decide (PySem.W.keepIn K (.ref (He.ga K "BadWay")) = true),
  fun K => decide (PySem.W.subIn K (.ref (He.ga K "BadWay")) (.type "BaseException") = some true),
  fun K => decide (PySem.W.typeIn K (.ref (He.ga K "BadWay")) = some (.type "type")),
  fun K => decide (PySem.W.hasDictIn K (He.ga K "BadWay") = true),
  fun K => excB K (He.ga K "BadRun"),
  fun K => decide (PySem.W.findIn K (.ref (He.ga K "BadRun")) "__setattr__" = some (some (.builtin "object.__setattr__"))),
  fun K => decide (PySem.W.findIn K (.ref (He.ga K "BadRun")) "__getattribute__" = some (some (.builtin "BaseException.__getattribute__"))),
  fun K => decide (PySem.W.findIn K (.ref (He.ga K "BadRun")) "__getattr__" = some none),
  fun K => decide (PySem.W.findIn K (.ref (He.ga K "BadRun")) "value" = some none),
  fun K => decide (PySem.W.findIn K (.ref (He.ga K "BadRun")) "__init__" = some (some (.ref (He.ma K (He.ga K "BadRun") "__init__")))),
  fun K => decide (PySem.W.typeIn K (.ref (He.ma K (He.ga K "BadRun") "__init__")) = some (.type "function")),
  fun K => decide (PySem.W.keepIn K (.ref (He.ga K "BadRun")) = true),
  fun K => decide (PySem.W.subIn K (.ref (He.ga K "BadRun")) (.type "BaseException") = some true),
  fun K => decide (PySem.W.typeIn K (.ref (He.ga K "BadRun")) = some (.type "type")),
  fun K => decide (PySem.W.hasDictIn K (He.ga K "BadRun") = true),
  fun K => excB K (He.ga K "BadCounter"),
  fun K => decide (PySem.W.findIn K (.ref (He.ga K "BadCounter")) "__setattr__" = some (some (.builtin "object.__setattr__"))),
  fun K => decide (PySem.W.findIn K (.ref (He.ga K "BadCounter")) "__getattribute__" = some (some (.builtin "BaseException.__getattribute__"))),
  fun K => decide (PySem.W.findIn K (.ref (He.ga K "BadCounter")) "__getattr__" = some none),
  fun K => decide (PySem.W.findIn K (.ref (He.ga K "BadCounter")) "value" = some none),
  fun K => decide (PySem.W.findIn K (.ref (He.ga K "BadCounter")) "__init__" = some (some (.ref (He.ma K (He.ga K "BadCounter") "__init__")))),
  fun K => decide (PySem.W.typeIn K (.ref (He.ma K (He.ga K "BadCounter") "__init__")) = some (.type "function")),
  fun K => decide (PySem.W.keepIn K (.ref (He.ga K "BadCounter")) = true)]
def cs4 : List (PySem.W.Frag → Bool) := [
  fun K => decide (PySem.W.subIn K (.ref (He.ga K "BadCounter")) (.type "BaseException") = some true),
  fun K => decide (PySem.W.typeIn K (.ref (He.ga K "BadCounter")) = some (.type "type")),
  fun K => decide (PySem.W.hasDictIn K (He.ga K "BadCounter") = true),
  fun K => excB K (He.ga K "BadLot"),
  fun K => decide (PySem.W.findIn K (.ref (He.ga K "BadLot")) "__setattr__" = some (some (.builtin "object.__setattr__"))),
  fun K => decide (PySem.W.findIn K (.ref (He.ga K "BadLot")) "__getattribute__" = some (some (.builtin "BaseException.__getattribute__"))),
  fun K => decide (PySem.W.findIn K (.ref (He.ga K "BadLot")) "__getattr__" = some none),
  fun K => decide (PySem.W.findIn K (.ref (He.ga K "BadLot")) "value" = some none),
  fun K => decide (PySem.W.findIn K (.ref (He.ga K "BadLot")) "__init__" = some (some (.ref (He.ma K (He.ga K "BadLot") "__init__")))),
  fun K => decide (PySem.W.typeIn K (.ref (He.ma K (He.ga K "BadLot") "__init__")) = some (.type "function")),
  fun K => decide (PySem.W.keepIn K (.ref (He.ga K "BadLot")) = true),
  fun K => decide (PySem.W.subIn K (.ref (He.ga K "BadLot")) (.type "BaseException") = some true),
  fun K => decide (PySem.W.typeIn K (.ref (He.ga K "BadLot")) = some (.type "type")),
  fun K => decide (PySem.W.hasDictIn K (He.ga K "BadLot") = true),
  fun K => excB K (He.ga K "NoLot"),
  fun K => decide (PySem.W.findIn K (.ref (He.ga K "NoLot")) "__setattr__" = some (some (.builtin "object.__setattr__"))),
  fun K => decide (PySem.W.findIn K (.ref (He.ga K "NoLot")) "__getattribute__" = some (some (.builtin "BaseException.__getattribute__"))),
  fun K => decide (PySem.W.findIn K (.ref (He.ga K "NoLot")) "__getattr__" = some none),
  fun K => decide (PySem.W.findIn K (.ref (He.ga K "NoLot")) "reason" = some none),
  fun K => decide (PySem.W.findIn K (.ref (He.ga K "NoLot")) "__init__" = some (some (.ref (He.ma K (He.ga K "NoLot") "__init__")))),
  fun K => decide (PySem.W.typeIn K (.ref (He.ma K (He.ga K "NoLot") "__init__")) = some (.type "function")),
  fun K => decide (PySem.W.keepIn K (.ref (He.ga K "NoLot")) = true),
  fun K => decide (PySem.W.subIn K (.ref (He.ga K "NoLot")) (.type "BaseException") = some true),
  fun K => decide (PySem.W.typeIn K (.ref (He.ga K "NoLot")) = some (.type "type")),
  fun K => decide (PySem.W.hasDictIn K (He.ga K "NoLot") = true)]
def cs5 : List (PySem.W.Frag → Bool) := [
  fun K => excB K (He.ga K "BadNumber"),
  fun K => decide (PySem.W.findIn K (.ref (He.ga K "BadNumber")) "__setattr__" = some (some (.builtin "object.__setattr__"))),
  fun K => decide (PySem.W.findIn K (.ref (He.ga K "BadNumber")) "__getattribute__" = some (some (.builtin "BaseException.__getattribute__"))),
  fun K => decide (PySem.W.findIn K (.ref (He.ga K "BadNumber")) "__getattr__" = some none),
  fun K => decide (PySem.W.findIn K (.ref (He.ga K "BadNumber")) "value" = some none),
  fun K => decide (PySem.W.findIn K (.ref (He.ga K "BadNumber")) "__init__" = some (some (.ref (He.ma K (He.ga K "BadNumber") "__init__")))),
  fun K => decide (PySem.W.typeIn K (.ref (He.ma K (He.ga K "BadNumber") "__init__")) = some (.type "function")),
  fun K => decide (PySem.W.keepIn K (.ref (He.ga K "BadNumber")) = true),
  fun K => decide (PySem.W.subIn K (.ref (He.ga K "BadNumber")) (.type "BaseException") = some true),
  fun K => decide (PySem.W.typeIn K (.ref (He.ga K "BadNumber")) = some (.type "type")),
  fun K => decide (PySem.W.hasDictIn K (He.ga K "BadNumber") = true),
  fun K => excB K (He.ga K "BadValues"),
  fun K => decide (PySem.W.findIn K (.ref (He.ga K "BadValues")) "__setattr__" = some (some (.builtin "object.__setattr__"))),
  fun K => decide (PySem.W.findIn K (.ref (He.ga K "BadValues")) "__getattribute__" = some (some (.builtin "BaseException.__getattribute__"))),
  fun K => decide (PySem.W.findIn K (.ref (He.ga K "BadValues")) "__getattr__" = some none),
  fun K => decide (PySem.W.findIn K (.ref (He.ga K "BadValues")) "value" = some none),
  fun K => decide (PySem.W.findIn K (.ref (He.ga K "BadValues")) "__init__" = some (some (.ref (He.ma K (He.ga K "BadValues") "__init__")))),
  fun K => decide (PySem.W.typeIn K (.ref (He.ma K (He.ga K "BadValues") "__init__")) = some (.type "function")),
  fun K => decide (PySem.W.keepIn K (.ref (He.ga K "BadValues")) = true),
  fun K => decide (PySem.W.subIn K (.ref (He.ga K "BadValues")) (.type "BaseException") = some true),
  fun K => decide (PySem.W.typeIn K (.ref (He.ga K "BadValues")) = some (.type "type")),
  fun K => decide (PySem.W.hasDictIn K (He.ga K "BadValues") = true),
  fun K => excB K (He.ga K "NotTold"),
  fun K => decide (PySem.W.findIn K (.ref (He.ga K "NotTold")) "__setattr__" = some (some (.builtin "object.__setattr__"))),
  fun K => decide (PySem.W.findIn K (.ref (He.ga K "NotTold")) "__getattribute__" = some (some (.builtin "BaseException.__getattribute__")))]
def cs6 : List (PySem.W.Frag → Bool) := [
  fun K => decide (PySem.W.findIn K (.ref (He.ga K "NotTold")) "__getattr__" = some none),
  fun K => decide (PySem.W.findIn K (.ref (He.ga K "NotTold")) "counter" = some none),
  fun K => decide (PySem.W.findIn K (.ref (He.ga K "NotTold")) "__init__" = some (some (.ref (He.ma K (He.ga K "NotTold") "__init__")))),
  fun K => decide (PySem.W.typeIn K (.ref (He.ma K (He.ga K "NotTold") "__init__")) = some (.type "function")),
  fun K => decide (PySem.W.keepIn K (.ref (He.ga K "NotTold")) = true),
  fun K => decide (PySem.W.subIn K (.ref (He.ga K "NotTold")) (.type "BaseException") = some true),
  fun K => decide (PySem.W.typeIn K (.ref (He.ga K "NotTold")) = some (.type "type")),
  fun K => decide (PySem.W.hasDictIn K (He.ga K "NotTold") = true),
  fun K => excB K (He.ga K "Rings"),
  fun K => decide (PySem.W.findIn K (.ref (He.ga K "Rings")) "__setattr__" = some (some (.builtin "object.__setattr__"))),
  fun K => decide (PySem.W.findIn K (.ref (He.ga K "Rings")) "__getattribute__" = some (some (.builtin "BaseException.__getattribute__"))),
  fun K => decide (PySem.W.findIn K (.ref (He.ga K "Rings")) "__getattr__" = some none),
  fun K => decide (PySem.W.findIn K (.ref (He.ga K "Rings")) "ring" = some none),
  fun K => decide (PySem.W.findIn K (.ref (He.ga K "Rings")) "__init__" = some (some (.ref (He.ma K (He.ga K "Rings") "__init__")))),
  fun K => decide (PySem.W.typeIn K (.ref (He.ma K (He.ga K "Rings") "__init__")) = some (.type "function")),
  fun K => decide (PySem.W.keepIn K (.ref (He.ga K "Rings")) = true),
  fun K => decide (PySem.W.subIn K (.ref (He.ga K "Rings")) (.type "BaseException") = some true),
  fun K => decide (PySem.W.typeIn K (.ref (He.ga K "Rings")) = some (.type "type")),
  fun K => decide (PySem.W.hasDictIn K (He.ga K "Rings") = true),
  fun K => excB K (He.ga K "BadCosts"),
  fun K => decide (PySem.W.findIn K (.ref (He.ga K "BadCosts")) "__setattr__" = some (some (.builtin "object.__setattr__"))),
  fun K => decide (PySem.W.findIn K (.ref (He.ga K "BadCosts")) "__getattribute__" = some (some (.builtin "BaseException.__getattribute__"))),
  fun K => decide (PySem.W.findIn K (.ref (He.ga K "BadCosts")) "__getattr__" = some none),
  fun K => decide (PySem.W.findIn K (.ref (He.ga K "BadCosts")) "value" = some none),
  fun K => decide (PySem.W.findIn K (.ref (He.ga K "BadCosts")) "__init__" = some (some (.ref (He.ma K (He.ga K "BadCosts") "__init__"))))]
def cs7 : List (PySem.W.Frag → Bool) := [
  fun K => decide (PySem.W.typeIn K (.ref (He.ma K (He.ga K "BadCosts") "__init__")) = some (.type "function")),
  fun K => decide (PySem.W.keepIn K (.ref (He.ga K "BadCosts")) = true),
  fun K => decide (PySem.W.subIn K (.ref (He.ga K "BadCosts")) (.type "BaseException") = some true),
  fun K => decide (PySem.W.typeIn K (.ref (He.ga K "BadCosts")) = some (.type "type")),
  fun K => decide (PySem.W.hasDictIn K (He.ga K "BadCosts") = true),
  fun K => excB K (He.ga K "BadLevels"),
  fun K => decide (PySem.W.findIn K (.ref (He.ga K "BadLevels")) "__setattr__" = some (some (.builtin "object.__setattr__"))),
  fun K => decide (PySem.W.findIn K (.ref (He.ga K "BadLevels")) "__getattribute__" = some (some (.builtin "BaseException.__getattribute__"))),
  fun K => decide (PySem.W.findIn K (.ref (He.ga K "BadLevels")) "__getattr__" = some none),
  fun K => decide (PySem.W.findIn K (.ref (He.ga K "BadLevels")) "value" = some none),
  fun K => decide (PySem.W.findIn K (.ref (He.ga K "BadLevels")) "__init__" = some (some (.ref (He.ma K (He.ga K "BadLevels") "__init__")))),
  fun K => decide (PySem.W.typeIn K (.ref (He.ma K (He.ga K "BadLevels") "__init__")) = some (.type "function")),
  fun K => decide (PySem.W.keepIn K (.ref (He.ga K "BadLevels")) = true),
  fun K => decide (PySem.W.subIn K (.ref (He.ga K "BadLevels")) (.type "BaseException") = some true),
  fun K => decide (PySem.W.typeIn K (.ref (He.ga K "BadLevels")) = some (.type "type")),
  fun K => decide (PySem.W.hasDictIn K (He.ga K "BadLevels") = true),
  fun K => excB K (He.ga K "TooMany"),
  fun K => decide (PySem.W.findIn K (.ref (He.ga K "TooMany")) "__setattr__" = some (some (.builtin "object.__setattr__"))),
  fun K => decide (PySem.W.findIn K (.ref (He.ga K "TooMany")) "__getattribute__" = some (some (.builtin "BaseException.__getattribute__"))),
  fun K => decide (PySem.W.findIn K (.ref (He.ga K "TooMany")) "__getattr__" = some none),
  fun K => decide (PySem.W.findIn K (.ref (He.ga K "TooMany")) "number" = some none),
  fun K => decide (PySem.W.findIn K (.ref (He.ga K "TooMany")) "__init__" = some (some (.ref (He.ma K (He.ga K "TooMany") "__init__")))),
  fun K => decide (PySem.W.typeIn K (.ref (He.ma K (He.ga K "TooMany") "__init__")) = some (.type "function")),
  fun K => decide (PySem.W.keepIn K (.ref (He.ga K "TooMany")) = true),
  fun K => decide (PySem.W.subIn K (.ref (He.ga K "TooMany")) (.type "BaseException") = some true)]
def cs8 : List (PySem.W.Frag → Bool) := [
  fun K => decide (PySem.W.typeIn K (.ref (He.ga K "TooMany")) = some (.type "type")),
  fun K => decide (PySem.W.hasDictIn K (He.ga K "TooMany") = true),
  fun K => excB K (He.ga K "BadChange"),
  fun K => decide (PySem.W.findIn K (.ref (He.ga K "BadChange")) "__setattr__" = some (some (.builtin "object.__setattr__"))),
  fun K => decide (PySem.W.findIn K (.ref (He.ga K "BadChange")) "__getattribute__" = some (some (.builtin "BaseException.__getattribute__"))),
  fun K => decide (PySem.W.findIn K (.ref (He.ga K "BadChange")) "__getattr__" = some none),
  fun K => decide (PySem.W.findIn K (.ref (He.ga K "BadChange")) "value" = some none),
  fun K => decide (PySem.W.findIn K (.ref (He.ga K "BadChange")) "__init__" = some (some (.ref (He.ma K (He.ga K "BadChange") "__init__")))),
  fun K => decide (PySem.W.typeIn K (.ref (He.ma K (He.ga K "BadChange") "__init__")) = some (.type "function")),
  fun K => decide (PySem.W.keepIn K (.ref (He.ga K "BadChange")) = true),
  fun K => decide (PySem.W.subIn K (.ref (He.ga K "BadChange")) (.type "BaseException") = some true),
  fun K => decide (PySem.W.typeIn K (.ref (He.ga K "BadChange")) = some (.type "type")),
  fun K => decide (PySem.W.hasDictIn K (He.ga K "BadChange") = true),
  fun K => excB K (He.ga K "BadText"),
  fun K => decide (PySem.W.findIn K (.ref (He.ga K "BadText")) "__setattr__" = some (some (.builtin "object.__setattr__"))),
  fun K => decide (PySem.W.findIn K (.ref (He.ga K "BadText")) "__getattribute__" = some (some (.builtin "BaseException.__getattribute__"))),
  fun K => decide (PySem.W.findIn K (.ref (He.ga K "BadText")) "__getattr__" = some none),
  fun K => decide (PySem.W.findIn K (.ref (He.ga K "BadText")) "at" = some none),
  fun K => decide (PySem.W.findIn K (.ref (He.ga K "BadText")) "__init__" = some (some (.ref (He.ma K (He.ga K "BadText") "__init__")))),
  fun K => decide (PySem.W.typeIn K (.ref (He.ma K (He.ga K "BadText") "__init__")) = some (.type "function")),
  fun K => decide (PySem.W.keepIn K (.ref (He.ga K "BadText")) = true),
  fun K => decide (PySem.W.subIn K (.ref (He.ga K "BadText")) (.type "BaseException") = some true),
  fun K => decide (PySem.W.typeIn K (.ref (He.ga K "BadText")) = some (.type "type")),
  fun K => decide (PySem.W.hasDictIn K (He.ga K "BadText") = true),
  fun K => excB K (He.ga K "BadName")]
def cs9 : List (PySem.W.Frag → Bool) := [
  fun K => decide (PySem.W.findIn K (.ref (He.ga K "BadName")) "__setattr__" = some (some (.builtin "object.__setattr__"))),
  fun K => decide (PySem.W.findIn K (.ref (He.ga K "BadName")) "__getattribute__" = some (some (.builtin "BaseException.__getattribute__"))),
  fun K => decide (PySem.W.findIn K (.ref (He.ga K "BadName")) "__getattr__" = some none),
  fun K => decide (PySem.W.findIn K (.ref (He.ga K "BadName")) "value" = some none),
  fun K => decide (PySem.W.findIn K (.ref (He.ga K "BadName")) "__init__" = some (some (.ref (He.ma K (He.ga K "BadName") "__init__")))),
  fun K => decide (PySem.W.typeIn K (.ref (He.ma K (He.ga K "BadName") "__init__")) = some (.type "function")),
  fun K => decide (PySem.W.keepIn K (.ref (He.ga K "BadName")) = true),
  fun K => decide (PySem.W.subIn K (.ref (He.ga K "BadName")) (.type "BaseException") = some true),
  fun K => decide (PySem.W.typeIn K (.ref (He.ga K "BadName")) = some (.type "type")),
  fun K => decide (PySem.W.hasDictIn K (He.ga K "BadName") = true),
  fun K => excB K (He.ga K "NameTaken"),
  fun K => decide (PySem.W.findIn K (.ref (He.ga K "NameTaken")) "__setattr__" = some (some (.builtin "object.__setattr__"))),
  fun K => decide (PySem.W.findIn K (.ref (He.ga K "NameTaken")) "__getattribute__" = some (some (.builtin "BaseException.__getattribute__"))),
  fun K => decide (PySem.W.findIn K (.ref (He.ga K "NameTaken")) "__getattr__" = some none),
  fun K => decide (PySem.W.findIn K (.ref (He.ga K "NameTaken")) "name" = some none),
  fun K => decide (PySem.W.findIn K (.ref (He.ga K "NameTaken")) "__init__" = some (some (.ref (He.ma K (He.ga K "NameTaken") "__init__")))),
  fun K => decide (PySem.W.typeIn K (.ref (He.ma K (He.ga K "NameTaken") "__init__")) = some (.type "function")),
  fun K => decide (PySem.W.keepIn K (.ref (He.ga K "NameTaken")) = true),
  fun K => decide (PySem.W.subIn K (.ref (He.ga K "NameTaken")) (.type "BaseException") = some true),
  fun K => decide (PySem.W.typeIn K (.ref (He.ga K "NameTaken")) = some (.type "type")),
  fun K => decide (PySem.W.hasDictIn K (He.ga K "NameTaken") = true),
  fun K => excB K (He.ga K "UnknownName"),
  fun K => decide (PySem.W.findIn K (.ref (He.ga K "UnknownName")) "__setattr__" = some (some (.builtin "object.__setattr__"))),
  fun K => decide (PySem.W.findIn K (.ref (He.ga K "UnknownName")) "__getattribute__" = some (some (.builtin "BaseException.__getattribute__"))),
  fun K => decide (PySem.W.findIn K (.ref (He.ga K "UnknownName")) "__getattr__" = some none)]
def cs10 : List (PySem.W.Frag → Bool) := [
  fun K => decide (PySem.W.findIn K (.ref (He.ga K "UnknownName")) "name" = some none),
  fun K => decide (PySem.W.findIn K (.ref (He.ga K "UnknownName")) "__init__" = some (some (.ref (He.ma K (He.ga K "UnknownName") "__init__")))),
  fun K => decide (PySem.W.typeIn K (.ref (He.ma K (He.ga K "UnknownName") "__init__")) = some (.type "function")),
  fun K => decide (PySem.W.keepIn K (.ref (He.ga K "UnknownName")) = true),
  fun K => decide (PySem.W.subIn K (.ref (He.ga K "UnknownName")) (.type "BaseException") = some true),
  fun K => decide (PySem.W.typeIn K (.ref (He.ga K "UnknownName")) = some (.type "type")),
  fun K => decide (PySem.W.hasDictIn K (He.ga K "UnknownName") = true),
  fun K => excB K (He.ga K "FailedDeed"),
  fun K => decide (PySem.W.findIn K (.ref (He.ga K "FailedDeed")) "__setattr__" = some (some (.builtin "object.__setattr__"))),
  fun K => decide (PySem.W.findIn K (.ref (He.ga K "FailedDeed")) "__getattribute__" = some (some (.builtin "BaseException.__getattribute__"))),
  fun K => decide (PySem.W.findIn K (.ref (He.ga K "FailedDeed")) "__getattr__" = some none),
  fun K => decide (PySem.W.findIn K (.ref (He.ga K "FailedDeed")) "at" = some none),
  fun K => decide (PySem.W.findIn K (.ref (He.ga K "FailedDeed")) "__init__" = some (some (.ref (He.ma K (He.ga K "FailedDeed") "__init__")))),
  fun K => decide (PySem.W.typeIn K (.ref (He.ma K (He.ga K "FailedDeed") "__init__")) = some (.type "function")),
  fun K => decide (PySem.W.keepIn K (.ref (He.ga K "FailedDeed")) = true),
  fun K => decide (PySem.W.subIn K (.ref (He.ga K "FailedDeed")) (.type "BaseException") = some true),
  fun K => decide (PySem.W.typeIn K (.ref (He.ga K "FailedDeed")) = some (.type "type")),
  fun K => decide (PySem.W.hasDictIn K (He.ga K "FailedDeed") = true),
  fun K => decide (PySem.W.excIn K (He.ga K "NothingToUndo") exB "Exception.__new__" = true),
  fun K => decide (PySem.W.keepIn K (.ref (He.ga K "NothingToUndo")) = true),
  fun K => excB K (He.ga K "BadCommand"),
  fun K => decide (PySem.W.findIn K (.ref (He.ga K "BadCommand")) "__setattr__" = some (some (.builtin "object.__setattr__"))),
  fun K => decide (PySem.W.findIn K (.ref (He.ga K "BadCommand")) "__getattribute__" = some (some (.builtin "BaseException.__getattribute__"))),
  fun K => decide (PySem.W.findIn K (.ref (He.ga K "BadCommand")) "__getattr__" = some none),
  fun K => decide (PySem.W.findIn K (.ref (He.ga K "BadCommand")) "line" = some none)]
def cs11 : List (PySem.W.Frag → Bool) := [
  fun K => decide (PySem.W.findIn K (.ref (He.ga K "BadCommand")) "__init__" = some (some (.ref (He.ma K (He.ga K "BadCommand") "__init__")))),
  fun K => decide (PySem.W.typeIn K (.ref (He.ma K (He.ga K "BadCommand") "__init__")) = some (.type "function")),
  fun K => decide (PySem.W.keepIn K (.ref (He.ga K "BadCommand")) = true),
  fun K => decide (PySem.W.subIn K (.ref (He.ga K "BadCommand")) (.type "BaseException") = some true),
  fun K => decide (PySem.W.typeIn K (.ref (He.ga K "BadCommand")) = some (.type "type")),
  fun K => decide (PySem.W.hasDictIn K (He.ga K "BadCommand") = true),
  fun K => exkB K,
  fun K => decide (PySem.W.specialIn K (.builtin "object.__class__") "__get__" = some (some (.builtin "getset_descriptor.__get__"))),
  fun K => decide (PySem.W.takesIn K (.builtin "object.__class__") = some true),
  fun K => isxB K "BadArgument" [true, false, false, false, false, false, false, false, false, false, false, false, false, false, false, false, false, false, false, false, false, false, false],
  fun K => decide (PySem.W.nsIn K mainGlobals "isinstance" = some none),
  fun K => isxB K "BadProgram" [false, true, false, false, false, false, false, false, false, false, false, false, false, false, false, false, false, false, false, false, false, false, false],
  fun K => isxB K "BadPlace" [false, false, true, false, false, false, false, false, false, false, false, false, false, false, false, false, false, false, false, false, false, false, false],
  fun K => isxB K "BadWay" [false, false, false, true, false, false, false, false, false, false, false, false, false, false, false, false, false, false, false, false, false, false, false],
  fun K => isxB K "BadRun" [false, false, false, false, true, false, false, false, false, false, false, false, false, false, false, false, false, false, false, false, false, false, false],
  fun K => isxB K "BadCounter" [false, false, false, false, false, true, false, false, false, false, false, false, false, false, false, false, false, false, false, false, false, false, false],
  fun K => isxB K "BadLot" [false, false, false, false, false, false, true, false, false, false, false, false, false, false, false, false, false, false, false, false, false, false, false],
  fun K => isxB K "NoLot" [false, false, false, false, false, false, false, true, false, false, false, false, false, false, false, false, false, false, false, false, false, false, false],
  fun K => isxB K "BadNumber" [false, false, false, false, false, false, false, false, true, false, false, false, false, false, false, false, false, false, false, false, false, false, false],
  fun K => isxB K "BadValues" [false, false, false, false, false, false, false, false, false, true, false, false, false, false, false, false, false, false, false, false, false, false, false],
  fun K => isxB K "NotTold" [false, false, false, false, false, false, false, false, false, false, true, false, false, false, false, false, false, false, false, false, false, false, false],
  fun K => isxB K "Rings" [false, false, false, false, false, false, false, false, false, false, false, true, false, false, false, false, false, false, false, false, false, false, false],
  fun K => isxB K "BadCosts" [false, false, false, false, false, false, false, false, false, false, false, false, true, false, false, false, false, false, false, false, false, false, false],
  fun K => isxB K "BadLevels" [false, false, false, false, false, false, false, false, false, false, false, false, false, true, false, false, false, false, false, false, false, false, false],
  fun K => isxB K "TooMany" [false, false, false, false, false, false, false, false, false, false, false, false, false, false, true, false, false, false, false, false, false, false, false]]
def cs12 : List (PySem.W.Frag → Bool) := [
  fun K => isxB K "BadChange" [false, false, false, false, false, false, false, false, false, false, false, false, false, false, false, true, false, false, false, false, false, false, false],
  fun K => isxB K "BadText" [false, false, false, false, false, false, false, false, false, false, false, false, false, false, false, false, true, false, false, false, false, false, false],
  fun K => isxB K "BadName" [false, false, false, false, false, false, false, false, false, false, false, false, false, false, false, false, false, true, false, false, false, false, false],
  fun K => isxB K "NameTaken" [false, false, false, false, false, false, false, false, false, false, false, false, false, false, false, false, false, false, true, false, false, false, false],
  fun K => isxB K "UnknownName" [false, false, false, false, false, false, false, false, false, false, false, false, false, false, false, false, false, false, false, true, false, false, false],
  fun K => isxB K "FailedDeed" [false, false, false, false, false, false, false, false, false, false, false, false, false, false, false, false, false, false, false, false, true, false, false],
  fun K => isxB K "NothingToUndo" [false, false, false, false, false, false, false, false, false, false, false, false, false, false, false, false, false, false, false, false, false, true, false],
  fun K => isxB K "BadCommand" [false, false, false, false, false, false, false, false, false, false, false, false, false, false, false, false, false, false, false, false, false, false, true],
  fun K => decide (PySem.W.isClsIn K (He.ga K "BadWay") = true),
  fun K => decide (PySem.W.subIn K (.ref (He.ga K "BadWay")) (.ref (He.ga K "BadWay")) = some true),
  fun K => decide (PySem.W.subIn K (.ref (He.ga K "CountError")) (.ref (He.ga K "BadWay")) = some false),
  fun K => decide (PySem.W.subIn K (.ref (He.ga K "BadRun")) (.ref (He.ga K "BadWay")) = some false),
  fun K => decide (PySem.W.subIn K (.ref (He.ga K "CountError")) (.type "BaseException") = some true),
  fun K => decide (PySem.W.typeIn K (.ref (He.ga K "CountError")) = some (.type "type")),
  fun K => decide (PySem.W.isClsIn K (He.ga K "CountError") = true),
  fun K => decide (PySem.W.subIn K (.ref (He.ga K "CountError")) (.ref (He.ga K "CountError")) = some true),
  fun K => decide (PySem.W.subIn K (.ref (He.ga K "BadRun")) (.ref (He.ga K "CountError")) = some true),
  fun K => decide (PySem.W.nsIn K mainGlobals "str" = some none),
  fun K => decide (PySem.W.nsIn K mainGlobals "enumerate" = some none),
  fun K => isxB K "CountError" [true, true, true, true, true, true, true, true, true, true, true, true, true, true, true, true, true, true, true, true, true, true, true],
  fun K => decide (PySem.W.nsIn K mainGlobals "min" = some none)]
def csA : List (List (PySem.W.Frag → Bool)) := [cs0, cs1, cs2, cs3, cs4, cs5, cs6, cs7, cs8, cs9, cs10, cs11, cs12]
def fe__law_numbers : FnE := ⟨fun K => (He.ga K "_law_numbers"), "_law_numbers", "_law_numbers", top 26⟩
def fe__law_pool : FnE := ⟨fun K => (He.ga K "_law_pool"), "_law_pool", "_law_pool", top 27⟩
def fe__law_draw : FnE := ⟨fun K => (He.ga K "_law_draw"), "_law_draw", "_law_draw", top 28⟩
def fe__law_objects : FnE := ⟨fun K => (He.ga K "_law_objects"), "_law_objects", "_law_objects", top 30⟩
def fe__law_classes : FnE := ⟨fun K => (He.ga K "_law_classes"), "_law_classes", "_law_classes", top 31⟩
def fe__law_fields : FnE := ⟨fun K => (He.ga K "_law_fields"), "_law_fields", "_law_fields", top 32⟩
def fe__law_caught : FnE := ⟨fun K => (He.ga K "_law_caught"), "_law_caught", "_law_caught", top 33⟩
def fe__law_opened : FnE := ⟨fun K => (He.ga K "_law_opened"), "_law_opened", "_law_opened", top 29⟩
def fe_law : FnE := ⟨fun K => (He.ga K "law"), "law", "law", top 34⟩
def fe_x_BadArgument : FnE := ⟨fun K => (He.ma K (He.ga K "BadArgument") "__init__"), "__init__", "BadArgument.__init__", inClass (top 2) 0⟩
def fe_x_BadProgram : FnE := ⟨fun K => (He.ma K (He.ga K "BadProgram") "__init__"), "__init__", "BadProgram.__init__", inClass (top 3) 0⟩
def fe_x_BadPlace : FnE := ⟨fun K => (He.ma K (He.ga K "BadPlace") "__init__"), "__init__", "BadPlace.__init__", inClass (top 4) 0⟩
def fe_x_BadWay : FnE := ⟨fun K => (He.ma K (He.ga K "BadWay") "__init__"), "__init__", "BadWay.__init__", inClass (top 5) 0⟩
def fe_x_BadRun : FnE := ⟨fun K => (He.ma K (He.ga K "BadRun") "__init__"), "__init__", "BadRun.__init__", inClass (top 6) 0⟩
def fe_x_BadCounter : FnE := ⟨fun K => (He.ma K (He.ga K "BadCounter") "__init__"), "__init__", "BadCounter.__init__", inClass (top 7) 0⟩
def fe_x_BadLot : FnE := ⟨fun K => (He.ma K (He.ga K "BadLot") "__init__"), "__init__", "BadLot.__init__", inClass (top 8) 0⟩
def fe_x_NoLot : FnE := ⟨fun K => (He.ma K (He.ga K "NoLot") "__init__"), "__init__", "NoLot.__init__", inClass (top 9) 0⟩
def fe_x_BadNumber : FnE := ⟨fun K => (He.ma K (He.ga K "BadNumber") "__init__"), "__init__", "BadNumber.__init__", inClass (top 10) 0⟩
def fe_x_BadValues : FnE := ⟨fun K => (He.ma K (He.ga K "BadValues") "__init__"), "__init__", "BadValues.__init__", inClass (top 11) 0⟩
def fe_x_NotTold : FnE := ⟨fun K => (He.ma K (He.ga K "NotTold") "__init__"), "__init__", "NotTold.__init__", inClass (top 12) 0⟩
def fe_x_Rings : FnE := ⟨fun K => (He.ma K (He.ga K "Rings") "__init__"), "__init__", "Rings.__init__", inClass (top 13) 0⟩
def fe_x_BadCosts : FnE := ⟨fun K => (He.ma K (He.ga K "BadCosts") "__init__"), "__init__", "BadCosts.__init__", inClass (top 14) 0⟩
def fe_x_BadLevels : FnE := ⟨fun K => (He.ma K (He.ga K "BadLevels") "__init__"), "__init__", "BadLevels.__init__", inClass (top 15) 0⟩
def fe_x_TooMany : FnE := ⟨fun K => (He.ma K (He.ga K "TooMany") "__init__"), "__init__", "TooMany.__init__", inClass (top 16) 0⟩
def fe_x_BadChange : FnE := ⟨fun K => (He.ma K (He.ga K "BadChange") "__init__"), "__init__", "BadChange.__init__", inClass (top 17) 0⟩
def fe_x_BadText : FnE := ⟨fun K => (He.ma K (He.ga K "BadText") "__init__"), "__init__", "BadText.__init__", inClass (top 18) 0⟩
def fe_x_BadName : FnE := ⟨fun K => (He.ma K (He.ga K "BadName") "__init__"), "__init__", "BadName.__init__", inClass (top 19) 0⟩
def fe_x_NameTaken : FnE := ⟨fun K => (He.ma K (He.ga K "NameTaken") "__init__"), "__init__", "NameTaken.__init__", inClass (top 20) 0⟩
def fe_x_UnknownName : FnE := ⟨fun K => (He.ma K (He.ga K "UnknownName") "__init__"), "__init__", "UnknownName.__init__", inClass (top 21) 0⟩
def fe_x_FailedDeed : FnE := ⟨fun K => (He.ma K (He.ga K "FailedDeed") "__init__"), "__init__", "FailedDeed.__init__", inClass (top 22) 0⟩
def fe_x_BadCommand : FnE := ⟨fun K => (He.ma K (He.ga K "BadCommand") "__init__"), "__init__", "BadCommand.__init__", inClass (top 23) 0⟩
def fnl0 : List FnE := [fe__law_numbers, fe__law_pool, fe__law_draw, fe__law_objects, fe__law_classes, fe__law_fields, fe__law_caught, fe__law_opened, fe_law, fe_x_BadArgument, fe_x_BadProgram, fe_x_BadPlace, fe_x_BadWay, fe_x_BadRun, fe_x_BadCounter, fe_x_BadLot, fe_x_NoLot, fe_x_BadNumber, fe_x_BadValues, fe_x_NotTold, fe_x_Rings, fe_x_BadCosts, fe_x_BadLevels, fe_x_TooMany, fe_x_BadChange]
def fnl1 : List FnE := [fe_x_BadText, fe_x_BadName, fe_x_NameTaken, fe_x_UnknownName, fe_x_FailedDeed, fe_x_BadCommand]
def fnA : List FnE := fnl0 ++ (fnl1)
def hx : HX := ⟨csA, fnA⟩
def fsT : PySem.W.Frag → List Addr := fun K => []
theorem run (w : World) : HandSHeadRun.RunEq rowR qv (hookT hx fsT) (obT hx fsT) 40000 names w := by
  intro os
  kernel_rfl
theorem facts {P : Program} {w : World} {G0 K : PySem.W.Frag} {h : Heap} {mg : Str → Option Value} {fa : Addr} (hK : K = cutT fsT G0) (hco : (fsT G0).all (codeOf G0) = true) (hap : apart ((tbsT fsT G0).map (·.2)) = true) (hfs : fsT K = fsT G0) (X : K.In h) (G : h.Ns mainGlobals mg) (hfa : mg "law" = some (.ref fa)) (c : SaysX hx K) :
    ∃ (fd : FuncData) (T : List (Addr × Str)), T.map (·.1) = (tbsT fsT G0).map (·.2) ∧ (∀ (s : Shared) (v : Value), BindsTo s fd ⟨[v], []⟩ [("script", v)]) ∧ ∀ base : Heap, K.In base → base.Ns mainGlobals mg → (∀ t ∈ tbsT fsT G0, LamX.TabB base mg t.1 t.2) → FnG P w K mg base CX0 4 fa fd ["script"] (spLaw T K) := by
  have h_aC_BadArgument : PySem.W.nsIn K mainGlobals "BadArgument" = some (some (.ref (He.ga K "BadArgument"))) := of_decide_eq_true (c.at_ 0 0 (l := cs0) rfl rfl)
  have h_aC_BadProgram : PySem.W.nsIn K mainGlobals "BadProgram" = some (some (.ref (He.ga K "BadProgram"))) := of_decide_eq_true (c.at_ 0 1 (l := cs0) rfl rfl)
  have h_aC_BadPlace : PySem.W.nsIn K mainGlobals "BadPlace" = some (some (.ref (He.ga K "BadPlace"))) := of_decide_eq_true (c.at_ 0 2 (l := cs0) rfl rfl)
  have h_aC_BadWay : PySem.W.nsIn K mainGlobals "BadWay" = some (some (.ref (He.ga K "BadWay"))) := of_decide_eq_true (c.at_ 0 3 (l := cs0) rfl rfl)
  have h_aC_BadRun : PySem.W.nsIn K mainGlobals "BadRun" = some (some (.ref (He.ga K "BadRun"))) := of_decide_eq_true (c.at_ 0 4 (l := cs0) rfl rfl)
  have h_aC_BadCounter : PySem.W.nsIn K mainGlobals "BadCounter" = some (some (.ref (He.ga K "BadCounter"))) := of_decide_eq_true (c.at_ 0 5 (l := cs0) rfl rfl)
  have h_aC_BadLot : PySem.W.nsIn K mainGlobals "BadLot" = some (some (.ref (He.ga K "BadLot"))) := of_decide_eq_true (c.at_ 0 6 (l := cs0) rfl rfl)
  have h_aC_NoLot : PySem.W.nsIn K mainGlobals "NoLot" = some (some (.ref (He.ga K "NoLot"))) := of_decide_eq_true (c.at_ 0 7 (l := cs0) rfl rfl)
  have h_aC_BadNumber : PySem.W.nsIn K mainGlobals "BadNumber" = some (some (.ref (He.ga K "BadNumber"))) := of_decide_eq_true (c.at_ 0 8 (l := cs0) rfl rfl)
  have h_aC_BadValues : PySem.W.nsIn K mainGlobals "BadValues" = some (some (.ref (He.ga K "BadValues"))) := of_decide_eq_true (c.at_ 0 9 (l := cs0) rfl rfl)
  have h_aC_NotTold : PySem.W.nsIn K mainGlobals "NotTold" = some (some (.ref (He.ga K "NotTold"))) := of_decide_eq_true (c.at_ 0 10 (l := cs0) rfl rfl)
  have h_aC_Rings : PySem.W.nsIn K mainGlobals "Rings" = some (some (.ref (He.ga K "Rings"))) := of_decide_eq_true (c.at_ 0 11 (l := cs0) rfl rfl)
  have h_aC_BadCosts : PySem.W.nsIn K mainGlobals "BadCosts" = some (some (.ref (He.ga K "BadCosts"))) := of_decide_eq_true (c.at_ 0 12 (l := cs0) rfl rfl)
  have h_aC_BadLevels : PySem.W.nsIn K mainGlobals "BadLevels" = some (some (.ref (He.ga K "BadLevels"))) := of_decide_eq_true (c.at_ 0 13 (l := cs0) rfl rfl)
  have h_aC_TooMany : PySem.W.nsIn K mainGlobals "TooMany" = some (some (.ref (He.ga K "TooMany"))) := of_decide_eq_true (c.at_ 0 14 (l := cs0) rfl rfl)
  have h_aC_BadChange : PySem.W.nsIn K mainGlobals "BadChange" = some (some (.ref (He.ga K "BadChange"))) := of_decide_eq_true (c.at_ 0 15 (l := cs0) rfl rfl)
  have h_aC_BadText : PySem.W.nsIn K mainGlobals "BadText" = some (some (.ref (He.ga K "BadText"))) := of_decide_eq_true (c.at_ 0 16 (l := cs0) rfl rfl)
  have h_aC_BadName : PySem.W.nsIn K mainGlobals "BadName" = some (some (.ref (He.ga K "BadName"))) := of_decide_eq_true (c.at_ 0 17 (l := cs0) rfl rfl)
  have h_aC_NameTaken : PySem.W.nsIn K mainGlobals "NameTaken" = some (some (.ref (He.ga K "NameTaken"))) := of_decide_eq_true (c.at_ 0 18 (l := cs0) rfl rfl)
  have h_aC_UnknownName : PySem.W.nsIn K mainGlobals "UnknownName" = some (some (.ref (He.ga K "UnknownName"))) := of_decide_eq_true (c.at_ 0 19 (l := cs0) rfl rfl)
  have h_aC_FailedDeed : PySem.W.nsIn K mainGlobals "FailedDeed" = some (some (.ref (He.ga K "FailedDeed"))) := of_decide_eq_true (c.at_ 0 20 (l := cs0) rfl rfl)
  have h_aC_BadCommand : PySem.W.nsIn K mainGlobals "BadCommand" = some (some (.ref (He.ga K "BadCommand"))) := of_decide_eq_true (c.at_ 0 21 (l := cs0) rfl rfl)
  have h_aC_NothingToUndo : PySem.W.nsIn K mainGlobals "NothingToUndo" = some (some (.ref (He.ga K "NothingToUndo"))) := of_decide_eq_true (c.at_ 0 22 (l := cs0) rfl rfl)
  have h_aC_CountError : PySem.W.nsIn K mainGlobals "CountError" = some (some (.ref (He.ga K "CountError"))) := of_decide_eq_true (c.at_ 0 23 (l := cs0) rfl rfl)
  have h_a__law_numbers : PySem.W.nsIn K mainGlobals "_law_numbers" = some (some (.ref (He.ga K "_law_numbers"))) := of_decide_eq_true (c.at_ 0 24 (l := cs0) rfl rfl)
  have h_a__law_pool : PySem.W.nsIn K mainGlobals "_law_pool" = some (some (.ref (He.ga K "_law_pool"))) := of_decide_eq_true (c.at_ 1 0 (l := cs1) rfl rfl)
  have h_a__law_draw : PySem.W.nsIn K mainGlobals "_law_draw" = some (some (.ref (He.ga K "_law_draw"))) := of_decide_eq_true (c.at_ 1 1 (l := cs1) rfl rfl)
  have h_a__law_objects : PySem.W.nsIn K mainGlobals "_law_objects" = some (some (.ref (He.ga K "_law_objects"))) := of_decide_eq_true (c.at_ 1 2 (l := cs1) rfl rfl)
  have h_a__law_classes : PySem.W.nsIn K mainGlobals "_law_classes" = some (some (.ref (He.ga K "_law_classes"))) := of_decide_eq_true (c.at_ 1 3 (l := cs1) rfl rfl)
  have h_a__law_fields : PySem.W.nsIn K mainGlobals "_law_fields" = some (some (.ref (He.ga K "_law_fields"))) := of_decide_eq_true (c.at_ 1 4 (l := cs1) rfl rfl)
  have h_a__law_caught : PySem.W.nsIn K mainGlobals "_law_caught" = some (some (.ref (He.ga K "_law_caught"))) := of_decide_eq_true (c.at_ 1 5 (l := cs1) rfl rfl)
  have h_a__law_opened : PySem.W.nsIn K mainGlobals "_law_opened" = some (some (.ref (He.ga K "_law_opened"))) := of_decide_eq_true (c.at_ 1 6 (l := cs1) rfl rfl)
  have h_a_law : PySem.W.nsIn K mainGlobals "law" = some (some (.ref (He.ga K "law"))) := of_decide_eq_true (c.at_ 1 7 (l := cs1) rfl rfl)
  have h_z_int : PySem.W.nsIn K mainGlobals "int" = some none := of_decide_eq_true (c.at_ 1 8 (l := cs1) rfl rfl)
  have h_z_max : PySem.W.nsIn K mainGlobals "max" = some none := of_decide_eq_true (c.at_ 1 9 (l := cs1) rfl rfl)
  have h_z_len : PySem.W.nsIn K mainGlobals "len" = some none := of_decide_eq_true (c.at_ 1 10 (l := cs1) rfl rfl)
  have h_z_range : PySem.W.nsIn K mainGlobals "range" = some none := of_decide_eq_true (c.at_ 1 11 (l := cs1) rfl rfl)
  have h_xL_BadArgument : excB K (He.ga K "BadArgument") = true := c.at_ 1 12 (l := cs1) rfl rfl
  have h_xsa_BadArgument : PySem.W.findIn K (.ref (He.ga K "BadArgument")) "__setattr__" = some (some (.builtin "object.__setattr__")) := of_decide_eq_true (c.at_ 1 13 (l := cs1) rfl rfl)
  have h_xga_BadArgument : PySem.W.findIn K (.ref (He.ga K "BadArgument")) "__getattribute__" = some (some (.builtin "BaseException.__getattribute__")) := of_decide_eq_true (c.at_ 1 14 (l := cs1) rfl rfl)
  have h_xgg_BadArgument : PySem.W.findIn K (.ref (He.ga K "BadArgument")) "__getattr__" = some none := of_decide_eq_true (c.at_ 1 15 (l := cs1) rfl rfl)
  have h_xnb_BadArgument : PySem.W.findIn K (.ref (He.ga K "BadArgument")) "value" = some none := of_decide_eq_true (c.at_ 1 16 (l := cs1) rfl rfl)
  have h_xin_BadArgument : PySem.W.findIn K (.ref (He.ga K "BadArgument")) "__init__" = some (some (.ref (He.ma K (He.ga K "BadArgument") "__init__"))) := of_decide_eq_true (c.at_ 1 17 (l := cs1) rfl rfl)
  have h_xti_BadArgument : PySem.W.typeIn K (.ref (He.ma K (He.ga K "BadArgument") "__init__")) = some (.type "function") := of_decide_eq_true (c.at_ 1 18 (l := cs1) rfl rfl)
  have h_xk_BadArgument : PySem.W.keepIn K (.ref (He.ga K "BadArgument")) = true := of_decide_eq_true (c.at_ 1 19 (l := cs1) rfl rfl)
  have h_xe_BadArgument : PySem.W.subIn K (.ref (He.ga K "BadArgument")) (.type "BaseException") = some true := of_decide_eq_true (c.at_ 1 20 (l := cs1) rfl rfl)
  have h_xty_BadArgument : PySem.W.typeIn K (.ref (He.ga K "BadArgument")) = some (.type "type") := of_decide_eq_true (c.at_ 1 21 (l := cs1) rfl rfl)
  have h_xh_BadArgument : PySem.W.hasDictIn K (He.ga K "BadArgument") = true := of_decide_eq_true (c.at_ 1 22 (l := cs1) rfl rfl)
  have h_xL_BadProgram : excB K (He.ga K "BadProgram") = true := c.at_ 1 23 (l := cs1) rfl rfl
  have h_xsa_BadProgram : PySem.W.findIn K (.ref (He.ga K "BadProgram")) "__setattr__" = some (some (.builtin "object.__setattr__")) := of_decide_eq_true (c.at_ 1 24 (l := cs1) rfl rfl)
  have h_xga_BadProgram : PySem.W.findIn K (.ref (He.ga K "BadProgram")) "__getattribute__" = some (some (.builtin "BaseException.__getattribute__")) := of_decide_eq_true (c.at_ 2 0 (l := cs2) rfl rfl)
  have h_xgg_BadProgram : PySem.W.findIn K (.ref (He.ga K "BadProgram")) "__getattr__" = some none := of_decide_eq_true (c.at_ 2 1 (l := cs2) rfl rfl)
  have h_xnb_BadProgram : PySem.W.findIn K (.ref (He.ga K "BadProgram")) "part" = some none := of_decide_eq_true (c.at_ 2 2 (l := cs2) rfl rfl)
  have h_xin_BadProgram : PySem.W.findIn K (.ref (He.ga K "BadProgram")) "__init__" = some (some (.ref (He.ma K (He.ga K "BadProgram") "__init__"))) := of_decide_eq_true (c.at_ 2 3 (l := cs2) rfl rfl)
  have h_xti_BadProgram : PySem.W.typeIn K (.ref (He.ma K (He.ga K "BadProgram") "__init__")) = some (.type "function") := of_decide_eq_true (c.at_ 2 4 (l := cs2) rfl rfl)
  have h_xk_BadProgram : PySem.W.keepIn K (.ref (He.ga K "BadProgram")) = true := of_decide_eq_true (c.at_ 2 5 (l := cs2) rfl rfl)
  have h_xe_BadProgram : PySem.W.subIn K (.ref (He.ga K "BadProgram")) (.type "BaseException") = some true := of_decide_eq_true (c.at_ 2 6 (l := cs2) rfl rfl)
  have h_xty_BadProgram : PySem.W.typeIn K (.ref (He.ga K "BadProgram")) = some (.type "type") := of_decide_eq_true (c.at_ 2 7 (l := cs2) rfl rfl)
  have h_xh_BadProgram : PySem.W.hasDictIn K (He.ga K "BadProgram") = true := of_decide_eq_true (c.at_ 2 8 (l := cs2) rfl rfl)
  have h_xL_BadPlace : excB K (He.ga K "BadPlace") = true := c.at_ 2 9 (l := cs2) rfl rfl
  have h_xsa_BadPlace : PySem.W.findIn K (.ref (He.ga K "BadPlace")) "__setattr__" = some (some (.builtin "object.__setattr__")) := of_decide_eq_true (c.at_ 2 10 (l := cs2) rfl rfl)
  have h_xga_BadPlace : PySem.W.findIn K (.ref (He.ga K "BadPlace")) "__getattribute__" = some (some (.builtin "BaseException.__getattribute__")) := of_decide_eq_true (c.at_ 2 11 (l := cs2) rfl rfl)
  have h_xgg_BadPlace : PySem.W.findIn K (.ref (He.ga K "BadPlace")) "__getattr__" = some none := of_decide_eq_true (c.at_ 2 12 (l := cs2) rfl rfl)
  have h_xnb_BadPlace : PySem.W.findIn K (.ref (He.ga K "BadPlace")) "value" = some none := of_decide_eq_true (c.at_ 2 13 (l := cs2) rfl rfl)
  have h_xin_BadPlace : PySem.W.findIn K (.ref (He.ga K "BadPlace")) "__init__" = some (some (.ref (He.ma K (He.ga K "BadPlace") "__init__"))) := of_decide_eq_true (c.at_ 2 14 (l := cs2) rfl rfl)
  have h_xti_BadPlace : PySem.W.typeIn K (.ref (He.ma K (He.ga K "BadPlace") "__init__")) = some (.type "function") := of_decide_eq_true (c.at_ 2 15 (l := cs2) rfl rfl)
  have h_xk_BadPlace : PySem.W.keepIn K (.ref (He.ga K "BadPlace")) = true := of_decide_eq_true (c.at_ 2 16 (l := cs2) rfl rfl)
  have h_xe_BadPlace : PySem.W.subIn K (.ref (He.ga K "BadPlace")) (.type "BaseException") = some true := of_decide_eq_true (c.at_ 2 17 (l := cs2) rfl rfl)
  have h_xty_BadPlace : PySem.W.typeIn K (.ref (He.ga K "BadPlace")) = some (.type "type") := of_decide_eq_true (c.at_ 2 18 (l := cs2) rfl rfl)
  have h_xh_BadPlace : PySem.W.hasDictIn K (He.ga K "BadPlace") = true := of_decide_eq_true (c.at_ 2 19 (l := cs2) rfl rfl)
  have h_xL_BadWay : excB K (He.ga K "BadWay") = true := c.at_ 2 20 (l := cs2) rfl rfl
  have h_xsa_BadWay : PySem.W.findIn K (.ref (He.ga K "BadWay")) "__setattr__" = some (some (.builtin "object.__setattr__")) := of_decide_eq_true (c.at_ 2 21 (l := cs2) rfl rfl)
  have h_xga_BadWay : PySem.W.findIn K (.ref (He.ga K "BadWay")) "__getattribute__" = some (some (.builtin "BaseException.__getattribute__")) := of_decide_eq_true (c.at_ 2 22 (l := cs2) rfl rfl)
  have h_xgg_BadWay : PySem.W.findIn K (.ref (He.ga K "BadWay")) "__getattr__" = some none := of_decide_eq_true (c.at_ 2 23 (l := cs2) rfl rfl)
  have h_xnb_BadWay : PySem.W.findIn K (.ref (He.ga K "BadWay")) "value" = some none := of_decide_eq_true (c.at_ 2 24 (l := cs2) rfl rfl)
  have h_xin_BadWay : PySem.W.findIn K (.ref (He.ga K "BadWay")) "__init__" = some (some (.ref (He.ma K (He.ga K "BadWay") "__init__"))) := of_decide_eq_true (c.at_ 3 0 (l := cs3) rfl rfl)
  have h_xti_BadWay : PySem.W.typeIn K (.ref (He.ma K (He.ga K "BadWay") "__init__")) = some (.type "function") := of_decide_eq_true (c.at_ 3 1 (l := cs3) rfl rfl)
  have h_xk_BadWay : PySem.W.keepIn K (.ref (He.ga K "BadWay")) = true := of_decide_eq_true (c.at_ 3 2 (l := cs3) rfl rfl)
  have h_xe_BadWay : PySem.W.subIn K (.ref (He.ga K "BadWay")) (.type "BaseException") = some true := of_decide_eq_true (c.at_ 3 3 (l := cs3) rfl rfl)
  have h_xty_BadWay : PySem.W.typeIn K (.ref (He.ga K "BadWay")) = some (.type "type") := of_decide_eq_true (c.at_ 3 4 (l := cs3) rfl rfl)
  have h_xh_BadWay : PySem.W.hasDictIn K (He.ga K "BadWay") = true := of_decide_eq_true (c.at_ 3 5 (l := cs3) rfl rfl)
  have h_xL_BadRun : excB K (He.ga K "BadRun") = true := c.at_ 3 6 (l := cs3) rfl rfl
  have h_xsa_BadRun : PySem.W.findIn K (.ref (He.ga K "BadRun")) "__setattr__" = some (some (.builtin "object.__setattr__")) := of_decide_eq_true (c.at_ 3 7 (l := cs3) rfl rfl)
  have h_xga_BadRun : PySem.W.findIn K (.ref (He.ga K "BadRun")) "__getattribute__" = some (some (.builtin "BaseException.__getattribute__")) := of_decide_eq_true (c.at_ 3 8 (l := cs3) rfl rfl)
  have h_xgg_BadRun : PySem.W.findIn K (.ref (He.ga K "BadRun")) "__getattr__" = some none := of_decide_eq_true (c.at_ 3 9 (l := cs3) rfl rfl)
  have h_xnb_BadRun : PySem.W.findIn K (.ref (He.ga K "BadRun")) "value" = some none := of_decide_eq_true (c.at_ 3 10 (l := cs3) rfl rfl)
  have h_xin_BadRun : PySem.W.findIn K (.ref (He.ga K "BadRun")) "__init__" = some (some (.ref (He.ma K (He.ga K "BadRun") "__init__"))) := of_decide_eq_true (c.at_ 3 11 (l := cs3) rfl rfl)
  have h_xti_BadRun : PySem.W.typeIn K (.ref (He.ma K (He.ga K "BadRun") "__init__")) = some (.type "function") := of_decide_eq_true (c.at_ 3 12 (l := cs3) rfl rfl)
  have h_xk_BadRun : PySem.W.keepIn K (.ref (He.ga K "BadRun")) = true := of_decide_eq_true (c.at_ 3 13 (l := cs3) rfl rfl)
  have h_xe_BadRun : PySem.W.subIn K (.ref (He.ga K "BadRun")) (.type "BaseException") = some true := of_decide_eq_true (c.at_ 3 14 (l := cs3) rfl rfl)
  have h_xty_BadRun : PySem.W.typeIn K (.ref (He.ga K "BadRun")) = some (.type "type") := of_decide_eq_true (c.at_ 3 15 (l := cs3) rfl rfl)
  have h_xh_BadRun : PySem.W.hasDictIn K (He.ga K "BadRun") = true := of_decide_eq_true (c.at_ 3 16 (l := cs3) rfl rfl)
  have h_xL_BadCounter : excB K (He.ga K "BadCounter") = true := c.at_ 3 17 (l := cs3) rfl rfl
  have h_xsa_BadCounter : PySem.W.findIn K (.ref (He.ga K "BadCounter")) "__setattr__" = some (some (.builtin "object.__setattr__")) := of_decide_eq_true (c.at_ 3 18 (l := cs3) rfl rfl)
  have h_xga_BadCounter : PySem.W.findIn K (.ref (He.ga K "BadCounter")) "__getattribute__" = some (some (.builtin "BaseException.__getattribute__")) := of_decide_eq_true (c.at_ 3 19 (l := cs3) rfl rfl)
  have h_xgg_BadCounter : PySem.W.findIn K (.ref (He.ga K "BadCounter")) "__getattr__" = some none := of_decide_eq_true (c.at_ 3 20 (l := cs3) rfl rfl)
  have h_xnb_BadCounter : PySem.W.findIn K (.ref (He.ga K "BadCounter")) "value" = some none := of_decide_eq_true (c.at_ 3 21 (l := cs3) rfl rfl)
  have h_xin_BadCounter : PySem.W.findIn K (.ref (He.ga K "BadCounter")) "__init__" = some (some (.ref (He.ma K (He.ga K "BadCounter") "__init__"))) := of_decide_eq_true (c.at_ 3 22 (l := cs3) rfl rfl)
  have h_xti_BadCounter : PySem.W.typeIn K (.ref (He.ma K (He.ga K "BadCounter") "__init__")) = some (.type "function") := of_decide_eq_true (c.at_ 3 23 (l := cs3) rfl rfl)
  have h_xk_BadCounter : PySem.W.keepIn K (.ref (He.ga K "BadCounter")) = true := of_decide_eq_true (c.at_ 3 24 (l := cs3) rfl rfl)
  have h_xe_BadCounter : PySem.W.subIn K (.ref (He.ga K "BadCounter")) (.type "BaseException") = some true := of_decide_eq_true (c.at_ 4 0 (l := cs4) rfl rfl)
  have h_xty_BadCounter : PySem.W.typeIn K (.ref (He.ga K "BadCounter")) = some (.type "type") := of_decide_eq_true (c.at_ 4 1 (l := cs4) rfl rfl)
  have h_xh_BadCounter : PySem.W.hasDictIn K (He.ga K "BadCounter") = true := of_decide_eq_true (c.at_ 4 2 (l := cs4) rfl rfl)
  have h_xL_BadLot : excB K (He.ga K "BadLot") = true := c.at_ 4 3 (l := cs4) rfl rfl
  have h_xsa_BadLot : PySem.W.findIn K (.ref (He.ga K "BadLot")) "__setattr__" = some (some (.builtin "object.__setattr__")) := of_decide_eq_true (c.at_ 4 4 (l := cs4) rfl rfl)
  have h_xga_BadLot : PySem.W.findIn K (.ref (He.ga K "BadLot")) "__getattribute__" = some (some (.builtin "BaseException.__getattribute__")) := of_decide_eq_true (c.at_ 4 5 (l := cs4) rfl rfl)
  have h_xgg_BadLot : PySem.W.findIn K (.ref (He.ga K "BadLot")) "__getattr__" = some none := of_decide_eq_true (c.at_ 4 6 (l := cs4) rfl rfl)
  have h_xnb_BadLot : PySem.W.findIn K (.ref (He.ga K "BadLot")) "value" = some none := of_decide_eq_true (c.at_ 4 7 (l := cs4) rfl rfl)
  have h_xin_BadLot : PySem.W.findIn K (.ref (He.ga K "BadLot")) "__init__" = some (some (.ref (He.ma K (He.ga K "BadLot") "__init__"))) := of_decide_eq_true (c.at_ 4 8 (l := cs4) rfl rfl)
  have h_xti_BadLot : PySem.W.typeIn K (.ref (He.ma K (He.ga K "BadLot") "__init__")) = some (.type "function") := of_decide_eq_true (c.at_ 4 9 (l := cs4) rfl rfl)
  have h_xk_BadLot : PySem.W.keepIn K (.ref (He.ga K "BadLot")) = true := of_decide_eq_true (c.at_ 4 10 (l := cs4) rfl rfl)
  have h_xe_BadLot : PySem.W.subIn K (.ref (He.ga K "BadLot")) (.type "BaseException") = some true := of_decide_eq_true (c.at_ 4 11 (l := cs4) rfl rfl)
  have h_xty_BadLot : PySem.W.typeIn K (.ref (He.ga K "BadLot")) = some (.type "type") := of_decide_eq_true (c.at_ 4 12 (l := cs4) rfl rfl)
  have h_xh_BadLot : PySem.W.hasDictIn K (He.ga K "BadLot") = true := of_decide_eq_true (c.at_ 4 13 (l := cs4) rfl rfl)
  have h_xL_NoLot : excB K (He.ga K "NoLot") = true := c.at_ 4 14 (l := cs4) rfl rfl
  have h_xsa_NoLot : PySem.W.findIn K (.ref (He.ga K "NoLot")) "__setattr__" = some (some (.builtin "object.__setattr__")) := of_decide_eq_true (c.at_ 4 15 (l := cs4) rfl rfl)
  have h_xga_NoLot : PySem.W.findIn K (.ref (He.ga K "NoLot")) "__getattribute__" = some (some (.builtin "BaseException.__getattribute__")) := of_decide_eq_true (c.at_ 4 16 (l := cs4) rfl rfl)
  have h_xgg_NoLot : PySem.W.findIn K (.ref (He.ga K "NoLot")) "__getattr__" = some none := of_decide_eq_true (c.at_ 4 17 (l := cs4) rfl rfl)
  have h_xnb_NoLot : PySem.W.findIn K (.ref (He.ga K "NoLot")) "reason" = some none := of_decide_eq_true (c.at_ 4 18 (l := cs4) rfl rfl)
  have h_xin_NoLot : PySem.W.findIn K (.ref (He.ga K "NoLot")) "__init__" = some (some (.ref (He.ma K (He.ga K "NoLot") "__init__"))) := of_decide_eq_true (c.at_ 4 19 (l := cs4) rfl rfl)
  have h_xti_NoLot : PySem.W.typeIn K (.ref (He.ma K (He.ga K "NoLot") "__init__")) = some (.type "function") := of_decide_eq_true (c.at_ 4 20 (l := cs4) rfl rfl)
  have h_xk_NoLot : PySem.W.keepIn K (.ref (He.ga K "NoLot")) = true := of_decide_eq_true (c.at_ 4 21 (l := cs4) rfl rfl)
  have h_xe_NoLot : PySem.W.subIn K (.ref (He.ga K "NoLot")) (.type "BaseException") = some true := of_decide_eq_true (c.at_ 4 22 (l := cs4) rfl rfl)
  have h_xty_NoLot : PySem.W.typeIn K (.ref (He.ga K "NoLot")) = some (.type "type") := of_decide_eq_true (c.at_ 4 23 (l := cs4) rfl rfl)
  have h_xh_NoLot : PySem.W.hasDictIn K (He.ga K "NoLot") = true := of_decide_eq_true (c.at_ 4 24 (l := cs4) rfl rfl)
  have h_xL_BadNumber : excB K (He.ga K "BadNumber") = true := c.at_ 5 0 (l := cs5) rfl rfl
  have h_xsa_BadNumber : PySem.W.findIn K (.ref (He.ga K "BadNumber")) "__setattr__" = some (some (.builtin "object.__setattr__")) := of_decide_eq_true (c.at_ 5 1 (l := cs5) rfl rfl)
  have h_xga_BadNumber : PySem.W.findIn K (.ref (He.ga K "BadNumber")) "__getattribute__" = some (some (.builtin "BaseException.__getattribute__")) := of_decide_eq_true (c.at_ 5 2 (l := cs5) rfl rfl)
  have h_xgg_BadNumber : PySem.W.findIn K (.ref (He.ga K "BadNumber")) "__getattr__" = some none := of_decide_eq_true (c.at_ 5 3 (l := cs5) rfl rfl)
  have h_xnb_BadNumber : PySem.W.findIn K (.ref (He.ga K "BadNumber")) "value" = some none := of_decide_eq_true (c.at_ 5 4 (l := cs5) rfl rfl)
  have h_xin_BadNumber : PySem.W.findIn K (.ref (He.ga K "BadNumber")) "__init__" = some (some (.ref (He.ma K (He.ga K "BadNumber") "__init__"))) := of_decide_eq_true (c.at_ 5 5 (l := cs5) rfl rfl)
  have h_xti_BadNumber : PySem.W.typeIn K (.ref (He.ma K (He.ga K "BadNumber") "__init__")) = some (.type "function") := of_decide_eq_true (c.at_ 5 6 (l := cs5) rfl rfl)
  have h_xk_BadNumber : PySem.W.keepIn K (.ref (He.ga K "BadNumber")) = true := of_decide_eq_true (c.at_ 5 7 (l := cs5) rfl rfl)
  have h_xe_BadNumber : PySem.W.subIn K (.ref (He.ga K "BadNumber")) (.type "BaseException") = some true := of_decide_eq_true (c.at_ 5 8 (l := cs5) rfl rfl)
  have h_xty_BadNumber : PySem.W.typeIn K (.ref (He.ga K "BadNumber")) = some (.type "type") := of_decide_eq_true (c.at_ 5 9 (l := cs5) rfl rfl)
  have h_xh_BadNumber : PySem.W.hasDictIn K (He.ga K "BadNumber") = true := of_decide_eq_true (c.at_ 5 10 (l := cs5) rfl rfl)
  have h_xL_BadValues : excB K (He.ga K "BadValues") = true := c.at_ 5 11 (l := cs5) rfl rfl
  have h_xsa_BadValues : PySem.W.findIn K (.ref (He.ga K "BadValues")) "__setattr__" = some (some (.builtin "object.__setattr__")) := of_decide_eq_true (c.at_ 5 12 (l := cs5) rfl rfl)
  have h_xga_BadValues : PySem.W.findIn K (.ref (He.ga K "BadValues")) "__getattribute__" = some (some (.builtin "BaseException.__getattribute__")) := of_decide_eq_true (c.at_ 5 13 (l := cs5) rfl rfl)
  have h_xgg_BadValues : PySem.W.findIn K (.ref (He.ga K "BadValues")) "__getattr__" = some none := of_decide_eq_true (c.at_ 5 14 (l := cs5) rfl rfl)
  have h_xnb_BadValues : PySem.W.findIn K (.ref (He.ga K "BadValues")) "value" = some none := of_decide_eq_true (c.at_ 5 15 (l := cs5) rfl rfl)
  have h_xin_BadValues : PySem.W.findIn K (.ref (He.ga K "BadValues")) "__init__" = some (some (.ref (He.ma K (He.ga K "BadValues") "__init__"))) := of_decide_eq_true (c.at_ 5 16 (l := cs5) rfl rfl)
  have h_xti_BadValues : PySem.W.typeIn K (.ref (He.ma K (He.ga K "BadValues") "__init__")) = some (.type "function") := of_decide_eq_true (c.at_ 5 17 (l := cs5) rfl rfl)
  have h_xk_BadValues : PySem.W.keepIn K (.ref (He.ga K "BadValues")) = true := of_decide_eq_true (c.at_ 5 18 (l := cs5) rfl rfl)
  have h_xe_BadValues : PySem.W.subIn K (.ref (He.ga K "BadValues")) (.type "BaseException") = some true := of_decide_eq_true (c.at_ 5 19 (l := cs5) rfl rfl)
  have h_xty_BadValues : PySem.W.typeIn K (.ref (He.ga K "BadValues")) = some (.type "type") := of_decide_eq_true (c.at_ 5 20 (l := cs5) rfl rfl)
  have h_xh_BadValues : PySem.W.hasDictIn K (He.ga K "BadValues") = true := of_decide_eq_true (c.at_ 5 21 (l := cs5) rfl rfl)
  have h_xL_NotTold : excB K (He.ga K "NotTold") = true := c.at_ 5 22 (l := cs5) rfl rfl
  have h_xsa_NotTold : PySem.W.findIn K (.ref (He.ga K "NotTold")) "__setattr__" = some (some (.builtin "object.__setattr__")) := of_decide_eq_true (c.at_ 5 23 (l := cs5) rfl rfl)
  have h_xga_NotTold : PySem.W.findIn K (.ref (He.ga K "NotTold")) "__getattribute__" = some (some (.builtin "BaseException.__getattribute__")) := of_decide_eq_true (c.at_ 5 24 (l := cs5) rfl rfl)
  have h_xgg_NotTold : PySem.W.findIn K (.ref (He.ga K "NotTold")) "__getattr__" = some none := of_decide_eq_true (c.at_ 6 0 (l := cs6) rfl rfl)
  have h_xnb_NotTold : PySem.W.findIn K (.ref (He.ga K "NotTold")) "counter" = some none := of_decide_eq_true (c.at_ 6 1 (l := cs6) rfl rfl)
  have h_xin_NotTold : PySem.W.findIn K (.ref (He.ga K "NotTold")) "__init__" = some (some (.ref (He.ma K (He.ga K "NotTold") "__init__"))) := of_decide_eq_true (c.at_ 6 2 (l := cs6) rfl rfl)
  have h_xti_NotTold : PySem.W.typeIn K (.ref (He.ma K (He.ga K "NotTold") "__init__")) = some (.type "function") := of_decide_eq_true (c.at_ 6 3 (l := cs6) rfl rfl)
  have h_xk_NotTold : PySem.W.keepIn K (.ref (He.ga K "NotTold")) = true := of_decide_eq_true (c.at_ 6 4 (l := cs6) rfl rfl)
  have h_xe_NotTold : PySem.W.subIn K (.ref (He.ga K "NotTold")) (.type "BaseException") = some true := of_decide_eq_true (c.at_ 6 5 (l := cs6) rfl rfl)
  have h_xty_NotTold : PySem.W.typeIn K (.ref (He.ga K "NotTold")) = some (.type "type") := of_decide_eq_true (c.at_ 6 6 (l := cs6) rfl rfl)
  have h_xh_NotTold : PySem.W.hasDictIn K (He.ga K "NotTold") = true := of_decide_eq_true (c.at_ 6 7 (l := cs6) rfl rfl)
  have h_xL_Rings : excB K (He.ga K "Rings") = true := c.at_ 6 8 (l := cs6) rfl rfl
  have h_xsa_Rings : PySem.W.findIn K (.ref (He.ga K "Rings")) "__setattr__" = some (some (.builtin "object.__setattr__")) := of_decide_eq_true (c.at_ 6 9 (l := cs6) rfl rfl)
  have h_xga_Rings : PySem.W.findIn K (.ref (He.ga K "Rings")) "__getattribute__" = some (some (.builtin "BaseException.__getattribute__")) := of_decide_eq_true (c.at_ 6 10 (l := cs6) rfl rfl)
  have h_xgg_Rings : PySem.W.findIn K (.ref (He.ga K "Rings")) "__getattr__" = some none := of_decide_eq_true (c.at_ 6 11 (l := cs6) rfl rfl)
  have h_xnb_Rings : PySem.W.findIn K (.ref (He.ga K "Rings")) "ring" = some none := of_decide_eq_true (c.at_ 6 12 (l := cs6) rfl rfl)
  have h_xin_Rings : PySem.W.findIn K (.ref (He.ga K "Rings")) "__init__" = some (some (.ref (He.ma K (He.ga K "Rings") "__init__"))) := of_decide_eq_true (c.at_ 6 13 (l := cs6) rfl rfl)
  have h_xti_Rings : PySem.W.typeIn K (.ref (He.ma K (He.ga K "Rings") "__init__")) = some (.type "function") := of_decide_eq_true (c.at_ 6 14 (l := cs6) rfl rfl)
  have h_xk_Rings : PySem.W.keepIn K (.ref (He.ga K "Rings")) = true := of_decide_eq_true (c.at_ 6 15 (l := cs6) rfl rfl)
  have h_xe_Rings : PySem.W.subIn K (.ref (He.ga K "Rings")) (.type "BaseException") = some true := of_decide_eq_true (c.at_ 6 16 (l := cs6) rfl rfl)
  have h_xty_Rings : PySem.W.typeIn K (.ref (He.ga K "Rings")) = some (.type "type") := of_decide_eq_true (c.at_ 6 17 (l := cs6) rfl rfl)
  have h_xh_Rings : PySem.W.hasDictIn K (He.ga K "Rings") = true := of_decide_eq_true (c.at_ 6 18 (l := cs6) rfl rfl)
  have h_xL_BadCosts : excB K (He.ga K "BadCosts") = true := c.at_ 6 19 (l := cs6) rfl rfl
  have h_xsa_BadCosts : PySem.W.findIn K (.ref (He.ga K "BadCosts")) "__setattr__" = some (some (.builtin "object.__setattr__")) := of_decide_eq_true (c.at_ 6 20 (l := cs6) rfl rfl)
  have h_xga_BadCosts : PySem.W.findIn K (.ref (He.ga K "BadCosts")) "__getattribute__" = some (some (.builtin "BaseException.__getattribute__")) := of_decide_eq_true (c.at_ 6 21 (l := cs6) rfl rfl)
  have h_xgg_BadCosts : PySem.W.findIn K (.ref (He.ga K "BadCosts")) "__getattr__" = some none := of_decide_eq_true (c.at_ 6 22 (l := cs6) rfl rfl)
  have h_xnb_BadCosts : PySem.W.findIn K (.ref (He.ga K "BadCosts")) "value" = some none := of_decide_eq_true (c.at_ 6 23 (l := cs6) rfl rfl)
  have h_xin_BadCosts : PySem.W.findIn K (.ref (He.ga K "BadCosts")) "__init__" = some (some (.ref (He.ma K (He.ga K "BadCosts") "__init__"))) := of_decide_eq_true (c.at_ 6 24 (l := cs6) rfl rfl)
  have h_xti_BadCosts : PySem.W.typeIn K (.ref (He.ma K (He.ga K "BadCosts") "__init__")) = some (.type "function") := of_decide_eq_true (c.at_ 7 0 (l := cs7) rfl rfl)
  have h_xk_BadCosts : PySem.W.keepIn K (.ref (He.ga K "BadCosts")) = true := of_decide_eq_true (c.at_ 7 1 (l := cs7) rfl rfl)
  have h_xe_BadCosts : PySem.W.subIn K (.ref (He.ga K "BadCosts")) (.type "BaseException") = some true := of_decide_eq_true (c.at_ 7 2 (l := cs7) rfl rfl)
  have h_xty_BadCosts : PySem.W.typeIn K (.ref (He.ga K "BadCosts")) = some (.type "type") := of_decide_eq_true (c.at_ 7 3 (l := cs7) rfl rfl)
  have h_xh_BadCosts : PySem.W.hasDictIn K (He.ga K "BadCosts") = true := of_decide_eq_true (c.at_ 7 4 (l := cs7) rfl rfl)
  have h_xL_BadLevels : excB K (He.ga K "BadLevels") = true := c.at_ 7 5 (l := cs7) rfl rfl
  have h_xsa_BadLevels : PySem.W.findIn K (.ref (He.ga K "BadLevels")) "__setattr__" = some (some (.builtin "object.__setattr__")) := of_decide_eq_true (c.at_ 7 6 (l := cs7) rfl rfl)
  have h_xga_BadLevels : PySem.W.findIn K (.ref (He.ga K "BadLevels")) "__getattribute__" = some (some (.builtin "BaseException.__getattribute__")) := of_decide_eq_true (c.at_ 7 7 (l := cs7) rfl rfl)
  have h_xgg_BadLevels : PySem.W.findIn K (.ref (He.ga K "BadLevels")) "__getattr__" = some none := of_decide_eq_true (c.at_ 7 8 (l := cs7) rfl rfl)
  have h_xnb_BadLevels : PySem.W.findIn K (.ref (He.ga K "BadLevels")) "value" = some none := of_decide_eq_true (c.at_ 7 9 (l := cs7) rfl rfl)
  have h_xin_BadLevels : PySem.W.findIn K (.ref (He.ga K "BadLevels")) "__init__" = some (some (.ref (He.ma K (He.ga K "BadLevels") "__init__"))) := of_decide_eq_true (c.at_ 7 10 (l := cs7) rfl rfl)
  have h_xti_BadLevels : PySem.W.typeIn K (.ref (He.ma K (He.ga K "BadLevels") "__init__")) = some (.type "function") := of_decide_eq_true (c.at_ 7 11 (l := cs7) rfl rfl)
  have h_xk_BadLevels : PySem.W.keepIn K (.ref (He.ga K "BadLevels")) = true := of_decide_eq_true (c.at_ 7 12 (l := cs7) rfl rfl)
  have h_xe_BadLevels : PySem.W.subIn K (.ref (He.ga K "BadLevels")) (.type "BaseException") = some true := of_decide_eq_true (c.at_ 7 13 (l := cs7) rfl rfl)
  have h_xty_BadLevels : PySem.W.typeIn K (.ref (He.ga K "BadLevels")) = some (.type "type") := of_decide_eq_true (c.at_ 7 14 (l := cs7) rfl rfl)
  have h_xh_BadLevels : PySem.W.hasDictIn K (He.ga K "BadLevels") = true := of_decide_eq_true (c.at_ 7 15 (l := cs7) rfl rfl)
  have h_xL_TooMany : excB K (He.ga K "TooMany") = true := c.at_ 7 16 (l := cs7) rfl rfl
  have h_xsa_TooMany : PySem.W.findIn K (.ref (He.ga K "TooMany")) "__setattr__" = some (some (.builtin "object.__setattr__")) := of_decide_eq_true (c.at_ 7 17 (l := cs7) rfl rfl)
  have h_xga_TooMany : PySem.W.findIn K (.ref (He.ga K "TooMany")) "__getattribute__" = some (some (.builtin "BaseException.__getattribute__")) := of_decide_eq_true (c.at_ 7 18 (l := cs7) rfl rfl)
  have h_xgg_TooMany : PySem.W.findIn K (.ref (He.ga K "TooMany")) "__getattr__" = some none := of_decide_eq_true (c.at_ 7 19 (l := cs7) rfl rfl)
  have h_xnb_TooMany : PySem.W.findIn K (.ref (He.ga K "TooMany")) "number" = some none := of_decide_eq_true (c.at_ 7 20 (l := cs7) rfl rfl)
  have h_xin_TooMany : PySem.W.findIn K (.ref (He.ga K "TooMany")) "__init__" = some (some (.ref (He.ma K (He.ga K "TooMany") "__init__"))) := of_decide_eq_true (c.at_ 7 21 (l := cs7) rfl rfl)
  have h_xti_TooMany : PySem.W.typeIn K (.ref (He.ma K (He.ga K "TooMany") "__init__")) = some (.type "function") := of_decide_eq_true (c.at_ 7 22 (l := cs7) rfl rfl)
  have h_xk_TooMany : PySem.W.keepIn K (.ref (He.ga K "TooMany")) = true := of_decide_eq_true (c.at_ 7 23 (l := cs7) rfl rfl)
  have h_xe_TooMany : PySem.W.subIn K (.ref (He.ga K "TooMany")) (.type "BaseException") = some true := of_decide_eq_true (c.at_ 7 24 (l := cs7) rfl rfl)
  have h_xty_TooMany : PySem.W.typeIn K (.ref (He.ga K "TooMany")) = some (.type "type") := of_decide_eq_true (c.at_ 8 0 (l := cs8) rfl rfl)
  have h_xh_TooMany : PySem.W.hasDictIn K (He.ga K "TooMany") = true := of_decide_eq_true (c.at_ 8 1 (l := cs8) rfl rfl)
  have h_xL_BadChange : excB K (He.ga K "BadChange") = true := c.at_ 8 2 (l := cs8) rfl rfl
  have h_xsa_BadChange : PySem.W.findIn K (.ref (He.ga K "BadChange")) "__setattr__" = some (some (.builtin "object.__setattr__")) := of_decide_eq_true (c.at_ 8 3 (l := cs8) rfl rfl)
  have h_xga_BadChange : PySem.W.findIn K (.ref (He.ga K "BadChange")) "__getattribute__" = some (some (.builtin "BaseException.__getattribute__")) := of_decide_eq_true (c.at_ 8 4 (l := cs8) rfl rfl)
  have h_xgg_BadChange : PySem.W.findIn K (.ref (He.ga K "BadChange")) "__getattr__" = some none := of_decide_eq_true (c.at_ 8 5 (l := cs8) rfl rfl)
  have h_xnb_BadChange : PySem.W.findIn K (.ref (He.ga K "BadChange")) "value" = some none := of_decide_eq_true (c.at_ 8 6 (l := cs8) rfl rfl)
  have h_xin_BadChange : PySem.W.findIn K (.ref (He.ga K "BadChange")) "__init__" = some (some (.ref (He.ma K (He.ga K "BadChange") "__init__"))) := of_decide_eq_true (c.at_ 8 7 (l := cs8) rfl rfl)
  have h_xti_BadChange : PySem.W.typeIn K (.ref (He.ma K (He.ga K "BadChange") "__init__")) = some (.type "function") := of_decide_eq_true (c.at_ 8 8 (l := cs8) rfl rfl)
  have h_xk_BadChange : PySem.W.keepIn K (.ref (He.ga K "BadChange")) = true := of_decide_eq_true (c.at_ 8 9 (l := cs8) rfl rfl)
  have h_xe_BadChange : PySem.W.subIn K (.ref (He.ga K "BadChange")) (.type "BaseException") = some true := of_decide_eq_true (c.at_ 8 10 (l := cs8) rfl rfl)
  have h_xty_BadChange : PySem.W.typeIn K (.ref (He.ga K "BadChange")) = some (.type "type") := of_decide_eq_true (c.at_ 8 11 (l := cs8) rfl rfl)
  have h_xh_BadChange : PySem.W.hasDictIn K (He.ga K "BadChange") = true := of_decide_eq_true (c.at_ 8 12 (l := cs8) rfl rfl)
  have h_xL_BadText : excB K (He.ga K "BadText") = true := c.at_ 8 13 (l := cs8) rfl rfl
  have h_xsa_BadText : PySem.W.findIn K (.ref (He.ga K "BadText")) "__setattr__" = some (some (.builtin "object.__setattr__")) := of_decide_eq_true (c.at_ 8 14 (l := cs8) rfl rfl)
  have h_xga_BadText : PySem.W.findIn K (.ref (He.ga K "BadText")) "__getattribute__" = some (some (.builtin "BaseException.__getattribute__")) := of_decide_eq_true (c.at_ 8 15 (l := cs8) rfl rfl)
  have h_xgg_BadText : PySem.W.findIn K (.ref (He.ga K "BadText")) "__getattr__" = some none := of_decide_eq_true (c.at_ 8 16 (l := cs8) rfl rfl)
  have h_xnb_BadText : PySem.W.findIn K (.ref (He.ga K "BadText")) "at" = some none := of_decide_eq_true (c.at_ 8 17 (l := cs8) rfl rfl)
  have h_xin_BadText : PySem.W.findIn K (.ref (He.ga K "BadText")) "__init__" = some (some (.ref (He.ma K (He.ga K "BadText") "__init__"))) := of_decide_eq_true (c.at_ 8 18 (l := cs8) rfl rfl)
  have h_xti_BadText : PySem.W.typeIn K (.ref (He.ma K (He.ga K "BadText") "__init__")) = some (.type "function") := of_decide_eq_true (c.at_ 8 19 (l := cs8) rfl rfl)
  have h_xk_BadText : PySem.W.keepIn K (.ref (He.ga K "BadText")) = true := of_decide_eq_true (c.at_ 8 20 (l := cs8) rfl rfl)
  have h_xe_BadText : PySem.W.subIn K (.ref (He.ga K "BadText")) (.type "BaseException") = some true := of_decide_eq_true (c.at_ 8 21 (l := cs8) rfl rfl)
  have h_xty_BadText : PySem.W.typeIn K (.ref (He.ga K "BadText")) = some (.type "type") := of_decide_eq_true (c.at_ 8 22 (l := cs8) rfl rfl)
  have h_xh_BadText : PySem.W.hasDictIn K (He.ga K "BadText") = true := of_decide_eq_true (c.at_ 8 23 (l := cs8) rfl rfl)
  have h_xL_BadName : excB K (He.ga K "BadName") = true := c.at_ 8 24 (l := cs8) rfl rfl
  have h_xsa_BadName : PySem.W.findIn K (.ref (He.ga K "BadName")) "__setattr__" = some (some (.builtin "object.__setattr__")) := of_decide_eq_true (c.at_ 9 0 (l := cs9) rfl rfl)
  have h_xga_BadName : PySem.W.findIn K (.ref (He.ga K "BadName")) "__getattribute__" = some (some (.builtin "BaseException.__getattribute__")) := of_decide_eq_true (c.at_ 9 1 (l := cs9) rfl rfl)
  have h_xgg_BadName : PySem.W.findIn K (.ref (He.ga K "BadName")) "__getattr__" = some none := of_decide_eq_true (c.at_ 9 2 (l := cs9) rfl rfl)
  have h_xnb_BadName : PySem.W.findIn K (.ref (He.ga K "BadName")) "value" = some none := of_decide_eq_true (c.at_ 9 3 (l := cs9) rfl rfl)
  have h_xin_BadName : PySem.W.findIn K (.ref (He.ga K "BadName")) "__init__" = some (some (.ref (He.ma K (He.ga K "BadName") "__init__"))) := of_decide_eq_true (c.at_ 9 4 (l := cs9) rfl rfl)
  have h_xti_BadName : PySem.W.typeIn K (.ref (He.ma K (He.ga K "BadName") "__init__")) = some (.type "function") := of_decide_eq_true (c.at_ 9 5 (l := cs9) rfl rfl)
  have h_xk_BadName : PySem.W.keepIn K (.ref (He.ga K "BadName")) = true := of_decide_eq_true (c.at_ 9 6 (l := cs9) rfl rfl)
  have h_xe_BadName : PySem.W.subIn K (.ref (He.ga K "BadName")) (.type "BaseException") = some true := of_decide_eq_true (c.at_ 9 7 (l := cs9) rfl rfl)
  have h_xty_BadName : PySem.W.typeIn K (.ref (He.ga K "BadName")) = some (.type "type") := of_decide_eq_true (c.at_ 9 8 (l := cs9) rfl rfl)
  have h_xh_BadName : PySem.W.hasDictIn K (He.ga K "BadName") = true := of_decide_eq_true (c.at_ 9 9 (l := cs9) rfl rfl)
  have h_xL_NameTaken : excB K (He.ga K "NameTaken") = true := c.at_ 9 10 (l := cs9) rfl rfl
  have h_xsa_NameTaken : PySem.W.findIn K (.ref (He.ga K "NameTaken")) "__setattr__" = some (some (.builtin "object.__setattr__")) := of_decide_eq_true (c.at_ 9 11 (l := cs9) rfl rfl)
  have h_xga_NameTaken : PySem.W.findIn K (.ref (He.ga K "NameTaken")) "__getattribute__" = some (some (.builtin "BaseException.__getattribute__")) := of_decide_eq_true (c.at_ 9 12 (l := cs9) rfl rfl)
  have h_xgg_NameTaken : PySem.W.findIn K (.ref (He.ga K "NameTaken")) "__getattr__" = some none := of_decide_eq_true (c.at_ 9 13 (l := cs9) rfl rfl)
  have h_xnb_NameTaken : PySem.W.findIn K (.ref (He.ga K "NameTaken")) "name" = some none := of_decide_eq_true (c.at_ 9 14 (l := cs9) rfl rfl)
  have h_xin_NameTaken : PySem.W.findIn K (.ref (He.ga K "NameTaken")) "__init__" = some (some (.ref (He.ma K (He.ga K "NameTaken") "__init__"))) := of_decide_eq_true (c.at_ 9 15 (l := cs9) rfl rfl)
  have h_xti_NameTaken : PySem.W.typeIn K (.ref (He.ma K (He.ga K "NameTaken") "__init__")) = some (.type "function") := of_decide_eq_true (c.at_ 9 16 (l := cs9) rfl rfl)
  have h_xk_NameTaken : PySem.W.keepIn K (.ref (He.ga K "NameTaken")) = true := of_decide_eq_true (c.at_ 9 17 (l := cs9) rfl rfl)
  have h_xe_NameTaken : PySem.W.subIn K (.ref (He.ga K "NameTaken")) (.type "BaseException") = some true := of_decide_eq_true (c.at_ 9 18 (l := cs9) rfl rfl)
  have h_xty_NameTaken : PySem.W.typeIn K (.ref (He.ga K "NameTaken")) = some (.type "type") := of_decide_eq_true (c.at_ 9 19 (l := cs9) rfl rfl)
  have h_xh_NameTaken : PySem.W.hasDictIn K (He.ga K "NameTaken") = true := of_decide_eq_true (c.at_ 9 20 (l := cs9) rfl rfl)
  have h_xL_UnknownName : excB K (He.ga K "UnknownName") = true := c.at_ 9 21 (l := cs9) rfl rfl
  have h_xsa_UnknownName : PySem.W.findIn K (.ref (He.ga K "UnknownName")) "__setattr__" = some (some (.builtin "object.__setattr__")) := of_decide_eq_true (c.at_ 9 22 (l := cs9) rfl rfl)
  have h_xga_UnknownName : PySem.W.findIn K (.ref (He.ga K "UnknownName")) "__getattribute__" = some (some (.builtin "BaseException.__getattribute__")) := of_decide_eq_true (c.at_ 9 23 (l := cs9) rfl rfl)
  have h_xgg_UnknownName : PySem.W.findIn K (.ref (He.ga K "UnknownName")) "__getattr__" = some none := of_decide_eq_true (c.at_ 9 24 (l := cs9) rfl rfl)
  have h_xnb_UnknownName : PySem.W.findIn K (.ref (He.ga K "UnknownName")) "name" = some none := of_decide_eq_true (c.at_ 10 0 (l := cs10) rfl rfl)
  have h_xin_UnknownName : PySem.W.findIn K (.ref (He.ga K "UnknownName")) "__init__" = some (some (.ref (He.ma K (He.ga K "UnknownName") "__init__"))) := of_decide_eq_true (c.at_ 10 1 (l := cs10) rfl rfl)
  have h_xti_UnknownName : PySem.W.typeIn K (.ref (He.ma K (He.ga K "UnknownName") "__init__")) = some (.type "function") := of_decide_eq_true (c.at_ 10 2 (l := cs10) rfl rfl)
  have h_xk_UnknownName : PySem.W.keepIn K (.ref (He.ga K "UnknownName")) = true := of_decide_eq_true (c.at_ 10 3 (l := cs10) rfl rfl)
  have h_xe_UnknownName : PySem.W.subIn K (.ref (He.ga K "UnknownName")) (.type "BaseException") = some true := of_decide_eq_true (c.at_ 10 4 (l := cs10) rfl rfl)
  have h_xty_UnknownName : PySem.W.typeIn K (.ref (He.ga K "UnknownName")) = some (.type "type") := of_decide_eq_true (c.at_ 10 5 (l := cs10) rfl rfl)
  have h_xh_UnknownName : PySem.W.hasDictIn K (He.ga K "UnknownName") = true := of_decide_eq_true (c.at_ 10 6 (l := cs10) rfl rfl)
  have h_xL_FailedDeed : excB K (He.ga K "FailedDeed") = true := c.at_ 10 7 (l := cs10) rfl rfl
  have h_xsa_FailedDeed : PySem.W.findIn K (.ref (He.ga K "FailedDeed")) "__setattr__" = some (some (.builtin "object.__setattr__")) := of_decide_eq_true (c.at_ 10 8 (l := cs10) rfl rfl)
  have h_xga_FailedDeed : PySem.W.findIn K (.ref (He.ga K "FailedDeed")) "__getattribute__" = some (some (.builtin "BaseException.__getattribute__")) := of_decide_eq_true (c.at_ 10 9 (l := cs10) rfl rfl)
  have h_xgg_FailedDeed : PySem.W.findIn K (.ref (He.ga K "FailedDeed")) "__getattr__" = some none := of_decide_eq_true (c.at_ 10 10 (l := cs10) rfl rfl)
  have h_xnb_FailedDeed : PySem.W.findIn K (.ref (He.ga K "FailedDeed")) "at" = some none := of_decide_eq_true (c.at_ 10 11 (l := cs10) rfl rfl)
  have h_xin_FailedDeed : PySem.W.findIn K (.ref (He.ga K "FailedDeed")) "__init__" = some (some (.ref (He.ma K (He.ga K "FailedDeed") "__init__"))) := of_decide_eq_true (c.at_ 10 12 (l := cs10) rfl rfl)
  have h_xti_FailedDeed : PySem.W.typeIn K (.ref (He.ma K (He.ga K "FailedDeed") "__init__")) = some (.type "function") := of_decide_eq_true (c.at_ 10 13 (l := cs10) rfl rfl)
  have h_xk_FailedDeed : PySem.W.keepIn K (.ref (He.ga K "FailedDeed")) = true := of_decide_eq_true (c.at_ 10 14 (l := cs10) rfl rfl)
  have h_xe_FailedDeed : PySem.W.subIn K (.ref (He.ga K "FailedDeed")) (.type "BaseException") = some true := of_decide_eq_true (c.at_ 10 15 (l := cs10) rfl rfl)
  have h_xty_FailedDeed : PySem.W.typeIn K (.ref (He.ga K "FailedDeed")) = some (.type "type") := of_decide_eq_true (c.at_ 10 16 (l := cs10) rfl rfl)
  have h_xh_FailedDeed : PySem.W.hasDictIn K (He.ga K "FailedDeed") = true := of_decide_eq_true (c.at_ 10 17 (l := cs10) rfl rfl)
  have h_x0e_NothingToUndo : PySem.W.excIn K (He.ga K "NothingToUndo") exB "Exception.__new__" = true := of_decide_eq_true (c.at_ 10 18 (l := cs10) rfl rfl)
  have h_x0k_NothingToUndo : PySem.W.keepIn K (.ref (He.ga K "NothingToUndo")) = true := of_decide_eq_true (c.at_ 10 19 (l := cs10) rfl rfl)
  have h_xL_BadCommand : excB K (He.ga K "BadCommand") = true := c.at_ 10 20 (l := cs10) rfl rfl
  have h_xsa_BadCommand : PySem.W.findIn K (.ref (He.ga K "BadCommand")) "__setattr__" = some (some (.builtin "object.__setattr__")) := of_decide_eq_true (c.at_ 10 21 (l := cs10) rfl rfl)
  have h_xga_BadCommand : PySem.W.findIn K (.ref (He.ga K "BadCommand")) "__getattribute__" = some (some (.builtin "BaseException.__getattribute__")) := of_decide_eq_true (c.at_ 10 22 (l := cs10) rfl rfl)
  have h_xgg_BadCommand : PySem.W.findIn K (.ref (He.ga K "BadCommand")) "__getattr__" = some none := of_decide_eq_true (c.at_ 10 23 (l := cs10) rfl rfl)
  have h_xnb_BadCommand : PySem.W.findIn K (.ref (He.ga K "BadCommand")) "line" = some none := of_decide_eq_true (c.at_ 10 24 (l := cs10) rfl rfl)
  have h_xin_BadCommand : PySem.W.findIn K (.ref (He.ga K "BadCommand")) "__init__" = some (some (.ref (He.ma K (He.ga K "BadCommand") "__init__"))) := of_decide_eq_true (c.at_ 11 0 (l := cs11) rfl rfl)
  have h_xti_BadCommand : PySem.W.typeIn K (.ref (He.ma K (He.ga K "BadCommand") "__init__")) = some (.type "function") := of_decide_eq_true (c.at_ 11 1 (l := cs11) rfl rfl)
  have h_xk_BadCommand : PySem.W.keepIn K (.ref (He.ga K "BadCommand")) = true := of_decide_eq_true (c.at_ 11 2 (l := cs11) rfl rfl)
  have h_xe_BadCommand : PySem.W.subIn K (.ref (He.ga K "BadCommand")) (.type "BaseException") = some true := of_decide_eq_true (c.at_ 11 3 (l := cs11) rfl rfl)
  have h_xty_BadCommand : PySem.W.typeIn K (.ref (He.ga K "BadCommand")) = some (.type "type") := of_decide_eq_true (c.at_ 11 4 (l := cs11) rfl rfl)
  have h_xh_BadCommand : PySem.W.hasDictIn K (He.ga K "BadCommand") = true := of_decide_eq_true (c.at_ 11 5 (l := cs11) rfl rfl)
  have h_exk : exkB K = true := c.at_ 11 6 (l := cs11) rfl rfl
  have h_kgt : PySem.W.specialIn K (.builtin "object.__class__") "__get__" = some (some (.builtin "getset_descriptor.__get__")) := of_decide_eq_true (c.at_ 11 7 (l := cs11) rfl rfl)
  have h_ktk : PySem.W.takesIn K (.builtin "object.__class__") = some true := of_decide_eq_true (c.at_ 11 8 (l := cs11) rfl rfl)
  have h_isx_BadArgument : isxB K "BadArgument" [true, false, false, false, false, false, false, false, false, false, false, false, false, false, false, false, false, false, false, false, false, false, false] = true := c.at_ 11 9 (l := cs11) rfl rfl
  have h_z_isinstance : PySem.W.nsIn K mainGlobals "isinstance" = some none := of_decide_eq_true (c.at_ 11 10 (l := cs11) rfl rfl)
  have h_isx_BadProgram : isxB K "BadProgram" [false, true, false, false, false, false, false, false, false, false, false, false, false, false, false, false, false, false, false, false, false, false, false] = true := c.at_ 11 11 (l := cs11) rfl rfl
  have h_isx_BadPlace : isxB K "BadPlace" [false, false, true, false, false, false, false, false, false, false, false, false, false, false, false, false, false, false, false, false, false, false, false] = true := c.at_ 11 12 (l := cs11) rfl rfl
  have h_isx_BadWay : isxB K "BadWay" [false, false, false, true, false, false, false, false, false, false, false, false, false, false, false, false, false, false, false, false, false, false, false] = true := c.at_ 11 13 (l := cs11) rfl rfl
  have h_isx_BadRun : isxB K "BadRun" [false, false, false, false, true, false, false, false, false, false, false, false, false, false, false, false, false, false, false, false, false, false, false] = true := c.at_ 11 14 (l := cs11) rfl rfl
  have h_isx_BadCounter : isxB K "BadCounter" [false, false, false, false, false, true, false, false, false, false, false, false, false, false, false, false, false, false, false, false, false, false, false] = true := c.at_ 11 15 (l := cs11) rfl rfl
  have h_isx_BadLot : isxB K "BadLot" [false, false, false, false, false, false, true, false, false, false, false, false, false, false, false, false, false, false, false, false, false, false, false] = true := c.at_ 11 16 (l := cs11) rfl rfl
  have h_isx_NoLot : isxB K "NoLot" [false, false, false, false, false, false, false, true, false, false, false, false, false, false, false, false, false, false, false, false, false, false, false] = true := c.at_ 11 17 (l := cs11) rfl rfl
  have h_isx_BadNumber : isxB K "BadNumber" [false, false, false, false, false, false, false, false, true, false, false, false, false, false, false, false, false, false, false, false, false, false, false] = true := c.at_ 11 18 (l := cs11) rfl rfl
  have h_isx_BadValues : isxB K "BadValues" [false, false, false, false, false, false, false, false, false, true, false, false, false, false, false, false, false, false, false, false, false, false, false] = true := c.at_ 11 19 (l := cs11) rfl rfl
  have h_isx_NotTold : isxB K "NotTold" [false, false, false, false, false, false, false, false, false, false, true, false, false, false, false, false, false, false, false, false, false, false, false] = true := c.at_ 11 20 (l := cs11) rfl rfl
  have h_isx_Rings : isxB K "Rings" [false, false, false, false, false, false, false, false, false, false, false, true, false, false, false, false, false, false, false, false, false, false, false] = true := c.at_ 11 21 (l := cs11) rfl rfl
  have h_isx_BadCosts : isxB K "BadCosts" [false, false, false, false, false, false, false, false, false, false, false, false, true, false, false, false, false, false, false, false, false, false, false] = true := c.at_ 11 22 (l := cs11) rfl rfl
  have h_isx_BadLevels : isxB K "BadLevels" [false, false, false, false, false, false, false, false, false, false, false, false, false, true, false, false, false, false, false, false, false, false, false] = true := c.at_ 11 23 (l := cs11) rfl rfl
  have h_isx_TooMany : isxB K "TooMany" [false, false, false, false, false, false, false, false, false, false, false, false, false, false, true, false, false, false, false, false, false, false, false] = true := c.at_ 11 24 (l := cs11) rfl rfl
  have h_isx_BadChange : isxB K "BadChange" [false, false, false, false, false, false, false, false, false, false, false, false, false, false, false, true, false, false, false, false, false, false, false] = true := c.at_ 12 0 (l := cs12) rfl rfl
  have h_isx_BadText : isxB K "BadText" [false, false, false, false, false, false, false, false, false, false, false, false, false, false, false, false, true, false, false, false, false, false, false] = true := c.at_ 12 1 (l := cs12) rfl rfl
  have h_isx_BadName : isxB K "BadName" [false, false, false, false, false, false, false, false, false, false, false, false, false, false, false, false, false, true, false, false, false, false, false] = true := c.at_ 12 2 (l := cs12) rfl rfl
  have h_isx_NameTaken : isxB K "NameTaken" [false, false, false, false, false, false, false, false, false, false, false, false, false, false, false, false, false, false, true, false, false, false, false] = true := c.at_ 12 3 (l := cs12) rfl rfl
  have h_isx_UnknownName : isxB K "UnknownName" [false, false, false, false, false, false, false, false, false, false, false, false, false, false, false, false, false, false, false, true, false, false, false] = true := c.at_ 12 4 (l := cs12) rfl rfl
  have h_isx_FailedDeed : isxB K "FailedDeed" [false, false, false, false, false, false, false, false, false, false, false, false, false, false, false, false, false, false, false, false, true, false, false] = true := c.at_ 12 5 (l := cs12) rfl rfl
  have h_isx_NothingToUndo : isxB K "NothingToUndo" [false, false, false, false, false, false, false, false, false, false, false, false, false, false, false, false, false, false, false, false, false, true, false] = true := c.at_ 12 6 (l := cs12) rfl rfl
  have h_isx_BadCommand : isxB K "BadCommand" [false, false, false, false, false, false, false, false, false, false, false, false, false, false, false, false, false, false, false, false, false, false, true] = true := c.at_ 12 7 (l := cs12) rfl rfl
  have h_xic_BadWay : PySem.W.isClsIn K (He.ga K "BadWay") = true := of_decide_eq_true (c.at_ 12 8 (l := cs12) rfl rfl)
  have h_xs_BadWay_BadWay : PySem.W.subIn K (.ref (He.ga K "BadWay")) (.ref (He.ga K "BadWay")) = some true := of_decide_eq_true (c.at_ 12 9 (l := cs12) rfl rfl)
  have h_xs_CountError_BadWay : PySem.W.subIn K (.ref (He.ga K "CountError")) (.ref (He.ga K "BadWay")) = some false := of_decide_eq_true (c.at_ 12 10 (l := cs12) rfl rfl)
  have h_xs_BadRun_BadWay : PySem.W.subIn K (.ref (He.ga K "BadRun")) (.ref (He.ga K "BadWay")) = some false := of_decide_eq_true (c.at_ 12 11 (l := cs12) rfl rfl)
  have h_xe_CountError : PySem.W.subIn K (.ref (He.ga K "CountError")) (.type "BaseException") = some true := of_decide_eq_true (c.at_ 12 12 (l := cs12) rfl rfl)
  have h_xty_CountError : PySem.W.typeIn K (.ref (He.ga K "CountError")) = some (.type "type") := of_decide_eq_true (c.at_ 12 13 (l := cs12) rfl rfl)
  have h_xic_CountError : PySem.W.isClsIn K (He.ga K "CountError") = true := of_decide_eq_true (c.at_ 12 14 (l := cs12) rfl rfl)
  have h_xs_CountError_CountError : PySem.W.subIn K (.ref (He.ga K "CountError")) (.ref (He.ga K "CountError")) = some true := of_decide_eq_true (c.at_ 12 15 (l := cs12) rfl rfl)
  have h_xs_BadRun_CountError : PySem.W.subIn K (.ref (He.ga K "BadRun")) (.ref (He.ga K "CountError")) = some true := of_decide_eq_true (c.at_ 12 16 (l := cs12) rfl rfl)
  have h_z_str : PySem.W.nsIn K mainGlobals "str" = some none := of_decide_eq_true (c.at_ 12 17 (l := cs12) rfl rfl)
  have h_z_enumerate : PySem.W.nsIn K mainGlobals "enumerate" = some none := of_decide_eq_true (c.at_ 12 18 (l := cs12) rfl rfl)
  have h_isx_CountError : isxB K "CountError" [true, true, true, true, true, true, true, true, true, true, true, true, true, true, true, true, true, true, true, true, true, true, true] = true := c.at_ 12 19 (l := cs12) rfl rfl
  have h_z_min : PySem.W.nsIn K mainGlobals "min" = some none := of_decide_eq_true (c.at_ 12 20 (l := cs12) rfl rfl)
  have e := hfa.symm.trans (PySem.W.mg_of X G h_a_law)
  cases e
  obtain ⟨d__law_numbers, F__law_numbers⟩ : ∃ fd, Fun K "_law_numbers" "_law_numbers" (top 26) (He.ga K "_law_numbers") fd := c.def_ 0 (d := fe__law_numbers) rfl
  obtain ⟨d__law_pool, F__law_pool⟩ : ∃ fd, Fun K "_law_pool" "_law_pool" (top 27) (He.ga K "_law_pool") fd := c.def_ 1 (d := fe__law_pool) rfl
  obtain ⟨d__law_draw, F__law_draw⟩ : ∃ fd, Fun K "_law_draw" "_law_draw" (top 28) (He.ga K "_law_draw") fd := c.def_ 2 (d := fe__law_draw) rfl
  obtain ⟨d__law_objects, F__law_objects⟩ : ∃ fd, Fun K "_law_objects" "_law_objects" (top 30) (He.ga K "_law_objects") fd := c.def_ 3 (d := fe__law_objects) rfl
  obtain ⟨d__law_classes, F__law_classes⟩ : ∃ fd, Fun K "_law_classes" "_law_classes" (top 31) (He.ga K "_law_classes") fd := c.def_ 4 (d := fe__law_classes) rfl
  obtain ⟨d__law_fields, F__law_fields⟩ : ∃ fd, Fun K "_law_fields" "_law_fields" (top 32) (He.ga K "_law_fields") fd := c.def_ 5 (d := fe__law_fields) rfl
  obtain ⟨d__law_caught, F__law_caught⟩ : ∃ fd, Fun K "_law_caught" "_law_caught" (top 33) (He.ga K "_law_caught") fd := c.def_ 6 (d := fe__law_caught) rfl
  obtain ⟨d__law_opened, F__law_opened⟩ : ∃ fd, Fun K "_law_opened" "_law_opened" (top 29) (He.ga K "_law_opened") fd := c.def_ 7 (d := fe__law_opened) rfl
  obtain ⟨d_law, F_law⟩ : ∃ fd, Fun K "law" "law" (top 34) (He.ga K "law") fd := c.def_ 8 (d := fe_law) rfl
  obtain ⟨d_x_BadArgument, F_x_BadArgument⟩ : ∃ fd, Fun K "__init__" "BadArgument.__init__" (inClass (top 2) 0) (He.ma K (He.ga K "BadArgument") "__init__") fd := c.def_ 9 (d := fe_x_BadArgument) rfl
  obtain ⟨d_x_BadProgram, F_x_BadProgram⟩ : ∃ fd, Fun K "__init__" "BadProgram.__init__" (inClass (top 3) 0) (He.ma K (He.ga K "BadProgram") "__init__") fd := c.def_ 10 (d := fe_x_BadProgram) rfl
  obtain ⟨d_x_BadPlace, F_x_BadPlace⟩ : ∃ fd, Fun K "__init__" "BadPlace.__init__" (inClass (top 4) 0) (He.ma K (He.ga K "BadPlace") "__init__") fd := c.def_ 11 (d := fe_x_BadPlace) rfl
  obtain ⟨d_x_BadWay, F_x_BadWay⟩ : ∃ fd, Fun K "__init__" "BadWay.__init__" (inClass (top 5) 0) (He.ma K (He.ga K "BadWay") "__init__") fd := c.def_ 12 (d := fe_x_BadWay) rfl
  obtain ⟨d_x_BadRun, F_x_BadRun⟩ : ∃ fd, Fun K "__init__" "BadRun.__init__" (inClass (top 6) 0) (He.ma K (He.ga K "BadRun") "__init__") fd := c.def_ 13 (d := fe_x_BadRun) rfl
  obtain ⟨d_x_BadCounter, F_x_BadCounter⟩ : ∃ fd, Fun K "__init__" "BadCounter.__init__" (inClass (top 7) 0) (He.ma K (He.ga K "BadCounter") "__init__") fd := c.def_ 14 (d := fe_x_BadCounter) rfl
  obtain ⟨d_x_BadLot, F_x_BadLot⟩ : ∃ fd, Fun K "__init__" "BadLot.__init__" (inClass (top 8) 0) (He.ma K (He.ga K "BadLot") "__init__") fd := c.def_ 15 (d := fe_x_BadLot) rfl
  obtain ⟨d_x_NoLot, F_x_NoLot⟩ : ∃ fd, Fun K "__init__" "NoLot.__init__" (inClass (top 9) 0) (He.ma K (He.ga K "NoLot") "__init__") fd := c.def_ 16 (d := fe_x_NoLot) rfl
  obtain ⟨d_x_BadNumber, F_x_BadNumber⟩ : ∃ fd, Fun K "__init__" "BadNumber.__init__" (inClass (top 10) 0) (He.ma K (He.ga K "BadNumber") "__init__") fd := c.def_ 17 (d := fe_x_BadNumber) rfl
  obtain ⟨d_x_BadValues, F_x_BadValues⟩ : ∃ fd, Fun K "__init__" "BadValues.__init__" (inClass (top 11) 0) (He.ma K (He.ga K "BadValues") "__init__") fd := c.def_ 18 (d := fe_x_BadValues) rfl
  obtain ⟨d_x_NotTold, F_x_NotTold⟩ : ∃ fd, Fun K "__init__" "NotTold.__init__" (inClass (top 12) 0) (He.ma K (He.ga K "NotTold") "__init__") fd := c.def_ 19 (d := fe_x_NotTold) rfl
  obtain ⟨d_x_Rings, F_x_Rings⟩ : ∃ fd, Fun K "__init__" "Rings.__init__" (inClass (top 13) 0) (He.ma K (He.ga K "Rings") "__init__") fd := c.def_ 20 (d := fe_x_Rings) rfl
  obtain ⟨d_x_BadCosts, F_x_BadCosts⟩ : ∃ fd, Fun K "__init__" "BadCosts.__init__" (inClass (top 14) 0) (He.ma K (He.ga K "BadCosts") "__init__") fd := c.def_ 21 (d := fe_x_BadCosts) rfl
  obtain ⟨d_x_BadLevels, F_x_BadLevels⟩ : ∃ fd, Fun K "__init__" "BadLevels.__init__" (inClass (top 15) 0) (He.ma K (He.ga K "BadLevels") "__init__") fd := c.def_ 22 (d := fe_x_BadLevels) rfl
  obtain ⟨d_x_TooMany, F_x_TooMany⟩ : ∃ fd, Fun K "__init__" "TooMany.__init__" (inClass (top 16) 0) (He.ma K (He.ga K "TooMany") "__init__") fd := c.def_ 23 (d := fe_x_TooMany) rfl
  obtain ⟨d_x_BadChange, F_x_BadChange⟩ : ∃ fd, Fun K "__init__" "BadChange.__init__" (inClass (top 17) 0) (He.ma K (He.ga K "BadChange") "__init__") fd := c.def_ 24 (d := fe_x_BadChange) rfl
  obtain ⟨d_x_BadText, F_x_BadText⟩ : ∃ fd, Fun K "__init__" "BadText.__init__" (inClass (top 18) 0) (He.ma K (He.ga K "BadText") "__init__") fd := c.def_ 25 (d := fe_x_BadText) rfl
  obtain ⟨d_x_BadName, F_x_BadName⟩ : ∃ fd, Fun K "__init__" "BadName.__init__" (inClass (top 19) 0) (He.ma K (He.ga K "BadName") "__init__") fd := c.def_ 26 (d := fe_x_BadName) rfl
  obtain ⟨d_x_NameTaken, F_x_NameTaken⟩ : ∃ fd, Fun K "__init__" "NameTaken.__init__" (inClass (top 20) 0) (He.ma K (He.ga K "NameTaken") "__init__") fd := c.def_ 27 (d := fe_x_NameTaken) rfl
  obtain ⟨d_x_UnknownName, F_x_UnknownName⟩ : ∃ fd, Fun K "__init__" "UnknownName.__init__" (inClass (top 21) 0) (He.ma K (He.ga K "UnknownName") "__init__") fd := c.def_ 28 (d := fe_x_UnknownName) rfl
  obtain ⟨d_x_FailedDeed, F_x_FailedDeed⟩ : ∃ fd, Fun K "__init__" "FailedDeed.__init__" (inClass (top 22) 0) (He.ma K (He.ga K "FailedDeed") "__init__") fd := c.def_ 29 (d := fe_x_FailedDeed) rfl
  obtain ⟨d_x_BadCommand, F_x_BadCommand⟩ : ∃ fd, Fun K "__init__" "BadCommand.__init__" (inClass (top 23) 0) (He.ma K (He.ga K "BadCommand") "__init__") fd := c.def_ 30 (d := fe_x_BadCommand) rfl
  have B__law_numbers := F__law_numbers.binds (ps := ["cell", "salt", "sizes"]) fun _ _ _ _ _ _ us hl => match us, hl with | [_, _, _], _ => rfl
  have B__law_pool := F__law_pool.binds (ps := ["cell", "salt", "many"]) fun _ _ _ _ _ _ us hl => match us, hl with | [_, _, _], _ => rfl
  have B__law_draw := F__law_draw.binds (ps := ["pool", "many"]) fun _ _ _ _ _ _ us hl => match us, hl with | [_, _], _ => rfl
  have B__law_objects := F__law_objects.binds (ps := ["thing"]) fun _ _ _ _ _ _ us hl => match us, hl with | [_], _ => rfl
  have B__law_classes := F__law_classes.binds (ps := ["one"]) fun _ _ _ _ _ _ us hl => match us, hl with | [_], _ => rfl
  have B__law_fields := F__law_fields.binds (ps := ["thing"]) fun _ _ _ _ _ _ us hl => match us, hl with | [_], _ => rfl
  have B__law_caught := F__law_caught.binds (ps := ["thing"]) fun _ _ _ _ _ _ us hl => match us, hl with | [_], _ => rfl
  have B__law_opened := F__law_opened.binds (ps := ["script", "k", "many"]) fun _ _ _ _ _ _ us hl => match us, hl with | [_, _, _], _ => rfl
  have B_law := F_law.binds (ps := ["script"]) fun _ _ _ _ _ _ us hl => match us, hl with | [_], _ => rfl
  obtain ⟨oc_BadArgument, od_BadArgument, kV_BadArgument, doc_BadArgument, pm_BadArgument, an_BadArgument, cdv_BadArgument, ct_BadArgument, osl_BadArgument, hfd_BadArgument, lk_BadArgument, hcd_BadArgument⟩ := F_x_BadArgument.ex
  obtain ⟨oc_BadProgram, od_BadProgram, kV_BadProgram, doc_BadProgram, pm_BadProgram, an_BadProgram, cdv_BadProgram, ct_BadProgram, osl_BadProgram, hfd_BadProgram, lk_BadProgram, hcd_BadProgram⟩ := F_x_BadProgram.ex
  obtain ⟨oc_BadPlace, od_BadPlace, kV_BadPlace, doc_BadPlace, pm_BadPlace, an_BadPlace, cdv_BadPlace, ct_BadPlace, osl_BadPlace, hfd_BadPlace, lk_BadPlace, hcd_BadPlace⟩ := F_x_BadPlace.ex
  obtain ⟨oc_BadWay, od_BadWay, kV_BadWay, doc_BadWay, pm_BadWay, an_BadWay, cdv_BadWay, ct_BadWay, osl_BadWay, hfd_BadWay, lk_BadWay, hcd_BadWay⟩ := F_x_BadWay.ex
  obtain ⟨oc_BadRun, od_BadRun, kV_BadRun, doc_BadRun, pm_BadRun, an_BadRun, cdv_BadRun, ct_BadRun, osl_BadRun, hfd_BadRun, lk_BadRun, hcd_BadRun⟩ := F_x_BadRun.ex
  obtain ⟨oc_BadCounter, od_BadCounter, kV_BadCounter, doc_BadCounter, pm_BadCounter, an_BadCounter, cdv_BadCounter, ct_BadCounter, osl_BadCounter, hfd_BadCounter, lk_BadCounter, hcd_BadCounter⟩ := F_x_BadCounter.ex
  obtain ⟨oc_BadLot, od_BadLot, kV_BadLot, doc_BadLot, pm_BadLot, an_BadLot, cdv_BadLot, ct_BadLot, osl_BadLot, hfd_BadLot, lk_BadLot, hcd_BadLot⟩ := F_x_BadLot.ex
  obtain ⟨oc_NoLot, od_NoLot, kV_NoLot, doc_NoLot, pm_NoLot, an_NoLot, cdv_NoLot, ct_NoLot, osl_NoLot, hfd_NoLot, lk_NoLot, hcd_NoLot⟩ := F_x_NoLot.ex
  obtain ⟨oc_BadNumber, od_BadNumber, kV_BadNumber, doc_BadNumber, pm_BadNumber, an_BadNumber, cdv_BadNumber, ct_BadNumber, osl_BadNumber, hfd_BadNumber, lk_BadNumber, hcd_BadNumber⟩ := F_x_BadNumber.ex
  obtain ⟨oc_BadValues, od_BadValues, kV_BadValues, doc_BadValues, pm_BadValues, an_BadValues, cdv_BadValues, ct_BadValues, osl_BadValues, hfd_BadValues, lk_BadValues, hcd_BadValues⟩ := F_x_BadValues.ex
  obtain ⟨oc_NotTold, od_NotTold, kV_NotTold, doc_NotTold, pm_NotTold, an_NotTold, cdv_NotTold, ct_NotTold, osl_NotTold, hfd_NotTold, lk_NotTold, hcd_NotTold⟩ := F_x_NotTold.ex
  obtain ⟨oc_Rings, od_Rings, kV_Rings, doc_Rings, pm_Rings, an_Rings, cdv_Rings, ct_Rings, osl_Rings, hfd_Rings, lk_Rings, hcd_Rings⟩ := F_x_Rings.ex
  obtain ⟨oc_BadCosts, od_BadCosts, kV_BadCosts, doc_BadCosts, pm_BadCosts, an_BadCosts, cdv_BadCosts, ct_BadCosts, osl_BadCosts, hfd_BadCosts, lk_BadCosts, hcd_BadCosts⟩ := F_x_BadCosts.ex
  obtain ⟨oc_BadLevels, od_BadLevels, kV_BadLevels, doc_BadLevels, pm_BadLevels, an_BadLevels, cdv_BadLevels, ct_BadLevels, osl_BadLevels, hfd_BadLevels, lk_BadLevels, hcd_BadLevels⟩ := F_x_BadLevels.ex
  obtain ⟨oc_TooMany, od_TooMany, kV_TooMany, doc_TooMany, pm_TooMany, an_TooMany, cdv_TooMany, ct_TooMany, osl_TooMany, hfd_TooMany, lk_TooMany, hcd_TooMany⟩ := F_x_TooMany.ex
  obtain ⟨oc_BadChange, od_BadChange, kV_BadChange, doc_BadChange, pm_BadChange, an_BadChange, cdv_BadChange, ct_BadChange, osl_BadChange, hfd_BadChange, lk_BadChange, hcd_BadChange⟩ := F_x_BadChange.ex
  obtain ⟨oc_BadText, od_BadText, kV_BadText, doc_BadText, pm_BadText, an_BadText, cdv_BadText, ct_BadText, osl_BadText, hfd_BadText, lk_BadText, hcd_BadText⟩ := F_x_BadText.ex
  obtain ⟨oc_BadName, od_BadName, kV_BadName, doc_BadName, pm_BadName, an_BadName, cdv_BadName, ct_BadName, osl_BadName, hfd_BadName, lk_BadName, hcd_BadName⟩ := F_x_BadName.ex
  obtain ⟨oc_NameTaken, od_NameTaken, kV_NameTaken, doc_NameTaken, pm_NameTaken, an_NameTaken, cdv_NameTaken, ct_NameTaken, osl_NameTaken, hfd_NameTaken, lk_NameTaken, hcd_NameTaken⟩ := F_x_NameTaken.ex
  obtain ⟨oc_UnknownName, od_UnknownName, kV_UnknownName, doc_UnknownName, pm_UnknownName, an_UnknownName, cdv_UnknownName, ct_UnknownName, osl_UnknownName, hfd_UnknownName, lk_UnknownName, hcd_UnknownName⟩ := F_x_UnknownName.ex
  obtain ⟨oc_FailedDeed, od_FailedDeed, kV_FailedDeed, doc_FailedDeed, pm_FailedDeed, an_FailedDeed, cdv_FailedDeed, ct_FailedDeed, osl_FailedDeed, hfd_FailedDeed, lk_FailedDeed, hcd_FailedDeed⟩ := F_x_FailedDeed.ex
  obtain ⟨oc_BadCommand, od_BadCommand, kV_BadCommand, doc_BadCommand, pm_BadCommand, an_BadCommand, cdv_BadCommand, ct_BadCommand, osl_BadCommand, hfd_BadCommand, lk_BadCommand, hcd_BadCommand⟩ := F_x_BadCommand.ex
  let a : Ad := { BadArgument := (He.ga K "BadArgument"), BadProgram := (He.ga K "BadProgram"), BadPlace := (He.ga K "BadPlace"), BadWay := (He.ga K "BadWay"), BadRun := (He.ga K "BadRun"), BadCounter := (He.ga K "BadCounter"), BadLot := (He.ga K "BadLot"), NoLot := (He.ga K "NoLot"), BadNumber := (He.ga K "BadNumber"), BadValues := (He.ga K "BadValues"), NotTold := (He.ga K "NotTold"), Rings := (He.ga K "Rings"), BadCosts := (He.ga K "BadCosts"), BadLevels := (He.ga K "BadLevels"), TooMany := (He.ga K "TooMany"), BadChange := (He.ga K "BadChange"), BadText := (He.ga K "BadText"), BadName := (He.ga K "BadName"), NameTaken := (He.ga K "NameTaken"), UnknownName := (He.ga K "UnknownName"), FailedDeed := (He.ga K "FailedDeed"), BadCommand := (He.ga K "BadCommand"), NothingToUndo := (He.ga K "NothingToUndo"), CountError := (He.ga K "CountError"), v__law_numbers := (He.ga K "_law_numbers"), d__law_numbers := d__law_numbers, v__law_pool := (He.ga K "_law_pool"), d__law_pool := d__law_pool, v__law_draw := (He.ga K "_law_draw"), d__law_draw := d__law_draw, v__law_objects := (He.ga K "_law_objects"), d__law_objects := d__law_objects, v__law_classes := (He.ga K "_law_classes"), d__law_classes := d__law_classes, v__law_fields := (He.ga K "_law_fields"), d__law_fields := d__law_fields, v__law_caught := (He.ga K "_law_caught"), d__law_caught := d__law_caught, v__law_opened := (He.ga K "_law_opened"), d__law_opened := d__law_opened, v_law := (He.ga K "law"), d_law := d_law, w := w, xi_BadArgument := (He.ma K (He.ga K "BadArgument") "__init__"), xd_BadArgument := d_x_BadArgument, xi_BadProgram := (He.ma K (He.ga K "BadProgram") "__init__"), xd_BadProgram := d_x_BadProgram, xi_BadPlace := (He.ma K (He.ga K "BadPlace") "__init__"), xd_BadPlace := d_x_BadPlace, xi_BadWay := (He.ma K (He.ga K "BadWay") "__init__"), xd_BadWay := d_x_BadWay, xi_BadRun := (He.ma K (He.ga K "BadRun") "__init__"), xd_BadRun := d_x_BadRun, xi_BadCounter := (He.ma K (He.ga K "BadCounter") "__init__"), xd_BadCounter := d_x_BadCounter, xi_BadLot := (He.ma K (He.ga K "BadLot") "__init__"), xd_BadLot := d_x_BadLot, xi_NoLot := (He.ma K (He.ga K "NoLot") "__init__"), xd_NoLot := d_x_NoLot, xi_BadNumber := (He.ma K (He.ga K "BadNumber") "__init__"), xd_BadNumber := d_x_BadNumber, xi_BadValues := (He.ma K (He.ga K "BadValues") "__init__"), xd_BadValues := d_x_BadValues, xi_NotTold := (He.ma K (He.ga K "NotTold") "__init__"), xd_NotTold := d_x_NotTold, xi_Rings := (He.ma K (He.ga K "Rings") "__init__"), xd_Rings := d_x_Rings, xi_BadCosts := (He.ma K (He.ga K "BadCosts") "__init__"), xd_BadCosts := d_x_BadCosts, xi_BadLevels := (He.ma K (He.ga K "BadLevels") "__init__"), xd_BadLevels := d_x_BadLevels, xi_TooMany := (He.ma K (He.ga K "TooMany") "__init__"), xd_TooMany := d_x_TooMany, xi_BadChange := (He.ma K (He.ga K "BadChange") "__init__"), xd_BadChange := d_x_BadChange, xi_BadText := (He.ma K (He.ga K "BadText") "__init__"), xd_BadText := d_x_BadText, xi_BadName := (He.ma K (He.ga K "BadName") "__init__"), xd_BadName := d_x_BadName, xi_NameTaken := (He.ma K (He.ga K "NameTaken") "__init__"), xd_NameTaken := d_x_NameTaken, xi_UnknownName := (He.ma K (He.ga K "UnknownName") "__init__"), xd_UnknownName := d_x_UnknownName, xi_FailedDeed := (He.ma K (He.ga K "FailedDeed") "__init__"), xd_FailedDeed := d_x_FailedDeed, xi_BadCommand := (He.ma K (He.ga K "BadCommand") "__init__"), xd_BadCommand := d_x_BadCommand }
  have hts : tbsT fsT G0 = [] := by unfold tbsT; rw [← hfs]; rfl
  have hT0 : (T0 a).map (·.1) = (tbsT fsT G0).map (·.2) := by rw [hts]; rfl
  obtain ⟨oc_l, od_l, kV_l, doc_l, pm_l, an_l, cdv_l, ct_l, osl_l, hfd_l, lk_l, hcd_l⟩ := F_law.ex
  refine ⟨d_law, T0 a, hT0, fun s v => by rw [hfd_l]; exact .of_eq rfl, fun base _ _ hTB => ?_⟩
  have T : Txt K mg base a := { F__law_numbers := F__law_numbers, B__law_numbers := B__law_numbers, m__law_numbers := PySem.W.mg_of X G h_a__law_numbers, F__law_pool := F__law_pool, B__law_pool := B__law_pool, m__law_pool := PySem.W.mg_of X G h_a__law_pool, F__law_draw := F__law_draw, B__law_draw := B__law_draw, m__law_draw := PySem.W.mg_of X G h_a__law_draw, F__law_objects := F__law_objects, B__law_objects := B__law_objects, m__law_objects := PySem.W.mg_of X G h_a__law_objects, F__law_classes := F__law_classes, B__law_classes := B__law_classes, m__law_classes := PySem.W.mg_of X G h_a__law_classes, F__law_fields := F__law_fields, B__law_fields := B__law_fields, m__law_fields := PySem.W.mg_of X G h_a__law_fields, F__law_caught := F__law_caught, B__law_caught := B__law_caught, m__law_caught := PySem.W.mg_of X G h_a__law_caught, F__law_opened := F__law_opened, B__law_opened := B__law_opened, m__law_opened := PySem.W.mg_of X G h_a__law_opened, F_law := F_law, B_law := B_law, m_law := PySem.W.mg_of X G h_a_law, b_int := PySem.W.mg_none_of X G h_z_int, b_max := PySem.W.mg_none_of X G h_z_max, b_len := PySem.W.mg_none_of X G h_z_len, b_range := PySem.W.mg_none_of X G h_z_range, nsn_BadArgument := h_aC_BadArgument, xc_BadArgument := { cls := excB_ok h_xL_BadArgument, sa := h_xsa_BadArgument, ga := h_xga_BadArgument, gg := h_xgg_BadArgument, kC := h_xk_BadArgument, exC := h_xe_BadArgument, tyC := h_xty_BadArgument, hdC := h_xh_BadArgument, init := h_xin_BadArgument, tyI := h_xti_BadArgument, noN := h_xnb_BadArgument, fn := ⟨oc_BadArgument, od_BadArgument, osl_BadArgument, _, _, _, kV_BadArgument, doc_BadArgument, pm_BadArgument, an_BadArgument, cdv_BadArgument, ct_BadArgument, _, _, _, _, hfd_BadArgument, lk_BadArgument, hcd_BadArgument, (fun p q => (congrArg (fun fd => bindArgs fd ⟨[p, q], []⟩) hfd_BadArgument).trans rfl), rfl, rfl, rfl, rfl⟩ }, mg_BadArgument := PySem.W.mg_of X G h_aC_BadArgument, nsn_BadProgram := h_aC_BadProgram, xc_BadProgram := { cls := excB_ok h_xL_BadProgram, sa := h_xsa_BadProgram, ga := h_xga_BadProgram, gg := h_xgg_BadProgram, kC := h_xk_BadProgram, exC := h_xe_BadProgram, tyC := h_xty_BadProgram, hdC := h_xh_BadProgram, init := h_xin_BadProgram, tyI := h_xti_BadProgram, noN := h_xnb_BadProgram, fn := ⟨oc_BadProgram, od_BadProgram, osl_BadProgram, _, _, _, kV_BadProgram, doc_BadProgram, pm_BadProgram, an_BadProgram, cdv_BadProgram, ct_BadProgram, _, _, _, _, hfd_BadProgram, lk_BadProgram, hcd_BadProgram, (fun p q => (congrArg (fun fd => bindArgs fd ⟨[p, q], []⟩) hfd_BadProgram).trans rfl), rfl, rfl, rfl, rfl⟩ }, mg_BadProgram := PySem.W.mg_of X G h_aC_BadProgram, nsn_BadPlace := h_aC_BadPlace, xc_BadPlace := { cls := excB_ok h_xL_BadPlace, sa := h_xsa_BadPlace, ga := h_xga_BadPlace, gg := h_xgg_BadPlace, kC := h_xk_BadPlace, exC := h_xe_BadPlace, tyC := h_xty_BadPlace, hdC := h_xh_BadPlace, init := h_xin_BadPlace, tyI := h_xti_BadPlace, noN := h_xnb_BadPlace, fn := ⟨oc_BadPlace, od_BadPlace, osl_BadPlace, _, _, _, kV_BadPlace, doc_BadPlace, pm_BadPlace, an_BadPlace, cdv_BadPlace, ct_BadPlace, _, _, _, _, hfd_BadPlace, lk_BadPlace, hcd_BadPlace, (fun p q => (congrArg (fun fd => bindArgs fd ⟨[p, q], []⟩) hfd_BadPlace).trans rfl), rfl, rfl, rfl, rfl⟩ }, mg_BadPlace := PySem.W.mg_of X G h_aC_BadPlace, nsn_BadWay := h_aC_BadWay, xc_BadWay := { cls := excB_ok h_xL_BadWay, sa := h_xsa_BadWay, ga := h_xga_BadWay, gg := h_xgg_BadWay, kC := h_xk_BadWay, exC := h_xe_BadWay, tyC := h_xty_BadWay, hdC := h_xh_BadWay, init := h_xin_BadWay, tyI := h_xti_BadWay, noN := h_xnb_BadWay, fn := ⟨oc_BadWay, od_BadWay, osl_BadWay, _, _, _, kV_BadWay, doc_BadWay, pm_BadWay, an_BadWay, cdv_BadWay, ct_BadWay, _, _, _, _, hfd_BadWay, lk_BadWay, hcd_BadWay, (fun p q => (congrArg (fun fd => bindArgs fd ⟨[p, q], []⟩) hfd_BadWay).trans rfl), rfl, rfl, rfl, rfl⟩ }, mg_BadWay := PySem.W.mg_of X G h_aC_BadWay, nsn_BadRun := h_aC_BadRun, xc_BadRun := { cls := excB_ok h_xL_BadRun, sa := h_xsa_BadRun, ga := h_xga_BadRun, gg := h_xgg_BadRun, kC := h_xk_BadRun, exC := h_xe_BadRun, tyC := h_xty_BadRun, hdC := h_xh_BadRun, init := h_xin_BadRun, tyI := h_xti_BadRun, noN := h_xnb_BadRun, fn := ⟨oc_BadRun, od_BadRun, osl_BadRun, _, _, _, kV_BadRun, doc_BadRun, pm_BadRun, an_BadRun, cdv_BadRun, ct_BadRun, _, _, _, _, hfd_BadRun, lk_BadRun, hcd_BadRun, (fun p q => (congrArg (fun fd => bindArgs fd ⟨[p, q], []⟩) hfd_BadRun).trans rfl), rfl, rfl, rfl, rfl⟩ }, mg_BadRun := PySem.W.mg_of X G h_aC_BadRun, nsn_BadCounter := h_aC_BadCounter, xc_BadCounter := { cls := excB_ok h_xL_BadCounter, sa := h_xsa_BadCounter, ga := h_xga_BadCounter, gg := h_xgg_BadCounter, kC := h_xk_BadCounter, exC := h_xe_BadCounter, tyC := h_xty_BadCounter, hdC := h_xh_BadCounter, init := h_xin_BadCounter, tyI := h_xti_BadCounter, noN := h_xnb_BadCounter, fn := ⟨oc_BadCounter, od_BadCounter, osl_BadCounter, _, _, _, kV_BadCounter, doc_BadCounter, pm_BadCounter, an_BadCounter, cdv_BadCounter, ct_BadCounter, _, _, _, _, hfd_BadCounter, lk_BadCounter, hcd_BadCounter, (fun p q => (congrArg (fun fd => bindArgs fd ⟨[p, q], []⟩) hfd_BadCounter).trans rfl), rfl, rfl, rfl, rfl⟩ }, mg_BadCounter := PySem.W.mg_of X G h_aC_BadCounter, nsn_BadLot := h_aC_BadLot, xc_BadLot := { cls := excB_ok h_xL_BadLot, sa := h_xsa_BadLot, ga := h_xga_BadLot, gg := h_xgg_BadLot, kC := h_xk_BadLot, exC := h_xe_BadLot, tyC := h_xty_BadLot, hdC := h_xh_BadLot, init := h_xin_BadLot, tyI := h_xti_BadLot, noN := h_xnb_BadLot, fn := ⟨oc_BadLot, od_BadLot, osl_BadLot, _, _, _, kV_BadLot, doc_BadLot, pm_BadLot, an_BadLot, cdv_BadLot, ct_BadLot, _, _, _, _, hfd_BadLot, lk_BadLot, hcd_BadLot, (fun p q => (congrArg (fun fd => bindArgs fd ⟨[p, q], []⟩) hfd_BadLot).trans rfl), rfl, rfl, rfl, rfl⟩ }, mg_BadLot := PySem.W.mg_of X G h_aC_BadLot, nsn_NoLot := h_aC_NoLot, xc_NoLot := { cls := excB_ok h_xL_NoLot, sa := h_xsa_NoLot, ga := h_xga_NoLot, gg := h_xgg_NoLot, kC := h_xk_NoLot, exC := h_xe_NoLot, tyC := h_xty_NoLot, hdC := h_xh_NoLot, init := h_xin_NoLot, tyI := h_xti_NoLot, noN := h_xnb_NoLot, fn := ⟨oc_NoLot, od_NoLot, osl_NoLot, _, _, _, kV_NoLot, doc_NoLot, pm_NoLot, an_NoLot, cdv_NoLot, ct_NoLot, _, _, _, _, hfd_NoLot, lk_NoLot, hcd_NoLot, (fun p q => (congrArg (fun fd => bindArgs fd ⟨[p, q], []⟩) hfd_NoLot).trans rfl), rfl, rfl, rfl, rfl⟩ }, mg_NoLot := PySem.W.mg_of X G h_aC_NoLot, nsn_BadNumber := h_aC_BadNumber, xc_BadNumber := { cls := excB_ok h_xL_BadNumber, sa := h_xsa_BadNumber, ga := h_xga_BadNumber, gg := h_xgg_BadNumber, kC := h_xk_BadNumber, exC := h_xe_BadNumber, tyC := h_xty_BadNumber, hdC := h_xh_BadNumber, init := h_xin_BadNumber, tyI := h_xti_BadNumber, noN := h_xnb_BadNumber, fn := ⟨oc_BadNumber, od_BadNumber, osl_BadNumber, _, _, _, kV_BadNumber, doc_BadNumber, pm_BadNumber, an_BadNumber, cdv_BadNumber, ct_BadNumber, _, _, _, _, hfd_BadNumber, lk_BadNumber, hcd_BadNumber, (fun p q => (congrArg (fun fd => bindArgs fd ⟨[p, q], []⟩) hfd_BadNumber).trans rfl), rfl, rfl, rfl, rfl⟩ }, mg_BadNumber := PySem.W.mg_of X G h_aC_BadNumber, nsn_BadValues := h_aC_BadValues, xc_BadValues := { cls := excB_ok h_xL_BadValues, sa := h_xsa_BadValues, ga := h_xga_BadValues, gg := h_xgg_BadValues, kC := h_xk_BadValues, exC := h_xe_BadValues, tyC := h_xty_BadValues, hdC := h_xh_BadValues, init := h_xin_BadValues, tyI := h_xti_BadValues, noN := h_xnb_BadValues, fn := ⟨oc_BadValues, od_BadValues, osl_BadValues, _, _, _, kV_BadValues, doc_BadValues, pm_BadValues, an_BadValues, cdv_BadValues, ct_BadValues, _, _, _, _, hfd_BadValues, lk_BadValues, hcd_BadValues, (fun p q => (congrArg (fun fd => bindArgs fd ⟨[p, q], []⟩) hfd_BadValues).trans rfl), rfl, rfl, rfl, rfl⟩ }, mg_BadValues := PySem.W.mg_of X G h_aC_BadValues, nsn_NotTold := h_aC_NotTold, xc_NotTold := { cls := excB_ok h_xL_NotTold, sa := h_xsa_NotTold, ga := h_xga_NotTold, gg := h_xgg_NotTold, kC := h_xk_NotTold, exC := h_xe_NotTold, tyC := h_xty_NotTold, hdC := h_xh_NotTold, init := h_xin_NotTold, tyI := h_xti_NotTold, noN := h_xnb_NotTold, fn := ⟨oc_NotTold, od_NotTold, osl_NotTold, _, _, _, kV_NotTold, doc_NotTold, pm_NotTold, an_NotTold, cdv_NotTold, ct_NotTold, _, _, _, _, hfd_NotTold, lk_NotTold, hcd_NotTold, (fun p q => (congrArg (fun fd => bindArgs fd ⟨[p, q], []⟩) hfd_NotTold).trans rfl), rfl, rfl, rfl, rfl⟩ }, mg_NotTold := PySem.W.mg_of X G h_aC_NotTold, nsn_Rings := h_aC_Rings, xc_Rings := { cls := excB_ok h_xL_Rings, sa := h_xsa_Rings, ga := h_xga_Rings, gg := h_xgg_Rings, kC := h_xk_Rings, exC := h_xe_Rings, tyC := h_xty_Rings, hdC := h_xh_Rings, init := h_xin_Rings, tyI := h_xti_Rings, noN := h_xnb_Rings, fn := ⟨oc_Rings, od_Rings, osl_Rings, _, _, _, kV_Rings, doc_Rings, pm_Rings, an_Rings, cdv_Rings, ct_Rings, _, _, _, _, hfd_Rings, lk_Rings, hcd_Rings, (fun p q => (congrArg (fun fd => bindArgs fd ⟨[p, q], []⟩) hfd_Rings).trans rfl), rfl, rfl, rfl, rfl⟩ }, mg_Rings := PySem.W.mg_of X G h_aC_Rings, nsn_BadCosts := h_aC_BadCosts, xc_BadCosts := { cls := excB_ok h_xL_BadCosts, sa := h_xsa_BadCosts, ga := h_xga_BadCosts, gg := h_xgg_BadCosts, kC := h_xk_BadCosts, exC := h_xe_BadCosts, tyC := h_xty_BadCosts, hdC := h_xh_BadCosts, init := h_xin_BadCosts, tyI := h_xti_BadCosts, noN := h_xnb_BadCosts, fn := ⟨oc_BadCosts, od_BadCosts, osl_BadCosts, _, _, _, kV_BadCosts, doc_BadCosts, pm_BadCosts, an_BadCosts, cdv_BadCosts, ct_BadCosts, _, _, _, _, hfd_BadCosts, lk_BadCosts, hcd_BadCosts, (fun p q => (congrArg (fun fd => bindArgs fd ⟨[p, q], []⟩) hfd_BadCosts).trans rfl), rfl, rfl, rfl, rfl⟩ }, mg_BadCosts := PySem.W.mg_of X G h_aC_BadCosts, nsn_BadLevels := h_aC_BadLevels, xc_BadLevels := { cls := excB_ok h_xL_BadLevels, sa := h_xsa_BadLevels, ga := h_xga_BadLevels, gg := h_xgg_BadLevels, kC := h_xk_BadLevels, exC := h_xe_BadLevels, tyC := h_xty_BadLevels, hdC := h_xh_BadLevels, init := h_xin_BadLevels, tyI := h_xti_BadLevels, noN := h_xnb_BadLevels, fn := ⟨oc_BadLevels, od_BadLevels, osl_BadLevels, _, _, _, kV_BadLevels, doc_BadLevels, pm_BadLevels, an_BadLevels, cdv_BadLevels, ct_BadLevels, _, _, _, _, hfd_BadLevels, lk_BadLevels, hcd_BadLevels, (fun p q => (congrArg (fun fd => bindArgs fd ⟨[p, q], []⟩) hfd_BadLevels).trans rfl), rfl, rfl, rfl, rfl⟩ }, mg_BadLevels := PySem.W.mg_of X G h_aC_BadLevels, nsn_TooMany := h_aC_TooMany, xc_TooMany := { cls := excB_ok h_xL_TooMany, sa := h_xsa_TooMany, ga := h_xga_TooMany, gg := h_xgg_TooMany, kC := h_xk_TooMany, exC := h_xe_TooMany, tyC := h_xty_TooMany, hdC := h_xh_TooMany, init := h_xin_TooMany, tyI := h_xti_TooMany, noN := h_xnb_TooMany, fn := ⟨oc_TooMany, od_TooMany, osl_TooMany, _, _, _, kV_TooMany, doc_TooMany, pm_TooMany, an_TooMany, cdv_TooMany, ct_TooMany, _, _, _, _, hfd_TooMany, lk_TooMany, hcd_TooMany, (fun p q => (congrArg (fun fd => bindArgs fd ⟨[p, q], []⟩) hfd_TooMany).trans rfl), rfl, rfl, rfl, rfl⟩ }, mg_TooMany := PySem.W.mg_of X G h_aC_TooMany, nsn_BadChange := h_aC_BadChange, xc_BadChange := { cls := excB_ok h_xL_BadChange, sa := h_xsa_BadChange, ga := h_xga_BadChange, gg := h_xgg_BadChange, kC := h_xk_BadChange, exC := h_xe_BadChange, tyC := h_xty_BadChange, hdC := h_xh_BadChange, init := h_xin_BadChange, tyI := h_xti_BadChange, noN := h_xnb_BadChange, fn := ⟨oc_BadChange, od_BadChange, osl_BadChange, _, _, _, kV_BadChange, doc_BadChange, pm_BadChange, an_BadChange, cdv_BadChange, ct_BadChange, _, _, _, _, hfd_BadChange, lk_BadChange, hcd_BadChange, (fun p q => (congrArg (fun fd => bindArgs fd ⟨[p, q], []⟩) hfd_BadChange).trans rfl), rfl, rfl, rfl, rfl⟩ }, mg_BadChange := PySem.W.mg_of X G h_aC_BadChange, nsn_BadText := h_aC_BadText, xc_BadText := { cls := excB_ok h_xL_BadText, sa := h_xsa_BadText, ga := h_xga_BadText, gg := h_xgg_BadText, kC := h_xk_BadText, exC := h_xe_BadText, tyC := h_xty_BadText, hdC := h_xh_BadText, init := h_xin_BadText, tyI := h_xti_BadText, noN := h_xnb_BadText, fn := ⟨oc_BadText, od_BadText, osl_BadText, _, _, _, kV_BadText, doc_BadText, pm_BadText, an_BadText, cdv_BadText, ct_BadText, _, _, _, _, hfd_BadText, lk_BadText, hcd_BadText, (fun p q => (congrArg (fun fd => bindArgs fd ⟨[p, q], []⟩) hfd_BadText).trans rfl), rfl, rfl, rfl, rfl⟩ }, mg_BadText := PySem.W.mg_of X G h_aC_BadText, nsn_BadName := h_aC_BadName, xc_BadName := { cls := excB_ok h_xL_BadName, sa := h_xsa_BadName, ga := h_xga_BadName, gg := h_xgg_BadName, kC := h_xk_BadName, exC := h_xe_BadName, tyC := h_xty_BadName, hdC := h_xh_BadName, init := h_xin_BadName, tyI := h_xti_BadName, noN := h_xnb_BadName, fn := ⟨oc_BadName, od_BadName, osl_BadName, _, _, _, kV_BadName, doc_BadName, pm_BadName, an_BadName, cdv_BadName, ct_BadName, _, _, _, _, hfd_BadName, lk_BadName, hcd_BadName, (fun p q => (congrArg (fun fd => bindArgs fd ⟨[p, q], []⟩) hfd_BadName).trans rfl), rfl, rfl, rfl, rfl⟩ }, mg_BadName := PySem.W.mg_of X G h_aC_BadName, nsn_NameTaken := h_aC_NameTaken, xc_NameTaken := { cls := excB_ok h_xL_NameTaken, sa := h_xsa_NameTaken, ga := h_xga_NameTaken, gg := h_xgg_NameTaken, kC := h_xk_NameTaken, exC := h_xe_NameTaken, tyC := h_xty_NameTaken, hdC := h_xh_NameTaken, init := h_xin_NameTaken, tyI := h_xti_NameTaken, noN := h_xnb_NameTaken, fn := ⟨oc_NameTaken, od_NameTaken, osl_NameTaken, _, _, _, kV_NameTaken, doc_NameTaken, pm_NameTaken, an_NameTaken, cdv_NameTaken, ct_NameTaken, _, _, _, _, hfd_NameTaken, lk_NameTaken, hcd_NameTaken, (fun p q => (congrArg (fun fd => bindArgs fd ⟨[p, q], []⟩) hfd_NameTaken).trans rfl), rfl, rfl, rfl, rfl⟩ }, mg_NameTaken := PySem.W.mg_of X G h_aC_NameTaken, nsn_UnknownName := h_aC_UnknownName, xc_UnknownName := { cls := excB_ok h_xL_UnknownName, sa := h_xsa_UnknownName, ga := h_xga_UnknownName, gg := h_xgg_UnknownName, kC := h_xk_UnknownName, exC := h_xe_UnknownName, tyC := h_xty_UnknownName, hdC := h_xh_UnknownName, init := h_xin_UnknownName, tyI := h_xti_UnknownName, noN := h_xnb_UnknownName, fn := ⟨oc_UnknownName, od_UnknownName, osl_UnknownName, _, _, _, kV_UnknownName, doc_UnknownName, pm_UnknownName, an_UnknownName, cdv_UnknownName, ct_UnknownName, _, _, _, _, hfd_UnknownName, lk_UnknownName, hcd_UnknownName, (fun p q => (congrArg (fun fd => bindArgs fd ⟨[p, q], []⟩) hfd_UnknownName).trans rfl), rfl, rfl, rfl, rfl⟩ }, mg_UnknownName := PySem.W.mg_of X G h_aC_UnknownName, nsn_FailedDeed := h_aC_FailedDeed, xc_FailedDeed := { cls := excB_ok h_xL_FailedDeed, sa := h_xsa_FailedDeed, ga := h_xga_FailedDeed, gg := h_xgg_FailedDeed, kC := h_xk_FailedDeed, exC := h_xe_FailedDeed, tyC := h_xty_FailedDeed, hdC := h_xh_FailedDeed, init := h_xin_FailedDeed, tyI := h_xti_FailedDeed, noN := h_xnb_FailedDeed, fn := ⟨oc_FailedDeed, od_FailedDeed, osl_FailedDeed, _, _, _, kV_FailedDeed, doc_FailedDeed, pm_FailedDeed, an_FailedDeed, cdv_FailedDeed, ct_FailedDeed, _, _, _, _, hfd_FailedDeed, lk_FailedDeed, hcd_FailedDeed, (fun p q => (congrArg (fun fd => bindArgs fd ⟨[p, q], []⟩) hfd_FailedDeed).trans rfl), rfl, rfl, rfl, rfl⟩ }, mg_FailedDeed := PySem.W.mg_of X G h_aC_FailedDeed, nsn_NothingToUndo := h_aC_NothingToUndo, x0_NothingToUndo := ⟨h_x0e_NothingToUndo, h_x0k_NothingToUndo⟩, mg_NothingToUndo := PySem.W.mg_of X G h_aC_NothingToUndo, nsn_BadCommand := h_aC_BadCommand, xc_BadCommand := { cls := excB_ok h_xL_BadCommand, sa := h_xsa_BadCommand, ga := h_xga_BadCommand, gg := h_xgg_BadCommand, kC := h_xk_BadCommand, exC := h_xe_BadCommand, tyC := h_xty_BadCommand, hdC := h_xh_BadCommand, init := h_xin_BadCommand, tyI := h_xti_BadCommand, noN := h_xnb_BadCommand, fn := ⟨oc_BadCommand, od_BadCommand, osl_BadCommand, _, _, _, kV_BadCommand, doc_BadCommand, pm_BadCommand, an_BadCommand, cdv_BadCommand, ct_BadCommand, _, _, _, _, hfd_BadCommand, lk_BadCommand, hcd_BadCommand, (fun p q => (congrArg (fun fd => bindArgs fd ⟨[p, q], []⟩) hfd_BadCommand).trans rfl), rfl, rfl, rfl, rfl⟩ }, mg_BadCommand := PySem.W.mg_of X G h_aC_BadCommand, isx_BadArgument := isxB_ok h_isx_BadArgument h_aC_BadArgument h_exk h_kgt h_ktk, b_isinstance := PySem.W.mg_none_of X G h_z_isinstance, isx_BadProgram := isxB_ok h_isx_BadProgram h_aC_BadProgram h_exk h_kgt h_ktk, isx_BadPlace := isxB_ok h_isx_BadPlace h_aC_BadPlace h_exk h_kgt h_ktk, isx_BadWay := isxB_ok h_isx_BadWay h_aC_BadWay h_exk h_kgt h_ktk, isx_BadRun := isxB_ok h_isx_BadRun h_aC_BadRun h_exk h_kgt h_ktk, isx_BadCounter := isxB_ok h_isx_BadCounter h_aC_BadCounter h_exk h_kgt h_ktk, isx_BadLot := isxB_ok h_isx_BadLot h_aC_BadLot h_exk h_kgt h_ktk, isx_NoLot := isxB_ok h_isx_NoLot h_aC_NoLot h_exk h_kgt h_ktk, isx_BadNumber := isxB_ok h_isx_BadNumber h_aC_BadNumber h_exk h_kgt h_ktk, isx_BadValues := isxB_ok h_isx_BadValues h_aC_BadValues h_exk h_kgt h_ktk, isx_NotTold := isxB_ok h_isx_NotTold h_aC_NotTold h_exk h_kgt h_ktk, isx_Rings := isxB_ok h_isx_Rings h_aC_Rings h_exk h_kgt h_ktk, isx_BadCosts := isxB_ok h_isx_BadCosts h_aC_BadCosts h_exk h_kgt h_ktk, isx_BadLevels := isxB_ok h_isx_BadLevels h_aC_BadLevels h_exk h_kgt h_ktk, isx_TooMany := isxB_ok h_isx_TooMany h_aC_TooMany h_exk h_kgt h_ktk, isx_BadChange := isxB_ok h_isx_BadChange h_aC_BadChange h_exk h_kgt h_ktk, isx_BadText := isxB_ok h_isx_BadText h_aC_BadText h_exk h_kgt h_ktk, isx_BadName := isxB_ok h_isx_BadName h_aC_BadName h_exk h_kgt h_ktk, isx_NameTaken := isxB_ok h_isx_NameTaken h_aC_NameTaken h_exk h_kgt h_ktk, isx_UnknownName := isxB_ok h_isx_UnknownName h_aC_UnknownName h_exk h_kgt h_ktk, isx_FailedDeed := isxB_ok h_isx_FailedDeed h_aC_FailedDeed h_exk h_kgt h_ktk, isx_NothingToUndo := isxB_ok h_isx_NothingToUndo h_aC_NothingToUndo h_exk h_kgt h_ktk, isx_BadCommand := isxB_ok h_isx_BadCommand h_aC_BadCommand h_exk h_kgt h_ktk, xw_BadArgument := ⟨fun p q => (congrArg (fun fd => bindArgs fd ⟨[p], [("value", q)]⟩) hfd_BadArgument).trans rfl⟩, xw_BadProgram := ⟨fun p q => (congrArg (fun fd => bindArgs fd ⟨[p], [("part", q)]⟩) hfd_BadProgram).trans rfl⟩, xw_BadPlace := ⟨fun p q => (congrArg (fun fd => bindArgs fd ⟨[p], [("value", q)]⟩) hfd_BadPlace).trans rfl⟩, xw_BadWay := ⟨fun p q => (congrArg (fun fd => bindArgs fd ⟨[p], [("value", q)]⟩) hfd_BadWay).trans rfl⟩, xw_BadRun := ⟨fun p q => (congrArg (fun fd => bindArgs fd ⟨[p], [("value", q)]⟩) hfd_BadRun).trans rfl⟩, xw_BadCounter := ⟨fun p q => (congrArg (fun fd => bindArgs fd ⟨[p], [("value", q)]⟩) hfd_BadCounter).trans rfl⟩, xw_BadLot := ⟨fun p q => (congrArg (fun fd => bindArgs fd ⟨[p], [("value", q)]⟩) hfd_BadLot).trans rfl⟩, xw_NoLot := ⟨fun p q => (congrArg (fun fd => bindArgs fd ⟨[p], [("reason", q)]⟩) hfd_NoLot).trans rfl⟩, xw_BadNumber := ⟨fun p q => (congrArg (fun fd => bindArgs fd ⟨[p], [("value", q)]⟩) hfd_BadNumber).trans rfl⟩, xw_BadValues := ⟨fun p q => (congrArg (fun fd => bindArgs fd ⟨[p], [("value", q)]⟩) hfd_BadValues).trans rfl⟩, xw_NotTold := ⟨fun p q => (congrArg (fun fd => bindArgs fd ⟨[p], [("counter", q)]⟩) hfd_NotTold).trans rfl⟩, xw_Rings := ⟨fun p q => (congrArg (fun fd => bindArgs fd ⟨[p], [("ring", q)]⟩) hfd_Rings).trans rfl⟩, xw_BadCosts := ⟨fun p q => (congrArg (fun fd => bindArgs fd ⟨[p], [("value", q)]⟩) hfd_BadCosts).trans rfl⟩, xw_BadLevels := ⟨fun p q => (congrArg (fun fd => bindArgs fd ⟨[p], [("value", q)]⟩) hfd_BadLevels).trans rfl⟩, xw_TooMany := ⟨fun p q => (congrArg (fun fd => bindArgs fd ⟨[p], [("number", q)]⟩) hfd_TooMany).trans rfl⟩, xw_BadChange := ⟨fun p q => (congrArg (fun fd => bindArgs fd ⟨[p], [("value", q)]⟩) hfd_BadChange).trans rfl⟩, xw_BadName := ⟨fun p q => (congrArg (fun fd => bindArgs fd ⟨[p], [("value", q)]⟩) hfd_BadName).trans rfl⟩, xw_NameTaken := ⟨fun p q => (congrArg (fun fd => bindArgs fd ⟨[p], [("name", q)]⟩) hfd_NameTaken).trans rfl⟩, xw_UnknownName := ⟨fun p q => (congrArg (fun fd => bindArgs fd ⟨[p], [("name", q)]⟩) hfd_UnknownName).trans rfl⟩, xw_BadCommand := ⟨fun p q => (congrArg (fun fd => bindArgs fd ⟨[p], [("line", q)]⟩) hfd_BadCommand).trans rfl⟩, ex_BadWay_BadWay := exm_mk h_xe_BadWay h_xic_BadWay h_xty_BadWay h_xs_BadWay_BadWay, ex_CountError_BadWay := exm_mk h_xe_BadWay h_xic_BadWay h_xty_BadWay h_xs_CountError_BadWay, ex_BadRun_BadWay := exm_mk h_xe_BadWay h_xic_BadWay h_xty_BadWay h_xs_BadRun_BadWay, ex_CountError_CountError := exm_mk h_xe_CountError h_xic_CountError h_xty_CountError h_xs_CountError_CountError, ex_BadRun_CountError := exm_mk h_xe_CountError h_xic_CountError h_xty_CountError h_xs_BadRun_CountError, mg_CountError := PySem.W.mg_of X G h_aC_CountError, b_str := PySem.W.mg_none_of X G h_z_str, b_enumerate := PySem.W.mg_none_of X G h_z_enumerate, isx_CountError := isxB_ok h_isx_CountError h_aC_CountError h_exk h_kgt h_ktk, b_min := PySem.W.mg_none_of X G h_z_min, uq := apart_uq (by rw [hT0]; exact hap) }
  exact FnOk.g (ok_law T (math_pool a) (math_end a))
end K42
open PySem PySem.W PySem.Calls PyProof.Rows
set_option maxRecDepth 100000 in
set_option maxHeartbeats 0 in
theorem PySem.Challenge.cw_countededges_k42_classes_of_errors_holds : PySem.Challenge.rw_countededges_k42_classes_of_errors.Holds := by
  w_on; o_law
  refine HandSHeadRun.head_any (r := OpenLaw.row PySem.Challenge.rw_countededges_k42_classes_of_errors) (q := K42.qv) (H := DL.hookT K42.hx K42.fsT) (ob := DL.obT K42.hx K42.fsT) (M := 40000) (loose := K42.names) (d := HandSHeadRun.topDef (OpenLaw.row PySem.Challenge.rw_countededges_k42_classes_of_errors).prog 34) (kwd := []) (DL.obT_eq K42.hx K42.fsT)
    (by kernel_rfl) (fun s => by kernel_rfl) K42.run (by kernel_rfl) (by kernel_rfl) (by kernel_rfl) (by rfl) (by first | assumption | decide +kernel) (by decide +kernel) ⟨rfl, rfl, rfl, rfl, rfl, by decide +kernel⟩ ?hw ?hc
  case hw => w_witness2
  case hc =>
    refine DL.walk_lawT (l := PySem.Challenge.rw_countededges_k42_classes_of_errors) 4 rfl (by kernel_rfl) ⟨rfl, by decide, by decide⟩ ?F
    intro w G0 K mg fa h hK G0X KX c hco hap hfs G hmg0
    have hmg : mg ("law" : PySem.Str) = some (.ref fa) := by
      have e : (HandSHeadRun.topDef (OpenLaw.row PySem.Challenge.rw_countededges_k42_classes_of_errors).prog 34).name = ("law" : PySem.Str) := by kernel_rfl
      rw [← e]
      exact hmg0
    exact K42.facts hK hco hap hfs KX G hmg c
#print axioms PySem.Challenge.cw_countededges_k42_classes_of_errors_holds
