import PyProof.Rows.All
import Wide.All
import OpenK.AllK
import Wide.FinOn
import HandS.Conv
import HandS.Deep
import HandS.DeepEq
import HandS.Defaults
import HandS.Dict
import HandS.DictComp
import HandS.DictEq
import HandS.DictTup
import HandS.EndTab
import HandS.ExcField
import HandS.ExcInit
import HandS.ExcValue
import HandS.FStr
import HandS.ForExc
import HandS.ForMost
import HandS.Gcd
import HandS.Head0
import HandS.Head1
import HandS.Head2
import HandS.Head3
import HandS.HeadEnd
import HandS.HeadHook1
import HandS.HeadHook2
import HandS.HeadHook4
import HandS.HeadWalk
import HandS.IsInst
import HandS.Iter
import HandS.IterVal
import HandS.Lambda
import HandS.NoneIn
import HandS.RaiseMore
import HandS.SetFor
import HandS.SortInts
import HandS.SortKw
import HandS.SortOrd
import HandS.Star
import HandS.Style
import HandS.TryMany
import HandS.TryOnly
import HandS.TupAny
import HandS.TupLen
import HandS.TupMul
import HandS.Wide
import HandS.WordsExc
import HandS.Zip
import KE.DataMinMax
import KE.GoesEnum
import KE.KDictCopyH
import KE.KDictItemsList
import KE.KDictIter
import KE.KDictList
import KE.KDictOf
import KE.KDictPairs
import KE.KDictSum
import KE.KDictWalk
import KE.KExcInit
import KE.KExcMake
import KE.KExcSuper
import KE.KIndexOf
import KE.KMathGC
import KE.KSuper
import KE.KTupSum
import KE.SortData
import PyProof.CallFns
import PyProof.DictWalks
import PyProof.ExcBaseAll.IndexError
import PyProof.ExcBaseAll.OverflowError
import PyProof.ExcBaseAll.ValueError
import PyProof.FactsAll.list_3
import PyProof.FactsAll.tuple_2
import PyProof.ListMulRoad
import PyProof.NeKinds
import PyProof.ReprRoads
import PyProof.SeqI3
import PyProof.WalkInts
import PySem.Challenge.RW_swapsheets_k13_errors_of_lots
set_option Elab.async false
set_option linter.all false
set_option maxRecDepth 100000
set_option maxHeartbeats 0
/-! Sw, part A: plain data, worlds, frames, results: what a def's text is worth on plain data. -/
namespace Sw
open PySem PySem.Spec PyProof.Rows L2

/-- plain data: what a program's values are without the heap; frl: a list that none may change; ref n: the n-th shared list; fn x: the module's def x -/
inductive D where
  | non | bl (b : Bool) | int (i : Int) | str (s : Str)
  | tup (xs : List D) | lst (xs : List D) | frl (xs : List D)
  | dK (kvs : List (Key × D)) | dT (kvs : List (List Key × D))
  | ref (n : Nat)
  | fn (x : Str)
deriving Inhabited

/-- the shared lists -/
abbrev HS := List (List D)
/-- a slot of a frame: nothing yet, a value, an own list (dict) that the frame alone can change -/
inductive Sl where
  | un | val (d : D) | own (xs : List D) | ownK (kvs : List (Key × D)) | ownT (kvs : List (List Key × D))
deriving Inhabited
/-- an exception: the name of its class, what it keeps -/
structure Ex where
  cls : Str
  kept : Option (Str × D)
inductive Res (α : Type) where
  | ok (a : α) (h : HS) | exc (x : Ex) (h : HS) | bad
def Res.bind {α β : Type} (r : Res α) (g : α → HS → Res β) : Res β := match r with
  | .ok a h => g a h
  | .exc x h => .exc x h
  | .bad => .bad
def toRes {α : Type} (o : Option α) (h : HS) : Res α := match o with
  | some a => .ok a h
  | none => .bad
/-- how a statement ends -/
inductive RS where
  | nx (σ : List Sl) (h : HS) | rt (d : D) (h : HS) | bk (σ : List Sl) (h : HS) | ct (σ : List Sl) (h : HS) | exc (x : Ex) (h : HS) | bad
abbrev DE := List Sl → HS → Res D
abbrev DT := List Sl → HS → Res Bool
abbrev DA := List Sl → HS → Res (List D)
abbrev DS := List Sl → HS → RS

/-! ### worlds -/
/-- the tables of code objects: their addresses, the names of the lambdas told in them -/
class Tbs where
  T : List (Addr × Str)
/-- F: the frozen addresses, ρ: those of the shared lists -/
structure Wd where
  F : Addr → Prop
  ρ : List Addr
  H : Hp
def KLst (K : PySem.W.Frag) (a : Addr) (xs : List V) : Prop :=
  ∃ (o : Obj) (its : Array Value) (n : Nat), K.lookup a = some o ∧ o.cls = .type "list" ∧ o.dict = none ∧ o.data = .seq its n ∧ its.size ≤ sizeLine ∧ Vals xs its.toList
def KTup (K : PySem.W.Frag) (a : Addr) (xs : List V) : Prop :=
  ∃ (o : Obj) (its : Array Value) (n : Nat), K.lookup a = some o ∧ o.cls = .type "tuple" ∧ o.data = .seq its n ∧ its.size ≤ sizeLine ∧ Vals xs its.toList
def LstAt (W : Wd) (a : Addr) (xs : List V) : Prop := W.F a ∧ W.H a = some (.lst xs)
def FrlAt (K : PySem.W.Frag) (W : Wd) (a : Addr) (xs : List V) : Prop := (W.F a ∧ Rd W.H a (.lst xs)) ∨ KLst K a xs
/-- what a frozen thing is that can still be locked -/
def fastO : HO → Bool
  | .dK _ => false
  | .dT _ => false
  | .tbl _ => false
  | _ => true
def tblO : HO → Bool
  | .tbl _ => true
  | _ => false
def oddO : HO → Bool
  | .tbl _ => true
  | .ext _ => true
  | _ => false
def dicO : HO → Bool
  | .dK _ => true
  | .dT _ => true
  | _ => false
def TupAt (_K : PySem.W.Frag) (W : Wd) (a : Addr) (xs : List V) : Prop := (W.F a ∧ W.H a = some (.tup xs)) ∨ False
theorem LstAt.sq {K : PySem.W.Frag} {W : Wd} {a : Addr} {xs : List V} (h : LstAt W a xs) : SqL K W.H a xs := .inl (.inl h.2)
theorem FrlAt.sq {K : PySem.W.Frag} {W : Wd} {a : Addr} {xs : List V} (h : FrlAt K W a xs) : SqL K W.H a xs := h.elim (fun z => .inl z.2) .inr
theorem TupAt.sq {K : PySem.W.Frag} {W : Wd} {a : Addr} {xs : List V} (h : TupAt K W a xs) : SqT K W.H a xs := h.elim (fun z => .inl (.inl z.2)) False.elim

section
variable (K : PySem.W.Frag)
mutual
/-- the value v is the data d, in the world W -/
def Rep (W : Wd) : D → V → Prop
  | .non, v => v = .non
  | .bl b, v => v = .bl b
  | .int i, v => v = .int i
  | .str s, v => v = .str s
  | .tup xs, v => ∃ a vs, v = .ref a ∧ TupAt K W a vs ∧ Reps W xs vs
  | .lst xs, v => ∃ a vs, v = .ref a ∧ LstAt W a vs ∧ Reps W xs vs
  | .frl xs, v => ∃ a vs, v = .ref a ∧ FrlAt K W a vs ∧ Reps W xs vs
  | .dK kvs, v => ∃ a ws, v = .ref a ∧ W.F a ∧ Rd W.H a (.dK ws) ∧ RepK W kvs ws
  | .dT kvs, v => ∃ a ws, v = .ref a ∧ W.F a ∧ Rd W.H a (.dT ws) ∧ RepT W kvs ws
  | .ref n, v => ∃ a, W.ρ[n]? = some a ∧ v = .ref a
  | .fn x, v => v = .ref (He.ga K x)
def Reps (W : Wd) : List D → List V → Prop
  | [], vs => vs = []
  | x :: xs, vs => ∃ v r, vs = v :: r ∧ Rep W x v ∧ Reps W xs r
def RepK (W : Wd) : List (Key × D) → List (Key × V) → Prop
  | [], ws => ws = []
  | (k, d) :: r, ws => ∃ v t, ws = (k, v) :: t ∧ Rep W d v ∧ RepK W r t
def RepT (W : Wd) : List (List Key × D) → List (List Key × V) → Prop
  | [], ws => ws = []
  | (k, d) :: r, ws => ∃ v t, ws = (k, v) :: t ∧ Rep W d v ∧ RepT W r t
end
end

/-- what was frozen stays -/
structure LeF (W W' : Wd) : Prop where
  fr : ∀ a, W.F a → W'.F a
  st : ∀ a u, tblO u = false → W.F a → Rd W.H a u → Rd W'.H a u
  sl : ∀ a o, fastO o = true → W.F a → W.H a = some o → W'.H a = some o
  rh : W.ρ <+: W'.ρ
/-- .. and what is neither frozen nor shared is left alone -/
structure Le (W W' : Wd) : Prop extends LeF W W' where
  fo : ∀ a o, W.H a = some o → ¬ W.F a → a ∉ W.ρ → W'.H a = some o ∧ ¬ W'.F a ∧ a ∉ W'.ρ
theorem LeF.refl (W : Wd) : LeF W W := ⟨fun _ h => h, fun _ _ _ _ h => h, fun _ _ _ _ h => h, List.prefix_refl _⟩
theorem LeF.trans {A B C : Wd} (x : LeF A B) (y : LeF B C) : LeF A C := ⟨fun a h => y.fr a (x.fr a h), fun a u q h r => y.st a u q (x.fr a h) (x.st a u q h r), fun a u q h r => y.sl a u q (x.fr a h) (x.sl a u q h r), x.rh.trans y.rh⟩
theorem Le.refl (W : Wd) : Le W W := ⟨.refl W, fun _ _ h1 h2 h3 => ⟨h1, h2, h3⟩⟩
theorem Le.trans {A B C : Wd} (x : Le A B) (y : Le B C) : Le A C := ⟨x.toLeF.trans y.toLeF, fun a o h1 h2 h3 => by
  obtain ⟨b1, b2, b3⟩ := x.fo a o h1 h2 h3
  exact y.fo a o b1 b2 b3⟩

section
variable {K : PySem.W.Frag} {W W' : Wd}
theorem LstAt.mono (l : LeF W W') {a : Addr} {xs : List V} (h : LstAt W a xs) : LstAt W' a xs := ⟨l.fr a h.1, l.sl a _ rfl h.1 h.2⟩
theorem FrlAt.mono (l : LeF W W') {a : Addr} {xs : List V} (h : FrlAt K W a xs) : FrlAt K W' a xs := h.imp (fun ⟨f, r⟩ => ⟨l.fr a f, l.st a _ rfl f r⟩) id
theorem TupAt.mono (l : LeF W W') {a : Addr} {xs : List V} (h : TupAt K W a xs) : TupAt K W' a xs := h.imp (fun ⟨f, r⟩ => ⟨l.fr a f, l.sl a _ rfl f r⟩) id
mutual
theorem Rep.mono (l : LeF W W') : ∀ (d : D) (v : V), Rep K W d v → Rep K W' d v
  | .non, v, h => by simpa [Rep] using h
  | .bl b, v, h => by simpa [Rep] using h
  | .int i, v, h => by simpa [Rep] using h
  | .str s, v, h => by simpa [Rep] using h
  | .tup xs, v, h => by
    rw [Rep] at h ⊢
    obtain ⟨a, vs, e, t, r⟩ := h
    exact ⟨a, vs, e, t.mono l, Reps.mono l xs vs r⟩
  | .lst xs, v, h => by
    rw [Rep] at h ⊢
    obtain ⟨a, vs, e, t, r⟩ := h
    exact ⟨a, vs, e, t.mono l, Reps.mono l xs vs r⟩
  | .frl xs, v, h => by
    rw [Rep] at h ⊢
    obtain ⟨a, vs, e, t, r⟩ := h
    exact ⟨a, vs, e, t.mono l, Reps.mono l xs vs r⟩
  | .dK kvs, v, h => by
    rw [Rep] at h ⊢
    obtain ⟨a, ws, e, f, t, r⟩ := h
    exact ⟨a, ws, e, l.fr a f, l.st a _ rfl f t, RepK.mono l kvs ws r⟩
  | .dT kvs, v, h => by
    rw [Rep] at h ⊢
    obtain ⟨a, ws, e, f, t, r⟩ := h
    exact ⟨a, ws, e, l.fr a f, l.st a _ rfl f t, RepT.mono l kvs ws r⟩
  | .ref n, v, h => by
    rw [Rep] at h ⊢
    obtain ⟨a, e, q⟩ := h
    obtain ⟨t, ht⟩ := l.rh
    refine ⟨a, ?_, q⟩
    rw [← ht]
    exact (List.getElem?_append_left (List.getElem?_eq_some_iff.mp e).1).trans e
  | .fn x, v, h => by simpa [Rep] using h
theorem Reps.mono (l : LeF W W') : ∀ (ds : List D) (vs : List V), Reps K W ds vs → Reps K W' ds vs
  | [], vs, h => by simpa [Reps] using h
  | x :: xs, vs, h => by
    rw [Reps] at h ⊢
    obtain ⟨v, r, e, h1, h2⟩ := h
    exact ⟨v, r, e, Rep.mono l x v h1, Reps.mono l xs r h2⟩
theorem RepK.mono (l : LeF W W') : ∀ (ds : List (Key × D)) (vs : List (Key × V)), RepK K W ds vs → RepK K W' ds vs
  | [], vs, h => by simpa [RepK] using h
  | (k, x) :: xs, vs, h => by
    rw [RepK] at h ⊢
    obtain ⟨v, r, e, h1, h2⟩ := h
    exact ⟨v, r, e, Rep.mono l x v h1, RepK.mono l xs r h2⟩
theorem RepT.mono (l : LeF W W') : ∀ (ds : List (List Key × D)) (vs : List (List Key × V)), RepT K W ds vs → RepT K W' ds vs
  | [], vs, h => by simpa [RepT] using h
  | (k, x) :: xs, vs, h => by
    rw [RepT] at h ⊢
    obtain ⟨v, r, e, h1, h2⟩ := h
    exact ⟨v, r, e, Rep.mono l x v h1, RepT.mono l xs r h2⟩
end
theorem Reps.length : ∀ {ds : List D} {vs : List V}, Reps K W ds vs → ds.length = vs.length
  | [], vs, h => by rw [Reps] at h; subst h; rfl
  | x :: xs, vs, h => by
    rw [Reps] at h
    obtain ⟨v, r, rfl, h1, h2⟩ := h
    simp [Reps.length h2]
theorem Reps.get : ∀ {ds : List D} {vs : List V} {i : Nat} {d : D}, Reps K W ds vs → ds[i]? = some d → ∃ v, vs[i]? = some v ∧ Rep K W d v
  | [], vs, i, d, h, e => by simp at e
  | x :: xs, vs, 0, d, h, e => by
    rw [Reps] at h
    obtain ⟨v, r, rfl, h1, h2⟩ := h
    simp at e; subst e
    exact ⟨v, rfl, h1⟩
  | x :: xs, vs, i + 1, d, h, e => by
    rw [Reps] at h
    obtain ⟨v, r, rfl, h1, h2⟩ := h
    obtain ⟨u, e1, e2⟩ := Reps.get (i := i) h2 (by simpa using e)
    exact ⟨u, by simpa using e1, e2⟩
theorem Reps.append : ∀ {ds es : List D} {vs us : List V}, Reps K W ds vs → Reps K W es us → Reps K W (ds ++ es) (vs ++ us)
  | [], es, vs, us, h, q => by rw [Reps] at h; subst h; exact q
  | x :: xs, es, vs, us, h, q => by
    rw [Reps] at h
    obtain ⟨v, r, rfl, h1, h2⟩ := h
    show Reps K W (x :: (xs ++ es)) _
    rw [Reps]
    exact ⟨v, r ++ us, rfl, h1, Reps.append h2 q⟩
theorem Reps.one {d : D} {v : V} (h : Rep K W d v) : Reps K W [d] [v] := by
  rw [Reps]; exact ⟨v, [], rfl, h, by rw [Reps]⟩
theorem Reps.nil : Reps K W [] [] := by rw [Reps]
theorem Reps.cons {d : D} {v : V} {ds : List D} {vs : List V} (h : Rep K W d v) (t : Reps K W ds vs) : Reps K W (d :: ds) (v :: vs) := by
  rw [Reps]; exact ⟨v, vs, rfl, h, t⟩
theorem Reps.set : ∀ {ds : List D} {vs : List V} (i : Nat) {d : D} {v : V}, Reps K W ds vs → Rep K W d v → Reps K W (ds.set i d) (vs.set i v)
  | [], vs, i, d, v, h, q => by rw [Reps] at h; subst h; simp [Reps]
  | x :: xs, vs, 0, d, v, h, q => by
    rw [Reps] at h
    obtain ⟨v, r, rfl, h1, h2⟩ := h
    exact .cons q h2
  | x :: xs, vs, i + 1, d, v, h, q => by
    rw [Reps] at h
    obtain ⟨v', r, rfl, h1, h2⟩ := h
    exact .cons h1 (Reps.set i h2 q)
theorem Reps.take : ∀ {ds : List D} {vs : List V} (n : Nat), Reps K W ds vs → Reps K W (ds.take n) (vs.take n)
  | _, _, 0, _ => by simp [Reps]
  | [], vs, n + 1, h => by rw [Reps] at h; subst h; simp [Reps]
  | x :: xs, vs, n + 1, h => by
    rw [Reps] at h
    obtain ⟨v, r, rfl, h1, h2⟩ := h
    exact .cons h1 (Reps.take n h2)
theorem Reps.drop : ∀ {ds : List D} {vs : List V} (n : Nat), Reps K W ds vs → Reps K W (ds.drop n) (vs.drop n)
  | _, _, 0, h => h
  | [], vs, n + 1, h => by rw [Reps] at h; subst h; simp [Reps]
  | x :: xs, vs, n + 1, h => by
    rw [Reps] at h
    obtain ⟨v, r, rfl, h1, h2⟩ := h
    exact Reps.drop n h2
theorem Reps.reverse : ∀ {ds : List D} {vs : List V}, Reps K W ds vs → Reps K W ds.reverse vs.reverse
  | [], vs, h => by rw [Reps] at h; subst h; simp [Reps]
  | x :: xs, vs, h => by
    rw [Reps] at h
    obtain ⟨v, r, rfl, h1, h2⟩ := h
    rw [List.reverse_cons, List.reverse_cons]
    exact (Reps.reverse h2).append (.one h1)
end

/-! ### what stands in a world: the shared lists, a frame's slots -/
/-- the table at P, all its code objects bear the name q -/
def TabF (W : Wd) (P : Addr) (q : Str) : Prop :=
  W.F P ∧ ∃ ps : Array Value, W.H P = some (.tbl ps) ∧ TriplesOk ps.toList ∧ ∀ (pos : Pos) (cv : Value), codeAmong pos ps.toList = some cv → ∃ c, cv = .ref c ∧ W.F c ∧ W.H c = some (LamX.CodeO c q)
theorem tab_step {W W' : Wd} {T : List (Addr × Str)} (t : ∀ p ∈ T, TabF W p.1 p.2) (fr : ∀ a, W.F a → W'.F a) (e : ∀ b o, W.F b → dicO o = false → W.H b = some o → W'.H b = some o) : ∀ p ∈ T, TabF W' p.1 p.2 := fun p hp => by
  obtain ⟨f, ps, h1, h2, h3⟩ := t p hp
  refine ⟨fr _ f, ps, e _ _ f rfl h1, h2, fun pos cv hc => ?_⟩
  obtain ⟨c, e1, e2, e3⟩ := h3 pos cv hc
  exact ⟨c, e1, fr _ e2, e _ _ e2 rfl e3⟩
structure RH [Tbs] (K : PySem.W.Frag) (W : Wd) (h : HS) : Prop where
  len : W.ρ.length = h.length
  nd : W.ρ.Nodup
  at_ : ∀ (n : Nat) (xs : List D) (a : Addr), h[n]? = some xs → W.ρ[n]? = some a → ∃ vs, W.H a = some (.lst vs) ∧ Reps K W xs vs
  nf : ∀ a ∈ W.ρ, ¬ W.F a
  up : ∀ a, W.F a → W.H a ≠ none
  tf : ∀ a xs, W.H a = some (.tup xs) → W.F a
  tb : ∀ p ∈ Tbs.T, TabF W p.1 p.2
  tn : ∀ a ps, W.H a = some (.tbl ps) → ∃ q, (a, q) ∈ Tbs.T
  cf : ∀ a φ, W.H a = some (.ext φ) → W.F a
/-- an address of the frame's own -/
structure OwnA (W0 W : Wd) (a : Addr) : Prop where
  nf : ¬ W.F a
  nr : a ∉ W.ρ
  new : W0.H a = none
/-- what slot i holds -/
def SlAt (K : PySem.W.Frag) (W0 W : Wd) : Sl → Option (Option V) → Prop
  | .un, _ => True
  | .val d, o => ∃ v, o = some (some v) ∧ Rep K W d v
  | .own xs, o => ∃ a vs, o = some (some (.ref a)) ∧ W.H a = some (.lst vs) ∧ Reps K W xs vs ∧ OwnA W0 W a
  | .ownK kvs, o => ∃ a ws, o = some (some (.ref a)) ∧ W.H a = some (.dK ws) ∧ RepK K W kvs ws ∧ OwnA W0 W a
  | .ownT kvs, o => ∃ a ws, o = some (some (.ref a)) ∧ W.H a = some (.dT ws) ∧ RepT K W kvs ws ∧ OwnA W0 W a
def Sl.isOwn : Sl → Bool
  | .own _ => true
  | .ownK _ => true
  | .ownT _ => true
  | _ => false
structure Frm (K : PySem.W.Frag) (W0 W : Wd) (τ : List Sl) (σ : L2.St) : Prop where
  len : τ.length = σ.length
  at_ : ∀ (i : Nat) (x : Sl), τ[i]? = some x → SlAt K W0 W x σ[i]?
  dis : ∀ (i j : Nat) (x y : Sl) (a : Addr), i ≠ j → τ[i]? = some x → τ[j]? = some y → x.isOwn = true → y.isOwn = true → σ[i]? = some (some (.ref a)) → σ[j]? ≠ some (some (.ref a))
theorem SlAt.mono {K : PySem.W.Frag} {W0 W W' : Wd} (l : Le W W') : ∀ {x : Sl} {o : Option (Option V)}, SlAt K W0 W x o → SlAt K W0 W' x o
  | .un, _, _ => trivial
  | .val d, o, ⟨v, e, r⟩ => ⟨v, e, r.mono l.toLeF⟩
  | .own xs, o, ⟨a, vs, e, h, r, w⟩ => by
    obtain ⟨b1, b2, b3⟩ := l.fo a _ h w.nf w.nr
    exact ⟨a, vs, e, b1, r.mono l.toLeF, b2, b3, w.new⟩
  | .ownK xs, o, ⟨a, vs, e, h, r, w⟩ => by
    obtain ⟨b1, b2, b3⟩ := l.fo a _ h w.nf w.nr
    exact ⟨a, vs, e, b1, r.mono l.toLeF, b2, b3, w.new⟩
  | .ownT xs, o, ⟨a, vs, e, h, r, w⟩ => by
    obtain ⟨b1, b2, b3⟩ := l.fo a _ h w.nf w.nr
    exact ⟨a, vs, e, b1, r.mono l.toLeF, b2, b3, w.new⟩
theorem Frm.mono {K : PySem.W.Frag} {W0 W W' : Wd} {τ : List Sl} {σ : L2.St} (l : Le W W') (f : Frm K W0 W τ σ) : Frm K W0 W' τ σ := ⟨f.len, fun i x e => (f.at_ i x e).mono l, f.dis⟩

/-! ### results against wishes -/
/-- how an exception lies -/
def ExR (K : PySem.W.Frag) (mg : Str → Option Value) (W : Wd) (x : Ex) (c : Value) (dd : Option Addr) : Prop :=
  mg x.cls = some c ∧ match x.kept with
    | none => dd = none
    | some (f, d) => ∃ (v : V) (a : Addr), dd = some a ∧ W.H a = some (.xd [(f, v)]) ∧ Rep K W d v
def okG [Tbs] (K : PySem.W.Frag) (mg : Str → Option Value) {α β : Type} (Rel : Wd → α → β → Prop) (W : Wd) (E : XK) (Q : β → Hp → Prop) : Res α → Prop
  | .ok a h => ∀ W' b, Le W W' → RH K W' h → Rel W' a b → Q b W'.H
  | .exc x h => ∀ W' c dd, Le W W' → RH K W' h → ExR K mg W' x c dd → E c dd W'.H
  | .bad => False
section
variable {K : PySem.W.Frag} {mg : Str → Option Value} {α β γ δ : Type} {Rel : Wd → α → β → Prop} {Rel' : Wd → γ → δ → Prop} {W W' : Wd} {E : XK} {Q : β → Hp → Prop} {Q' : δ → Hp → Prop}
variable [Tbs]
theorem okG.mono {r : Res α} (l : Le W W') (h : okG K mg Rel W E Q r) : okG K mg Rel W' E Q r := by
  cases r with
  | ok a s => exact fun W2 b l2 => h W2 b (l.trans l2)
  | exc x s => exact fun W2 b d l2 => h W2 b d (l.trans l2)
  | bad => exact h
theorem okG.bind {r : Res α} {g : α → HS → Res γ} (h : okG K mg Rel' W E Q' (r.bind g))
    (k : ∀ a s W1 b, Le W W1 → RH K W1 s → Rel W1 a b → okG K mg Rel' W1 E Q' (g a s) → Q b W1.H) : okG K mg Rel W E Q r := by
  cases r with
  | ok a s => exact fun W2 b l2 rh re => k a s W2 b l2 rh re (okG.mono l2 h)
  | exc x s => exact h
  | bad => exact h
end
end Sw

/-! Sw, part B: judgements; expressions. -/
namespace Sw
open PySem PySem.Spec PyProof.Rows L2
variable [Tbs]

/-! ### new objects -/
section
variable {K : PySem.W.Frag} {W W' : Wd} {h : HS}
theorem Rd.ne {H : Hp} {a : Addr} {u : HO} (r : Rd H a u) : H a ≠ none := by
  rcases r with r | ⟨o, r⟩ <;> rw [r] <;> exact fun z => by cases z
theorem RH.there (rh : RH K W h) {a : Addr} (m : a ∈ W.ρ) : W.H a ≠ none := by
  obtain ⟨n, hn, e⟩ := List.getElem_of_mem m
  have e1 : W.ρ[n]? = some a := by rw [List.getElem?_eq_getElem hn, e]
  have hn2 : n < h.length := by rw [← rh.len]; exact hn
  obtain ⟨vs, q, _⟩ := rh.at_ n _ a (List.getElem?_eq_getElem hn2) e1
  rw [q]; exact fun z => by cases z
/-- what is new now was not there ahead -/
theorem Le.old (l : Le W W') (rh : RH K W' h) {a : Addr} (e : W'.H a = none) : W.H a = none := by
  cases q : W.H a with
  | none => rfl
  | some o =>
    exfalso
    by_cases hF : W.F a
    · exact rh.up a (l.fr a hF) e
    · by_cases hr : a ∈ W.ρ
      · exact rh.there (l.rh.subset hr) e
      · have := (l.fo a o q hF hr).1
        rw [e] at this; cases this
abbrev Wd.put (W : Wd) (p : Addr) (o : HO) : Wd := ⟨W.F, W.ρ, upd W.H p o⟩
abbrev Wd.frz (W : Wd) (p : Addr) : Wd := ⟨fun a => W.F a ∨ a = p, W.ρ, W.H⟩
abbrev Wd.share (W : Wd) (p : Addr) : Wd := ⟨W.F, W.ρ ++ [p], W.H⟩
theorem le_put {p : Addr} {o : HO} (n : W.H p = none) : Le W (W.put p o) where
  fr := fun _ h => h
  st := fun a u _ _ r => by
    have : a ≠ p := fun z => Rd.ne r (z ▸ n)
    rcases r with r | ⟨ob, r⟩
    · exact .inl (by rw [← r]; exact upd_ne this)
    · exact .inr ⟨ob, by rw [← r]; exact upd_ne this⟩
  sl := fun a xs _ _ r => by rw [← r]; exact upd_ne (ne_of_none r n)
  rh := List.prefix_refl _
  fo := fun a ob e h1 h2 => ⟨by rw [← e]; exact upd_ne (ne_of_none e n), h1, h2⟩
theorem rh_put {p : Addr} {o : HO} (n : W.H p = none) (rh : RH K W h) (no : ∀ xs, o ≠ .tup xs := by intro xs e; cases e) (no2 : oddO o = false := by rfl) : RH K (W.put p o) h where
  len := rh.len
  nd := rh.nd
  at_ := fun i xs a e1 e2 => by
    obtain ⟨vs, q, r⟩ := rh.at_ i xs a e1 e2
    exact ⟨vs, by rw [← q]; exact upd_ne (ne_of_none q n), Reps.mono (le_put n).toLeF _ _ r⟩
  nf := rh.nf
  up := fun a f => by
    by_cases z : a = p
    · subst z; show upd W.H a o a ≠ none; rw [upd_same]; exact fun z => by cases z
    · show upd W.H p o a ≠ none; rw [upd_ne z]; exact rh.up a f
  tf := fun a xs e => by
    have e : upd W.H p o a = some (.tup xs) := e
    by_cases z : a = p
    · subst z; rw [upd_same] at e; exact (no xs (Option.some.inj e)).elim
    · rw [upd_ne z] at e; exact rh.tf a xs e
  tb := tab_step rh.tb (fun _ f => f) fun b u _ _ e => by rw [← e]; exact upd_ne (ne_of_none e n)
  tn := fun a ps e => by
    have e : upd W.H p o a = some (.tbl ps) := e
    by_cases z : a = p
    · subst z; rw [upd_same] at e; cases e; cases no2
    · rw [upd_ne z] at e; exact rh.tn a ps e
  cf := fun a ps e => by
    have e : upd W.H p o a = some (.ext ps) := e
    by_cases z : a = p
    · subst z; rw [upd_same] at e; cases e; cases no2
    · rw [upd_ne z] at e; exact rh.cf a ps e
theorem lef_frz (W : Wd) (p : Addr) : LeF W (W.frz p) := ⟨fun _ h => .inl h, fun _ _ _ _ r => r, fun _ _ _ _ r => r, List.prefix_refl _⟩
theorem le_frz {p : Addr} (l : Le W W') (n : W.H p = none) : Le W (W'.frz p) where
  toLeF := l.toLeF.trans (lef_frz _ _)
  fo := fun a o e h1 h2 => by
    obtain ⟨b1, b2, b3⟩ := l.fo a o e h1 h2
    exact ⟨b1, fun z => z.elim b2 (ne_of_none e n), b3⟩
theorem rh_frz {p : Addr} (rh : RH K W h) (n : p ∉ W.ρ) (e : W.H p ≠ none) : RH K (W.frz p) h where
  len := rh.len
  nd := rh.nd
  at_ := fun i xs a e1 e2 => by
    obtain ⟨vs, q, r⟩ := rh.at_ i xs a e1 e2
    exact ⟨vs, q, Reps.mono (lef_frz _ _) _ _ r⟩
  nf := fun a m z => z.elim (rh.nf a m) fun q => n (q ▸ m)
  up := fun a f => f.elim (rh.up a) fun q => q ▸ e
  tf := fun a xs e => .inl (rh.tf a xs e)
  tb := tab_step rh.tb (fun _ f => .inl f) fun _ _ _ _ e => e
  tn := rh.tn
  cf := fun a ps e => .inl (rh.cf a ps e)
/-- a new thing, frozen at once -/
theorem rh_putF {p : Addr} {o : HO} (n : W.H p = none) (rh : RH K W h) (no2 : tblO o = false := by rfl) : RH K ((W.put p o).frz p) h where
  len := rh.len
  nd := rh.nd
  at_ := fun i xs a e1 e2 => by
    obtain ⟨vs, q, r⟩ := rh.at_ i xs a e1 e2
    exact ⟨vs, by rw [← q]; exact upd_ne (ne_of_none q n), Reps.mono ((le_put n).toLeF.trans (lef_frz _ _)) _ _ r⟩
  nf := fun a m z => z.elim (rh.nf a m) fun q => rh.there m (q ▸ n)
  up := fun a f => by
    show upd W.H p o a ≠ none
    by_cases z : a = p
    · subst z; rw [upd_same]; exact fun z => by cases z
    · rw [upd_ne z]; exact rh.up a (f.elim id fun q => (z q).elim)
  tf := fun a ys e => by
    have e : upd W.H p o a = some (.tup ys) := e
    by_cases z : a = p
    · exact .inr z
    · rw [upd_ne z] at e; exact .inl (rh.tf a ys e)
  tb := tab_step rh.tb (fun _ f => .inl f) fun b u _ _ e => by rw [← e]; exact upd_ne (ne_of_none e n)
  tn := fun a ps e => by
    have e : upd W.H p o a = some (.tbl ps) := e
    by_cases z : a = p
    · subst z; rw [upd_same] at e; cases e; cases no2
    · rw [upd_ne z] at e; exact rh.tn a ps e
  cf := fun a ps e => by
    have e : upd W.H p o a = some (.ext ps) := e
    by_cases z : a = p
    · exact .inr z
    · rw [upd_ne z] at e; exact .inl (rh.cf a ps e)
theorem rh_tup {p : Addr} {xs : List V} (n : W.H p = none) (rh : RH K W h) : RH K ((W.put p (.tup xs)).frz p) h := rh_putF n rh
theorem lef_share (W : Wd) (p : Addr) : LeF W (W.share p) := ⟨fun _ h => h, fun _ _ _ _ r => r, fun _ _ _ _ r => r, List.prefix_append _ _⟩
theorem le_share {p : Addr} (l : Le W W') (n : W.H p = none) : Le W (W'.share p) where
  toLeF := l.toLeF.trans (lef_share _ _)
  fo := fun a o e h1 h2 => by
    obtain ⟨b1, b2, b3⟩ := l.fo a o e h1 h2
    exact ⟨b1, b2, fun z => (List.mem_append.mp z).elim b3 fun q => ne_of_none e n (by simpa using q)⟩
theorem rh_share {p : Addr} {xs : List D} {vs : List V} (rh : RH K W h) (n : p ∉ W.ρ) (f : ¬ W.F p) (e : W.H p = some (.lst vs)) (r : Reps K W xs vs) : RH K (W.share p) (h ++ [xs]) where
  len := by simp [rh.len]
  nd := by
    rw [List.nodup_append]
    exact ⟨rh.nd, by simp, fun a h1 b h2 q => n (by simp at h2; rw [← h2, ← q]; exact h1)⟩
  at_ := fun i ys a e1 e2 => by
    by_cases z : i < h.length
    · rw [List.getElem?_append_left z] at e1
      rw [List.getElem?_append_left (by rw [rh.len]; exact z)] at e2
      obtain ⟨us, q, r⟩ := rh.at_ i ys a e1 e2
      exact ⟨us, q, Reps.mono (lef_share _ _) _ _ r⟩
    · have h1 := (List.getElem?_eq_some_iff.mp e1).1
      have hi : i = h.length := by simp at h1; omega
      subst hi
      rw [← rh.len] at e2
      have e1' : xs = ys := by simpa using e1
      have e2' : p = a := by simpa using e2
      subst e1'; subst e2'
      exact ⟨vs, e, Reps.mono (lef_share _ _) _ _ r⟩
  nf := fun a m => (List.mem_append.mp m).elim (rh.nf a) fun q => by simp at q; rw [q]; exact f
  up := rh.up
  tf := rh.tf
  tb := tab_step rh.tb (fun _ f => f) fun _ _ _ _ e => e
  tn := rh.tn
  cf := rh.cf
/-- a new list or dict, the frame's own: W is the world ahead -/
def NewR (K : PySem.W.Frag) (W W' : Wd) (d : D) (v : V) : Prop := match d with
  | .lst xs => ∃ a vs, v = .ref a ∧ W'.H a = some (.lst vs) ∧ Reps K W' xs vs ∧ ¬ W'.F a ∧ a ∉ W'.ρ ∧ W.H a = none
  | .dK kvs => ∃ a ws, v = .ref a ∧ W'.H a = some (.dK ws) ∧ RepK K W' kvs ws ∧ ¬ W'.F a ∧ a ∉ W'.ρ ∧ W.H a = none
  | .dT kvs => ∃ a ws, v = .ref a ∧ W'.H a = some (.dT ws) ∧ RepT K W' kvs ws ∧ ¬ W'.F a ∧ a ∉ W'.ρ ∧ W.H a = none
  | _ => False
theorem NewR.freeze {d : D} {v : V} (l : Le W W') (rh : RH K W' h) (n : NewR K W W' d v) : ∃ W2, W2.H = W'.H ∧ Le W W2 ∧ RH K W2 h ∧ Rep K W2 d v := by
  cases d with
  | lst xs =>
    obtain ⟨a, vs, rfl, e, r, f, q, o⟩ := n
    refine ⟨W'.frz a, rfl, le_frz l o, rh_frz rh q (by rw [e]; exact fun z => by cases z), ?_⟩
    rw [Rep]
    exact ⟨a, vs, rfl, ⟨.inr rfl, e⟩, Reps.mono (lef_frz _ _) _ _ r⟩
  | dK kvs =>
    obtain ⟨a, vs, rfl, e, r, f, q, o⟩ := n
    refine ⟨W'.frz a, rfl, le_frz l o, rh_frz rh q (by rw [e]; exact fun z => by cases z), ?_⟩
    rw [Rep]
    exact ⟨a, vs, rfl, .inr rfl, .inl e, RepK.mono (lef_frz _ _) _ _ r⟩
  | dT kvs =>
    obtain ⟨a, vs, rfl, e, r, f, q, o⟩ := n
    refine ⟨W'.frz a, rfl, le_frz l o, rh_frz rh q (by rw [e]; exact fun z => by cases z), ?_⟩
    rw [Rep]
    exact ⟨a, vs, rfl, .inr rfl, .inl e, RepT.mono (lef_frz _ _) _ _ r⟩
  | _ => exact n.elim
/-- a new list laid -/
theorem new_lst {p : Addr} {xs : List D} {vs : List V} (n : W.H p = none) (rh : RH K W h) (r : Reps K W xs vs) : Le W (W.put p (.lst vs)) ∧ RH K (W.put p (.lst vs)) h ∧ NewR K W (W.put p (.lst vs)) (.lst xs) (.ref p) :=
  ⟨le_put n, rh_put n rh, p, vs, rfl, upd_same, Reps.mono (le_put n).toLeF _ _ r, fun f => rh.up p f n, fun m => rh.there m n, n⟩
/-- a new tuple laid -/
theorem new_tup {p : Addr} {xs : List D} {vs : List V} (n : W.H p = none) (rh : RH K W h) (r : Reps K W xs vs) :
    ∃ W2, W2.H = upd W.H p (.tup vs) ∧ Le W W2 ∧ RH K W2 h ∧ Rep K W2 (.tup xs) (.ref p) := by
  refine ⟨(W.put p (.tup vs)).frz p, rfl, le_frz (le_put n) n, rh_tup n rh, ?_⟩
  rw [Rep]
  exact ⟨p, vs, rfl, .inl ⟨.inr rfl, upd_same⟩, Reps.mono ((le_put n).toLeF.trans (lef_frz _ _)) _ _ r⟩

/-- read, not kept: frozen, or an own list of the frame -/
def BorO (K : PySem.W.Frag) (W : Wd) (d : D) (v : V) : Prop := match d with
  | .lst xs => ∃ a vs, v = .ref a ∧ W.H a = some (.lst vs) ∧ Reps K W xs vs ∧ ¬ W.F a ∧ a ∉ W.ρ
  | .dK kvs => ∃ a ws, v = .ref a ∧ W.H a = some (.dK ws) ∧ RepK K W kvs ws ∧ ¬ W.F a ∧ a ∉ W.ρ
  | .dT kvs => ∃ a ws, v = .ref a ∧ W.H a = some (.dT ws) ∧ RepT K W kvs ws ∧ ¬ W.F a ∧ a ∉ W.ρ
  | _ => False
def Bor (K : PySem.W.Frag) (W : Wd) (d : D) (v : V) : Prop := Rep K W d v ∨ BorO K W d v
theorem NewR.bor {W0 : Wd} {d : D} {v : V} (n : NewR K W0 W d v) : Bor K W d v := by
  cases d with
  | lst xs => obtain ⟨a, vs, h1, h2, h3, h4, h5, _⟩ := n; exact .inr ⟨a, vs, h1, h2, h3, h4, h5⟩
  | dK xs => obtain ⟨a, vs, h1, h2, h3, h4, h5, _⟩ := n; exact .inr ⟨a, vs, h1, h2, h3, h4, h5⟩
  | dT xs => obtain ⟨a, vs, h1, h2, h3, h4, h5, _⟩ := n; exact .inr ⟨a, vs, h1, h2, h3, h4, h5⟩
  | _ => exact n.elim
theorem Bor.mono {d : D} {v : V} (l : Le W W') (b : Bor K W d v) : Bor K W' d v := by
  rcases b with b | b
  · exact .inl (b.mono l.toLeF)
  · cases d with
    | lst xs =>
      obtain ⟨a, vs, h1, h2, h3, h4, h5⟩ := b
      obtain ⟨b1, b2, b3⟩ := l.fo a _ h2 h4 h5
      exact .inr ⟨a, vs, h1, b1, h3.mono l.toLeF, b2, b3⟩
    | dK xs =>
      obtain ⟨a, vs, h1, h2, h3, h4, h5⟩ := b
      obtain ⟨b1, b2, b3⟩ := l.fo a _ h2 h4 h5
      exact .inr ⟨a, vs, h1, b1, h3.mono l.toLeF, b2, b3⟩
    | dT xs =>
      obtain ⟨a, vs, h1, h2, h3, h4, h5⟩ := b
      obtain ⟨b1, b2, b3⟩ := l.fo a _ h2 h4 h5
      exact .inr ⟨a, vs, h1, b1, h3.mono l.toLeF, b2, b3⟩
    | _ => exact b.elim
theorem Bor.int {i : Int} {v : V} (b : Bor K W (.int i) v) : v = .int i := b.elim (fun h => by rwa [Rep] at h) fun h => h.elim
theorem Bor.bl {i : Bool} {v : V} (b : Bor K W (.bl i) v) : v = .bl i := b.elim (fun h => by rwa [Rep] at h) fun h => h.elim
theorem Bor.str {i : Str} {v : V} (b : Bor K W (.str i) v) : v = .str i := b.elim (fun h => by rwa [Rep] at h) fun h => h.elim
theorem Bor.non {v : V} (b : Bor K W .non v) : v = .non := b.elim (fun h => by rwa [Rep] at h) fun h => h.elim
theorem Bor.tup {xs : List D} {v : V} (b : Bor K W (.tup xs) v) : ∃ a vs, v = .ref a ∧ SqT K W.H a vs ∧ Reps K W xs vs ∧ Rep K W (.tup xs) v := b.elim (fun h => by
  have h0 := h
  rw [Rep] at h
  obtain ⟨a, vs, e, t, r⟩ := h
  exact ⟨a, vs, e, t.sq, r, h0⟩) fun h => h.elim
theorem Bor.lst {xs : List D} {v : V} (b : Bor K W (.lst xs) v) : ∃ a vs, v = .ref a ∧ W.H a = some (.lst vs) ∧ Reps K W xs vs := b.elim (fun h => by
  rw [Rep] at h
  obtain ⟨a, vs, e, t, r⟩ := h
  exact ⟨a, vs, e, t.2, r⟩) fun ⟨a, vs, e, t, r, _⟩ => ⟨a, vs, e, t, r⟩
theorem Bor.frl {xs : List D} {v : V} (b : Bor K W (.frl xs) v) : ∃ a vs, v = .ref a ∧ SqL K W.H a vs ∧ Reps K W xs vs := b.elim (fun h => by
  rw [Rep] at h
  obtain ⟨a, vs, e, t, r⟩ := h
  exact ⟨a, vs, e, t.sq, r⟩) fun h => h.elim
theorem Bor.dK {xs : List (Key × D)} {v : V} (b : Bor K W (.dK xs) v) : ∃ a ws, v = .ref a ∧ Rd W.H a (.dK ws) ∧ RepK K W xs ws := b.elim (fun h => by
  rw [Rep] at h
  obtain ⟨a, vs, e, _, t, r⟩ := h
  exact ⟨a, vs, e, t, r⟩) fun ⟨a, vs, e, t, r, _⟩ => ⟨a, vs, e, .inl t, r⟩
theorem Bor.dT {xs : List (List Key × D)} {v : V} (b : Bor K W (.dT xs) v) : ∃ a ws, v = .ref a ∧ Rd W.H a (.dT ws) ∧ RepT K W xs ws := b.elim (fun h => by
  rw [Rep] at h
  obtain ⟨a, vs, e, _, t, r⟩ := h
  exact ⟨a, vs, e, t, r⟩) fun ⟨a, vs, e, t, r, _⟩ => ⟨a, vs, e, .inl t, r⟩
end
theorem rep_int {K : PySem.W.Frag} {W : Wd} {i : Int} : Rep K W (.int i) (.int i) := by rw [Rep]
theorem rep_bl {K : PySem.W.Frag} {W : Wd} {i : Bool} : Rep K W (.bl i) (.bl i) := by rw [Rep]
theorem rep_str {K : PySem.W.Frag} {W : Wd} {i : Str} : Rep K W (.str i) (.str i) := by rw [Rep]
theorem rep_non {K : PySem.W.Frag} {W : Wd} : Rep K W .non .non := by rw [Rep]

/-! ### contexts and judgements -/
structure Gx where
  P : Program
  w : World
  K : PySem.W.Frag
  mg : Str → Option Value
  base : Heap
structure Cn where
  g : Gx
  k : Nat
  N : List Str
  sc : Scope
  fn : Str → Bool
  lam : Bool
structure CxOk (C : Cn) (X : Cx) (E : WX) : Prop where
  prog : X.prog = C.g.P
  w : X.w = C.g.w
  K : X.K = C.g.K
  mg : X.mg = C.g.mg
  base : X.base = C.g.base
  names : X.N = C.N
  nd : X.N.Nodup
  scope : X.env.scope = C.sc
  calm : X.calm = true
  room : Room C.k X.A
  takes : Takes X E
  own : PassesOwn (model X.prog X.w) X.A X.env X.xe
  fnk : ∀ x, C.fn x = true → X.fn x = true
  top : (∀ x, C.fn x = true) → X.stack = X.env :: X.outer ∧ X.env.frame = some X.env.locals
  gd : C.lam = true → X.A.guards = some []
  lm : C.lam = true → ∃ c P, X.env.code = .ref c ∧ LamX.TabB X.base X.mg c P ∧ (P, X.env.qual ++ "<lambda>") ∈ Tbs.T ∧ ∀ p ∈ Tbs.T, p.1 = P → p.2 = X.env.qual ++ "<lambda>"
/-- the judgement: t is a reading of the syntax that J says, and f tells what it is worth -/
def DenG (C : Cn) {α β : Type} (J : Cx → (L2.St → Hp → (β → Hp → Prop) → Prop) → Prop) (Rel : Wd → Wd → α → β → Prop) (f : List Sl → HS → Res α) : Prop :=
  ∀ X E, CxOk C X E → ∃ t, J X t ∧ ∀ W0 W τ σ h (Q : β → Hp → Prop), Le W0 W → Frm C.g.K W0 W τ σ → RH C.g.K W h →
    okG C.g.K C.g.mg (Rel W) W (fun c dd H => E c dd σ H) Q (f τ h) → t σ W.H Q
abbrev DenE (C : Cn) (e : Expr) (f : DE) : Prop := DenG C (fun X t => PE X e t) (fun _ => Rep C.g.K) f
abbrev DenB (C : Cn) (e : Expr) (f : DE) : Prop := DenG C (fun X t => PE X e t) (fun _ => Bor C.g.K) f
abbrev DenN (C : Cn) (e : Expr) (f : DE) : Prop := DenG C (fun X t => PE X e t) (fun W => NewR C.g.K W) f
abbrev DenT (C : Cn) (e : Expr) (f : DT) : Prop := DenG C (fun X t => PT X e t) (fun _ _ a b => a = b) f
abbrev DenA (C : Cn) (es : List Expr) (f : DA) : Prop := DenG C (fun X t => PA X es t) (fun _ => Reps C.g.K) f
theorem okG.imp {K : PySem.W.Frag} {mg : Str → Option Value} {α β : Type} {Rel Rel' : Wd → α → β → Prop} {W : Wd} {E : XK} {Q : β → Hp → Prop} {r : Res α} (h : okG K mg Rel' W E Q r)
    (k : ∀ W' a b h', Le W W' → RH K W' h' → Rel W' a b → ∃ W2, W2.H = W'.H ∧ Le W W2 ∧ RH K W2 h' ∧ Rel' W2 a b) : okG K mg Rel W E Q r := by
  cases r with
  | ok a s =>
    intro W' b l rh q
    obtain ⟨W2, e, l2, rh2, q2⟩ := k W' a b s l rh q
    rw [← e]
    exact h W2 b l2 rh2 q2
  | exc x s => exact h
  | bad => exact h
section
variable {C : Cn} {e : Expr} {f : DE}
theorem DenE.b (h : DenE C e f) : DenB C e f := fun X E ok => by
  obtain ⟨t, ht, q⟩ := h X E ok
  exact ⟨t, ht, fun W0 W τ σ s Q l fr rh o => q W0 W τ σ s Q l fr rh (o.imp fun W' a b _ l' rh' z => ⟨W', rfl, l', rh', .inl z⟩)⟩
theorem DenN.toE (h : DenN C e f) : DenE C e f := fun X E ok => by
  obtain ⟨t, ht, q⟩ := h X E ok
  exact ⟨t, ht, fun W0 W τ σ s Q l fr rh o => q W0 W τ σ s Q l fr rh (o.imp fun W' a b _ l' rh' z => z.freeze l' rh')⟩
theorem DenN.b (h : DenN C e f) : DenB C e f := fun X E ok => by
  obtain ⟨t, ht, q⟩ := h X E ok
  exact ⟨t, ht, fun W0 W τ σ s Q l fr rh o => q W0 W τ σ s Q l fr rh (o.imp fun W' a b _ l' rh' z => ⟨W', rfl, l', rh', z.bor⟩)⟩
/-- a new list becomes a shared one -/
def sShare (r : Res D) : Res D := r.bind fun d h => match d with
  | .lst xs => .ok (.ref h.length) (h ++ [xs])
  | _ => .bad
theorem DenN.share (h : DenN C e f) : DenE C e (fun τ s => sShare (f τ s)) := fun X E ok => by
  obtain ⟨t, ht, q⟩ := h X E ok
  refine ⟨t, ht, fun W0 W τ σ s Q l fr rh o => q W0 W τ σ s Q l fr rh ?_⟩
  have o : okG C.g.K C.g.mg (Rep C.g.K) W (fun c dd H => E c dd σ H) Q (sShare (f τ s)) := o
  show okG C.g.K C.g.mg (NewR C.g.K W) W (fun c dd H => E c dd σ H) Q (f τ s)
  revert o
  generalize f τ s = r
  intro o
  cases r with
  | ok d s1 =>
    intro W1 v l1 rh1 n
    cases d with
    | lst xs =>
      obtain ⟨a, vs, rfl, e, r, nf, nr, old⟩ := n
      exact o (W1.share a) (.ref a) (le_share l1 old) (rh_share rh1 nr nf e r) (by
        rw [Rep]
        refine ⟨a, ?_, rfl⟩
        rw [← rh1.len]
        simp)
    | _ => exact (show False from o).elim
  | exc x s1 => exact o
  | bad => exact o

/-! ### names, constants -/
def getS (τ : List Sl) (i : Nat) (h : HS) : Res D := match τ[i]? with
  | some (.val d) => .ok d h
  | _ => .bad
def getB (τ : List Sl) (i : Nat) (h : HS) : Res D := match τ[i]? with
  | some (.val d) => .ok d h
  | some (.own xs) => .ok (.lst xs) h
  | some (.ownK xs) => .ok (.dK xs) h
  | some (.ownT xs) => .ok (.dT xs) h
  | _ => .bad
/-- the name x stands in slot i -/
def nmB (N : List Str) (sc : Scope) (x : Str) (i : Nat) : Bool :=
  decide (N[i]? = some x) && (match sc.names.lookup x with | some .local => true | some .cell => true | some .free => true | _ => false) && !(x == ("__debug__" : Str)) && !(x == ("__classdict__" : Str))
theorem nmB_ok {N : List Str} {sc : Scope} {x : Str} {i : Nat} (h : nmB N sc x i = true) : N[i]? = some x ∧ Vis sc x ∧ (x == ("__debug__" : Str)) = false ∧ (x == ("__classdict__" : Str)) = false := by
  unfold nmB at h
  simp only [Bool.and_eq_true, decide_eq_true_eq, Bool.not_eq_true'] at h
  obtain ⟨⟨⟨h1, h2⟩, h3⟩, h4⟩ := h
  refine ⟨h1, ?_, h3, h4⟩
  unfold Vis
  cases q : sc.names.lookup x with
  | none => rw [q] at h2; cases h2
  | some k => rw [q] at h2; cases k <;> first | exact .inl rfl | exact .inr (.inl rfl) | exact .inr (.inr rfl) | cases h2
/-- the name x is a global one -/
def glB (sc : Scope) (x : Str) : Bool := (match sc.names.lookup x with | some .globalImplicit => true | _ => false) && !(x == ("__debug__" : Str)) && !(x == ("__name__" : Str))
theorem glB_ok {C : Cn} {X : Cx} {E : WX} (ok : CxOk C X E) {x : Str} (h : glB C.sc x = true) : Gl X x ∧ (x == ("__debug__" : Str)) = false ∧ x ≠ "__name__" := by
  unfold glB at h
  simp only [Bool.and_eq_true, Bool.not_eq_true', beq_eq_false_iff_ne] at h
  obtain ⟨⟨h1, h2⟩, h3⟩ := h
  refine ⟨?_, by simpa using h2, h3⟩
  show X.env.scope.names.lookup x = _
  rw [ok.scope]
  cases q : C.sc.names.lookup x with
  | none => rw [q] at h1; cases h1
  | some k => rw [q] at h1; cases k <;> first | rfl | cases h1
section
variable {C : Cn} {x : Str} {pos : Pos} {i : Nat}
theorem okG.now {K : PySem.W.Frag} {mg : Str → Option Value} {α β : Type} {Rel : Wd → α → β → Prop} {W : Wd} {E : XK} {Q : β → Hp → Prop} {a : α} {b : β} {h : HS} (o : okG K mg Rel W E Q (.ok a h)) (rh : RH K W h) (r : Rel W a b) : Q b W.H := o W b (.refl W) rh r
theorem den_name (hn : nmB C.N C.sc x i = true) : DenE C (.Name x pos) (fun τ h => getS τ i h) := fun X E ok => by
  obtain ⟨h1, h2, h3, h4⟩ := nmB_ok hn
  refine ⟨_, pe_var (i := i) (by rw [ok.names]; exact h1) (by rw [ok.scope]; exact h2) h3 h4, fun W0 W τ σ h Q l fr rh o => ?_⟩
  have o : okG _ _ _ _ _ _ (getS τ i h) := o
  unfold getS at o
  cases q : τ[i]? with
  | none => rw [q] at o; exact o.elim
  | some s =>
    rw [q] at o
    cases s with
    | val d =>
      obtain ⟨v, e, r⟩ := fr.at_ i _ q
      exact ⟨v, e, o.now rh r⟩
    | _ => exact o.elim
theorem den_bname (hn : nmB C.N C.sc x i = true) : DenB C (.Name x pos) (fun τ h => getB τ i h) := fun X E ok => by
  obtain ⟨h1, h2, h3, h4⟩ := nmB_ok hn
  refine ⟨_, pe_var (i := i) (by rw [ok.names]; exact h1) (by rw [ok.scope]; exact h2) h3 h4, fun W0 W τ σ h Q l fr rh o => ?_⟩
  have o : okG _ _ _ _ _ _ (getB τ i h) := o
  unfold getB at o
  cases q : τ[i]? with
  | none => rw [q] at o; exact o.elim
  | some s =>
    rw [q] at o
    cases s with
    | val d =>
      obtain ⟨v, e, r⟩ := fr.at_ i _ q
      exact ⟨v, e, o.now rh (.inl r)⟩
    | own d =>
      obtain ⟨a, v, e, r, rs, w⟩ := fr.at_ i _ q
      exact ⟨_, e, o.now rh (.inr ⟨a, v, rfl, r, rs, w.nf, w.nr⟩)⟩
    | ownK d =>
      obtain ⟨a, v, e, r, rs, w⟩ := fr.at_ i _ q
      exact ⟨_, e, o.now rh (.inr ⟨a, v, rfl, r, rs, w.nf, w.nr⟩)⟩
    | ownT d =>
      obtain ⟨a, v, e, r, rs, w⟩ := fr.at_ i _ q
      exact ⟨_, e, o.now rh (.inr ⟨a, v, rfl, r, rs, w.nf, w.nr⟩)⟩
    | _ => exact o.elim
theorem den_int {n : Int} {j} : DenE C (.Constant (.int n) j pos) (fun _ h => .ok (.int n) h) := fun X E ok => ⟨_, pe_int, fun W0 W τ σ h Q l fr rh o => o.now rh rep_int⟩
theorem den_bl {n : Bool} {j} : DenE C (.Constant (.bool n) j pos) (fun _ h => .ok (.bl n) h) := fun X E ok => ⟨_, pe_bl, fun W0 W τ σ h Q l fr rh o => o.now rh rep_bl⟩
theorem den_str {n : Str} {j} : DenE C (.Constant (.str n) j pos) (fun _ h => .ok (.str n) h) := fun X E ok => ⟨_, pe_str, fun W0 W τ σ h Q l fr rh o => o.now rh rep_str⟩
theorem den_non {j} : DenE C (.Constant .none j pos) (fun _ h => .ok .non h) := fun X E ok => ⟨_, pe_non, fun W0 W τ σ h Q l fr rh o => o.now rh rep_non⟩
/-- the constants of the module -/
def conD (u : Value) : Option D := match u with
  | .none => some .non
  | .bool b => some (.bl b)
  | .int i _ => some (.int i)
  | .str s _ => some (.str s)
  | _ => none
theorem conD_ok {K : PySem.W.Frag} {W : Wd} {u : Value} {d : D} (h : conD u = some d) : ∃ v, RelV v u ∧ Rep K W d v := by
  cases u <;> simp only [conD, Option.some.injEq, reduceCtorEq] at h <;> subst h
  · exact ⟨.non, rfl, rep_non⟩
  · exact ⟨.bl _, rfl, rep_bl⟩
  · exact ⟨.int _, ⟨_, rfl⟩, rep_int⟩
  · exact ⟨.str _, ⟨_, rfl⟩, rep_str⟩
/-- a constant of the module -/
theorem den_con {u : Value} {d : D} (hg : glB C.sc x = true) (hm : C.g.mg x = some u) (hd : conD u = some d) : DenE C (.Name x pos) (fun _ h => .ok d h) := fun X E ok => by
  obtain ⟨g1, g2, g3⟩ := glB_ok ok hg
  obtain ⟨v, r, _⟩ := conD_ok (K := C.g.K) (W := ⟨fun _ => False, [], fun _ => none⟩) hd
  refine ⟨_, pe_glob (v := v) g1 (by rw [ok.mg]; exact hm) r g2, fun W0 W τ σ h Q l fr rh o => ?_⟩
  obtain ⟨v', r', p⟩ := conD_ok (K := C.g.K) (W := W) hd
  obtain rfl : v' = v := r'.inj r
  exact o.now rh p
end

/-! ### operators on two values -/
/-- g: what the operation f makes of two data -/
def OpD (C : Cn) (f : Value → Value → Sem Value) (g : D → D → Option D) : Prop :=
  ∀ X E, CxOk C X E → ∃ r, OpR X f r ∧ ∀ W h x y v u d (Q : VK), RH C.g.K W h → Bor C.g.K W x v → Bor C.g.K W y u → g x y = some d → (∀ W' b, Le W W' → RH C.g.K W' h → Rep C.g.K W' d b → Q b W'.H) → r v u W.H Q
theorem OpD.or {C : Cn} {f : Value → Value → Sem Value} {g g' : D → D → Option D} (h : OpD C f g) (h' : OpD C f g') : OpD C f (fun x y => (g x y).or (g' x y)) := fun X E ok => by
  obtain ⟨r, p, q⟩ := h X E ok
  obtain ⟨r', p', q'⟩ := h' X E ok
  refine ⟨_, p.or p', fun W s x y v u d Q rh b1 b2 e k => ?_⟩
  have e : (g x y).or (g' x y) = some d := e
  cases e1 : g x y with
  | some d' =>
    rw [e1] at e
    cases e
    exact .inl (q W s x y v u _ Q rh b1 b2 e1 k)
  | none =>
    rw [e1] at e
    exact .inr (q' W s x y v u d Q rh b1 b2 e k)
def res2 (g : D → D → Option D) (a b : DE) : DE := fun τ h => (a τ h).bind fun x h1 => (b τ h1).bind fun y h2 => toRes (g x y) h2
section
variable {C : Cn} {a b : Expr} {fa fb : DE} {pos : Pos}
theorem okG.bind2 {α β α' β' : Type} {K : PySem.W.Frag} {mg : Str → Option Value} {Rel : Wd → α → β → Prop} {Rel2 : Wd → α' → β' → Prop} {W : Wd} {E : XK} {Q : β → Hp → Prop} {Q2 : β' → Hp → Prop} {r : Res α} {g : α → HS → Res α'}
    (o : okG K mg Rel2 W E Q2 (r.bind g)) (k : ∀ x h1 W1 v, Le W W1 → RH K W1 h1 → Rel W1 x v → okG K mg Rel2 W1 E Q2 (g x h1) → Q v W1.H) : okG K mg Rel W E Q r := okG.bind o k
theorem toRes_some {α β : Type} {K : PySem.W.Frag} {mg : Str → Option Value} {Rel : Wd → α → β → Prop} {W : Wd} {E : XK} {Q : β → Hp → Prop} {r : Option α} {h : HS} (o : okG K mg Rel W E Q (toRes r h)) : ∃ d, r = some d ∧ ∀ W' b, Le W W' → RH K W' h → Rel W' d b → Q b W'.H := by
  cases r with
  | none => exact o.elim
  | some d => exact ⟨d, rfl, o⟩
theorem den_bin {op : Operator} {g : D → D → Option D} (ho : OpD C (binaryOp op) g) (ha : DenB C a fa) (hb : DenB C b fb) : DenE C (.BinOp a op b pos) (res2 g fa fb) := fun X E ok => by
  obtain ⟨r, hr, qr⟩ := ho X E ok
  obtain ⟨ta, pa, qa⟩ := ha X E ok
  obtain ⟨tb, pb, qb⟩ := hb X E ok
  refine ⟨_, pe_op hr pa pb, fun W0 W τ σ h Q l fr rh o => ?_⟩
  refine qa W0 W τ σ h _ l fr rh (okG.bind o fun x h1 W1 v l1 rh1 b1 o1 => ?_)
  refine qb W0 W1 τ σ h1 _ (l.trans l1) (fr.mono l1) rh1 (okG.bind o1 fun y h2 W2 u l2 rh2 b2 o2 => ?_)
  obtain ⟨d, e, k⟩ := toRes_some o2
  exact qr W2 h2 x y v u d Q rh2 (b1.mono l2) b2 e k
theorem den_cmp {op : CmpOp} {g : D → D → Option D} (ho : OpD C (compareOp op) g) (ha : DenB C a fa) (hb : DenB C b fb) (hm : behindInMarks op b = false) : DenE C (.Compare a [op] [b] pos) (res2 g fa fb) := fun X E ok => by
  obtain ⟨r, hr, qr⟩ := ho X E ok
  obtain ⟨ta, pa, qa⟩ := ha X E ok
  obtain ⟨tb, pb, qb⟩ := hb X E ok
  refine ⟨_, pe_cmpR hr pa pb hm, fun W0 W τ σ h Q l fr rh o => ?_⟩
  refine qa W0 W τ σ h _ l fr rh (okG.bind o fun x h1 W1 v l1 rh1 b1 o1 => ?_)
  refine qb W0 W1 τ σ h1 _ (l.trans l1) (fr.mono l1) rh1 (okG.bind o1 fun y h2 W2 u l2 rh2 b2 o2 => ?_)
  obtain ⟨d, e, k⟩ := toRes_some o2
  exact qr W2 h2 x y v u d Q rh2 (b1.mono l2) b2 e k
end
end
end Sw

/-! Sw, part C: operators on plain data. -/
namespace Sw
open PySem PySem.Spec PyProof.Rows L2
variable [Tbs]

/-! ### ints -/
def intD (c : Int → Int → Bool) (g : Int → Int → D) : D → D → Option D
  | .int i, .int j => if c i j then some (g i j) else none
  | _, _ => none
def Dv : D → Option V
  | .non => some .non | .bl b => some (.bl b) | .int i => some (.int i) | .str s => some (.str s) | _ => none
theorem Dv_rep {K : PySem.W.Frag} {W : Wd} {d : D} {v : V} (h : Dv d = some v) : Rep K W d v := by
  cases d <;> simp only [Dv, Option.some.injEq, reduceCtorEq] at h <;> subst h <;> rw [Rep]
theorem opd_int {C : Cn} {f : Value → Value → Sem Value} {c : Int → Int → Bool} {g : Int → Int → D} {CC : Int → Int → Prop} {gv : Int → Int → V} (hr : ∀ X : Cx, OpR X f (rI CC gv)) (hc : ∀ i j, c i j = true → CC i j) (hg : ∀ i j, c i j = true → Dv (g i j) = some (gv i j)) : OpD C f (intD c g) := fun X E ok =>
  ⟨_, hr X, fun W h x y v u d Q rh b1 b2 e k => by
    cases x <;> first | (cases e; done) | skip
    cases y <;> first | (cases e; done) | skip
    rename_i i j
    simp only [intD] at e
    split at e
    · rename_i hc'
      cases e
      obtain rfl := b1.int
      obtain rfl := b2.int
      exact ⟨i, j, rfl, rfl, hc _ _ hc', k W _ (.refl W) rh (Dv_rep (hg _ _ hc'))⟩
    · cases e⟩
theorem opd_int0 {C : Cn} {f : Value → Value → Sem Value} {g : Int → Int → D} {gv : Int → Int → V} (hr : ∀ X : Cx, OpR X f (rI0 gv)) (hg : ∀ i j, Dv (g i j) = some (gv i j)) : OpD C f (intD (fun _ _ => true) g) := fun X E ok =>
  ⟨_, hr X, fun W h x y v u d Q rh b1 b2 e k => by
    cases x <;> first | (cases e; done) | skip
    cases y <;> first | (cases e; done) | skip
    rename_i i j
    simp only [intD, if_true] at e
    cases e
    obtain rfl := b1.int
    obtain rfl := b2.int
    exact ⟨i, j, rfl, rfl, k W _ (.refl W) rh (Dv_rep (hg _ _))⟩⟩
def mulOk (i j : Int) : Bool := (decide (-(2 ^ 64) < i) && decide (i < 2 ^ 64)) || ((decide (-(2 ^ 64) < j) && decide (j < 2 ^ 64)) || decide (i.natAbs.log2 + j.natAbs.log2 < 1000000))
theorem mulOk_ok {i j : Int} (h : mulOk i j = true) : IntMulOk i j := by
  unfold mulOk at h
  simp only [Bool.or_eq_true, Bool.and_eq_true, decide_eq_true_eq] at h
  rcases h with h | h | h
  · exact CMul.ok (.inl h)
  · exact CMul.ok (.inr h)
  · exact CMulW.ok h
theorem op_mulA {X : Cx} : OpR X (binaryOp .Mult) (rI (fun i j => mulOk i j = true) fun i j => .int (i * j)) := opI fun _ _ _ _ _ _ _ hc q => mul_int q (mulOk_ok hc)
theorem iop_mulA {X : Cx} : OpR X (inplaceOp .Mult) (rI (fun i j => mulOk i j = true) fun i j => .int (i * j)) := opI fun _ _ _ _ _ _ _ hc q => imul_int q (mulOk_ok hc)
def divOk (_ j : Int) : Bool := decide (j ≠ 0) && decide (j.natAbs.log2 < 9000)
theorem op_fdivA {X : Cx} : OpR X (binaryOp .FloorDiv) (rI (fun i j => divOk i j = true) fun i j => .int (i.fdiv j)) := opI fun i j _ _ _ _ _ hc q => by
  unfold divOk at hc
  simp only [Bool.and_eq_true, decide_eq_true_eq] at hc
  exact floordiv_int hc.1 q (.inl (PyProof.noPylong_of_log2 hc.2))
def modOk (_ j : Int) : Bool := decide (j ≠ 0)
def powOk (i j : Int) : Bool := decide (0 ≤ j) && (decide (j ≤ 1000000) && decide (i.natAbs < 2 ^ 64))
section
variable {C : Cn}
def iAdd : D → D → Option D := intD (fun _ _ => true) fun i j => .int (i + j)
def iSub : D → D → Option D := intD (fun _ _ => true) fun i j => .int (i - j)
def iMul : D → D → Option D := intD mulOk fun i j => .int (i * j)
def iDiv : D → D → Option D := intD divOk fun i j => .int (i.fdiv j)
def iMod : D → D → Option D := intD modOk fun i j => .int (i.fmod j)
def iPow : D → D → Option D := intD powOk fun i j => .int (i ^ j.toNat)
def iLt : D → D → Option D := intD (fun _ _ => true) fun i j => .bl (decide (i < j))
def iLe : D → D → Option D := intD (fun _ _ => true) fun i j => .bl (decide (i ≤ j))
def iGt : D → D → Option D := intD (fun _ _ => true) fun i j => .bl (decide (j < i))
def iGe : D → D → Option D := intD (fun _ _ => true) fun i j => .bl (decide (j ≤ i))
theorem o_add : OpD C (binaryOp .Add) iAdd := opd_int0 (fun _ => op_add) fun _ _ => rfl
theorem o_sub : OpD C (binaryOp .Sub) iSub := opd_int0 (fun _ => op_sub) fun _ _ => rfl
theorem o_mul : OpD C (binaryOp .Mult) iMul := opd_int (fun _ => op_mulA) (fun _ _ h => h) fun _ _ _ => rfl
theorem o_div : OpD C (binaryOp .FloorDiv) iDiv := opd_int (fun _ => op_fdivA) (fun _ _ h => h) fun _ _ _ => rfl
theorem o_mod : OpD C (binaryOp .Mod) iMod := opd_int (fun _ => op_modN) (fun _ _ h => of_decide_eq_true h) fun _ _ _ => rfl
theorem o_pow : OpD C (binaryOp .Pow) iPow := opd_int (fun _ => op_pow) (fun _ _ h => by
  unfold powOk at h
  simp only [Bool.and_eq_true, decide_eq_true_eq] at h
  exact h) fun _ _ _ => rfl
theorem o_lt : OpD C (compareOp .Lt) iLt := opd_int0 (fun _ => op_lt) fun _ _ => rfl
theorem o_le : OpD C (compareOp .LtE) iLe := opd_int0 (fun _ => op_le) fun _ _ => rfl
theorem o_gt : OpD C (compareOp .Gt) iGt := opd_int0 (fun _ => op_gt) fun _ _ => rfl
theorem o_ge : OpD C (compareOp .GtE) iGe := opd_int0 (fun _ => op_ge) fun _ _ => rfl
theorem io_add : OpD C (inplaceOp .Add) iAdd := opd_int0 (fun _ => iop_add) fun _ _ => rfl
theorem io_sub : OpD C (inplaceOp .Sub) iSub := opd_int0 (fun _ => iop_sub) fun _ _ => rfl
theorem io_mul : OpD C (inplaceOp .Mult) iMul := opd_int (fun _ => iop_mulA) (fun _ _ h => h) fun _ _ _ => rfl
end

/-! ### sequences -/
def fits (n : Nat) : Bool := decide (n ≤ sizeLine)
def catL : D → D → Option D
  | .lst xs, .lst ys => if fits (xs.length + ys.length) then some (.lst (xs ++ ys)) else none
  | _, _ => none
def catT : D → D → Option D
  | .tup xs, .tup ys => if fits (xs.length + ys.length) then some (.tup (xs ++ ys)) else none
  | _, _ => none
def catS : D → D → Option D
  | .str xs, .str ys => if fits (xs.length + ys.length) then some (.str (xs ++ ys)) else none
  | _, _ => none
/-- two values, a new list out of them -/
def OpN (C : Cn) (f : Value → Value → Sem Value) (g : D → D → Option D) : Prop :=
  ∀ X E, CxOk C X E → ∃ r, OpR X f r ∧ ∀ W0 W h x y v u d (Q : VK), Le W0 W → RH C.g.K W h → Bor C.g.K W x v → Bor C.g.K W y u → g x y = some d → (∀ W' b, Le W W' → RH C.g.K W' h → NewR C.g.K W0 W' d b → Q b W'.H) → r v u W.H Q
theorem NewR.of {K : PySem.W.Frag} {W0 W W' : Wd} {h : HS} {d : D} {v : V} (l : Le W0 W) (rh : RH K W h) (n : NewR K W W' d v) : NewR K W0 W' d v := by
  cases d with
  | lst xs => obtain ⟨a, vs, h1, h2, h3, h4, h5, h6⟩ := n; exact ⟨a, vs, h1, h2, h3, h4, h5, l.old rh h6⟩
  | dK xs => obtain ⟨a, vs, h1, h2, h3, h4, h5, h6⟩ := n; exact ⟨a, vs, h1, h2, h3, h4, h5, l.old rh h6⟩
  | dT xs => obtain ⟨a, vs, h1, h2, h3, h4, h5, h6⟩ := n; exact ⟨a, vs, h1, h2, h3, h4, h5, l.old rh h6⟩
  | _ => exact n.elim
theorem OpN.d {C : Cn} {f : Value → Value → Sem Value} {g : D → D → Option D} (h : OpN C f g) : OpD C f g := fun X E ok => by
  obtain ⟨r, hr, q⟩ := h X E ok
  refine ⟨r, hr, fun W s x y v u d Q rh b1 b2 e k => q W W s x y v u d Q (.refl W) rh b1 b2 e fun W' b l rh' n => ?_⟩
  obtain ⟨W2, e2, l2, rh2, r2⟩ := n.freeze l rh'
  rw [← e2]
  exact k W2 b l2 rh2 r2
section
variable {C : Cn}
theorem on_catL : OpN C (binaryOp .Add) catL := fun X E ok =>
  ⟨_, op_cat, fun W0 W h x y v u d Q l0 rh b1 b2 e k => by
    cases x <;> first | (cases e; done) | skip
    cases y <;> first | (cases e; done) | skip
    rename_i xs ys
    simp only [catL] at e
    split at e
    · rename_i hz
      cases e
      obtain ⟨a, vs, rfl, e1, r1⟩ := b1.lst
      obtain ⟨b, us, rfl, e2, r2⟩ := b2.lst
      refine ⟨a, b, vs, us, rfl, rfl, e1, e2, by rw [← r1.length, ← r2.length]; exact of_decide_eq_true hz, fun p np => ?_⟩
      obtain ⟨l, rh', n⟩ := new_lst np rh (r1.append r2)
      exact k _ _ l rh' (n.of l0 rh)
    · cases e⟩
theorem o_catL : OpD C (binaryOp .Add) catL := on_catL.d
theorem o_catT : OpD C (binaryOp .Add) catT := fun X E ok =>
  ⟨_, op_catA, fun W h x y v u d Q rh b1 b2 e k => by
    cases x <;> first | (cases e; done) | skip
    cases y <;> first | (cases e; done) | skip
    rename_i xs ys
    simp only [catT] at e
    split at e
    · rename_i hz
      cases e
      obtain ⟨a, vs, rfl, e1, r1, q1⟩ := b1.tup
      obtain ⟨b, us, rfl, e2, r2, q2⟩ := b2.tup
      rw [← ok.K] at e1 e2
      refine ⟨a, b, vs, us, rfl, rfl, e1, e2, by rw [← r1.length, ← r2.length]; exact of_decide_eq_true hz, fun z => ?_, fun _ z => ?_, fun _ _ p np => ?_⟩
      · subst z
        have : xs = [] := List.eq_nil_of_length_eq_zero (by rw [r1.length]; rfl)
        subst this
        exact k W _ (.refl W) rh q2
      · subst z
        have : ys = [] := List.eq_nil_of_length_eq_zero (by rw [r2.length]; rfl)
        subst this
        rw [List.append_nil] at k
        exact k W _ (.refl W) rh q1
      · obtain ⟨W2, eH, l, rh', n⟩ := new_tup np rh (r1.append r2)
        rw [← eH]
        exact k _ _ l rh' n
    · cases e⟩
theorem o_catS : OpD C (binaryOp .Add) catS := fun X E ok =>
  ⟨_, op_add_str, fun W h x y v u d Q rh b1 b2 e k => by
    cases x <;> first | (cases e; done) | skip
    cases y <;> first | (cases e; done) | skip
    rename_i xs ys
    simp only [catS] at e
    split at e
    · rename_i hz
      cases e
      obtain rfl := b1.str
      obtain rfl := b2.str
      exact ⟨xs, ys, rfl, rfl, of_decide_eq_true hz, k W _ (.refl W) rh rep_str⟩
    · cases e⟩
def repL : D → D → Option D
  | .lst xs, .int k => if decide (k < 2 ^ 62) && (decide (-(2 ^ 62) < k) && fits (xs.length * k.toNat)) then some (.lst (List.replicate k.toNat xs).flatten) else none
  | _, _ => none
def repT : D → D → Option D
  | .tup xs, .int k => if decide (xs.length ≠ 0) && (decide (2 ≤ k) && (decide (k ≤ 1000) && decide (xs.length ≤ 1000))) then some (.tup (List.replicate k.toNat xs).flatten) else none
  | _, _ => none
theorem Reps.rep {K : PySem.W.Frag} {W : Wd} {ds : List D} {vs : List V} (h : Reps K W ds vs) : ∀ n : Nat, Reps K W (List.replicate n ds).flatten (List.replicate n vs).flatten
  | 0 => by simp [Reps]
  | n + 1 => by
    rw [List.replicate_succ, List.replicate_succ, List.flatten_cons, List.flatten_cons]
    exact h.append (Reps.rep h n)
theorem on_repL : OpN C (binaryOp .Mult) repL := fun X E ok =>
  ⟨_, op_rep, fun W0 W h x y v u d Q l0 rh b1 b2 e k => by
    cases x <;> first | (cases e; done) | skip
    cases y <;> first | (cases e; done) | skip
    rename_i xs n
    simp only [repL] at e
    split at e
    · rename_i hz
      cases e
      simp only [Bool.and_eq_true, decide_eq_true_eq] at hz
      obtain ⟨h1, h2, h3⟩ := hz
      obtain ⟨a, vs, rfl, e1, r1⟩ := b1.lst
      obtain rfl := b2.int
      refine ⟨a, n, vs, rfl, rfl, e1, by omega, by omega, by rw [← r1.length]; exact of_decide_eq_true h3, fun p np => ?_⟩
      obtain ⟨l, rh', nn⟩ := new_lst np rh (r1.rep n.toNat)
      exact k _ _ l rh' (nn.of l0 rh)
    · cases e⟩
theorem o_repL : OpD C (binaryOp .Mult) repL := on_repL.d
theorem o_repT : OpD C (binaryOp .Mult) repT := fun X E ok =>
  ⟨_, op_repT, fun W h x y v u d Q rh b1 b2 e k => by
    cases x <;> first | (cases e; done) | skip
    cases y <;> first | (cases e; done) | skip
    rename_i xs n
    simp only [repT] at e
    split at e
    · rename_i hz
      cases e
      simp only [Bool.and_eq_true, decide_eq_true_eq] at hz
      obtain ⟨h0, h1, h2, h3⟩ := hz
      obtain ⟨a, vs, rfl, e1, r1, q1⟩ := b1.tup
      obtain rfl := b2.int
      rw [← ok.K] at e1
      refine ⟨a, n, vs, rfl, rfl, e1, fun z => h0 (by rw [r1.length, z]; rfl), h1, h2, by rw [← r1.length]; exact h3, fun p np => ?_⟩
      obtain ⟨W2, eH, l, rh', nn⟩ := new_tup np rh (r1.rep n.toNat)
      rw [← eH]
      exact k _ _ l rh' nn
    · cases e⟩
/-- + and * of anything -/
def addD (x y : D) : Option D := match x, y with
  | .int i, .int j => some (.int (i + j))
  | .tup _, _ => catT x y
  | .lst _, _ => catL x y
  | .str _, _ => catS x y
  | _, _ => none
def mulD (x y : D) : Option D := match x with
  | .int _ => iMul x y
  | .tup _ => repT x y
  | .lst _ => repL x y
  | _ => none
theorem OpD.weaken {f : Value → Value → Sem Value} {g g' : D → D → Option D} (h : OpD C f g) (w : ∀ x y d, g' x y = some d → g x y = some d) : OpD C f g' := fun X E ok => by
  obtain ⟨r, hr, q⟩ := h X E ok
  exact ⟨r, hr, fun W s x y v u d Q rh b1 b2 e k => q W s x y v u d Q rh b1 b2 (w _ _ _ e) k⟩
theorem o_addD : OpD C (binaryOp .Add) addD := (((o_add.or o_catT).or o_catL).or o_catS).weaken fun x y d e => by
  cases x <;> cases y <;> simp_all [addD, iAdd, intD, catT, catL, catS]
theorem o_mulD : OpD C (binaryOp .Mult) mulD := ((o_mul.or o_repT).or o_repL).weaken fun x y d e => by
  cases x <;> cases y <;> simp_all [mulD, iMul, intD, repT, repL]
end

/-! ### == of data -/
mutual
def D.py : D → Option PyData
  | .non => some .none
  | .bl b => some (.bool b)
  | .int i => some (.int i)
  | .str s => some (.str s)
  | .tup xs => (pyAll xs).map .tuple
  | .lst xs => (pyAll xs).map .list
  | .frl xs => (pyAll xs).map .list
  | .dK _ => none
  | .dT _ => none
  | .ref _ => none
  | .fn _ => none
def pyAll : List D → Option (List PyData)
  | [] => some []
  | x :: xs => match D.py x with
    | some d => match pyAll xs with
      | some r => some (d :: r)
      | none => none
    | none => none
end
section
variable {K : PySem.W.Frag} {W : Wd}
mutual
theorem Rep.dp : ∀ (d : D) (v : V) (p : PyData), Rep K W d v → d.py = some p → Dp K W.H v p
  | .non, v, p, h, e => by
    rw [Rep] at h; rw [D.py] at e; cases e; subst h; exact .non
  | .bl b, v, p, h, e => by
    rw [Rep] at h; rw [D.py] at e; cases e; subst h; exact .bl b
  | .int b, v, p, h, e => by
    rw [Rep] at h; rw [D.py] at e; cases e; subst h; exact .int b
  | .str b, v, p, h, e => by
    rw [Rep] at h; rw [D.py] at e; cases e; subst h; exact .str b
  | .tup xs, v, p, h, e => by
    rw [Rep] at h; rw [D.py] at e
    obtain ⟨a, vs, rfl, t, r⟩ := h
    cases q : pyAll xs with
    | none => rw [q] at e; cases e
    | some ps => rw [q] at e; cases e; exact .tup t.sq (Reps.dp xs vs ps r q)
  | .lst xs, v, p, h, e => by
    rw [Rep] at h; rw [D.py] at e
    obtain ⟨a, vs, rfl, t, r⟩ := h
    cases q : pyAll xs with
    | none => rw [q] at e; cases e
    | some ps => rw [q] at e; cases e; exact .lst t.sq (Reps.dp xs vs ps r q)
  | .frl xs, v, p, h, e => by
    rw [Rep] at h; rw [D.py] at e
    obtain ⟨a, vs, rfl, t, r⟩ := h
    cases q : pyAll xs with
    | none => rw [q] at e; cases e
    | some ps => rw [q] at e; cases e; exact .lst t.sq (Reps.dp xs vs ps r q)
  | .dK _, v, p, h, e => by rw [D.py] at e; cases e
  | .dT _, v, p, h, e => by rw [D.py] at e; cases e
  | .ref _, v, p, h, e => by rw [D.py] at e; cases e
  | .fn _, v, p, h, e => by rw [D.py] at e; cases e
theorem Reps.dp : ∀ (ds : List D) (vs : List V) (ps : List PyData), Reps K W ds vs → pyAll ds = some ps → DpAll K W.H vs ps
  | [], vs, ps, h, e => by
    rw [Reps] at h; rw [pyAll] at e; cases e; subst h; exact .nil
  | x :: xs, vs, ps, h, e => by
    rw [Reps] at h; rw [pyAll] at e
    obtain ⟨v, r, rfl, h1, h2⟩ := h
    cases q : D.py x with
    | none => rw [q] at e; cases e
    | some d =>
      rw [q] at e
      cases q2 : pyAll xs with
      | none => rw [q2] at e; cases e
      | some ds =>
        rw [q2] at e
        cases e
        exact .cons (Rep.dp x v d h1 q) (Reps.dp xs r ds h2 q2)
end
theorem Bor.dp {d : D} {v : V} {p : PyData} (b : Bor K W d v) (e : d.py = some p) : Dp K W.H v p := by
  rcases b with b | b
  · exact Rep.dp d v p b e
  · cases d with
    | lst xs =>
      obtain ⟨a, vs, rfl, h, r, _, _⟩ := b
      rw [D.py] at e
      cases q : pyAll xs with
      | none => rw [q] at e; cases e
      | some ps => rw [q] at e; cases e; exact .lst (.of h) (Reps.dp xs vs ps r q)
    | dK _ => rw [D.py] at e; cases e
    | dT _ => rw [D.py] at e; cases e
    | _ => exact b.elim
end
/-- whether two data are equal; none: not told -/
def eqB (x y : D) : Option Bool := match x.py, y.py with
  | some a, some b => if SeqAt.shaped a && SeqAt.shaped b then some (PyData.eqv a b) else none
  | _, _ => none
theorem eqB_some {x y : D} {b : Bool} (h : eqB x y = some b) : ∃ p q, x.py = some p ∧ y.py = some q ∧ SeqAt.shaped p = true ∧ SeqAt.shaped q = true ∧ b = PyData.eqv p q := by
  unfold eqB at h
  split at h
  · rename_i p q e1 e2
    split at h
    · rename_i hs
      rw [Bool.and_eq_true] at hs
      cases h
      exact ⟨p, q, e1, e2, hs.1, hs.2, rfl⟩
    · cases h
  · cases h
def eqD (x y : D) : Option D := (eqB x y).map D.bl
def neD (x y : D) : Option D := (eqB x y).map fun b => D.bl (!b)
section
variable {C : Cn}
theorem o_eq : OpD C (compareOp .Eq) eqD := fun X E ok =>
  ⟨_, op_eqD ok.room.units, fun W h x y v u d Q rh b1 b2 e k => by
    unfold eqD at e
    obtain ⟨b, e1, rfl⟩ := Option.map_eq_some_iff.mp e
    obtain ⟨p, q, h1, h2, s1, s2, rfl⟩ := eqB_some e1
    exact ⟨p, q, by rw [ok.K]; exact b1.dp h1, by rw [ok.K]; exact b2.dp h2, s1, s2, k W _ (.refl W) rh rep_bl⟩⟩
theorem o_ne : OpD C (compareOp .NotEq) neD := fun X E ok =>
  ⟨_, op_neD ok.room.units, fun W h x y v u d Q rh b1 b2 e k => by
    unfold neD at e
    obtain ⟨b, e1, rfl⟩ := Option.map_eq_some_iff.mp e
    obtain ⟨p, q, h1, h2, s1, s2, rfl⟩ := eqB_some e1
    exact ⟨p, q, by rw [ok.K]; exact b1.dp h1, by rw [ok.K]; exact b2.dp h2, s1, s2, k W _ (.refl W) rh rep_bl⟩⟩
def D.isNon : D → Bool
  | .non => true
  | _ => false
/-- x is None -/
def isNonD (x y : D) : Option D := match y with
  | .non => some (.bl x.isNon)
  | _ => none
def notNonD (x y : D) : Option D := match y with
  | .non => some (.bl (!x.isNon))
  | _ => none
theorem rep_non_iff {K : PySem.W.Frag} {W : Wd} {x : D} {v : V} (b : Bor K W x v) : decide (v = .non) = x.isNon := by
  cases x with
  | non => rw [b.non]; rfl
  | bl i => rw [b.bl]; rfl
  | int i => rw [b.int]; rfl
  | str i => rw [b.str]; rfl
  | tup xs => obtain ⟨a, vs, rfl, _⟩ := b.tup; rfl
  | lst xs => obtain ⟨a, vs, rfl, _⟩ := b.lst; rfl
  | frl xs => obtain ⟨a, vs, rfl, _⟩ := b.frl; rfl
  | dK xs => obtain ⟨a, vs, rfl, _⟩ := b.dK; rfl
  | dT xs => obtain ⟨a, vs, rfl, _⟩ := b.dT; rfl
  | ref n =>
    rcases b with b | b
    · rw [Rep] at b
      obtain ⟨a, _, rfl⟩ := b
      rfl
    · exact b.elim
  | fn n =>
    rcases b with b | b
    · rw [Rep] at b
      subst b
      rfl
    · exact b.elim
theorem o_isNon : OpD C (compareOp .Is) isNonD := fun X E ok =>
  ⟨_, op_isN, fun W h x y v u d Q rh b1 b2 e k => by
    cases y <;> first | (cases e; done) | skip
    simp only [isNonD] at e
    cases e
    refine ⟨b2.non, ?_⟩
    rw [rep_non_iff b1]
    exact k W _ (.refl W) rh rep_bl⟩
theorem o_notNon : OpD C (compareOp .IsNot) notNonD := fun X E ok =>
  ⟨_, op_notN, fun W h x y v u d Q rh b1 b2 e k => by
    cases y <;> first | (cases e; done) | skip
    simp only [notNonD] at e
    cases e
    refine ⟨b2.non, ?_⟩
    rw [rep_non_iff b1]
    exact k W _ (.refl W) rh rep_bl⟩
/-- x in y: lists and tuples of data -/
def inB (x y : D) : Option Bool := match x.py with
  | none => none
  | some d => match y with
    | .lst ys => match pyAll ys with
      | none => none
      | some ds => if SeqAt.shaped d && SeqAt.shaped (.list ds) then some (ds.any fun z => PyData.eqv z d) else none
    | .frl ys => match pyAll ys with
      | none => none
      | some ds => if SeqAt.shaped d && SeqAt.shaped (.list ds) then some (ds.any fun z => PyData.eqv z d) else none
    | _ => none
theorem inB_some {x y : D} {b : Bool} (h : inB x y = some b) : ∃ d ds, x.py = some d ∧ y.py = some (.list ds) ∧ SeqAt.shaped d = true ∧ SeqAt.shaped (.list ds) = true ∧ b = ds.any fun z => PyData.eqv z d := by
  unfold inB at h
  cases e : x.py with
  | none => rw [e] at h; cases h
  | some d =>
    rw [e] at h
    cases y with
    | lst ys =>
      simp only at h
      cases e2 : pyAll ys with
      | none => rw [e2] at h; cases h
      | some ds =>
        rw [e2] at h
        simp only at h
        split at h
        · rename_i hs
          rw [Bool.and_eq_true] at hs
          cases h
          exact ⟨d, ds, rfl, by rw [D.py, e2]; rfl, hs.1, hs.2, rfl⟩
        · cases h
    | frl ys =>
      simp only at h
      cases e2 : pyAll ys with
      | none => rw [e2] at h; cases h
      | some ds =>
        rw [e2] at h
        simp only at h
        split at h
        · rename_i hs
          rw [Bool.and_eq_true] at hs
          cases h
          exact ⟨d, ds, rfl, by rw [D.py, e2]; rfl, hs.1, hs.2, rfl⟩
        · cases h
    | _ => cases h
def inD (x y : D) : Option D := (inB x y).map D.bl
def notInD (x y : D) : Option D := (inB x y).map fun b => D.bl (!b)
theorem _root_.L2.Room.u65_ {k : Nat} {A : Around} (r : Room k A) : A.units + 65 < cLine := by have := r.un; omega
theorem o_in : OpD C (compareOp .In) inD := fun X E ok =>
  ⟨_, op_inD (ok.room.u65_), fun W h x y v u d Q rh b1 b2 e k => by
    unfold inD at e
    obtain ⟨b, e1, rfl⟩ := Option.map_eq_some_iff.mp e
    obtain ⟨p, q, h1, h2, s1, s2, rfl⟩ := inB_some e1
    exact ⟨p, q, by rw [ok.K]; exact b1.dp h1, by rw [ok.K]; exact b2.dp h2, s1, s2, k W _ (.refl W) rh rep_bl⟩⟩
theorem o_notIn : OpD C (compareOp .NotIn) notInD := fun X E ok =>
  ⟨_, op_notInD (ok.room.u65_), fun W h x y v u d Q rh b1 b2 e k => by
    unfold notInD at e
    obtain ⟨b, e1, rfl⟩ := Option.map_eq_some_iff.mp e
    obtain ⟨p, q, h1, h2, s1, s2, rfl⟩ := inB_some e1
    exact ⟨p, q, by rw [ok.K]; exact b1.dp h1, by rw [ok.K]; exact b2.dp h2, s1, s2, k W _ (.refl W) rh rep_bl⟩⟩
/-- x in a tuple of flat data, by their values -/
def flatD : D → Option V := Dv
def flatAll : List D → Option (List V)
  | [] => some []
  | x :: xs => match Dv x, flatAll xs with
    | some v, some r => some (v :: r)
    | _, _ => none
theorem flatAll_ok {K : PySem.W.Frag} {W : Wd} : ∀ {ds : List D} {us vs : List V}, flatAll ds = some us → Reps K W ds vs → vs = us ∧ us.all flatV = true
  | [], us, vs, e, h => by rw [Reps] at h; rw [flatAll] at e; cases e; exact ⟨h, rfl⟩
  | x :: xs, us, vs, e, h => by
    rw [Reps] at h
    obtain ⟨v, r, rfl, h1, h2⟩ := h
    rw [flatAll] at e
    cases e1 : Dv x with
    | none => rw [e1] at e; cases e
    | some w =>
      rw [e1] at e
      cases e2 : flatAll xs with
      | none => rw [e2] at e; cases e
      | some ws =>
        rw [e2] at e
        cases e
        obtain ⟨rfl, ha⟩ := flatAll_ok e2 h2
        have hx : v = w ∧ flatV w = true := by
          cases x <;> simp only [Dv, Option.some.injEq, reduceCtorEq] at e1 <;> subst e1 <;> rw [Rep] at h1 <;> exact ⟨h1, rfl⟩
        obtain ⟨rfl, hf⟩ := hx
        exact ⟨rfl, by rw [List.all_cons, hf, ha]; rfl⟩
def inTB (x y : D) : Option Bool := match Dv x with
  | none => none
  | some v => match y with
    | .tup ys => (flatAll ys).map fun us => inV v us
    | _ => none
def inTD (x y : D) : Option D := (inTB x y).map D.bl
def notInTD (x y : D) : Option D := (inTB x y).map fun b => D.bl (!b)
theorem inTB_ok {K : PySem.W.Frag} {W : Wd} {x y : D} {v u : V} {b : Bool} (e : inTB x y = some b) (b1 : Bor K W x v) (b2 : Bor K W y u) : ∃ p us, u = .ref p ∧ SqT K W.H p us ∧ flatV v = true ∧ us.all flatV = true ∧ b = inV v us := by
  unfold inTB at e
  cases e1 : Dv x with
  | none => rw [e1] at e; cases e
  | some w =>
    rw [e1] at e
    have hx : v = w ∧ flatV w = true := by
      cases x <;> simp only [Dv, Option.some.injEq, reduceCtorEq] at e1 <;> subst e1
      · exact ⟨b1.non, rfl⟩
      · exact ⟨b1.bl, rfl⟩
      · exact ⟨b1.int, rfl⟩
      · exact ⟨b1.str, rfl⟩
    obtain ⟨rfl, hf⟩ := hx
    cases y with
    | tup ys =>
      simp only at e
      obtain ⟨us, e2, rfl⟩ := Option.map_eq_some_iff.mp e
      obtain ⟨a, vs, rfl, t, r, _⟩ := b2.tup
      obtain ⟨rfl, ha⟩ := flatAll_ok e2 r
      exact ⟨a, vs, rfl, t, hf, ha, rfl⟩
    | _ => cases e
theorem o_inT : OpD C (compareOp .In) inTD := fun X E ok =>
  ⟨_, op_in_seq, fun W h x y v u d Q rh b1 b2 e k => by
    obtain ⟨b, e1, rfl⟩ := Option.map_eq_some_iff.mp e
    obtain ⟨p, us, rfl, t, f1, f2, rfl⟩ := inTB_ok e1 b1 b2
    exact ⟨p, us, rfl, .inr (by rw [ok.K]; exact t), f1, f2, k W _ (.refl W) rh rep_bl⟩⟩
theorem o_notInT : OpD C (compareOp .NotIn) notInTD := fun X E ok =>
  ⟨_, op_notIn_seq, fun W h x y v u d Q rh b1 b2 e k => by
    obtain ⟨b, e1, rfl⟩ := Option.map_eq_some_iff.mp e
    obtain ⟨p, us, rfl, t, f1, f2, rfl⟩ := inTB_ok e1 b1 b2
    exact ⟨p, us, rfl, .inr (by rw [ok.K]; exact t), f1, f2, k W _ (.refl W) rh rep_bl⟩⟩
end
end Sw

/-! Sw, part D: tests, arguments, displays, subscripts, calls. -/
namespace Sw
open PySem PySem.Spec PyProof.Rows L2
variable [Tbs]

/-! ### tests -/
def tAndR (a b : DT) : DT := fun τ h => (a τ h).bind fun c h1 => if c then b τ h1 else .ok false h1
def tOrR (a b : DT) : DT := fun τ h => (a τ h).bind fun c h1 => if c then .ok true h1 else b τ h1
def tNotR (a : DT) : DT := fun τ h => (a τ h).bind fun c h1 => .ok (!c) h1
def bAndR (a b : DE) : DE := fun τ h => (a τ h).bind fun d h1 => match d with | .bl c => if c then b τ h1 else .ok (.bl false) h1 | _ => .bad
def bOrR (a b : DE) : DE := fun τ h => (a τ h).bind fun d h1 => match d with | .bl c => if c then .ok (.bl true) h1 else b τ h1 | _ => .bad
def bNotR (a : DE) : DE := fun τ h => (a τ h).bind fun d h1 => match d with | .bl c => .ok (.bl (!c)) h1 | _ => .bad
def ifR (t : DT) (a b : DE) : DE := fun τ h => (t τ h).bind fun c h1 => if c then a τ h1 else b τ h1
/-- a value's truth -/
def D.tru : D → Option Bool
  | .non => some false
  | .bl b => some b
  | .int i => some (i != 0)
  | .str s => if fits s.length then some ((s.length : Int) != 0) else none
  | .tup xs => some (!xs.isEmpty)
  | .lst xs => some (!xs.isEmpty)
  | .frl xs => some (!xs.isEmpty)
  | _ => none
def truR (a : DE) : DT := fun τ h => (a τ h).bind fun d h1 => toRes d.tru h1
def cmpT (g : D → D → Option D) (a b : DE) : DT := fun τ h => (res2 g a b τ h).bind fun d h1 => match d with | .bl c => .ok c h1 | _ => .bad
abbrev DenW (C : Cn) (e : Expr) (f : DT) : Prop := DenG C (fun X t => PW X e t) (fun _ _ a b => a = b) f
section
variable {C : Cn} {a b c : Expr} {fa fb fc : DE} {ta tb : DT} {pos : Pos} {rest : List Expr}
theorem isEmpty_reps {K : PySem.W.Frag} {W : Wd} {ds : List D} {vs : List V} (r : Reps K W ds vs) : ds.isEmpty = vs.isEmpty := by
  have := r.length
  cases ds <;> cases vs <;> simp_all
theorem tru_rep {K : PySem.W.Frag} {W : Wd} {d : D} {v : V} {k : Bool} (b : Bor K W d v) (e : d.tru = some k) : TruV K v W.H k := by
  cases d with
  | non => rw [b.non]; cases e; rfl
  | bl i => rw [b.bl]; cases e; rfl
  | int i => rw [b.int]; cases e; rfl
  | str i =>
    rw [b.str]
    simp only [D.tru] at e
    split at e
    · rename_i hz
      cases e
      exact ⟨of_decide_eq_true hz, rfl⟩
    · cases e
  | tup xs =>
    obtain ⟨p, vs, rfl, t, r, _⟩ := b.tup
    cases e
    exact .inr (.inl ⟨vs, t, by rw [isEmpty_reps r]⟩)
  | lst xs =>
    obtain ⟨p, vs, rfl, t, r⟩ := b.lst
    cases e
    exact .inl ⟨vs, .of t, by rw [isEmpty_reps r]⟩
  | frl xs =>
    obtain ⟨p, vs, rfl, t, r⟩ := b.frl
    cases e
    exact .inl ⟨vs, t, by rw [isEmpty_reps r]⟩
  | _ => cases e
/-- any expression but a comparison, and, or, not as a test: he by fun _ _ => rfl -/
theorem den_tru (ha : DenB C a fa) (he : ∀ env whole, isTrue a env whole = (do let v ← whole; standAt a.pos; holding [v] (truthy v))) : DenT C a (truR fa) := fun X E ok => by
  obtain ⟨t, p, q⟩ := ha X E ok
  refine ⟨_, pt_truth p (he _), fun W0 W τ σ h Q l fr rh o => ?_⟩
  refine q W0 W τ σ h _ l fr rh (okG.bind o fun x h1 W1 v l1 rh1 b1 o1 => ?_)
  obtain ⟨k, e, kk⟩ := toRes_some o1
  exact ⟨k, by rw [ok.K]; exact tru_rep b1 e, kk W1 k (.refl W1) rh1 rfl⟩
theorem den_tcmp {op : CmpOp} {g : D → D → Option D} (ho : OpD C (compareOp op) g) (ha : DenB C a fa) (hb : DenB C b fb) (hm : behindInMarks op b = false) : DenT C (.Compare a [op] [b] pos) (cmpT g fa fb) := fun X E ok => by
  obtain ⟨r, hr, qr⟩ := ho X E ok
  obtain ⟨ta, pa, qa⟩ := ha X E ok
  obtain ⟨tb, pb, qb⟩ := hb X E ok
  refine ⟨_, pt_cmpR hr pa pb hm, fun W0 W τ σ h Q l fr rh o => ?_⟩
  let Q2 : VK := fun v H => ∃ k, v = .bl k ∧ Q k H
  have o2 : okG C.g.K C.g.mg (Rep C.g.K) W (fun c dd H => E c dd σ H) Q2 (res2 g fa fb τ h) := okG.bind o fun x h1 W1 v l1 rh1 b1 o1 => by
    cases x with
    | bl k => rw [Rep] at b1; exact ⟨k, b1, okG.now o1 rh1 rfl⟩
    | _ => exact (show False from o1).elim
  refine qa W0 W τ σ h _ l fr rh (okG.bind o2 fun x h1 W1 v l1 rh1 b1 o1 => ?_)
  refine qb W0 W1 τ σ h1 _ (l.trans l1) (fr.mono l1) rh1 (okG.bind o1 fun y h2 W2 u l2 rh2 b2 o2 => ?_)
  obtain ⟨d, e, k⟩ := toRes_some o2
  exact qr W2 h2 x y v u d Q2 rh2 (b1.mono l2) b2 e k
theorem den_tnot (ha : DenT C a ta) : DenT C (.UnaryOp .Not a pos) (tNotR ta) := fun X E ok => by
  obtain ⟨t, p, q⟩ := ha X E ok
  refine ⟨_, pt_not p, fun W0 W τ σ h Q l fr rh o => ?_⟩
  refine q W0 W τ σ h _ l fr rh (okG.bind o fun x h1 W1 v l1 rh1 b1 o1 => ?_)
  subst b1
  exact o1.now rh1 rfl
theorem den_wand1 (ha : DenT C a ta) : DenW C (.BoolOp .And [a] pos) ta := fun X E ok => by
  obtain ⟨t, p, q⟩ := ha X E ok
  exact ⟨_, pw_and1 p, q⟩
theorem den_wor1 (ha : DenT C a ta) : DenW C (.BoolOp .Or [a] pos) ta := fun X E ok => by
  obtain ⟨t, p, q⟩ := ha X E ok
  exact ⟨_, pw_or1 p, q⟩
theorem den_wand (ha : DenT C a ta) (hb : DenW C (.BoolOp .And (b :: rest) pos) tb) : DenW C (.BoolOp .And (a :: b :: rest) pos) (tAndR ta tb) := fun X E ok => by
  obtain ⟨t, p, q⟩ := ha X E ok
  obtain ⟨t', p', q'⟩ := hb X E ok
  refine ⟨_, pw_and p p', fun W0 W τ σ h Q l fr rh o => ?_⟩
  refine q W0 W τ σ h _ l fr rh (okG.bind o fun x h1 W1 v l1 rh1 b1 o1 => ?_)
  subst b1
  cases x with
  | true => exact iteT (q' W0 W1 τ σ h1 Q (l.trans l1) (fr.mono l1) rh1 o1)
  | false => exact iteF (o1.now rh1 rfl)
theorem den_wor (ha : DenT C a ta) (hb : DenW C (.BoolOp .Or (b :: rest) pos) tb) : DenW C (.BoolOp .Or (a :: b :: rest) pos) (tOrR ta tb) := fun X E ok => by
  obtain ⟨t, p, q⟩ := ha X E ok
  obtain ⟨t', p', q'⟩ := hb X E ok
  refine ⟨_, pw_or p p', fun W0 W τ σ h Q l fr rh o => ?_⟩
  refine q W0 W τ σ h _ l fr rh (okG.bind o fun x h1 W1 v l1 rh1 b1 o1 => ?_)
  subst b1
  cases x with
  | true => exact iteT (o1.now rh1 rfl)
  | false => exact iteF (q' W0 W1 τ σ h1 Q (l.trans l1) (fr.mono l1) rh1 o1)
theorem den_tw (h : DenW C a ta) : DenT C a ta := fun X E ok => by
  obtain ⟨t, p, q⟩ := h X E ok
  exact ⟨_, p.pt, q⟩
/-- as values, all of them True or False -/
theorem den_band1 {op : BoolOp} (ha : DenE C a fa) : DenE C (.BoolOp op [a] pos) fa := fun X E ok => by
  obtain ⟨t, p, q⟩ := ha X E ok
  exact ⟨_, pe_one p, q⟩
theorem den_band (ha : DenE C a fa) (hb : DenE C (.BoolOp .And (b :: rest) pos) fb) : DenE C (.BoolOp .And (a :: b :: rest) pos) (bAndR fa fb) := fun X E ok => by
  obtain ⟨t, p, q⟩ := ha X E ok
  obtain ⟨t', p', q'⟩ := hb X E ok
  refine ⟨_, pe_and p p', fun W0 W τ σ h Q l fr rh o => ?_⟩
  refine q W0 W τ σ h _ l fr rh (okG.bind o fun x h1 W1 v l1 rh1 b1 o1 => ?_)
  cases x with
  | bl x =>
    rw [Rep] at b1
    subst b1
    cases x with
    | true => exact ⟨_, rfl, iteT (q' W0 W1 τ σ h1 Q (l.trans l1) (fr.mono l1) rh1 o1)⟩
    | false => exact ⟨_, rfl, iteF (okG.now o1 rh1 rep_bl)⟩
  | _ => exact (show False from o1).elim
theorem den_bor (ha : DenE C a fa) (hb : DenE C (.BoolOp .Or (b :: rest) pos) fb) : DenE C (.BoolOp .Or (a :: b :: rest) pos) (bOrR fa fb) := fun X E ok => by
  obtain ⟨t, p, q⟩ := ha X E ok
  obtain ⟨t', p', q'⟩ := hb X E ok
  refine ⟨_, pe_or p p', fun W0 W τ σ h Q l fr rh o => ?_⟩
  refine q W0 W τ σ h _ l fr rh (okG.bind o fun x h1 W1 v l1 rh1 b1 o1 => ?_)
  cases x with
  | bl x =>
    rw [Rep] at b1
    subst b1
    cases x with
    | true => exact ⟨_, rfl, iteT (okG.now o1 rh1 rep_bl)⟩
    | false => exact ⟨_, rfl, iteF (q' W0 W1 τ σ h1 Q (l.trans l1) (fr.mono l1) rh1 o1)⟩
  | _ => exact (show False from o1).elim
theorem den_bnot (ha : DenE C a fa) : DenE C (.UnaryOp .Not a pos) (bNotR fa) := fun X E ok => by
  obtain ⟨t, p, q⟩ := ha X E ok
  refine ⟨_, pe_not p, fun W0 W τ σ h Q l fr rh o => ?_⟩
  refine q W0 W τ σ h _ l fr rh (okG.bind o fun x h1 W1 v l1 rh1 b1 o1 => ?_)
  cases x with
  | bl x =>
    rw [Rep] at b1
    subst b1
    exact ⟨x, rfl, okG.now o1 rh1 rep_bl⟩
  | _ => exact (show False from o1).elim
theorem den_if (hc : DenT C c ta) (ha : DenE C a fa) (hb : DenE C b fb) : DenE C (.IfExp c a b pos) (ifR ta fa fb) := fun X E ok => by
  obtain ⟨t, p, q⟩ := hc X E ok
  obtain ⟨t1, p1, q1⟩ := ha X E ok
  obtain ⟨t2, p2, q2⟩ := hb X E ok
  refine ⟨_, pe_ifExp p p1 p2, fun W0 W τ σ h Q l fr rh o => ?_⟩
  refine q W0 W τ σ h _ l fr rh (okG.bind o fun x h1 W1 v l1 rh1 b1 o1 => ?_)
  subst b1
  cases x with
  | true => exact iteT (q1 W0 W1 τ σ h1 Q (l.trans l1) (fr.mono l1) rh1 o1)
  | false => exact iteF (q2 W0 W1 τ σ h1 Q (l.trans l1) (fr.mono l1) rh1 o1)
/-- -a -/
def negD : D → Option D
  | .int i => some (.int (-i))
  | _ => none
def res1 (g : D → Option D) (a : DE) : DE := fun τ h => (a τ h).bind fun x h1 => toRes (g x) h1
theorem den_neg (ha : DenB C a fa) : DenE C (.UnaryOp .USub a pos) (res1 negD fa) := fun X E ok => by
  obtain ⟨t, p, q⟩ := ha X E ok
  refine ⟨_, pe_un un_neg p, fun W0 W τ σ h Q l fr rh o => ?_⟩
  refine q W0 W τ σ h _ l fr rh (okG.bind o fun x h1 W1 v l1 rh1 b1 o1 => ?_)
  obtain ⟨d, e, k⟩ := toRes_some o1
  cases x with
  | int i => cases e; rw [b1.int]; exact ⟨i, rfl, k W1 _ (.refl W1) rh1 rep_int⟩
  | _ => cases e
/-- a op b op' c, ints -/
def chR (g g' : D → D → Option D) (a b c : DE) : DE := fun τ h => (a τ h).bind fun x h1 => (b τ h1).bind fun y h2 => match g x y with
  | some (.bl k) => if k then (c τ h2).bind fun z h3 => toRes (g' y z) h3 else .ok (.bl false) h2
  | _ => .bad
def chT (g g' : D → D → Option D) (a b c : DE) : DT := fun τ h => (chR g g' a b c τ h).bind fun d h1 => match d with | .bl k => .ok k h1 | _ => .bad
theorem den_chain {op op' : CmpOp} {g g' : D → D → Option D} (ho : OpD C (compareOp op) g) (ho' : OpD C (compareOp op') g') (ha : DenB C a fa) (hb : DenB C b fb) (hc : DenB C c fc) (hm : lastMarks [op, op'] [b, c] = false) :
    DenE C (.Compare a [op, op'] [b, c] pos) (chR g g' fa fb fc) := fun X E ok => by
  obtain ⟨r, hr, qr⟩ := ho X E ok
  obtain ⟨r', hr', qr'⟩ := ho' X E ok
  obtain ⟨ta, pa, qa⟩ := ha X E ok
  obtain ⟨tb, pb, qb⟩ := hb X E ok
  obtain ⟨tc, pc, qc⟩ := hc X E ok
  refine ⟨_, pe_chain hr hr' pa pb pc hm, fun W0 W τ σ h Q l fr rh o => ?_⟩
  refine qa W0 W τ σ h _ l fr rh (okG.bind o fun x h1 W1 v l1 rh1 b1 o1 => ?_)
  refine qb W0 W1 τ σ h1 _ (l.trans l1) (fr.mono l1) rh1 (okG.bind o1 fun y h2 W2 u l2 rh2 b2 o2 => ?_)
  cases e : g x y with
  | none => rw [e] at o2; exact (show False from o2).elim
  | some d =>
    rw [e] at o2
    cases d with
    | bl k =>
      refine qr W2 h2 x y v u _ _ rh2 (b1.mono l2) b2 e fun W3 z l3 rh3 r3 => ?_
      rw [Rep] at r3
      refine ⟨k, r3, ?_⟩
      have o3 := okG.mono l3 o2
      cases k with
      | false => exact iteF (okG.now o3 rh3 rep_bl)
      | true =>
        refine iteT (qc W0 W3 τ σ h2 _ ((l.trans l1).trans (l2.trans l3)) ((fr.mono l1).mono (l2.trans l3)) rh3 (okG.bind o3 fun z h4 W4 w l4 rh4 b4 o4 => ?_))
        obtain ⟨d, e', k⟩ := toRes_some o4
        exact qr' W4 h4 y z u w d Q rh4 (b2.mono (l3.trans l4)) b4 e' k
    | _ => exact (show False from o2).elim
theorem den_tchain {op op' : CmpOp} {g g' : D → D → Option D} (ho : OpD C (compareOp op) g) (ho' : OpD C (compareOp op') g') (ha : DenB C a fa) (hb : DenB C b fb) (hc : DenB C c fc) (hm : lastMarks [op, op'] [b, c] = false) :
    DenT C (.Compare a [op, op'] [b, c] pos) (chT g g' fa fb fc) := fun X E ok => by
  obtain ⟨r, hr, qr⟩ := ho X E ok
  obtain ⟨r', hr', qr'⟩ := ho' X E ok
  obtain ⟨ta, pa, qa⟩ := ha X E ok
  obtain ⟨tb, pb, qb⟩ := hb X E ok
  obtain ⟨tc, pc, qc⟩ := hc X E ok
  obtain ⟨te, pe, qe⟩ := den_chain (pos := pos) ho ho' ha hb hc hm X E ok
  refine ⟨_, pt_chain hr hr' pa pb pc hm, fun W0 W τ σ h Q l fr rh o => ?_⟩
  let Q2 : VK := fun v H => ∃ k, v = .bl k ∧ Q k H
  have o2 : okG C.g.K C.g.mg (Rep C.g.K) W (fun c dd H => E c dd σ H) Q2 (chR g g' fa fb fc τ h) := okG.bind o fun x h1 W1 v l1 rh1 b1 o1 => by
    cases x with
    | bl k => rw [Rep] at b1; exact ⟨k, b1, okG.now o1 rh1 rfl⟩
    | _ => exact (show False from o1).elim
  refine qa W0 W τ σ h _ l fr rh (okG.bind o2 fun x h1 W1 v l1 rh1 b1 o1 => ?_)
  refine qb W0 W1 τ σ h1 _ (l.trans l1) (fr.mono l1) rh1 (okG.bind o1 fun y h2 W2 u l2 rh2 b2 o2 => ?_)
  cases e : g x y with
  | none => rw [e] at o2; exact (show False from o2).elim
  | some d =>
    rw [e] at o2
    cases d with
    | bl k =>
      refine qr W2 h2 x y v u _ _ rh2 (b1.mono l2) b2 e fun W3 z l3 rh3 r3 => ?_
      rw [Rep] at r3
      refine ⟨k, r3, ?_⟩
      have o3 := okG.mono l3 o2
      cases k with
      | false => exact iteF (okG.now o3 rh3 rep_bl)
      | true =>
        refine iteT (qc W0 W3 τ σ h2 _ ((l.trans l1).trans (l2.trans l3)) ((fr.mono l1).mono (l2.trans l3)) rh3 (okG.bind o3 fun z h4 W4 w l4 rh4 b4 o4 => ?_))
        obtain ⟨d, e', k⟩ := toRes_some o4
        exact qr' W4 h4 y z u w d Q2 rh4 (b2.mono (l3.trans l4)) b4 e' k
    | _ => exact (show False from o2).elim
end

/-! ### argument lists, displays -/
def consR (a : DE) (r : DA) : DA := fun τ h => (a τ h).bind fun x h1 => (r τ h1).bind fun xs h2 => .ok (x :: xs) h2
def starR (a : DE) (r : DA) : DA := fun τ h => (a τ h).bind fun x h1 => match x with
  | .tup ys => (r τ h1).bind fun xs h2 => .ok (ys ++ xs) h2
  | .lst ys => (r τ h1).bind fun xs h2 => .ok (ys ++ xs) h2
  | _ => .bad
def tupR (a : DA) : DE := fun τ h => (a τ h).bind fun xs h1 => if fits xs.length then .ok (.tup xs) h1 else .bad
def lstR (a : DA) : DE := fun τ h => (a τ h).bind fun xs h1 => if fits xs.length then .ok (.lst xs) h1 else .bad
section
variable {C : Cn} {e : Expr} {es : List Expr} {fe : DE} {fs : DA} {pos : Pos}
theorem den_anil : DenA C [] (fun _ h => .ok [] h) := fun X E ok => ⟨_, pa_nil, fun W0 W τ σ h Q l fr rh o => okG.now o rh .nil⟩
theorem den_acons (he : DenE C e fe) (hr : DenA C es fs) (hs : ∀ env, starEach (e :: es) env = (false, eval e env) :: starEach es env) : DenA C (e :: es) (consR fe fs) := fun X E ok => by
  obtain ⟨t, p, q⟩ := he X E ok
  obtain ⟨t', p', q'⟩ := hr X E ok
  refine ⟨_, pa_cons p p' (hs _), fun W0 W τ σ h Q l fr rh o => ?_⟩
  refine q W0 W τ σ h _ l fr rh (okG.bind o fun x h1 W1 v l1 rh1 b1 o1 => ?_)
  refine q' W0 W1 τ σ h1 _ (l.trans l1) (fr.mono l1) rh1 (okG.bind o1 fun y h2 W2 u l2 rh2 b2 o2 => ?_)
  exact okG.now o2 rh2 (.cons (b1.mono l2.toLeF) b2)
theorem den_astar {p : Pos} (he : DenB C e fe) (hr : DenA C es fs) (hs : ∀ env, starEach (.Starred e p :: es) env = (true, eval e env) :: starEach es env) : DenA C (.Starred e p :: es) (starR fe fs) := fun X E ok => by
  obtain ⟨t, p, q⟩ := he X E ok
  obtain ⟨t', p', q'⟩ := hr X E ok
  refine ⟨_, StX.pa_star p p' (hs _), fun W0 W τ σ h Q l fr rh o => ?_⟩
  refine q W0 W τ σ h _ l fr rh (okG.bind o fun x h1 W1 v l1 rh1 b1 o1 => ?_)
  cases x with
  | tup xs =>
    obtain ⟨a, vs, rfl, sq, r, _⟩ := b1.tup
    refine ⟨a, vs, rfl, .inl (by rw [ok.K]; exact sq), ?_⟩
    refine q' W0 W1 τ σ h1 _ (l.trans l1) (fr.mono l1) rh1 (okG.bind o1 fun y h2 W2 u l2 rh2 b2 o2 => ?_)
    exact okG.now o2 rh2 ((r.mono l2.toLeF).append b2)
  | lst xs =>
    obtain ⟨a, vs, rfl, sq, r⟩ := b1.lst
    refine ⟨a, vs, rfl, .inr (by rw [ok.K]; exact .of sq), ?_⟩
    refine q' W0 W1 τ σ h1 _ (l.trans l1) (fr.mono l1) rh1 (okG.bind o1 fun y h2 W2 u l2 rh2 b2 o2 => ?_)
    exact okG.now o2 rh2 ((r.mono l2.toLeF).append b2)
  | _ => exact (show False from o1).elim
theorem den_tup {k} (h : DenA C es fs) : DenE C (.Tuple es k pos) (tupR fs) := fun X E ok => by
  obtain ⟨t, p, q⟩ := h X E ok
  refine ⟨_, pe_tup p, fun W0 W τ σ h Q l fr rh o => ?_⟩
  refine q W0 W τ σ h _ l fr rh (okG.bind o fun x h1 W1 v l1 rh1 b1 o1 => ?_)
  by_cases hz : fits x.length = true
  · rw [if_pos hz] at o1
    refine ⟨by rw [← b1.length]; exact of_decide_eq_true hz, fun p np => ?_⟩
    obtain ⟨W2, eH, l2, rh2, n⟩ := new_tup np rh1 b1
    rw [← eH]
    exact o1 W2 _ l2 rh2 n
  · rw [if_neg hz] at o1; exact o1.elim
theorem den_lst (h : DenA C es fs) : DenN C (.List es pos) (lstR fs) := fun X E ok => by
  obtain ⟨t, p, q⟩ := h X E ok
  refine ⟨_, pe_lst p, fun W0 W τ σ h Q l fr rh o => ?_⟩
  refine q W0 W τ σ h _ l fr rh (okG.bind o fun x h1 W1 v l1 rh1 b1 o1 => ?_)
  by_cases hz : fits x.length = true
  · rw [if_pos hz] at o1
    refine ⟨by rw [← b1.length]; exact of_decide_eq_true hz, fun p np => ?_⟩
    obtain ⟨l2, rh2, n⟩ := new_lst np rh1 b1
    exact o1 _ _ l2 rh2 (n.of l1 rh1)
  · rw [if_neg hz] at o1; exact o1.elim
end
end Sw

/-! Sw, part E: subscripts, slices, calls of defs and built-ins. -/
namespace Sw
open PySem PySem.Spec PyProof.Rows L2
variable [Tbs]

/-! ### subscripts -/
def atD (x i : D) : Option D := match x, i with
  | .tup xs, .int k => atI xs k
  | .lst xs, .int k => atI xs k
  | .frl xs, .int k => atI xs k
  | .str s, .int k => if fits s.length then (atI s.cps.toList k).map fun c => .str ⟨#[c]⟩ else none
  | _, _ => none
theorem atI_reps {K : PySem.W.Frag} {W : Wd} {ds : List D} {vs : List V} {i : Int} {d : D} (r : Reps K W ds vs) (e : atI ds i = some d) : ∃ v, atI vs i = some v ∧ Rep K W d v := by
  unfold atI at e ⊢
  rw [← r.length]
  cases q : ixN ds.length i with
  | none => rw [q] at e; cases e
  | some j => rw [q] at e; exact r.get e
section
variable {C : Cn} {a b : Expr} {fa fb : DE} {pos : Pos}
theorem den_ix (ha : DenB C a fa) (hb : DenB C b fb) (hs : PlainIx b) : DenE C (.Subscript a b pos) (res2 atD fa fb) := fun X E ok => by
  obtain ⟨t, p, q⟩ := ha X E ok
  obtain ⟨t', p', q'⟩ := hb X E ok
  refine ⟨_, pe_ix ix_seq p p' hs, fun W0 W τ σ h Q l fr rh o => ?_⟩
  refine q W0 W τ σ h _ l fr rh (okG.bind o fun x h1 W1 v l1 rh1 b1 o1 => ?_)
  refine q' W0 W1 τ σ h1 _ (l.trans l1) (fr.mono l1) rh1 (okG.bind o1 fun y h2 W2 u l2 rh2 b2 o2 => ?_)
  obtain ⟨d, e, k⟩ := toRes_some o2
  have b1 := b1.mono l2
  cases y with
  | int i =>
    rw [b2.int]
    cases x with
    | tup xs =>
      obtain ⟨a, vs, rfl, sq, r, _⟩ := b1.tup
      obtain ⟨v, ev, rv⟩ := atI_reps r e
      exact .inr (.inl ⟨a, vs, i, v, rfl, rfl, by rw [ok.K]; exact sq, ev, k W2 _ (.refl _) rh2 rv⟩)
    | lst xs =>
      obtain ⟨a, vs, rfl, sq, r⟩ := b1.lst
      obtain ⟨v, ev, rv⟩ := atI_reps r e
      exact .inl ⟨a, vs, i, v, rfl, rfl, by rw [ok.K]; exact .of sq, ev, k W2 _ (.refl _) rh2 rv⟩
    | frl xs =>
      obtain ⟨a, vs, rfl, sq, r⟩ := b1.frl
      obtain ⟨v, ev, rv⟩ := atI_reps r e
      exact .inl ⟨a, vs, i, v, rfl, rfl, by rw [ok.K]; exact sq, ev, k W2 _ (.refl _) rh2 rv⟩
    | str z =>
      simp only [atD] at e
      split at e
      · rename_i hz
        obtain ⟨c, ec, rfl⟩ := Option.map_eq_some_iff.mp e
        rw [b1.str]
        exact .inr (.inr ⟨z, i, c, rfl, rfl, of_decide_eq_true hz, ec, k W2 _ (.refl _) rh2 rep_str⟩)
      · cases e
    | _ => cases e
  | _ => cases x <;> cases e
/-- an item of a shared list -/
def atRef (x i : D) (h : HS) : Res D := match x, i with
  | .ref n, .int k => match h[n]? with
    | some xs => toRes (atI xs k) h
    | none => .bad
  | _, _ => .bad
def refIxR (a b : DE) : DE := fun τ h => (a τ h).bind fun x h1 => (b τ h1).bind fun y h2 => atRef x y h2
theorem den_refix (ha : DenE C a fa) (hb : DenE C b fb) (hs : PlainIx b) : DenE C (.Subscript a b pos) (refIxR fa fb) := fun X E ok => by
  obtain ⟨t, p, q⟩ := ha X E ok
  obtain ⟨t', p', q'⟩ := hb X E ok
  refine ⟨_, pe_ix ix_list p p' hs, fun W0 W τ σ h Q l fr rh o => ?_⟩
  refine q W0 W τ σ h _ l fr rh (okG.bind o fun x h1 W1 v l1 rh1 b1 o1 => ?_)
  refine q' W0 W1 τ σ h1 _ (l.trans l1) (fr.mono l1) rh1 (okG.bind o1 fun y h2 W2 u l2 rh2 b2 o2 => ?_)
  have b1 := b1.mono l2.toLeF
  cases x with
  | ref n =>
    cases y with
    | int i =>
      rw [Rep] at b1
      rw [Rep] at b2
      subst b2
      obtain ⟨a, ea, rfl⟩ := b1
      have o2 : okG C.g.K C.g.mg (Rep C.g.K) W2 (fun c dd H => E c dd σ H) Q (match h2[n]? with | some xs => toRes (atI xs i) h2 | none => .bad) := o2
      cases eh : h2[n]? with
      | none => rw [eh] at o2; exact o2.elim
      | some xs =>
        rw [eh] at o2
        obtain ⟨d, e, k⟩ := toRes_some o2
        obtain ⟨vs, ev, r⟩ := rh2.at_ n xs a eh ea
        obtain ⟨v, ev2, rv⟩ := atI_reps r e
        exact ⟨a, vs, i, v, rfl, rfl, .of ev, ev2, k W2 _ (.refl _) rh2 rv⟩
    | _ => exact (show False from o2).elim
  | _ => exact (show False from o2).elim
end

/-! ### slices: a part is a number or left out -/
abbrev DP := List Sl → HS → Res (Option Int)
def DenO (C : Cn) (e : Option Expr) (f : DP) : Prop := DenG C (fun X t => PO X e t) (fun _ _ a b => a = b) f
def cutD {α : Type} (xs : List α) (lo hi : Option Int) : List α := (xs.drop (HT.sIx xs.length 0 lo)).take (HT.sIx xs.length xs.length hi - HT.sIx xs.length 0 lo)
def sliceD (x : D) (lo hi : Option Int) : Option D := match x with
  | .tup xs => some (.tup (cutD xs lo hi))
  | .lst xs => some (.lst (cutD xs lo hi))
  | _ => none
def sliceR (a : DE) (lo hi : DP) : DE := fun τ h => (a τ h).bind fun x h1 => (lo τ h1).bind fun i h2 => (hi τ h2).bind fun j h3 => toRes (sliceD x i j) h3
theorem cut_reps {K : PySem.W.Frag} {W : Wd} {ds : List D} {vs : List V} (r : Reps K W ds vs) (lo hi : Option Int) : Reps K W (cutD ds lo hi) (cutV vs lo hi) := by
  unfold cutD cutV
  rw [r.length]
  exact (r.drop _).take _
section
variable {C : Cn} {a e : Expr} {fa fe : DE} {pos p2 : Pos} {lo hi : Option Expr} {fl fh : DP}
theorem den_pnone : DenO C none (fun _ h => .ok none h) := fun X E ok => ⟨_, po_none, fun W0 W τ σ h Q l fr rh o => okG.now o rh rfl⟩
theorem den_psome (he : DenB C e fe) : DenO C (some e) (fun τ h => (fe τ h).bind fun d h1 => match d with | .int i => .ok (some i) h1 | _ => .bad) := fun X E ok => by
  obtain ⟨t, p, q⟩ := he X E ok
  refine ⟨_, po_some p, fun W0 W τ σ h Q l fr rh o => ?_⟩
  refine q W0 W τ σ h _ l fr rh (okG.bind o fun x h1 W1 v l1 rh1 b1 o1 => ?_)
  cases x with
  | int i => exact ⟨i, b1.int, okG.now o1 rh1 rfl⟩
  | _ => exact (show False from o1).elim
theorem den_slT (ha : DenB C a fa) (hl : DenO C lo fl) (hh : DenO C hi fh) : DenE C (.Subscript a (.Slice lo hi none p2) pos) (sliceR fa fl fh) := fun X E ok => by
  obtain ⟨t, p, q⟩ := ha X E ok
  obtain ⟨t1, p1, q1⟩ := hl X E ok
  obtain ⟨t2, p2, q2⟩ := hh X E ok
  refine ⟨_, pe_slice (L2.SlR.or sl_list sl_tupA) p p1 p2, fun W0 W τ σ h Q l fr rh o => ?_⟩
  refine q W0 W τ σ h _ l fr rh (okG.bind o fun x h1 W1 v l1 rh1 b1 o1 => ?_)
  refine q1 W0 W1 τ σ h1 _ (l.trans l1) (fr.mono l1) rh1 (okG.bind o1 fun i h2 W2 i' l2 rh2 e2 o2 => ?_)
  subst e2
  refine q2 W0 W2 τ σ h2 _ ((l.trans l1).trans l2) ((fr.mono l1).mono l2) rh2 (okG.bind o2 fun j h3 W3 j' l3 rh3 e3 o3 => ?_)
  subst e3
  obtain ⟨d, e, k⟩ := toRes_some o3
  have b1 := b1.mono (l2.trans l3)
  cases x with
  | tup xs =>
    cases e
    obtain ⟨a, vs, rfl, sq, r, rr⟩ := b1.tup
    refine .inr ⟨a, vs, rfl, by rw [ok.K]; exact sq, fun hw => ?_, fun hw p np => ?_⟩
    · rw [← r.length] at hw
      have : cutD xs i j = xs := by unfold cutD; rw [hw.1, hw.2]; simp
      rw [this] at k
      exact k W3 _ (.refl _) rh3 rr
    · obtain ⟨W4, eH, l4, rh4, n⟩ := new_tup np rh3 (cut_reps r i j)
      rw [← eH]
      exact k _ _ l4 rh4 n
  | lst xs =>
    cases e
    obtain ⟨a, vs, rfl, sq, r⟩ := b1.lst
    refine .inl ⟨a, vs, rfl, by rw [ok.K]; exact .of sq, fun p np => ?_⟩
    obtain ⟨l4, rh4, n⟩ := new_lst np rh3 (cut_reps r i j)
    obtain ⟨W5, eH, l5, rh5, r5⟩ := n.freeze l4 rh4
    have eH' : W5.H = upd W3.H p (.lst (cutV vs i j)) := eH
    rw [← eH']
    exact k _ _ l5 rh5 r5
  | _ => cases e
end

/-! ### calls of defs -/
abbrev DF := List D → HS → Res D
def spOf (g : Gx) (n : Nat) (φ : DF) : Sp := fun vs H Q E => vs.length = n ∧ ∃ W ds h, W.H = H ∧ RH g.K W h ∧ Reps g.K W ds vs ∧ okG g.K g.mg (Rep g.K) W E Q (φ ds h)
/-- a def's promise; nothing is under way that a text of a list could run into -/
structure FnG (g : Gx) (b : Bool) (k : Nat) (f : Addr) (fd : FuncData) (ps : List Str) (sp : Sp) : Prop where
  len : ∀ vs H Q E, sp vs H Q E → vs.length = ps.length
  run : ∀ (Ar : Around) (out : List Env) (z : Shared) (H : Hp) (gs : Args) (us : List Value) (vs : List V) (Q : VK) (E : XK), Room k Ar → (b = true → Ar.guards = some []) → Env0 g.P g.w g.K g.mg g.base Ar out z H →
    BindsTo z fd gs (ps.zip us) → Vals vs us → sp vs H Q E → codeAny (model g.P g.w) Ar (.call (.ref f) gs) (CR (L2.CX g.P g.w) out g.P g.w H z Q E) z
theorem FnG.imp {g : Gx} {b : Bool} {k : Nat} {f : Addr} {fd : FuncData} {ps : List Str} {sp sp' : Sp} (F : FnG g b k f fd ps sp) (h : ∀ vs H Q E, sp' vs H Q E → sp vs H Q E) : FnG g b k f fd ps sp' :=
  ⟨fun vs H Q E q => F.len vs H Q E (h _ _ _ _ q), fun Ar out z H gs us vs Q E hr hg e0 b r q => F.run Ar out z H gs us vs Q E hr hg e0 b r (h _ _ _ _ q)⟩
theorem FnG.made {g : Gx} {b : Bool} {k : Nat} {f : Addr} {name qual : Str} {params : Arguments} {body : List Stmt} {scope : Scope} {dV kV doc pm cdv ct oc : Value} {an od : Option Addr} {osl : Array (Option Value)} {N ps : List Str} {sp : Sp}
    (lk : g.K.lookup f = some ⟨oc, od, .func (PySem.W.fnOf name qual params body scope dV kV doc pm an cdv ct), osl⟩) (hcd : PySem.W.codeIn g.K cdv qual = true) (S : FnScope N ps scope) (len : ∀ vs H Q E, sp vs H Q E → vs.length = ps.length)
    (hb : ∀ (Ar : Around) (out : List Env) (z : Shared) (H : Hp) (vs : List V) (Q : VK) (E : XK), Room k (Ar.deeper (envOfC qual scope z.heap.objs.size f cdv)) → (b = true → Ar.guards = some []) → sp vs H Q E →
      ∃ t, PSs (cxOf (L2.CX g.P g.w) g.P g.w g.K g.mg g.base N qual scope f cdv Ar out z H E) body t ∧ t { nx := fun _ H' => Q .non H', rt := Q } (L2.start N vs) H) :
    FnG g b (k + 1) f (PySem.W.fnOf name qual params body scope dV kV doc pm an cdv ct) ps sp :=
  ⟨len, fun Ar out z H _ _ vs Q E hr hg e0 b r q => LamX.run_ofS lk hcd S hr e0 b r (len _ _ _ _ q) fun hr' => hb Ar out z H vs Q E hr' hg q⟩
theorem pe_callG {X : Cx} {b : Bool} {k : Nat} {f : Addr} {fd : FuncData} {ps : List Str} {sp : Sp} {E : L2.St → XK} {x : Str} {p pos : Pos} {e : Expr} {es : List Expr} {t : TA} (F : FnG ⟨X.prog, X.w, X.K, X.mg, X.base⟩ b k f fd ps sp) (hr : Room k X.A) (gd : b = true → X.A.guards = some [])
    (hg : Gl X x) (hm : X.mg x = some (.ref f)) (hk : PySem.W.keepIn X.K (.ref f) = true) (hb : L2.Binds X.K fd ps []) (hx : ∀ σ, PassesAt (L2.CX X.prog X.w) X σ (E σ)) (ha : PA X (e :: es) t) (hdb : (x == ("__debug__" : Str)) = false)
    (he : starEach (e :: es) X.env = (false, eval e X.env) :: starEach es X.env) (hpl : (backTo pos (starEach es X.env)).any (·.1) = false) : PE X (.Call (.Name x p) (e :: es) [] pos) (fun σ H Q => t σ H fun vs H1 => sp vs H1 Q (E σ)) :=
  ⟨fun pins s σ H Q I h => wpAny_Call_Name_kw (ld_glob I hg hm (by
    refine PySem.W.callWith_K (h₀ := X.base) I.ok.mod.kin hk (thn (ha.run pos pins s σ H _ I h) fun us s1 ⟨vs, H1, I1, rv, q⟩ => ⟨I1.kIn, ?_⟩) he hpl
    have bd := hb s1 us I1.kIn (by rw [List.append_nil, ← rv.length]; exact F.len _ _ _ _ q)
    rw [List.append_nil] at bd
    refine wpAny_call (codeAny_mono (F.run X.A X.stack s1 H1 ⟨us, []⟩ us vs Q (E σ) hr gd I1.env0 bd rv q) fun z s2 hz => ?_)
    match z, hz with
    | .error ex, hz => exact hx σ pins H1 s1 ex s2 I1 hz
    | .ok (.ret u), hz => exact I1.after hz) hdb)⟩
/-- the def x of n parameters is worth φ, at the level k -/
def FnD (g : Gx) (x : Str) (n k : Nat) (φ : DF) : Prop :=
  ∃ (f : Addr) (fd : FuncData) (ps : List Str), FnG g false k f fd ps (spOf g n φ) ∧ g.mg x = some (.ref f) ∧ PySem.W.keepIn g.K (.ref f) = true ∧ L2.Binds g.K fd ps []
def callR (n : Nat) (φ : DF) (a : DA) : DE := fun τ h => (a τ h).bind fun ds h1 => if ds.length = n then φ ds h1 else .bad
section
variable {C : Cn} {x : Str} {e : Expr} {es : List Expr} {fs : DA} {φ : DF} {n k : Nat} {p pos : Pos}
theorem den_call (F : FnD C.g x n k φ) (hk : k ≤ C.k) (hg : glB C.sc x = true) (ha : DenA C (e :: es) fs)
    (he : ∀ env, starEach (e :: es) env = (false, eval e env) :: starEach es env) (hpl : ∀ env, (backTo pos (starEach es env)).any (·.1) = false) : DenE C (.Call (.Name x p) (e :: es) [] pos) (callR n φ fs) := fun X E ok => by
  obtain ⟨t, pa, q⟩ := ha X E ok
  obtain ⟨f, fd, ps, F, m, kp, b⟩ := F
  obtain ⟨g1, g2, g3⟩ := glB_ok ok hg
  refine ⟨_, pe_callG (b := false) (E := WE E) (sp := spOf C.g n φ) (by rw [ok.prog, ok.w, ok.K, ok.mg, ok.base]; exact F) (ok.room.mono hk) (fun z => nomatch z) g1 (by rw [ok.mg]; exact m) (by rw [ok.K]; exact kp) (by rw [ok.K]; exact b) (fun σ => passAt ok.takes σ) pa g2 (he _) (hpl _), fun W0 W τ σ h Q l fr rh o => ?_⟩
  refine q W0 W τ σ h _ l fr rh (okG.bind o fun ds h1 W1 vs l1 rh1 b1 o1 => ?_)
  by_cases hn : ds.length = n
  · rw [if_pos hn] at o1
    exact ⟨by rw [← b1.length]; exact hn, W1, ds, h1, rfl, rh1, b1, o1⟩
  · rw [if_neg hn] at o1; exact o1.elim
theorem den_call0 (F : FnD C.g x 0 k φ) (hk : k ≤ C.k) (hg : glB C.sc x = true) (hp : ∀ X E, CxOk C X E → Passes (L2.CX X.prog X.w) X (fun c d H => ∃ σ, E c d σ H)) : True := trivial
end

/-! ### calls of built-ins -/
def BorsAll (K : PySem.W.Frag) (W : Wd) : List D → List V → Prop
  | [], vs => vs = []
  | x :: xs, vs => ∃ v r, vs = v :: r ∧ Bor K W x v ∧ BorsAll K W xs r
abbrev DenAB (C : Cn) (es : List Expr) (f : DA) : Prop := DenG C (fun X t => PA X es t) (fun _ => BorsAll C.g.K) f
theorem BorsAll.mono {K : PySem.W.Frag} {W W' : Wd} (l : Le W W') : ∀ {ds : List D} {vs : List V}, BorsAll K W ds vs → BorsAll K W' ds vs
  | [], _, h => h
  | x :: xs, _, ⟨v, r, e, b, t⟩ => ⟨v, r, e, b.mono l, BorsAll.mono l t⟩
/-- g: what the built-in makes of its arguments -/
def CalD (C : Cn) (f : Value) (g : List D → Option D) : Prop :=
  ∀ X E, CxOk C X E → ∃ r, CallR X f r ∧ ∀ W h ds vs d (Q : VK), RH C.g.K W h → BorsAll C.g.K W ds vs → g ds = some d → (∀ W' b, Le W W' → RH C.g.K W' h → Rep C.g.K W' d b → Q b W'.H) → r vs W.H Q
def CalN (C : Cn) (f : Value) (g : List D → Option D) : Prop :=
  ∀ X E, CxOk C X E → ∃ r, CallR X f r ∧ ∀ W h ds vs d (Q : VK), RH C.g.K W h → BorsAll C.g.K W ds vs → g ds = some d → (∀ W' b, Le W W' → RH C.g.K W' h → NewR C.g.K W W' d b → Q b W'.H) → r vs W.H Q
theorem CalN.d {C : Cn} {f : Value} {g : List D → Option D} (h : CalN C f g) : CalD C f g := fun X E ok => by
  obtain ⟨r, hr, q⟩ := h X E ok
  refine ⟨r, hr, fun W s ds vs d Q rh b e k => q W s ds vs d Q rh b e fun W' b l rh' n => ?_⟩
  obtain ⟨W2, e2, l2, rh2, r2⟩ := n.freeze l rh'
  rw [← e2]
  exact k W2 b l2 rh2 r2
theorem CalD.or {C : Cn} {f : Value} {g g' : List D → Option D} (h : CalD C f g) (h' : CalD C f g') : CalD C f (fun x => (g x).or (g' x)) := fun X E ok => by
  obtain ⟨r, p, q⟩ := h X E ok
  obtain ⟨r', p', q'⟩ := h' X E ok
  refine ⟨_, L2.CallR.or p p', fun W s x v d Q rh b e k => ?_⟩
  have e : (g x).or (g' x) = some d := e
  cases e1 : g x with
  | some d' =>
    rw [e1] at e
    cases e
    exact .inl (q W s x v _ Q rh b e1 k)
  | none =>
    rw [e1] at e
    exact .inr (q' W s x v d Q rh b e k)
def biR (g : List D → Option D) (a : DA) : DE := fun τ h => (a τ h).bind fun ds h1 => toRes (g ds) h1
section
variable {C : Cn} {x : Str} {e : Expr} {es : List Expr} {fe : DE} {fs : DA} {g : List D → Option D} {p pos : Pos} {id T : String}
theorem den_abnil : DenAB C [] (fun _ h => .ok [] h) := fun X E ok => ⟨_, pa_nil, fun W0 W τ σ h Q l fr rh o => okG.now o rh rfl⟩
theorem den_abcons (he : DenB C e fe) (hr : DenAB C es fs) (hs : ∀ env, starEach (e :: es) env = (false, eval e env) :: starEach es env) : DenAB C (e :: es) (consR fe fs) := fun X E ok => by
  obtain ⟨t, p, q⟩ := he X E ok
  obtain ⟨t', p', q'⟩ := hr X E ok
  refine ⟨_, pa_cons p p' (hs _), fun W0 W τ σ h Q l fr rh o => ?_⟩
  refine q W0 W τ σ h _ l fr rh (okG.bind o fun x h1 W1 v l1 rh1 b1 o1 => ?_)
  refine q' W0 W1 τ σ h1 _ (l.trans l1) (fr.mono l1) rh1 (okG.bind o1 fun y h2 W2 u l2 rh2 b2 o2 => ?_)
  exact okG.now o2 rh2 ⟨v, u, rfl, b1.mono l2, b2⟩
theorem den_bi (hc : CalD C (.builtin id) g) (hg : glB C.sc x = true) (hm : C.g.mg x = none) (hv : bootBuiltins x = some (.builtin id)) (ha : DenAB C (e :: es) fs)
    (he : ∀ env, starEach (e :: es) env = (false, eval e env) :: starEach es env) (hpl : ∀ env, (backTo pos (starEach es env)).any (·.1) = false) : DenE C (.Call (.Name x p) (e :: es) [] pos) (biR g fs) := fun X E ok => by
  obtain ⟨t, pa, q⟩ := ha X E ok
  obtain ⟨r, hr, qr⟩ := hc X E ok
  obtain ⟨g1, g2, g3⟩ := glB_ok ok hg
  refine ⟨_, pe_callB hr g1 (by rw [ok.mg]; exact hm) hv pa g3 g2 (he _) (hpl _), fun W0 W τ σ h Q l fr rh o => ?_⟩
  refine q W0 W τ σ h _ l fr rh (okG.bind o fun ds h1 W1 vs l1 rh1 b1 o1 => ?_)
  obtain ⟨d, e, k⟩ := toRes_some o1
  exact qr W1 h1 ds vs d Q rh1 b1 e k
theorem den_bt (hc : CalD C (.type T) g) (hg : glB C.sc x = true) (hm : C.g.mg x = none) (hv : bootBuiltins x = some (.type T)) (ha : DenAB C (e :: es) fs)
    (he : ∀ env, starEach (e :: es) env = (false, eval e env) :: starEach es env) (hpl : ∀ env, (backTo pos (starEach es env)).any (·.1) = false) : DenE C (.Call (.Name x p) (e :: es) [] pos) (biR g fs) := fun X E ok => by
  obtain ⟨t, pa, q⟩ := ha X E ok
  obtain ⟨r, hr, qr⟩ := hc X E ok
  obtain ⟨g1, g2, g3⟩ := glB_ok ok hg
  refine ⟨_, pe_callTy hr g1 (by rw [ok.mg]; exact hm) hv pa g3 g2 (he _) (hpl _), fun W0 W τ σ h Q l fr rh o => ?_⟩
  refine q W0 W τ σ h _ l fr rh (okG.bind o fun ds h1 W1 vs l1 rh1 b1 o1 => ?_)
  obtain ⟨d, e, k⟩ := toRes_some o1
  exact qr W1 h1 ds vs d Q rh1 b1 e k
/-- .. a new list that the frame can keep for itself -/
theorem den_biN (hc : CalN C (.builtin id) g) (hg : glB C.sc x = true) (hm : C.g.mg x = none) (hv : bootBuiltins x = some (.builtin id)) (ha : DenAB C (e :: es) fs)
    (he : ∀ env, starEach (e :: es) env = (false, eval e env) :: starEach es env) (hpl : ∀ env, (backTo pos (starEach es env)).any (·.1) = false) : DenN C (.Call (.Name x p) (e :: es) [] pos) (biR g fs) := fun X E ok => by
  obtain ⟨t, pa, q⟩ := ha X E ok
  obtain ⟨r, hr, qr⟩ := hc X E ok
  obtain ⟨g1, g2, g3⟩ := glB_ok ok hg
  refine ⟨_, pe_callB hr g1 (by rw [ok.mg]; exact hm) hv pa g3 g2 (he _) (hpl _), fun W0 W τ σ h Q l fr rh o => ?_⟩
  refine q W0 W τ σ h _ l fr rh (okG.bind o fun ds h1 W1 vs l1 rh1 b1 o1 => ?_)
  obtain ⟨d, e, k⟩ := toRes_some o1
  exact qr W1 h1 ds vs d Q rh1 b1 e fun W' b l' rh' n => k W' b l' rh' (n.of l1 rh1)
theorem den_btN (hc : CalN C (.type T) g) (hg : glB C.sc x = true) (hm : C.g.mg x = none) (hv : bootBuiltins x = some (.type T)) (ha : DenAB C (e :: es) fs)
    (he : ∀ env, starEach (e :: es) env = (false, eval e env) :: starEach es env) (hpl : ∀ env, (backTo pos (starEach es env)).any (·.1) = false) : DenN C (.Call (.Name x p) (e :: es) [] pos) (biR g fs) := fun X E ok => by
  obtain ⟨t, pa, q⟩ := ha X E ok
  obtain ⟨r, hr, qr⟩ := hc X E ok
  obtain ⟨g1, g2, g3⟩ := glB_ok ok hg
  refine ⟨_, pe_callTy hr g1 (by rw [ok.mg]; exact hm) hv pa g3 g2 (he _) (hpl _), fun W0 W τ σ h Q l fr rh o => ?_⟩
  refine q W0 W τ σ h _ l fr rh (okG.bind o fun ds h1 W1 vs l1 rh1 b1 o1 => ?_)
  obtain ⟨d, e, k⟩ := toRes_some o1
  exact qr W1 h1 ds vs d Q rh1 b1 e fun W' b l' rh' n => k W' b l' rh' (n.of l1 rh1)
end

/-! ### the built-ins -/
def lenG : List D → Option D
  | [.tup xs] => some (.int xs.length)
  | [.lst xs] => some (.int xs.length)
  | [.frl xs] => some (.int xs.length)
  | [.str s] => if fits s.length then some (.int s.length) else none
  | _ => none
def absG : List D → Option D
  | [.int i] => some (.int (if i < 0 then -i else i))
  | _ => none
def maxG : List D → Option D
  | [.int i, .int j] => some (.int (if j > i then j else i))
  | _ => none
def minG : List D → Option D
  | [.int i, .int j] => some (.int (if j < i then j else i))
  | _ => none
def intG : List D → Option D
  | [.int i] => some (.int i)
  | [.bl k] => some (.int (if k then 1 else 0))
  | _ => none
def gcdG : List D → Option D
  | [.int a, .int b] => some (.int ((Nat.gcd a.natAbs b.natAbs : Nat) : Int))
  | _ => none
def tupG : List D → Option D
  | [.tup xs] => some (.tup xs)
  | [.lst xs] => some (.tup xs)
  | _ => none
def listG : List D → Option D
  | [.tup xs] => some (.lst xs)
  | [.lst xs] => some (.lst xs)
  | _ => none
def strG : List D → Option D
  | [.int i] => if i.natAbs.log2 < 1920 then some (.str (toString i)) else none
  | _ => none
/-- the intsD of a list -/
def intsD : List D → Option (List Int)
  | [] => some []
  | .int i :: r => match intsD r with
    | some is => some (i :: is)
    | none => none
  | _ :: _ => none
def boolsD : List D → Option (List Bool)
  | [] => some []
  | .bl i :: r => match boolsD r with
    | some is => some (i :: is)
    | none => none
  | _ :: _ => none
theorem ints_reps {K : PySem.W.Frag} {W : Wd} : ∀ {ds : List D} {vs : List V} {is : List Int}, Reps K W ds vs → intsD ds = some is → vs = is.map V.int
  | [], _, _, h, e => by rw [Reps] at h; cases e; exact h
  | x :: xs, _, is, h, e => by
    rw [Reps] at h
    obtain ⟨v, r, rfl, h1, h2⟩ := h
    cases x <;> simp only [intsD, reduceCtorEq] at e
    rename_i i
    cases q : intsD xs with
    | none => rw [q] at e; cases e
    | some js =>
      rw [q] at e
      cases e
      rw [Rep] at h1
      rw [h1, ints_reps h2 q]
      rfl
theorem bools_reps {K : PySem.W.Frag} {W : Wd} : ∀ {ds : List D} {vs : List V} {is : List Bool}, Reps K W ds vs → boolsD ds = some is → vs = is.map V.bl
  | [], _, _, h, e => by rw [Reps] at h; cases e; exact h
  | x :: xs, _, is, h, e => by
    rw [Reps] at h
    obtain ⟨v, r, rfl, h1, h2⟩ := h
    cases x <;> simp only [boolsD, reduceCtorEq] at e
    rename_i i
    cases q : boolsD xs with
    | none => rw [q] at e; cases e
    | some js =>
      rw [q] at e
      cases e
      rw [Rep] at h1
      rw [h1, bools_reps h2 q]
      rfl
theorem ints_map {is : List Int} : intsD (is.map D.int) = some is := by
  induction is with
  | nil => rfl
  | cons i r ih => simp only [List.map_cons, intsD, ih]
theorem bools_map {is : List Bool} : boolsD (is.map D.bl) = some is := by
  induction is with
  | nil => rfl
  | cons i r ih => simp only [List.map_cons, boolsD, ih]
theorem ints_eq : ∀ {ds : List D} {is : List Int}, intsD ds = some is → ds = is.map D.int
  | [], _, e => by cases e; rfl
  | x :: xs, is, e => by
    cases x <;> simp only [intsD, reduceCtorEq] at e
    cases q : intsD xs with
    | none => rw [q] at e; cases e
    | some js => rw [q] at e; cases e; rw [ints_eq q]; rfl
def sumG : List D → Option D
  | [.lst xs] => (intsD xs).map fun is => .int is.sum
  | [.frl xs] => (intsD xs).map fun is => .int is.sum
  | _ => none
def allG : List D → Option D
  | [.lst xs] => (boolsD xs).map fun is => .bl (is.all id)
  | _ => none
def anyG : List D → Option D
  | [.lst xs] => (boolsD xs).map fun is => .bl (is.any id)
  | _ => none
/-- insertion sort -/
def insI (x : Int) : List Int → List Int
  | [] => [x]
  | y :: r => if x ≤ y then x :: y :: r else y :: insI x r
def sortI : List Int → List Int
  | [] => []
  | x :: r => insI x (sortI r)
theorem insI_perm (x : Int) : ∀ l, (insI x l).Perm (x :: l)
  | [] => .refl _
  | y :: r => by
    unfold insI
    split
    · exact .refl _
    · exact (List.Perm.cons y (insI_perm x r)).trans (.swap x y r)
theorem sortI_perm : ∀ l, (sortI l).Perm l
  | [] => .refl _
  | x :: r => (insI_perm x _).trans ((sortI_perm r).cons x)
theorem insI_sorted (x : Int) : ∀ {l : List Int}, l.Pairwise (· ≤ ·) → (insI x l).Pairwise (· ≤ ·)
  | [], _ => by simp [insI]
  | y :: r, h => by
    unfold insI
    rw [List.pairwise_cons] at h
    split
    · rename_i hxy
      refine List.pairwise_cons.mpr ⟨fun z hz => ?_, List.pairwise_cons.mpr h⟩
      rcases List.mem_cons.mp hz with rfl | hz
      · exact hxy
      · exact Int.le_trans hxy (h.1 z hz)
    · rename_i hxy
      refine List.pairwise_cons.mpr ⟨fun z hz => ?_, insI_sorted x h.2⟩
      rcases List.mem_cons.mp ((insI_perm x r).subset hz) with rfl | hz
      · omega
      · exact h.1 z hz
theorem sortI_sorted : ∀ l : List Int, (sortI l).Pairwise (· ≤ ·)
  | [] => .nil
  | x :: r => insI_sorted x (sortI_sorted r)
theorem sorted_unique : ∀ {l m : List Int}, l.Perm m → l.Pairwise (· ≤ ·) → m.Pairwise (· ≤ ·) → l = m
  | [], m, p, _, _ => (List.nil_perm.mp p).symm
  | x :: l, m, p, hl, hm => by
    cases m with
    | nil => exact absurd p.length_eq (by simp)
    | cons y m =>
      rw [List.pairwise_cons] at hl hm
      have e : x = y := by
        rcases List.mem_cons.mp (p.subset (List.mem_cons_self ..)) with h | h
        · exact h
        · rcases List.mem_cons.mp (p.symm.subset (List.mem_cons_self ..)) with h' | h'
          · exact h'.symm
          · have := hl.1 y h'
            have := hm.1 x h
            omega
      subst e
      rw [sorted_unique (List.perm_cons _ |>.mp p) hl.2 hm.2]
def sortG : List D → Option D
  | [.lst xs] => (intsD xs).map fun is => .lst ((sortI is).map D.int)
  | [.tup xs] => (intsD xs).map fun is => .lst ((sortI is).map D.int)
  | _ => none
section
variable {C : Cn}
theorem BorsAll.one {K : PySem.W.Frag} {W : Wd} {d : D} {vs : List V} (h : BorsAll K W [d] vs) : ∃ v, vs = [v] ∧ Bor K W d v := by
  obtain ⟨v, r, rfl, b, t⟩ := h
  rw [show r = [] from t]
  exact ⟨v, rfl, b⟩
theorem BorsAll.two {K : PySem.W.Frag} {W : Wd} {d e : D} {vs : List V} (h : BorsAll K W [d, e] vs) : ∃ v u, vs = [v, u] ∧ Bor K W d v ∧ Bor K W e u := by
  obtain ⟨v, r, rfl, b, t⟩ := h
  obtain ⟨u, rfl, b2⟩ := BorsAll.one t
  exact ⟨v, u, rfl, b, b2⟩
theorem c_len : CalD C (.builtin "len") lenG := fun X E ok => ⟨_, L2.CallR.or call_len_seq call_len_str, fun W h ds vs d Q rh b e k => by
  unfold lenG at e
  split at e
  · obtain ⟨v, rfl, b1⟩ := BorsAll.one b
    obtain ⟨a, us, rfl, sq, r, _⟩ := b1.tup
    cases e
    exact .inl ⟨a, us, rfl, .inr (by rw [ok.K]; exact sq), by rw [← r.length]; exact k W _ (.refl _) rh rep_int⟩
  · obtain ⟨v, rfl, b1⟩ := BorsAll.one b
    obtain ⟨a, us, rfl, sq, r⟩ := b1.lst
    cases e
    exact .inl ⟨a, us, rfl, .inl (.of sq), by rw [← r.length]; exact k W _ (.refl _) rh rep_int⟩
  · obtain ⟨v, rfl, b1⟩ := BorsAll.one b
    obtain ⟨a, us, rfl, sq, r⟩ := b1.frl
    cases e
    exact .inl ⟨a, us, rfl, .inl (by rw [ok.K]; exact sq), by rw [← r.length]; exact k W _ (.refl _) rh rep_int⟩
  · obtain ⟨v, rfl, b1⟩ := BorsAll.one b
    split at e
    · rename_i hz
      cases e
      rw [b1.str]
      exact .inr ⟨_, rfl, of_decide_eq_true hz, k W _ (.refl _) rh rep_int⟩
    · cases e
  · cases e⟩
theorem c_abs : CalD C (.builtin "abs") absG := fun X E ok => ⟨_, call_abs, fun W h ds vs d Q rh b e k => by
  unfold absG at e
  split at e
  · obtain ⟨v, rfl, b1⟩ := BorsAll.one b
    cases e
    rw [b1.int]
    exact ⟨_, rfl, k W _ (.refl _) rh rep_int⟩
  · cases e⟩
theorem c_max : CalD C (.builtin "max") maxG := fun X E ok => ⟨_, call_max2 ok.calm, fun W h ds vs d Q rh b e k => by
  unfold maxG at e
  split at e
  · obtain ⟨v, u, rfl, b1, b2⟩ := BorsAll.two b
    cases e
    rw [b1.int, b2.int]
    exact ⟨_, _, rfl, k W _ (.refl _) rh rep_int⟩
  · cases e⟩
theorem c_min : CalD C (.builtin "min") minG := fun X E ok => ⟨_, call_min2 ok.calm, fun W h ds vs d Q rh b e k => by
  unfold minG at e
  split at e
  · obtain ⟨v, u, rfl, b1, b2⟩ := BorsAll.two b
    cases e
    rw [b1.int, b2.int]
    exact ⟨_, _, rfl, k W _ (.refl _) rh rep_int⟩
  · cases e⟩
theorem c_gcd : CalD C (.builtin "math.gcd") gcdG := fun X E ok => ⟨_, cr_gcd, fun W h ds vs d Q rh b e k => by
  unfold gcdG at e
  split at e
  · obtain ⟨v, u, rfl, b1, b2⟩ := BorsAll.two b
    cases e
    rw [b1.int, b2.int]
    exact ⟨_, _, rfl, k W _ (.refl _) rh rep_int⟩
  · cases e⟩
theorem c_int : CalD C (.type "int") intG := fun X E ok => ⟨_, call_int1, fun W h ds vs d Q rh b e k => by
  unfold intG at e
  split at e
  · obtain ⟨v, rfl, b1⟩ := BorsAll.one b
    cases e
    rw [b1.int]
    exact .inl ⟨_, rfl, k W _ (.refl _) rh rep_int⟩
  · obtain ⟨v, rfl, b1⟩ := BorsAll.one b
    cases e
    rw [b1.bl]
    exact .inr ⟨_, rfl, k W _ (.refl _) rh rep_int⟩
  · cases e⟩
theorem c_str : CalD C (.type "str") strG := fun X E ok => ⟨_, call_str_int, fun W h ds vs d Q rh b e k => by
  unfold strG at e
  split at e
  · obtain ⟨v, rfl, b1⟩ := BorsAll.one b
    split at e
    · rename_i hz
      cases e
      rw [b1.int]
      exact ⟨_, rfl, hz, k W _ (.refl _) rh rep_str⟩
    · cases e
  · cases e⟩
theorem c_tup : CalD C (.type "tuple") tupG := fun X E ok => ⟨_, call_tuple_of, fun W h ds vs d Q rh b e k => by
  unfold tupG at e
  split at e
  · obtain ⟨v, rfl, b1⟩ := BorsAll.one b
    obtain ⟨a, us, rfl, sq, r, rr⟩ := b1.tup
    cases e
    exact ⟨a, us, rfl, .inr ⟨by rw [ok.K]; exact sq, k W _ (.refl _) rh rr⟩⟩
  · obtain ⟨v, rfl, b1⟩ := BorsAll.one b
    obtain ⟨a, us, rfl, sq, r⟩ := b1.lst
    cases e
    refine ⟨a, us, rfl, .inl ⟨.of sq, fun p np => ?_⟩⟩
    obtain ⟨W2, eH, l, rh', n⟩ := new_tup np rh r
    rw [← eH]
    exact k _ _ l rh' n
  · cases e⟩
theorem cn_list : CalN C (.type "list") listG := fun X E ok => ⟨_, call_list_of, fun W h ds vs d Q rh b e k => by
  unfold listG at e
  split at e
  · obtain ⟨v, rfl, b1⟩ := BorsAll.one b
    obtain ⟨a, us, rfl, sq, r, rr⟩ := b1.tup
    cases e
    refine ⟨a, us, rfl, .inr (by rw [ok.K]; exact sq), fun p np => ?_⟩
    obtain ⟨l, rh', n⟩ := new_lst np rh r
    exact k _ _ l rh' n
  · obtain ⟨v, rfl, b1⟩ := BorsAll.one b
    obtain ⟨a, us, rfl, sq, r⟩ := b1.lst
    cases e
    refine ⟨a, us, rfl, .inl (.of sq), fun p np => ?_⟩
    obtain ⟨l, rh', n⟩ := new_lst np rh r
    exact k _ _ l rh' n
  · cases e⟩
theorem c_sum : CalD C (.builtin "sum") sumG := fun X E ok => ⟨_, cr_sum ok.calm, fun W h ds vs d Q rh b e k => by
  unfold sumG at e
  split at e
  · obtain ⟨v, rfl, b1⟩ := BorsAll.one b
    obtain ⟨a, us, rfl, sq, r⟩ := b1.lst
    obtain ⟨is, q, rfl⟩ := Option.map_eq_some_iff.mp e
    rw [ints_reps r q] at sq
    exact ⟨a, is, rfl, .of sq, k W _ (.refl _) rh rep_int⟩
  · obtain ⟨v, rfl, b1⟩ := BorsAll.one b
    obtain ⟨a, us, rfl, sq, r⟩ := b1.frl
    obtain ⟨is, q, rfl⟩ := Option.map_eq_some_iff.mp e
    rw [ints_reps r q] at sq
    exact ⟨a, is, rfl, by rw [ok.K]; exact sq, k W _ (.refl _) rh rep_int⟩
  · cases e⟩
theorem c_all : CalD C (.builtin "all") allG := fun X E ok => ⟨_, cr_all ok.calm, fun W h ds vs d Q rh b e k => by
  unfold allG at e
  split at e
  · obtain ⟨v, rfl, b1⟩ := BorsAll.one b
    obtain ⟨a, us, rfl, sq, r⟩ := b1.lst
    obtain ⟨is, q, rfl⟩ := Option.map_eq_some_iff.mp e
    rw [bools_reps r q] at sq
    exact ⟨a, is, rfl, .of sq, k W _ (.refl _) rh rep_bl⟩
  · cases e⟩
theorem c_any : CalD C (.builtin "any") anyG := fun X E ok => ⟨_, cr_any ok.calm, fun W h ds vs d Q rh b e k => by
  unfold anyG at e
  split at e
  · obtain ⟨v, rfl, b1⟩ := BorsAll.one b
    obtain ⟨a, us, rfl, sq, r⟩ := b1.lst
    obtain ⟨is, q, rfl⟩ := Option.map_eq_some_iff.mp e
    rw [bools_reps r q] at sq
    exact ⟨a, is, rfl, .of sq, k W _ (.refl _) rh rep_bl⟩
  · cases e⟩
theorem reps_ints {K : PySem.W.Frag} {W : Wd} : ∀ is : List Int, Reps K W (is.map D.int) (is.map V.int)
  | [] => .nil
  | i :: r => .cons rep_int (reps_ints r)
def sortLG : List D → Option D
  | [.lst xs] => (intsD xs).map fun is => .lst ((sortI is).map D.int)
  | _ => none
theorem cn_sortL : CalN C (.builtin "sorted") sortLG := fun X E ok => ⟨_, cr_sortedI, fun W h ds vs d Q rh b e k => by
  unfold sortLG at e
  split at e
  · obtain ⟨v, rfl, b1⟩ := BorsAll.one b
    obtain ⟨a, us, rfl, sq, r⟩ := b1.lst
    obtain ⟨is, q, rfl⟩ := Option.map_eq_some_iff.mp e
    rw [ints_reps r q] at sq
    refine ⟨a, is, rfl, .of sq, fun ns p hp hs np => ?_⟩
    have := sorted_unique (hp.trans (sortI_perm is).symm) hs (sortI_sorted is)
    subst this
    obtain ⟨l, rh', n⟩ := new_lst np rh (reps_ints _)
    exact k _ _ l rh' n
  · cases e⟩
end
end Sw

/-! Sw, part F: what loops walk; comprehensions. -/
namespace Sw
open PySem PySem.Spec PyProof.Rows L2
variable [Tbs]

/-! ### enumerate(tuple) -/
theorem meets_enum1 {v : Value} {o : Obj} {H : Heap → Prop} (B : Begins v o H) :
    Meets (Builtin.«enumerate.__new__» ⟨[.type "enumerate", v], []⟩) (fun _ R s => H s.heap ∧
      R (.ok (.ret (.ref (s.heap.push o).objs.size))) { s with heap := (s.heap.push o).push { cls := .type "enumerate", data := .fields #[.none, .bool false, .ref s.heap.objs.size, rawInt 0, .none, .none] } }) :=
  .of_wp fun prog w A R s h => by
    obtain ⟨hp, g, d, tk, os⟩ := s; obtain ⟨h1, h⟩ := h
    have hsub := sub_enumerate
    have q1 : ∀ {A' : Around} {E : Value → Shared → Prop} {Q : Value → Shared → Prop}, Q (.ref hp.objs.size) ⟨hp.push o, g, d, tk, os⟩ → wpAny (model prog w) A' (pyIter v) Q E ⟨hp, g, d, tk, os⟩ :=
      fun q => B.iter prog w _ _ ⟨hp, g, d, tk, os⟩ _ h1 q
    wp_walk using q1
    refine wpAny_stack_any fun st => wpAny_pure ?_
    split
    · rename_i c _ _ _ _ _
      cases (c == Value.type "enumerate")
      · wp_walk using q1
        exact ⟨_, rfl, h⟩
      · wp_walk using q1
        exact ⟨_, rfl, h⟩
    · wp_walk using q1
      exact ⟨_, rfl, h⟩
theorem call_enum1 {prog : Program} {w : World} {A : Around} {E : Value → Shared → Prop} {s : Shared} {v : Value} {o : Obj} {H : Heap → Prop} {Q : Value → Shared → Prop} (B : Begins v o H) (h1 : H s.heap)
    (h : ∀ h', IsEnum h' (s.heap.objs.size + 1) s.heap.objs.size 0 .none → h'.get? s.heap.objs.size = some o → h'.objs.size = s.heap.objs.size + 2 →
      (∀ b o, s.heap.get? b = some o → h'.get? b = some o) → Q (.ref (s.heap.objs.size + 1)) { s with heap := h' }) :
    wpAny (model prog w) A (call (.type "enumerate") [v]) Q E s := by
  refine callType_new F.called_enumerate (by decide) (F.typeCall_enumerate_1 _) (F.newCall_enumerate_1 _) (fun obj => F.args_object_init_2 obj _) F.entry_enumerate_new
    (meets_enum1 B) ⟨h1, ?_⟩
  have hz : (s.heap.push o).objs.size = s.heap.objs.size + 1 := Heap.size_push ..
  show _ ∧ _
  rw [hz]
  have he : IsEnum ((s.heap.push o).push { cls := .type "enumerate", data := .fields #[.none, .bool false, .ref s.heap.objs.size, rawInt 0, .none, .none] }) (s.heap.objs.size + 1) s.heap.objs.size 0 .none := by
    have := Heap.get?_push_size (s.heap.push o) (o := { cls := .type "enumerate", data := .fields #[.none, .bool false, .ref s.heap.objs.size, rawInt 0, .none, .none] }) rfl
    rw [hz] at this; exact this
  refine ⟨⟨_, he, rfl⟩, h _ he (Heap.get?_push_of_some _ (Heap.get?_push_size _ B.free)) (by rw [Heap.size_push, hz]) fun b o x => Heap.get?_push_of_some _ (Heap.get?_push_of_some _ x)⟩
/-- the tuple at a, each item in a new pair -/
def IteT (K : PySem.W.Frag) (a : Addr) : It :=
  ⟨fun i H => ∃ (xs : List V) (x : V), SqT K H a xs ∧ xs[i]? = some x, fun i H v H' => ∃ T x, v = .ref T ∧ H T = none ∧ H' = upd H T (.tup [.int (i : Nat), x]) ∧ ∀ xs, SqT K H a xs → xs[i]? = some x, fun i H => ∃ xs : List V, SqT K H a xs ∧ xs.length = i⟩
theorem turn_enumT {P : Program} {w : World} {K : PySem.W.Frag} {elts : List Expr} {kk : Nat} {tpos : Pos} (a e it : Addr) :
    Turn P w K (.Tuple elts kk tpos) (IteT K a) [e, it] e (fun i h => (∃ old, IsEnum h e it ((i : Nat) : Int) old) ∧ h.IsTupleIter it a i ∧ e ≠ it ∧ a ≠ it ∧ a ≠ e) where
  mem := by simp
  obj := fun i h st b hb => by
    obtain ⟨⟨old, he⟩, ⟨o, ho, hc, hd⟩, _⟩ := st
    have e' : b = e ∨ b = it := by simpa using hb
    rcases e' with z | z
    · rw [z]; exact ⟨_, he, fun v q => nomatch q⟩
    · rw [z]; exact ⟨o, ho, fun v q => by rw [hd] at q; cases q⟩
  keep := fun i h h' st k => let ⟨⟨old, he⟩, hi, hne⟩ := st; ⟨⟨old, k e (by simp) _ he⟩, hi.at fun o q => k it (by simp) o q, hne⟩
  item := by
    intro X hP hw hK hc i pins s σ H E I hf st hg
    subst hP hw hK
    obtain ⟨⟨old, he⟩, hit, hne, na, nae⟩ := st
    obtain ⟨xs, x, hq, hx⟩ := hg
    obtain ⟨its, rv, p, hz⟩ := I.tuple hq
    obtain ⟨u, hu, ru⟩ := rv.get hx
    have hel : e < s.heap.objs.size := Heap.lt_size he
    have hil : it < s.heap.objs.size := by obtain ⟨_, q, _⟩ := hit; exact Heap.lt_size q
    have D := Draws.tuple (prog := X.prog) (w := X.w) (A := X.A.in1) (show X.A.in1.handled = none from I.ok.hd hc) it a na its.toArray
    have hlt : i < its.toArray.size := by
      have := (List.getElem?_eq_some_iff.mp hu).1
      simpa using this
    refine wpAny_pyNext_enum_itemD D he ⟨hit, show s.heap.IsTuple a its.toArray from p⟩ hlt hne (by simp [hne, Ne.symm nae]) fun u' h' tk hP ho hit' hT hsz hk => ?_
    obtain rfl : u = u' := by
      have hP : its[i]? = some u' := by simpa using hP
      rw [hu] at hP; exact Option.some.inj hP
    refine ⟨_, rfl, wpAny_letOwnedTupleGo_enum (s := { s with heap := h', toks := tk + 1 }) ho fun h'' he' sb => ?_⟩
    have hT2 : h''.get? s.heap.objs.size = some { cls := .type "tuple", data := .seq #[.int i tk, u] } := (sb.2 _ (Nat.ne_of_gt hel)).trans hT
    have new : ObjOk X.prog X.w (upd H s.heap.objs.size (.tup [.int (i : Nat), x])) h'' s.heap.objs.size (.tup [.int (i : Nat), x]) :=
      ⟨by show 2 ≤ sizeLine; decide, [.int i tk, u], .cons ⟨_, rfl⟩ (.cons ru .nil), ⟨_, hT2, rfl, _, rfl⟩⟩
    have I1 : Inv X pins σ (upd H s.heap.objs.size (.tup [.int (i : Nat), x])) { s with heap := h'', toks := tk + 1 } :=
      I.turnedNew (ch := [e, it]) (fun b ob hb q => (sb.2 b (fun z => hb (by simp [z]))).trans (hk b ob (fun z => hb (by simp [z])) (fun z => hb (by simp [z])) q)) hf (Nat.le_refl _) new
    refine ⟨.ref s.heap.objs.size, _, I1, rfl, ⟨_, x, rfl, I.hok.fresh (Nat.le_refl _), rfl, fun ys hy => by rw [I.tuple_inj hy hq]; exact hx⟩, ⟨⟨u, ?_⟩, hit'.1.at fun o q => (sb.2 it (Ne.symm hne)).trans q, hne, na, nae⟩, fun b hb => ?_⟩
    · have e1 : ((i + 1 : Nat) : Int) = (i : Int) + 1 := by omega
      rw [e1]; exact he'
    · have hb' : b < s.heap.objs.size := by
        have e' : b = e ∨ b = it := by simpa using hb
        rcases e' with z | z
        · rw [z]; exact hel
        · rw [z]; exact hil
      rw [upd_ne (Nat.ne_of_lt hb')]
      exact (hf b hb).1
  done := by
    intro X hP hw hK hc i pins s σ H E I hf st hg
    subst hP hw hK
    obtain ⟨⟨old, he⟩, hit, hne, na, nae⟩ := st
    obtain ⟨xs, hq, hx⟩ := hg
    obtain ⟨its, rv, p, hz⟩ := I.tuple hq
    obtain ⟨f0, f1, f2, f3, f4, f5⟩ := hf it (by simp)
    have hl := rv.length
    have D := Draws.tuple (prog := X.prog) (w := X.w) (A := X.A.in1) (show X.A.in1.handled = none from I.ok.hd hc) it a na its.toArray
    have e1 : its.toArray.size = i := by rw [List.size_toArray, ← hl, hx]
    exact wpAny_pyNext_enum_endD D he (by rw [e1]; exact ⟨hit, show s.heap.IsTuple a its.toArray from p⟩) fun h' eb => ⟨rfl, I.turned (t' := s.toks) (fun b o hb q => eb b o hb q) f0 f1 f3 f4 f5⟩
  self := fun A i s Q E st h => let ⟨⟨_, he⟩, _⟩ := st; wpAny_pyIter_enum he h
def iEnumA (K : PySem.W.Frag) (ta : TA) : TI := fun σ H R => ta σ H fun vs H1 => ∃ a xs, vs = [.ref a] ∧ ((SqL K H1 a xs ∧ R (Ite K a) H1) ∨ (SqT K H1 a xs ∧ R (IteT K a) H1))
theorem pi_enumA {X : Cx} {e : Expr} {ta : TA} {p pos tpos : Pos} {elts : List Expr} {kk : Nat} (hg : Gl X "enumerate") (hm : X.mg "enumerate" = none) (ha : PA X [e] ta) (hs : starEach [e] X.env = [(false, eval e X.env)]) :
    PI X (.Tuple elts kk tpos) (.Call (.Name "enumerate" p) [e] [] pos) (iEnumA X.K ta) := by
  refine ⟨fun pins s σ H R I h => ?_⟩
  refine Call_ (ld_blt I hg hm boot_enumerate (PyProof.Rows.callWith_type1 (thn (ha.run pos pins s σ H _ I h) fun us s1 ⟨vs, H1, I1, r1, q1⟩ => ?_) hs rfl))
  obtain ⟨a, xs, ex, q⟩ := q1
  subst ex
  cases r1 with
  | cons r rr =>
    cases rr
    cases r
    rcases q with ⟨hq, q⟩ | ⟨hq, q⟩
    · obtain ⟨its, rv, p', hz⟩ := I1.list hq
      refine call_enumerate_list p'.isList fun h' he hit hsz hk => wpAny_pyIter_enum he ?_
      have I2 : Inv X pins σ H1 { s1 with heap := h' } := I1.kept (t' := s1.toks) hk
      refine ⟨s1.heap.objs.size + 1, [s1.heap.objs.size + 1, s1.heap.objs.size], _, _, H1, rfl, I2, turn_enum a (s1.heap.objs.size + 1) s1.heap.objs.size, ⟨⟨.none, he⟩, hit, Nat.succ_ne_self _⟩, fun b hb => ?_, q⟩
      have e' : b = s1.heap.objs.size + 1 ∨ b = s1.heap.objs.size := by simpa using hb
      have hle : s1.heap.objs.size ≤ b := by
        rcases e' with z | z
        · rw [z]; exact Nat.le_add_right _ _
        · rw [z]; exact Nat.le_refl _
      exact I1.fpOk hle (I1.hok.fresh hle)
    · obtain ⟨its, rv, p', hz⟩ := I1.tuple hq
      have hal : a < s1.heap.objs.size := p'.lt
      refine call_enum1 (begins_tuple a its.toArray) (show s1.heap.IsTuple a its.toArray from p') fun h' he hit hsz hk => wpAny_pyIter_enum he ?_
      have I2 : Inv X pins σ H1 { s1 with heap := h' } := I1.kept (t' := s1.toks) hk
      refine ⟨s1.heap.objs.size + 1, [s1.heap.objs.size + 1, s1.heap.objs.size], _, _, H1, rfl, I2, turn_enumT a (s1.heap.objs.size + 1) s1.heap.objs.size, ⟨⟨.none, he⟩, ⟨_, hit, rfl, rfl⟩, Nat.succ_ne_self _, Nat.ne_of_lt hal, Nat.ne_of_lt (Nat.lt_succ_of_lt hal)⟩, fun b hb => ?_, q⟩
      have e' : b = s1.heap.objs.size + 1 ∨ b = s1.heap.objs.size := by simpa using hb
      have hle : s1.heap.objs.size ≤ b := by
        rcases e' with z | z
        · rw [z]; exact Nat.le_add_right _ _
        · rw [z]; exact Nat.le_refl _
      exact I1.fpOk hle (I1.hok.fresh hle)

/-! ### walks: the items told ahead -/
/-- J walks the items, wherever the frozen stays -/
def Walks1 (K : PySem.W.Frag) (W : Wd) (J : It) (items : List D) : Prop := ∀ (j : Nat) (W2 : Wd), LeF W W2 → (∀ a ys, W2.H a = some (.tup ys) → W2.F a) →
  (∀ d, items[j]? = some d → J.go j W2.H ∧ ∀ x H', J.yld j W2.H x H' → ∃ W3, W3.H = H' ∧ Le W2 W3 ∧ (∀ h, RH K W2 h → RH K W3 h) ∧ Rep K W3 d x) ∧ (items.length = j → J.stop j W2.H)
def DenI (C : Cn) (tg e : Expr) (f : DA) : Prop := DenG C (fun X t => PI X tg e t) (fun _ W' items J => Walks1 C.g.K W' J items) f
theorem PI.or {X : Cx} {tg e : Expr} {wi wi' : TI} (h : PI X tg e wi) (h' : PI X tg e wi') : PI X tg e (fun σ H R => wi σ H R ∨ wi' σ H R) :=
  ⟨fun pins s σ H R I q => q.elim (h.run pins s σ H R I) (h'.run pins s σ H R I)⟩
section
variable {K : PySem.W.Frag} {W : Wd}
theorem walks_tup {a : Addr} {xs : List D} {vs : List V} (t : TupAt K W a vs) (r : Reps K W xs vs) : Walks1 K W (Itt K a) xs := fun j W2 l _ => by
  have t2 := (t.mono l).sq
  have r2 := Reps.mono l _ _ r
  refine ⟨fun d e => ?_, fun e => ⟨vs, t2, by rw [← r.length, e]; exact Nat.le_refl _⟩⟩
  obtain ⟨v, ev, rv⟩ := r2.get e
  refine ⟨⟨vs, v, t2, ev⟩, fun x H' y => ?_⟩
  obtain ⟨rfl, y⟩ := y
  have := y vs t2
  rw [ev] at this
  cases this
  exact ⟨W2, rfl, .refl _, fun _ q => q, rv⟩
theorem walks_lst {a : Addr} {xs : List D} {vs : List V} (t : LstAt W a vs) (r : Reps K W xs vs) : Walks1 K W (Itl K a) xs := fun j W2 l _ => by
  have t2 : SqL K W2.H a vs := (t.mono l).sq
  have r2 := Reps.mono l _ _ r
  refine ⟨fun d e => ?_, fun e => ⟨vs, t2, by rw [← r.length, e]; exact Nat.le_refl _⟩⟩
  obtain ⟨v, ev, rv⟩ := r2.get e
  refine ⟨⟨vs, v, t2, ev⟩, fun x H' y => ?_⟩
  obtain ⟨rfl, y⟩ := y
  have := y vs t2
  rw [ev] at this
  cases this
  exact ⟨W2, rfl, .refl _, fun _ q => q, rv⟩
/-- lo, lo + 1, .. -/
def rangeD (lo : Int) : Nat → List D
  | 0 => []
  | n + 1 => .int lo :: rangeD (lo + 1) n
theorem rangeD_get : ∀ (n : Nat) (lo : Int) (j : Nat), (rangeD lo n)[j]? = if j < n then some (.int (lo + (j : Nat))) else none
  | 0, lo, j => by simp [rangeD]
  | n + 1, lo, 0 => by simp [rangeD]
  | n + 1, lo, j + 1 => by
    rw [rangeD, List.getElem?_cons_succ, rangeD_get n (lo + 1) j]
    have : lo + 1 + (j : Int) = lo + ((j + 1 : Nat) : Int) := by omega
    rw [this]
    by_cases h : j < n
    · rw [if_pos h, if_pos (by omega)]
    · rw [if_neg h, if_neg (by omega)]
theorem rangeD_length : ∀ (n : Nat) (lo : Int), (rangeD lo n).length = n
  | 0, _ => rfl
  | n + 1, lo => by rw [rangeD, List.length_cons, rangeD_length n]
theorem walks_rng {lo : Int} {n : Nat} : Walks1 K W (Itr lo n) (rangeD lo n) := fun j W2 l _ => by
  refine ⟨fun d e => ?_, fun e => ?_⟩
  · rw [rangeD_get] at e
    split at e
    · rename_i hj
      cases e
      exact ⟨hj, fun x H' y => by obtain ⟨rfl, rfl⟩ := y; exact ⟨W2, rfl, .refl _, fun _ q => q, rep_int⟩⟩
    · cases e
  · rw [rangeD_length] at e; show n ≤ j; omega
/-- lo, lo + c, .. -/
def rangeC (lo c : Int) : Nat → List D
  | 0 => []
  | n + 1 => .int lo :: rangeC (lo + c) c n
theorem rangeC_get (c : Int) : ∀ (n : Nat) (lo : Int) (j : Nat), (rangeC lo c n)[j]? = if j < n then some (.int (lo + (j : Nat) * c)) else none
  | 0, lo, j => by simp [rangeC]
  | n + 1, lo, 0 => by simp [rangeC]
  | n + 1, lo, j + 1 => by
    rw [rangeC, List.getElem?_cons_succ, rangeC_get c n (lo + c) j]
    have : lo + c + (j : Int) * c = lo + ((j + 1 : Nat) : Int) * c := by
      have : ((j + 1 : Nat) : Int) = (j : Int) + 1 := by omega
      rw [this, Int.add_mul]; omega
    rw [this]
    by_cases h : j < n
    · rw [if_pos h, if_pos (by omega)]
    · rw [if_neg h, if_neg (by omega)]
theorem rangeC_length (c : Int) : ∀ (n : Nat) (lo : Int), (rangeC lo c n).length = n
  | 0, _ => rfl
  | n + 1, lo => by rw [rangeC, List.length_cons, rangeC_length c n]
theorem walks_rngC {lo c : Int} {n : Nat} : Walks1 K W (Itc lo c n) (rangeC lo c n) := fun j W2 l _ => by
  refine ⟨fun d e => ?_, fun e => ?_⟩
  · rw [rangeC_get] at e
    split at e
    · rename_i hj
      cases e
      exact ⟨hj, fun x H' y => by obtain ⟨rfl, rfl⟩ := y; exact ⟨W2, rfl, .refl _, fun _ q => q, rep_int⟩⟩
    · cases e
  · rw [rangeC_length] at e; show n ≤ j; omega
/-- a new pair each turn -/
theorem new_pair {T : Addr} {d e : D} {x y : V} (hT : W.H T = none) (h1 : Rep K W d x) (h2 : Rep K W e y) : ∃ W3, W3.H = upd W.H T (.tup [x, y]) ∧ Le W W3 ∧ (∀ h, RH K W h → RH K W3 h) ∧ Rep K W3 (.tup [d, e]) (.ref T) := by
  refine ⟨(W.put T (.tup [x, y])).frz T, rfl, le_frz (le_put hT) hT, fun h rh => rh_tup hT rh, ?_⟩
  rw [Rep]
  exact ⟨T, [x, y], rfl, .inl ⟨.inr rfl, upd_same⟩, Reps.mono ((le_put hT).toLeF.trans (lef_frz _ _)) _ _ (.cons h1 (.cons h2 .nil))⟩
def enumD (n : Nat) : List D → List D
  | [] => []
  | x :: r => .tup [.int (n : Nat), x] :: enumD (n + 1) r
theorem enumD_get : ∀ (xs : List D) (n j : Nat), (enumD n xs)[j]? = (xs[j]?).map fun x => .tup [.int ((n + j : Nat) : Int), x]
  | [], n, j => by simp [enumD]
  | x :: r, n, 0 => by simp [enumD]
  | x :: r, n, j + 1 => by
    rw [enumD, List.getElem?_cons_succ, enumD_get r (n + 1) j, List.getElem?_cons_succ]
    have : n + 1 + j = n + (j + 1) := by omega
    rw [this]
theorem enumD_length : ∀ (xs : List D) (n : Nat), (enumD n xs).length = xs.length
  | [], _ => rfl
  | x :: r, n => by rw [enumD, List.length_cons, List.length_cons, enumD_length r]
theorem walks_enumT {a : Addr} {xs : List D} {vs : List V} (t : TupAt K W a vs) (r : Reps K W xs vs) : Walks1 K W (IteT K a) (enumD 0 xs) := fun j W2 l _ => by
  have t2 := (t.mono l).sq
  have r2 := Reps.mono l _ _ r
  refine ⟨fun d e => ?_, fun e => ⟨vs, t2, by rw [← r.length, ← e, enumD_length]⟩⟩
  rw [enumD_get] at e
  obtain ⟨z, ez, rfl⟩ := Option.map_eq_some_iff.mp e
  obtain ⟨v, ev, rv⟩ := r2.get ez
  refine ⟨⟨vs, v, t2, ev⟩, fun x H' y => ?_⟩
  obtain ⟨T, x', rfl, hT, rfl, y⟩ := y
  have := y vs t2
  rw [ev] at this
  cases this
  obtain ⟨W3, e1, e2, e3, e4⟩ := new_pair (K := K) (d := .int ((0 + j : Nat) : Int)) (e := z) (x := .int (j : Nat)) hT (by rw [Nat.zero_add]; exact rep_int) rv
  exact ⟨W3, e1, e2, e3, e4⟩
theorem walks_enumL {a : Addr} {xs : List D} {vs : List V} (t : LstAt W a vs) (r : Reps K W xs vs) : Walks1 K W (Ite K a) (enumD 0 xs) := fun j W2 l _ => by
  have t2 : SqL K W2.H a vs := (t.mono l).sq
  have r2 := Reps.mono l _ _ r
  refine ⟨fun d e => ?_, fun e => ⟨vs, t2, by rw [← r.length, ← e, enumD_length]; exact Nat.le_refl _⟩⟩
  rw [enumD_get] at e
  obtain ⟨z, ez, rfl⟩ := Option.map_eq_some_iff.mp e
  obtain ⟨v, ev, rv⟩ := r2.get ez
  refine ⟨⟨vs, v, t2, ev⟩, fun x H' y => ?_⟩
  obtain ⟨T, x', rfl, hT, rfl, y⟩ := y
  have := y vs t2
  rw [ev] at this
  cases this
  obtain ⟨W3, e1, e2, e3, e4⟩ := new_pair (K := K) (d := .int ((0 + j : Nat) : Int)) (e := z) (x := .int (j : Nat)) hT (by rw [Nat.zero_add]; exact rep_int) rv
  exact ⟨W3, e1, e2, e3, e4⟩
def zipD (xs ys : List D) : List D := (xs.zip ys).map fun p => .tup [p.1, p.2]
theorem zipD_get (xs ys : List D) (j : Nat) (d : D) : (zipD xs ys)[j]? = some d ↔ ∃ x y, xs[j]? = some x ∧ ys[j]? = some y ∧ d = .tup [x, y] := by
  unfold zipD
  rw [List.getElem?_map]
  constructor
  · intro h
    obtain ⟨p, hp, rfl⟩ := Option.map_eq_some_iff.mp h
    obtain ⟨h1, h2⟩ := List.getElem?_zip_eq_some.mp hp
    exact ⟨p.1, p.2, h1, h2, rfl⟩
  · rintro ⟨x, y, h1, h2, rfl⟩
    rw [(List.getElem?_zip_eq_some (z := (x, y))).mpr ⟨h1, h2⟩]
    rfl
theorem walks_zipT {a b : Addr} {xs ys : List D} {vs us : List V} (t : TupAt K W a vs) (r : Reps K W xs vs) (t' : TupAt K W b us) (r' : Reps K W ys us) : Walks1 K W (RZ.ItzT K a b) (zipD xs ys) := fun j W2 l _ => by
  have t2 := (t.mono l).sq
  have r2 := Reps.mono l _ _ r
  have t3 := (t'.mono l).sq
  have r3 := Reps.mono l _ _ r'
  refine ⟨fun d e => ?_, fun e => ⟨vs, us, t2, t3, ?_⟩⟩
  · obtain ⟨p, q, ep, eq, rfl⟩ := (zipD_get ..).mp e
    obtain ⟨v, ev, rv⟩ := r2.get ep
    obtain ⟨u, eu, ru⟩ := r3.get eq
    refine ⟨⟨vs, us, v, u, t2, t3, ev, eu⟩, fun x H' y => ?_⟩
    obtain ⟨T, x', y', rfl, hT, rfl, y1, y2⟩ := y
    have := y1 vs t2
    rw [ev] at this
    cases this
    have := y2 us t3
    rw [eu] at this
    cases this
    exact new_pair hT rv ru
  · have : (zipD xs ys).length = min xs.length ys.length := by unfold zipD; simp
    rw [this] at e
    rw [← r.length, ← r'.length]
    omega
theorem walks_zipL {a b : Addr} {xs ys : List D} {vs us : List V} (t : LstAt W a vs) (r : Reps K W xs vs) (t' : LstAt W b us) (r' : Reps K W ys us) : Walks1 K W (Itz K a b) (zipD xs ys) := fun j W2 l _ => by
  have t2 : SqL K W2.H a vs := (t.mono l).sq
  have r2 := Reps.mono l _ _ r
  have t3 : SqL K W2.H b us := (t'.mono l).sq
  have r3 := Reps.mono l _ _ r'
  refine ⟨fun d e => ?_, fun e => ⟨vs, us, t2, t3, ?_⟩⟩
  · obtain ⟨p, q, ep, eq, rfl⟩ := (zipD_get ..).mp e
    obtain ⟨v, ev, rv⟩ := r2.get ep
    obtain ⟨u, eu, ru⟩ := r3.get eq
    refine ⟨⟨vs, us, v, u, t2, t3, ev, eu⟩, fun x H' y => ?_⟩
    obtain ⟨T, x', y', rfl, hT, rfl, y1, y2⟩ := y
    have := y1 vs t2
    rw [ev] at this
    cases this
    have := y2 us t3
    rw [eu] at this
    cases this
    exact new_pair hT rv ru
  · have : (zipD xs ys).length = min xs.length ys.length := by unfold zipD; simp
    rw [this] at e
    rw [← r.length, ← r'.length]
    omega
end
def seqR (a : DE) : DA := fun τ h => (a τ h).bind fun d h1 => match d with
  | .tup xs => .ok xs h1
  | .lst xs => .ok xs h1
  | _ => .bad
def rngR1 (a : DE) : DA := fun τ h => (a τ h).bind fun d h1 => match d with
  | .int n => if decide (-(2 ^ 62) ≤ n) && decide (n < 2 ^ 62) then .ok (rangeD 0 n.toNat) h1 else .bad
  | _ => .bad
def rngR2 (a b : DE) : DA := fun τ h => (a τ h).bind fun x h1 => (b τ h1).bind fun y h2 => match x, y with
  | .int m, .int n => if (decide (-(2 ^ 62) ≤ m) && decide (m < 2 ^ 62)) && (decide (-(2 ^ 62) ≤ n) && decide (n < 2 ^ 62)) then .ok (rangeD m (n - m).toNat) h2 else .bad
  | _, _ => .bad
/-- range(a, b, -1) -/
def rngRm (a b : DE) : DA := fun τ h => (a τ h).bind fun x h1 => (b τ h1).bind fun y h2 => match x, y with
  | .int m, .int n => if (decide (-(2 ^ 62) ≤ m) && decide (m < 2 ^ 62)) && (decide (-(2 ^ 62) ≤ n) && decide (n < 2 ^ 62)) then .ok (rangeC m (-1) (m - n).toNat) h2 else .bad
  | _, _ => .bad
def enumR (a : DE) : DA := fun τ h => (a τ h).bind fun d h1 => match d with
  | .tup xs => .ok (enumD 0 xs) h1
  | .lst xs => .ok (enumD 0 xs) h1
  | _ => .bad
def zipR (a b : DE) : DA := fun τ h => (a τ h).bind fun x h1 => (b τ h1).bind fun y h2 => match x, y with
  | .tup xs, .tup ys => .ok (zipD xs ys) h2
  | .lst xs, .lst ys => .ok (zipD xs ys) h2
  | _, _ => .bad
section
variable {C : Cn} {tg a b : Expr} {fa fb : DE} {p pos tpos : Pos} {elts : List Expr} {kk : Nat}
theorem Rep.tupAt {K : PySem.W.Frag} {W : Wd} {xs : List D} {v : V} (h : Rep K W (.tup xs) v) : ∃ a vs, v = .ref a ∧ TupAt K W a vs ∧ Reps K W xs vs := by rwa [Rep] at h
theorem Rep.lstAt {K : PySem.W.Frag} {W : Wd} {xs : List D} {v : V} (h : Rep K W (.lst xs) v) : ∃ a vs, v = .ref a ∧ LstAt W a vs ∧ Reps K W xs vs := by rwa [Rep] at h
theorem den_iseq (ha : DenE C a fa) : DenI C tg a (seqR fa) := fun X E ok => by
  obtain ⟨t, pa, q⟩ := ha X E ok
  refine ⟨_, PI.or (pi_tup pa) (pi_list pa), fun W0 W τ σ h Q l fr rh o => ?_⟩
  have o : okG C.g.K C.g.mg (fun W' items J => Walks1 C.g.K W' J items) W (fun c dd H => E c dd σ H) Q (seqR fa τ h) := o
  cases e : fa τ h with
  | bad => exact (show False by unfold seqR at o; rw [e] at o; exact o).elim
  | exc x s =>
    refine .inl (q W0 W τ σ h _ l fr rh ?_)
    rw [e]
    unfold seqR at o
    rw [e] at o
    exact o
  | ok d s =>
    unfold seqR at o
    rw [e] at o
    cases d with
    | tup xs =>
      refine .inl (q W0 W τ σ h _ l fr rh ?_)
      rw [e]
      intro W' v l' rh' r
      obtain ⟨a, vs, rfl, t, r⟩ := r.tupAt
      exact ⟨a, rfl, ⟨vs, by rw [ok.K]; exact t.sq⟩, by rw [ok.K]; exact o W' _ l' rh' (walks_tup t r)⟩
    | lst xs =>
      refine .inr (q W0 W τ σ h _ l fr rh ?_)
      rw [e]
      intro W' v l' rh' r
      obtain ⟨a, vs, rfl, t, r⟩ := r.lstAt
      exact ⟨a, rfl, ⟨vs, by rw [ok.K]; exact t.sq⟩, by rw [ok.K]; exact o W' _ l' rh' (walks_lst t r)⟩
    | _ => exact o.elim
theorem den_irng1 (hg : glB C.sc "range" = true) (hm : C.g.mg "range" = none) (ha : DenB C a fa) (hs : ∀ env, starEach [a] env = [(false, eval a env)]) : DenI C tg (.Call (.Name "range" p) [a] [] pos) (rngR1 fa) := fun X E ok => by
  obtain ⟨t, pa, q⟩ := ha X E ok
  obtain ⟨g1, g2, g3⟩ := glB_ok ok hg
  refine ⟨_, pi_range1 g1 (by rw [ok.mg]; exact hm) (pa_cons pa pa_nil (hs _)) (hs _), fun W0 W τ σ h Q l fr rh o => ?_⟩
  refine q W0 W τ σ h _ l fr rh (okG.bind o fun x h1 W1 v l1 rh1 b1 o1 => ?_)
  cases x with
  | int n =>
    rw [b1.int]
    simp only at o1
    split at o1
    · rename_i hc
      simp only [Bool.and_eq_true, decide_eq_true_eq] at hc
      exact ⟨n, rfl, hc.1, hc.2, o1 W1 _ (.refl _) rh1 walks_rng⟩
    · exact o1.elim
  | _ => exact (show False from o1).elim
theorem den_irng2 (hg : glB C.sc "range" = true) (hm : C.g.mg "range" = none) (ha : DenB C a fa) (hb : DenB C b fb) (hs : ∀ env, starEach [a, b] env = [(false, eval a env), (false, eval b env)]) (hs2 : ∀ env, starEach [b] env = [(false, eval b env)]) : DenI C tg (.Call (.Name "range" p) [a, b] [] pos) (rngR2 fa fb) := fun X E ok => by
  obtain ⟨t, pa, q⟩ := ha X E ok
  obtain ⟨t', pb, q'⟩ := hb X E ok
  obtain ⟨g1, g2, g3⟩ := glB_ok ok hg
  refine ⟨_, pi_range2 g1 (by rw [ok.mg]; exact hm) (pa_cons pa (pa_cons pb pa_nil (hs2 _)) (by rw [hs, hs2])) (hs _) (hs2 _), fun W0 W τ σ h Q l fr rh o => ?_⟩
  refine q W0 W τ σ h _ l fr rh (okG.bind o fun x h1 W1 v l1 rh1 b1 o1 => ?_)
  refine q' W0 W1 τ σ h1 _ (l.trans l1) (fr.mono l1) rh1 (okG.bind o1 fun y h2 W2 u l2 rh2 b2 o2 => ?_)
  cases x with
  | int m =>
    cases y with
    | int n =>
      rw [b1.int, b2.int]
      simp only at o2
      split at o2
      · rename_i hc
        simp only [Bool.and_eq_true, decide_eq_true_eq] at hc
        exact ⟨m, n, rfl, ⟨hc.1.1, hc.1.2, hc.2.1, hc.2.2⟩, o2 W2 _ (.refl _) rh2 walks_rng⟩
      · exact o2.elim
    | _ => exact (show False from o2).elim
  | _ => exact (show False from o2).elim
theorem den_ienum (hg : glB C.sc "enumerate" = true) (hm : C.g.mg "enumerate" = none) (ha : DenE C a fa) (hs : ∀ env, starEach [a] env = [(false, eval a env)]) : DenI C (.Tuple elts kk tpos) (.Call (.Name "enumerate" p) [a] [] pos) (enumR fa) := fun X E ok => by
  obtain ⟨t, pa, q⟩ := ha X E ok
  obtain ⟨g1, g2, g3⟩ := glB_ok ok hg
  refine ⟨_, pi_enumA g1 (by rw [ok.mg]; exact hm) (pa_cons pa pa_nil (hs _)) (hs _), fun W0 W τ σ h Q l fr rh o => ?_⟩
  refine q W0 W τ σ h _ l fr rh (okG.bind o fun x h1 W1 v l1 rh1 b1 o1 => ?_)
  cases x with
  | tup xs =>
    obtain ⟨a, vs, rfl, t, r⟩ := b1.tupAt
    exact ⟨a, vs, rfl, .inr ⟨by rw [ok.K]; exact t.sq, by rw [ok.K]; exact o1 W1 _ (.refl _) rh1 (walks_enumT t r)⟩⟩
  | lst xs =>
    obtain ⟨a, vs, rfl, t, r⟩ := b1.lstAt
    exact ⟨a, vs, rfl, .inl ⟨by rw [ok.K]; exact t.sq, by rw [ok.K]; exact o1 W1 _ (.refl _) rh1 (walks_enumL t r)⟩⟩
  | _ => exact (show False from o1).elim
theorem den_izip (hg : glB C.sc "zip" = true) (hm : C.g.mg "zip" = none) (ha : DenE C a fa) (hb : DenE C b fb) (hs : ∀ env, starEach [a, b] env = [(false, eval a env), (false, eval b env)]) (hs2 : ∀ env, starEach [b] env = [(false, eval b env)]) :
    DenI C (.Tuple elts kk tpos) (.Call (.Name "zip" p) [a, b] [] pos) (zipR fa fb) := fun X E ok => by
  obtain ⟨t, pa, q⟩ := ha X E ok
  obtain ⟨t', pb, q'⟩ := hb X E ok
  obtain ⟨g1, g2, g3⟩ := glB_ok ok hg
  refine ⟨_, RZ.pi_zipA g1 (by rw [ok.mg]; exact hm) (pa_cons pa (pa_cons pb pa_nil (hs2 _)) (by rw [hs, hs2])) (by rw [hs, hs2]) (by rw [hs2]; rfl), fun W0 W τ σ h Q l fr rh o => ?_⟩
  refine q W0 W τ σ h _ l fr rh (okG.bind o fun x h1 W1 v l1 rh1 b1 o1 => ?_)
  refine q' W0 W1 τ σ h1 _ (l.trans l1) (fr.mono l1) rh1 (okG.bind o1 fun y h2 W2 u l2 rh2 b2 o2 => ?_)
  have b1 := b1.mono l2.toLeF
  cases x with
  | tup xs =>
    cases y with
    | tup ys =>
      obtain ⟨a, vs, rfl, t, r⟩ := b1.tupAt
      obtain ⟨b, us, rfl, t', r'⟩ := b2.tupAt
      exact ⟨a, b, vs, us, rfl, .inr ⟨by rw [ok.K]; exact t.sq, by rw [ok.K]; exact t'.sq, by rw [ok.K]; exact o2 W2 _ (.refl _) rh2 (walks_zipT t r t' r')⟩⟩
    | _ => exact (show False from o2).elim
  | lst xs =>
    cases y with
    | lst ys =>
      obtain ⟨a, vs, rfl, t, r⟩ := b1.lstAt
      obtain ⟨b, us, rfl, t', r'⟩ := b2.lstAt
      exact ⟨a, b, vs, us, rfl, .inl ⟨by rw [ok.K]; exact t.sq, by rw [ok.K]; exact t'.sq, by rw [ok.K]; exact o2 W2 _ (.refl _) rh2 (walks_zipL t r t' r')⟩⟩
    | _ => exact (show False from o2).elim
  | _ => exact (show False from o2).elim
end
end Sw

/-! Sw, part G: targets, comprehensions. -/
namespace Sw
open PySem PySem.Spec PyProof.Rows L2
variable [Tbs]

/-! ### a frame's slots set -/
section
variable {K : PySem.W.Frag} {W0 W : Wd} {τ : List Sl} {σ : L2.St}
theorem Frm.set (f : Frm K W0 W τ σ) {d : D} {v : V} (i : Nat) (r : Rep K W d v) : Frm K W0 W (τ.set i (.val d)) (σ.set i (some v)) where
  len := by simp [f.len]
  at_ := fun j x e => by
    by_cases hj : i = j
    · subst hj
      by_cases hi : i < τ.length
      · rw [List.getElem?_set_self hi] at e
        cases e
        exact ⟨v, List.getElem?_set_self (by rw [← f.len]; exact hi), r⟩
      · rw [List.getElem?_eq_none (by simpa using hi)] at e; cases e
    · rw [List.getElem?_set_ne hj] at e ⊢
      exact f.at_ j x e
  dis := fun a b x y ad ne e1 e2 o1 o2 => by
    have h1 : i ≠ a := fun z => by
      subst z
      by_cases hi : i < τ.length
      · rw [List.getElem?_set_self hi] at e1; cases e1; cases o1
      · rw [List.getElem?_eq_none (by simpa using hi)] at e1; cases e1
    have h2 : i ≠ b := fun z => by
      subst z
      by_cases hi : i < τ.length
      · rw [List.getElem?_set_self hi] at e2; cases e2; cases o2
      · rw [List.getElem?_eq_none (by simpa using hi)] at e2; cases e2
    rw [List.getElem?_set_ne h1] at e1 ⊢
    rw [List.getElem?_set_ne h2] at e2 ⊢
    exact f.dis a b x y ad ne e1 e2 o1 o2
theorem Frm.drop (f : Frm K W0 W τ σ) (i : Nat) : Frm K W0 W (τ.set i .un) (σ.set i none) where
  len := by simp [f.len]
  at_ := fun j x e => by
    by_cases hj : i = j
    · subst hj
      by_cases hi : i < τ.length
      · rw [List.getElem?_set_self hi] at e
        cases e
        trivial
      · rw [List.getElem?_eq_none (by simpa using hi)] at e; cases e
    · rw [List.getElem?_set_ne hj] at e ⊢
      exact f.at_ j x e
  dis := fun a b x y ad ne e1 e2 o1 o2 => by
    have h1 : i ≠ a := fun z => by
      subst z
      by_cases hi : i < τ.length
      · rw [List.getElem?_set_self hi] at e1; cases e1; cases o1
      · rw [List.getElem?_eq_none (by simpa using hi)] at e1; cases e1
    have h2 : i ≠ b := fun z => by
      subst z
      by_cases hi : i < τ.length
      · rw [List.getElem?_set_self hi] at e2; cases e2; cases o2
      · rw [List.getElem?_eq_none (by simpa using hi)] at e2; cases e2
    rw [List.getElem?_set_ne h1] at e1 ⊢
    rw [List.getElem?_set_ne h2] at e2 ⊢
    exact f.dis a b x y ad ne e1 e2 o1 o2
def wipeT (τ : List Sl) : List Nat → List Sl
  | [] => τ
  | v :: vs => (wipeT τ vs).set v .un
theorem Frm.wipe (f : Frm K W0 W τ σ) : ∀ vs : List Nat, Frm K W0 W (wipeT τ vs) (wipe σ vs)
  | [] => f
  | v :: vs => (Frm.wipe f vs).drop v
theorem wipe_get (σ : L2.St) (i : Nat) : ∀ vs : List Nat, (L2.wipe σ vs)[i]? = if i ∈ vs then (if i < σ.length then some none else none) else σ[i]?
  | [] => by simp [L2.wipe]
  | v :: vs => by
    unfold L2.wipe
    by_cases h : v = i
    · subst h
      rw [if_pos (List.mem_cons_self ..)]
      by_cases hl : v < σ.length
      · rw [if_pos hl, List.getElem?_set_self (by rw [wipe_length]; exact hl)]
      · rw [if_neg hl, List.getElem?_eq_none (by rw [List.length_set, wipe_length]; omega)]
    · rw [List.getElem?_set_ne h, wipe_get σ i vs]
      by_cases h2 : i ∈ vs
      · rw [if_pos h2, if_pos (List.mem_cons_of_mem _ h2)]
      · rw [if_neg h2, if_neg (fun z => (List.mem_cons.mp z).elim (fun q => h q.symm) h2)]
theorem wipe_same {σ σ' : L2.St} {vs : List Nat} (hl : σ'.length = σ.length) (h : ∀ i, i ∉ vs → σ'[i]? = σ[i]?) : L2.wipe σ' vs = L2.wipe σ vs := by
  apply List.ext_getElem?
  intro i
  rw [wipe_get, wipe_get, hl]
  by_cases z : i ∈ vs
  · rw [if_pos z, if_pos z]
  · rw [if_neg z, if_neg z, h i z]
theorem wipe_wipe {σ : L2.St} {vs : List Nat} : L2.wipe (L2.wipe σ vs) vs = L2.wipe σ vs := wipe_same (wipe_length σ vs) fun i z => by rw [wipe_get, if_neg z]
end

/-! ### targets -/
abbrev GT := D → List Sl → Option (List Sl)
/-- the target writes the slots is -/
def DenGt (C : Cn) (tg : Expr) (is : List Nat) (g : GT) : Prop := ∀ X E, CxOk C X E → ∃ t : TG, PG X tg t ∧ ∀ W0 W τ σ d v τ' (Q : L2.St → Hp → Prop), Frm C.g.K W0 W τ σ → Rep C.g.K W d v → g d τ = some τ' →
  (∀ σ', Frm C.g.K W0 W τ' σ' → σ'.length = σ.length → (∀ i, i ∉ is → σ'[i]? = σ[i]?) → (∀ (i : Nat) (x : Sl), τ'[i]? = some x → x.isOwn = true → τ[i]? = some x ∧ σ'[i]? = σ[i]?) → Q σ' W.H) → t v σ W.H Q
def DenGs (C : Cn) (ts : List Expr) (is : List Nat) (g : List D → List Sl → Option (List Sl)) : Prop := ∀ X E, CxOk C X E → ∃ t : TGs, PGs X ts t ∧ ∀ W0 W τ σ ds vs τ' (Q : L2.St → Hp → Prop), Frm C.g.K W0 W τ σ → Reps C.g.K W ds vs → g ds τ = some τ' →
  (∀ σ', Frm C.g.K W0 W τ' σ' → σ'.length = σ.length → (∀ i, i ∉ is → σ'[i]? = σ[i]?) → (∀ (i : Nat) (x : Sl), τ'[i]? = some x → x.isOwn = true → τ[i]? = some x ∧ σ'[i]? = σ[i]?) → Q σ' W.H) → t vs σ W.H Q
def gN (i : Nat) : GT := fun d τ => some (τ.set i (.val d))
def gNilT : List D → List Sl → Option (List Sl)
  | [], τ => some τ
  | _, _ => none
def gConsT (g : GT) (r : List D → List Sl → Option (List Sl)) : List D → List Sl → Option (List Sl)
  | d :: ds, τ => (g d τ).bind (r ds)
  | [], _ => none
def gT (r : List D → List Sl → Option (List Sl)) : GT
  | .tup ds, τ => r ds τ
  | _, _ => none
/-- the name x stands in slot i, and can be stored -/
def stB (N : List Str) (sc : Scope) (fn : Str → Bool) (x : Str) (i : Nat) : Bool :=
  decide (N[i]? = some x) && (match sc.names.lookup x with | some .local => true | some .cell => fn x | _ => false)
theorem stB_ok {C : Cn} {X : Cx} {E : WX} (ok : CxOk C X E) {x : Str} {i : Nat} (h : stB C.N C.sc C.fn x i = true) : X.N[i]? = some x ∧ L2.Loc X.env.scope x ∧ (X.fn x = true ∨ X.env.scope.names.lookup x = some .local) := by
  unfold stB at h
  rw [Bool.and_eq_true, decide_eq_true_eq] at h
  obtain ⟨h1, h2⟩ := h
  refine ⟨by rw [ok.names]; exact h1, ?_⟩
  unfold L2.Loc
  rw [ok.scope]
  cases q : C.sc.names.lookup x with
  | none => rw [q] at h2; cases h2
  | some k =>
    rw [q] at h2
    cases k <;> first | exact ⟨.inl rfl, .inr rfl⟩ | exact ⟨.inr rfl, .inl (ok.fnk x h2)⟩ | cases h2
section
variable {C : Cn} {x : Str} {pos : Pos} {i k n : Nat} {tg : Expr} {ts : List Expr} {is js : List Nat} {g : GT} {r : List D → List Sl → Option (List Sl)}
theorem den_gname (h : stB C.N C.sc C.fn x i = true) : DenGt C (.Name x pos) [i] (gN i) := fun X E ok => by
  obtain ⟨h1, h2, h3⟩ := stB_ok ok h
  refine ⟨_, pg_name ok.nd h1 h2 h3, fun W0 W τ σ d v τ' Q fr rp e k => ?_⟩
  cases e
  refine k _ (fr.set i rp) (by simp) (fun j hj => ?_) fun j x ej ox => ?_
  · exact List.getElem?_set_ne fun z => hj (by rw [z]; exact List.mem_singleton.mpr rfl)
  · have hj : i ≠ j := fun z => by
      subst z
      by_cases hi : i < τ.length
      · rw [List.getElem?_set_self hi] at ej; cases ej; cases ox
      · rw [List.getElem?_eq_none (by simpa using hi)] at ej; cases ej
    rw [List.getElem?_set_ne hj] at ej
    exact ⟨ej, List.getElem?_set_ne hj⟩
theorem den_gnil : DenGs C [] [] gNilT := fun X E ok => ⟨_, pgs_nil, fun W0 W τ σ ds vs τ' Q fr rp e k => by
  cases ds with
  | nil =>
    cases e
    rw [Reps] at rp
    exact ⟨rp, k σ fr rfl (fun _ _ => rfl) fun _ _ e _ => ⟨e, rfl⟩⟩
  | cons _ _ => cases e⟩
theorem den_gcons (h1 : DenGt C tg is g) (h2 : DenGs C ts js r) (hs : ∀ env, (assignEach (tg :: ts) env).map (·.2) = assign tg env :: (assignEach ts env).map (·.2)) : DenGs C (tg :: ts) (is ++ js) (gConsT g r) := fun X E ok => by
  obtain ⟨t, p, q⟩ := h1 X E ok
  obtain ⟨t', p', q'⟩ := h2 X E ok
  refine ⟨_, pgs_cons p p' (hs _), fun W0 W τ σ ds vs τ' Q fr rp e k => ?_⟩
  cases ds with
  | nil => cases e
  | cons d ds =>
    rw [Reps] at rp
    obtain ⟨v, us, rfl, r1, r2⟩ := rp
    have e : (g d τ).bind (r ds) = some τ' := e
    obtain ⟨τ1, e1, e2⟩ := Option.bind_eq_some_iff.mp e
    refine ⟨v, us, rfl, q W0 W τ σ d v τ1 _ fr r1 e1 fun σ1 fr1 l1 s1 o1 => ?_⟩
    refine q' W0 W τ1 σ1 ds us τ' _ fr1 r2 e2 fun σ2 fr2 l2 s2 o2 => ?_
    exact k σ2 fr2 (l2.trans l1) (fun j hj => (s2 j fun z => hj (List.mem_append_right _ z)).trans (s1 j fun z => hj (List.mem_append_left _ z))) fun j x ej ox => by
      obtain ⟨a1, a2⟩ := o2 j x ej ox
      obtain ⟨b1, b2⟩ := o1 j x a1 ox
      exact ⟨b1, a2.trans b2⟩
theorem den_gtup (h : DenGs C ts is r) (hn : ∀ env, (assignEach ts env).length = n) (hst : ∀ env, (assignEach ts env).findIdx? (·.1) = none) (hl : ∀ ds τ τ', r ds τ = some τ' → ds.length = n) : DenGt C (.Tuple ts k pos) is (gT r) := fun X E ok => by
  obtain ⟨t, p, q⟩ := h X E ok
  refine ⟨_, pg_tup ok.calm p (hn _) (hst _), fun W0 W τ σ d v τ' Q fr rp e k => ?_⟩
  cases d with
  | tup ds =>
    obtain ⟨a, vs, rfl, t, r1⟩ := rp.tupAt
    exact ⟨a, vs, rfl, by rw [ok.K]; exact t.sq, by rw [← r1.length]; exact hl _ _ _ e, q W0 W τ σ ds vs τ' _ fr r1 e k⟩
  | _ => cases e
theorem gnil_len : ∀ (ds : List D) (τ τ' : List Sl), gNilT ds τ = some τ' → ds.length = 0
  | [], _, _, _ => rfl
  | _ :: _, _, _, h => by cases h
theorem gcons_len {n : Nat} (h : ∀ (ds : List D) (τ τ' : List Sl), r ds τ = some τ' → ds.length = n) : ∀ (ds : List D) (τ τ' : List Sl), gConsT g r ds τ = some τ' → ds.length = n + 1
  | [], _, _, e => by cases e
  | d :: ds, τ, τ', e => by
    have e : (g d τ).bind (r ds) = some τ' := e
    obtain ⟨τ1, e1, e2⟩ := Option.bind_eq_some_iff.mp e
    rw [List.length_cons, h ds τ1 τ' e2]
end

/-! ### list comprehensions -/
def Res.nox {α : Type} : Res α → Res α
  | .exc _ _ => .bad
  | r => r
theorem okG.bindN {K : PySem.W.Frag} {mg : Str → Option Value} {α β α' β' : Type} {Rel : Wd → α → β → Prop} {Rel' : Wd → α' → β' → Prop} {W W2 : Wd} {E E2 : XK} {Q : β → Hp → Prop} {Q' : β' → Hp → Prop} {r : Res α} {g : α → HS → Res α'}
    (h : okG K mg Rel' W E Q' (r.nox.bind g)) (k : ∀ a s W1 b, Le W2 W1 → RH K W1 s → Rel W1 a b → okG K mg Rel' W E Q' (g a s) → Q b W1.H) : okG K mg Rel W2 E2 Q r := by
  cases r with
  | ok a s => exact fun W1 b l2 rh re => k a s W1 b l2 rh re h
  | exc x s => exact h.elim
  | bad => exact h
/-- the items made by one clause, from the slots τ -/
def lcL (g : GT) (tt : DT) (te : DE) (τ : List Sl) : List D → HS → Res (List D)
  | [], h => .ok [] h
  | x :: r, h => match g x τ with
    | none => .bad
    | some τ1 => (tt τ1 h).nox.bind fun b h1 => if b then (te τ1 h1).nox.bind fun y h2 => (lcL g tt te τ r h2).nox.bind fun ys h3 => .ok (y :: ys) h3 else lcL g tt te τ r h1
def lcR (it : DA) (vs : List Nat) (g : GT) (tt : DT) (te : DE) : DE := fun τ h => (it τ h).bind fun items h1 => if fits items.length then (lcL g tt te (wipeT τ vs) items h1).nox.bind fun ys h2 => .ok (.lst ys) h2 else .bad
abbrev Cn.blk (C : Cn) (scope : Scope) : Cn := { C with sc := relS scope C.sc, fn := fun x => scope.names.lookup x == some .cell, lam := false }
theorem takes_no {X : Cx} : Takes X (fun _ _ _ _ => False) := fun _ _ x => by
  obtain ⟨_, _, _, _, _, _, _, _, _, _, _, _, _, _, _, _, z⟩ := x
  exact z.elim
/-- a name that stands nowhere in a table -/
theorem long_name {β : Type} (x : Str) : ∀ l : List (Str × β), (∀ p ∈ l, p.1.cps.size < x.cps.size) → l.lookup x = none
  | [], _ => rfl
  | (y, b) :: l, h => by
    have hy := h (y, b) List.mem_cons_self
    have ne : (x == y) = false := beq_eq_false_iff_ne.mpr fun e => by subst e; exact Nat.lt_irrefl _ hy
    rw [List.lookup_cons, ne]
    exact long_name x l fun p m => h p (List.mem_cons_of_mem _ m)
theorem all_below {β : Type} : ∀ l : List (Str × β), ∃ n, ∀ p ∈ l, p.1.cps.size < n
  | [] => ⟨0, fun p m => by cases m⟩
  | (y, b) :: l => by
    obtain ⟨n, hn⟩ := all_below l
    refine ⟨n + y.cps.size + 1, fun p m => ?_⟩
    rcases List.mem_cons.1 m with rfl | m
    · show y.cps.size < _; omega
    · have := hn p m; omega
theorem fresh_name {β : Type} (l : List (Str × β)) : ∃ x : Str, l.lookup x = none := by
  obtain ⟨n, hn⟩ := all_below l
  exact ⟨⟨Array.replicate n 0⟩, long_name _ l fun p m => by show p.1.cps.size < (Array.replicate n 0).size; rw [Array.size_replicate]; exact hn p m⟩
theorem CxOk.blk {C : Cn} {X : Cx} {E : WX} (ok : CxOk C X E) (scope : Scope) (s : Shared) (H : Hp) (Cd : Addr) (cl : List (Str × Addr)) (fp : List Addr) : CxOk (C.blk scope) (X.blk s H scope (compEnvC scope cl Cd X.env) fp) (fun _ _ _ _ => False) where
  prog := ok.prog
  w := ok.w
  K := ok.K
  mg := ok.mg
  base := ok.base
  names := ok.names
  nd := ok.nd
  scope := by show relS scope X.env.scope = relS scope C.sc; rw [ok.scope]
  calm := ok.calm
  room := ok.room
  takes := takes_no
  own := PassesOwn.never
  fnk := fun x h => h
  top := fun h => by
    obtain ⟨x, e⟩ := fresh_name scope.names
    have : (scope.names.lookup x == some NameKind.cell) = true := h x
    rw [e] at this
    cases this
  gd := fun z => nomatch z
  lm := fun z => nomatch z
/-- a clause's tests -/
def DenTs (C : Cn) (ifs : List Expr) (f : DT) : Prop := DenG C (fun X t => PTs X ifs t) (fun _ _ a b => a = b) f
theorem den_tsnil {C : Cn} : DenTs C [] (fun _ h => .ok true h) := fun X E ok => ⟨_, pts_nil, fun W0 W τ σ h Q l fr rh o => okG.now o rh rfl⟩
theorem den_tsone {C : Cn} {c : Expr} {f : DT} (h : DenT C c f) : DenTs C [c] f := fun X E ok => by
  obtain ⟨t, p, q⟩ := h X E ok
  exact ⟨_, pts_one p, q⟩
/-- the own object D of a comprehension is written -/
theorem le_own {W W2 : Wd} {Dd : Addr} {o : HO} (l : Le W W2) (n : W.H Dd = none) (nF : ¬ W2.F Dd) : Le W (W2.put Dd o) where
  fr := l.fr
  st := fun a u q0 f r => by
    have ha : a ≠ Dd := fun z => Rd.ne r (z ▸ n)
    rcases l.st a u q0 f r with q | ⟨ob, q⟩
    · exact .inl (by rw [← q]; exact upd_ne ha)
    · exact .inr ⟨ob, by rw [← q]; exact upd_ne ha⟩
  sl := fun a xs q f r => by rw [← l.sl a xs q f r]; exact upd_ne (ne_of_none r n)
  rh := l.rh
  fo := fun a ob e h1 h2 => by
    obtain ⟨b1, b2, b3⟩ := l.fo a ob e h1 h2
    exact ⟨by rw [← b1]; exact upd_ne (ne_of_none e n), b2, b3⟩
theorem lef_own {W2 : Wd} {Dd : Addr} {o : HO} (nF : ¬ W2.F Dd) : LeF W2 (W2.put Dd o) where
  fr := fun _ f => f
  st := fun a u _ f r => by
    have ha : a ≠ Dd := fun z => nF (z ▸ f)
    rcases r with q | ⟨ob, q⟩
    · exact .inl (by rw [← q]; exact upd_ne ha)
    · exact .inr ⟨ob, by rw [← q]; exact upd_ne ha⟩
  sl := fun a xs q f r => by rw [← r]; exact upd_ne fun z => nF (z ▸ f)
  rh := List.prefix_refl _
theorem rh_own {K : PySem.W.Frag} {W2 : Wd} {h : HS} {Dd : Addr} {o : HO} (rh : RH K W2 h) (nF : ¬ W2.F Dd) (nr : Dd ∉ W2.ρ) (no : ∀ xs, o ≠ .tup xs := by intro xs e; cases e) (no2 : oddO o = false := by rfl) : RH K (W2.put Dd o) h where
  len := rh.len
  nd := rh.nd
  at_ := fun i xs a e1 e2 => by
    obtain ⟨vs, q, r⟩ := rh.at_ i xs a e1 e2
    have ha : a ≠ Dd := fun z => nr (z ▸ List.mem_of_getElem? e2)
    exact ⟨vs, by rw [← q]; exact upd_ne ha, Reps.mono (lef_own nF) _ _ r⟩
  nf := rh.nf
  up := fun a f => by
    have ha : a ≠ Dd := fun z => nF (z ▸ f)
    show upd W2.H Dd o a ≠ none
    rw [upd_ne ha]
    exact rh.up a f
  tf := fun a xs e => by
    have e : upd W2.H Dd o a = some (.tup xs) := e
    by_cases z : a = Dd
    · subst z; rw [upd_same] at e; exact (no xs (Option.some.inj e)).elim
    · rw [upd_ne z] at e; exact rh.tf a xs e
  tb := tab_step rh.tb (fun _ f => f) fun b u f _ e => by rw [← e]; exact upd_ne fun z => nF (z ▸ f)
  tn := fun a ps e => by
    have e : upd W2.H Dd o a = some (.tbl ps) := e
    by_cases z : a = Dd
    · subst z; rw [upd_same] at e; cases e; cases no2
    · rw [upd_ne z] at e; exact rh.tn a ps e
  cf := fun a ps e => by
    have e : upd W2.H Dd o a = some (.ext ps) := e
    by_cases z : a = Dd
    · subst z; rw [upd_same] at e; cases e; cases no2
    · rw [upd_ne z] at e; exact rh.cf a ps e
/-- the own list D holds the data accD -/
structure OwnL (K : PySem.W.Frag) (W1 W2 : Wd) (Dd : Addr) (acc : List D) (h : HS) : Prop where
  le : Le W1 W2
  rh : RH K W2 h
  obj : ∃ vs, W2.H Dd = some (.lst vs) ∧ Reps K W2 acc vs
  nF : ¬ W2.F Dd
  nr : Dd ∉ W2.ρ
theorem OwnL.step {K : PySem.W.Frag} {W1 W2 W3 : Wd} {Dd : Addr} {acc : List D} {h h' : HS} (w : OwnL K W1 W2 Dd acc h) (l : Le W2 W3) (rh : RH K W3 h') : OwnL K W1 W3 Dd acc h' := by
  obtain ⟨vs, e, r⟩ := w.obj
  obtain ⟨b1, b2, b3⟩ := l.fo Dd _ e w.nF w.nr
  exact ⟨w.le.trans l, rh, ⟨vs, b1, r.mono l.toLeF⟩, b2, b3⟩
theorem OwnL.app {K : PySem.W.Frag} {W1 W2 : Wd} {Dd : Addr} {acc : List D} {h : HS} {d : D} {v : V} {vs : List V} (w : OwnL K W1 W2 Dd acc h) (n : W1.H Dd = none) (e : W2.H Dd = some (.lst vs)) (r : Rep K W2 d v) :
    OwnL K W1 (W2.put Dd (.lst (vs ++ [v]))) Dd (acc ++ [d]) h := by
  obtain ⟨vs', e', r'⟩ := w.obj
  rw [e] at e'
  cases e'
  exact ⟨le_own w.le n w.nF, rh_own w.rh w.nF w.nr, ⟨_, upd_same, Reps.mono (lef_own w.nF) _ _ (r'.append (.one r))⟩, w.nF, w.nr⟩
/-- a reading for many contexts at once -/
theorem DenG.unif {C : Cn} {α β ι : Type} {J : Cx → (L2.St → Hp → (β → Hp → Prop) → Prop) → Prop} {Rel : Wd → Wd → α → β → Prop} {f : List Sl → HS → Res α} (h : DenG C J Rel f) (Xs : ι → Cx) (E : WX) (oks : ∀ i, CxOk C (Xs i) E)
    (mono : ∀ X t t', J X t → (∀ σ H Q, t' σ H Q → t σ H Q) → J X t') : ∃ t, (∀ i, J (Xs i) t) ∧ ∀ W0 W τ σ h (Q : β → Hp → Prop), Le W0 W → Frm C.g.K W0 W τ σ → RH C.g.K W h →
      okG C.g.K C.g.mg (Rel W) W (fun c dd H => E c dd σ H) Q (f τ h) → t σ W.H Q :=
  ⟨fun σ H Q => ∀ i, Classical.choose (h (Xs i) E (oks i)) σ H Q, fun i => mono _ _ _ (Classical.choose_spec (h (Xs i) E (oks i))).1 fun σ H Q q => q i,
    fun W0 W τ σ s Q l fr rh o i => (Classical.choose_spec (h (Xs i) E (oks i))).2 W0 W τ σ s Q l fr rh o⟩
theorem PE.anti {X : Cx} {e : Expr} {t t' : TE} (h : PE X e t) (k : ∀ σ H Q, t' σ H Q → t σ H Q) : PE X e t' := ⟨fun pins s σ H Q I q => h.run pins s σ H Q I (k _ _ _ q)⟩
theorem PTs.anti {X : Cx} {e : List Expr} {t t' : TT} (h : PTs X e t) (k : ∀ σ H Q, t' σ H Q → t σ H Q) : PTs X e t' := ⟨fun pins s σ H Q I q => h.run pins s σ H Q I (k _ _ _ q)⟩
theorem PI.anti {X : Cx} {tg e : Expr} {t t' : TI} (h : PI X tg e t) (k : ∀ σ H Q, t' σ H Q → t σ H Q) : PI X tg e t' := ⟨fun pins s σ H Q I q => h.run pins s σ H Q I (k _ _ _ q)⟩
theorem PG.anti {X : Cx} {e : Expr} {t t' : TG} (h : PG X e t) (k : ∀ v σ H Q, t' v σ H Q → t v σ H Q) : PG X e t' := ⟨fun pins s σ H v u Q I r q => h.run pins s σ H v u Q I r (k _ _ _ _ q)⟩
theorem DenGt.unif {C : Cn} {ι : Type} {tg : Expr} {is : List Nat} {g : GT} (h : DenGt C tg is g) (Xs : ι → Cx) (E : WX) (oks : ∀ i, CxOk C (Xs i) E) :
    ∃ t : TG, (∀ i, PG (Xs i) tg t) ∧ ∀ W0 W τ σ d v τ' (Q : L2.St → Hp → Prop), Frm C.g.K W0 W τ σ → Rep C.g.K W d v → g d τ = some τ' →
      (∀ σ', Frm C.g.K W0 W τ' σ' → σ'.length = σ.length → (∀ i, i ∉ is → σ'[i]? = σ[i]?) → (∀ (i : Nat) (x : Sl), τ'[i]? = some x → x.isOwn = true → τ[i]? = some x ∧ σ'[i]? = σ[i]?) → Q σ' W.H) → t v σ W.H Q :=
  ⟨fun v σ H Q => ∀ i, Classical.choose (h (Xs i) E (oks i)) v σ H Q, fun i => PG.anti (Classical.choose_spec (h (Xs i) E (oks i))).1 fun v σ H Q q => q i,
    fun W0 W τ σ d v τ' Q fr r e k i => (Classical.choose_spec (h (Xs i) E (oks i))).2 W0 W τ σ d v τ' Q fr r e k⟩
structure BI where
  s : Shared
  H : Hp
  C : Addr
  cl : List (Str × Addr)
  fp : List Addr
abbrev bX (X : Cx) (scope : Scope) (i : BI) : Cx := X.blk i.s i.H scope (compEnvC scope i.cl i.C X.env) i.fp
section
variable {C : Cn} {elt tg iter : Expr} {ifs : List Expr} {scope : Scope} {own : List (Str × Nat)} {pos : Pos} {fi : DA} {g : GT} {is : List Nat} {ft : DT} {fe : DE}
theorem lcL_cons {g : GT} {tt : DT} {te : DE} {τ : List Sl} {x : D} {r : List D} {h : HS} : lcL g tt te τ (x :: r) h = match g x τ with
    | none => .bad
    | some τ1 => (tt τ1 h).nox.bind fun b h1 => if b then (te τ1 h1).nox.bind fun y h2 => (lcL g tt te τ r h2).nox.bind fun ys h3 => .ok (y :: ys) h3 else lcL g tt te τ r h1 := rfl
/-- behind acc: the rest of the items -/
theorem okG.accu {K : PySem.W.Frag} {mg : Str → Option Value} {β : Type} {Rel : Wd → D → β → Prop} {W : Wd} {E : XK} {Q : β → Hp → Prop} {acc : List D} {y : D} {r : Res (List D)}
    (o : okG K mg Rel W E Q ((r.nox.bind fun ys h3 => .ok (y :: ys) h3).nox.bind fun ys h2 => .ok (.lst (acc ++ ys)) h2)) : okG K mg Rel W E Q (r.nox.bind fun ys h2 => .ok (.lst ((acc ++ [y]) ++ ys)) h2) := by
  cases r with
  | ok ys s =>
    have o : okG K mg Rel W E Q (.ok (.lst (acc ++ y :: ys)) s) := o
    show okG K mg Rel W E Q (.ok (.lst ((acc ++ [y]) ++ ys)) s)
    rw [List.append_assoc]
    exact o
  | exc x s => exact o
  | bad => exact o
theorem lc_read {X : Cx} {E : WX} (ok : CxOk C X E) (hi : DenI C tg iter fi) (ho : ∀ i ∈ is, i ∈ own.map (·.2)) (hg : DenGt (C.blk scope) tg is g) (ht : DenTs (C.blk scope) ifs ft) (he : DenE (C.blk scope) elt fe) :
    ∃ (wi : TI) (gt : TG) (tt : TT) (te : TE), PI X tg iter wi ∧ (∀ i, PG (bX X scope i) tg gt) ∧ (∀ i, PTs (bX X scope i) ifs tt) ∧ (∀ i, PE (bX X scope i) elt te) ∧
      ∀ W0 W τ σ h (Q : VK), Le W0 W → Frm C.g.K W0 W τ σ → RH C.g.K W h → okG C.g.K C.g.mg (NewR C.g.K W) W (fun c dd H => E c dd σ H) Q (lcR fi (own.map (·.2)) g ft fe τ h) → tLc wi gt tt te (own.map (·.2)) σ W.H Q := by
  obtain ⟨wi, pi, qi⟩ := hi X E ok
  have oks : ∀ i : BI, CxOk (C.blk scope) (bX X scope i) (fun _ _ _ _ => False) := fun i => ok.blk scope i.s i.H i.C i.cl i.fp
  obtain ⟨gt, pg, qg⟩ := hg.unif (bX X scope) _ oks
  obtain ⟨tt, pt, qt⟩ := ht.unif (bX X scope) _ oks fun X t t' p k => PTs.anti p k
  obtain ⟨te, pe, qe⟩ := he.unif (bX X scope) _ oks fun X t t' p k => PE.anti p k
  refine ⟨wi, gt, tt, te, pi, pg, pt, pe, fun W0 W τ σ h Q l fr rh o => ?_⟩
  refine qi W0 W τ σ h _ l fr rh (okG.bind o fun items h1 W1 J l1 rh1 wk o1 => ?_)
  intro Dd hD
  have hz : fits items.length = true := Classical.byContradiction fun hz => by rw [if_neg hz] at o1; exact o1.elim
  rw [if_pos hz] at o1
  have hz : items.length ≤ sizeLine := of_decide_eq_true hz
  let vs := own.map (·.2)
  let τ0 := wipeT τ vs
  refine ⟨fun i m H => m = items.length - i ∧ i ≤ items.length ∧ ∃ W2 acc h2, W2.H = H ∧ OwnL C.g.K W1 W2 Dd acc h2 ∧ acc.length ≤ i ∧
    okG C.g.K C.g.mg (NewR C.g.K W) W1 (fun c dd H => E c dd σ H) Q ((lcL g ft fe τ0 (items.drop i) h2).nox.bind fun ys h2 => .ok (.lst (acc ++ ys)) h2), ⟨items.length, by simp, Nat.zero_le _, W1.put Dd (.lst []), [], h1, rfl, ?_, Nat.le_refl _, ?_⟩, ?_⟩
  · exact ⟨le_put hD, rh_put hD rh1, ⟨[], upd_same, .nil⟩, fun f => rh1.up _ f hD, fun m => rh1.there m hD⟩
  · rw [List.drop_zero]; exact o1
  rintro i m H ⟨rfl, hi, W2, acc, h2, rfl, w, hacc, o2⟩
  by_cases hlt : i < items.length
  · have hdrop : items.drop i = items[i] :: items.drop (i + 1) := List.drop_eq_getElem_cons hlt
    rw [hdrop, lcL_cons] at o2
    have hit : items[i]? = some items[i] := List.getElem?_eq_getElem hlt
    obtain ⟨hgo, hy⟩ := (wk i W2 w.le.toLeF w.rh.tf).1 _ hit
    refine .inr ⟨hgo, fun H' => ∃ W3 acc h3, W3.H = H' ∧ OwnL C.g.K W1 W3 Dd acc h3 ∧ acc.length ≤ i + 1 ∧
      okG C.g.K C.g.mg (NewR C.g.K W) W1 (fun c dd H => E c dd σ H) Q ((lcL g ft fe τ0 (items.drop (i + 1)) h3).nox.bind fun ys h2 => .ok (.lst (acc ++ ys)) h2), fun H' hN => ⟨items.length - (i + 1), by omega, rfl, hlt, hN⟩, fun x H' y => ?_⟩
    obtain ⟨W3, rfl, l3, k3, r3⟩ := hy x H' y
    have w3 := w.step l3 (k3 _ w.rh)
    have fr3 : Frm C.g.K W0 W3 τ0 (L2.wipe σ vs) := (fr.mono ((l1.trans w.le).trans l3)).wipe vs
    have le03 : Le W0 W3 := (l.trans (l1.trans w.le)).trans l3
    cases eg : g items[i] τ0 with
    | none => rw [eg] at o2; exact o2.elim
    | some τ1 =>
      rw [eg] at o2
      refine qg W0 W3 τ0 _ items[i] x τ1 _ fr3 r3 eg fun σ2 fr4 hl2 hs2 _ => ⟨?_, ?_⟩
      · rw [wipe_same (σ := L2.wipe σ vs) (σ' := σ2) (vs := vs) hl2 fun j hj => hs2 j fun z => hj (ho j z), wipe_wipe]
      · have o2 : okG C.g.K C.g.mg (NewR C.g.K W) W1 (fun c dd H => E c dd σ H) Q (((ft τ1 h2).nox.bind fun b h1 => if b then (fe τ1 h1).nox.bind fun y h2 => (lcL g ft fe τ0 (items.drop (i + 1)) h2).nox.bind fun ys h3 => .ok (y :: ys) h3 else lcL g ft fe τ0 (items.drop (i + 1)) h1).nox.bind fun ys h2 => .ok (.lst (acc ++ ys)) h2) := o2
        cases et : ft τ1 h2 with
        | exc _ _ => rw [et] at o2; exact o2.elim
        | bad => rw [et] at o2; exact o2.elim
        | ok b h4 =>
          refine qt W0 W3 τ1 σ2 h2 _ le03 fr4 w3.rh ?_
          rw [et] at o2 ⊢
          intro W4 b' l4 rh4 hb'
          subst hb'
          have w4 := w3.step l4 rh4
          cases b with
          | false =>
            refine iteF ⟨W4, acc, h4, rfl, w4, Nat.le_succ_of_le hacc, o2⟩
          | true =>
            refine iteT ?_
            cases ee : fe τ1 h4 with
            | exc _ _ =>
              have o2 : okG C.g.K C.g.mg (NewR C.g.K W) W1 (fun c dd H => E c dd σ H) Q (((fe τ1 h4).nox.bind fun y h2 => (lcL g ft fe τ0 (items.drop (i + 1)) h2).nox.bind fun ys h3 => .ok (y :: ys) h3).nox.bind fun ys h2 => .ok (.lst (acc ++ ys)) h2) := o2
              rw [ee] at o2; exact o2.elim
            | bad =>
              have o2 : okG C.g.K C.g.mg (NewR C.g.K W) W1 (fun c dd H => E c dd σ H) Q (((fe τ1 h4).nox.bind fun y h2 => (lcL g ft fe τ0 (items.drop (i + 1)) h2).nox.bind fun ys h3 => .ok (y :: ys) h3).nox.bind fun ys h2 => .ok (.lst (acc ++ ys)) h2) := o2
              rw [ee] at o2; exact o2.elim
            | ok d h5 =>
              have o2 : okG C.g.K C.g.mg (NewR C.g.K W) W1 (fun c dd H => E c dd σ H) Q (((fe τ1 h4).nox.bind fun y h2 => (lcL g ft fe τ0 (items.drop (i + 1)) h2).nox.bind fun ys h3 => .ok (y :: ys) h3).nox.bind fun ys h2 => .ok (.lst (acc ++ ys)) h2) := o2
              refine qe W0 W4 τ1 σ2 h4 _ (le03.trans l4) (fr4.mono l4) rh4 ?_
              rw [ee] at o2 ⊢
              intro W5 yv l5 rh5 r5
              have w5 := w4.step l5 rh5
              obtain ⟨avs, ea, ra⟩ := w5.obj
              refine ⟨avs, ea, ?_, W5.put Dd (.lst (avs ++ [yv])), acc ++ [d], h5, rfl, w5.app hD ea r5, ?_, okG.accu o2⟩
              · rw [← ra.length]; omega
              · rw [List.length_append]; simp; omega
  · have e : i = items.length := by omega
    subst e
    rw [List.drop_length] at o2
    obtain ⟨avs, ea, ra⟩ := w.obj
    refine .inl ⟨(wk _ W2 w.le.toLeF w.rh.tf).2 rfl, ?_⟩
    have o3 : okG C.g.K C.g.mg (NewR C.g.K W) W1 (fun c dd H => E c dd σ H) Q (.ok (.lst (acc ++ [])) h2) := o2
    rw [List.append_nil] at o3
    exact o3 W2 _ w.le w.rh ⟨Dd, avs, rfl, ea, ra, w.nF, w.nr, l1.old rh1 hD⟩
theorem den_lc (hi : DenI C tg iter fi) (hb : blkC C.N C.sc scope own = true) (ho : ∀ i ∈ is, i ∈ own.map (·.2)) (hg : DenGt (C.blk scope) tg is g) (ht : DenTs (C.blk scope) ifs ft) (he : DenE (C.blk scope) elt fe)
    (hs : ∀ env x, foldedSetIterable iter env x = pure x) : DenN C (.ListComp elt [⟨tg, iter, ifs, 0⟩] scope pos) (lcR fi (own.map (·.2)) g ft fe) := fun X E ok => by
  obtain ⟨wi, gt, tt, te, p1, p2, p3, p4, q⟩ := lc_read ok hi ho hg ht he
  exact ⟨_, pe_lc ok.calm ok.nd p1 (blkOk_by (by rw [ok.names, ok.scope]; exact hb)) (fun s H Cd cl fp => p2 ⟨s, H, Cd, cl, fp⟩) (fun s H Cd cl fp => p3 ⟨s, H, Cd, cl, fp⟩) (fun s H Cd cl fp => p4 ⟨s, H, Cd, cl, fp⟩) (hs _), q⟩
end
end Sw

/-! Sw, part H: statements, defs. -/
namespace Sw
open PySem PySem.Spec PyProof.Rows L2
variable [Tbs]

/-- an exception flies while the slots are τ -/
def RS.ofR {α : Type} (r : Res α) (τ : List Sl) (k : α → HS → RS) : RS := match r with
  | .ok a h => k a h
  | .exc x h => .exc x h
  | .bad => .bad
def okS (C : Cn) (W0 W : Wd) (E : WX) (D : Ends) : RS → Prop
  | .nx τ h => ∀ W' σ, Le W0 W' → LeF W W' → Frm C.g.K W0 W' τ σ → RH C.g.K W' h → D.nx σ W'.H
  | .bk τ h => ∀ W' σ, Le W0 W' → LeF W W' → Frm C.g.K W0 W' τ σ → RH C.g.K W' h → D.bk σ W'.H
  | .ct τ h => ∀ W' σ, Le W0 W' → LeF W W' → Frm C.g.K W0 W' τ σ → RH C.g.K W' h → D.ct σ W'.H
  | .rt d h => ∀ W' v, Le W0 W' → LeF W W' → RH C.g.K W' h → Rep C.g.K W' d v → D.rt v W'.H
  | .exc x h => ∀ W' c dd σ, Le W0 W' → LeF W W' → RH C.g.K W' h → ExR C.g.K C.g.mg W' x c dd → E c dd σ W'.H
  | .bad => False
theorem okS.mono {C : Cn} {W0 W W' : Wd} {E : WX} {D : Ends} (l : LeF W W') : ∀ {r : RS}, okS C W0 W E D r → okS C W0 W' E D r
  | .nx τ h, o => fun W2 σ a b => o W2 σ a (l.trans b)
  | .bk τ h, o => fun W2 σ a b => o W2 σ a (l.trans b)
  | .ct τ h, o => fun W2 σ a b => o W2 σ a (l.trans b)
  | .rt d h, o => fun W2 v a b => o W2 v a (l.trans b)
  | .exc x h, o => fun W2 c dd σ a b => o W2 c dd σ a (l.trans b)
  | .bad, o => o
/-- statements: J says which -/
def DenJ (C : Cn) (J : Cx → TS → Prop) (f : DS) : Prop := ∀ X E, CxOk C X E → ∃ t : TS, J X t ∧ ∀ W0 W τ σ h D, Le W0 W → Frm C.g.K W0 W τ σ → RH C.g.K W h → okS C W0 W E D (f τ h) → t D σ W.H
abbrev DenS (C : Cn) (st : Stmt) (f : DS) : Prop := DenJ C (fun X t => PS X st t) f
abbrev DenSs (C : Cn) (st : List Stmt) (f : DS) : Prop := DenJ C (fun X t => PSs X st t) f
/-- from an expression to what is done with its value -/
theorem okS.ex {C : Cn} {α β : Type} {Rel : Wd → α → β → Prop} {W0 W : Wd} {E : WX} {D : Ends} {r : Res α} {τ : List Sl} {σ : L2.St} {k : α → HS → RS} {Q : β → Hp → Prop} (l : Le W0 W) (o : okS C W0 W E D (RS.ofR r τ k))
    (h : ∀ a s W1 b, Le W W1 → RH C.g.K W1 s → Rel W1 a b → okS C W0 W1 E D (k a s) → Q b W1.H) : okG C.g.K C.g.mg Rel W (fun c dd H => E c dd σ H) Q r := by
  cases r with
  | ok a s => exact fun W1 b l1 rh re => h a s W1 b l1 rh re (okS.mono l1.toLeF o)
  | exc x s => exact fun W1 c dd l1 rh re => o W1 c dd σ (l.trans l1) l1.toLeF rh re
  | bad => exact o
/-! ### blocks -/
def seqS (f g : DS) : DS := fun τ h => match f τ h with
  | .nx τ' h' => g τ' h'
  | r => r
def nilS : DS := fun τ h => .nx τ h
section
variable {C : Cn} {st : Stmt} {rest : List Stmt} {f g : DS} {pos : Pos} {e : Expr} {fe : DE} {ft : DT}
theorem den_snil : DenSs C [] nilS := fun X E ok => ⟨_, pss_nil, fun W0 W τ σ h D l fr rh o => o W σ l (.refl _) fr rh⟩
theorem den_scons (h1 : DenS C st f) (h2 : DenSs C rest g) : DenSs C (st :: rest) (seqS f g) := fun X E ok => by
  obtain ⟨t, p, q⟩ := h1 X E ok
  obtain ⟨t', p', q'⟩ := h2 X E ok
  refine ⟨_, pss_cons p p', fun W0 W τ σ h D l fr rh o => ?_⟩
  refine q W0 W τ σ h _ l fr rh ?_
  have o : okS C W0 W E D (match f τ h with | .nx τ' h' => g τ' h' | r => r) := o
  cases ef : f τ h with
  | nx τ' h' =>
    rw [ef] at o
    exact fun W' σ' l1 l2 fr' rh' => q' W0 W' τ' σ' h' D l1 fr' rh' (okS.mono l2 o)
  | rt d s => rw [ef] at o; exact o
  | bk d s => rw [ef] at o; exact o
  | ct d s => rw [ef] at o; exact o
  | exc d s => rw [ef] at o; exact o
  | bad => rw [ef] at o; exact o.elim
theorem den_sone (h1 : DenS C st f) : DenSs C [st] f := fun X E ok => by
  obtain ⟨t, p, q⟩ := h1 X E ok
  exact ⟨_, pss_one p, q⟩
theorem den_pass : DenS C (.Pass pos) nilS := fun X E ok => ⟨_, ps_pass, fun W0 W τ σ h D l fr rh o => o W σ l (.refl _) fr rh⟩
theorem den_break : DenS C (.Break pos) (fun τ h => .bk τ h) := fun X E ok => ⟨_, ps_break, fun W0 W τ σ h D l fr rh o => o W σ l (.refl _) fr rh⟩
theorem den_continue : DenS C (.Continue pos) (fun τ h => .ct τ h) := fun X E ok => ⟨_, ps_continue, fun W0 W τ σ h D l fr rh o => o W σ l (.refl _) fr rh⟩
/-- code that is never come to -/
theorem den_never : DenS C st (fun _ _ => .bad) := fun X E ok => ⟨_, ps_never, fun W0 W τ σ h D l fr rh o => o.elim⟩
theorem den_sexpr (he : DenB C e fe) (hs : ∀ env, swapsWith e none pos.line env = pure false) : DenS C (.Expr e pos) (fun τ h => RS.ofR (fe τ h) τ fun _ h1 => .nx τ h1) := fun X E ok => by
  obtain ⟨t, p, q⟩ := he X E ok
  refine ⟨_, ps_expr p (hs _), fun W0 W τ σ h D l fr rh o => ?_⟩
  exact q W0 W τ σ h _ l fr rh (okS.ex l o fun a s W1 b l1 rh1 re o1 => o1 W1 σ (l.trans l1) (.refl _) (fr.mono l1) rh1)
theorem den_ret (he : DenE C e fe) : DenS C (.Return (some e) pos) (fun τ h => RS.ofR (fe τ h) τ fun d h1 => .rt d h1) := fun X E ok => by
  obtain ⟨t, p, q⟩ := he X E ok
  refine ⟨_, ps_ret p, fun W0 W τ σ h D l fr rh o => ?_⟩
  exact q W0 W τ σ h _ l fr rh (okS.ex l o fun a s W1 b l1 rh1 re o1 => o1 W1 b (l.trans l1) (.refl _) rh1 re)
theorem den_retN : DenS C (.Return none pos) (fun τ h => .rt .non h) := fun X E ok =>
  ⟨_, ps_retN, fun W0 W τ σ h D l fr rh o => o W .non l (.refl _) rh rep_non⟩
def iteS (t : DT) (f g : DS) : DS := fun τ h => RS.ofR (t τ h) τ fun b h1 => if b then f τ h1 else g τ h1
theorem den_sif {c : Expr} {a b : List Stmt} (hc : DenT C c ft) (ha : DenSs C a f) (hb : DenSs C b g) : DenS C (.If c a b pos) (iteS ft f g) := fun X E ok => by
  obtain ⟨t, p, q⟩ := hc X E ok
  obtain ⟨t1, p1, q1⟩ := ha X E ok
  obtain ⟨t2, p2, q2⟩ := hb X E ok
  refine ⟨_, ps_if p p1 p2, fun W0 W τ σ h D l fr rh o => ?_⟩
  refine q W0 W τ σ h _ l fr rh (okS.ex l o fun a s W1 b l1 rh1 re o1 => ?_)
  subst re
  cases a with
  | true => exact iteT (q1 W0 W1 τ σ s D (l.trans l1) (fr.mono l1) rh1 o1)
  | false => exact iteF (q2 W0 W1 τ σ s D (l.trans l1) (fr.mono l1) rh1 o1)
/-! ### stores -/
variable {x : Str} {i : Nat} {p' : Pos}
/-- name = value -/
def setS (i : Nat) (fe : DE) : DS := fun τ h => RS.ofR (fe τ h) τ fun d h1 => .nx (τ.set i (.val d)) h1
theorem den_set (hn : stB C.N C.sc C.fn x i = true) (he : DenE C e fe) (hs : ∀ env, swapsWith e (some (.Name x p')) pos.line env = pure false) : DenS C (.Assign [.Name x p'] e pos) (setS i fe) := fun X E ok => by
  obtain ⟨t, p, q⟩ := he X E ok
  obtain ⟨h1, h2, h3⟩ := stB_ok ok hn
  refine ⟨_, ps_set ok.nd h1 h2 p (hs _) h3, fun W0 W τ σ h D l fr rh o => ?_⟩
  exact q W0 W τ σ h _ l fr rh (okS.ex l o fun a s W1 b l1 rh1 re o1 => o1 W1 _ (l.trans l1) (.refl _) ((fr.mono l1).set i re) rh1)
def ownSl : D → Option Sl
  | .lst xs => some (.own xs)
  | .dK kvs => some (.ownK kvs)
  | .dT kvs => some (.ownT kvs)
  | _ => none
/-- name = a new list, kept as the frame's own -/
def setN (i : Nat) (fe : DE) : DS := fun τ h => RS.ofR (fe τ h) τ fun d h1 => match ownSl d with
  | some s => .nx (τ.set i s) h1
  | none => .bad
theorem _root_.Sw.NewR.sl {K : PySem.W.Frag} {W0 W W1 : Wd} {h : HS} {d : D} {v : V} {s : Sl} (l : Le W0 W) (rh : RH K W h) (n : NewR K W W1 d v) (e : ownSl d = some s) : s.isOwn = true ∧ SlAt K W0 W1 s (some (some v)) ∧ ∃ a, v = .ref a ∧ W.H a = none := by
  cases d <;> simp only [ownSl, Option.some.injEq, reduceCtorEq] at e <;> subst e
  · obtain ⟨a, vs, rfl, e, r, f, q, o⟩ := n
    exact ⟨rfl, ⟨a, vs, rfl, e, r, f, q, l.old rh o⟩, a, rfl, o⟩
  · obtain ⟨a, vs, rfl, e, r, f, q, o⟩ := n
    exact ⟨rfl, ⟨a, vs, rfl, e, r, f, q, l.old rh o⟩, a, rfl, o⟩
  · obtain ⟨a, vs, rfl, e, r, f, q, o⟩ := n
    exact ⟨rfl, ⟨a, vs, rfl, e, r, f, q, l.old rh o⟩, a, rfl, o⟩
theorem SlAt.there {K : PySem.W.Frag} {W0 W : Wd} {s : Sl} {o : Option (Option V)} {a : Addr} (h : SlAt K W0 W s o) (ho : s.isOwn = true) (e : o = some (some (.ref a))) : W.H a ≠ none := by
  subst e
  cases s with
  | own xs => obtain ⟨b, vs, e, h, _⟩ := h; cases e; rw [h]; exact fun z => by cases z
  | ownK xs => obtain ⟨b, vs, e, h, _⟩ := h; cases e; rw [h]; exact fun z => by cases z
  | ownT xs => obtain ⟨b, vs, e, h, _⟩ := h; cases e; rw [h]; exact fun z => by cases z
  | _ => cases ho
/-- an own object that was not there ahead -/
theorem Frm.setO {K : PySem.W.Frag} {W0 W W1 : Wd} {τ : List Sl} {σ : L2.St} (f : Frm K W0 W τ σ) (l : Le W W1) {s : Sl} {a : Addr} (i : Nat) (hs : SlAt K W0 W1 s (some (some (.ref a)))) (n : W.H a = none) : Frm K W0 W1 (τ.set i s) (σ.set i (some (.ref a))) where
  len := by simp [f.len]
  at_ := fun j x e => by
    by_cases hj : i = j
    · subst hj
      by_cases hi : i < τ.length
      · rw [List.getElem?_set_self hi] at e
        cases e
        rw [List.getElem?_set_self (by rw [← f.len]; exact hi)]
        exact hs
      · rw [List.getElem?_eq_none (by simpa using hi)] at e; cases e
    · rw [List.getElem?_set_ne hj] at e ⊢
      exact (f.at_ j x e).mono l
  dis := fun p q x y ad ne e1 e2 o1 o2 => by
    have key : ∀ {j : Nat} {y : Sl}, i ≠ j → τ[j]? = some y → y.isOwn = true → σ[j]? ≠ some (some (.ref a)) := fun {j y} hj e o z => (SlAt.there (f.at_ j y e) o z) n
    have inr : ∀ {x : Sl}, (τ.set i s)[i]? = some x → i < τ.length := fun {x} e => Classical.byContradiction fun hi => by
      rw [List.getElem?_eq_none (by simpa using hi)] at e; cases e
    by_cases h1 : i = p
    · subst h1
      have hi := inr e1
      have hq : i ≠ q := ne
      rw [List.getElem?_set_self (by rw [← f.len]; exact hi)]
      rw [List.getElem?_set_ne hq] at e2 ⊢
      intro z
      cases z
      exact key hq e2 o2
    · rw [List.getElem?_set_ne h1] at e1 ⊢
      by_cases h2 : i = q
      · subst h2
        have hi := inr e2
        rw [List.getElem?_set_self (by rw [← f.len]; exact hi)]
        intro z z2
        cases z2
        exact key h1 e1 o1 z
      · rw [List.getElem?_set_ne h2] at e2 ⊢
        exact f.dis p q x y ad ne e1 e2 o1 o2
theorem den_setN (hn : stB C.N C.sc C.fn x i = true) (he : DenN C e fe) (hs : ∀ env, swapsWith e (some (.Name x p')) pos.line env = pure false) : DenS C (.Assign [.Name x p'] e pos) (setN i fe) := fun X E ok => by
  obtain ⟨t, p, q⟩ := he X E ok
  obtain ⟨h1, h2, h3⟩ := stB_ok ok hn
  refine ⟨_, ps_set ok.nd h1 h2 p (hs _) h3, fun W0 W τ σ h D l fr rh o => ?_⟩
  refine q W0 W τ σ h _ l fr rh (okS.ex l o fun d s W1 v l1 rh1 n o1 => ?_)
  cases es : ownSl d with
  | none => rw [es] at o1; exact o1.elim
  | some sl =>
    rw [es] at o1
    obtain ⟨_, k2, a, rfl, na⟩ := n.sl l rh es
    exact o1 W1 _ (l.trans l1) (.refl _) (fr.setO l1 i k2 na) rh1
/-- target = value -/
def asgS (g : GT) (fe : DE) : DS := fun τ h => RS.ofR (fe τ h) τ fun d h1 => match g d τ with
  | some τ' => .nx τ' h1
  | none => .bad
theorem den_asg {tg : Expr} {is : List Nat} {g : GT} (hg : DenGt C tg is g) (he : DenE C e fe) (hs : ∀ env, swapsWithSole [tg] e pos.line env = pure false) (hw : ∀ env, env.scope = C.sc → swappedStores [tg] e env = pure none)
    (h1 : ∀ env, (assignEach [tg] env).map (·.2) = [assign tg env]) : DenS C (.Assign [tg] e pos) (asgS g fe) := fun X E ok => by
  obtain ⟨t, p, q⟩ := he X E ok
  obtain ⟨t', p', q'⟩ := hg X E ok
  refine ⟨_, ps_asg p p' (hs _) (hw _ ok.scope) (h1 _), fun W0 W τ σ h D l fr rh o => ?_⟩
  refine q W0 W τ σ h _ l fr rh (okS.ex l o fun d s W1 v l1 rh1 re o1 => ?_)
  cases eg : g d τ with
  | none => rw [eg] at o1; exact o1.elim
  | some τ' =>
    rw [eg] at o1
    exact q' W0 W1 τ σ d v τ' _ (fr.mono l1) re eg fun σ' fr' _ _ _ => o1 W1 σ' (l.trans l1) (.refl _) fr' rh1
/-- y = [..] on one line -/
theorem den_setLc {elt tg iter : Expr} {ifs : List Expr} {scope : Scope} {own : List (Str × Nat)} {cpos : Pos} {fi : DA} {g : GT} {is : List Nat} {ft : DT} {fe : DE} (hn : stB C.N C.sc C.fn x i = true) (hy : C.sc.names.lookup x = some .local) (hk : C.sc.kind = .function) (hl : (p'.line == cpos.line) = true)
    (ha : (scope.names.any fun (n, k) => n == x && (k == .local || k == .cell)) = false) (hi : DenI C tg iter fi) (hb : blkC C.N C.sc scope own = true) (ho : ∀ i ∈ is, i ∈ own.map (·.2)) (hg : DenGt (C.blk scope) tg is g) (ht : DenTs (C.blk scope) ifs ft) (he : DenE (C.blk scope) elt fe)
    (hs : ∀ env x, foldedSetIterable iter env x = pure x) : DenS C (.Assign [.Name x p'] (.ListComp elt [⟨tg, iter, ifs, 0⟩] scope cpos) pos) (setS i (lcR fi (own.map (·.2)) g ft fe)) := fun X E ok => by
  obtain ⟨wi, gt, tt, te, p1, p2, p3, p4, q⟩ := lc_read ok hi ho hg ht he
  obtain ⟨h1, h2, h3⟩ := stB_ok ok hn
  have hyl : X.env.scope.names.lookup x = some .local := by rw [ok.scope]; exact hy
  refine ⟨_, ps_setLc ok.calm ok.nd h1 hyl (sw_true (by rw [ok.scope]; exact hk) hyl hl ha) p1 (blkOk_by (by rw [ok.names, ok.scope]; exact hb)) (fun s H Cd cl fp => p2 ⟨s, H, Cd, cl, fp⟩) (fun s H Cd cl fp => p3 ⟨s, H, Cd, cl, fp⟩) (fun s H Cd cl fp => p4 ⟨s, H, Cd, cl, fp⟩) (hs _), fun W0 W τ σ h D l fr rh o => ?_⟩
  refine q W0 W τ σ h _ l fr rh ?_
  refine okG.imp (Rel' := Rep C.g.K) (okS.ex l o fun d s W1 v l1 rh1 re o1 => o1 W1 _ (l.trans l1) (.refl _) ((fr.mono l1).set i re) rh1) fun W' a b h' l' rh' n => n.freeze l' rh'
theorem den_setLcN {elt tg iter : Expr} {ifs : List Expr} {scope : Scope} {own : List (Str × Nat)} {cpos : Pos} {fi : DA} {g : GT} {is : List Nat} {ft : DT} {fe : DE} (hn : stB C.N C.sc C.fn x i = true) (hy : C.sc.names.lookup x = some .local) (hk : C.sc.kind = .function) (hl : (p'.line == cpos.line) = true)
    (ha : (scope.names.any fun (n, k) => n == x && (k == .local || k == .cell)) = false) (hi : DenI C tg iter fi) (hb : blkC C.N C.sc scope own = true) (ho : ∀ i ∈ is, i ∈ own.map (·.2)) (hg : DenGt (C.blk scope) tg is g) (ht : DenTs (C.blk scope) ifs ft) (he : DenE (C.blk scope) elt fe)
    (hs : ∀ env x, foldedSetIterable iter env x = pure x) : DenS C (.Assign [.Name x p'] (.ListComp elt [⟨tg, iter, ifs, 0⟩] scope cpos) pos) (setN i (lcR fi (own.map (·.2)) g ft fe)) := fun X E ok => by
  obtain ⟨wi, gt, tt, te, p1, p2, p3, p4, q⟩ := lc_read ok hi ho hg ht he
  obtain ⟨h1, h2, h3⟩ := stB_ok ok hn
  have hyl : X.env.scope.names.lookup x = some .local := by rw [ok.scope]; exact hy
  refine ⟨_, ps_setLc ok.calm ok.nd h1 hyl (sw_true (by rw [ok.scope]; exact hk) hyl hl ha) p1 (blkOk_by (by rw [ok.names, ok.scope]; exact hb)) (fun s H Cd cl fp => p2 ⟨s, H, Cd, cl, fp⟩) (fun s H Cd cl fp => p3 ⟨s, H, Cd, cl, fp⟩) (fun s H Cd cl fp => p4 ⟨s, H, Cd, cl, fp⟩) (hs _), fun W0 W τ σ h D l fr rh o => ?_⟩
  refine q W0 W τ σ h _ l fr rh (okS.ex l o fun d s W1 v l1 rh1 n o1 => ?_)
  cases es : ownSl d with
  | none => rw [es] at o1; exact o1.elim
  | some sl =>
    rw [es] at o1
    obtain ⟨_, k2, a, rfl, na⟩ := n.sl l rh es
    exact o1 W1 _ (l.trans l1) (.refl _) (fr.setO l1 i k2 na) rh1
/-- name op= e, ints -/
def augS (i : Nat) (g : D → D → Option D) (fe : DE) : DS := fun τ h => match τ[i]? with
  | some (.val d) => RS.ofR (fe τ h) τ fun y h1 => match g d y with
    | some z => .nx (τ.set i (.val z)) h1
    | none => .bad
  | _ => .bad
theorem den_aug {op : Operator} {g : D → D → Option D} (hn : stB C.N C.sc C.fn x i = true) (ho : OpD C (inplaceOp op) g) (he : DenB C e fe) : DenS C (.AugAssign (.Name x p') op e pos) (augS i g fe) := fun X E ok => by
  obtain ⟨t, p, q⟩ := he X E ok
  obtain ⟨r, hr, qr⟩ := ho X E ok
  obtain ⟨h1, h2, h3⟩ := stB_ok ok hn
  refine ⟨_, ps_aug (ti := r) ok.nd h1 h2 p hr h3, fun W0 W τ σ h D l fr rh o => ?_⟩
  unfold augS at o
  cases et : τ[i]? with
  | none => rw [et] at o; exact o.elim
  | some s =>
    rw [et] at o
    cases s with
    | val d =>
      obtain ⟨v, ev, rv⟩ := fr.at_ i _ et
      refine ⟨v, ev, q W0 W τ σ h _ l fr rh (okS.ex l o fun y s W1 u l1 rh1 b1 o1 => ?_)⟩
      cases eg : g d y with
      | none => rw [eg] at o1; exact o1.elim
      | some z =>
        rw [eg] at o1
        refine qr W1 s d y v u z _ rh1 (.inl (rv.mono l1.toLeF)) b1 eg fun W2 b l2 rh2 r2 => ?_
        exact o1 W2 _ ((l.trans l1).trans l2) l2.toLeF (((fr.mono l1).mono l2).set i r2) rh2
    | _ => exact o.elim
end

/-! ### own lists -/
/-- an own list changed in place -/
theorem Frm.own_upd {K : PySem.W.Frag} {W0 W : Wd} {τ : List Sl} {σ : L2.St} {i : Nat} {xs ys : List D} {a : Addr} {us : List V} (f : Frm K W0 W τ σ) (et : τ[i]? = some (.own xs)) (ea : σ[i]? = some (some (.ref a))) (w : OwnA W0 W a) (r : Reps K W ys us) :
    Frm K W0 (W.put a (.lst us)) (τ.set i (.own ys)) σ := by
  have hi : i < τ.length := (List.getElem?_eq_some_iff.mp et).1
  have lf := lef_own (W2 := W) (Dd := a) (o := .lst us) w.nf
  refine ⟨by simpa using f.len, fun j x e => ?_, fun p q x y ad ne e1 e2 o1 o2 => ?_⟩
  · by_cases hj : i = j
    · subst hj
      rw [List.getElem?_set_self hi] at e
      cases e
      exact ⟨a, us, ea, upd_same, r.mono lf, w.nf, w.nr, w.new⟩
    · rw [List.getElem?_set_ne hj] at e
      have h0 := f.at_ j x e
      have ne' : x.isOwn = true → σ[j]? ≠ some (some (.ref a)) := fun ho => f.dis i j _ x a hj et e rfl ho ea
      cases x with
      | un => trivial
      | val d => obtain ⟨v, e, r⟩ := h0; exact ⟨v, e, r.mono lf⟩
      | own zs =>
        obtain ⟨b, vs, e, h, r, w'⟩ := h0
        have hb : b ≠ a := fun z => ne' rfl (by rw [e, z])
        exact ⟨b, vs, e, by rw [← h]; exact upd_ne hb, r.mono lf, w'.nf, w'.nr, w'.new⟩
      | ownK zs =>
        obtain ⟨b, vs, e, h, r, w'⟩ := h0
        have hb : b ≠ a := fun z => ne' rfl (by rw [e, z])
        exact ⟨b, vs, e, by rw [← h]; exact upd_ne hb, r.mono lf, w'.nf, w'.nr, w'.new⟩
      | ownT zs =>
        obtain ⟨b, vs, e, h, r, w'⟩ := h0
        have hb : b ≠ a := fun z => ne' rfl (by rw [e, z])
        exact ⟨b, vs, e, by rw [← h]; exact upd_ne hb, r.mono lf, w'.nf, w'.nr, w'.new⟩
  · have key : ∀ {j : Nat} {x : Sl}, (τ.set i (.own ys))[j]? = some x → x.isOwn = true → ∃ y, τ[j]? = some y ∧ y.isOwn = true := fun {j x} e o => by
      by_cases hj : i = j
      · subst hj; exact ⟨_, et, rfl⟩
      · rw [List.getElem?_set_ne hj] at e; exact ⟨x, e, o⟩
    obtain ⟨x', e1', o1'⟩ := key e1 o1
    obtain ⟨y', e2', o2'⟩ := key e2 o2
    exact f.dis p q x' y' ad ne e1' e2' o1' o2'
section
variable {C : Cn} {e : Expr} {fe : DE} {x : Str} {i : Nat} {p1 apos cpos pos : Pos}
/-- x.append(e) -/
def appS (i : Nat) (fe : DE) : DS := fun τ h => match τ[i]? with
  | some (.own _) => RS.ofR (fe τ h) τ fun d h1 => match τ[i]? with
    | some (.own xs) => if decide (xs.length < sizeLine) then .nx (τ.set i (.own (xs ++ [d]))) h1 else .bad
    | _ => .bad
  | _ => .bad
theorem den_append (hn : nmB C.N C.sc x i = true) (he : DenE C e fe) (hl : (apos.endLine == cpos.line) = true) (hs : ∀ env, starEach [e] env = (false, eval e env) :: starEach [] env) :
    DenS C (.Expr (.Call (.Attribute (.Name x p1) "append" apos) [e] [] cpos) pos) (appS i fe) := fun X E ok => by
  obtain ⟨t, p, q⟩ := he X E ok
  obtain ⟨h1, h2, h3, h4⟩ := nmB_ok hn
  refine ⟨_, ps_expr (pe_bm PySem.F.plainAttrs_list PySem.F.slot_list_append PySem.F.type_list_append mt_append (pe_var (i := i) (by rw [ok.names]; exact h1) (by rw [ok.scope]; exact h2) h3 h4) (pa_cons p pa_nil (hs _)) rfl (by
    rw [hs]; rfl) hl (hs _) rfl) rfl, fun W0 W τ σ h D l fr rh o => ?_⟩
  unfold appS at o
  cases et : τ[i]? with
  | none => rw [et] at o; exact o.elim
  | some s =>
    cases s with
    | own xs =>
      rw [et] at o
      obtain ⟨a, vs, ea, ha, ra, wa⟩ := fr.at_ i _ et
      refine ⟨_, ea, .inl ⟨rfl, vs, .inl (.inl ha)⟩, ?_⟩
      refine q W0 W τ σ h _ l fr rh (okS.ex l o fun d s W1 u l1 rh1 r1 o1 => ?_)
      by_cases hz : xs.length < sizeLine
      · simp only [hz, decide_true, if_true] at o1
        have fr1 := fr.mono l1
        obtain ⟨a', vs', ea', ha', ra', wa'⟩ := fr1.at_ i _ et
        rw [ea] at ea'
        cases ea'
        refine ⟨a, vs', u, rfl, rfl, ha', by rw [← ra'.length]; exact hz, ?_⟩
        have l2 := l.trans l1
        exact o1 (W1.put a (.lst (vs' ++ [u]))) σ (le_own l2 wa'.new wa'.nf) (lef_own wa'.nf) (fr1.own_upd et ea wa' (ra'.append (.one r1))) (rh_own rh1 wa'.nf wa'.nr)
      · simp only [hz, decide_false] at o1
        exact (show False from o1).elim
    | _ => rw [et] at o; exact o.elim
end
end Sw

/-! Sw, part I: more of own and shared lists, loops, defs. -/
namespace Sw
open PySem PySem.Spec PyProof.Rows L2
variable [Tbs]

section
variable {C : Cn} {e e2 : Expr} {fe fe2 : DE} {x y : Str} {i j : Nat} {p1 p2 p3 apos apos2 cpos cpos2 pos tpos : Pos} {st : Stmt} {f : DS}
/-- x.extend(e) -/
def extS (i : Nat) (fe : DE) : DS := fun τ h => match τ[i]? with
  | some (.own _) => RS.ofR (fe τ h) τ fun d h1 => match τ[i]?, d with
    | some (.own xs), .lst ys => if fits (xs.length + ys.length) then .nx (τ.set i (.own (xs ++ ys))) h1 else .bad
    | _, _ => .bad
  | _ => .bad
theorem den_extend (hn : nmB C.N C.sc x i = true) (he : DenB C e fe) (hl : (apos.endLine == cpos.line) = true) (hs : ∀ env, starEach [e] env = (false, eval e env) :: starEach [] env) :
    DenS C (.Expr (.Call (.Attribute (.Name x p1) "extend" apos) [e] [] cpos) pos) (extS i fe) := fun X E ok => by
  obtain ⟨t, p, q⟩ := he X E ok
  obtain ⟨h1, h2, h3, h4⟩ := nmB_ok hn
  refine ⟨_, ps_expr (pe_bm PySem.F.plainAttrs_list PySem.F.slot_list_extend PySem.F.type_list_extend mt_extend (pe_var (i := i) (by rw [ok.names]; exact h1) (by rw [ok.scope]; exact h2) h3 h4) (pa_cons p pa_nil (hs _)) rfl (by
    rw [hs]; rfl) hl (hs _) rfl) rfl, fun W0 W τ σ h D l fr rh o => ?_⟩
  unfold extS at o
  cases et : τ[i]? with
  | none => rw [et] at o; exact o.elim
  | some s =>
    cases s with
    | own xs =>
      rw [et] at o
      obtain ⟨a, vs, ea, ha, ra, wa⟩ := fr.at_ i _ et
      refine ⟨_, ea, .inl ⟨rfl, vs, .inl (.inl ha)⟩, ?_⟩
      refine q W0 W τ σ h _ l fr rh (okS.ex l o fun d s W1 u l1 rh1 r1 o1 => ?_)
      cases d with
      | lst ys =>
        by_cases hz : fits (xs.length + ys.length) = true
        · simp only [hz, if_true] at o1
          have fr1 := fr.mono l1
          obtain ⟨a', vs', ea', ha', ra', wa'⟩ := fr1.at_ i _ et
          rw [ea] at ea'
          cases ea'
          obtain ⟨b, us, rfl, hb, rb⟩ := r1.lst
          refine ⟨a, b, vs', us, rfl, rfl, ha', hb, by rw [← ra'.length, ← rb.length]; exact of_decide_eq_true hz, ?_⟩
          have l2 := l.trans l1
          exact o1 (W1.put a (.lst (vs' ++ us))) σ (le_own l2 wa'.new wa'.nf) (lef_own wa'.nf) (fr1.own_upd et ea wa' (ra'.append rb)) (rh_own rh1 wa'.nf wa'.nr)
        · simp only [hz] at o1
          exact (show False from o1).elim
      | _ => exact (show False from o1).elim
    | _ => rw [et] at o; exact o.elim
/-- x[e] = e2, x an own list -/
def putS (i : Nat) (fe fe2 : DE) : DS := fun τ h => RS.ofR (fe2 τ h) τ fun d h1 => match τ[i]? with
  | some (.own xs) => RS.ofR (fe τ h1) τ fun k h2 => match k with
    | .int k => match ixN xs.length k with
      | some j => .nx (τ.set i (.own (xs.set j d))) h2
      | none => .bad
    | _ => .bad
  | _ => .bad
theorem Reps.set' {K : PySem.W.Frag} {W : Wd} {ds : List D} {vs : List V} {d : D} {v : V} (j : Nat) (h : Reps K W ds vs) (r : Rep K W d v) : Reps K W (ds.set j d) (vs.set j v) := Reps.set j h r
theorem den_put (hn : nmB C.N C.sc x i = true) (he : DenB C e fe) (he2 : DenE C e2 fe2) (hsx : PlainIx e)
    (ha : ∀ env v, assign (.Subscript (.Name x p1) e tpos) env v = (do
      let ov ← holding [v] (eval (.Name x p1) env)
      let iv ← holding [v, ov] (eval e env)
      standAt tpos
      holding [v, ov, iv] (setItem ov iv v)
      release [v, ov, iv] [])) (hs : ∀ env, swapsWithSole [.Subscript (.Name x p1) e tpos] e2 pos.line env = pure false) (hw : ∀ env, swappedStores [.Subscript (.Name x p1) e tpos] e2 env = pure none)
    (h1' : ∀ env, (assignEach [.Subscript (.Name x p1) e tpos] env).map (·.2) = [assign (.Subscript (.Name x p1) e tpos) env]) :
    DenS C (.Assign [.Subscript (.Name x p1) e tpos] e2 pos) (putS i fe fe2) := fun X E ok => by
  obtain ⟨t, p, q⟩ := he X E ok
  obtain ⟨t', p', q'⟩ := he2 X E ok
  obtain ⟨h1, h2, h3, h4⟩ := nmB_ok hn
  refine ⟨_, ps_asg p' (pg_sub (pe_var (i := i) (by rw [ok.names]; exact h1) (by rw [ok.scope]; exact h2) h3 h4) p set_list (ha _)) (hs _) (hw _) (h1' _), fun W0 W τ σ h D l fr rh o => ?_⟩
  refine q' W0 W τ σ h _ l fr rh (okS.ex l o fun d s W1 u l1 rh1 r1 o1 => ?_)
  cases et : τ[i]? with
  | none => rw [et] at o1; exact o1.elim
  | some sl =>
    cases sl with
    | own xs =>
      rw [et] at o1
      have fr1 := fr.mono l1
      obtain ⟨a, vs, ea, ha, ra, wa⟩ := fr1.at_ i _ et
      refine ⟨_, ea, ?_⟩
      refine q W0 W1 τ σ s _ (l.trans l1) fr1 rh1 (okS.ex (l.trans l1) o1 fun k s2 W2 v l2 rh2 b2 o2 => ?_)
      cases k with
      | int k =>
        have o2 : okS C W0 W2 E D (match ixN xs.length k with | some j => .nx (τ.set i (.own (xs.set j d))) s2 | none => .bad) := o2
        cases ei : ixN xs.length k with
        | none => rw [ei] at o2; exact o2.elim
        | some j =>
          rw [ei] at o2
          have fr2 := fr1.mono l2
          obtain ⟨a', vs', ea', ha', ra', wa'⟩ := fr2.at_ i _ et
          rw [ea] at ea'
          cases ea'
          rw [b2.int]
          refine ⟨a, vs', k, j, rfl, rfl, ha', by rw [← ra'.length]; exact ei, ?_⟩
          have l3 := (l.trans l1).trans l2
          exact o2 (W2.put a (.lst (vs'.set j u))) σ (le_own l3 wa'.new wa'.nf) (lef_own wa'.nf) (fr2.own_upd et ea wa' (ra'.set' j (r1.mono l2.toLeF))) (rh_own rh2 wa'.nf wa'.nr)
      | _ => exact (show False from o2).elim
    | _ => rw [et] at o1; exact o1.elim
/-- a shared list changed in place -/
theorem le_shared {W : Wd} {a : Addr} {o : HO} (m : a ∈ W.ρ) (nf : ¬ W.F a) : Le W (W.put a o) where
  toLeF := lef_own nf
  fo := fun b ob e h1 h2 => ⟨by rw [← e]; exact upd_ne fun z => h2 (z ▸ m), h1, h2⟩
theorem rh_shared {K : PySem.W.Frag} {W : Wd} {h : HS} {a : Addr} {n : Nat} {xs : List D} {us : List V} (rh : RH K W h) (ea : W.ρ[n]? = some a) (nf : ¬ W.F a) (r : Reps K W xs us) : RH K (W.put a (.lst us)) (h.set n xs) where
  len := by rw [List.length_set]; exact rh.len
  nd := rh.nd
  at_ := fun i ys b e1 e2 => by
    by_cases hi : n = i
    · subst hi
      have hb : b = a := Option.some.inj (e2.symm.trans ea)
      subst hb
      by_cases hl : n < h.length
      · rw [List.getElem?_set_self hl] at e1
        cases e1
        exact ⟨us, upd_same, r.mono (lef_own nf)⟩
      · rw [List.getElem?_eq_none (by simpa using hl)] at e1; cases e1
    · rw [List.getElem?_set_ne hi] at e1
      obtain ⟨vs, q, r'⟩ := rh.at_ i ys b e1 e2
      have hb : b ≠ a := fun z => hi (by
        subst z
        obtain ⟨l1, g1⟩ := List.getElem?_eq_some_iff.mp ea
        obtain ⟨l2, g2⟩ := List.getElem?_eq_some_iff.mp e2
        exact (List.getElem_inj rh.nd).mp (g1.trans g2.symm))
      exact ⟨vs, by rw [← q]; exact upd_ne hb, r'.mono (lef_own nf)⟩
  nf := rh.nf
  up := fun b f => by
    by_cases z : b = a
    · subst z; exact absurd f nf
    · show upd W.H a (.lst us) b ≠ none; rw [upd_ne z]; exact rh.up b f
  tf := fun b ys e => by
    have e : upd W.H a (.lst us) b = some (.tup ys) := e
    by_cases z : b = a
    · subst z; rw [upd_same] at e; cases e
    · rw [upd_ne z] at e; exact rh.tf b ys e
  tb := tab_step rh.tb (fun _ f => f) fun b u f _ e => by rw [← e]; exact upd_ne fun z => nf (z ▸ f)
  tn := fun b ps e => by
    have e : upd W.H a (.lst us) b = some (.tbl ps) := e
    by_cases z : b = a
    · subst z; rw [upd_same] at e; cases e
    · rw [upd_ne z] at e; exact rh.tn b ps e
  cf := fun b ps e => by
    have e : upd W.H a (.lst us) b = some (.ext ps) := e
    by_cases z : b = a
    · subst z; rw [upd_same] at e; cases e
    · rw [upd_ne z] at e; exact rh.cf b ps e
/-- x[e] = e2, x a shared list -/
def rputS (i : Nat) (fe fe2 : DE) : DS := fun τ h => RS.ofR (fe2 τ h) τ fun d h1 => match τ[i]? with
  | some (.val (.ref n)) => RS.ofR (fe τ h1) τ fun k h2 => match k, h2[n]? with
    | .int k, some xs => match ixN xs.length k with
      | some j => .nx τ (h2.set n (xs.set j d))
      | none => .bad
    | _, _ => .bad
  | _ => .bad
theorem den_rput (hn : nmB C.N C.sc x i = true) (he : DenB C e fe) (he2 : DenE C e2 fe2) (hsx : PlainIx e)
    (ha : ∀ env v, assign (.Subscript (.Name x p1) e tpos) env v = (do
      let ov ← holding [v] (eval (.Name x p1) env)
      let iv ← holding [v, ov] (eval e env)
      standAt tpos
      holding [v, ov, iv] (setItem ov iv v)
      release [v, ov, iv] [])) (hs : ∀ env, swapsWithSole [.Subscript (.Name x p1) e tpos] e2 pos.line env = pure false) (hw : ∀ env, swappedStores [.Subscript (.Name x p1) e tpos] e2 env = pure none)
    (h1' : ∀ env, (assignEach [.Subscript (.Name x p1) e tpos] env).map (·.2) = [assign (.Subscript (.Name x p1) e tpos) env]) :
    DenS C (.Assign [.Subscript (.Name x p1) e tpos] e2 pos) (rputS i fe fe2) := fun X E ok => by
  obtain ⟨t, p, q⟩ := he X E ok
  obtain ⟨t', p', q'⟩ := he2 X E ok
  obtain ⟨h1, h2, h3, h4⟩ := nmB_ok hn
  refine ⟨_, ps_asg p' (pg_sub (pe_var (i := i) (by rw [ok.names]; exact h1) (by rw [ok.scope]; exact h2) h3 h4) p set_list (ha _)) (hs _) (hw _) (h1' _), fun W0 W τ σ h D l fr rh o => ?_⟩
  refine q' W0 W τ σ h _ l fr rh (okS.ex l o fun d s W1 u l1 rh1 r1 o1 => ?_)
  cases et : τ[i]? with
  | none => rw [et] at o1; exact o1.elim
  | some sl =>
    cases sl with
    | val dv =>
      cases dv with
      | ref n =>
        rw [et] at o1
        have fr1 := fr.mono l1
        obtain ⟨v, ev, rv⟩ := fr1.at_ i _ et
        refine ⟨v, ev, ?_⟩
        refine q W0 W1 τ σ s _ (l.trans l1) fr1 rh1 (okS.ex (l.trans l1) o1 fun k s2 W2 w l2 rh2 b2 o2 => ?_)
        cases k with
        | int k =>
          have o2 : okS C W0 W2 E D (match Sw.D.int k, s2[n]? with | .int k, some xs => (match ixN xs.length k with | some j => .nx τ (s2.set n (xs.set j d)) | none => .bad) | _, _ => .bad) := o2
          cases eh : s2[n]? with
          | none => rw [eh] at o2; exact o2.elim
          | some xs =>
            rw [eh] at o2
            have o2 : okS C W0 W2 E D (match ixN xs.length k with | some j => .nx τ (s2.set n (xs.set j d)) | none => .bad) := o2
            cases ei : ixN xs.length k with
            | none => rw [ei] at o2; exact o2.elim
            | some j =>
              rw [ei] at o2
              have rv := rv.mono l2.toLeF
              rw [Rep] at rv
              obtain ⟨a, ea, rfl⟩ := rv
              obtain ⟨vs, ha, ra⟩ := rh2.at_ n xs a eh ea
              have ma : a ∈ W2.ρ := List.mem_of_getElem? ea
              have nf := rh2.nf a ma
              rw [b2.int]
              refine ⟨a, vs, k, j, rfl, rfl, ha, by rw [← ra.length]; exact ei, ?_⟩
              have l3 := le_shared (o := .lst (vs.set j u)) ma nf
              exact o2 _ σ (((l.trans l1).trans l2).trans l3) l3.toLeF ((fr1.mono l2).mono l3) (rh_shared rh2 ea nf (ra.set' j (r1.mono l2.toLeF)))
        | _ => exact (show False from o2).elim
      | _ => rw [et] at o1; exact o1.elim
    | _ => rw [et] at o1; exact o1.elim

/-! ### own lists become values -/
def frzT (τ : List Sl) (i : Nat) : List Sl := match τ[i]? with
  | some (.own xs) => τ.set i (.val (.lst xs))
  | some (.ownK xs) => τ.set i (.val (.dK xs))
  | some (.ownT xs) => τ.set i (.val (.dT xs))
  | _ => τ
theorem le_frz0 {W0 W : Wd} {a : Addr} (l : Le W0 W) (n : W0.H a = none) : Le W0 (W.frz a) := le_frz l n
/-- other slots where the own object at a becomes frozen -/
theorem SlAt.frz {K : PySem.W.Frag} {W0 W : Wd} {a : Addr} {x : Sl} {o : Option (Option V)} (h : SlAt K W0 W x o) (ne : x.isOwn = true → o ≠ some (some (.ref a))) : SlAt K W0 (W.frz a) x o := by
  have lf := lef_frz W a
  cases x with
  | un => trivial
  | val d => obtain ⟨v, e, r⟩ := h; exact ⟨v, e, r.mono lf⟩
  | own zs =>
    obtain ⟨b, vs, e, h, r, w'⟩ := h
    have hb : b ≠ a := fun z => ne rfl (by rw [e, z])
    exact ⟨b, vs, e, h, r.mono lf, fun z => z.elim w'.nf hb, w'.nr, w'.new⟩
  | ownK zs =>
    obtain ⟨b, vs, e, h, r, w'⟩ := h
    have hb : b ≠ a := fun z => ne rfl (by rw [e, z])
    exact ⟨b, vs, e, h, r.mono lf, fun z => z.elim w'.nf hb, w'.nr, w'.new⟩
  | ownT zs =>
    obtain ⟨b, vs, e, h, r, w'⟩ := h
    have hb : b ≠ a := fun z => ne rfl (by rw [e, z])
    exact ⟨b, vs, e, h, r.mono lf, fun z => z.elim w'.nf hb, w'.nr, w'.new⟩
theorem Frm.frz {K : PySem.W.Frag} {W0 W : Wd} {τ : List Sl} {σ : L2.St} {i : Nat} {s : Sl} {a : Addr} {d : D} (f : Frm K W0 W τ σ) (et : τ[i]? = some s) (ho : s.isOwn = true) (ea : σ[i]? = some (some (.ref a))) (r : Rep K (W.frz a) d (.ref a)) :
    Frm K W0 (W.frz a) (τ.set i (.val d)) σ := by
  have hi : i < τ.length := (List.getElem?_eq_some_iff.mp et).1
  refine ⟨by simpa using f.len, fun j x e => ?_, fun p q x y ad ne e1 e2 o1 o2 => ?_⟩
  · by_cases hj : i = j
    · subst hj
      rw [List.getElem?_set_self hi] at e
      cases e
      exact ⟨_, ea, r⟩
    · rw [List.getElem?_set_ne hj] at e
      exact (f.at_ j x e).frz fun hx => f.dis i j s x a hj et e ho hx ea
  · have key : ∀ {j : Nat} {x : Sl}, (τ.set i (.val d))[j]? = some x → x.isOwn = true → τ[j]? = some x := fun {j x} e o => by
      by_cases hj : i = j
      · subst hj
        rw [List.getElem?_set_self hi] at e
        cases e; cases o
      · rw [List.getElem?_set_ne hj] at e; exact e
    exact f.dis p q x y ad ne (key e1 o1) (key e2 o2) o1 o2
theorem frzT_ok {K : PySem.W.Frag} {W0 W : Wd} {τ : List Sl} {σ : L2.St} {h : HS} (l : Le W0 W) (fr : Frm K W0 W τ σ) (rh : RH K W h) (i : Nat) : ∃ W', W'.H = W.H ∧ Le W0 W' ∧ LeF W W' ∧ Frm K W0 W' (frzT τ i) σ ∧ RH K W' h := by
  unfold frzT
  cases et : τ[i]? with
  | none => exact ⟨W, rfl, l, .refl _, fr, rh⟩
  | some s =>
    cases s with
    | own xs =>
      obtain ⟨a, vs, ea, ha, ra, wa⟩ := fr.at_ i _ et
      exact ⟨W.frz a, rfl, le_frz l wa.new, lef_frz _ _, fr.frz et rfl ea (by rw [Rep]; exact ⟨a, vs, rfl, ⟨.inr rfl, ha⟩, ra.mono (lef_frz _ _)⟩), rh_frz rh wa.nr (by rw [ha]; exact fun z => by cases z)⟩
    | ownK xs =>
      obtain ⟨a, vs, ea, ha, ra, wa⟩ := fr.at_ i _ et
      exact ⟨W.frz a, rfl, le_frz l wa.new, lef_frz _ _, fr.frz et rfl ea (by rw [Rep]; exact ⟨a, vs, rfl, .inr rfl, .inl ha, ra.mono (lef_frz _ _)⟩), rh_frz rh wa.nr (by rw [ha]; exact fun z => by cases z)⟩
    | ownT xs =>
      obtain ⟨a, vs, ea, ha, ra, wa⟩ := fr.at_ i _ et
      exact ⟨W.frz a, rfl, le_frz l wa.new, lef_frz _ _, fr.frz et rfl ea (by rw [Rep]; exact ⟨a, vs, rfl, .inr rfl, .inl ha, ra.mono (lef_frz _ _)⟩), rh_frz rh wa.nr (by rw [ha]; exact fun z => by cases z)⟩
    | _ => exact ⟨W, rfl, l, .refl _, fr, rh⟩
/-- ahead of a statement the own list of slot i becomes a value -/
theorem den_frz {J : Cx → TS → Prop} (i : Nat) (hst : DenJ C J f) : DenJ C J (fun τ h => f (frzT τ i) h) := fun X E ok => by
  obtain ⟨t, p, q⟩ := hst X E ok
  refine ⟨t, p, fun W0 W τ σ h D l fr rh o => ?_⟩
  obtain ⟨W', eH, l', lf, fr', rh'⟩ := frzT_ok l fr rh i
  rw [← eH]
  exact q W0 W' _ σ h D l' fr' rh' (okS.mono lf o)

/-! ### loops -/
def forS (g : GT) (b : DS) : List D → DS
  | [], τ, h => .nx τ h
  | x :: r, τ, h => match g x τ with
    | none => .bad
    | some τ1 => match b τ1 h with
      | .nx τ2 h2 => forS g b r τ2 h2
      | .ct τ2 h2 => forS g b r τ2 h2
      | .bk τ2 h2 => .nx τ2 h2
      | s => s
def forR (it : DA) (g : GT) (b : DS) : DS := fun τ h => RS.ofR (it τ h) τ fun items h1 => forS g b items τ h1
theorem den_for {tg iter : Expr} {body : List Stmt} {fi : DA} {g : GT} {is : List Nat} {fb : DS} (hi : DenI C tg iter fi) (hg : DenGt C tg is g) (hb : DenSs C body fb) (hs : ∀ env x, foldedSetIterable iter env x = pure x) :
    DenS C (.For tg iter body [] pos) (forR fi g fb) := fun X E ok => by
  obtain ⟨ti, pi, qi⟩ := hi X E ok
  obtain ⟨tg', pg, qg⟩ := hg X E ok
  obtain ⟨tb, pb, qb⟩ := hb X E ok
  refine ⟨_, ps_for ok.own ok.calm pi pg pb (hs _), fun W0 W τ σ h D l fr rh o => ?_⟩
  refine qi W0 W τ σ h _ l fr rh (okS.ex l o fun items h1 W1 J l1 rh1 wk o1 => ?_)
  refine ⟨fun i m σ H => m = items.length - i ∧ i ≤ items.length ∧ ∃ W2 τ2 h2, W2.H = H ∧ Le W0 W2 ∧ LeF W1 W2 ∧ Frm C.g.K W0 W2 τ2 σ ∧ RH C.g.K W2 h2 ∧ okS C W0 W1 E D (forS g fb (items.drop i) τ2 h2),
    ⟨items.length, by simp, Nat.zero_le _, W1, τ, h1, rfl, l.trans l1, .refl _, fr.mono l1, rh1, by rw [List.drop_zero]; exact o1⟩, ?_⟩
  rintro i m σ2 H ⟨rfl, hi, W2, τ2, h2, rfl, l2, lf2, fr2, rh2, o2⟩
  by_cases hlt : i < items.length
  · have hdrop : items.drop i = items[i] :: items.drop (i + 1) := List.drop_eq_getElem_cons hlt
    rw [hdrop] at o2
    have hit : items[i]? = some items[i] := List.getElem?_eq_getElem hlt
    obtain ⟨hgo, hy⟩ := (wk i W2 lf2 rh2.tf).1 _ hit
    refine .inr ⟨hgo, fun σ' H' => ∃ W3 τ3 h3, W3.H = H' ∧ Le W0 W3 ∧ LeF W1 W3 ∧ Frm C.g.K W0 W3 τ3 σ' ∧ RH C.g.K W3 h3 ∧ okS C W0 W1 E D (forS g fb (items.drop (i + 1)) τ3 h3), fun σ' H' hN => ⟨items.length - (i + 1), by omega, rfl, hlt, hN⟩, fun x H' y => ?_⟩
    obtain ⟨W3, rfl, l3, k3, r3⟩ := hy x H' y
    have o2 : okS C W0 W1 E D (match g items[i] τ2 with | none => .bad | some τ1 => match fb τ1 h2 with | .nx τ2 h2 => forS g fb (items.drop (i + 1)) τ2 h2 | .ct τ2 h2 => forS g fb (items.drop (i + 1)) τ2 h2 | .bk τ2 h2 => .nx τ2 h2 | s => s) := o2
    cases eg : g items[i] τ2 with
    | none => rw [eg] at o2; exact o2.elim
    | some τ1 =>
      rw [eg] at o2
      have o2 : okS C W0 W1 E D (match fb τ1 h2 with | .nx τ2 h2 => forS g fb (items.drop (i + 1)) τ2 h2 | .ct τ2 h2 => forS g fb (items.drop (i + 1)) τ2 h2 | .bk τ2 h2 => .nx τ2 h2 | s => s) := o2
      refine qg W0 W3 τ2 σ2 items[i] x τ1 _ (fr2.mono l3) r3 eg fun σ3 fr4 _ _ _ => ?_
      have lf3 := lf2.trans l3.toLeF
      refine qb W0 W3 τ1 σ3 h2 _ (l2.trans l3) fr4 (k3 _ rh2) ?_
      cases eb : fb τ1 h2 with
      | nx τ4 h4 => rw [eb] at o2; exact fun W4 σ4 a b c d => ⟨W4, τ4, h4, rfl, a, lf3.trans b, c, d, o2⟩
      | ct τ4 h4 => rw [eb] at o2; exact fun W4 σ4 a b c d => ⟨W4, τ4, h4, rfl, a, lf3.trans b, c, d, o2⟩
      | bk τ4 h4 => rw [eb] at o2; exact fun W4 σ4 a b c d => o2 W4 σ4 a (lf3.trans b) c d
      | rt d4 h4 => rw [eb] at o2; exact fun W4 v a b c d => o2 W4 v a (lf3.trans b) c d
      | exc x4 h4 => rw [eb] at o2; exact fun W4 c dd σ4 a b r z => o2 W4 c dd σ4 a (lf3.trans b) r z
      | bad => rw [eb] at o2; exact o2.elim
  · have e : i = items.length := by omega
    subst e
    rw [List.drop_length] at o2
    exact .inl ⟨(wk _ W2 lf2 rh2.tf).2 rfl, o2 W2 σ2 l2 lf2 fr2 rh2⟩
def whileS (c : DT) (b : DS) : Nat → DS
  | 0, _, _ => .bad
  | n + 1, τ, h => RS.ofR (c τ h) τ fun k h1 => if k then match b τ h1 with
      | .nx τ2 h2 => whileS c b n τ2 h2
      | .ct τ2 h2 => whileS c b n τ2 h2
      | .bk τ2 h2 => .nx τ2 h2
      | s => s
    else .nx τ h1
theorem den_while (N : Nat) {c : Expr} {body : List Stmt} {fc : DT} {fb : DS} (hc : DenT C c fc) (hb : DenSs C body fb) : DenS C (.While c body [] pos) (whileS fc fb N) := fun X E ok => by
  obtain ⟨tc, pc, qc⟩ := hc X E ok
  obtain ⟨tb, pb, qb⟩ := hb X E ok
  refine ⟨_, ps_while ok.own pc pb, fun W0 W τ σ h D l fr rh o => ?_⟩
  refine ⟨fun m σ H => ∃ W2 τ2 h2, W2.H = H ∧ Le W0 W2 ∧ Frm C.g.K W0 W2 τ2 σ ∧ RH C.g.K W2 h2 ∧ okS C W0 W2 E D (whileS fc fb m τ2 h2), ⟨N, W, τ, h, rfl, l, fr, rh, o⟩, ?_⟩
  rintro m σ2 H ⟨W2, τ2, h2, rfl, l2, fr2, rh2, o2⟩
  cases m with
  | zero => exact (show False from o2).elim
  | succ m =>
    refine qc W0 W2 τ2 σ2 h2 _ l2 fr2 rh2 (okS.ex l2 o2 fun k h3 W3 k' l3 rh3 e3 o3 => ?_)
    subst e3
    cases k with
    | false => exact iteF (o3 W3 σ2 (l2.trans l3) (.refl _) (fr2.mono l3) rh3)
    | true =>
      have o3 : okS C W0 W3 E D (match fb τ2 h3 with | .nx τ2 h2 => whileS fc fb m τ2 h2 | .ct τ2 h2 => whileS fc fb m τ2 h2 | .bk τ2 h2 => .nx τ2 h2 | s => s) := o3
      refine iteT ⟨fun σ' H' => ∃ W4 τ4 h4, W4.H = H' ∧ Le W0 W4 ∧ Frm C.g.K W0 W4 τ4 σ' ∧ RH C.g.K W4 h4 ∧ okS C W0 W4 E D (whileS fc fb m τ4 h4), fun σ' H' hN => ⟨m, Nat.lt_succ_self _, hN⟩, ?_⟩
      refine qb W0 W3 τ2 σ2 h3 _ (l2.trans l3) (fr2.mono l3) rh3 ?_
      cases eb : fb τ2 h3 with
      | nx τ4 h4 => rw [eb] at o3; exact fun W4 σ4 a b c d => ⟨W4, τ4, h4, rfl, a, c, d, okS.mono b o3⟩
      | ct τ4 h4 => rw [eb] at o3; exact fun W4 σ4 a b c d => ⟨W4, τ4, h4, rfl, a, c, d, okS.mono b o3⟩
      | bk τ4 h4 => rw [eb] at o3; exact fun W4 σ4 a b c d => o3 W4 σ4 a b c d
      | rt d4 h4 => rw [eb] at o3; exact fun W4 v a b c d => o3 W4 v a b c d
      | exc x4 h4 => rw [eb] at o3; exact fun W4 c dd σ4 a b r z => o3 W4 c dd σ4 a b r z
      | bad => rw [eb] at o3; exact o3.elim
end

/-! ### defs -/
/-- what a body is worth as a function -/
def fnR (n : Nat) (f : DS) : DF := fun ds h => match f (ds.map Sl.val ++ List.replicate (n - ds.length) Sl.un) h with
  | .rt d h' => .ok d h'
  | .nx _ h' => .ok .non h'
  | .exc x h' => .exc x h'
  | _ => .bad
theorem frm_start {K : PySem.W.Frag} {W : Wd} {N : List Str} {ds : List D} {vs : List V} (r : Reps K W ds vs) : Frm K W W (ds.map Sl.val ++ List.replicate (N.length - ds.length) Sl.un) (L2.start N vs) where
  len := by unfold L2.start; simp [r.length]
  at_ := fun i x e => by
    unfold L2.start
    by_cases hi : i < ds.length
    · rw [List.getElem?_append_left (by simpa using hi), List.getElem?_map] at e
      rw [List.getElem?_append_left (by rw [List.length_map, ← r.length]; exact hi), List.getElem?_map]
      cases ed : ds[i]? with
      | none => rw [ed] at e; cases e
      | some d =>
        rw [ed] at e
        cases e
        obtain ⟨v, ev, rv⟩ := r.get ed
        rw [ev]
        exact ⟨v, rfl, rv⟩
    · rw [List.getElem?_append_right (by simpa using hi), List.getElem?_replicate] at e
      split at e
      · cases e; trivial
      · cases e
  dis := fun i j x y a ne e1 e2 o1 o2 => by
    have : ∀ {i : Nat} {x : Sl}, (ds.map Sl.val ++ List.replicate (N.length - ds.length) Sl.un)[i]? = some x → x.isOwn = false := fun {i x} e => by
      by_cases hi : i < ds.length
      · rw [List.getElem?_append_left (by simpa using hi), List.getElem?_map] at e
        cases ed : ds[i]? with
        | none => rw [ed] at e; cases e
        | some d => rw [ed] at e; cases e; rfl
      · rw [List.getElem?_append_right (by simpa using hi), List.getElem?_replicate] at e
        split at e
        · cases e; rfl
        · cases e
    rw [this e1] at o1; cases o1
/-- THE RULE for a def of the text -/
theorem fn_mk {g : Gx} {x qual : Str} {st : Stmt} {f : Addr} {fd : FuncData} {N ps : List Str} {k : Nat} {fb : DS} (F : L2.Fun g.K x qual st f fd) (S : FnScope N ps (defScope st)) (hm : g.mg x = some (.ref f)) (hb : L2.Binds g.K fd ps [])
    (hbody : DenSs ⟨g, k, N, defScope st, fun _ => true, false⟩ (defBody st) fb) : FnD g x ps.length (k + 1) (fnR N.length fb) := by
  refine ⟨f, fd, ps, ?_, hm, F.kp, hb⟩
  obtain ⟨oc, od, kV, doc, pm, an, cdv, ct, osl, rfl, lk, hcd⟩ := F.ex
  refine FnG.made lk hcd S (fun vs H Q E h => h.1) fun A outer s H vs Q E hr gd h => ?_
  obtain ⟨hl, W, ds, h0, rfl, rh, r, o⟩ := h
  have ok : CxOk ⟨g, k, N, defScope st, fun _ => true, false⟩ (cxOf (L2.CX g.P g.w) g.P g.w g.K g.mg g.base N qual (defScope st) f cdv A outer s W.H E) (fun c d _ H => E c d H) :=
    ⟨rfl, rfl, rfl, rfl, rfl, rfl, S.nd, rfl, rfl, hr, takes_of rfl rfl rfl rfl, passes_of rfl, fun _ _ => rfl, fun _ => ⟨rfl, rfl⟩, (fun z => nomatch z), fun z => nomatch z⟩
  obtain ⟨t, p, q⟩ := hbody _ _ ok
  refine ⟨t, p, q W W _ _ h0 _ (.refl _) (frm_start r) rh ?_⟩
  have o : okG g.K g.mg (Rep g.K) W E Q (match fb (ds.map Sl.val ++ List.replicate (N.length - ds.length) Sl.un) h0 with | .rt d h' => .ok d h' | .nx _ h' => .ok .non h' | .exc x h' => .exc x h' | _ => .bad) := o
  cases ef : fb (ds.map Sl.val ++ List.replicate (N.length - ds.length) Sl.un) h0 with
  | rt d h' => rw [ef] at o; exact fun W' v l _ rh' r' => o W' v l rh' r'
  | nx τ h' => rw [ef] at o; exact fun W' σ l _ fr rh' => o W' _ l rh' rep_non
  | exc x h' => rw [ef] at o; exact fun W' c dd σ l _ rh' r' => o W' c dd l rh' r'
  | bk _ _ => rw [ef] at o; exact o.elim
  | ct _ _ => rw [ef] at o; exact o.elim
  | bad => rw [ef] at o; exact o.elim
/-- the same def, told in other words -/
theorem FnD.congr {g : Gx} {x : Str} {n k : Nat} {φ ψ : DF} (F : FnD g x n k φ) (h : φ = ψ) : FnD g x n k ψ := h ▸ F
/-- the law's promise: the script is handed in, True comes out -/
theorem law_sp {g : Gx} {φ : DF} {H : Hp} {a : Addr} {ns : List Int} (hT : ∀ p ∈ Tbs.T, H p.1 = some (.tbl #[])) (hN : ∀ a ps, H a = some (.tbl ps) → ∃ q, (a, q) ∈ Tbs.T) (hS : SqL g.K H a (ns.map V.int)) (hok : ∃ h, φ [.frl (ns.map .int)] [] = .ok (.bl true) h) :
    spOf g 1 φ [.ref a] H (fun v _ => v = .bl true) fun _ _ _ => False := by
  obtain ⟨h, e⟩ := hok
  refine ⟨rfl, ⟨fun b => H b ≠ none, [], H⟩, [.frl (ns.map .int)], [], rfl, ⟨rfl, .nil, (fun n xs a e _ => by simp at e), (fun a m => by cases m), (fun a f => f), (fun a xs e => show H a ≠ none from fun z => nomatch (z.symm.trans (show H a = some (.tup xs) from e))), (fun p hp => ⟨(show H p.1 ≠ none from fun z => nomatch (z.symm.trans (hT p hp))), #[], hT p hp, True.intro, fun pos cv hc => nomatch (show codeAmong pos [] = some cv from hc)⟩), hN, (fun a ps e => show H a ≠ none from fun z => nomatch (z.symm.trans (show H a = some (.ext ps) from e)))⟩, ?_, ?_⟩
  · refine .one ?_
    rw [Rep]
    refine ⟨a, ns.map V.int, rfl, ?_, reps_ints ns⟩
    rcases hS with q | q
    · exact .inl ⟨Rd.ne q, q⟩
    · exact .inr q
  · rw [e]
    intro W' v l rh r
    rw [Rep] at r
    exact r
end Sw

/-! Sw, part J: comprehensions of two clauses; a, b = x, y; isinstance. -/
namespace Sw
open PySem PySem.Spec PyProof.Rows L2
variable [Tbs]

/-! ### two clauses -/
/-- behind the first clause: the items of the second -/
def lcL2 (g : GT) (tt : DT) (it1 : DA) (vs1 : List Nat) (g1 : GT) (tt1 : DT) (te : DE) (τ : List Sl) : List D → HS → Res (List D)
  | [], h => .ok [] h
  | x :: r, h => match g x τ with
    | none => .bad
    | some τ1 => (tt τ1 h).nox.bind fun b h1 => if b then (it1 τ1 h1).nox.bind fun items h2 => (lcL g1 tt1 te (wipeT τ1 vs1) items h2).nox.bind fun ys h3 => (lcL2 g tt it1 vs1 g1 tt1 te τ r h3).nox.bind fun zs h4 => .ok (ys ++ zs) h4
      else lcL2 g tt it1 vs1 g1 tt1 te τ r h1
def lcR2 (it : DA) (vs : List Nat) (g : GT) (tt : DT) (it1 : DA) (vs1 : List Nat) (g1 : GT) (tt1 : DT) (te : DE) : DE := fun τ h => (it τ h).bind fun items h1 =>
  (lcL2 g tt it1 vs1 g1 tt1 te (wipeT τ vs) items h1).nox.bind fun ys h2 => if fits ys.length then .ok (.lst ys) h2 else .bad
theorem lcL2_cons {g g1 : GT} {tt tt1 : DT} {te : DE} {it1 : DA} {vs1 : List Nat} {τ : List Sl} {x : D} {r : List D} {h : HS} : lcL2 g tt it1 vs1 g1 tt1 te τ (x :: r) h = match g x τ with
    | none => .bad
    | some τ1 => (tt τ1 h).nox.bind fun b h1 => if b then (it1 τ1 h1).nox.bind fun items h2 => (lcL g1 tt1 te (wipeT τ1 vs1) items h2).nox.bind fun ys h3 => (lcL2 g tt it1 vs1 g1 tt1 te τ r h3).nox.bind fun zs h4 => .ok (ys ++ zs) h4
      else lcL2 g tt it1 vs1 g1 tt1 te τ r h1 := rfl
/-- the end of a comprehension with acc made: what is wanted -/
def Fin (C : Cn) (W W1 : Wd) (E : XK) (Q : VK) (acc : List D) (r : Res (List D)) : Prop :=
  okG C.g.K C.g.mg (NewR C.g.K W) W1 E Q (r.nox.bind fun ys h2 => if fits (acc ++ ys).length then .ok (.lst (acc ++ ys)) h2 else .bad)
theorem Fin.len {C : Cn} {W W1 : Wd} {E : XK} {Q : VK} {acc : List D} {r : Res (List D)} (o : Fin C W W1 E Q acc r) : acc.length ≤ sizeLine := by
  unfold Fin at o
  cases r with
  | ok ys s =>
    by_cases hz : fits (acc ++ ys).length = true
    · have := of_decide_eq_true hz
      rw [List.length_append] at this
      omega
    · simp only [Res.nox, Res.bind, if_neg hz] at o; exact o.elim
  | exc x s => exact o.elim
  | bad => exact o.elim
theorem Fin.one {C : Cn} {W W1 : Wd} {E : XK} {Q : VK} {acc : List D} {y : D} {r : Res (List D)} {k : List D → HS → Res (List D)} (o : Fin C W W1 E Q acc ((r.nox.bind fun ys h3 => .ok (y :: ys) h3).nox.bind fun ys h => (k [] h).nox.bind fun zs h4 => .ok (ys ++ zs) h4)) :
    Fin C W W1 E Q (acc ++ [y]) (r.nox.bind fun ys h => (k [] h).nox.bind fun zs h4 => .ok (ys ++ zs) h4) := by
  unfold Fin at o ⊢
  cases r with
  | ok ys s =>
    simp only [Res.nox, Res.bind] at o ⊢
    cases ek : k [] s with
    | ok zs s2 =>
      rw [ek] at o
      simp only at o ⊢
      simpa using o
    | exc _ _ => rw [ek] at o; exact o
    | bad => rw [ek] at o; exact o
  | exc x s => exact o
  | bad => exact o
theorem Fin.nil {C : Cn} {W W1 : Wd} {E : XK} {Q : VK} {acc : List D} {r : Res (List D)} (o : Fin C W W1 E Q acc (r.nox.bind fun zs h4 => .ok ([] ++ zs) h4)) : Fin C W W1 E Q acc r := by
  unfold Fin at o ⊢
  cases r with
  | ok ys s => exact o
  | exc x s => exact o
  | bad => exact o
/-- an object that no slot of the frame holds is written -/
theorem Frm.other {K : PySem.W.Frag} {W0 W : Wd} {τ : List Sl} {σ : L2.St} {a : Addr} {o : HO} (f : Frm K W0 W τ σ) (nF : ¬ W.F a) (n : ∀ (i : Nat) (x : Sl), τ[i]? = some x → x.isOwn = true → σ[i]? ≠ some (some (.ref a))) : Frm K W0 (W.put a o) τ σ := by
  have lf := lef_own (W2 := W) (Dd := a) (o := o) nF
  refine ⟨f.len, fun j x e => ?_, f.dis⟩
  have h0 := f.at_ j x e
  have ne' := n j x e
  cases x with
  | un => trivial
  | val d => obtain ⟨v, e, r⟩ := h0; exact ⟨v, e, r.mono lf⟩
  | own zs =>
    obtain ⟨b, vs, e, h, r, w'⟩ := h0
    have hb : b ≠ a := fun z => ne' rfl (by rw [e, z])
    exact ⟨b, vs, e, by rw [← h]; exact upd_ne hb, r.mono lf, w'.nf, w'.nr, w'.new⟩
  | ownK zs =>
    obtain ⟨b, vs, e, h, r, w'⟩ := h0
    have hb : b ≠ a := fun z => ne' rfl (by rw [e, z])
    exact ⟨b, vs, e, by rw [← h]; exact upd_ne hb, r.mono lf, w'.nf, w'.nr, w'.new⟩
  | ownT zs =>
    obtain ⟨b, vs, e, h, r, w'⟩ := h0
    have hb : b ≠ a := fun z => ne' rfl (by rw [e, z])
    exact ⟨b, vs, e, by rw [← h]; exact upd_ne hb, r.mono lf, w'.nf, w'.nr, w'.new⟩
section
variable {C : Cn} {elt tg iter tg1 iter1 : Expr} {ifs ifs1 : List Expr} {scope : Scope} {own : List (Str × Nat)} {pos : Pos} {fi fi1 : DA} {g g1 : GT} {is vs1 : List Nat} {ft ft1 : DT} {fe : DE}
theorem lc2_read {X : Cx} {E : WX} (ok : CxOk C X E) (hi : DenI C tg iter fi) (ho : ∀ i ∈ is, i ∈ own.map (·.2)) (hg : DenGt (C.blk scope) tg is g) (ht : DenTs (C.blk scope) ifs ft)
    (hi1 : DenI (C.blk scope) tg1 iter1 fi1) (hg1 : DenGt (C.blk scope) tg1 vs1 g1) (ht1 : DenTs (C.blk scope) ifs1 ft1) (he : DenE (C.blk scope) elt fe) :
    ∃ (wi wi1 : TI) (gt gt1 : TG) (tt tt1 : TT) (te : TE), PI X tg iter wi ∧ (∀ i, PG (bX X scope i) tg gt) ∧ (∀ i, PTs (bX X scope i) ifs tt) ∧ (∀ i, PI (bX X scope i) tg1 iter1 wi1) ∧ (∀ i, PG (bX X scope i) tg1 gt1) ∧ (∀ i, PTs (bX X scope i) ifs1 tt1) ∧ (∀ i, PE (bX X scope i) elt te) ∧
      ∀ W0 W τ σ h (Q : VK), Le W0 W → Frm C.g.K W0 W τ σ → RH C.g.K W h → okG C.g.K C.g.mg (NewR C.g.K W) W (fun c dd H => E c dd σ H) Q (lcR2 fi (own.map (·.2)) g ft fi1 vs1 g1 ft1 fe τ h) →
        tLc2 wi gt tt wi1 gt1 tt1 te (own.map (·.2)) vs1 σ W.H Q := by
  obtain ⟨wi, pi, qi⟩ := hi X E ok
  have oks : ∀ i : BI, CxOk (C.blk scope) (bX X scope i) (fun _ _ _ _ => False) := fun i => ok.blk scope i.s i.H i.C i.cl i.fp
  obtain ⟨gt, pg, qg⟩ := hg.unif (bX X scope) _ oks
  obtain ⟨tt, pt, qt⟩ := ht.unif (bX X scope) _ oks fun X t t' p k => PTs.anti p k
  obtain ⟨wi1, pi1, qi1⟩ := hi1.unif (bX X scope) _ oks fun X t t' p k => PI.anti p k
  obtain ⟨gt1, pg1, qg1⟩ := hg1.unif (bX X scope) _ oks
  obtain ⟨tt1, pt1, qt1⟩ := ht1.unif (bX X scope) _ oks fun X t t' p k => PTs.anti p k
  obtain ⟨te, pe, qe⟩ := he.unif (bX X scope) _ oks fun X t t' p k => PE.anti p k
  refine ⟨wi, wi1, gt, gt1, tt, tt1, te, pi, pg, pt, pi1, pg1, pt1, pe, fun W0 W τ σ h Q l fr rh o => ?_⟩
  refine qi W0 W τ σ h _ l fr rh (okG.bind o fun items h1 W1 J l1 rh1 wk o1 => ?_)
  intro Dd hD
  let vs := own.map (·.2)
  let τ0 := wipeT τ vs
  let Ex : XK := fun c dd H => E c dd σ H
  let F := fun (acc : List D) (r : Res (List D)) => Fin C W W1 Ex Q acc r
  have o1 : F [] (lcL2 g ft fi1 vs1 g1 ft1 fe τ0 items h1) := by simpa [F, Fin] using o1
  refine ⟨fun i m H => m = items.length - i ∧ i ≤ items.length ∧ ∃ W2 acc h2, W2.H = H ∧ OwnL C.g.K W1 W2 Dd acc h2 ∧ F acc (lcL2 g ft fi1 vs1 g1 ft1 fe τ0 (items.drop i) h2),
    ⟨items.length, by simp, Nat.zero_le _, W1.put Dd (.lst []), [], h1, rfl, ?_, ?_⟩, ?_⟩
  · exact ⟨le_put hD, rh_put hD rh1, ⟨[], upd_same, .nil⟩, fun f => rh1.up _ f hD, fun m => rh1.there m hD⟩
  · rw [List.drop_zero]; exact o1
  rintro i m H ⟨rfl, hi, W2, acc, h2, rfl, w, o2⟩
  by_cases hlt : i < items.length
  · have hdrop : items.drop i = items[i] :: items.drop (i + 1) := List.drop_eq_getElem_cons hlt
    rw [hdrop, lcL2_cons] at o2
    have hit : items[i]? = some items[i] := List.getElem?_eq_getElem hlt
    obtain ⟨hgo, hy⟩ := (wk i W2 w.le.toLeF w.rh.tf).1 _ hit
    refine .inr ⟨hgo, fun H' => ∃ W3 acc h3, W3.H = H' ∧ OwnL C.g.K W1 W3 Dd acc h3 ∧ F acc (lcL2 g ft fi1 vs1 g1 ft1 fe τ0 (items.drop (i + 1)) h3), fun H' hN => ⟨items.length - (i + 1), by omega, rfl, hlt, hN⟩, fun x H' y => ?_⟩
    obtain ⟨W3, rfl, l3, k3, r3⟩ := hy x H' y
    have w3 := w.step l3 (k3 _ w.rh)
    have fr3 : Frm C.g.K W0 W3 τ0 (L2.wipe σ vs) := (fr.mono ((l1.trans w.le).trans l3)).wipe vs
    have le03 : Le W0 W3 := (l.trans (l1.trans w.le)).trans l3
    cases eg : g items[i] τ0 with
    | none => rw [eg] at o2; exact (show False from o2).elim
    | some τ1 =>
      rw [eg] at o2
      refine qg W0 W3 τ0 _ items[i] x τ1 _ fr3 r3 eg fun σ2 fr4 hl2 hs2 ho2 => ⟨?_, ?_⟩
      · rw [wipe_same (σ := L2.wipe σ vs) (σ' := σ2) (vs := vs) hl2 fun j hj => hs2 j fun z => hj (ho j z), wipe_wipe]
      · have o2 : F acc ((ft τ1 h2).nox.bind fun b h1 => if b then (fi1 τ1 h1).nox.bind fun items' h2 => (lcL g1 ft1 fe (wipeT τ1 vs1) items' h2).nox.bind fun ys h3 => (lcL2 g ft fi1 vs1 g1 ft1 fe τ0 (items.drop (i + 1)) h3).nox.bind fun zs h4 => .ok (ys ++ zs) h4
          else lcL2 g ft fi1 vs1 g1 ft1 fe τ0 (items.drop (i + 1)) h1) := o2
        cases et : ft τ1 h2 with
        | exc _ _ => rw [et] at o2; exact (show False from o2).elim
        | bad => rw [et] at o2; exact (show False from o2).elim
        | ok b h4 =>
          refine qt W0 W3 τ1 σ2 h2 _ le03 fr4 w3.rh ?_
          rw [et] at o2 ⊢
          intro W4 b' l4 rh4 hb'
          subst hb'
          have w4 := w3.step l4 rh4
          have fr5 := fr4.mono l4
          have le04 := le03.trans l4
          cases b with
          | false => exact iteF ⟨W4, acc, h4, rfl, w4, o2⟩
          | true =>
            refine iteT ?_
            have o2 : F acc ((fi1 τ1 h4).nox.bind fun items' h2 => (lcL g1 ft1 fe (wipeT τ1 vs1) items' h2).nox.bind fun ys h3 => (lcL2 g ft fi1 vs1 g1 ft1 fe τ0 (items.drop (i + 1)) h3).nox.bind fun zs h4 => .ok (ys ++ zs) h4) := o2
            cases ei : fi1 τ1 h4 with
            | exc _ _ => rw [ei] at o2; exact (show False from o2).elim
            | bad => rw [ei] at o2; exact (show False from o2).elim
            | ok items' h5 =>
              refine qi1 W0 W4 τ1 σ2 h4 _ le04 fr5 rh4 ?_
              rw [ei] at o2 ⊢
              intro W5 J1 l5 rh5 wk1
              have w5 := w4.step l5 rh5
              let K2 := fun (_ : List D) h3 => lcL2 g ft fi1 vs1 g1 ft1 fe τ0 (items.drop (i + 1)) h3
              let τ2 := wipeT τ1 vs1
              have fr6 : Frm C.g.K W0 W5 τ1 σ2 := fr5.mono l5
              refine ⟨fun j k H => k = items'.length - j ∧ j ≤ items'.length ∧ ∃ W6 acc h6, W6.H = H ∧ OwnL C.g.K W1 W6 Dd acc h6 ∧ LeF W5 W6 ∧ Le W0 W6 ∧ Frm C.g.K W0 W6 τ1 σ2 ∧
                F acc ((lcL g1 ft1 fe τ2 (items'.drop j) h6).nox.bind fun ys h3 => (K2 [] h3).nox.bind fun zs h4 => .ok (ys ++ zs) h4), ⟨items'.length, by simp, Nat.zero_le _, W5, acc, h5, rfl, w5, .refl _, le04.trans l5, fr6, ?_⟩, ?_⟩
              · rw [List.drop_zero]; exact o2
              rintro j k H ⟨rfl, hj, W6, acc6, h6, rfl, w6, lf6, le6, fr7, o6⟩
              by_cases hlt1 : j < items'.length
              · have hdrop1 : items'.drop j = items'[j] :: items'.drop (j + 1) := List.drop_eq_getElem_cons hlt1
                rw [hdrop1, lcL_cons] at o6
                have hit1 : items'[j]? = some items'[j] := List.getElem?_eq_getElem hlt1
                obtain ⟨hgo1, hy1⟩ := (wk1 j W6 lf6 w6.rh.tf).1 _ hit1
                refine .inr ⟨hgo1, fun H' => ∃ W7 acc h7, W7.H = H' ∧ OwnL C.g.K W1 W7 Dd acc h7 ∧ LeF W5 W7 ∧ Le W0 W7 ∧ Frm C.g.K W0 W7 τ1 σ2 ∧
                  F acc ((lcL g1 ft1 fe τ2 (items'.drop (j + 1)) h7).nox.bind fun ys h3 => (K2 [] h3).nox.bind fun zs h4 => .ok (ys ++ zs) h4), fun H' hN => ⟨items'.length - (j + 1), by omega, rfl, hlt1, hN⟩, fun x1 H' y1 => ?_⟩
                obtain ⟨W7, rfl, l7, k7, r7⟩ := hy1 x1 H' y1
                have w7 := w6.step l7 (k7 _ w6.rh)
                have fr8 : Frm C.g.K W0 W7 τ2 (L2.wipe σ2 vs1) := (fr7.mono l7).wipe vs1
                have le07 := le6.trans l7
                cases eg1 : g1 items'[j] τ2 with
                | none => rw [eg1] at o6; exact (show False from o6).elim
                | some τ3 =>
                  rw [eg1] at o6
                  refine qg1 W0 W7 τ2 _ items'[j] x1 τ3 _ fr8 r7 eg1 fun σ3 fr9 hl3 hs3 _ => ⟨?_, ?_⟩
                  · rw [wipe_same (σ := L2.wipe σ2 vs1) (σ' := σ3) (vs := vs1) hl3 hs3, wipe_wipe]
                  · have o6 : F acc6 (((ft1 τ3 h6).nox.bind fun b h1 => if b then (fe τ3 h1).nox.bind fun y h2 => (lcL g1 ft1 fe τ2 (items'.drop (j + 1)) h2).nox.bind fun ys h3 => .ok (y :: ys) h3 else lcL g1 ft1 fe τ2 (items'.drop (j + 1)) h1).nox.bind fun ys h3 => (K2 [] h3).nox.bind fun zs h4 => .ok (ys ++ zs) h4) := o6
                    cases et1 : ft1 τ3 h6 with
                    | exc _ _ => rw [et1] at o6; exact (show False from o6).elim
                    | bad => rw [et1] at o6; exact (show False from o6).elim
                    | ok b h8 =>
                      refine qt1 W0 W7 τ3 σ3 h6 _ le07 fr9 w7.rh ?_
                      rw [et1] at o6 ⊢
                      intro W8 b' l8 rh8 hb'
                      subst hb'
                      have w8 := w7.step l8 rh8
                      cases b with
                      | false => exact iteF ⟨W8, acc6, h8, rfl, w8, (lf6.trans l7.toLeF).trans l8.toLeF, le07.trans l8, (fr7.mono l7).mono l8, o6⟩
                      | true =>
                        refine iteT ?_
                        have o6 : F acc6 (((fe τ3 h8).nox.bind fun y h2 => (lcL g1 ft1 fe τ2 (items'.drop (j + 1)) h2).nox.bind fun ys h3 => .ok (y :: ys) h3).nox.bind fun ys h3 => (K2 [] h3).nox.bind fun zs h4 => .ok (ys ++ zs) h4) := o6
                        cases ee : fe τ3 h8 with
                        | exc _ _ => rw [ee] at o6; exact (show False from o6).elim
                        | bad => rw [ee] at o6; exact (show False from o6).elim
                        | ok d h9 =>
                          refine qe W0 W8 τ3 σ3 h8 _ (le07.trans l8) (fr9.mono l8) rh8 ?_
                          rw [ee] at o6 ⊢
                          intro W9 yv l9 rh9 r9
                          have w9 := w8.step l9 rh9
                          obtain ⟨avs, ea, ra⟩ := w9.obj
                          have o7 : F (acc6 ++ [d]) ((lcL g1 ft1 fe τ2 (items'.drop (j + 1)) h9).nox.bind fun ys h3 => (K2 [] h3).nox.bind fun zs h4 => .ok (ys ++ zs) h4) := Fin.one o6
                          have hz := Fin.len o7
                          rw [List.length_append] at hz
                          refine ⟨avs, ea, by rw [← ra.length]; simp at hz; omega, W9.put Dd (.lst (avs ++ [yv])), acc6 ++ [d], h9, rfl, w9.app hD ea r9, ?_, le_own (((le07.trans l8).trans l9)) (by
                            exact (l.trans l1).old rh1 hD) w9.nF, ?_, o7⟩
                          · exact (((lf6.trans l7.toLeF).trans l8.toLeF).trans l9.toLeF).trans (lef_own w9.nF)
                          · refine (((fr7.mono l7).mono l8).mono l9).other w9.nF fun j' x' ej ox => ?_
                            obtain ⟨a1, a2⟩ := ho2 j' x' ej ox
                            rw [a2]
                            exact fun z => SlAt.there ((fr.wipe vs).at_ j' x' a1) ox z (l1.old rh1 hD)
              · have e : j = items'.length := by omega
                subst e
                rw [List.drop_length] at o6
                exact .inl ⟨(wk1 _ W6 lf6 w6.rh.tf).2 rfl, W6, acc6, h6, rfl, w6, Fin.nil o6⟩
  · have e : i = items.length := by omega
    subst e
    rw [List.drop_length] at o2
    obtain ⟨avs, ea, ra⟩ := w.obj
    refine .inl ⟨(wk _ W2 w.le.toLeF w.rh.tf).2 rfl, ?_⟩
    have o3 : okG C.g.K C.g.mg (NewR C.g.K W) W1 Ex Q (if fits (acc ++ []).length then .ok (.lst (acc ++ [])) h2 else .bad) := o2
    rw [List.append_nil] at o3
    by_cases hz : fits acc.length = true
    · rw [if_pos hz] at o3
      exact o3 W2 _ w.le w.rh ⟨Dd, avs, rfl, ea, ra, w.nF, w.nr, l1.old rh1 hD⟩
    · rw [if_neg hz] at o3; exact o3.elim
theorem den_lc2 (hi : DenI C tg iter fi) (hb : blkC C.N C.sc scope own = true) (ho : ∀ i ∈ is, i ∈ own.map (·.2)) (hv : ∀ i ∈ vs1, i ∈ own.map (·.2)) (hg : DenGt (C.blk scope) tg is g) (ht : DenTs (C.blk scope) ifs ft)
    (hi1 : DenI (C.blk scope) tg1 iter1 fi1) (hg1 : DenGt (C.blk scope) tg1 vs1 g1) (ht1 : DenTs (C.blk scope) ifs1 ft1) (he : DenE (C.blk scope) elt fe)
    (hs : ∀ env x, foldedSetIterable iter env x = pure x) (hs1 : ∀ env x, foldedSetIterable iter1 env x = pure x) : DenN C (.ListComp elt [⟨tg, iter, ifs, 0⟩, ⟨tg1, iter1, ifs1, 0⟩] scope pos) (lcR2 fi (own.map (·.2)) g ft fi1 vs1 g1 ft1 fe) := fun X E ok => by
  obtain ⟨wi, wi1, gt, gt1, tt, tt1, te, p1, p2, p3, p4, p5, p6, p7, q⟩ := lc2_read ok hi ho hg ht hi1 hg1 ht1 he
  exact ⟨_, pe_lc2 ok.calm ok.nd p1 (blkOk_by (by rw [ok.names, ok.scope]; exact hb)) hv (fun s H Cd cl fp => p2 ⟨s, H, Cd, cl, fp⟩) (fun s H Cd cl fp => p3 ⟨s, H, Cd, cl, fp⟩) (fun s H Cd cl fp => p4 ⟨s, H, Cd, cl, fp⟩) (fun s H Cd cl fp => p5 ⟨s, H, Cd, cl, fp⟩)
    (fun s H Cd cl fp => p6 ⟨s, H, Cd, cl, fp⟩) (fun s H Cd cl fp => p7 ⟨s, H, Cd, cl, fp⟩) (hs _) hs1, q⟩
end

/-! ### a, b = x, y -/
/-- a value that a name will hold: of its own, or shared by reading -/
def SlNew (K : PySem.W.Frag) (W W' : Wd) : Sl → V → Prop
  | .val d, v => Rep K W' d v
  | .own xs, v => NewR K W W' (.lst xs) v
  | .ownK xs, v => NewR K W W' (.dK xs) v
  | .ownT xs, v => NewR K W W' (.dT xs) v
  | .un, _ => False
def SlsNew (K : PySem.W.Frag) (W W' : Wd) : List Sl → List V → Prop
  | [], vs => vs = []
  | s :: ss, vs => ∃ v r, vs = v :: r ∧ SlNew K W W' s v ∧ SlsNew K W W' ss r ∧ (s.isOwn = true → ∀ (j : Nat) (s' : Sl), ss[j]? = some s' → s'.isOwn = true → r[j]? ≠ some v)
abbrev DenM (C : Cn) (es : List Expr) (f : List Sl → HS → Res (List Sl)) : Prop := DenG C (fun X t => PA X es t) (fun W => SlsNew C.g.K W) f
theorem NewR.mono {K : PySem.W.Frag} {W W1 W2 : Wd} {d : D} {v : V} (l : Le W1 W2) (n : NewR K W W1 d v) : NewR K W W2 d v := by
  cases d with
  | lst xs =>
    obtain ⟨a, vs, h1, h2, h3, h4, h5, h6⟩ := n
    obtain ⟨b1, b2, b3⟩ := l.fo a _ h2 h4 h5
    exact ⟨a, vs, h1, b1, h3.mono l.toLeF, b2, b3, h6⟩
  | dK xs =>
    obtain ⟨a, vs, h1, h2, h3, h4, h5, h6⟩ := n
    obtain ⟨b1, b2, b3⟩ := l.fo a _ h2 h4 h5
    exact ⟨a, vs, h1, b1, h3.mono l.toLeF, b2, b3, h6⟩
  | dT xs =>
    obtain ⟨a, vs, h1, h2, h3, h4, h5, h6⟩ := n
    obtain ⟨b1, b2, b3⟩ := l.fo a _ h2 h4 h5
    exact ⟨a, vs, h1, b1, h3.mono l.toLeF, b2, b3, h6⟩
  | _ => exact n.elim
def valM (a : DE) (r : List Sl → HS → Res (List Sl)) : List Sl → HS → Res (List Sl) := fun τ h => (a τ h).bind fun d h1 => (r τ h1).bind fun ss h2 => .ok (.val d :: ss) h2
def ownM (a : DE) (r : List Sl → HS → Res (List Sl)) : List Sl → HS → Res (List Sl) := fun τ h => (a τ h).bind fun d h1 => match ownSl d with
  | some s => (r τ h1).bind fun ss h2 => .ok (s :: ss) h2
  | none => .bad
section
variable {C : Cn} {e : Expr} {es : List Expr} {fe : DE} {fs : List Sl → HS → Res (List Sl)} {pos : Pos}
theorem den_mnil : DenM C [] (fun _ h => .ok [] h) := fun X E ok => ⟨_, pa_nil, fun W0 W τ σ h Q l fr rh o => okG.now o rh rfl⟩
theorem SlsNew.of {K : PySem.W.Frag} {W W1 W2 : Wd} {h : HS} (l : Le W W1) (rh : RH K W1 h) : ∀ {ss : List Sl} {vs : List V}, SlsNew K W1 W2 ss vs → SlsNew K W W2 ss vs
  | [], _, h => h
  | s :: ss, _, ⟨v, r, e, n, t, d⟩ => ⟨v, r, e, by
      cases s with
      | val d => exact n
      | un => exact n
      | own xs => exact NewR.of (d := .lst xs) l rh n
      | ownK xs => exact NewR.of (d := .dK xs) l rh n
      | ownT xs => exact NewR.of (d := .dT xs) l rh n, SlsNew.of l rh t, d⟩
theorem den_mval (he : DenE C e fe) (hr : DenM C es fs) (hs : ∀ env, starEach (e :: es) env = (false, eval e env) :: starEach es env) : DenM C (e :: es) (valM fe fs) := fun X E ok => by
  obtain ⟨t, p, q⟩ := he X E ok
  obtain ⟨t', p', q'⟩ := hr X E ok
  refine ⟨_, pa_cons p p' (hs _), fun W0 W τ σ h Q l fr rh o => ?_⟩
  refine q W0 W τ σ h _ l fr rh (okG.bind o fun x h1 W1 v l1 rh1 b1 o1 => ?_)
  refine q' W0 W1 τ σ h1 _ (l.trans l1) (fr.mono l1) rh1 ?_
  have o1 : okG C.g.K C.g.mg (SlsNew C.g.K W) W1 (fun c dd H => E c dd σ H) Q ((fs τ h1).bind fun ss h2 => .ok (.val x :: ss) h2) := o1
  cases ef : fs τ h1 with
  | exc _ _ => rw [ef] at o1; exact o1
  | bad => rw [ef] at o1; exact o1
  | ok ss h2 =>
    rw [ef] at o1
    exact fun W2 u l2 rh2 b2 => o1 W2 (v :: u) l2 rh2 ⟨v, u, rfl, b1.mono l2.toLeF, b2.of l1 rh1, fun z => by cases z⟩
theorem SlsNew.own_at {K : PySem.W.Frag} {W W' : Wd} : ∀ {ss : List Sl} {vs : List V} {j : Nat} {s : Sl}, SlsNew K W W' ss vs → ss[j]? = some s → s.isOwn = true → ∃ a, vs[j]? = some (.ref a) ∧ W.H a = none
  | [], _, j, s, _, e, _ => by simp at e
  | s :: ss, _, 0, s', ⟨v, r, rfl, n, t, d⟩, e, o => by
    simp at e
    subst e
    cases s with
    | own xs => obtain ⟨a, vs, rfl, _, _, _, _, h⟩ := n; exact ⟨a, rfl, h⟩
    | ownK xs => obtain ⟨a, vs, rfl, _, _, _, _, h⟩ := n; exact ⟨a, rfl, h⟩
    | ownT xs => obtain ⟨a, vs, rfl, _, _, _, _, h⟩ := n; exact ⟨a, rfl, h⟩
    | _ => cases o
  | s :: ss, _, j + 1, s', ⟨v, r, rfl, n, t, d⟩, e, o => by
    obtain ⟨a, h1, h2⟩ := SlsNew.own_at (j := j) t (by simpa using e) o
    exact ⟨a, by simpa using h1, h2⟩
theorem den_mown (he : DenN C e fe) (hr : DenM C es fs) (hs : ∀ env, starEach (e :: es) env = (false, eval e env) :: starEach es env) : DenM C (e :: es) (ownM fe fs) := fun X E ok => by
  obtain ⟨t, p, q⟩ := he X E ok
  obtain ⟨t', p', q'⟩ := hr X E ok
  refine ⟨_, pa_cons p p' (hs _), fun W0 W τ σ h Q l fr rh o => ?_⟩
  refine q W0 W τ σ h _ l fr rh (okG.bind o fun x h1 W1 v l1 rh1 b1 o1 => ?_)
  refine q' W0 W1 τ σ h1 _ (l.trans l1) (fr.mono l1) rh1 ?_
  cases es' : ownSl x with
  | none => rw [es'] at o1; exact o1.elim
  | some sl =>
    rw [es'] at o1
    have o1 : okG C.g.K C.g.mg (SlsNew C.g.K W) W1 (fun c dd H => E c dd σ H) Q ((fs τ h1).bind fun ss h2 => .ok (sl :: ss) h2) := o1
    cases ef : fs τ h1 with
    | exc _ _ => rw [ef] at o1; exact o1
    | bad => rw [ef] at o1; exact o1
    | ok ss h2 =>
      rw [ef] at o1
      refine fun W2 u l2 rh2 b2 => o1 W2 (v :: u) l2 rh2 ⟨v, u, rfl, ?_, b2.of l1 rh1, fun ho j s' e' o' z => ?_⟩
      · cases x <;> simp only [ownSl, Option.some.injEq, reduceCtorEq] at es' <;> subst es' <;> exact b1.mono l2
      · obtain ⟨a, ha, hn⟩ := b2.own_at e' o'
        rw [z] at ha
        cases ha
        obtain ⟨_, _, a', ea, na⟩ := b1.sl l rh es'
        obtain ⟨k1, k2, _⟩ := b1.sl l rh es'
        exact SlAt.there k2 k1 rfl hn
/-- a slot set, by what the others hold -/
theorem Frm.setG {K : PySem.W.Frag} {W0 W : Wd} {τ : List Sl} {σ : L2.St} (f : Frm K W0 W τ σ) {s : Sl} {v : V} (i : Nat) (hs : SlAt K W0 W s (some (some v)))
    (n : s.isOwn = true → ∀ (j : Nat) (x : Sl), i ≠ j → τ[j]? = some x → x.isOwn = true → σ[j]? ≠ some (some v)) : Frm K W0 W (τ.set i s) (σ.set i (some v)) where
  len := by simp [f.len]
  at_ := fun j x e => by
    by_cases hj : i = j
    · subst hj
      by_cases hi : i < τ.length
      · rw [List.getElem?_set_self hi] at e
        cases e
        rw [List.getElem?_set_self (by rw [← f.len]; exact hi)]
        exact hs
      · rw [List.getElem?_eq_none (by simpa using hi)] at e; cases e
    · rw [List.getElem?_set_ne hj] at e ⊢
      exact f.at_ j x e
  dis := fun p q x y ad ne e1 e2 o1 o2 => by
    have inr : ∀ {x : Sl}, (τ.set i s)[i]? = some x → i < τ.length ∧ x = s := fun {x} e => by
      by_cases hi : i < τ.length
      · rw [List.getElem?_set_self hi] at e; cases e; exact ⟨hi, rfl⟩
      · rw [List.getElem?_eq_none (by simpa using hi)] at e; cases e
    by_cases h1 : i = p
    · subst h1
      obtain ⟨hi, rfl⟩ := inr e1
      have hq : i ≠ q := ne
      rw [List.getElem?_set_self (by rw [← f.len]; exact hi)]
      rw [List.getElem?_set_ne hq] at e2 ⊢
      intro z
      cases z
      exact n o1 q y hq e2 o2
    · rw [List.getElem?_set_ne h1] at e1 ⊢
      by_cases h2 : i = q
      · subst h2
        obtain ⟨hi, rfl⟩ := inr e2
        rw [List.getElem?_set_self (by rw [← f.len]; exact hi)]
        intro z z2
        cases z2
        exact n o2 p x h1 e1 o1 z
      · rw [List.getElem?_set_ne h2] at e2 ⊢
        exact f.dis p q x y ad ne e1 e2 o1 o2
theorem SlNew.at_ {K : PySem.W.Frag} {W0 W W' : Wd} {h : HS} {s : Sl} {v : V} (l : Le W0 W) (rh : RH K W h) (n : SlNew K W W' s v) : SlAt K W0 W' s (some (some v)) := by
  cases s with
  | val d => exact ⟨v, rfl, n⟩
  | un => exact n.elim
  | own xs => obtain ⟨a, vs, rfl, e, r, f, q, o⟩ := n; exact ⟨a, vs, rfl, e, r, f, q, l.old rh o⟩
  | ownK xs => obtain ⟨a, vs, rfl, e, r, f, q, o⟩ := n; exact ⟨a, vs, rfl, e, r, f, q, l.old rh o⟩
  | ownT xs => obtain ⟨a, vs, rfl, e, r, f, q, o⟩ := n; exact ⟨a, vs, rfl, e, r, f, q, l.old rh o⟩
theorem SlNew.no {K : PySem.W.Frag} {W W' : Wd} {s : Sl} {v : V} (n : SlNew K W W' s v) (o : s.isOwn = true) : ∃ a, v = .ref a ∧ W.H a = none := by
  cases s with
  | own xs => obtain ⟨a, vs, rfl, e, r, f, q, o⟩ := n; exact ⟨a, rfl, o⟩
  | ownK xs => obtain ⟨a, vs, rfl, e, r, f, q, o⟩ := n; exact ⟨a, rfl, o⟩
  | ownT xs => obtain ⟨a, vs, rfl, e, r, f, q, o⟩ := n; exact ⟨a, rfl, o⟩
  | _ => cases o
def par2 (i j : Nat) (fa : List Sl → HS → Res (List Sl)) : DS := fun τ h => RS.ofR (fa τ h) τ fun ss h1 => match ss with
  | [s, t] => .nx ((τ.set i s).set j t) h1
  | _ => .bad
def par3 (i j k : Nat) (fa : List Sl → HS → Res (List Sl)) : DS := fun τ h => RS.ofR (fa τ h) τ fun ss h1 => match ss with
  | [s, t, u] => .nx (((τ.set i s).set j t).set k u) h1
  | _ => .bad
variable {a b c : Expr} {x y z : Str} {i j k : Nat} {px py pz pt pt2 : Pos} {kt k2 : Nat}
theorem den_par2 (hi : C.N[i]? = some x) (hj : C.N[j]? = some y) (hij : i ≠ j) (hx : C.sc.names.lookup x = some .local) (hy : C.sc.names.lookup y = some .local) (ha : DenM C [a, b] fs)
    (hw : ∀ env, env.scope = C.sc → swappedStores [.Tuple [.Name x px, .Name y py] kt pt] (.Tuple [a, b] k2 pt2) env = pure (some [x, y]))
    (hs : ∀ env, swapsWithSole [.Tuple [.Name x px, .Name y py] kt pt] (.Tuple [a, b] k2 pt2) pos.line env = pure false) :
    DenS C (.Assign [.Tuple [.Name x px, .Name y py] kt pt] (.Tuple [a, b] k2 pt2) pos) (par2 i j fs) := fun X E ok => by
  obtain ⟨t, p, q⟩ := ha X E ok
  refine ⟨_, ps_par ok.calm ok.nd (by rw [ok.names]; exact hi) (by rw [ok.names]; exact hj) hij (by rw [ok.scope]; exact hx) (by rw [ok.scope]; exact hy) p (hw _ ok.scope) (hs _), fun W0 W τ σ h D l fr rh o => ?_⟩
  refine q W0 W τ σ h _ l fr rh (okS.ex l o fun ss s1 W1 vs l1 rh1 n o1 => ?_)
  match ss with
  | [] => exact o1.elim
  | [_] => exact o1.elim
  | _ :: _ :: _ :: _ => exact o1.elim
  | [s, t] =>
    obtain ⟨v, r1, rfl, n1, n', d⟩ := n
    obtain ⟨u, r2, rfl, n2, e3, _⟩ := n'
    cases (show r2 = [] from e3)
    refine ⟨v, u, rfl, ?_⟩
    refine o1 W1 _ (l.trans l1) (.refl _) (((fr.mono l1).setG i (n1.at_ l rh) fun ho j' x' _ e' o' z => ?_).setG j (n2.at_ l rh) fun ho j' x' hj' e' o' z => ?_) rh1
    · obtain ⟨a, rfl, na⟩ := n1.no ho
      exact SlAt.there (fr.at_ j' x' e') o' z na
    · obtain ⟨a, rfl, na⟩ := n2.no ho
      by_cases hi' : i = j'
      · subst hi'
        by_cases hl : i < τ.length
        · rw [List.getElem?_set_self hl] at e'
          cases e'
          rw [List.getElem?_set_self (by rw [← fr.len]; exact hl)] at z
          cases z
          exact d o' 0 t rfl ho rfl
        · rw [List.getElem?_eq_none (by simpa using hl)] at e'; cases e'
      · rw [List.getElem?_set_ne hi'] at e' z
        exact SlAt.there (fr.at_ j' x' e') o' z na
end
end Sw

/-! Sw, part K: what reads no shared list; tuples in sum, max, min; isinstance. -/
namespace Sw
open PySem PySem.Spec PyProof.Rows L2
variable [Tbs]

/-! ### what reads no shared list: the shared lists set aside -/
mutual
def D.noRef : D → Bool
  | .tup xs => noRefs xs
  | .lst xs => noRefs xs
  | .frl xs => noRefs xs
  | .dK kvs => noRefK kvs
  | .dT kvs => noRefT kvs
  | .ref _ => false
  | _ => true
def noRefs : List D → Bool
  | [] => true
  | x :: xs => x.noRef && noRefs xs
def noRefK : List (Key × D) → Bool
  | [] => true
  | (_, x) :: xs => x.noRef && noRefK xs
def noRefT : List (List Key × D) → Bool
  | [] => true
  | (_, x) :: xs => x.noRef && noRefT xs
end
section
variable {K : PySem.W.Frag} {W W' : Wd}
mutual
theorem Rep.aside (hF : W'.F = W.F) (hH : W'.H = W.H) : ∀ (d : D) (v : V), d.noRef = true → Rep K W d v → Rep K W' d v
  | .non, v, n, h => by simpa [Rep] using h
  | .bl b, v, n, h => by simpa [Rep] using h
  | .int i, v, n, h => by simpa [Rep] using h
  | .str s, v, n, h => by simpa [Rep] using h
  | .tup xs, v, n, h => by
    rw [Rep] at h ⊢
    rw [D.noRef] at n
    obtain ⟨a, vs, e, t, r⟩ := h
    exact ⟨a, vs, e, by unfold TupAt at t ⊢; rw [hF, hH]; exact t, Reps.aside hF hH xs vs n r⟩
  | .lst xs, v, n, h => by
    rw [Rep] at h ⊢
    rw [D.noRef] at n
    obtain ⟨a, vs, e, t, r⟩ := h
    exact ⟨a, vs, e, by unfold LstAt at t ⊢; rw [hF, hH]; exact t, Reps.aside hF hH xs vs n r⟩
  | .frl xs, v, n, h => by
    rw [Rep] at h ⊢
    rw [D.noRef] at n
    obtain ⟨a, vs, e, t, r⟩ := h
    exact ⟨a, vs, e, by unfold FrlAt at t ⊢; rw [hF, hH]; exact t, Reps.aside hF hH xs vs n r⟩
  | .dK kvs, v, n, h => by
    rw [Rep] at h ⊢
    rw [D.noRef] at n
    obtain ⟨a, ws, e, f, t, r⟩ := h
    exact ⟨a, ws, e, by rw [hF]; exact f, by rw [hH]; exact t, RepK.aside hF hH kvs ws n r⟩
  | .dT kvs, v, n, h => by
    rw [Rep] at h ⊢
    rw [D.noRef] at n
    obtain ⟨a, ws, e, f, t, r⟩ := h
    exact ⟨a, ws, e, by rw [hF]; exact f, by rw [hH]; exact t, RepT.aside hF hH kvs ws n r⟩
  | .ref k, v, n, h => by rw [D.noRef] at n; cases n
  | .fn x, v, n, h => by simpa [Rep] using h
theorem Reps.aside (hF : W'.F = W.F) (hH : W'.H = W.H) : ∀ (ds : List D) (vs : List V), noRefs ds = true → Reps K W ds vs → Reps K W' ds vs
  | [], vs, n, h => by simpa [Reps] using h
  | x :: xs, vs, n, h => by
    rw [Reps] at h ⊢
    rw [noRefs, Bool.and_eq_true] at n
    obtain ⟨v, r, e, h1, h2⟩ := h
    exact ⟨v, r, e, Rep.aside hF hH x v n.1 h1, Reps.aside hF hH xs r n.2 h2⟩
theorem RepK.aside (hF : W'.F = W.F) (hH : W'.H = W.H) : ∀ (ds : List (Key × D)) (vs : List (Key × V)), noRefK ds = true → RepK K W ds vs → RepK K W' ds vs
  | [], vs, n, h => by simpa [RepK] using h
  | (k, x) :: xs, vs, n, h => by
    rw [RepK] at h ⊢
    rw [noRefK, Bool.and_eq_true] at n
    obtain ⟨v, r, e, h1, h2⟩ := h
    exact ⟨v, r, e, Rep.aside hF hH x v n.1 h1, RepK.aside hF hH xs r n.2 h2⟩
theorem RepT.aside (hF : W'.F = W.F) (hH : W'.H = W.H) : ∀ (ds : List (List Key × D)) (vs : List (List Key × V)), noRefT ds = true → RepT K W ds vs → RepT K W' ds vs
  | [], vs, n, h => by simpa [RepT] using h
  | (k, x) :: xs, vs, n, h => by
    rw [RepT] at h ⊢
    rw [noRefT, Bool.and_eq_true] at n
    obtain ⟨v, r, e, h1, h2⟩ := h
    exact ⟨v, r, e, Rep.aside hF hH x v n.1 h1, RepT.aside hF hH xs r n.2 h2⟩
end
/-- the world without its shared lists -/
def Wd.lone (W : Wd) : Wd := { W with ρ := [] }
/-- .. and a later one with them -/
def Wd.with_ (W1 W : Wd) : Wd := { W1 with ρ := W.ρ }
theorem rh_lone {h : HS} (rh : RH K W h) : RH K W.lone [] := ⟨rfl, List.nodup_nil, fun n xs a e => by simp at e, fun a m => (List.not_mem_nil m).elim, rh.up, rh.tf, tab_step rh.tb (fun _ f => f) (fun _ _ _ _ e => e), rh.tn, rh.cf⟩
theorem Le.lone {W W1 : Wd} (l : Le W.lone W1) : Le W (W1.with_ W) :=
  ⟨⟨l.fr, l.st, l.sl, List.prefix_refl _⟩, fun a o h1 h2 h3 => by
    obtain ⟨b1, b2, _⟩ := l.fo a o h1 h2 (List.not_mem_nil)
    exact ⟨b1, b2, h3⟩⟩
theorem LeF.with_ {W W1 : Wd} (e : W1.ρ = []) : LeF W1 (W1.with_ W) := ⟨fun _ h => h, fun _ _ _ _ h => h, fun _ _ _ _ h => h, by rw [e]; exact List.nil_prefix⟩
theorem rh_with {W W1 : Wd} {h : HS} (rh : RH K W h) (l : Le W.lone W1) (rh1 : RH K W1 []) : RH K (W1.with_ W) h :=
  ⟨rh.len, rh.nd, fun n xs a e1 e2 => by
    obtain ⟨vs, h1, h2⟩ := rh.at_ n xs a e1 e2
    obtain ⟨b1, b2, _⟩ := l.fo a _ h1 (rh.nf a (List.mem_of_getElem? e2)) (List.not_mem_nil)
    exact ⟨vs, b1, h2.mono l.lone.toLeF⟩, fun a m => by
    obtain ⟨n, e2⟩ := List.getElem?_of_mem m
    have hn : n < h.length := by rw [← rh.len]; exact (List.getElem?_eq_some_iff.mp e2).1
    obtain ⟨vs, h1, h2⟩ := rh.at_ n h[n] a (List.getElem?_eq_getElem hn) e2
    exact (l.fo a _ h1 (rh.nf a m) (List.not_mem_nil)).2.1, rh1.up, rh1.tf, tab_step rh1.tb (fun _ f => f) (fun _ _ _ _ e => e), rh1.tn, rh1.cf⟩
theorem rho_nil {W1 : Wd} (rh1 : RH K W1 []) : W1.ρ = [] := List.eq_nil_of_length_eq_zero rh1.len
theorem ExR.with_ {mg : Str → Option Value} {W W1 : Wd} (e : W1.ρ = []) {x : Ex} {c : Value} {dd : Option Addr} (h : ExR K mg W1 x c dd) : ExR K mg (W1.with_ W) x c dd := by
  obtain ⟨h1, h2⟩ := h
  refine ⟨h1, ?_⟩
  cases k : x.kept with
  | none => rw [k] at h2; exact h2
  | some p =>
    rw [k] at h2
    obtain ⟨v, a, e1, e2, e3⟩ := h2
    exact ⟨v, a, e1, e2, e3.mono (.with_ e)⟩
end
def pureR (r : Res D) (h : HS) : Res D := match r with
  | .ok d [] => .ok d h
  | .exc x [] => .exc x h
  | _ => .bad
/-- φ of arguments that hold no shared list, and without the shared lists -/
def pureF (φ : DF) : DF := fun ds h => if noRefs ds = true then pureR (φ ds []) h else .bad
theorem okG.pure {K : PySem.W.Frag} {mg : Str → Option Value} {W : Wd} {E : XK} {Q : V → Hp → Prop} {r : Res D} {h : HS} (rh : RH K W h) (o : okG K mg (Rep K) W E Q (pureR r h)) : okG K mg (Rep K) W.lone E Q r := by
  unfold pureR at o
  split at o
  · exact fun W1 b l rh1 re => o (W1.with_ W) b l.lone (rh_with rh l rh1) (re.mono (.with_ (rho_nil rh1)))
  · exact fun W1 c dd l rh1 re => o (W1.with_ W) c dd l.lone (rh_with rh l rh1) (re.with_ (rho_nil rh1))
  · exact o.elim
theorem FnD.pure {g : Gx} {x : Str} {n k : Nat} {φ : DF} (F : FnD g x n k φ) : FnD g x n k (pureF φ) := by
  obtain ⟨f, fd, ps, F, m, kp, b⟩ := F
  refine ⟨f, fd, ps, ?_, m, kp, b⟩
  refine F.imp ?_
  intro vs H Q E hs
  obtain ⟨hl, W, ds, h, rfl, rh, r, o⟩ := hs
  unfold pureF at o
  split at o
  · rename_i hn
    exact ⟨hl, W.lone, ds, [], rfl, rh_lone rh, Reps.aside (W := W) (W' := W.lone) rfl rfl ds vs hn r, okG.pure rh o⟩
  · exact o.elim
/-- a frame without what is shared or its own -/
def Sl.hide : Sl → Sl
  | .val d => if d.noRef = true then .val d else .un
  | _ => .un
/-- the rest of a suite that ends in a return, without the shared lists -/
def pureS (f : DS) : DS := fun τ h => match f (τ.map Sl.hide) [] with
  | .rt d [] => .rt d h
  | .exc x [] => .exc x h
  | _ => .bad
theorem Frm.hide {K : PySem.W.Frag} {W0 W : Wd} {τ : List Sl} {σ : L2.St} (f : Frm K W0 W τ σ) : Frm K W.lone W.lone (τ.map Sl.hide) σ := by
  have key : ∀ {i : Nat} {x : Sl}, (τ.map Sl.hide)[i]? = some x → SlAt K W.lone W.lone x σ[i]? ∧ x.isOwn = false := fun {i x} e => by
    rw [List.getElem?_map] at e
    obtain ⟨y, e1, rfl⟩ := Option.map_eq_some_iff.mp e
    have h := f.at_ i y e1
    cases y with
    | val d =>
      by_cases hd : d.noRef = true
      · obtain ⟨v, e, r⟩ := h
        have : (Sl.val d).hide = .val d := by simp only [Sl.hide, hd, if_true]
        rw [this]
        exact ⟨⟨v, e, Rep.aside (W := W) (W' := W.lone) rfl rfl d v hd r⟩, rfl⟩
      · have : (Sl.val d).hide = .un := by simp only [Sl.hide, hd]; rfl
        rw [this]
        exact ⟨trivial, rfl⟩
    | un => exact ⟨trivial, rfl⟩
    | own xs => exact ⟨trivial, rfl⟩
    | ownK xs => exact ⟨trivial, rfl⟩
    | ownT xs => exact ⟨trivial, rfl⟩
  exact ⟨by simp [f.len], fun i x e => (key e).1, fun i j x y a ne e1 e2 o1 o2 => by rw [(key e1).2] at o1; cases o1⟩
theorem den_pure {C : Cn} {st : List Stmt} {f : DS} (hf : DenSs C st f) : DenSs C st (pureS f) := fun X E ok => by
  obtain ⟨t, p, q⟩ := hf X E ok
  refine ⟨_, p, fun W0 W τ σ h D l fr rh o => ?_⟩
  refine q W.lone W.lone _ σ [] D (.refl _) fr.hide (rh_lone rh) ?_
  have o : okS C W0 W E D (match f (τ.map Sl.hide) [] with | .rt d [] => .rt d h | .exc x [] => .exc x h | _ => .bad) := o
  split at o
  · rename_i d e
    rw [e]
    exact fun W1 v l0 l1 rh1 re => o (W1.with_ W) v (l.trans l0.lone) l0.lone.toLeF (rh_with rh l0 rh1) (re.mono (.with_ (rho_nil rh1)))
  · rename_i x e
    rw [e]
    exact fun W1 c dd σ' l0 l1 rh1 re => o (W1.with_ W) c dd σ' (l.trans l0.lone) l0.lone.toLeF (rh_with rh l0 rh1) (re.with_ (rho_nil rh1))
  · exact o.elim

/-! ### tuples of ints: sum, max, min -/
section
variable {X : Cx}
def rSumT (K : PySem.W.Frag) : List V → Hp → VK → Prop := fun vs H Q => ∃ (a : Addr) (ns : List Int), vs = [V.ref a] ∧ SqT K H a (ns.map V.int) ∧ Q (.int ns.sum) H
theorem cr_sumT (hc : X.calm = true) : CallR X (.builtin "sum") (rSumT X.K) := by
  intro pins s σ H vs us Q I r h
  obtain ⟨a, ns, rfl, hs, q⟩ := h
  obtain ⟨its, rv, hl, _⟩ := I.tuple hs
  rw [Vals.ref1 r]
  obtain ⟨xs, hx⟩ := rv.ints.allInts.items
  have hn : numsOf its.toArray.toList = ns := rv.ints.numsOf
  rw [hx] at hl hn
  rw [nums_intItems] at hn
  refine PySem.W.ktm_sumG (I.ok.hd hc) hl fun h' tk t' hk => ?_
  rw [preSum_eq, List.take_of_length_le (by simp), hn]
  exact ⟨.int _, H, I.kept hk, ⟨_, rfl⟩, q⟩
theorem dp_ints {K : PySem.W.Frag} {H : Hp} : ∀ ns : List Int, DpAll K H (ns.map V.int) (ns.map PyData.int)
  | [] => .nil
  | n :: ns => .cons (.int n) (dp_ints ns)
theorem alike_ints (ns : List Int) : PySem.W.AlikeAll (ns.map PyData.int) :=
  ⟨fun x hx y hy => by
    obtain ⟨_, _, rfl⟩ := List.mem_map.mp hx
    obtain ⟨_, _, rfl⟩ := List.mem_map.mp hy
    rfl, fun x hx => by
    obtain ⟨_, _, rfl⟩ := List.mem_map.mp hx
    exact fun z => nomatch z⟩
theorem depth_ints : ∀ ns : List Int, PyData.depthAll (ns.map PyData.int) = 0
  | [] => rfl
  | n :: ns => by
    show max 0 (PyData.depthAll (ns.map PyData.int)) = 0
    rw [depth_ints ns]
    rfl
def rMaxT (K : PySem.W.Frag) : List V → Hp → VK → Prop := fun vs H Q => ∃ (a : Addr) (n : Int) (ns : List Int), vs = [V.ref a] ∧ SqT K H a ((n :: ns).map V.int) ∧ Q (.int (ns.foldl max n)) H
theorem cr_maxT (hc : X.calm = true) (hu : X.A.units + 64 < cLine) : CallR X (.builtin "max") (rMaxT X.K) := by
  intro pins s σ H vs us Q I r h
  obtain ⟨a, n, ns, rfl, hs, q⟩ := h
  obtain ⟨its, rv, hl, _⟩ := I.tuple hs
  rw [Vals.ref1 r]
  obtain ⟨as, ra⟩ := Dp.readsAll I ((n :: ns).map PyData.int) _ its (dp_ints _) rv
  refine PySem.W.max_tuple_data (I.ok.hd hc) hl ra (alike_ints (n :: ns)) (by have := depth_ints (n :: ns); simp only [List.map_cons] at this; rw [this]; omega) fun i v h' tk bs e rd hk => ?_
  rw [PySem.W.maxD_ints] at rd
  cases rd
  exact ⟨.int _, H, I.kept hk, ⟨_, rfl⟩, q⟩
def rMinT (K : PySem.W.Frag) : List V → Hp → VK → Prop := fun vs H Q => ∃ (a : Addr) (n : Int) (ns : List Int), vs = [V.ref a] ∧ SqT K H a ((n :: ns).map V.int) ∧ Q (.int (ns.foldl min n)) H
theorem cr_minT (hc : X.calm = true) (hu : X.A.units + 64 < cLine) : CallR X (.builtin "min") (rMinT X.K) := by
  intro pins s σ H vs us Q I r h
  obtain ⟨a, n, ns, rfl, hs, q⟩ := h
  obtain ⟨its, rv, hl, _⟩ := I.tuple hs
  rw [Vals.ref1 r]
  obtain ⟨as, ra⟩ := Dp.readsAll I ((n :: ns).map PyData.int) _ its (dp_ints _) rv
  refine PySem.W.min_tuple_data (I.ok.hd hc) hl ra (alike_ints (n :: ns)) (by have := depth_ints (n :: ns); simp only [List.map_cons] at this; rw [this]; omega) fun i v h' tk bs e rd hk => ?_
  rw [PySem.W.minD_ints] at rd
  cases rd
  exact ⟨.int _, H, I.kept hk, ⟨_, rfl⟩, q⟩
def rMaxL (K : PySem.W.Frag) : List V → Hp → VK → Prop := fun vs H Q => ∃ (a : Addr) (n : Int) (ns : List Int), vs = [V.ref a] ∧ SqL K H a ((n :: ns).map V.int) ∧ Q (.int (ns.foldl max n)) H
theorem cr_maxL (hc : X.calm = true) (hu : X.A.units + 64 < cLine) : CallR X (.builtin "max") (rMaxL X.K) := by
  intro pins s σ H vs us Q I r h
  obtain ⟨a, n, ns, rfl, hs, q⟩ := h
  obtain ⟨its, rv, hl, _⟩ := I.list hs
  rw [Vals.ref1 r]
  obtain ⟨as, ra⟩ := Dp.readsAll I ((n :: ns).map PyData.int) _ its (dp_ints _) rv
  refine PySem.W.max_list_data (I.ok.hd hc) hl.isList ra (alike_ints (n :: ns)) (by have := depth_ints (n :: ns); simp only [List.map_cons] at this; rw [this]; omega) fun i v h' tk bs e rd hk => ?_
  rw [PySem.W.maxD_ints] at rd
  cases rd
  exact ⟨.int _, H, I.kept hk, ⟨_, rfl⟩, q⟩
def rMinL (K : PySem.W.Frag) : List V → Hp → VK → Prop := fun vs H Q => ∃ (a : Addr) (n : Int) (ns : List Int), vs = [V.ref a] ∧ SqL K H a ((n :: ns).map V.int) ∧ Q (.int (ns.foldl min n)) H
theorem cr_minL (hc : X.calm = true) (hu : X.A.units + 64 < cLine) : CallR X (.builtin "min") (rMinL X.K) := by
  intro pins s σ H vs us Q I r h
  obtain ⟨a, n, ns, rfl, hs, q⟩ := h
  obtain ⟨its, rv, hl, _⟩ := I.list hs
  rw [Vals.ref1 r]
  obtain ⟨as, ra⟩ := Dp.readsAll I ((n :: ns).map PyData.int) _ its (dp_ints _) rv
  refine PySem.W.min_list_data (I.ok.hd hc) hl.isList ra (alike_ints (n :: ns)) (by have := depth_ints (n :: ns); simp only [List.map_cons] at this; rw [this]; omega) fun i v h' tk bs e rd hk => ?_
  rw [PySem.W.minD_ints] at rd
  cases rd
  exact ⟨.int _, H, I.kept hk, ⟨_, rfl⟩, q⟩
end
section
variable {C : Cn}
def seqOf : D → Option (List D)
  | .tup xs => some xs
  | .lst xs => some xs
  | .frl xs => some xs
  | _ => none
def sumTG : List D → Option D
  | [.tup xs] => (intsD xs).map fun is => .int is.sum
  | _ => none
theorem c_sumT : CalD C (.builtin "sum") sumTG := fun X E ok => ⟨_, cr_sumT ok.calm, fun W h ds vs d Q rh b e k => by
  unfold sumTG at e
  split at e
  · obtain ⟨v, rfl, b1⟩ := BorsAll.one b
    obtain ⟨a, us, rfl, sq, r, _⟩ := b1.tup
    obtain ⟨is, q, rfl⟩ := Option.map_eq_some_iff.mp e
    rw [ints_reps r q] at sq
    exact ⟨a, is, rfl, by rw [ok.K]; exact sq, k W _ (.refl _) rh rep_int⟩
  · cases e⟩
theorem c_sums : CalD C (.builtin "sum") (fun x => (sumG x).or (sumTG x)) := c_sum.or c_sumT
def foldI (f : Int → Int → Int) : List Int → Option D
  | [] => none
  | n :: ns => some (.int (ns.foldl f n))
def mxTG (f : Int → Int → Int) : List D → Option D
  | [.tup xs] => (intsD xs).bind (foldI f)
  | _ => none
def mxLG (f : Int → Int → Int) : List D → Option D
  | [.lst xs] => (intsD xs).bind (foldI f)
  | [.frl xs] => (intsD xs).bind (foldI f)
  | _ => none
theorem fold_some {f : Int → Int → Int} {xs : List D} {d : D} (h : (intsD xs).bind (foldI f) = some d) : ∃ n ns, intsD xs = some (n :: ns) ∧ d = .int (ns.foldl f n) := by
  cases q : intsD xs with
  | none => rw [q] at h; cases h
  | some is =>
    rw [q] at h
    cases is with
    | nil => cases h
    | cons n ns => cases h; exact ⟨n, ns, rfl, rfl⟩
theorem c_maxT : CalD C (.builtin "max") (mxTG max) := fun X E ok => ⟨_, cr_maxT ok.calm ok.room.units, fun W h ds vs d Q rh b e k => by
  unfold mxTG at e
  split at e
  · obtain ⟨v, rfl, b1⟩ := BorsAll.one b
    obtain ⟨a, us, rfl, sq, r, _⟩ := b1.tup
    obtain ⟨n, ns, q, rfl⟩ := fold_some e
    rw [ints_reps r q] at sq
    exact ⟨a, n, ns, rfl, by rw [ok.K]; exact sq, k W _ (.refl _) rh rep_int⟩
  · cases e⟩
theorem c_minT : CalD C (.builtin "min") (mxTG min) := fun X E ok => ⟨_, cr_minT ok.calm ok.room.units, fun W h ds vs d Q rh b e k => by
  unfold mxTG at e
  split at e
  · obtain ⟨v, rfl, b1⟩ := BorsAll.one b
    obtain ⟨a, us, rfl, sq, r, _⟩ := b1.tup
    obtain ⟨n, ns, q, rfl⟩ := fold_some e
    rw [ints_reps r q] at sq
    exact ⟨a, n, ns, rfl, by rw [ok.K]; exact sq, k W _ (.refl _) rh rep_int⟩
  · cases e⟩
theorem c_maxL : CalD C (.builtin "max") (mxLG max) := fun X E ok => ⟨_, cr_maxL ok.calm ok.room.units, fun W h ds vs d Q rh b e k => by
  unfold mxLG at e
  split at e
  · obtain ⟨v, rfl, b1⟩ := BorsAll.one b
    obtain ⟨a, us, rfl, sq, r⟩ := b1.lst
    obtain ⟨n, ns, q, rfl⟩ := fold_some e
    rw [ints_reps r q] at sq
    exact ⟨a, n, ns, rfl, .of sq, k W _ (.refl _) rh rep_int⟩
  · obtain ⟨v, rfl, b1⟩ := BorsAll.one b
    obtain ⟨a, us, rfl, sq, r⟩ := b1.frl
    obtain ⟨n, ns, q, rfl⟩ := fold_some e
    rw [ints_reps r q] at sq
    exact ⟨a, n, ns, rfl, by rw [ok.K]; exact sq, k W _ (.refl _) rh rep_int⟩
  · cases e⟩
theorem c_minL : CalD C (.builtin "min") (mxLG min) := fun X E ok => ⟨_, cr_minL ok.calm ok.room.units, fun W h ds vs d Q rh b e k => by
  unfold mxLG at e
  split at e
  · obtain ⟨v, rfl, b1⟩ := BorsAll.one b
    obtain ⟨a, us, rfl, sq, r⟩ := b1.lst
    obtain ⟨n, ns, q, rfl⟩ := fold_some e
    rw [ints_reps r q] at sq
    exact ⟨a, n, ns, rfl, .of sq, k W _ (.refl _) rh rep_int⟩
  · obtain ⟨v, rfl, b1⟩ := BorsAll.one b
    obtain ⟨a, us, rfl, sq, r⟩ := b1.frl
    obtain ⟨n, ns, q, rfl⟩ := fold_some e
    rw [ints_reps r q] at sq
    exact ⟨a, n, ns, rfl, by rw [ok.K]; exact sq, k W _ (.refl _) rh rep_int⟩
  · cases e⟩
theorem c_maxs : CalD C (.builtin "max") (fun x => (maxG x).or ((mxTG max x).or (mxLG max x))) := c_max.or (c_maxT.or c_maxL)
theorem c_mins : CalD C (.builtin "min") (fun x => (minG x).or ((mxTG min x).or (mxLG min x))) := c_min.or (c_minT.or c_minL)

/-! ### isinstance(x, T), T a built-in type told by its name -/
def tyD : D → Option String
  | .non => some "NoneType"
  | .bl _ => some "bool"
  | .int _ => some "int"
  | .str _ => some "str"
  | .tup _ => some "tuple"
  | .lst _ => some "list"
  | .frl _ => some "list"
  | .dK _ => some "dict"
  | .dT _ => none
  | .ref _ => none
  | .fn _ => none
def isiT (t T : String) : Option Bool :=
  if t = "bool" then (if T = "int" ∨ T = "bool" then some true else if T ∈ ["str", "tuple", "list", "dict"] then some false else none)
  else if t ∈ ["NoneType", "int", "str", "tuple", "list", "dict"] ∧ T ∈ ["bool", "int", "str", "tuple", "list", "dict"] then some (t == T) else none
def isiR (T : String) (a : DE) : DE := fun τ h => (a τ h).bind fun d h1 => match (tyD d).bind (isiT · T) with
  | some b => .ok (.bl b) h1
  | none => .bad
theorem isiT_kit : ∀ t ∈ ["NoneType", "bool", "int", "str", "tuple", "list", "dict"], ∀ T ∈ ["bool", "int", "str", "tuple", "list", "dict"], kitB t T = isiT t T := by decide +kernel
theorem tyD_mem {d : D} {t : String} (h : tyD d = some t) : t ∈ ["NoneType", "bool", "int", "str", "tuple", "list", "dict"] := by
  cases d <;> simp [tyD] at h <;> subst h <;> decide
theorem isiT_mem {t T : String} {b : Bool} (h : isiT t T = some b) : T ∈ ["bool", "int", "str", "tuple", "list", "dict"] := by
  unfold isiT at h
  split at h
  · split at h
    · rename_i q; rcases q with rfl | rfl <;> decide
    · split at h
      · rename_i q; simp only [List.mem_cons] at q ⊢; rcases q with q | q | q | q | q <;> simp_all
      · cases h
  · split at h
    · rename_i q; exact q.2
    · cases h
theorem tyx {K : PySem.W.Frag} {W : Wd} {d : D} {v : V} {t : String} (b : Bor K W d v) (h : tyD d = some t) : TyX K W.H v (.type t) := by
  cases d with
  | non => cases h; rw [b.non]; exact .base .non
  | bl i => cases h; rw [b.bl]; exact .base (.bl _)
  | int i => cases h; rw [b.int]; exact .base (.int _)
  | str i => cases h; rw [b.str]; exact .base (.str _)
  | tup xs =>
    cases h
    obtain ⟨a, vs, rfl, sq, _⟩ := b.tup
    rcases sq with (q | ⟨o, q⟩) | ⟨o, its, n, q, c, _⟩
    · exact .base (.tup q)
    · exact .fTuple q
    · exact .kTuple q c
  | lst xs =>
    cases h
    obtain ⟨a, vs, rfl, q, _⟩ := b.lst
    exact .base (.lst q)
  | frl xs =>
    cases h
    obtain ⟨a, vs, rfl, sq, _⟩ := b.frl
    rcases sq with (q | ⟨o, q⟩) | ⟨o, its, n, q, c, _⟩
    · exact .base (.lst q)
    · exact .base (.frz q)
    · exact .kList q c
  | dK xs =>
    cases h
    obtain ⟨a, vs, rfl, sq, _⟩ := b.dK
    rcases sq with q | ⟨o, q⟩
    · exact .base (.dK q)
    · exact .fDict q
  | dT xs => cases h
  | ref n => cases h
  | fn n => cases h
theorem den_isi {a : Expr} {fa : DE} {T : Str} {Tn : String} {p pT pos : Pos} (hg : glB C.sc "isinstance" = true) (hm : C.g.mg "isinstance" = none) (hgT : glB C.sc T = true) (hmT : C.g.mg T = none) (hv : bootBuiltins T = some (.type Tn)) (ha : DenB C a fa)
    (he : ∀ env, starEach [a, .Name T pT] env = (false, eval a env) :: starEach [.Name T pT] env) (hs : ∀ env, starEach [.Name T pT] env = [(false, eval (.Name T pT) env)])
    (hpl : ∀ env, (backTo pos (starEach [.Name T pT] env)).any (·.1) = false) : DenE C (.Call (.Name "isinstance" p) [a, .Name T pT] [] pos) (isiR Tn fa) := fun X E ok => by
  obtain ⟨t, pa, q⟩ := ha X E ok
  obtain ⟨g1, g2, g3⟩ := glB_ok ok hg
  obtain ⟨k1, k2, k3⟩ := glB_ok ok hgT
  have pT' : PE X (.Name T pT) (tC (.ty Tn)) := pe_bltn k1 (by rw [ok.mg]; exact hmT) hv rfl k3 k2
  have pas : PA X [a, .Name T pT] _ := pa_cons pa (pa_cons pT' pa_nil (hs _)) (he _)
  refine ⟨_, pe_callB call_isi g1 (by rw [ok.mg]; exact hm) rfl pas g3 g2 (he _) (hpl _), fun W0 W τ σ h Q l fr rh o => ?_⟩
  refine q W0 W τ σ h _ l fr rh (okG.bind o fun d h1 W1 v l1 rh1 b1 o1 => ?_)
  cases e1 : tyD d with
  | none => rw [e1] at o1; exact o1.elim
  | some t =>
    rw [e1] at o1
    have o1 : okG C.g.K C.g.mg (Rep C.g.K) W1 (fun c dd H => E c dd σ H) Q (match isiT t Tn with | some b => Res.ok (D.bl b) h1 | none => .bad) := o1
    cases e2 : isiT t Tn with
    | none => rw [e2] at o1; exact o1.elim
    | some b =>
      rw [e2] at o1
      exact ⟨v, .ty Tn, .type t, .type Tn, b, rfl, .ty Tn, by rw [ok.K]; exact tyx b1 e1, kit_ty (by rw [isiT_kit t (tyD_mem e1) Tn (isiT_mem e2)]; exact e2), o1 W1 _ (.refl _) rh1 rep_bl⟩
end

/-! ### sequences in `in`; a list turned round -/
section
variable {C : Cn}
def inA (x y : D) : Option D := (inD x y).or (inTD x y)
def notInA (x y : D) : Option D := (notInD x y).or (notInTD x y)
theorem o_inA : OpD C (compareOp .In) inA := o_in.or o_inT
theorem o_notInA : OpD C (compareOp .NotIn) notInA := o_notIn.or o_notInT
def revR (a : DE) : DE := fun τ h => (a τ h).bind fun d h1 => match d with
  | .lst xs => .ok (.lst xs.reverse) h1
  | .frl xs => .ok (.lst xs.reverse) h1
  | _ => .bad
theorem den_rev {e : Expr} {fe : DE} {k : Nat} {p1 p2 p3 pos : Pos} (he : DenB C e fe) : DenN C (.Subscript e (.Slice none none (some (.UnaryOp .USub (.Constant (.int 1) k p1) p2)) p3) pos) (revR fe) := fun X E ok => by
  obtain ⟨t, p, q⟩ := he X E ok
  refine ⟨_, pe_revL p, fun W0 W τ σ h Q l fr rh o => ?_⟩
  refine q W0 W τ σ h _ l fr rh (okG.bind o fun d h1 W1 v l1 rh1 b1 o1 => ?_)
  have key : ∀ (a : Addr) (xs : List D) (vs : List V), v = .ref a → SqL X.K W1.H a vs → Reps C.g.K W1 xs vs → okG C.g.K C.g.mg (NewR C.g.K W) W1 (fun c dd H => E c dd σ H) Q (.ok (.lst xs.reverse) h1) →
      ∃ a xs, v = .ref a ∧ SqL X.K W1.H a xs ∧ ∀ p, W1.H p = none → Q (.ref p) (upd W1.H p (.lst xs.reverse)) := fun a xs vs ev sq r o2 =>
    ⟨a, vs, ev, sq, fun p np => by
      obtain ⟨l2, rh2, n⟩ := new_lst np rh1 r.reverse
      exact o2 _ _ l2 rh2 (n.of l1 rh1)⟩
  cases d with
  | lst xs =>
    obtain ⟨a, us, rfl, sq, r⟩ := b1.lst
    exact key a xs us rfl (.inl (.inl sq)) r o1
  | frl xs =>
    obtain ⟨a, us, rfl, sq, r⟩ := b1.frl
    exact key a xs us rfl (by rw [ok.K]; exact sq) r o1
  | _ => exact o1.elim
end

/-! ### short names for what the texts are worth -/
abbrev nS (i : Nat) : DE := fun τ h => getS τ i h
abbrev nB (i : Nat) : DE := fun τ h => getB τ i h
abbrev kD (d : D) : DE := fun _ h => .ok d h
abbrev aN : DA := fun _ h => .ok [] h
abbrev tY : DT := fun _ h => .ok true h
abbrev oN : DP := fun _ h => .ok none h
def oS (fe : DE) : DP := fun τ h => (fe τ h).bind fun d h1 => match d with | .int i => .ok (some i) h1 | _ => .bad
theorem den_psm {C : Cn} {e : Expr} {fe : DE} (he : DenB C e fe) : DenO C (some e) (oS fe) := den_psome he
abbrev rT (fe : DE) : DS := fun τ h => RS.ofR (fe τ h) τ fun d h1 => .rt d h1
abbrev xS (fe : DE) : DS := fun τ h => RS.ofR (fe τ h) τ fun _ h1 => .nx τ h1
abbrev bkS : DS := fun τ h => .bk τ h
abbrev ctS : DS := fun τ h => .ct τ h
abbrev noS : DS := fun _ _ => .bad
abbrev rN : DS := fun _ h => .rt .non h
abbrev frS (i : Nat) (f : DS) : DS := fun τ h => f (frzT τ i) h
abbrev mN : List Sl → HS → Res (List Sl) := fun _ h => .ok [] h
abbrev shR (f : DE) : DE := fun τ s => sShare (f τ s)

/-! ### a program's facts -/
structure Tx (fa : List He.Fa) (fn : List He.DefD) (g : Gx) : Prop where
  hh : ∃ h : Heap, g.K.In h ∧ h.Ns mainGlobals g.mg
  c : He.SaysD fa fn g.K
section
variable {fa : List He.Fa} {fn : List He.DefD} {g : Gx}
theorem Tx.free (T : Tx fa fn g) (i : Nat) {x : Str} (e : fa[i]? = some (.free x)) : g.mg x = none := by
  obtain ⟨h, X, G⟩ := T.hh
  exact He.free_ok X G (T.c.fact i e)
theorem Tx.glo (T : Tx fa fn g) (i : Nat) {x : Str} (e : fa[i]? = some (.glo x)) : g.mg x = some (.ref (He.ga g.K x)) := by
  obtain ⟨h, X, G⟩ := T.hh
  exact He.glo_ok X G (T.c.fact i e)
theorem Tx.int (T : Tx fa fn g) (i : Nat) {x : Str} {n : Int} (e : fa[i]? = some (.int x n)) : ∃ t, g.mg x = some (.int n t) := by
  obtain ⟨h, X, G⟩ := T.hh
  exact He.int_ok X G (T.c.fact i e)
theorem fn_mkD {x qual : Str} {params : Arguments} {body : List Stmt} {scope : Scope} {f : Addr} {fd : FuncData} {N ps : List Str} {k : Nat} {fb : DS} (F : FunD g.K x qual params body scope [] [] f fd) (S : FnScope N ps scope) (hm : g.mg x = some (.ref f)) (hb : L2.Binds g.K fd ps [])
    (hbody : DenSs ⟨g, k, N, scope, fun _ => true, false⟩ body fb) : FnD g x ps.length (k + 1) (fnR N.length fb) := by
  refine ⟨f, fd, ps, ?_, hm, F.kp, hb⟩
  obtain ⟨oc, od, dV, kV, doc, pm, an, cdv, ct, osl, rfl, lk, hcd, _, _⟩ := F.ex
  refine FnG.made lk hcd S (fun vs H Q E h => h.1) fun A outer s H vs Q E hr gd h => ?_
  obtain ⟨hl, W, ds, h0, rfl, rh, r, o⟩ := h
  have ok : CxOk ⟨g, k, N, scope, fun _ => true, false⟩ (cxOf (L2.CX g.P g.w) g.P g.w g.K g.mg g.base N qual scope f cdv A outer s W.H E) (fun c d _ H => E c d H) :=
    ⟨rfl, rfl, rfl, rfl, rfl, rfl, S.nd, rfl, rfl, hr, takes_of rfl rfl rfl rfl, passes_of rfl, fun _ _ => rfl, fun _ => ⟨rfl, rfl⟩, (fun z => nomatch z), fun z => nomatch z⟩
  obtain ⟨t, p, q⟩ := hbody _ _ ok
  refine ⟨t, p, q W W _ _ h0 _ (.refl _) (frm_start r) rh ?_⟩
  have o : okG g.K g.mg (Rep g.K) W E Q (match fb (ds.map Sl.val ++ List.replicate (N.length - ds.length) Sl.un) h0 with | .rt d h' => .ok d h' | .nx _ h' => .ok .non h' | .exc x h' => .exc x h' | _ => .bad) := o
  cases ef : fb (ds.map Sl.val ++ List.replicate (N.length - ds.length) Sl.un) h0 with
  | rt d h' => rw [ef] at o; exact fun W' v l _ rh' r' => o W' v l rh' r'
  | nx τ h' => rw [ef] at o; exact fun W' σ l _ fr rh' => o W' _ l rh' rep_non
  | exc x h' => rw [ef] at o; exact fun W' c dd σ l _ rh' r' => o W' c dd l rh' r'
  | bk _ _ => rw [ef] at o; exact o.elim
  | ct _ _ => rw [ef] at o; exact o.elim
  | bad => rw [ef] at o; exact o.elim
abbrev dfd (x : Str) (st : Stmt) : He.DefD := ⟨(x, none), x, x, defArgs st, defBody st, defScope st, [], []⟩
/-- a def of the module, by its place in fn and its name's place in fa -/
theorem Tx.deff (T : Tx fa fn g) (j i : Nat) {x : Str} {st : Stmt} {N ps : List Str} {k : Nat} {fb : DS} (hd : fn[j]? = some (dfd x st)) (hx : fa[i]? = some (.glo x)) (S : FnScope N ps (defScope st))
    (hb : ∀ (kV doc pm : Value) (an : Option Addr) (cdv ct : Value) (us : List Value), us.length = ps.length → bindArgs (PySem.W.fnOf x x (defArgs st) (defBody st) (defScope st) .none kV doc pm an cdv ct) ⟨us, []⟩ = pure (ps.zip us))
    (hbody : DenSs ⟨g, k, N, defScope st, fun _ => true, false⟩ (defBody st) fb) : FnD g x ps.length (k + 1) (fnR N.length fb) := by
  obtain ⟨fd, F⟩ := T.c.def_ j hd
  exact fn_mkD F S (T.glo i hx) (FunD.bindsN F hb) hbody
end
/-- what holds of every block with this scope -/
theorem hw_of {sc : Scope} {P : Env → Prop} (h : ∀ env : Env, P { env with scope := sc }) : ∀ env : Env, env.scope = sc → P env := fun env e => by
  have := h env
  rw [← e] at this
  exact this
abbrev maxsG : List D → Option D := fun x => (maxG x).or ((mxTG max x).or (mxLG max x))
abbrev minsG : List D → Option D := fun x => (minG x).or ((mxTG min x).or (mxLG min x))
abbrev sumsG : List D → Option D := fun x => (sumG x).or (sumTG x)
end Sw

/-! Sw, part L: sorted of tuples. -/
namespace Sw
open PySem PySem.Spec PyProof.Rows L2 SrtO
variable [Tbs]
section
variable {prog : Program} {w : World} {A : Around} {E : Value → Shared → Prop} {s : Shared}
/-- the items of a tuple, collected -/
theorem gather_tup {t : Addr} {us : List Value} {Q : List Value → Shared → Prop} (ht : IsTup s.heap t us.toArray) (fit : us.length ≤ sizeLine)
    (k : Q us { s with heap := (s.heap.push (seqObj "list" #[] 0)).update s.heap.objs.size (Obj.mapSeq (· ++ us.toArray)) }) : wpAny (model prog w) A (collect (.ref t)) Q E s := by
  obtain ⟨ot, at_, ct, nt, dt⟩ := ht
  unfold collect
  refine wpAny_bind (wpAny_runValue (codeAny_builtin entry_proto_collect' (show wpAny _ _ (do again (.builtin "list.__iadd__" ⟨[← newList [], .ref t], []⟩)) _ _ s from ?_)))
  refine wpAny_bind (wpAny_newList (wpAny_pure ⟨Code.quiet_builtin _ (by decide +kernel), codeAny_builtin entry_list_iadd' (show wpAny _ _ (Builtin.List.listExtendWith (.ref s.heap.objs.size) (.ref t) (.ref s.heap.objs.size)) _ _ { s with heap := s.heap.push (seqObj "list" #[] 0) } from ?_)⟩))
  have at' : (s.heap.push (seqObj "list" #[] 0)).get? t = some ot := Heap.get?_push_of_some _ at_
  unfold Builtin.List.listExtendWith
  refine wpAny_bind (wpAny_typeOf (T := "tuple") ⟨ot, at', ct⟩ ?_)
  have same : (Value.type "tuple" == Value.type "tuple") = true := by rfl
  rw [if_pos (by rw [same]; simp)]
  refine wpAny_bind (listItems_at at' dt (wpAny_bind (listItems_at (xs := #[]) (n := 0) (Heap.get?_push_size _ rfl) rfl ?_)))
  rw [if_neg (by simp)]
  refine wpAny_bind (listUpdate_at (xs := #[]) (n := 0) (Heap.get?_push_size _ rfl) rfl (wpAny_pure ?_) (Nat.zero_le _) (by show (#[] ++ us.toArray).size ≤ sizeLine + 1; simp only [Array.size_append, List.size_toArray, List.length_nil]; omega))
  show wpAny (model prog w) A (do let o ← load s.heap.objs.size; match o.data with | .seq xs _ => pure xs.toList | _ => unsupported "internal:collect") Q E { s with heap := (s.heap.push (seqObj "list" #[] 0)).update s.heap.objs.size (Obj.mapSeq (· ++ us.toArray)) }
  refine wpAny_bind (wpAny_load (get?_update_seq (Heap.get?_push_size _ rfl) _) (show wpAny _ _ (pure ((#[] : Array Value) ++ us.toArray).toList) Q E _ from ?_))
  rw [show ((#[] : Array Value) ++ us.toArray).toList = us by simp]
  exact wpAny_pure k
/-- sorted of a tuple: the new list stands behind the collected one -/
theorem sorted_tup {t : Addr} {us : List Value} {lt : Value → Value → Bool} {Q : Value → Shared → Prop} (O : Swo lt) (ht : IsTup s.heap t us.toArray) (fit : us.length ≤ sizeLine)
    (cmp : 2 ≤ us.length → ∀ (h1 : Heap) (a : Addr), h1.get? a = some (seqObj "list" us.toArray 0) → (∀ b o, s.heap.get? b = some o → b ≠ a ∧ h1.get? b = some o) → SortableO prog w A.in1.in1 { s with heap := h1 } a us lt)
    (k : ∀ out : List Value, Srtd lt out → Stb lt out us → Q (.ref (s.heap.objs.size + 1)) { s with heap := sortedAll s.heap us out.toArray }) : wpAny (model prog w) A (call (.builtin "sorted") [.ref t]) Q E s := by
  refine Calls.call_function_entry kind_sorted plain_sorted entry_sorted (args_sorted1 _) ?_
  unfold Builtin.«sorted»
  refine wpAny_bind (m := checkCount "sorted" 1 1 _) (wpAny_pure (wpAny_bind (gather_tup ht fit (wpAny_bind (wpAny_newList ?_ fit)))))
  generalize hG : (s.heap.push (seqObj "list" #[] 0)).update s.heap.objs.size (Obj.mapSeq (· ++ us.toArray)) = G
  have sz : G.objs.size = s.heap.objs.size + 1 := by rw [← hG, Heap.size_update, size_push']
  have new : (G.push (seqObj "list" us.toArray 0)).get? (s.heap.objs.size + 1) = some (seqObj "list" us.toArray 0) := by rw [← sz]; exact Heap.get?_push_size _ rfl
  have old : ∀ b o, s.heap.get? b = some o → b ≠ s.heap.objs.size + 1 ∧ (G.push (seqObj "list" us.toArray 0)).get? b = some o := fun b o q => by
    have lt : b < s.heap.objs.size := Heap.lt_size q
    refine ⟨Nat.ne_of_lt (Nat.lt_succ_of_lt lt), Heap.get?_push_of_some _ ?_⟩
    rw [← hG, Heap.get?_update_ne _ _ _ _ (Nat.ne_of_lt lt)]
    exact Heap.get?_push_of_some _ q
  show wpAny _ _ _ _ _ { s with heap := G.push (seqObj "list" us.toArray 0) }
  rw [sz]
  refine wpAny_bind (wpAny_holding (wpAny_call_entry slot_list_sort ⟨_, new, rfl⟩ entry_list_sort (list_sort_ord O new fit (fun h2 => cmp h2 _ _ new old) fun out hs hb => ⟨_, rfl, ?_⟩) (args_list_sort _)))
  refine wpAny_pure ⟨_, rfl, ?_⟩
  rw [← hG]
  exact k out hs hb
end
section
variable {X : Cx}
def rSortedTI (K : PySem.W.Frag) : List V → Hp → VK → Prop := fun vs H Q => ∃ (a : Addr) (ns : List Int), vs = [V.ref a] ∧ SqT K H a (ns.map V.int) ∧
  ∀ (ms : List Int) (p : Addr), ms.Perm ns → ms.Pairwise (· ≤ ·) → H p = none → Q (.ref p) (upd H p (.lst (ms.map V.int)))
theorem cr_sortedTI : CallR X (.builtin "sorted") (rSortedTI X.K) := by
  intro pins s σ H vs us Q I r h
  obtain ⟨a, ns, rfl, hs, q⟩ := h
  obtain ⟨its, rv, ht, fit⟩ := I.tuple hs
  rw [Vals.ref1 r]
  refine sorted_tup swo_int ht (by rw [← rv.length]; exact fit) (fun h2 _ _ _ _ => ints_sortable rv.ints h2) fun out h1 h2 => ?_
  obtain ⟨k1, k2, k3⟩ := ints_out rv.ints h1 h2
  obtain ⟨ep, he⟩ := PyProof.Rows.sortedAll_at s.heap its out.toArray
  have fit' : ((out.map SrtO.iv).map V.int).length ≤ sizeLine := by rw [List.length_map, k2.length_eq]; rw [List.length_map] at fit; exact fit
  refine ⟨.ref _, _, I.laid (o := .lst ((out.map SrtO.iv).map V.int)) (t' := s.toks) (fun _ _ => PyProof.Rows.sortedAll_old) (Nat.le_succ _) ⟨fit', out, ep, vals_of_ints k1, he⟩, rfl, ?_⟩
  exact q _ _ k2 k3 (I.hok.fresh (Nat.le_succ _))
end
section
variable {C : Cn}
def sortTG : List D → Option D
  | [.tup xs] => (intsD xs).map fun is => .lst ((sortI is).map D.int)
  | _ => none
theorem cn_sortT : CalN C (.builtin "sorted") sortTG := fun X E ok => ⟨_, cr_sortedTI, fun W h ds vs d Q rh b e k => by
  unfold sortTG at e
  split at e
  · obtain ⟨v, rfl, b1⟩ := BorsAll.one b
    obtain ⟨a, us, rfl, sq, r, _⟩ := b1.tup
    obtain ⟨is, q, rfl⟩ := Option.map_eq_some_iff.mp e
    rw [ints_reps r q] at sq
    refine ⟨a, is, rfl, by rw [ok.K]; exact sq, fun ns p hp hs np => ?_⟩
    have := sorted_unique (hp.trans (sortI_perm is).symm) hs (sortI_sorted is)
    subst this
    obtain ⟨l, rh', n⟩ := new_lst np rh (reps_ints _)
    exact k _ _ l rh' n
  · cases e⟩
theorem CalN.or {f : Value} {g g' : List D → Option D} (h : CalN C f g) (h' : CalN C f g') : CalN C f (fun x => (g x).or (g' x)) := fun X E ok => by
  obtain ⟨r, p, q⟩ := h X E ok
  obtain ⟨r', p', q'⟩ := h' X E ok
  refine ⟨_, L2.CallR.or p p', fun W s x v d Q rh b e k => ?_⟩
  have e : (g x).or (g' x) = some d := e
  cases e1 : g x with
  | some d' =>
    rw [e1] at e
    cases e
    exact .inl (q W s x v _ Q rh b e1 k)
  | none =>
    rw [e1] at e
    exact .inr (q' W s x v d Q rh b e k)
abbrev sortsG : List D → Option D := fun x => (sortLG x).or (sortTG x)
theorem cn_sorts : CalN C (.builtin "sorted") sortsG := cn_sortL.or cn_sortT
end
end Sw

/-! Sw, part M: a law's end. -/
namespace Sw
open PySem PySem.Spec PyProof.Rows L2
variable [Tbs]
theorem fn_okD {g : Gx} {x qual : Str} {params : Arguments} {body : List Stmt} {scope : Scope} {f : Addr} {fd : FuncData} {N ps : List Str} {k : Nat} {fb : DS} (F : FunD g.K x qual params body scope [] [] f fd) (S : FnScope N ps scope)
    (hbody : DenSs ⟨g, k, N, scope, fun _ => true, false⟩ body fb) : FnOk g.P g.w g.K g.mg g.base (L2.CX g.P g.w) (k + 1) f fd ps (spOf g ps.length (fnR N.length fb)) := by
  refine F.ok (CX := L2.CX g.P g.w) S (fun vs H Q E h => h.1) fun cdv A outer s H vs Q E hr h => ?_
  obtain ⟨hl, W, ds, h0, rfl, rh, r, o⟩ := h
  have ok : CxOk ⟨g, k, N, scope, fun _ => true, false⟩ (cxOf (L2.CX g.P g.w) g.P g.w g.K g.mg g.base N qual scope f cdv A outer s W.H E) (fun c d _ H => E c d H) :=
    ⟨rfl, rfl, rfl, rfl, rfl, rfl, S.nd, rfl, rfl, hr, takes_of rfl rfl rfl rfl, passes_of rfl, fun _ _ => rfl, fun _ => ⟨rfl, rfl⟩, (fun z => nomatch z), fun z => nomatch z⟩
  obtain ⟨t, p, q⟩ := hbody _ _ ok
  refine ⟨t, p, q W W _ _ h0 _ (.refl _) (frm_start r) rh ?_⟩
  have o : okG g.K g.mg (Rep g.K) W E Q (match fb (ds.map Sl.val ++ List.replicate (N.length - ds.length) Sl.un) h0 with | .rt d h' => .ok d h' | .nx _ h' => .ok .non h' | .exc x h' => .exc x h' | _ => .bad) := o
  cases ef : fb (ds.map Sl.val ++ List.replicate (N.length - ds.length) Sl.un) h0 with
  | rt d h' => rw [ef] at o; exact fun W' v l _ rh' r' => o W' v l rh' r'
  | nx τ h' => rw [ef] at o; exact fun W' σ l _ fr rh' => o W' _ l rh' rep_non
  | exc x h' => rw [ef] at o; exact fun W' c dd σ l _ rh' r' => o W' c dd l rh' r'
  | bk _ _ => rw [ef] at o; exact o.elim
  | ct _ _ => rw [ef] at o; exact o.elim
  | bad => rw [ef] at o; exact o.elim
theorem law_facts {fa : List He.Fa} {fn : List He.DefD} {P : Program} {w : World} {K : PySem.W.Frag} {h : Heap} {mg : Str → Option Value} {f : Addr} (X : K.In h) (G : h.Ns mainGlobals mg) (c : He.SaysD fa fn K) (hfa : mg ("law" : Str) = some (.ref f))
    (j i : Nat) {x : Str} {st : Stmt} {N : List Str} {k : Nat} {fb : DS} (hd : fn[j]? = some (dfd "law" st)) (hx : fa[i]? = some (.glo "law")) (S : FnScope N [x] (defScope st))
    (hb : ∀ (kV doc pm : Value) (an : Option Addr) (cdv ct : Value) (us : List Value), us.length = [x].length → bindArgs (PySem.W.fnOf "law" "law" (defArgs st) (defBody st) (defScope st) .none kV doc pm an cdv ct) ⟨us, []⟩ = pure ([x].zip us))
    (hbody : ∀ g : Gx, Tx fa fn g → DenSs ⟨g, k, N, defScope st, fun _ => true, false⟩ (defBody st) fb) :
    ∃ fd : FuncData, (∀ (s : Shared) (v : Value), BindsTo s fd ⟨[v], []⟩ [(x, v)]) ∧ ∀ base : Heap, K.In base → base.Ns mainGlobals mg → FnOk P w K mg base (L2.CX P w) (k + 1) f fd [x] (spOf ⟨P, w, K, mg, base⟩ 1 (fnR N.length fb)) := by
  obtain ⟨fd, F⟩ := c.def_ j hd
  have e := hfa.symm.trans (He.glo_ok X G (c.fact i hx))
  cases e
  have b := FunD.bindsA (ps := [x]) F hb
  refine ⟨fd, fun s v => b s [v] rfl, fun base _ _ => ?_⟩
  exact fn_okD (g := ⟨P, w, K, mg, base⟩) F S (hbody _ ⟨⟨h, X, G⟩, c⟩)
theorem cx_no {P : Program} {w : World} (H : Hp) (s : Shared) (e : Value) (s' : Shared) (h : L2.CX P w [] H s (fun _ _ _ => False) e s') : False := by
  obtain ⟨_, _, _, _, _, _, _, _, _, _, _, _, _, _, _, _, z⟩ := h
/-- a law's call, its head by facts, over CX of the world -/
theorem walk_end {l : PySem.W.OpenLaw} {n k : Nat} {q : Program} {loose : List Str} {XP : (Str → Option Value) → Heap → Prop} {YP : World → Heap → Prop} {d : DefRec} {x : Str} (few : l.most = some n) (fit : n ≤ sizeLine) (plain : d.params.defaults = []) (hr : Room k callerA)
    (F : ∀ (w : World) (mg : Str → Option Value) (fa : Addr) (h : Heap), YP w h → h.Ns mainGlobals mg → mg d.name = some (.ref fa) → ∃ (K : PySem.W.Frag) (fd : FuncData) (sp : Sp), K.In h ∧ (∀ (s : Shared) (u : Value), BindsTo s fd ⟨[u], []⟩ [(x, u)]) ∧
        (∀ (H : Hp) (a : Addr) (ns : List Int), ns.length ≤ n → Only H → SqL K H a (ns.map V.int) → sp [.ref a] H (fun v _ => v = .bl true) fun _ _ _ => False) ∧ ∀ base : Heap, K.In base → base.Ns mainGlobals mg → FnOk l.prog w K mg base (L2.CX l.prog w) k fa fd [x] sp) :
    PySem.W.WalkO q loose XP YP l.row.toRowW d [] (fun f vs => PySem.call f vs) := by
  refine Att.attach_call few plain fun w s0 s1 mg mb fa o pm cd doc a vs ns G Y ho hd hcd hmg hobj hints hlen hg => ?_
  obtain ⟨K, fd, sp, KX, hb, hsp, hF⟩ := F w mg fa _ Y G.T.g hmg
  exact law_call KX G.T.g G.T.b G.T.builtins G.T.nolimit hg hobj hints (Nat.le_trans hlen fit) hr hF hb (fun H hO hS => hsp H a ns hlen hO hS) fun H e s' => cx_no H s1 e s'
end Sw

/-! Sw, part N: the dice. -/
namespace Sw
open PySem PySem.Spec PyProof.Rows L2
variable [Tbs]
theorem ap_ifR (t : DT) (a b : DE) (τ : List Sl) (h : HS) : ifR t a b τ h = ((t τ h).bind fun c h1 => if c then a τ h1 else b τ h1) := id rfl
theorem ap_nS (i : Nat) (τ : List Sl) (h : HS) : nS i τ h = (getS τ i h) := id rfl
theorem ap_nB (i : Nat) (τ : List Sl) (h : HS) : nB i τ h = (getB τ i h) := id rfl
theorem ap_kD (d : D) (τ : List Sl) (h : HS) : kD d τ h = (.ok d h) := id rfl
theorem ap_aN (τ : List Sl) (h : HS) : aN τ h = (.ok [] h) := id rfl
theorem ap_tY (τ : List Sl) (h : HS) : tY τ h = (.ok true h) := id rfl
theorem ap_oN (τ : List Sl) (h : HS) : oN τ h = (.ok none h) := id rfl
theorem ap_oS (fe : DE) (τ : List Sl) (h : HS) : oS fe τ h = ((fe τ h).bind fun d h1 => match d with | .int i => .ok (some i) h1 | _ => .bad) := id rfl
theorem ap_rT (fe : DE) (τ : List Sl) (h : HS) : rT fe τ h = (RS.ofR (fe τ h) τ fun d h1 => .rt d h1) := id rfl
theorem ap_xS (fe : DE) (τ : List Sl) (h : HS) : xS fe τ h = (RS.ofR (fe τ h) τ fun _ h1 => .nx τ h1) := id rfl
theorem ap_bkS (τ : List Sl) (h : HS) : bkS τ h = (.bk τ h) := id rfl
theorem ap_ctS (τ : List Sl) (h : HS) : ctS τ h = (.ct τ h) := id rfl
theorem ap_noS (τ : List Sl) (h : HS) : noS τ h = (.bad) := id rfl
theorem ap_rN (τ : List Sl) (h : HS) : rN τ h = (.rt .non h) := id rfl
theorem ap_frS (i : Nat) (f : DS) (τ : List Sl) (h : HS) : frS i f τ h = (f (frzT τ i) h) := id rfl
theorem ap_mN (τ : List Sl) (h : HS) : mN τ h = (.ok [] h) := id rfl
theorem ap_shR (f : DE) (τ : List Sl) (s : HS) : shR f τ s = (sShare (f τ s)) := id rfl
theorem ap_seqS (f g : DS) (τ : List Sl) (h : HS) : seqS f g τ h = ( match f τ h with
  | .nx τ' h' => g τ' h'
  | r => r) := id rfl
theorem ap_iteS (t : DT) (f g : DS) (τ : List Sl) (h : HS) : iteS t f g τ h = (RS.ofR (t τ h) τ fun b h1 => if b then f τ h1 else g τ h1) := id rfl
theorem ap_cmpT (g : D → D → Option D) (a b : DE) (τ : List Sl) (h : HS) : cmpT g a b τ h = ((res2 g a b τ h).bind fun d h1 => match d with | .bl c => .ok c h1 | _ => .bad) := id rfl
theorem ap_setS (i : Nat) (fe : DE) (τ : List Sl) (h : HS) : setS i fe τ h = (RS.ofR (fe τ h) τ fun d h1 => .nx (τ.set i (.val d)) h1) := id rfl
theorem ap_setN (i : Nat) (fe : DE) (τ : List Sl) (h : HS) : setN i fe τ h = ( RS.ofR (fe τ h) τ fun d h1 => match ownSl d with
  | some s => .nx (τ.set i s) h1
  | none => .bad) := id rfl
theorem ap_nilS (τ : List Sl) (h : HS) : nilS τ h = (.nx τ h) := id rfl
theorem ap_res1 (g : D → Option D) (a : DE) (τ : List Sl) (h : HS) : res1 g a τ h = ((a τ h).bind fun x h1 => toRes (g x) h1) := id rfl
theorem ap_res2 (g : D → D → Option D) (a b : DE) (τ : List Sl) (h : HS) : res2 g a b τ h = ((a τ h).bind fun x h1 => (b τ h1).bind fun y h2 => toRes (g x y) h2) := id rfl
theorem ap_refIxR (a b : DE) (τ : List Sl) (h : HS) : refIxR a b τ h = ((a τ h).bind fun x h1 => (b τ h1).bind fun y h2 => atRef x y h2) := id rfl
theorem ap_rputS (i : Nat) (fe fe2 : DE) (τ : List Sl) (h : HS) : rputS i fe fe2 τ h = ( RS.ofR (fe2 τ h) τ fun d h1 => match τ[i]? with
  | some (.val (.ref n)) => RS.ofR (fe τ h1) τ fun k h2 => match k, h2[n]? with
    | .int k, some xs => match ixN xs.length k with
      | some j => .nx τ (h2.set n (xs.set j d))
      | none => .bad
    | _, _ => .bad
  | _ => .bad) := id rfl
theorem ap_consR (a : DE) (r : DA) (τ : List Sl) (h : HS) : consR a r τ h = ((a τ h).bind fun x h1 => (r τ h1).bind fun xs h2 => .ok (x :: xs) h2) := id rfl
theorem ap_callR (n : Nat) (φ : DF) (a : DA) (τ : List Sl) (h : HS) : callR n φ a τ h = ((a τ h).bind fun ds h1 => if ds.length = n then φ ds h1 else .bad) := id rfl
theorem ap_biR (g : List D → Option D) (a : DA) (τ : List Sl) (h : HS) : biR g a τ h = ((a τ h).bind fun ds h1 => toRes (g ds) h1) := id rfl
theorem ap_isiR (T : String) (a : DE) (τ : List Sl) (h : HS) : isiR T a τ h = ( (a τ h).bind fun d h1 => match (tyD d).bind (isiT · T) with
  | some b => .ok (.bl b) h1
  | none => .bad) := id rfl
theorem ap_bAndR (a b : DE) (τ : List Sl) (h : HS) : bAndR a b τ h = ((a τ h).bind fun d h1 => match d with | .bl c => if c then b τ h1 else .ok (.bl false) h1 | _ => .bad) := id rfl
theorem ap_bNotR (a : DE) (τ : List Sl) (h : HS) : bNotR a τ h = ((a τ h).bind fun d h1 => match d with | .bl c => .ok (.bl (!c)) h1 | _ => .bad) := id rfl
theorem ap_bOrR (a b : DE) (τ : List Sl) (h : HS) : bOrR a b τ h = ((a τ h).bind fun d h1 => match d with | .bl c => if c then .ok (.bl true) h1 else b τ h1 | _ => .bad) := id rfl
theorem ap_chR (g g' : D → D → Option D) (a b c : DE) (τ : List Sl) (h : HS) : chR g g' a b c τ h = ( (a τ h).bind fun x h1 => (b τ h1).bind fun y h2 => match g x y with
  | some (.bl k) => if k then (c τ h2).bind fun z h3 => toRes (g' y z) h3 else .ok (.bl false) h2
  | _ => .bad) := id rfl
theorem ap_chT (g g' : D → D → Option D) (a b c : DE) (τ : List Sl) (h : HS) : chT g g' a b c τ h = ((chR g g' a b c τ h).bind fun d h1 => match d with | .bl k => .ok k h1 | _ => .bad) := id rfl
theorem ap_truR (a : DE) (τ : List Sl) (h : HS) : truR a τ h = ((a τ h).bind fun d h1 => toRes d.tru h1) := id rfl
theorem ap_tNotR (a : DT) (τ : List Sl) (h : HS) : tNotR a τ h = ((a τ h).bind fun c h1 => .ok (!c) h1) := id rfl
theorem ap_tAndR (a b : DT) (τ : List Sl) (h : HS) : tAndR a b τ h = ((a τ h).bind fun c h1 => if c then b τ h1 else .ok false h1) := id rfl
theorem ap_tOrR (a b : DT) (τ : List Sl) (h : HS) : tOrR a b τ h = ((a τ h).bind fun c h1 => if c then .ok true h1 else b τ h1) := id rfl
theorem ap_seqR (a : DE) (τ : List Sl) (h : HS) : seqR a τ h = ( (a τ h).bind fun d h1 => match d with
  | .tup xs => .ok xs h1
  | .lst xs => .ok xs h1
  | _ => .bad) := id rfl
theorem ap_rngR1 (a : DE) (τ : List Sl) (h : HS) : rngR1 a τ h = ( (a τ h).bind fun d h1 => match d with
  | .int n => if decide (-(2 ^ 62) ≤ n) && decide (n < 2 ^ 62) then .ok (rangeD 0 n.toNat) h1 else .bad
  | _ => .bad) := id rfl
theorem ap_rngR2 (a b : DE) (τ : List Sl) (h : HS) : rngR2 a b τ h = ( (a τ h).bind fun x h1 => (b τ h1).bind fun y h2 => match x, y with
  | .int m, .int n => if (decide (-(2 ^ 62) ≤ m) && decide (m < 2 ^ 62)) && (decide (-(2 ^ 62) ≤ n) && decide (n < 2 ^ 62)) then .ok (rangeD m (n - m).toNat) h2 else .bad
  | _, _ => .bad) := id rfl
theorem ap_enumR (a : DE) (τ : List Sl) (h : HS) : enumR a τ h = ( (a τ h).bind fun d h1 => match d with
  | .tup xs => .ok (enumD 0 xs) h1
  | .lst xs => .ok (enumD 0 xs) h1
  | _ => .bad) := id rfl
theorem ap_zipR (a b : DE) (τ : List Sl) (h : HS) : zipR a b τ h = ( (a τ h).bind fun x h1 => (b τ h1).bind fun y h2 => match x, y with
  | .tup xs, .tup ys => .ok (zipD xs ys) h2
  | .lst xs, .lst ys => .ok (zipD xs ys) h2
  | _, _ => .bad) := id rfl
theorem ap_lcR (it : DA) (vs : List Nat) (g : GT) (tt : DT) (te : DE) (τ : List Sl) (h : HS) : lcR it vs g tt te τ h = ((it τ h).bind fun items h1 => if fits items.length then (lcL g tt te (wipeT τ vs) items h1).nox.bind fun ys h2 => .ok (.lst ys) h2 else .bad) := id rfl
theorem ap_lcR2 (it : DA) (vs : List Nat) (g : GT) (tt : DT) (it1 : DA) (vs1 : List Nat) (g1 : GT) (tt1 : DT) (te : DE) (τ : List Sl) (h : HS) : lcR2 it vs g tt it1 vs1 g1 tt1 te τ h = ( (it τ h).bind fun items h1 =>
  (lcL2 g tt it1 vs1 g1 tt1 te (wipeT τ vs) items h1).nox.bind fun ys h2 => if fits ys.length then .ok (.lst ys) h2 else .bad) := id rfl
theorem ap_sliceR (a : DE) (lo hi : DP) (τ : List Sl) (h : HS) : sliceR a lo hi τ h = ((a τ h).bind fun x h1 => (lo τ h1).bind fun i h2 => (hi τ h2).bind fun j h3 => toRes (sliceD x i j) h3) := id rfl
theorem ap_tupR (a : DA) (τ : List Sl) (h : HS) : tupR a τ h = ((a τ h).bind fun xs h1 => if fits xs.length then .ok (.tup xs) h1 else .bad) := id rfl
theorem ap_lstR (a : DA) (τ : List Sl) (h : HS) : lstR a τ h = ((a τ h).bind fun xs h1 => if fits xs.length then .ok (.lst xs) h1 else .bad) := id rfl
theorem ap_starR (a : DE) (r : DA) (τ : List Sl) (h : HS) : starR a r τ h = ( (a τ h).bind fun x h1 => match x with
  | .tup ys => (r τ h1).bind fun xs h2 => .ok (ys ++ xs) h2
  | .lst ys => (r τ h1).bind fun xs h2 => .ok (ys ++ xs) h2
  | _ => .bad) := id rfl
theorem ap_augS (i : Nat) (g : D → D → Option D) (fe : DE) (τ : List Sl) (h : HS) : augS i g fe τ h = ( match τ[i]? with
  | some (.val d) => RS.ofR (fe τ h) τ fun y h1 => match g d y with
    | some z => .nx (τ.set i (.val z)) h1
    | none => .bad
  | _ => .bad) := id rfl
theorem ap_asgS (g : GT) (fe : DE) (τ : List Sl) (h : HS) : asgS g fe τ h = ( RS.ofR (fe τ h) τ fun d h1 => match g d τ with
  | some τ' => .nx τ' h1
  | none => .bad) := id rfl
theorem ap_par2 (i j : Nat) (fa : List Sl → HS → Res (List Sl)) (τ : List Sl) (h : HS) : par2 i j fa τ h = ( RS.ofR (fa τ h) τ fun ss h1 => match ss with
  | [s, t] => .nx ((τ.set i s).set j t) h1
  | _ => .bad) := id rfl
theorem ap_ownM (a : DE) (r : List Sl → HS → Res (List Sl)) (τ : List Sl) (h : HS) : ownM a r τ h = ( (a τ h).bind fun d h1 => match ownSl d with
  | some s => (r τ h1).bind fun ss h2 => .ok (s :: ss) h2
  | none => .bad) := id rfl
theorem ap_valM (a : DE) (r : List Sl → HS → Res (List Sl)) (τ : List Sl) (h : HS) : valM a r τ h = ((a τ h).bind fun d h1 => (r τ h1).bind fun ss h2 => .ok (.val d :: ss) h2) := id rfl
theorem ap_appS (i : Nat) (fe : DE) (τ : List Sl) (h : HS) : appS i fe τ h = ( match τ[i]? with
  | some (.own _) => RS.ofR (fe τ h) τ fun d h1 => match τ[i]? with
    | some (.own xs) => if decide (xs.length < sizeLine) then .nx (τ.set i (.own (xs ++ [d]))) h1 else .bad
    | _ => .bad
  | _ => .bad) := id rfl
theorem ap_extS (i : Nat) (fe : DE) (τ : List Sl) (h : HS) : extS i fe τ h = ( match τ[i]? with
  | some (.own _) => RS.ofR (fe τ h) τ fun d h1 => match τ[i]?, d with
    | some (.own xs), .lst ys => if fits (xs.length + ys.length) then .nx (τ.set i (.own (xs ++ ys))) h1 else .bad
    | _, _ => .bad
  | _ => .bad) := id rfl
theorem ap_putS (i : Nat) (fe fe2 : DE) (τ : List Sl) (h : HS) : putS i fe fe2 τ h = ( RS.ofR (fe2 τ h) τ fun d h1 => match τ[i]? with
  | some (.own xs) => RS.ofR (fe τ h1) τ fun k h2 => match k with
    | .int k => match ixN xs.length k with
      | some j => .nx (τ.set i (.own (xs.set j d))) h2
      | none => .bad
    | _ => .bad
  | _ => .bad) := id rfl
theorem ap_forR (it : DA) (g : GT) (b : DS) (τ : List Sl) (h : HS) : forR it g b τ h = (RS.ofR (it τ h) τ fun items h1 => forS g b items τ h1) := id rfl
theorem ap_revR (a : DE) (τ : List Sl) (h : HS) : revR a τ h = ( (a τ h).bind fun d h1 => match d with
  | .lst xs => .ok (.lst xs.reverse) h1
  | .frl xs => .ok (.lst xs.reverse) h1
  | _ => .bad) := id rfl
theorem ap_pureS (f : DS) (τ : List Sl) (h : HS) : pureS f τ h = ( match f (τ.map Sl.hide) [] with
  | .rt d [] => .rt d h
  | .exc x [] => .exc x h
  | _ => .bad) := id rfl
theorem ap_fnR (n : Nat) (f : DS) (ds : List D) (h : HS) : fnR n f ds h = (match f (ds.map Sl.val ++ List.replicate (n - ds.length) Sl.un) h with | .rt d h' => .ok d h' | .nx _ h' => .ok .non h' | .exc x h' => .exc x h' | _ => .bad) := id rfl
theorem ap_iSub (i j : Int) : iSub (.int i) (.int j) = some (.int (i - j)) := id rfl
theorem ap_addD (i j : Int) : addD (.int i) (.int j) = some (.int (i + j)) := id rfl
theorem ap_mulD (i j : Int) : mulD (.int i) (.int j) = if mulOk i j then some (.int (i * j)) else none := id rfl
theorem ap_iLt (i j : Int) : iLt (.int i) (.int j) = some (.bl (decide (i < j))) := id rfl
theorem ap_iLe (i j : Int) : iLe (.int i) (.int j) = some (.bl (decide (i ≤ j))) := id rfl
theorem ap_iGt (i j : Int) : iGt (.int i) (.int j) = some (.bl (decide (j < i))) := id rfl
theorem ap_iGe (i j : Int) : iGe (.int i) (.int j) = some (.bl (decide (j ≤ i))) := id rfl
theorem ap_iMod (i j : Int) : iMod (.int i) (.int j) = if modOk i j then some (.int (i.fmod j)) else none := id rfl
theorem ap_iDiv (i j : Int) : iDiv (.int i) (.int j) = if divOk i j then some (.int (i.fdiv j)) else none := id rfl
theorem rb_ok {α β : Type} (a : α) (h : HS) (g : α → HS → Res β) : (Res.ok a h).bind g = g a h := id rfl
theorem rn_ok {α : Type} (a : α) (h : HS) : (Res.ok a h).nox = .ok a h := id rfl
theorem ro_ok {α : Type} (a : α) (h : HS) (τ : List Sl) (k : α → HS → RS) : RS.ofR (.ok a h) τ k = k a h := id rfl
theorem tr_some {α : Type} (a : α) (h : HS) : toRes (some a) h = .ok a h := id rfl
theorem gS_0 (d : D) (τ : List Sl) (h : HS) : getS (.val d :: τ) 0 h = .ok d h := id rfl
theorem gS_s (s : Sl) (τ : List Sl) (i : Nat) (h : HS) : getS (s :: τ) (i + 1) h = getS τ i h := id rfl
theorem gB_0 (d : D) (τ : List Sl) (h : HS) : getB (.val d :: τ) 0 h = .ok d h := id rfl
theorem gB_o (d : List D) (τ : List Sl) (h : HS) : getB (.own d :: τ) 0 h = .ok (.lst d) h := id rfl
theorem gB_s (s : Sl) (τ : List Sl) (i : Nat) (h : HS) : getB (s :: τ) (i + 1) h = getB τ i h := id rfl
def bDice : DS :=
    (seqS (setS 2 (ifR (cmpT iLt (nS 1) (biR lenG (consR (nS 0) aN))) (biR intG (consR (res2 atD (nS 0) (nS 1)) aN)) (res2 addD (res2 mulD (kD (.int 73)) (nS 1)) (kD (.int 41)))))
    (seqS (setS 3 (res2 iMod (biR maxsG (consR (kD (.int 0)) (consR (res2 iSub (biR absG (consR (nS 2) aN)) (res2 iPow (kD (.int 10)) (kD (.int 17)))) aN))) (res2 mulD (res2 iPow (kD (.int 10)) (kD (.int 57))) (res2 iPow (kD (.int 10)) (kD (.int 60))))))
    (rT (shR (lstR (consR (nS 3) (consR (res2 addD (res2 addD (res2 addD (res2 mulD (res2 iMod (biR absG (consR (nS 2) aN)) (kD (.int 1152921504606846883))) (kD (.int 59))) (res2 mulD (kD (.int 977)) (nS 1))) (res2 mulD (kD (.int 47)) (biR intG (consR (res2 iLt (nS 2) (kD (.int 0))) aN)))) (kD (.int 13))) (consR (kD (.int 0)) aN))))))))
def dDice : DF := fnR 4 bDice
def bRoll : DS :=
    (seqS (iteS (cmpT iGt (refIxR (nS 0) (kD (.int 0))) (kD (.int 0))) (seqS (setS 2 (res2 iMod (biR intG (consR (refIxR (nS 0) (kD (.int 0))) aN)) (nS 1)))
    (seqS (rputS 0 (kD (.int 0)) (res2 iDiv (refIxR (nS 0) (kD (.int 0))) (nS 1)))
    (rT (nS 2)))) nilS)
    (seqS (rputS 0 (kD (.int 2)) (res2 addD (refIxR (nS 0) (kD (.int 2))) (kD (.int 1))))
    (seqS (setS 3 (res2 iMod (biR intG (consR (res2 addD (refIxR (nS 0) (kD (.int 1))) (res2 mulD (kD (.int 99990001)) (refIxR (nS 0) (kD (.int 2))))) aN)) (kD (.int 2305843009213693403))))
    (seqS (setS 4 (res2 addD (res2 mulD (res2 iMod (biR intG (consR (res2 addD (res2 mulD (nS 3) (nS 3)) (res2 mulD (kD (.int 83)) (refIxR (nS 0) (kD (.int 2))))) aN)) (kD (.int 2305843009213693373))) (kD (.int 8675327))) (nS 3)))
    (rT (res2 iMod (biR intG (consR (res2 iDiv (nS 4) (kD (.int 65539))) aN)) (nS 1)))))))
def dRoll : DF := fnR 5 bRoll
def bPick : DS :=
    (rT (res2 atD (nS 1) (callR 2 dRoll (consR (nS 0) (consR (biR lenG (consR (nS 1) aN)) aN)))))
def dPick : DF := fnR 2 bPick
def bLotOf : DS :=
    (rT (biR tupG (consR (revR (biR sortsG (consR (nS 0) aN))) aN)))
def dLotOf : DF := pureF (fnR 1 bLotOf)
def bLDb : DS :=
    (seqS (setS 4 (res2 addD (kD (.int 1)) (callR 2 dRoll (consR (nS 0) (consR (biR minsG (consR (nS 3) (consR (callR 2 dPick (consR (nS 0) (consR (lstR (consR (kD (.int 1)) (consR (kD (.int 2)) (consR (kD (.int 3)) (consR (kD (.int 8)) aN))))) aN))) aN))) aN)))))
    (seqS (appS 2 (nS 4))
    (setS 3 (res2 iSub (nS 3) (nS 4)))))
def bLotDrawn : DS :=
    (seqS (par2 2 3 (ownM (lstR aN) (valM (nS 1) mN)))
    (seqS (whileS (cmpT iGt (nS 3) (kD (.int 0))) bLDb 64)
    (frS 2 (rT (callR 1 dLotOf (consR (nS 2) aN))))))
def dLotDrawn : DF := fnR 5 bLotDrawn
def IsDice (h : HS) (n : Nat) : Prop := ∃ L c t : Int, h[n]? = some [.int L, .int c, .int t]
theorem roll_ok {h : HS} {n : Nat} {m : Int} (hd : IsDice h n) (hm : 0 < m) (hl : m < 2 ^ 64) : ∃ r h', dRoll [.ref n, .int m] h = .ok (.int r) h' ∧ IsDice h' n ∧ 0 ≤ r ∧ r < m := by
  obtain ⟨L, c, t, hd⟩ := hd
  have hn : n < h.length := (List.getElem?_eq_some_iff.mp hd).1
  have hm0 : m ≠ 0 := by omega
  have hlog : m.natAbs.log2 < 9000 := by
    have : m.natAbs < 2 ^ 64 := by omega
    exact Nat.lt_of_lt_of_le ((Nat.log2_lt (by omega)).mpr this) (by decide)
  by_cases hL : 0 < L
  · refine ⟨L.fmod m, h.set n [.int (L.fdiv m), .int c, .int t], ?_, ⟨_, _, _, List.getElem?_set_self hn⟩, Int.fmod_nonneg_of_pos _ hm, Int.fmod_lt_of_pos _ hm⟩
    simp [dRoll, bRoll, ifR, nS, nB, kD, aN, tY, oN, oS, rT, xS, bkS, ctS, noS, rN, frS, mN, shR, mulOk, fnR, seqS, iteS, cmpT, setS, setN, nilS, RS.ofR, Res.bind, Res.nox, res1, res2, toRes, refIxR, rputS, atRef, L2.atI, L2.ixN, getS, getB, consR, callR, biR, addD, mulD, iAdd, iSub, iMul, iDiv, iMod, iPow, iLt, iLe, iGt, iGe, Sw.intD, intG, lenG, hd, hL, hm0, hlog, divOk, modOk]
  · refine ⟨((((c + 99990001 * (t + 1)).fmod 2305843009213693403 * (c + 99990001 * (t + 1)).fmod 2305843009213693403 + 83 * (t + 1)).fmod 2305843009213693373 * 8675327 + (c + 99990001 * (t + 1)).fmod 2305843009213693403).fdiv 65539).fmod m, h.set n [.int L, .int c, .int (t + 1)], ?_, ⟨_, _, _, List.getElem?_set_self hn⟩, Int.fmod_nonneg_of_pos _ hm, Int.fmod_lt_of_pos _ hm⟩
    have b1 := Int.fmod_nonneg_of_pos (c + 99990001 * (t + 1)) (b := 2305843009213693403) (by decide)
    have b2 := Int.fmod_lt_of_pos (c + 99990001 * (t + 1)) (b := 2305843009213693403) (by decide)
    have b3 : (c + 99990001 * (t + 1)).fmod 2305843009213693403 < 18446744073709551616 := by omega
    have b4 : -18446744073709551616 < (c + 99990001 * (t + 1)).fmod 2305843009213693403 := by omega
    have b5 : (65539 : Nat).log2 < 9000 := by decide +kernel
    simp [dRoll, bRoll, ifR, nS, nB, kD, aN, tY, oN, oS, rT, xS, bkS, ctS, noS, rN, frS, mN, shR, mulOk, fnR, seqS, iteS, cmpT, setS, setN, nilS, RS.ofR, Res.bind, Res.nox, res1, res2, toRes, refIxR, rputS, atRef, L2.atI, L2.ixN, getS, getB, consR, callR, biR, addD, mulD, iAdd, iSub, iMul, iDiv, iMod, iPow, iLt, iLe, iGt, iGe, Sw.intD, intG, lenG, hd, hL, hm0, hlog, divOk, modOk, List.getElem?_set_self hn, b3, b4, b5]
theorem pick_ok {h : HS} {n : Nat} {xs : List D} (hd : IsDice h n) (hx : xs ≠ []) (hl : xs.length < 2 ^ 64) : ∃ d h', dPick [.ref n, .lst xs] h = .ok d h' ∧ IsDice h' n ∧ d ∈ xs := by
  have h0 : 0 < xs.length := List.length_pos_iff.mpr hx
  obtain ⟨r, h', e, hd', r0, r1⟩ := roll_ok (m := xs.length) hd (by omega) (by omega)
  have hr : r.toNat < xs.length := by omega
  refine ⟨xs[r.toNat], h', ?_, hd', List.getElem_mem hr⟩
  simp [dPick, bPick, ifR, nS, nB, kD, aN, tY, oN, oS, rT, xS, bkS, ctS, noS, rN, frS, mN, shR, mulOk, fnR, seqS, iteS, cmpT, setS, setN, nilS, RS.ofR, Res.bind, Res.nox, res1, res2, toRes, refIxR, rputS, atRef, L2.atI, L2.ixN, getS, getB, consR, callR, biR, addD, mulD, iAdd, iSub, iMul, iDiv, iMod, iPow, iLt, iLe, iGt, iGe, Sw.intD, intG, lenG, e, atD, r0, r1, List.getElem?_eq_getElem hr]
theorem pickT_ok {h : HS} {n : Nat} {xs : List D} (hd : IsDice h n) (hx : xs ≠ []) (hl : xs.length < 2 ^ 64) : ∃ d h', dPick [.ref n, .tup xs] h = .ok d h' ∧ IsDice h' n ∧ d ∈ xs := by
  have h0 : 0 < xs.length := List.length_pos_iff.mpr hx
  obtain ⟨r, h', e, hd', r0, r1⟩ := roll_ok (m := xs.length) hd (by omega) (by omega)
  have hr : r.toNat < xs.length := by omega
  refine ⟨xs[r.toNat], h', ?_, hd', List.getElem_mem hr⟩
  simp [dPick, bPick, ifR, nS, nB, kD, aN, tY, oN, oS, rT, xS, bkS, ctS, noS, rN, frS, mN, shR, mulOk, fnR, seqS, iteS, cmpT, setS, setN, nilS, RS.ofR, Res.bind, Res.nox, res1, res2, toRes, refIxR, rputS, atRef, L2.atI, L2.ixN, getS, getB, consR, callR, biR, addD, mulD, iAdd, iSub, iMul, iDiv, iMod, iPow, iLt, iLe, iGt, iGe, Sw.intD, intG, lenG, e, atD, r0, r1, List.getElem?_eq_getElem hr]
theorem sl1000000 : (1000000 : Nat) < sizeLine := by rw [sizeLine_eq]; decide
theorem lot_loop {n : Nat} {tot : D} : ∀ (F : Nat) (left : Int) (xs : List Int) (s4 : Sl) (h : HS), IsDice h n → 0 ≤ left → left < F → xs.length + left < 1000 →
    ∃ ys s4' h', whileS (cmpT iGt (nS 3) (kD (.int 0))) bLDb F [.val (.ref n), .val tot, .own (xs.map .int), .val (.int left), s4] h = .nx [.val (.ref n), .val tot, .own ((xs ++ ys).map .int), .val (.int 0), s4'] h' ∧ IsDice h' n ∧ (∀ y ∈ ys, 1 ≤ y) ∧ ys.sum = left
  | 0, left, xs, s4, h, hd, h0, h1, h2 => by omega
  | F + 1, left, xs, s4, h, hd, h0, h1, h2 => by
    by_cases hz : left = 0
    · subst hz
      exact ⟨[], s4, h, by simp [whileS, ifR, nS, nB, kD, aN, tY, oN, oS, rT, xS, bkS, ctS, noS, rN, frS, mN, shR, mulOk, fnR, seqS, iteS, cmpT, setS, setN, nilS, RS.ofR, Res.bind, Res.nox, res1, res2, toRes, refIxR, rputS, atRef, L2.atI, L2.ixN, getS, getB, consR, callR, biR, addD, mulD, iAdd, iSub, iMul, iDiv, iMod, iPow, iLt, iLe, iGt, iGe, Sw.intD, intG, lenG], hd, (fun y m => by cases m), rfl⟩
    · have hp : 0 < left := by omega
      obtain ⟨d, ha, e1, hd1, m1⟩ := pick_ok (xs := [.int 1, .int 2, .int 3, .int 8]) hd (by simp) (by decide)
      obtain ⟨p, rfl, hp1⟩ : ∃ p : Int, d = .int p ∧ 1 ≤ p := by
        simp only [List.mem_cons, List.not_mem_nil, or_false] at m1
        rcases m1 with rfl | rfl | rfl | rfl
        · exact ⟨1, rfl, by omega⟩
        · exact ⟨2, rfl, by omega⟩
        · exact ⟨3, rfl, by omega⟩
        · exact ⟨8, rfl, by omega⟩
      obtain ⟨m, em, hm1, hm2⟩ : ∃ m : Int, (if p < left then p else left) = m ∧ 1 ≤ m ∧ m ≤ left := by
        by_cases hlt : p < left
        · exact ⟨p, if_pos hlt, hp1, by omega⟩
        · exact ⟨left, if_neg hlt, by omega, by omega⟩
      obtain ⟨r, hb, e2, hd2, r0, r1⟩ := roll_ok (m := m) hd1 (by omega) (by omega)
      obtain ⟨ys, s4', h', e3, hd3, hy, hs⟩ := lot_loop F (left - (1 + r)) (xs ++ [1 + r]) (.val (.int (1 + r))) hb hd2 (by omega) (by omega) (by simp; omega)
      have hlen : xs.length < sizeLine := Nat.lt_trans (by omega) sl1000000
      refine ⟨(1 + r) :: ys, s4', h', ?_, hd3, fun y my => ?_, by rw [List.sum_cons, hs]; omega⟩
      · rw [whileS]
        have e4 : bLDb [.val (.ref n), .val tot, .own (xs.map .int), .val (.int left), s4] h = .nx [.val (.ref n), .val tot, .own ((xs ++ [1 + r]).map .int), .val (.int (left - (1 + r))), .val (.int (1 + r))] hb := by
          have f4 : fits 4 = true := by unfold fits; exact decide_eq_true (Nat.le_of_lt (Nat.lt_trans (by decide) sl1000000))
          simp [bLDb, ifR, nS, nB, kD, aN, tY, oN, oS, rT, xS, bkS, ctS, noS, rN, frS, mN, shR, mulOk, fnR, seqS, iteS, cmpT, setS, setN, nilS, RS.ofR, Res.bind, Res.nox, res1, res2, toRes, refIxR, rputS, atRef, L2.atI, L2.ixN, getS, getB, consR, callR, biR, addD, mulD, iAdd, iSub, iMul, iDiv, iMod, iPow, iLt, iLe, iGt, iGe, Sw.intD, intG, lenG, lstR, f4, e1, minsG, minG, em, e2, appS, hlen]
        have c : cmpT iGt (nS 3) (kD (.int 0)) [.val (.ref n), .val tot, .own (xs.map .int), .val (.int left), s4] h = .ok true h := by simp [ifR, nS, nB, kD, aN, tY, oN, oS, rT, xS, bkS, ctS, noS, rN, frS, mN, shR, mulOk, fnR, seqS, iteS, cmpT, setS, setN, nilS, RS.ofR, Res.bind, Res.nox, res1, res2, toRes, refIxR, rputS, atRef, L2.atI, L2.ixN, getS, getB, consR, callR, biR, addD, mulD, iAdd, iSub, iMul, iDiv, iMod, iPow, iLt, iLe, iGt, iGe, Sw.intD, intG, lenG, hp]
        simp only [RS.ofR, c, e4, if_true]
        rw [List.append_cons xs (1 + r) ys]
        exact e3
      · rcases List.mem_cons.mp my with rfl | my
        · omega
        · exact hy y my
theorem noRefs_ints : ∀ xs : List Int, noRefs (xs.map .int) = true
  | [] => by rw [List.map_nil, noRefs]
  | x :: xs => by rw [List.map_cons, noRefs, noRefs_ints xs]; simp [D.noRef]
theorem lotOf_ok {h : HS} (xs : List Int) : dLotOf [.lst (xs.map .int)] h = .ok (.tup ((sortI xs).reverse.map .int)) h := by
  simp [dLotOf, bLotOf, pureF, pureR, noRefs, D.noRef, noRefs_ints, ifR, nS, nB, kD, aN, tY, oN, oS, rT, xS, bkS, ctS, noS, rN, frS, mN, shR, mulOk, fnR, seqS, iteS, cmpT, setS, setN, nilS, RS.ofR, Res.bind, Res.nox, res1, res2, toRes, refIxR, rputS, atRef, L2.atI, L2.ixN, getS, getB, consR, callR, biR, addD, mulD, iAdd, iSub, iMul, iDiv, iMod, iPow, iLt, iLe, iGt, iGe, Sw.intD, intG, lenG, sortsG, sortLG, ints_map, revR, tupG, List.map_reverse]
/-- a lot of n: positive, not ascending -/
structure Lot (l : List Int) (n : Int) : Prop where
  pos : ∀ y ∈ l, 1 ≤ y
  desc : l.Pairwise (· ≥ ·)
  sum : l.sum = n
theorem sum_perm {a b : List Int} (h : a.Perm b) : a.sum = b.sum := by
  induction h with
  | nil => rfl
  | cons x _ ih => simp [ih]
  | swap x y l => simp; omega
  | trans _ _ h1 h2 => exact h1.trans h2
theorem lot_sorted {ys : List Int} {n : Int} (h1 : ∀ y ∈ ys, 1 ≤ y) (h2 : ys.sum = n) : Lot (sortI ys).reverse n where
  pos := fun y m => h1 y ((sortI_perm ys).mem_iff.mp (List.mem_reverse.mp m))
  desc := List.pairwise_reverse.mpr (sortI_sorted ys)
  sum := by rw [sum_perm ((List.reverse_perm _).trans (sortI_perm ys)), h2]
theorem lotDrawn_ok {h : HS} {n : Nat} {m : Int} (hd : IsDice h n) (h0 : 0 ≤ m) (h1 : m < 64) : ∃ l h', dLotDrawn [.ref n, .int m] h = .ok (.tup (l.map .int)) h' ∧ IsDice h' n ∧ Lot l m := by
  obtain ⟨ys, s4', h', e, hd', hy, hs⟩ := lot_loop (tot := .int m) 64 m [] .un h hd h0 (by omega) (by simp; omega)
  refine ⟨_, h', ?_, hd', lot_sorted hy hs⟩
  have f0 : fits 0 = true := by unfold fits; exact decide_eq_true (Nat.zero_le _)
  have e1 : par2 2 3 (ownM (lstR aN) (valM (nS 1) mN)) [.val (.ref n), .val (.int m), .un, .un, .un] h = .nx [.val (.ref n), .val (.int m), .own (([] : List Int).map .int), .val (.int m), .un] h := by
    simp [ifR, nS, nB, kD, aN, tY, oN, oS, rT, xS, bkS, ctS, noS, rN, frS, mN, shR, mulOk, fnR, seqS, iteS, cmpT, setS, setN, nilS, RS.ofR, Res.bind, Res.nox, res1, res2, toRes, refIxR, rputS, atRef, L2.atI, L2.ixN, getS, getB, consR, callR, biR, addD, mulD, iAdd, iSub, iMul, iDiv, iMod, iPow, iLt, iLe, iGt, iGe, Sw.intD, intG, lenG, par2, ownM, valM, lstR, f0, ownSl]
  have e2 := lotOf_ok (h := h') ys
  simp only [dLotDrawn, bLotDrawn, fnR, List.map_cons, List.map_nil, List.length_cons, List.length_nil, List.replicate, List.cons_append, List.nil_append, seqS] at *
  simp only [e1, e, frS]
  simp [ifR, nS, nB, kD, aN, tY, oN, oS, rT, xS, bkS, ctS, noS, rN, frS, mN, shR, mulOk, fnR, seqS, iteS, cmpT, setS, setN, nilS, RS.ofR, Res.bind, Res.nox, res1, res2, toRes, refIxR, rputS, atRef, L2.atI, L2.ixN, getS, getB, consR, callR, biR, addD, mulD, iAdd, iSub, iMul, iDiv, iMod, iPow, iLt, iLe, iGt, iGe, Sw.intD, intG, lenG, frzT, e2]
theorem fits_of {n : Nat} (h : n ≤ 1000000) : fits n = true := decide_eq_true (Nat.le_trans h (Nat.le_of_lt sl1000000))
theorem rangeD_map : ∀ (n : Nat) (lo : Int), rangeD lo n = (List.range n).map fun i => .int (lo + (i : Nat))
  | 0, lo => rfl
  | n + 1, lo => by
    rw [rangeD, rangeD_map n, List.range_succ_eq_map, List.map_cons, List.map_map]
    congr 1
    · simp
    · refine List.map_congr_left fun i _ => ?_
      simp only [Function.comp]
      congr 1
      omega
theorem lcL_ok {α : Type} {g : GT} {tt : DT} {te : DE} {τ : List Sl} {h : HS} (enc : α → D) (p : α → Bool) (f : α → D) : ∀ (l : List α), (∀ x ∈ l, ∃ τ1, g (enc x) τ = some τ1 ∧ tt τ1 h = .ok (p x) h ∧ (p x = true → te τ1 h = .ok (f x) h)) →
    lcL g tt te τ (l.map enc) h = .ok ((l.filter p).map f) h
  | [], _ => rfl
  | x :: l, H => by
    obtain ⟨τ1, e1, e2, e3⟩ := H x List.mem_cons_self
    have ih := lcL_ok enc p f l fun y m => H y (List.mem_cons_of_mem _ m)
    rw [List.map_cons, lcL, e1]
    simp only [e2, Res.nox, Res.bind]
    by_cases hp : p x = true
    · rw [if_pos hp, e3 hp, List.filter_cons_of_pos hp]
      simp only [ih, Res.nox, Res.bind, List.map_cons]
    · rw [if_neg hp, ih, List.filter_cons_of_neg hp]
/-- .. every item taken -/
theorem lcL_all {α : Type} {g : GT} {te : DE} {τ : List Sl} {h : HS} (enc : α → D) (f : α → D) (l : List α) (H : ∀ x ∈ l, ∃ τ1, g (enc x) τ = some τ1 ∧ te τ1 h = .ok (f x) h) :
    lcL g (fun _ h => .ok true h) te τ (l.map enc) h = .ok (l.map f) h := by
  have := lcL_ok (tt := fun _ h => .ok true h) (τ := τ) (h := h) (g := g) (te := te) enc (fun _ => true) f l fun x m => by
    obtain ⟨τ1, e1, e2⟩ := H x m
    exact ⟨τ1, e1, rfl, fun _ => e2⟩
  rw [this, List.filter_eq_self.mpr fun _ _ => rfl]
theorem lcL2_all {α β : Type} {g g1 : GT} {it1 : DA} {vs1 : List Nat} {te : DE} {τ : List Sl} {h : HS} (enc : α → D) (enc1 : α → β → D) (sub : α → List β) (f : α → β → D) : ∀ (l : List α), (∀ x ∈ l, ∃ τ1, g (enc x) τ = some τ1 ∧ it1 τ1 h = .ok ((sub x).map (enc1 x)) h ∧ ∀ y ∈ sub x, ∃ τ2, g1 (enc1 x y) (wipeT τ1 vs1) = some τ2 ∧ te τ2 h = .ok (f x y) h) →
    lcL2 g (fun _ h => .ok true h) it1 vs1 g1 (fun _ h => .ok true h) te τ (l.map enc) h = .ok (l.flatMap fun x => (sub x).map (f x)) h
  | [], _ => rfl
  | x :: l, H => by
    obtain ⟨τ1, e1, e2, e3⟩ := H x List.mem_cons_self
    have ih := lcL2_all enc enc1 sub f l fun y m => H y (List.mem_cons_of_mem _ m)
    rw [List.map_cons, lcL2_cons, e1]
    simp only [Res.nox, Res.bind, if_true, e2]
    rw [lcL_all (enc1 x) (f x) (sub x) e3]
    simp only [ih, Res.nox, Res.bind, List.flatMap_cons]
/-- a loop: each turn leads on -/
theorem forS_inv {α : Type} {g : GT} {b : DS} (enc : α → D) (I : List α → List Sl → HS → Prop) : ∀ (l done : List α) (τ : List Sl) (h : HS), I done τ h →
    (∀ done x τ h, I done τ h → x ∈ l → ∃ τ1 τ2 h2, g (enc x) τ = some τ1 ∧ b τ1 h = .nx τ2 h2 ∧ I (done ++ [x]) τ2 h2) → ∃ τ2 h2, forS g b (l.map enc) τ h = .nx τ2 h2 ∧ I (done ++ l) τ2 h2
  | [], done, τ, h, i, _ => ⟨τ, h, rfl, by rw [List.append_nil]; exact i⟩
  | x :: l, done, τ, h, i, H => by
    obtain ⟨τ1, τ2, h2, e1, e2, i2⟩ := H done x τ h i List.mem_cons_self
    obtain ⟨τ3, h3, e3, i3⟩ := forS_inv enc I l (done ++ [x]) τ2 h2 i2 fun d y τ h i m => H d y τ h i (List.mem_cons_of_mem _ m)
    refine ⟨τ3, h3, ?_, by rw [List.append_cons]; exact i3⟩
    rw [List.map_cons, forS, e1]
    simp only [e2, e3]
theorem mulOk_l {i j : Int} (h1 : -(2 ^ 64) < i) (h2 : i < 2 ^ 64) : mulOk i j = true := by unfold mulOk; rw [decide_eq_true h1, decide_eq_true h2]; rfl
theorem mulOk_r {i j : Int} (h1 : -(2 ^ 64) < j) (h2 : j < 2 ^ 64) : mulOk i j = true := by unfold mulOk; rw [decide_eq_true h1, decide_eq_true h2]; simp
theorem dice_ok {h : HS} {ns : List Int} {i : Nat} : ∃ L c, dDice [.frl (ns.map .int), .int (i : Nat)] h = .ok (.ref h.length) (h ++ [[.int L, .int c, .int 0]]) := by
  obtain ⟨z, c1⟩ : ∃ z, ifR (cmpT iLt (nS 1) (biR lenG (consR (nS 0) aN))) (biR intG (consR (res2 atD (nS 0) (nS 1)) aN)) (res2 addD (res2 mulD (kD (.int 73)) (nS 1)) (kD (.int 41))) [.val (.frl (ns.map .int)), .val (.int (i : Nat)), .un, .un] h = .ok (.int z) h := by
    by_cases hi : i < ns.length
    · exact ⟨ns[i], by simp [ifR, nS, nB, kD, aN, tY, oN, oS, rT, xS, bkS, ctS, noS, rN, frS, mN, shR, mulOk, fnR, seqS, iteS, cmpT, setS, setN, nilS, RS.ofR, Res.bind, Res.nox, res1, res2, toRes, refIxR, rputS, atRef, L2.atI, L2.ixN, getS, getB, consR, callR, biR, addD, mulD, iAdd, iSub, iMul, iDiv, iMod, iPow, iLt, iLe, iGt, iGe, Sw.intD, intG, lenG, atD, hi]⟩
    · exact ⟨73 * i + 41, by simp [ifR, nS, nB, kD, aN, tY, oN, oS, rT, xS, bkS, ctS, noS, rN, frS, mN, shR, mulOk, fnR, seqS, iteS, cmpT, setS, setN, nilS, RS.ofR, Res.bind, Res.nox, res1, res2, toRes, refIxR, rputS, atRef, L2.atI, L2.ixN, getS, getB, consR, callR, biR, addD, mulD, iAdd, iSub, iMul, iDiv, iMod, iPow, iLt, iLe, iGt, iGe, Sw.intD, intG, lenG, atD, hi]⟩
  have p1 : ((10 : Int) ^ (17 : Nat)) = 100000000000000000 := by decide +kernel
  have p2 : ((10 : Int) ^ (57 : Nat)) = 1000000000000000000000000000000000000000000000000000000000 := by decide +kernel
  have p3 : ((10 : Int) ^ (60 : Nat)) = 1000000000000000000000000000000000000000000000000000000000000 := by decide +kernel
  have m1 : mulOk 1000000000000000000000000000000000000000000000000000000000 1000000000000000000000000000000000000000000000000000000000000 = true := by decide +kernel
  have m2 : ∀ j, mulOk 73 j = true := fun j => mulOk_l (by decide) (by decide)
  have m3 : ∀ j, mulOk 977 j = true := fun j => mulOk_l (by decide) (by decide)
  have m4 : ∀ j, mulOk 47 j = true := fun j => mulOk_l (by decide) (by decide)
  have m5 : ∀ j, mulOk j 59 = true := fun j => mulOk_r (by decide) (by decide)
  have f3 : fits 3 = true := fits_of (by decide)
  have e0 : powOk 10 17 = true ∧ powOk 10 57 = true ∧ powOk 10 60 = true := by decide +kernel
  refine ⟨(if 100000000000000000 < if z < 0 then -z else z then (if z < 0 then -z else z) - 100000000000000000 else 0 : Int).fmod 1000000000000000000000000000000000000000000000000000000000000000000000000000000000000000000000000000000000000000000000, (((if z < 0 then -z else z).fmod 1152921504606846883 * 59 + 977 * i + 47 * (if z < 0 then 1 else 0)) + 13), ?_⟩
  simp only [dDice, bDice, fnR, seqS, List.map_cons, List.map_nil, List.length_cons, List.length_nil, List.replicate, List.cons_append, List.nil_append, setS, c1]
  simp [nS, kD, aN, rT, shR, RS.ofR, Res.bind, res2, toRes, getS, consR, biR, maxsG, maxG, absG, addD, mulD, iAdd, iSub, iMul, iMod, iPow, iLt, intD, intG, p1, p2, p3, m1, m2, m3, m4, m5, f3, e0, modOk, lstR, sShare]
theorem IsDice.last {h : HS} {L c : Int} : IsDice (h ++ [[.int L, .int c, .int 0]]) h.length := ⟨L, c, 0, by simp⟩
/-! ### data that == can compare -/
def Cmp (n : Nat) (d : D) : Prop := ∃ p, d.py = some p ∧ p.canLay0 = true ∧ p.depth ≤ n
theorem cmp_int (i : Int) : Cmp 0 (.int i) := ⟨_, by rw [D.py], rfl, Nat.le_refl _⟩
theorem cmp_bl (i : Bool) : Cmp 0 (.bl i) := ⟨_, by rw [D.py], rfl, Nat.le_refl _⟩
theorem cmp_non : Cmp 0 .non := ⟨_, by rw [D.py], rfl, Nat.le_refl _⟩
theorem cmp_all {n : Nat} : ∀ {xs : List D}, (∀ x ∈ xs, Cmp n x) → ∃ ps, pyAll xs = some ps ∧ PyData.canLayAll0 ps = true ∧ PyData.depthAll ps ≤ n
  | [], _ => ⟨[], by rw [pyAll], rfl, Nat.zero_le _⟩
  | x :: xs, h => by
    obtain ⟨p, e1, e2, e3⟩ := h x List.mem_cons_self
    obtain ⟨ps, f1, f2, f3⟩ := cmp_all fun y m => h y (List.mem_cons_of_mem _ m)
    refine ⟨p :: ps, by rw [pyAll, e1, f1], ?_, Nat.max_le.mpr ⟨e3, f3⟩⟩
    show (p.canLay0 && PyData.canLayAll0 ps) = true
    rw [e2, f2]; rfl
theorem cmp_tup {n : Nat} {xs : List D} (h : ∀ x ∈ xs, Cmp n x) : Cmp (n + 1) (.tup xs) := by
  obtain ⟨ps, e1, e2, e3⟩ := cmp_all h
  exact ⟨.tuple ps, by rw [D.py, e1]; rfl, e2, Nat.succ_le_succ e3⟩
theorem cmp_lst {n : Nat} {xs : List D} (h : ∀ x ∈ xs, Cmp n x) : Cmp (n + 1) (.lst xs) := by
  obtain ⟨ps, e1, e2, e3⟩ := cmp_all h
  exact ⟨.list ps, by rw [D.py, e1]; rfl, e2, Nat.succ_le_succ e3⟩
theorem cmp_up {n m : Nat} {x : D} (h : Cmp n x) (l : n ≤ m) : Cmp m x := by
  obtain ⟨p, e1, e2, e3⟩ := h
  exact ⟨p, e1, e2, Nat.le_trans e3 l⟩
theorem eqB_same {n : Nat} {x : D} (h : Cmp n x) (l : n ≤ 64) : eqB x x = some true := by
  obtain ⟨p, e1, e2, e3⟩ := h
  have sh : SeqAt.shaped p = true := by unfold SeqAt.shaped; rw [e2, decide_eq_true (Nat.le_trans e3 l)]; rfl
  simp [eqB, e1, sh, SeqAt.eqv_refl p e2]
theorem ne_same {n : Nat} {x : D} (h : Cmp n x) (l : n ≤ 64) : neD x x = some (.bl false) := by simp [neD, eqB_same h l]
theorem eq_same {n : Nat} {x : D} (h : Cmp n x) (l : n ≤ 64) : eqD x x = some (.bl true) := by simp [eqD, eqB_same h l]
theorem cmp_ints (l : List Int) : Cmp 1 (.tup (l.map .int)) := cmp_tup fun x m => by
  obtain ⟨i, _, rfl⟩ := List.mem_map.mp m
  exact cmp_int i
theorem cmp_intsL (l : List Int) : Cmp 1 (.lst (l.map .int)) := cmp_lst fun x m => by
  obtain ⟨i, _, rfl⟩ := List.mem_map.mp m
  exact cmp_int i
theorem py_ints : ∀ l : List Int, pyAll (l.map .int) = some (l.map PyData.int)
  | [] => by rw [List.map_nil, pyAll]; rfl
  | x :: l => by rw [List.map_cons, pyAll, D.py, py_ints l]; rfl
theorem eqv_ints : ∀ a b : List Int, PyData.eqvAll (a.map PyData.int) (b.map PyData.int) = decide (a = b)
  | [], [] => rfl
  | [], _ :: _ => rfl
  | _ :: _, [] => rfl
  | x :: a, y :: b => by
    rw [List.map_cons, List.map_cons, PyData.eqvAll, eqv_ints a b, PyData.eqv]
    by_cases h : x = y <;> simp [h]
theorem eqB_int (i j : Int) : eqB (.int i) (.int j) = some (decide (i = j)) := by
  have sh : ∀ i, SeqAt.shaped (.int i) = true := fun i => rfl
  simp [eqB, D.py, sh, PyData.eqv]
  by_cases h : i = j <;> simp [h]
theorem eqB_ints (a b : List Int) : eqB (.tup (a.map .int)) (.tup (b.map .int)) = some (decide (a = b)) := by
  have sh : ∀ l : List Int, SeqAt.shaped (.tuple (l.map PyData.int)) = true := fun l => by
    obtain ⟨p, e1, e2, e3⟩ := cmp_ints l
    rw [D.py, py_ints] at e1
    cases e1
    unfold SeqAt.shaped
    rw [e2, decide_eq_true (Nat.le_trans e3 (by decide))]; rfl
  simp only [eqB, D.py, py_ints, Option.map_some, sh, Bool.and_self, if_true]
  rw [show PyData.eqv (.tuple (a.map PyData.int)) (.tuple (b.map PyData.int)) = PyData.eqvAll _ _ from rfl, eqv_ints]
theorem pureF_ok {φ : DF} {ds : List D} {d : D} {h : HS} (hn : noRefs ds = true) (r : φ ds [] = .ok d []) : pureF φ ds h = .ok d h := by
  unfold pureF
  rw [if_pos hn, r]
  rfl
/-- a loop: each turn leads on, the turn's place known -/
theorem forS_at {α : Type} {g : GT} {b : DS} (enc : α → D) (all : List α) (I : List α → List Sl → HS → Prop) (H : ∀ done x r τ h, all = done ++ x :: r → I done τ h → ∃ τ1 τ2 h2, g (enc x) τ = some τ1 ∧ b τ1 h = .nx τ2 h2 ∧ I (done ++ [x]) τ2 h2) :
    ∀ (l done : List α) (τ : List Sl) (h : HS), all = done ++ l → I done τ h → ∃ τ2 h2, forS g b (l.map enc) τ h = .nx τ2 h2 ∧ I all τ2 h2
  | [], done, τ, h, e, i => ⟨τ, h, rfl, by rw [e, List.append_nil]; exact i⟩
  | x :: l, done, τ, h, e, i => by
    obtain ⟨τ1, τ2, h2, e1, e2, i2⟩ := H done x l τ h e i
    obtain ⟨τ3, h3, e3, i3⟩ := forS_at enc all I H l (done ++ [x]) τ2 h2 (by rw [e, List.append_assoc]; rfl) i2
    refine ⟨τ3, h3, ?_, i3⟩
    rw [List.map_cons, forS, e1]
    simp only [e2, e3]
end Sw

/-! Sw, part O: a, b, c = x, y, z; sorted(.., reverse=True). -/
namespace Sw
open PySem PySem.Spec PyProof.Rows L2
variable [Tbs]
section
variable {C : Cn} {a b c : Expr} {x y z : Str} {i j k : Nat} {px py pz pt pt2 pos : Pos} {kt k2 : Nat} {fs : List Sl → HS → Res (List Sl)}
/-- what the other slots hold, some of them set -/
theorem own_ne {K : PySem.W.Frag} {W0 W : Wd} {τ : List Sl} {σ : L2.St} (f : Frm K W0 W τ σ) {i j' : Nat} {s x' : Sl} {v w : V} (hij : j' = i → x'.isOwn = true → s = x' → w ≠ v) (hold : ∀ x' : Sl, x'.isOwn = true → τ[j']? = some x' → σ[j']? ≠ some (some w))
    (e' : (τ.set i s)[j']? = some x') (o' : x'.isOwn = true) (q : (σ.set i (some v))[j']? = some (some w)) : False := by
  by_cases hi : i = j'
  · subst hi
    by_cases hl : i < τ.length
    · rw [List.getElem?_set_self hl] at e'
      cases e'
      rw [List.getElem?_set_self (by rw [← f.len]; exact hl)] at q
      cases q
      exact hij rfl o' rfl rfl
    · rw [List.getElem?_eq_none (by simpa using hl)] at e'; cases e'
  · rw [List.getElem?_set_ne hi] at e' q
    exact hold x' o' e' q
theorem den_par3 (hi : C.N[i]? = some x) (hj : C.N[j]? = some y) (hk : C.N[k]? = some z) (hij : i ≠ j) (hik : i ≠ k) (hjk : j ≠ k) (hx : C.sc.names.lookup x = some .local) (hy : C.sc.names.lookup y = some .local) (hz : C.sc.names.lookup z = some .local) (ha : DenM C [a, b, c] fs)
    (hw : ∀ env, env.scope = C.sc → swappedStores [.Tuple [.Name x px, .Name y py, .Name z pz] kt pt] (.Tuple [a, b, c] k2 pt2) env = pure (some [x, y, z]))
    (hs : ∀ env, swapsWithSole [.Tuple [.Name x px, .Name y py, .Name z pz] kt pt] (.Tuple [a, b, c] k2 pt2) pos.line env = pure false) :
    DenS C (.Assign [.Tuple [.Name x px, .Name y py, .Name z pz] kt pt] (.Tuple [a, b, c] k2 pt2) pos) (par3 i j k fs) := fun X E ok => by
  obtain ⟨t, p, q⟩ := ha X E ok
  refine ⟨_, ps_par3 ok.calm ok.nd (by rw [ok.names]; exact hi) (by rw [ok.names]; exact hj) (by rw [ok.names]; exact hk) hij hik hjk (by rw [ok.scope]; exact hx) (by rw [ok.scope]; exact hy) (by rw [ok.scope]; exact hz) p (hw _ ok.scope) (hs _), fun W0 W τ σ h D l fr rh o => ?_⟩
  refine q W0 W τ σ h _ l fr rh (okS.ex l o fun ss s1 W1 vs l1 rh1 n o1 => ?_)
  match ss with
  | [] => exact o1.elim
  | [_] => exact o1.elim
  | [_, _] => exact o1.elim
  | _ :: _ :: _ :: _ :: _ => exact o1.elim
  | [s, t, m] =>
    obtain ⟨v, r1, rfl, n1, n', d⟩ := n
    obtain ⟨u, r2, rfl, n2, n'', d2⟩ := n'
    obtain ⟨w, r3, rfl, n3, e3, _⟩ := n''
    cases (show r3 = [] from e3)
    refine ⟨v, u, w, rfl, ?_⟩
    have f0 := fr.mono l1
    have f1 : Frm C.g.K W0 W1 (τ.set i s) (σ.set i (some v)) := f0.setG i (n1.at_ l rh) fun ho j' x' _ e' o' z => by
      obtain ⟨a, rfl, na⟩ := n1.no ho
      exact SlAt.there (fr.at_ j' x' e') o' z na
    have f2 : Frm C.g.K W0 W1 ((τ.set i s).set j t) ((σ.set i (some v)).set j (some u)) := f1.setG j (n2.at_ l rh) fun ho j' x' hj' e' o' z => by
      obtain ⟨a, rfl, na⟩ := n2.no ho
      refine own_ne f0 (fun _ o2 es => ?_) (fun x2 o2 e2 z2 => SlAt.there (fr.at_ j' x2 e2) o2 z2 na) e' o' z
      subst es
      exact fun e => d o2 0 t rfl ho (by rw [← e]; rfl)
    refine o1 W1 _ (l.trans l1) (.refl _) (f2.setG k (n3.at_ l rh) fun ho j' x' hk' e' o' z => ?_) rh1
    obtain ⟨a, rfl, na⟩ := n3.no ho
    refine own_ne f1 (fun _ o2 es => ?_) (fun x2 o2 e2 z2 => own_ne f0 (fun _ o3 es => ?_) (fun x3 o3 e3 z3 => SlAt.there (fr.at_ j' x3 e3) o3 z3 na) e2 o2 z2) e' o' z
    · subst es
      exact fun e => d2 o2 0 m rfl ho (by rw [← e]; rfl)
    · subst es
      exact fun e => d o3 1 m rfl ho (by rw [← e]; rfl)
end
/-! ### sorted(xs, reverse=True) of ints -/
section
variable {C : Cn} {x : Str} {a : Expr} {fa : DE} {p pos kp kq : Pos} {j : Nat}
def sortRR (f : DE) : DE := fun τ h => (f τ h).bind fun d h1 => match d with
  | .lst xs => match intsD xs with
    | some is => .ok (.lst ((sortI is).reverse.map .int)) h1
    | none => .bad
  | _ => .bad
theorem ge_unique {l m : List Int} (h : l.Perm m) (hl : l.Pairwise (· ≥ ·)) (hm : m.Pairwise (· ≥ ·)) : l = m := by
  have := sorted_unique ((List.reverse_perm l).trans (h.trans (List.reverse_perm m).symm)) (List.pairwise_reverse.mpr hl) (List.pairwise_reverse.mpr hm)
  exact List.reverse_inj.mp this
theorem den_sortRev (hg : glB C.sc x = true) (hm : C.g.mg x = none) (hv : bootBuiltins x = some (.builtin "sorted")) (ha : DenB C a fa)
    (h1 : ∀ env, backTo pos (starEach [a] env) = (false, eval a env) :: backTo pos (starEach [] env)) (h2 : ∀ env, (backTo pos (starEach [a] env)).any (·.1) = false)
    (h3 : ∀ env, (backToKw pos (keywordEach [⟨some (Str.ofString "reverse"), .Constant (.bool true) j kq, kp⟩] env)).all (·.1.isSome) = true) (h4 : ∀ env, (backToKw pos (keywordEach [⟨some (Str.ofString "reverse"), .Constant (.bool true) j kq, kp⟩] env)).any (·.1.isNone) = false)
    (h5 : ∀ env, (backToKw pos (keywordEach [⟨some (Str.ofString "reverse"), .Constant (.bool true) j kq, kp⟩] env)).filterMap (·.1) = [Str.ofString "reverse"]) (h6 : ∀ env, starEach [a] env = (false, eval a env) :: starEach [] env) :
    DenN C (.Call (.Name x p) [a] [⟨some (Str.ofString "reverse"), .Constant (.bool true) j kq, kp⟩] pos) (sortRR fa) := fun X E ok => by
  obtain ⟨t, pa, q⟩ := ha X E ok
  obtain ⟨g1, g2, g3⟩ := glB_ok ok hg
  refine ⟨_, pe_callBK (cr_sortedRev (b := true)) g1 (by rw [ok.mg]; exact hm) hv (pa_cons pa pa_nil (h6 _)) (pk_cons pe_bl pk_nil) g3 g2 (h1 _) (h2 _) (h3 _) (h4 _) (h5 _), fun W0 W τ σ h Q l fr rh o => ?_⟩
  refine q W0 W τ σ h _ l fr rh (okG.bind o fun d s1 W1 v l1 rh1 b1 o1 => ?_)
  cases d with
  | lst xs =>
    obtain ⟨b, us, rfl, sq, r⟩ := b1.lst
    have o1 : okG C.g.K C.g.mg (NewR C.g.K W) W1 (fun c dd H => E c dd σ H) Q (match intsD xs with | some is => Res.ok (.lst ((sortI is).reverse.map .int)) s1 | none => .bad) := o1
    cases e : intsD xs with
    | none => rw [e] at o1; exact o1.elim
    | some is =>
      rw [e] at o1
      rw [ints_reps r e] at sq
      refine ⟨b, is, rfl, rfl, .inl (.inl sq), fun ns np hp hs hn => ?_⟩
      have hs' : ns.Pairwise (· ≥ ·) := hs
      have := ge_unique (hp.trans ((List.reverse_perm _).trans (sortI_perm is)).symm) hs' (List.pairwise_reverse.mpr (sortI_sorted is))
      subst this
      obtain ⟨l2, rh2, n⟩ := new_lst hn rh1 (reps_ints _)
      exact o1 _ _ l2 rh2 (n.of l1 rh1)
  | _ => exact o1.elim
end
end Sw

/-! Sw, part P: sorted of lists of data. -/
namespace Sw
open PySem PySem.Spec PyProof.Rows L2
variable [Tbs]
open PySem.W (dataLe AllAlike Sortable EachIs)
section
variable {X : Cx}
def rSortD (K : PySem.W.Frag) : List V → Hp → VK → Prop := fun vs H Q => ∃ (a : Addr) (us : List V) (ds : List PyData), vs = [V.ref a] ∧ SqL K H a us ∧ DpAll K H us ds ∧ AllAlike ds ∧ Sortable ds ∧ (∀ d ∈ ds, d.depth ≤ 60) ∧
  ∀ p, H p = none → Q (.ref p) (upd H p (.lst (((us.zip ds).mergeSort (dataLe false (·.2))).map (·.1))))
theorem each_rel : ∀ {us : List V} {its : List Value} {ds : List PyData}, Vals us its → us.length = ds.length → EachIs (fun u (b : V × PyData) => RelV b.1 u) its (us.zip ds)
  | [], _, [], .nil, _ => .nil
  | u :: us, _, d :: ds, .cons r t, h => .cons r (each_rel t (by simpa using h))
theorem dp_len {K : PySem.W.Frag} {H : Hp} : ∀ {us : List V} {ds : List PyData}, DpAll K H us ds → us.length = ds.length
  | _, _, .nil => rfl
  | _, _, .cons _ t => by rw [List.length_cons, List.length_cons, dp_len t]
theorem each_reads {pins : List (Addr × Obj)} {σ : L2.St} {H : Hp} {s : Shared} (I : Inv X pins σ H s) : ∀ {us : List V} {its : List Value} {ds : List PyData}, Vals us its → DpAll X.K H us ds → EachIs (fun v (b : V × PyData) => ∃ as, Reads s.heap v b.2 as) its (us.zip ds)
  | _, _, _, .nil, .nil => .nil
  | _, _, _, .cons r t, .cons h k => .cons (Dp.reads I _ _ _ h r) (each_reads I t k)
theorem vals_each : ∀ {out : List Value} {bs : List (V × PyData)}, EachIs (fun u (b : V × PyData) => RelV b.1 u) out bs → Vals (bs.map (·.1)) out
  | _, _, .nil => .nil
  | _, _, .cons r t => .cons r (vals_each t)
theorem zip_snd {α β : Type} : ∀ {a : List α} {b : List β}, a.length = b.length → (a.zip b).map (·.2) = b
  | [], [], _ => rfl
  | x :: a, y :: b, h => by rw [List.zip_cons_cons, List.map_cons, zip_snd (by simpa using h)]
theorem cr_sortD (hu : X.A.units + 64 < cLine) : CallR X (.builtin "sorted") (rSortD X.K) := by
  intro pins s σ H vs us' Q I r h
  obtain ⟨a, us, ds, rfl, hs, hd, hal, hsb, hdep, q⟩ := h
  obtain ⟨its, rv, hl, hz⟩ := I.list hs
  rw [Vals.ref1 r]
  have hlen := dp_len hd
  have zs := zip_snd hlen
  refine PySem.W.sorted_data (bs := us.zip ds) (enc := (·.2)) (R := fun u (b : V × PyData) => RelV b.1 u) hl.isList (each_rel rv hlen) (each_reads I rv hd) (by rw [zs]; exact hal) (by rw [zs]; exact hsb) (by rw [List.length_zip, ← hlen, Nat.min_self]; exact hz) (fun b hb => ?_) fun out ho eo => ?_
  · have := hdep b.2 (by rw [← zs]; exact List.mem_map_of_mem hb)
    omega
  · obtain ⟨ep, he⟩ := PyProof.Rows.sortedAll_at s.heap its out.toArray
    have vo := vals_each eo
    have fit : (((us.zip ds).mergeSort (dataLe false (·.2))).map (·.1)).length ≤ sizeLine := by
      rw [vo.length, ho, List.length_zip, ← hlen, Nat.min_self]; exact hz
    refine ⟨.ref _, _, I.laid (o := .lst (((us.zip ds).mergeSort (dataLe false (·.2))).map (·.1))) (t' := s.toks) (fun _ _ => PyProof.Rows.sortedAll_old) (Nat.le_succ _) ⟨fit, out, ep, vo, he⟩, rfl, q _ (I.hok.fresh (Nat.le_succ _))⟩
end
/-! ### the same by putting in -/
def insB {α : Type} (le : α → α → Bool) (x : α) : List α → List α
  | [] => [x]
  | y :: r => if le x y then x :: y :: r else y :: insB le x r
def sortB {α : Type} (le : α → α → Bool) : List α → List α
  | [] => []
  | x :: r => insB le x (sortB le r)
theorem insB_at {α : Type} {le : α → α → Bool} {x : α} : ∀ {l1 l2 : List α}, (∀ b ∈ l1, (!le x b) = true) → (∀ b, l2.head? = some b → le x b = true) → insB le x (l1 ++ l2) = l1 ++ x :: l2
  | [], [], _, _ => rfl
  | [], y :: r, _, h => by
    show (if le x y then x :: y :: r else y :: insB le x r) = _
    rw [if_pos (h y rfl)]; rfl
  | y :: l1, l2, h1, h2 => by
    have hy := h1 y List.mem_cons_self
    show (if le x y then x :: y :: (l1 ++ l2) else y :: insB le x (l1 ++ l2)) = _
    rw [if_neg (by simpa using hy), insB_at (fun b m => h1 b (List.mem_cons_of_mem _ m)) h2]
    rfl
theorem mergeSort_eq {α : Type} {le : α → α → Bool} (tr : ∀ a b c : α, le a b → le b c → le a c) (to : ∀ a b : α, le a b || le b a) : ∀ l : List α, l.mergeSort le = sortB le l
  | [] => by simp [sortB]
  | x :: l => by
    obtain ⟨l1, l2, e1, e2, h⟩ := List.mergeSort_cons tr to x l
    have ps : (l1 ++ x :: l2).Pairwise fun a b => le a b = true := by rw [← e1]; exact List.pairwise_mergeSort tr to _
    rw [e1, sortB, ← mergeSort_eq tr to l, e2, insB_at h fun b hb => ?_]
    have := (List.pairwise_append.mp ps).2.1
    cases l2 with
    | nil => cases hb
    | cons y r => cases hb; exact (List.pairwise_cons.mp this).1 _ List.mem_cons_self
abbrev lePy {α : Type} : α × PyData → α × PyData → Bool := dataLe false (·.2)
theorem lePy_eq {α : Type} (l : List (α × PyData)) : l.mergeSort lePy = sortB lePy l :=
  mergeSort_eq (fun a b c => (PySem.W.sortLe_total _ _ _).trans a b c) (fun a b => by rw [Bool.or_eq_true]; exact (PySem.W.sortLe_total _ _ _).total a b) l
/-- the same data stand for the same order -/
inductive SameZ (K : PySem.W.Frag) (W : Wd) : List (D × PyData) → List (V × PyData) → Prop
  | nil : SameZ K W [] []
  | cons {x : D} {v : V} {d : PyData} {a : List (D × PyData)} {b : List (V × PyData)} : Rep K W x v → SameZ K W a b → SameZ K W ((x, d) :: a) ((v, d) :: b)
theorem SameZ.ins {K : PySem.W.Frag} {W : Wd} {x : D} {v : V} {d : PyData} (h : Rep K W x v) : ∀ {a : List (D × PyData)} {b : List (V × PyData)}, SameZ K W a b → SameZ K W (insB lePy (x, d) a) (insB lePy (v, d) b)
  | _, _, .nil => .cons h .nil
  | _, _, .cons (x := y) (v := u) (d := e) (a := a) (b := b) r t => by
    show SameZ K W (if lePy (x, d) (y, e) then (x, d) :: (y, e) :: a else (y, e) :: insB lePy (x, d) a) (if lePy (v, d) (u, e) then (v, d) :: (u, e) :: b else (u, e) :: insB lePy (v, d) b)
    have q : (lePy (x, d) (y, e)) = lePy (v, d) (u, e) := rfl
    rw [q]
    by_cases c : lePy (v, d) (u, e) = true
    · rw [if_pos c, if_pos c]; exact .cons h (.cons r t)
    · rw [if_neg c, if_neg c]; exact .cons r (t.ins h)
theorem SameZ.sort {K : PySem.W.Frag} {W : Wd} : ∀ {a : List (D × PyData)} {b : List (V × PyData)}, SameZ K W a b → SameZ K W (sortB lePy a) (sortB lePy b)
  | _, _, .nil => .nil
  | _, _, .cons h t => (t.sort).ins h
theorem SameZ.reps {K : PySem.W.Frag} {W : Wd} : ∀ {a : List (D × PyData)} {b : List (V × PyData)}, SameZ K W a b → Reps K W (a.map (·.1)) (b.map (·.1))
  | _, _, .nil => .nil
  | _, _, .cons h t => .cons h t.reps
theorem SameZ.of {K : PySem.W.Frag} {W : Wd} : ∀ {xs : List D} {vs : List V} {ds : List PyData}, Reps K W xs vs → xs.length = ds.length → SameZ K W (xs.zip ds) (vs.zip ds)
  | [], vs, [], h, _ => by rw [Reps] at h; subst h; exact .nil
  | x :: xs, vs, d :: ds, h, e => by
    rw [Reps] at h
    obtain ⟨v, r, rfl, h1, h2⟩ := h
    exact .cons h1 (SameZ.of h2 (by simpa using e))
theorem pyAll_len : ∀ {xs : List D} {ds : List PyData}, pyAll xs = some ds → xs.length = ds.length
  | [], ds, h => by rw [pyAll] at h; cases h; rfl
  | x :: xs, ds, h => by
    rw [pyAll] at h
    split at h
    · split at h
      · rename_i e
        cases h
        rw [List.length_cons, List.length_cons, pyAll_len e]
      · cases h
    · cases h
def tupNe : PyData → Bool
  | .tuple (_ :: _) => true
  | _ => false
def flatK : PyData → Bool
  | .none => false
  | .tuple _ => false
  | _ => true
/-- these data can be sorted -/
def sortOk (ds : List PyData) : Bool := (ds.all fun d => ds.all fun e => PySem.W.alike d e) && ((ds.all tupNe || ds.all flatK) && ds.all fun d => decide (d.depth ≤ 60))
theorem sortOk_ok {ds : List PyData} (h : sortOk ds = true) : AllAlike ds ∧ Sortable ds ∧ ∀ d ∈ ds, d.depth ≤ 60 := by
  unfold sortOk at h
  simp only [Bool.and_eq_true, Bool.or_eq_true, List.all_eq_true, decide_eq_true_eq] at h
  obtain ⟨h1, h2, h3⟩ := h
  refine ⟨fun d m e m' => h1 d m e m', ?_, h3⟩
  rcases h2 with h2 | h2
  · refine .inl fun d m => ?_
    have := h2 d m
    unfold tupNe at this
    split at this
    · exact ⟨_, _, rfl⟩
    · cases this
  · refine .inr fun d m => ?_
    have := h2 d m
    unfold flatK at this
    split at this
    · cases this
    · cases this
    · rename_i a b
      exact ⟨fun z => a z, fun xs z => b xs z⟩
def sortDG : List D → Option D
  | [.lst xs] => match pyAll xs with
    | some ds => if sortOk ds then some (.lst ((sortB lePy (xs.zip ds)).map (·.1))) else none
    | none => none
  | _ => none
section
variable {C : Cn}
theorem cn_sortD : CalN C (.builtin "sorted") sortDG := fun X E ok => ⟨_, cr_sortD ok.room.units, fun W h ds vs d Q rh b e k => by
  unfold sortDG at e
  split at e
  · obtain ⟨v, rfl, b1⟩ := BorsAll.one b
    obtain ⟨a, us, rfl, sq, r⟩ := b1.lst
    split at e
    · rename_i ps ep
      split at e
      · rename_i hok
        cases e
        obtain ⟨h1, h2, h3⟩ := sortOk_ok hok
        refine ⟨a, us, ps, rfl, .of sq, by rw [ok.K]; exact Reps.dp _ us ps r ep, h1, h2, h3, fun p np => ?_⟩
        have z := (SameZ.of r (pyAll_len ep)).sort.reps
        rw [← lePy_eq (us.zip ps)] at z
        obtain ⟨l, rh', n⟩ := new_lst np rh z
        exact k _ _ l rh' n
      · cases e
    · cases e
  · cases e⟩
end
section
variable {X : Cx}
/-- a list of at most one item -/
def rSort1 (K : PySem.W.Frag) : List V → Hp → VK → Prop := fun vs H Q => ∃ (a : Addr) (us : List V), vs = [V.ref a] ∧ SqL K H a us ∧ us.length ≤ 1 ∧ ∀ p, H p = none → Q (.ref p) (upd H p (.lst us))
theorem perm_one {α : Type} {a b : List α} (h : a.Perm b) (hb : b.length ≤ 1) : a = b := by
  match b, hb with
  | [], _ => exact List.Perm.eq_nil h
  | [x], _ => exact List.perm_singleton.mp h
theorem cr_sort1 : CallR X (.builtin "sorted") (rSort1 X.K) := by
  intro pins s σ H vs us' Q I r h
  obtain ⟨a, us, rfl, hs, h1, q⟩ := h
  obtain ⟨its, rv, hl, hz⟩ := I.list hs
  rw [Vals.ref1 r]
  have e0 := rv.length
  refine SrtO.sorted_ord SrtO.swo_int hl.isList (by rw [← e0]; exact hz) (fun h2 _ _ _ _ => by omega) fun out _ hb => ?_
  have e1 : out = its := perm_one hb.perm (by omega)
  subst e1
  obtain ⟨ep, he⟩ := PyProof.Rows.sortedAll_at s.heap out out.toArray
  exact ⟨.ref _, _, I.laid (o := .lst us) (t' := s.toks) (fun _ _ => PyProof.Rows.sortedAll_old) (Nat.le_succ _) ⟨hz, out, ep, rv, he⟩, rfl, q _ (I.hok.fresh (Nat.le_succ _))⟩
end
section
variable {C : Cn}
def sort1G : List D → Option D
  | [.lst xs] => if xs.length ≤ 1 then some (.lst xs) else none
  | _ => none
theorem cn_sort1 : CalN C (.builtin "sorted") sort1G := fun X E ok => ⟨_, cr_sort1, fun W h ds vs d Q rh b e k => by
  unfold sort1G at e
  split at e
  · obtain ⟨v, rfl, b1⟩ := BorsAll.one b
    obtain ⟨a, us, rfl, sq, r⟩ := b1.lst
    split at e
    · rename_i h1
      cases e
      refine ⟨a, us, rfl, .of sq, by rw [← r.length]; exact h1, fun p np => ?_⟩
      obtain ⟨l, rh', n⟩ := new_lst np rh r
      exact k _ _ l rh' n
    · cases e
  · cases e⟩
abbrev sortsD : List D → Option D := fun x => (sortsG x).or ((sortDG x).or (sort1G x))
theorem cn_sortsD : CalN C (.builtin "sorted") sortsD := cn_sorts.or (cn_sortD.or cn_sort1)
end
end Sw

/-! Sw, part Q: lots: columns, squares. -/
namespace Sw
theorem lotLe : ∀ {l : List Int} {n : Int}, (∀ y ∈ l, 1 ≤ y) → l.sum = n → (∀ y ∈ l, y ≤ n) ∧ (l.length : Int) ≤ n
  | [], n, _, h => ⟨(fun y m => by cases m), by simp at h; simp; omega⟩
  | x :: l, n, hp, h => by
    obtain ⟨h1, h2⟩ := lotLe (l := l) (fun y m => hp y (List.mem_cons_of_mem _ m)) rfl
    have hx := hp x List.mem_cons_self
    rw [List.sum_cons] at h
    refine ⟨fun y m => ?_, by rw [List.length_cons]; omega⟩
    rcases List.mem_cons.mp m with rfl | m
    · omega
    · have := h1 y m
      omega
/-- the columns of a lot -/
def conj (l : List Int) : List Int := (List.range (l.headD 0).toNat).map fun c : Nat => ((l.filter fun x => decide ((c : Int) < x)).length : Int)
/-- the squares, row by row -/
def sqs (k : Nat) : List Int → List (Nat × Nat)
  | [] => []
  | x :: l => ((List.range x.toNat).map fun c => (k, c)) ++ sqs (k + 1) l
theorem sqs_mem : ∀ {l : List Int} {k : Nat} {p : Nat × Nat}, p ∈ sqs k l ↔ ∃ (i : Nat) (x : Int), p.1 = k + i ∧ l[i]? = some x ∧ (p.2 : Int) < x
  | [], k, p => by simp [sqs]
  | x :: l, k, p => by
    rw [sqs, List.mem_append, sqs_mem (l := l)]
    constructor
    · rintro (h | ⟨i, y, h1, h2, h3⟩)
      · obtain ⟨c, hc, rfl⟩ := List.mem_map.mp h
        have := List.mem_range.mp hc
        exact ⟨0, x, rfl, rfl, by show (c : Int) < x; omega⟩
      · exact ⟨i + 1, y, by omega, by simpa using h2, h3⟩
    · rintro ⟨i, y, h1, h2, h3⟩
      cases i with
      | zero =>
        simp at h2
        subst h2
        refine .inl (List.mem_map.mpr ⟨p.2, List.mem_range.mpr (by omega), ?_⟩)
        obtain ⟨a, b⟩ := p
        simp at h1 ⊢
        exact h1.symm
      | succ i => exact .inr ⟨i, y, by omega, by simpa using h2, h3⟩
theorem sqs_nodup : ∀ (l : List Int) (k : Nat), (sqs k l).Nodup
  | [], k => List.nodup_nil
  | x :: l, k => by
    rw [sqs, List.nodup_append]
    refine ⟨?_, sqs_nodup l (k + 1), fun a ha b hb e => ?_⟩
    · refine List.Pairwise.map _ ?_ List.nodup_range
      intro a b h e
      exact h (by simpa using e)
    · obtain ⟨c, _, rfl⟩ := List.mem_map.mp ha
      obtain ⟨i, y, h1, _⟩ := sqs_mem.mp hb
      subst e
      simp at h1
      omega
theorem sqs_sum : ∀ {l : List Int} {k : Nat}, (∀ y ∈ l, 0 ≤ y) → ((sqs k l).length : Int) = l.sum
  | [], k, _ => rfl
  | x :: l, k, h => by
    have ih := sqs_sum (l := l) (k := k + 1) fun y m => h y (List.mem_cons_of_mem _ m)
    have hx := h x List.mem_cons_self
    rw [sqs, List.length_append, List.length_map, List.length_range, List.sum_cons]
    omega
/-- in a list that does not ascend the greater ones stand first -/
theorem count_lt : ∀ {l : List Int} (c : Int) (i : Nat), l.Pairwise (· ≥ ·) → (i < (l.filter fun x => decide (c < x)).length ↔ ∃ x, l[i]? = some x ∧ c < x)
  | [], c, i, _ => by simp
  | y :: l, c, i, h => by
    have hl := (List.pairwise_cons.mp h).2
    have hy := (List.pairwise_cons.mp h).1
    by_cases hc : c < y
    · rw [List.filter_cons_of_pos (by simpa using hc), List.length_cons]
      cases i with
      | zero => simp [hc]
      | succ i =>
        rw [Nat.add_lt_add_iff_right, count_lt c i hl]
        simp
    · rw [List.filter_cons_of_neg (by simpa using hc)]
      have z : (l.filter fun x => decide (c < x)) = [] := List.filter_eq_nil_iff.mpr fun x m => by
        have := hy x m
        simp
        omega
      rw [z]
      constructor
      · intro q; simp at q
      · rintro ⟨x, h1, h2⟩
        cases i with
        | zero => simp at h1; omega
        | succ i =>
          have := hy x (List.mem_of_getElem? (by simpa using h1))
          omega
theorem conj_get (l : List Int) (j : Nat) : (conj l)[j]? = if j < (l.headD 0).toNat then some (((l.filter fun x => decide ((j : Int) < x)).length : Int)) else none := by
  unfold conj
  rw [List.getElem?_map]
  by_cases h : j < (l.headD 0).toNat
  · rw [List.getElem?_range h, if_pos h]; rfl
  · rw [List.getElem?_eq_none (by simpa using h), if_neg h]; rfl
theorem conj_mem {l : List Int} (hd : l.Pairwise (· ≥ ·)) (i j : Nat) : (j, i) ∈ sqs 0 (conj l) ↔ (i, j) ∈ sqs 0 l := by
  rw [sqs_mem, sqs_mem]
  constructor
  · rintro ⟨a, x, h1, h2, h3⟩
    simp only [Nat.zero_add] at h1
    subst h1
    rw [conj_get] at h2
    split at h2
    · cases h2
      have : i < (l.filter fun x => decide ((j : Int) < x)).length := by simpa using h3
      obtain ⟨x, h4, h5⟩ := (count_lt (j : Int) i hd).mp this
      exact ⟨i, x, by simp, h4, h5⟩
    · cases h2
  · rintro ⟨a, x, h1, h2, h3⟩
    simp only [Nat.zero_add] at h1
    subst h1
    refine ⟨j, ((l.filter fun x => decide ((j : Int) < x)).length : Int), by simp, ?_, ?_⟩
    · rw [conj_get, if_pos]
      cases l with
      | nil => simp at h2
      | cons y r =>
        have : x ≤ y := by
          rcases List.mem_cons.mp (List.mem_of_getElem? h2) with rfl | m
          · exact Int.le_refl _
          · exact (List.pairwise_cons.mp hd).1 x m
        have h3' : (j : Int) < x := h3
        show j < y.toNat
        omega
    · have := (count_lt (j : Int) i hd).mpr ⟨x, h2, h3⟩
      show (i : Int) < _
      omega
theorem perm_of_nodup {α : Type} [BEq α] [LawfulBEq α] {a b : List α} (ha : a.Nodup) (hb : b.Nodup) (h : ∀ x, x ∈ a ↔ x ∈ b) : a.Perm b := by
  rw [List.perm_iff_count]
  intro x
  by_cases hx : x ∈ a
  · rw [List.Nodup.count ha, List.Nodup.count hb, if_pos hx, if_pos ((h x).mp hx)]
  · rw [List.count_eq_zero_of_not_mem hx, List.count_eq_zero_of_not_mem fun m => hx ((h x).mpr m)]
/-- the columns' squares: the squares turned -/
theorem conj_perm {l : List Int} (hd : l.Pairwise (· ≥ ·)) : (sqs 0 (conj l)).Perm ((sqs 0 l).map fun p => (p.2, p.1)) := by
  refine perm_of_nodup (sqs_nodup _ _) ?_ fun p => ?_
  · refine List.Pairwise.map _ ?_ (sqs_nodup l 0)
    intro a b h e
    apply h
    obtain ⟨a1, a2⟩ := a
    obtain ⟨b1, b2⟩ := b
    simp at e
    simp [e]
  · obtain ⟨j, i⟩ := p
    rw [conj_mem hd, List.mem_map]
    constructor
    · intro h; exact ⟨(i, j), h, rfl⟩
    · rintro ⟨⟨a, b⟩, h, e⟩
      simp at e
      rw [← e.1, ← e.2]
      exact h
theorem Lot.conj {l : List Int} {n : Int} (h : Lot l n) : Lot (conj l) n where
  pos := fun y m => by
    obtain ⟨j, hj⟩ := List.getElem?_of_mem m
    rw [conj_get] at hj
    split at hj
    · rename_i hlt
      cases hj
      have : 0 < (l.filter fun x => decide ((j : Int) < x)).length := by
        rw [count_lt (j : Int) 0 h.desc]
        cases l with
        | nil => simp at hlt
        | cons y r => exact ⟨y, rfl, by simp at hlt; omega⟩
      omega
    · cases hj
  desc := by
    rw [List.pairwise_iff_getElem]
    intro i j hi hj hij
    have e1 := conj_get l i
    have e2 := conj_get l j
    rw [List.getElem?_eq_getElem hi] at e1
    rw [List.getElem?_eq_getElem hj] at e2
    split at e1
    · split at e2
      · have e1' := Option.some.inj e1
        have e2' := Option.some.inj e2
        rw [e1', e2']
        have := List.countP_mono_left (l := l) (p := fun x => decide ((j : Int) < x)) (q := fun x => decide ((i : Int) < x)) fun x _ q => by
          simp only [decide_eq_true_eq] at q ⊢
          omega
        rw [List.countP_eq_length_filter, List.countP_eq_length_filter] at this
        omega
      · cases e2
    · cases e1
  sum := by
    have p : ∀ y ∈ l, 0 ≤ y := fun y m => by have := h.pos y m; omega
    rw [← sqs_sum (k := 0) fun y m => ?_, (conj_perm h.desc).length_eq, List.length_map, sqs_sum p, h.sum]
    obtain ⟨j, hj⟩ := List.getElem?_of_mem m
    rw [conj_get] at hj
    split at hj
    · cases hj; omega
    · cases hj
end Sw

/-! Sw, part R: list(range(..)), tuple(range(..)). -/
namespace Sw
open PySem PySem.Spec PyProof.Rows L2
variable [Tbs]
abbrev DR := List Sl → HS → Res (Int × Int)
def DenR (C : Cn) (e : Expr) (f : DR) : Prop := ∀ X E, CxOk C X E → ∃ t, PRg X e t ∧ ∀ W0 W τ σ h (Q : Int → Int → Hp → Prop), Le W0 W → Frm C.g.K W0 W τ σ → RH C.g.K W h →
  okG C.g.K C.g.mg (fun _ (a b : Int × Int) => a = b) W (fun c dd H => E c dd σ H) (fun p H => Q p.1 p.2 H) (f τ h) → t σ W.H Q
def rg1 (a : DE) : DR := fun τ h => (a τ h).bind fun d h1 => match d with | .int n => .ok (0, n) h1 | _ => .bad
def rg2 (a b : DE) : DR := fun τ h => (a τ h).bind fun x h1 => (b τ h1).bind fun y h2 => match x, y with | .int i, .int j => .ok (i, j) h2 | _, _ => .bad
def rgOk (a b : Int) : Bool := decide (-(2 ^ 62) ≤ a) && (decide (a < 2 ^ 62) && (decide (-(2 ^ 62) ≤ b) && (decide (b < 2 ^ 62) && decide ((b - a).toNat ≤ 2 ^ 24))))
def rgInts (a b : Int) : List Int := (List.range (b - a).toNat).map fun i : Nat => a + (i : Int)
def lstRg (f : DR) : DE := fun τ h => (f τ h).bind fun p h1 => if rgOk p.1 p.2 then .ok (.lst ((rgInts p.1 p.2).map .int)) h1 else .bad
def tupRg (f : DR) : DE := fun τ h => (f τ h).bind fun p h1 => if rgOk p.1 p.2 then .ok (.tup ((rgInts p.1 p.2).map .int)) h1 else .bad
theorem rgOk_ok {a b : Int} (h : rgOk a b = true) : RgOk a b := by
  unfold rgOk at h
  simp only [Bool.and_eq_true, decide_eq_true_eq] at h
  exact ⟨h.1, h.2.1, h.2.2.1, h.2.2.2.1, h.2.2.2.2⟩
theorem rgV_ints (a b : Int) : rgV a b = (rgInts a b).map V.int := by
  unfold rgV rgInts
  rw [List.map_map]; rfl
section
variable {C : Cn} {a b e : Expr} {fa fb : DE} {fr : DR} {p pos : Pos}
theorem den_rg1 (hg : glB C.sc "range" = true) (hm : C.g.mg "range" = none) (ha : DenB C a fa) (na : ∀ env, starEach [a] env = (false, eval a env) :: starEach [] env) : DenR C (.Call (.Name "range" p) [a] [] pos) (rg1 fa) := fun X E ok => by
  obtain ⟨t, pa, q⟩ := ha X E ok
  obtain ⟨g1, _, _⟩ := glB_ok ok hg
  refine ⟨_, prg_1 g1 (by rw [ok.mg]; exact hm) pa (na _), fun W0 W τ σ h Q l fr rh o => ?_⟩
  refine q W0 W τ σ h _ l fr rh (okG.bind o fun d h1 W1 v l1 rh1 b1 o1 => ?_)
  cases d with
  | int n =>
    rw [b1.int]
    exact ⟨n, rfl, o1 W1 (0, n) (.refl _) rh1 rfl⟩
  | _ => exact o1.elim
theorem den_rg2 (hg : glB C.sc "range" = true) (hm : C.g.mg "range" = none) (ha : DenB C a fa) (hb : DenB C b fb) (na : ∀ env, starEach [a, b] env = (false, eval a env) :: starEach [b] env) (nb : ∀ env, starEach [b] env = (false, eval b env) :: starEach [] env)
    (hp : ∀ env, (backTo pos (starEach [b] env)).any (·.1) = false) : DenR C (.Call (.Name "range" p) [a, b] [] pos) (rg2 fa fb) := fun X E ok => by
  obtain ⟨t, pa, q⟩ := ha X E ok
  obtain ⟨t', pb, q'⟩ := hb X E ok
  obtain ⟨g1, _, _⟩ := glB_ok ok hg
  refine ⟨_, prg_2 g1 (by rw [ok.mg]; exact hm) pa pb (na _) (nb _) (hp _), fun W0 W τ σ h Q l fr rh o => ?_⟩
  refine q W0 W τ σ h _ l fr rh (okG.bind o fun x h1 W1 v l1 rh1 b1 o1 => ?_)
  refine q' W0 W1 τ σ h1 _ (l.trans l1) (fr.mono l1) rh1 (okG.bind o1 fun y h2 W2 u l2 rh2 b2 o2 => ?_)
  cases x with
  | int i =>
    cases y with
    | int j =>
      rw [b1.int, b2.int]
      exact ⟨i, j, rfl, rfl, o2 W2 (i, j) (.refl _) rh2 rfl⟩
    | _ => exact o2.elim
  | _ => exact o2.elim
theorem den_lstRg (hg : glB C.sc "list" = true) (hm : C.g.mg "list" = none) (he : DenR C e fr) (na : ∀ env, starEach [e] env = (false, eval e env) :: starEach [] env) : DenN C (.Call (.Name "list" p) [e] [] pos) (lstRg fr) := fun X E ok => by
  obtain ⟨t, pe, q⟩ := he X E ok
  obtain ⟨g1, _, _⟩ := glB_ok ok hg
  refine ⟨_, pe_listRg ok.calm g1 (by rw [ok.mg]; exact hm) pe (na _), fun W0 W τ σ h Q l fr' rh o => ?_⟩
  refine q W0 W τ σ h _ l fr' rh (okG.bind o fun pr h1 W1 pr' l1 rh1 b1 o1 => ?_)
  subst b1
  obtain ⟨i, j⟩ := pr
  by_cases hr : rgOk i j = true
  · have o1 : okG C.g.K C.g.mg (NewR C.g.K W) W1 (fun c dd H => E c dd σ H) Q (if rgOk i j then .ok (.lst ((rgInts i j).map .int)) h1 else .bad) := o1
    rw [if_pos hr] at o1
    refine ⟨rgOk_ok hr, fun np hn => ?_⟩
    obtain ⟨l2, rh2, n⟩ := new_lst hn rh1 (reps_ints (rgInts i j))
    have := o1 _ _ l2 rh2 (n.of l1 rh1)
    rw [← rgV_ints] at this
    exact this
  · have o1 : okG C.g.K C.g.mg (NewR C.g.K W) W1 (fun c dd H => E c dd σ H) Q (if rgOk i j then .ok (.lst ((rgInts i j).map .int)) h1 else .bad) := o1
    rw [if_neg hr] at o1
    exact o1.elim
theorem den_tupRg (hg : glB C.sc "tuple" = true) (hm : C.g.mg "tuple" = none) (he : DenR C e fr) (na : ∀ env, starEach [e] env = (false, eval e env) :: starEach [] env) : DenE C (.Call (.Name "tuple" p) [e] [] pos) (tupRg fr) := fun X E ok => by
  obtain ⟨t, pe, q⟩ := he X E ok
  obtain ⟨g1, _, _⟩ := glB_ok ok hg
  refine ⟨_, pe_tupRg ok.calm g1 (by rw [ok.mg]; exact hm) pe (na _), fun W0 W τ σ h Q l fr' rh o => ?_⟩
  refine q W0 W τ σ h _ l fr' rh (okG.bind o fun pr h1 W1 pr' l1 rh1 b1 o1 => ?_)
  subst b1
  obtain ⟨i, j⟩ := pr
  by_cases hr : rgOk i j = true
  · have o1 : okG C.g.K C.g.mg (Rep C.g.K) W1 (fun c dd H => E c dd σ H) Q (if rgOk i j then .ok (.tup ((rgInts i j).map .int)) h1 else .bad) := o1
    rw [if_pos hr] at o1
    refine ⟨rgOk_ok hr, fun np hn => ?_⟩
    obtain ⟨W2, e2, l2, rh2, r2⟩ := new_tup hn rh1 (reps_ints (rgInts i j))
    have := o1 W2 _ l2 rh2 r2
    rw [e2, ← rgV_ints] at this
    exact this
  · have o1 : okG C.g.K C.g.mg (Rep C.g.K) W1 (fun c dd H => E c dd σ H) Q (if rgOk i j then .ok (.tup ((rgInts i j).map .int)) h1 else .bad) := o1
    rw [if_neg hr] at o1
    exact o1.elim
end
end Sw

/-! Sw, part S: chains of three comparisons; x.append(y.pop(e)); t[::-1] of a tuple; [x] * n made. -/
namespace Sw
namespace TR
open PySem PySem.Spec PyProof.Rows HT
section
variable {prog : Program} {w : World} {A : Around} {E : Value → Shared → Prop} {s : Shared}
theorem adj_back (n : Nat) : Builtin.Slice.sliceAdjust none none (-1) (n : Int) = ((n : Int) - 1, -1) := by
  unfold Builtin.Slice.sliceAdjust
  simp
theorem places_back (n : Nat) : Builtin.Slice.slicePlaces ((n : Int) - 1) (-1) (-1) = n := by
  unfold Builtin.Slice.slicePlaces
  rw [if_neg (by decide)]
  split
  · have e : ((n : Int) - 1 - -1 - 1) / (- -1) = (n : Int) - 1 := by
      rw [show (- -1 : Int) = 1 by decide, Int.ediv_one]; omega
    rw [e]; omega
  · omega
theorem fm_congr {α β : Type} {f g : α → Option β} : ∀ {l : List α}, (∀ x ∈ l, f x = g x) → l.filterMap f = l.filterMap g
  | [], _ => rfl
  | x :: l, h => by rw [List.filterMap_cons, List.filterMap_cons, h x List.mem_cons_self, fm_congr fun y m => h y (List.mem_cons_of_mem _ m)]
theorem pick_back (xs : Array Value) : ((List.range xs.size).filterMap fun (m : Nat) => xs[((xs.size : Int) - 1 + (m : Int) * (-1)).toNat]?).toArray = xs.toList.reverse.toArray := by
  congr 1
  have e : (List.range xs.size).filterMap (fun (m : Nat) => xs[((xs.size : Int) - 1 + (m : Int) * (-1)).toNat]?) = ((List.range xs.size).map fun k => xs.size - 1 - k).filterMap (xs[·]?) := by
    rw [List.filterMap_map]
    refine fm_congr fun m hm => ?_
    have := List.mem_range.mp hm
    have q : ((xs.size : Int) - 1 + (m : Int) * (-1)).toNat = xs.size - 1 - m := by omega
    show xs[((xs.size : Int) - 1 + (m : Int) * (-1)).toNat]? = xs[xs.size - 1 - m]?
    rw [q]
  rw [e, PySem.W.krv_range, List.filterMap_reverse, PySem.W.krv_all]
theorem applied_back {ix : Addr} {pv : Value} {n : Nat} {Q : Int × Int × Nat → Shared → Prop} (hi : s.heap.IsSliceOf ix .none .none pv) (pp : IsPart pv (some (-1))) (h : Q ((n : Int) - 1, -1, n) s) :
    wpAny (model prog w) A (Builtin.Slice.sliceApplied (.ref ix) (pure (n : Int))) Q E s := by
  obtain ⟨ob, e1, e2, e3⟩ := id hi
  unfold Builtin.Slice.sliceApplied Builtin.Slice.sliceFields
  refine wpAny_bind (wpAny_bind (wpAny_field e1 e3 (x := .none) rfl (wpAny_bind (wpAny_field e1 e3 (x := .none) rfl (wpAny_bind (wpAny_field e1 e3 (x := pv) rfl (wpAny_pure ?_)))))))
  refine wpAny_bind (HT.slicePart_ pp ?_)
  show wpAny _ _ (if ((-1 : Int) == 0) = true then _ else _) _ _ s
  rw [if_neg (by decide)]
  refine wpAny_bind (slicePart_none (wpAny_bind (slicePart_none (wpAny_bind (wpAny_pure ?_)))))
  show wpAny _ _ (match Builtin.Slice.sliceAdjust none none (-1) (n : Int) with | (a, b) => pure (a, (-1 : Int), Builtin.Slice.slicePlaces a b (-1))) _ _ s
  rw [adj_back n]
  show wpAny _ _ (pure ((n : Int) - 1, (-1 : Int), Builtin.Slice.slicePlaces ((n : Int) - 1) (-1) (-1))) _ _ s
  rw [places_back]
  exact wpAny_pure h
theorem item_back {t ix : Addr} {xs : Array Value} {pv : Value} {Q : Value → Shared → Prop} (ht : IsTup s.heap t xs) (hi : s.heap.IsSliceOf ix .none .none pv) (pp : IsPart pv (some (-1)))
    (h : Q (.ref s.heap.objs.size) { s with heap := s.heap.push { cls := .type "tuple", data := .seq xs.toList.reverse.toArray } }) (hz : xs.size ≤ sizeLine) : wpAny (model prog w) A (getItem (.ref t) (.ref ix)) Q E s := by
  have big : sizeOk (.seq xs.toList.reverse.toArray) := by
    show xs.toList.reverse.toArray.size ≤ sizeLine
    rw [List.size_toArray, List.length_reverse, Array.length_toList]
    exact hz
  obtain ⟨ob, e1, e2, e3⟩ := id hi
  have ty : s.TypeIs (.ref ix) "slice" := ⟨ob, e1, e2⟩
  unfold getItem
  try with_reducible refine wpAny_holding ?_
  first | refine wpAny_bind (wpAny_pure ?_) | skip
  refine wpAny_bind (wpAny_sequenceKey ht.typeIs (by decide) ?_)
  refine wpAny_bind (wpAny_callSpecial?_slot (name := Str.ofString "__getitem__") ht.typeIs PyProof.Rows.slot_tuple_getitem (wpAny_call_entry PyProof.Rows.slot_tuple_getitem ht.typeIs entry_tuple_getitem ?_ (args_tuple_getitem _ _)))
  show wpAny _ _ (Builtin.Tuple.tupleItemsOf (.ref t) >>= _) _ _ s
  refine wpAny_bind (tupleItemsOf_ ht (wpAny_bind (wpAny_typeOf ty ?_)))
  rw [if_pos (by decide)]
  refine wpAny_bind (applied_back hi pp ?_)
  have no : ¬ ((((xs.size : Int) - 1) == 0 && (-1 : Int) == 1 && xs.size == xs.size) = true) := by
    rw [show ((-1 : Int) == 1) = false by decide, Bool.and_false, Bool.false_and]
    exact Bool.false_ne_true
  show wpAny _ _ (if (((xs.size : Int) - 1) == 0 && (-1 : Int) == 1 && xs.size == xs.size) = true then _ else _) _ _ s
  rw [if_neg no, pick_back]
  first
    | exact wpAny_bind (m := Builtin.Tuple.tupleExact _) (wpAny_newObj_type (wpAny_pure ⟨_, rfl, wpAny_pure h⟩) big)
    | exact wpAny_bind (m := Builtin.Tuple.tupleExact _) (wpAny_newObj_type (wpAny_bind (wpAny_pure (wpAny_pure ⟨_, rfl, wpAny_pure h⟩))) big)
    | exact wpAny_bind (wpAny_bind (m := Builtin.Tuple.tupleExact _) (wpAny_newObj_type (wpAny_pure (wpAny_pure ⟨_, rfl, wpAny_pure h⟩)) big))
    | exact wpAny_bind (wpAny_bind (m := Builtin.Tuple.tupleExact _) (wpAny_newObj_type (wpAny_pure ⟨_, rfl, wpAny_pure h⟩) big))
end
open L2
def tRevT (K : PySem.W.Frag) (te : TE) : TE := fun σ H Q => te σ H fun x H1 => ∃ a xs, x = .ref a ∧ SqT K H1 a xs ∧ ∀ p, H1 p = none → Q (.ref p) (upd H1 p (.tup xs.reverse))
theorem pe_revT {X : Cx} {e : Expr} {te : TE} {k : Nat} {p1 p2 p3 pos : Pos} (he : PE X e te) : PE X (.Subscript e (.Slice none none (some (.UnaryOp .USub (.Constant (.int 1) k p1) p2)) p3) pos) (tRevT X.K te) := by
  refine ⟨fun pins s σ H Q I h => Subscript_ (thn (he.run pins s σ H _ I h) fun v s1 ⟨x, H1, I1, r1, a, xs, ex, hx, q⟩ => ?_)⟩
  subst ex; cases r1
  have st : PO X (some (.UnaryOp .USub (.Constant (.int 1) k p1) p2)) (tPart (tUn (rU fun i => .int (-i)) (tC (.int 1)))) := po_some (pe_un un_neg pe_int)
  refine wpAny_Slice (thn (po_none.run pins s1 σ H1 (fun o H2 => o = none ∧ H2 = H1) I1 ⟨rfl, rfl⟩) fun va s2 ⟨o1, H2, I2, p1', o1e, h2e⟩ => ?_)
  subst o1e h2e
  refine thn (po_none.run pins s2 σ H2 (fun o H3 => o = none ∧ H3 = H2) I2 ⟨rfl, rfl⟩) fun vb s3 ⟨o2, H3, I3, p2', o2e, h3e⟩ => ?_
  subst o2e h3e
  refine thn (st.run pins s3 σ H3 (fun o H4 => o = some (-1) ∧ H4 = H3) I3 ⟨1, rfl, -1, rfl, rfl, rfl⟩) fun vc s4 ⟨o3, H4, I4, p3', o3e, h4e⟩ => ?_
  subst o3e h4e
  cases p1'
  cases p2'
  have I5 : Inv X pins σ H4 { s4 with heap := s4.heap.push { cls := .type "slice", data := .fields #[.none, .none, vc] } } := I4.kept (t' := s4.toks) fun b ob q => Heap.get?_push_of_some _ q
  obtain ⟨its, r, ht, hz⟩ := I5.tuple hx
  have hlen := r.length
  show wpAny (model X.prog X.w) X.A (subscriptTail e (.Slice none none (some (.UnaryOp .USub (.Constant (.int 1) k p1) p2)) p3) (.ref a) (.ref s4.heap.objs.size)) (EP X pins σ Q) X.xe { s4 with heap := s4.heap.push { cls := .type "slice", data := .fields #[.none, .none, vc] } }
  refine tail_any (ops := [.ref a, .ref s4.heap.objs.size]) ht.typeIs PyProof.Rows.slot_tuple_getitem.lookup ?_ (by with_unfolding_all rfl)
  refine item_back ht (Heap.IsSliceOf.new _ .none .none vc) p3' ?_ (by rw [List.size_toArray]; omega)
  refine ⟨.ref _, _, I5.laid (t' := s4.toks) (o := .tup xs.reverse) (fun b ob q => Heap.get?_push_of_some _ q) (Nat.le_refl _) ?_, rfl, q _ (I5.hok.fresh (Nat.le_refl _))⟩
  exact ⟨by rw [List.length_reverse]; exact hz, _, r.reverse, IsTup.new _ _⟩
end TR
open PySem PySem.Spec PyProof.Rows L2
variable [Tbs]
/-- t[::-1] of a tuple -/
def revTR (a : DE) : DE := fun τ h => (a τ h).bind fun d h1 => match d with
  | .tup xs => .ok (.tup xs.reverse) h1
  | _ => .bad
theorem den_revT {C : Cn} {e : Expr} {fe : DE} {k : Nat} {p1 p2 p3 pos : Pos} (he : DenB C e fe) : DenE C (.Subscript e (.Slice none none (some (.UnaryOp .USub (.Constant (.int 1) k p1) p2)) p3) pos) (revTR fe) := fun X E ok => by
  obtain ⟨t, p, q⟩ := he X E ok
  refine ⟨_, TR.pe_revT p, fun W0 W τ σ h Q l fr rh o => ?_⟩
  refine q W0 W τ σ h _ l fr rh (okG.bind o fun d h1 W1 v l1 rh1 b1 o1 => ?_)
  cases d with
  | tup xs =>
    obtain ⟨a, vs, rfl, e1, r1, q1⟩ := b1.tup
    rw [← ok.K] at e1
    refine ⟨a, vs, rfl, e1, fun p np => ?_⟩
    obtain ⟨W2, eH, l2, rh', nn⟩ := new_tup np rh1 r1.reverse
    have := o1 W2 _ l2 rh' nn
    rw [eH] at this
    exact this
  | _ => exact o1.elim
/-- [x, ..] * n, made -/
theorem den_binN {C : Cn} {op : Operator} {g : D → D → Option D} {a b : Expr} {fa fb : DE} {pos : Pos} (ho : OpN C (binaryOp op) g) (ha : DenB C a fa) (hb : DenB C b fb) : DenN C (.BinOp a op b pos) (res2 g fa fb) := fun X E ok => by
  obtain ⟨r, hr, qr⟩ := ho X E ok
  obtain ⟨ta, pa, qa⟩ := ha X E ok
  obtain ⟨tb, pb, qb⟩ := hb X E ok
  refine ⟨_, pe_op hr pa pb, fun W0 W τ σ h Q l fr rh o => ?_⟩
  refine qa W0 W τ σ h _ l fr rh (okG.bind o fun x h1 W1 v l1 rh1 b1 o1 => ?_)
  refine qb W0 W1 τ σ h1 _ (l.trans l1) (fr.mono l1) rh1 (okG.bind o1 fun y h2 W2 u l2 rh2 b2 o2 => ?_)
  cases e : g x y with
  | none => rw [e] at o2; exact (show False from o2).elim
  | some d =>
    rw [e] at o2
    exact qr W W2 h2 x y v u d Q (l1.trans l2) rh2 (b1.mono l2) b2 e fun W' b l3 rh3 n => o2 W' b l3 rh3 n
theorem den_repN {C : Cn} {a b : Expr} {fa fb : DE} {pos : Pos} (ha : DenB C a fa) (hb : DenB C b fb) : DenN C (.BinOp a .Mult b pos) (res2 repL fa fb) := den_binN on_repL ha hb
theorem den_catN {C : Cn} {a b : Expr} {fa fb : DE} {pos : Pos} (ha : DenB C a fa) (hb : DenB C b fb) : DenN C (.BinOp a .Add b pos) (res2 catL fa fb) := den_binN on_catL ha hb
section
variable {X : Cx} {a b c d : Expr} {ta tb tc td : TE} {pos : Pos}
def tCh3 (r r' r2 : R2) (ta tb tc td : TE) : TE := fun σ H Q => ta σ H fun x H1 => tb σ H1 fun y H2 => r x y H2 fun z H3 => ∃ k, z = .bl k ∧
  (if k = true then tc σ H3 fun u H4 => r' y u H4 fun z' H5 => ∃ k', z' = .bl k' ∧ (if k' = true then td σ H5 fun w H6 => r2 u w H6 Q else Q (.bl false) H5) else Q (.bl false) H3)
theorem pe_ch3 {op op' op2 : CmpOp} {r r' r2 : R2} (o0 : OpR X (compareOp op) r) (o1 : OpR X (compareOp op') r') (o2 : OpR X (compareOp op2) r2) (ha : PE X a ta) (hb : PE X b tb) (hc : PE X c tc) (hd : PE X d td)
    (hm : lastMarks [op, op', op2] [b, c, d] = false) : PE X (.Compare a [op, op', op2] [b, c, d] pos) (tCh3 r r' r2 ta tb tc td) := by
  refine ⟨fun pins s σ H Q I h => ?_⟩
  refine Compare_chain (thn (ha.run pins s σ H _ I h) fun va s1 ⟨x, H1, I1, ra, qa⟩ => chain_link (thn (hb.run pins s1 σ H1 _ I1 qa) fun vb s2 ⟨y, H2, I2, rb, qb⟩ =>
    thn (o0 pins s2 σ H2 x y va vb _ I2 ra rb qb) fun vk s3 ⟨z, H3, I3, rk, k, ek, qk⟩ => ?_)) hm
  subst ek; cases rk
  refine wpAny_truthy_bool ?_
  cases k with
  | false => exact ite_ff ⟨.bl false, H3, I3, rfl, qk⟩
  | true =>
    refine ite_tt (chain_link (thn (hc.run pins s3 σ H3 _ I3 qk) fun vc s4 ⟨u, H4, I4, rc, qc⟩ => thn (o1 pins s4 σ H4 y u vb vc _ I4 rb rc qc) fun vj s5 ⟨z', H5, I5, rj, j, ej, qj⟩ => ?_))
    subst ej; cases rj
    refine wpAny_truthy_bool ?_
    cases j with
    | false => exact ite_ff ⟨.bl false, H5, I5, rfl, qj⟩
    | true => exact ite_tt (chain_last (thn (hd.run pins s5 σ H5 _ I5 qj) fun vd s6 ⟨w, H6, I6, rd, qd⟩ => o2 pins s6 σ H6 u w vc vd Q I6 rc rd qd))
end
/-- (a, b, ..) = a list -/
def gL (r : List D → List Sl → Option (List Sl)) : GT
  | .lst ds, τ => r ds τ
  | _, _ => none
theorem den_glst {C : Cn} {ts : List Expr} {is : List Nat} {r : List D → List Sl → Option (List Sl)} {n k : Nat} {pos : Pos} (h : DenGs C ts is r) (hn : ∀ env, (assignEach ts env).length = n) (hst : ∀ env, (assignEach ts env).findIdx? (·.1) = none)
    (hl : ∀ ds τ τ', r ds τ = some τ' → ds.length = n) : DenGt C (.Tuple ts k pos) is (gL r) := fun X E ok => by
  obtain ⟨t, p, q⟩ := h X E ok
  refine ⟨_, pg_unl ok.calm p (hn _) (hst _), fun W0 W τ σ d v τ' Q fr rp e k => ?_⟩
  cases d with
  | lst ds =>
    obtain ⟨a, vs, rfl, t, r1⟩ := rp.lstAt
    exact ⟨a, vs, rfl, t.sq, by rw [← r1.length]; exact hl _ _ _ e, q W0 W τ σ ds vs τ' _ fr r1 e k⟩
  | _ => cases e
section
variable {C : Cn} {a b c d e : Expr} {fa fb fc fd fe : DE} {x y : Str} {i j : Nat} {p1 p2 apos apos2 cpos cpos2 pos : Pos}
def chR3 (g g' g2 : D → D → Option D) (a b c d : DE) : DE := fun τ h => (a τ h).bind fun x h1 => (b τ h1).bind fun y h2 => match g x y with
  | some (.bl true) => (c τ h2).bind fun z h3 => match g' y z with
    | some (.bl true) => (d τ h3).bind fun w h4 => toRes (g2 z w) h4
    | some (.bl false) => .ok (.bl false) h3
    | _ => .bad
  | some (.bl false) => .ok (.bl false) h2
  | _ => .bad
theorem den_chain3 {op op' op2 : CmpOp} {g g' g2 : D → D → Option D} (ho : OpD C (compareOp op) g) (ho' : OpD C (compareOp op') g') (ho2 : OpD C (compareOp op2) g2) (ha : DenB C a fa) (hb : DenB C b fb) (hc : DenB C c fc) (hd : DenB C d fd)
    (hm : lastMarks [op, op', op2] [b, c, d] = false) : DenE C (.Compare a [op, op', op2] [b, c, d] pos) (chR3 g g' g2 fa fb fc fd) := fun X E ok => by
  obtain ⟨r, hr, qr⟩ := ho X E ok
  obtain ⟨r', hr', qr'⟩ := ho' X E ok
  obtain ⟨r2, hr2, qr2⟩ := ho2 X E ok
  obtain ⟨ta, pa, qa⟩ := ha X E ok
  obtain ⟨tb, pb, qb⟩ := hb X E ok
  obtain ⟨tc, pc, qc⟩ := hc X E ok
  obtain ⟨td, pd, qd⟩ := hd X E ok
  refine ⟨_, pe_ch3 hr hr' hr2 pa pb pc pd hm, fun W0 W τ σ h Q l fr rh o => ?_⟩
  refine qa W0 W τ σ h _ l fr rh (okG.bind o fun x h1 W1 v l1 rh1 b1 o1 => ?_)
  refine qb W0 W1 τ σ h1 _ (l.trans l1) (fr.mono l1) rh1 (okG.bind o1 fun y h2 W2 u l2 rh2 b2 o2 => ?_)
  cases e : g x y with
  | none => rw [e] at o2; exact (show False from o2).elim
  | some dk =>
    rw [e] at o2
    cases dk with
    | bl k =>
      refine qr W2 h2 x y v u _ _ rh2 (b1.mono l2) b2 e fun W3 z l3 rh3 r3 => ?_
      rw [Rep] at r3
      refine ⟨k, r3, ?_⟩
      have o3 := okG.mono l3 o2
      cases k with
      | false => exact iteF (okG.now o3 rh3 rep_bl)
      | true =>
        have L3 := (l.trans l1).trans (l2.trans l3)
        refine iteT (qc W0 W3 τ σ h2 _ L3 ((fr.mono l1).mono (l2.trans l3)) rh3 (okG.bind o3 fun z h4 W4 w l4 rh4 b4 o4 => ?_))
        cases e' : g' y z with
        | none => rw [e'] at o4; exact (show False from o4).elim
        | some dk' =>
          rw [e'] at o4
          cases dk' with
          | bl k' =>
            refine qr' W4 h4 y z u w _ _ rh4 (b2.mono (l3.trans l4)) b4 e' fun W5 z5 l5 rh5 r5 => ?_
            rw [Rep] at r5
            refine ⟨k', r5, ?_⟩
            have o5 := okG.mono l5 o4
            cases k' with
            | false => exact iteF (okG.now o5 rh5 rep_bl)
            | true =>
              refine iteT (qd W0 W5 τ σ h4 _ (L3.trans (l4.trans l5)) (((fr.mono l1).mono (l2.trans l3)).mono (l4.trans l5)) rh5 (okG.bind o5 fun w6 h6 W6 v6 l6 rh6 b6 o6 => ?_))
              obtain ⟨d6, e6, k6⟩ := toRes_some o6
              exact qr2 W6 h6 z w6 w v6 d6 Q rh6 (b4.mono (l5.trans l6)) b6 e6 k6
          | _ => exact (show False from o4).elim
    | _ => exact (show False from o2).elim
def popN (ys : List D) (k : Int) : Option (D × List D) := if decide (-(2 ^ 63) ≤ k) && decide (k < 2 ^ 63) then match seqIndex? k ys.length with
  | some n => match ys[n]? with
    | some y => some (y, ys.eraseIdx n)
    | none => none
  | none => none else none
theorem popN_ok {ys zs : List D} {k : Int} {d : D} (h : popN ys k = some (d, zs)) : -(2 ^ 63) ≤ k ∧ k < 2 ^ 63 ∧ ∃ n, seqIndex? k ys.length = some n ∧ ys[n]? = some d ∧ zs = ys.eraseIdx n := by
  unfold popN at h
  by_cases hk : (decide (-(2 ^ 63) ≤ k) && decide (k < 2 ^ 63)) = true
  · rw [if_pos hk] at h
    simp only [Bool.and_eq_true, decide_eq_true_eq] at hk
    refine ⟨hk.1, hk.2, ?_⟩
    cases e : seqIndex? k ys.length with
    | none => rw [e] at h; cases h
    | some n =>
      rw [e] at h
      refine ⟨n, rfl, ?_⟩
      cases e2 : ys[n]? with
      | none => simp only [e2] at h; cases h
      | some y => simp only [e2] at h; cases h; exact ⟨rfl, rfl⟩
  · rw [if_neg hk] at h; cases h
theorem Reps.eraseIdx {K : PySem.W.Frag} {W : Wd} : ∀ {ds : List D} {vs : List V} (n : Nat), Reps K W ds vs → Reps K W (ds.eraseIdx n) (vs.eraseIdx n)
  | [], vs, n, h => by rw [Reps] at h; subst h; exact h0
  | d :: ds, vs, n, h => by
    rw [Reps] at h
    obtain ⟨v, r, rfl, h1, h2⟩ := h
    cases n with
    | zero => exact h2
    | succ n =>
      rw [List.eraseIdx_cons_succ, List.eraseIdx_cons_succ, Reps]
      exact ⟨v, _, rfl, h1, Reps.eraseIdx n h2⟩
where h0 {K : PySem.W.Frag} {W : Wd} {n : Nat} : Reps K W (([] : List D).eraseIdx n) (([] : List V).eraseIdx n) := by rw [List.eraseIdx_nil, List.eraseIdx_nil, Reps]
theorem Reps.at_ {K : PySem.W.Frag} {W : Wd} : ∀ {ds : List D} {vs : List V} {n : Nat} {d : D}, Reps K W ds vs → ds[n]? = some d → ∃ v, vs[n]? = some v ∧ Rep K W d v
  | [], _, _, _, _, e => by simp at e
  | d :: ds, vs, n, d', h, e => by
    rw [Reps] at h
    obtain ⟨v, r, rfl, h1, h2⟩ := h
    cases n with
    | zero => cases e; exact ⟨v, rfl, h1⟩
    | succ n => exact Reps.at_ (ds := ds) (n := n) h2 (by simpa using e)
/-- x.append(y.pop(e)) -/
def appPopS (i j : Nat) (fe : DE) : DS := fun τ h => match τ[i]?, τ[j]? with
  | some (.own xs), some (.own ys) => RS.ofR (fe τ h) τ fun d h1 => match d with
    | .int k => match popN ys k with
      | some (y, zs) => if decide (xs.length < sizeLine) && decide (j ≠ i) then .nx ((τ.set j (.own zs)).set i (.own (xs ++ [y]))) h1 else .bad
      | none => .bad
    | _ => .bad
  | _, _ => .bad
theorem den_appPop (hn : nmB C.N C.sc x i = true) (hm : nmB C.N C.sc y j = true) (he : DenB C e fe) (hl : (apos.endLine == cpos.line) = true) (hl2 : (apos2.endLine == cpos2.line) = true)
    (hs : ∀ env, starEach [.Call (.Attribute (.Name y p2) "pop" apos2) [e] [] cpos2] env = (false, eval (.Call (.Attribute (.Name y p2) "pop" apos2) [e] [] cpos2) env) :: starEach [] env) (hs2 : ∀ env, starEach [e] env = (false, eval e env) :: starEach [] env) :
    DenS C (.Expr (.Call (.Attribute (.Name x p1) "append" apos) [.Call (.Attribute (.Name y p2) "pop" apos2) [e] [] cpos2] [] cpos) pos) (appPopS i j fe) := fun X E ok => by
  obtain ⟨t, p, q⟩ := he X E ok
  obtain ⟨h1, h2, h3, h4⟩ := nmB_ok hn
  obtain ⟨g1, g2, g3, g4⟩ := nmB_ok hm
  have pp : PE X (.Call (.Attribute (.Name y p2) "pop" apos2) [e] [] cpos2) _ := pe_bm PySem.F.plainAttrs_list PySem.F.slot_list_pop PySem.F.type_list_pop (show MtR X "list.pop" rPopAt from mt_popAt) (pe_var (i := j) (by rw [ok.names]; exact g1) (by rw [ok.scope]; exact g2) g3 g4) (pa_cons p pa_nil (hs2 _)) rfl (by rw [hs2]; rfl) hl2 (hs2 _) rfl
  refine ⟨_, ps_expr (pe_bm PySem.F.plainAttrs_list PySem.F.slot_list_append PySem.F.type_list_append mt_append (pe_var (i := i) (by rw [ok.names]; exact h1) (by rw [ok.scope]; exact h2) h3 h4) (pa_cons pp pa_nil (hs _)) rfl (by
    rw [hs]; rfl) hl (hs _) rfl) rfl, fun W0 W τ σ h D l fr rh o => ?_⟩
  unfold appPopS at o
  cases et : τ[i]? with
  | none => rw [et] at o; exact o.elim
  | some s =>
    cases s with
    | own xs =>
      cases et2 : τ[j]? with
      | none => rw [et, et2] at o; exact o.elim
      | some s2 =>
        cases s2 with
        | own ys =>
          rw [et, et2] at o
          obtain ⟨a, vs, ea, ha, ra, wa⟩ := fr.at_ i _ et
          obtain ⟨b, us, eb, hb, rb, wb⟩ := fr.at_ j _ et2
          refine ⟨_, ea, .inl ⟨rfl, vs, .inl (.inl ha)⟩, ?_⟩
          refine ⟨_, eb, .inl ⟨rfl, us, .inl (.inl hb)⟩, ?_⟩
          refine q W0 W τ σ h _ l fr rh (okS.ex l o fun d s W1 u l1 rh1 r1 o1 => ?_)
          cases d with
          | int k =>
            have o1 : okS C W0 W1 E D (match popN ys k with | some (y, zs) => if decide (xs.length < sizeLine) && decide (j ≠ i) then .nx ((τ.set j (.own zs)).set i (.own (xs ++ [y]))) s else .bad | none => .bad) := o1
            cases ep : popN ys k with
            | none => rw [ep] at o1; exact o1.elim
            | some pr =>
              obtain ⟨y0, zs⟩ := pr
              rw [ep] at o1
              by_cases hz : (decide (xs.length < sizeLine) && decide (j ≠ i)) = true
              · simp only [hz, if_true] at o1
                simp only [Bool.and_eq_true, decide_eq_true_eq] at hz
                obtain ⟨k1, k2, n, e1, e2, e3⟩ := popN_ok ep
                subst e3
                have fr1 := fr.mono l1
                obtain ⟨b', us', eb', hb', rb', wb'⟩ := fr1.at_ j _ et2
                rw [eb] at eb'
                cases eb'
                obtain ⟨w0, hw0, rw0⟩ := rb'.at_ e2
                rw [r1.int]
                refine ⟨b, us', k, n, w0, rfl, rfl, hb', k1, k2, by rw [← rb'.length]; exact e1, hw0, ?_⟩
                have l2 := l.trans l1
                have fr2 := fr1.own_upd et2 eb wb' (rb'.eraseIdx n)
                have et3 : (τ.set j (.own (ys.eraseIdx n)))[i]? = some (.own xs) := by rw [List.getElem?_set_ne hz.2]; exact et
                obtain ⟨a', vs', ea', ha', ra', wa'⟩ := fr2.at_ i _ et3
                rw [ea] at ea'
                cases ea'
                refine ⟨a, vs', w0, rfl, rfl, ha', by rw [← ra'.length]; exact hz.1, ?_⟩
                have l3 := le_own l2 wb'.new wb'.nf (o := .lst (us'.eraseIdx n))
                have lf := lef_own wb'.nf (o := HO.lst (us'.eraseIdx n))
                exact o1 ((W1.put b (.lst (us'.eraseIdx n))).put a (.lst (vs' ++ [w0]))) σ (le_own l3 wa'.new wa'.nf) ((lef_own wb'.nf).trans (lef_own wa'.nf)) (fr2.own_upd et3 ea wa' (ra'.append (.one (rw0.mono lf)))) (rh_own (rh_own rh1 wb'.nf wb'.nr) wa'.nf wa'.nr)
              · simp only [hz] at o1
                exact (show False from o1).elim
          | _ => exact (show False from o1).elim
        | _ => rw [et, et2] at o; exact o.elim
    | _ => rw [et] at o; cases et2 : τ[j]? <;> rw [et2] at o <;> exact o.elim
end
end Sw

/-! Sw, part T: cycles of a permutation, plain Lean. -/
namespace Sw.Cy
def itr (f : Nat → Nat) : Nat → Nat → Nat
  | 0, x => x
  | k + 1, x => itr f k (f x)
/-- a walked way x, f x, .. whose next point is y -/
def Seg (f : Nat → Nat) : List Nat → Nat → Prop
  | [], _ => False
  | x :: r, y => (x :: r).map f = r ++ [y]
def Cyc (f : Nat → Nat) : List Nat → Prop
  | [] => False
  | x :: r => Seg f (x :: r) x
theorem seg_one {f : Nat → Nat} {x y : Nat} : Seg f [x] y ↔ f x = y := by simp [Seg]
theorem seg_app {f : Nat → Nat} {x y z : Nat} {a b : List Nat} : Seg f (x :: a ++ y :: b) z ↔ Seg f (x :: a) y ∧ Seg f (y :: b) z := by
  show (x :: (a ++ y :: b)).map f = (a ++ y :: b) ++ [z] ↔ (x :: a).map f = a ++ [y] ∧ (y :: b).map f = b ++ [z]
  have e1 : (x :: (a ++ y :: b)).map f = (x :: a).map f ++ (y :: b).map f := by simp
  have e2 : (a ++ y :: b) ++ [z] = (a ++ [y]) ++ (b ++ [z]) := by simp
  rw [e1, e2]
  constructor
  · intro h
    exact List.append_inj h (by simp)
  · rintro ⟨h1, h2⟩; rw [h1, h2]
theorem seg_snoc {f : Nat → Nat} {x y : Nat} {a : List Nat} (h : Seg f (x :: a) y) : Seg f (x :: a ++ [y]) (f y) := seg_app.2 ⟨h, seg_one.2 rfl⟩
theorem cyc_rot {f : Nat → Nat} {x y : Nat} {a b : List Nat} (h : Cyc f (x :: a ++ y :: b)) : Cyc f (y :: b ++ x :: a) := by
  have h : Seg f (x :: a ++ y :: b) x := h
  obtain ⟨h1, h2⟩ := seg_app.1 h
  exact seg_app.2 ⟨h2, h1⟩
/-- a cycle may begin at each of its points -/
theorem cyc_at {f : Nat → Nat} {c : List Nat} {y : Nat} (h : Cyc f c) (m : y ∈ c) : ∃ r, Cyc f (y :: r) ∧ (y :: r).Perm c := by
  obtain ⟨s, t, rfl⟩ := List.append_of_mem m
  cases s with
  | nil => exact ⟨t, h, .refl _⟩
  | cons x s => exact ⟨t ++ x :: s, cyc_rot h, List.perm_append_comm (l₁ := y :: t) (l₂ := x :: s)⟩
theorem seg_get {f : Nat → Nat} : ∀ {r : List Nat} {x y : Nat} {k : Nat}, Seg f (x :: r) y → k < r.length + 1 → (x :: r)[k]? = some (itr f k x)
  | r, x, y, 0, _, _ => rfl
  | [], x, y, k + 1, _, hk => by simp at hk
  | z :: r, x, y, k + 1, h, hk => by
    have h' : Seg f ([x] ++ z :: r) y := h
    obtain ⟨h1, h2⟩ := seg_app.1 h'
    rw [seg_one] at h1
    have := seg_get h2 (k := k) (by simpa using hk)
    simp only [List.getElem?_cons_succ]
    rw [this, ← h1]; rfl
theorem cyc_map_mem {f : Nat → Nat} {c : List Nat} (h : Cyc f c) (y : Nat) : y ∈ c.map f ↔ y ∈ c := by
  cases c with
  | nil => exact h.elim
  | cons x r =>
    have h : (x :: r).map f = r ++ [x] := h
    rw [h]; simp [or_comm]
theorem cyc_closed {f : Nat → Nat} {c : List Nat} (h : Cyc f c) {y : Nat} (m : y ∈ c) : f y ∈ c := (cyc_map_mem h _).1 (List.mem_map.2 ⟨y, m, rfl⟩)
theorem cyc_iter {f : Nat → Nat} {c : List Nat} (h : Cyc f c) {y : Nat} (m : y ∈ c) : ∀ k : Nat, itr f k y ∈ c
  | 0 => m
  | k + 1 => cyc_iter h (cyc_closed h m) k
theorem cyc_reach {f : Nat → Nat} {c : List Nat} (h : Cyc f c) {y z : Nat} (my : y ∈ c) (mz : z ∈ c) : ∃ k : Nat, itr f k y = z := by
  obtain ⟨r, hr, pr⟩ := cyc_at h my
  have mz' := pr.mem_iff.2 mz
  obtain ⟨k, hk⟩ := List.mem_iff_getElem?.1 mz'
  have hlt : k < (y :: r).length := by
    rcases Nat.lt_or_ge k (y :: r).length with q | q
    · exact q
    · rw [List.getElem?_eq_none q] at hk; cases hk
  refine ⟨k, ?_⟩
  rw [seg_get (show Seg f (y :: r) y from hr) (by simpa using hlt)] at hk
  exact Option.some.inj hk
/-- rows of cycles that meet all of 0 .. n-1, each once -/
structure Dec (f : Nat → Nat) (n : Nat) (cs : List (List Nat)) : Prop where
  cyc : ∀ c ∈ cs, Cyc f c
  nd : cs.flatten.Nodup
  all : ∀ x, x ∈ cs.flatten ↔ x < n
theorem nodup_sub {l : List Nat} {n : Nat} (h : l.Nodup) (m : ∀ x ∈ l, x < n) : l.length ≤ n := by
  have p : l.Perm ((List.range n).filter fun x => decide (x ∈ l)) := by
    refine (List.perm_ext_iff_of_nodup h (List.nodup_range.filter _)).2 fun a => ?_
    simp only [List.mem_filter, List.mem_range, decide_eq_true_eq]
    exact ⟨fun q => ⟨m a q, q⟩, fun q => q.2⟩
  rw [p.length_eq]
  exact Nat.le_trans (List.length_filter_le _ _) (by rw [List.length_range]; exact Nat.le_refl _)
theorem min_of {c : List Nat} (h : c ≠ []) : ∃ m ∈ c, ∀ z ∈ c, m ≤ z := by
  induction c with
  | nil => exact (h rfl).elim
  | cons x r ih =>
    cases r with
    | nil => exact ⟨x, by simp, by simp⟩
    | cons y r =>
      obtain ⟨m, hm, hl⟩ := ih (by simp)
      rcases Nat.le_total x m with q | q
      · exact ⟨x, by simp, fun z hz => by
          rcases List.mem_cons.1 hz with rfl | hz
          · exact Nat.le_refl _
          · exact Nat.le_trans q (hl z hz)⟩
      · exact ⟨m, List.mem_cons_of_mem _ hm, fun z hz => by
          rcases List.mem_cons.1 hz with rfl | hz
          · exact q
          · exact hl z hz⟩
open Classical in
noncomputable def lead (f : Nat → Nat) (x : Nat) : Bool := decide (∀ k : Nat, x ≤ itr f k x)
open Classical in
theorem lead_iff {f : Nat → Nat} {x : Nat} : lead f x = true ↔ ∀ k : Nat, x ≤ itr f k x := by unfold lead; exact decide_eq_true_iff
theorem lead_one {f : Nat → Nat} {c : List Nat} (h : Cyc f c) (nd : c.Nodup) : c.countP (lead f) = 1 := by
  obtain ⟨m, hm, hl⟩ := min_of (c := c) (by intro e; subst e; exact h)
  have e : c.countP (lead f) = c.countP (fun x => x == m) := by
    refine List.countP_congr fun x hx => ?_
    rw [lead_iff, beq_iff_eq]
    constructor
    · intro q
      obtain ⟨k, hk⟩ := cyc_reach h hx hm
      have := q k
      rw [hk] at this
      exact Nat.le_antisymm this (hl x hx)
    · rintro rfl k
      exact hl _ (cyc_iter h hx k)
  rw [e]
  show c.count m = 1
  rw [nd.count, if_pos hm]
noncomputable def ncyc (f : Nat → Nat) (n : Nat) : Nat := (List.range n).countP (lead f)
theorem nodup_of_flat {cs : List (List Nat)} {c : List Nat} (h : cs.flatten.Nodup) (m : c ∈ cs) : c.Nodup := by
  obtain ⟨s, t, rfl⟩ := List.append_of_mem m
  rw [List.flatten_append, List.flatten_cons, List.nodup_append] at h
  exact (List.nodup_append.1 h.2.1).1
theorem dec_len {f : Nat → Nat} {n : Nat} {cs : List (List Nat)} (d : Dec f n cs) : cs.length = ncyc f n := by
  have p : cs.flatten.Perm (List.range n) := (List.perm_ext_iff_of_nodup d.nd List.nodup_range).2 fun a => by rw [d.all, List.mem_range]
  unfold ncyc
  rw [← p.countP_eq, List.countP_flatten]
  have : cs.map (List.countP (lead f)) = cs.map fun _ => 1 := List.map_eq_map_iff.2 fun c hc => lead_one (d.cyc c hc) (nodup_of_flat d.nd hc)
  rw [this]
  clear this p d
  induction cs with
  | nil => rfl
  | cons c cs ih => simp only [List.length_cons, List.map_cons, List.sum_cons, ← ih]; omega
/-- a swap of x and y -/
def sw (x y z : Nat) : Nat := if z = x then y else if z = y then x else z
theorem sw_l {x y : Nat} : sw x y x = y := by simp [sw]
theorem sw_r {x y : Nat} : sw x y y = x := by unfold sw; split <;> simp_all
theorem sw_o {x y z : Nat} (h : z ≠ x) (h' : z ≠ y) : sw x y z = z := by simp [sw, h, h']
theorem sw_comm {x y z : Nat} : sw x y z = sw y x z := by unfold sw; split <;> split <;> simp_all
theorem seg_map {f g : Nat → Nat} {x y : Nat} {a : List Nat} (h : Seg f (x :: a) y) (hg : ∀ z ∈ a, g z = z) : Seg (fun z => g (f z)) (x :: a) (g y) := by
  have h : (x :: a).map f = a ++ [y] := h
  have e : (x :: a).map (fun z => g (f z)) = ((x :: a).map f).map g := by simp
  show (x :: a).map (fun z => g (f z)) = a ++ [g y]
  rw [e, h, List.map_append]
  congr 1
  conv => rhs; rw [← List.map_id a]
  exact List.map_eq_map_iff.2 fun z hz => hg z hz
theorem cyc_off {f : Nat → Nat} {x y : Nat} {c : List Nat} (h : Cyc f c) (hx : x ∉ c) (hy : y ∉ c) : Cyc (fun z => sw x y (f z)) c := by
  cases c with
  | nil => exact h
  | cons u r =>
    have := seg_map (g := sw x y) (show Seg f (u :: r) u from h) fun z hz => sw_o (by rintro rfl; exact hx (by simp [hz])) (by rintro rfl; exact hy (by simp [hz]))
    rw [sw_o (by rintro rfl; exact hx (by simp)) (by rintro rfl; exact hy (by simp))] at this
    exact this
theorem cyc_split {f : Nat → Nat} {x y : Nat} {a b : List Nat} (h : Cyc f (x :: a ++ y :: b)) (nd : (x :: a ++ y :: b).Nodup) :
    Cyc (fun z => sw x y (f z)) (x :: a) ∧ Cyc (fun z => sw x y (f z)) (y :: b) := by
  have h : Seg f (x :: a ++ y :: b) x := h
  obtain ⟨h1, h2⟩ := seg_app.1 h
  have nd' := List.nodup_append.1 nd
  have n1 := List.nodup_cons.1 nd'.1
  have n2 := List.nodup_cons.1 nd'.2.1
  have n3 := nd'.2.2
  refine ⟨?_, ?_⟩
  · have := seg_map (g := sw x y) h1 fun z hz => sw_o (by rintro rfl; exact n1.1 hz) (n3 z (by simp [hz]) y (by simp))
    rw [sw_r] at this; exact this
  · have := seg_map (g := sw x y) h2 fun z hz => sw_o (fun e => n3 x (by simp) z (by simp [hz]) e.symm) (by rintro rfl; exact n2.1 hz)
    rw [sw_l] at this; exact this
theorem cyc_join {f : Nat → Nat} {x y : Nat} {a b : List Nat} (h1 : Cyc f (x :: a)) (h2 : Cyc f (y :: b)) (nd : (x :: a ++ y :: b).Nodup) :
    Cyc (fun z => sw x y (f z)) (x :: a ++ y :: b) := by
  have nd' := List.nodup_append.1 nd
  have n1 := List.nodup_cons.1 nd'.1
  have n2 := List.nodup_cons.1 nd'.2.1
  have n3 := nd'.2.2
  have s1 := seg_map (g := sw x y) (show Seg f (x :: a) x from h1) fun z hz => sw_o (by rintro rfl; exact n1.1 hz) (n3 z (by simp [hz]) y (by simp))
  have s2 := seg_map (g := sw x y) (show Seg f (y :: b) y from h2) fun z hz => sw_o (fun e => n3 x (by simp) z (by simp [hz]) e.symm) (by rintro rfl; exact n2.1 hz)
  rw [sw_l] at s1
  rw [sw_r] at s2
  exact seg_app.2 ⟨s1, s2⟩
theorem dec_perm {f : Nat → Nat} {n : Nat} {cs cs' : List (List Nat)} (d : Dec f n cs) (p : cs.Perm cs') : Dec f n cs' :=
  ⟨fun c hc => d.cyc c (p.mem_iff.2 hc), (p.flatten.nodup_iff).1 d.nd, fun x => by rw [← p.flatten.mem_iff]; exact d.all x⟩
theorem dec_head {f : Nat → Nat} {n : Nat} {c c' : List Nat} {cs : List (List Nat)} (d : Dec f n (c :: cs)) (h : Cyc f c') (p : c'.Perm c) : Dec f n (c' :: cs) := by
  have pf : (c' :: cs).flatten.Perm (c :: cs).flatten := by simp only [List.flatten_cons]; exact p.append_right _
  refine ⟨fun z hz => ?_, pf.nodup_iff.2 d.nd, fun x => by rw [pf.mem_iff]; exact d.all x⟩
  rcases List.mem_cons.1 hz with rfl | hz
  · exact h
  · exact d.cyc z (List.mem_cons_of_mem _ hz)
theorem mem_split {cs : List (List Nat)} {x : Nat} (h : x ∈ cs.flatten) : ∃ c r, x ∈ c ∧ cs.Perm (c :: r) := by
  obtain ⟨c, hc, hx⟩ := List.mem_flatten.1 h
  obtain ⟨s, t, rfl⟩ := List.append_of_mem hc
  exact ⟨c, s ++ t, hx, List.perm_middle⟩
/-- a swap parts a cycle -/
theorem dec_part {f : Nat → Nat} {n : Nat} {x y : Nat} {cs : List (List Nat)} (d : Dec f n cs) (ne : x ≠ y) {c : List Nat} (hc : c ∈ cs) (hx : x ∈ c) (hy : y ∈ c) :
    ∃ cs', Dec (fun z => sw x y (f z)) n cs' ∧ cs'.length = cs.length + 1 := by
  obtain ⟨s, t, rfl⟩ := List.append_of_mem hc
  have d1 := dec_perm d (List.perm_middle (a := c) (l₁ := s) (l₂ := t))
  obtain ⟨r, hr, pr⟩ := cyc_at (d.cyc c hc) hx
  have d2 := dec_head d1 hr pr
  have hy' := pr.mem_iff.2 hy
  have hy2 : y ∈ r := by
    rcases List.mem_cons.1 hy' with e | e
    · exact (ne e.symm).elim
    · exact e
  obtain ⟨a, b, rfl⟩ := List.append_of_mem hy2
  have nd := d2.nd
  rw [List.flatten_cons, List.nodup_append] at nd
  obtain ⟨c1, c2⟩ := cyc_split (f := f) (x := x) (y := y) (a := a) (b := b) hr nd.1
  refine ⟨(x :: a) :: (y :: b) :: (s ++ t), ⟨fun z hz => ?_, ?_, fun z => ?_⟩, by simp; omega⟩
  · rcases List.mem_cons.1 hz with rfl | hz
    · exact c1
    · rcases List.mem_cons.1 hz with rfl | hz
      · exact c2
      · have hm : ∀ u ∈ z, u ∈ (s ++ t).flatten := fun u hu => List.mem_flatten.2 ⟨z, hz, hu⟩
        exact cyc_off (d2.cyc z (List.mem_cons_of_mem _ hz)) (fun q => nd.2.2 x (by simp) x (hm x q) rfl) (fun q => nd.2.2 y (by simp) y (hm y q) rfl)
  · have := d2.nd
    simpa using this
  · have := d2.all z
    simpa using this
/-- a swap joins two cycles -/
theorem dec_unite {f : Nat → Nat} {n : Nat} {x y : Nat} {cs : List (List Nat)} (d : Dec f n cs) {c : List Nat} (hc : c ∈ cs) (hx : x ∈ c) (hy : y ∉ c) (hy' : y < n) :
    ∃ cs', Dec (fun z => sw x y (f z)) n cs' ∧ cs'.length + 1 = cs.length := by
  obtain ⟨s, t, rfl⟩ := List.append_of_mem hc
  have d1 := dec_perm d (List.perm_middle (a := c) (l₁ := s) (l₂ := t))
  obtain ⟨r, hr, pr⟩ := cyc_at (d.cyc c hc) hx
  have hy1 : y ∈ (c :: (s ++ t)).flatten := (d1.all y).2 hy'
  rw [List.flatten_cons, List.mem_append] at hy1
  obtain ⟨c2, w, hyc, pw⟩ := mem_split (hy1.resolve_left hy)
  have d2 := dec_perm (dec_head d1 hr pr) (pw.cons (x :: r))
  obtain ⟨r2, hr2, pr2⟩ := cyc_at (d2.cyc c2 (by simp)) hyc
  have d3 := dec_perm d2 (List.Perm.swap _ _ _)
  have d4 := dec_perm (dec_head d3 hr2 pr2) (List.Perm.swap _ _ _)
  have nd := d4.nd
  have nd : ((x :: r ++ y :: r2) ++ w.flatten).Nodup := by simpa using nd
  rw [List.nodup_append] at nd
  refine ⟨(x :: r ++ y :: r2) :: w, ⟨fun z hz => ?_, ?_, fun z => ?_⟩, ?_⟩
  · rcases List.mem_cons.1 hz with rfl | hz
    · exact cyc_join hr hr2 nd.1
    · have hm : ∀ u ∈ z, u ∈ w.flatten := fun u hu => List.mem_flatten.2 ⟨z, hz, hu⟩
      exact cyc_off (d4.cyc z (by simp [hz])) (fun q => nd.2.2 x (by simp) x (hm x q) rfl) (fun q => nd.2.2 y (by simp) y (hm y q) rfl)
  · have := d4.nd
    simpa using this
  · have := d4.all z
    simpa using this
  · have e : (c :: (s ++ t)).length = (c :: c2 :: w).length := by simp only [List.length_cons]; rw [pw.length_eq]; rfl
    have e2 : (s ++ c :: t).length = (c :: (s ++ t)).length := List.perm_middle.length_eq
    rw [e2, e]; simp
theorem ncyc_part {f : Nat → Nat} {n : Nat} {x y : Nat} {cs : List (List Nat)} (d : Dec f n cs) (ne : x ≠ y) {c : List Nat} (hc : c ∈ cs) (hx : x ∈ c) (hy : y ∈ c) :
    ncyc (fun z => sw x y (f z)) n = ncyc f n + 1 := by
  obtain ⟨cs', d', e⟩ := dec_part d ne hc hx hy
  rw [← dec_len d', ← dec_len d, e]
theorem ncyc_unite {f : Nat → Nat} {n : Nat} {x y : Nat} {cs : List (List Nat)} (d : Dec f n cs) {c : List Nat} (hc : c ∈ cs) (hx : x ∈ c) (hy : y ∉ c) (hy' : y < n) :
    ncyc (fun z => sw x y (f z)) n + 1 = ncyc f n := by
  obtain ⟨cs', d', e⟩ := dec_unite d hc hx hy hy'
  rw [← dec_len d', ← dec_len d, e]
/-! ### finding the cycles -/
structure Prt (f : Nat → Nat) (n : Nat) (cs : List (List Nat)) : Prop where
  cyc : ∀ c ∈ cs, Cyc f c
  nd : cs.flatten.Nodup
  lt : ∀ x ∈ cs.flatten, x < n
structure Inj (f : Nat → Nat) (n : Nat) : Prop where
  lt : ∀ x, x < n → f x < n
  inj : ∀ x y, x < n → y < n → f x = f y → x = y
theorem prt_closed {f : Nat → Nat} {n : Nat} {cs : List (List Nat)} (I : Inj f n) (P : Prt f n cs) {x : Nat} (hx : x < n) : f x ∈ cs.flatten ↔ x ∈ cs.flatten := by
  constructor
  · intro h
    obtain ⟨c, hc, hf⟩ := List.mem_flatten.1 h
    obtain ⟨y, hy, e⟩ := List.mem_map.1 ((cyc_map_mem (P.cyc c hc) _).2 hf)
    have : y = x := I.inj y x (P.lt y (List.mem_flatten.2 ⟨c, hc, hy⟩)) hx e
    subst this
    exact List.mem_flatten.2 ⟨c, hc, hy⟩
  · intro h
    obtain ⟨c, hc, hf⟩ := List.mem_flatten.1 h
    exact List.mem_flatten.2 ⟨c, hc, cyc_closed (P.cyc c hc) hf⟩
/-- on the way: a walked row x :: r, its next point y -/
structure Way (f : Nat → Nat) (n : Nat) (cs : List (List Nat)) (x : Nat) (r : List Nat) (y : Nat) : Prop where
  seg : Seg f (x :: r) y
  nd : (x :: r).Nodup
  off : ∀ z ∈ x :: r, z ∉ cs.flatten
  lt : ∀ z ∈ x :: r, z < n
theorem seg_last {f : Nat → Nat} {x y : Nat} {r : List Nat} (h : Seg f (x :: r) y) : ∃ s z, x :: r = s ++ [z] ∧ f z = y ∧ (s = [] ∧ z = x ∨ ∃ s', s = x :: s') := by
  rcases List.eq_nil_or_concat r with rfl | ⟨s, z, rfl⟩
  · exact ⟨[], x, rfl, seg_one.1 h, .inl ⟨rfl, rfl⟩⟩
  · rw [List.concat_eq_append] at h ⊢
    refine ⟨x :: s, z, rfl, ?_, .inr ⟨s, rfl⟩⟩
    have h' : Seg f (x :: s ++ z :: []) y := h
    exact seg_one.1 (seg_app.1 h').2
theorem way_start {f : Nat → Nat} {n : Nat} {cs : List (List Nat)} {x : Nat} (hx : x < n) (ho : x ∉ cs.flatten) : Way f n cs x [] (f x) :=
  ⟨seg_one.2 rfl, by simp, by simpa using ho, by simpa using hx⟩
theorem way_meets {f : Nat → Nat} {n : Nat} {cs : List (List Nat)} (I : Inj f n) (P : Prt f n cs) {x y : Nat} {r : List Nat} (w : Way f n cs x r y) : y < n ∧ y ∉ cs.flatten ∧ (y ∈ x :: r ↔ y = x) := by
  obtain ⟨s, z, e, hz, _⟩ := seg_last w.seg
  have mz : z ∈ x :: r := by rw [e]; simp
  have zl := w.lt z mz
  refine ⟨hz ▸ I.lt z zl, fun q => w.off z mz ((prt_closed I P zl).1 (by rw [hz]; exact q)), fun q => ?_, fun q => by rw [q]; simp⟩
  obtain ⟨i, hi⟩ := List.mem_iff_getElem?.1 q
  cases i with
  | zero => exact (Option.some.inj hi).symm
  | succ i =>
    exfalso
    have hm : (x :: r).map f = r ++ [y] := w.seg
    have hil : i + 1 < (x :: r).length := by
      rcases Nat.lt_or_ge (i + 1) (x :: r).length with q' | q'
      · exact q'
      · rw [List.getElem?_eq_none q'] at hi; cases hi
    have hil' : i < r.length := by simpa using hil
    have hfi : ((x :: r).map f)[i]? = some y := by
      rw [hm, List.getElem?_append_left hil']
      simpa using hi
    rw [List.getElem?_map] at hfi
    cases eu : (x :: r)[i]? with
    | none => rw [eu] at hfi; cases hfi
    | some u =>
      rw [eu] at hfi
      have hu : f u = y := by simpa using hfi
      have mu : u ∈ x :: r := List.mem_of_getElem? eu
      have euz : u = z := I.inj u z (w.lt u mu) zl (by rw [hu, hz])
      have hlast : (x :: r)[r.length]? = some z := by
        have hl : r.length = s.length := by have := congrArg List.length e; simpa using this
        rw [e, hl]; simp
      have hnd := w.nd
      have i1 : i < (x :: r).length := by omega
      have i2 : r.length < (x :: r).length := by simp
      have g1 : (x :: r)[i] = u := by rw [List.getElem?_eq_getElem i1] at eu; exact Option.some.inj eu
      have g2 : (x :: r)[r.length] = z := by rw [List.getElem?_eq_getElem i2] at hlast; exact Option.some.inj hlast
      have := (List.getElem_inj hnd (h₀ := i1) (h₁ := i2)).1 (by rw [g1, g2, euz])
      omega
theorem way_step {f : Nat → Nat} {n : Nat} {cs : List (List Nat)} (I : Inj f n) (P : Prt f n cs) {x y : Nat} {r : List Nat} (w : Way f n cs x r y) (ne : y ≠ x) : Way f n cs x (r ++ [y]) (f y) := by
  obtain ⟨h1, h2, h3⟩ := way_meets I P w
  refine ⟨seg_snoc w.seg, ?_, fun z hz => ?_, fun z hz => ?_⟩
  · show ((x :: r) ++ [y]).Nodup
    rw [List.nodup_append]
    refine ⟨w.nd, by simp, fun a ha b hb => ?_⟩
    simp only [List.mem_singleton] at hb
    subst hb
    rintro rfl
    exact ne (h3.1 ha)
  · rcases List.mem_append.1 (show z ∈ (x :: r) ++ [y] from hz) with q | q
    · exact w.off z q
    · simp only [List.mem_singleton] at q; subst q; exact h2
  · rcases List.mem_append.1 (show z ∈ (x :: r) ++ [y] from hz) with q | q
    · exact w.lt z q
    · simp only [List.mem_singleton] at q; subst q; exact h1
theorem way_len {f : Nat → Nat} {n : Nat} {cs : List (List Nat)} {x y : Nat} {r : List Nat} (w : Way f n cs x r y) : r.length < n := by
  have := nodup_sub w.nd w.lt
  rw [List.length_cons] at this
  exact this
theorem way_done {f : Nat → Nat} {n : Nat} {cs : List (List Nat)} (P : Prt f n cs) {x : Nat} {r : List Nat} (w : Way f n cs x r x) : Prt f n (cs ++ [x :: r]) := by
  refine ⟨fun c hc => ?_, ?_, fun z hz => ?_⟩
  · rcases List.mem_append.1 hc with q | q
    · exact P.cyc c q
    · simp only [List.mem_singleton] at q; subst q; exact w.seg
  · rw [List.flatten_append, List.nodup_append]
    refine ⟨P.nd, by simpa using w.nd, fun a ha b hb => ?_⟩
    have hb : b ∈ x :: r := by simpa using hb
    rintro rfl
    exact w.off _ hb ha
  · rw [List.flatten_append, List.mem_append] at hz
    rcases hz with q | q
    · exact P.lt z q
    · exact w.lt z (by simpa using q)
theorem prt_nil {f : Nat → Nat} {n : Nat} : Prt f n [] := ⟨by simp, by simp, by simp⟩
theorem prt_dec {f : Nat → Nat} {n : Nat} {cs : List (List Nat)} (P : Prt f n cs) (h : ∀ x, x < n → x ∈ cs.flatten) : Dec f n cs := ⟨P.cyc, P.nd, fun x => ⟨P.lt x, h x⟩⟩
theorem ncyc_congr {f g : Nat → Nat} {n : Nat} (I : Inj f n) (h : ∀ x, x < n → f x = g x) : ncyc f n = ncyc g n := by
  unfold ncyc
  refine List.countP_congr fun x hx => ?_
  have hit : ∀ (k : Nat) (x : Nat), x < n → itr f k x = itr g k x := by
    intro k
    induction k with
    | zero => intro x _; rfl
    | succ k ih => intro x hx; show itr f k (f x) = itr g k (g x); rw [← h x hx]; exact ih _ (I.lt x hx)
  rw [lead_iff, lead_iff]
  exact ⟨fun q k => by rw [← hit k x (List.mem_range.1 hx)]; exact q k, fun q k => by rw [hit k x (List.mem_range.1 hx)]; exact q k⟩
theorem ncyc_id {n : Nat} : ncyc (fun x => x) n = n := by
  unfold ncyc
  have hit : ∀ (k x : Nat), itr (fun x : Nat => x) k x = x := by
    intro k; induction k with
    | zero => intro x; rfl
    | succ k ih => intro x; exact ih x
  have : (List.range n).countP (lead fun x => x) = (List.range n).length := List.countP_eq_length.2 fun x _ => by
    rw [lead_iff]; intro k; rw [hit]; exact Nat.le_refl _
  rw [this, List.length_range]
end Sw.Cy

/-! Sw, part U: moves as data. -/
namespace Sw
open PySem PySem.Spec PyProof.Rows L2
variable [Tbs]
theorem ap_appPopS (i j : Nat) (fe : DE) (τ : List Sl) (h : HS) : appPopS i j fe τ h = (match τ[i]?, τ[j]? with
  | some (.own xs), some (.own ys) => RS.ofR (fe τ h) τ fun d h1 => match d with
    | .int k => match popN ys k with
      | some (y, zs) => if decide (xs.length < sizeLine) && decide (j ≠ i) then .nx ((τ.set j (.own zs)).set i (.own (xs ++ [y]))) h1 else .bad
      | none => .bad
    | _ => .bad
  | _, _ => .bad) := id rfl
theorem ap_chR3 (g g' g2 : D → D → Option D) (a b c d : DE) (τ : List Sl) (h : HS) : chR3 g g' g2 a b c d τ h = ((a τ h).bind fun x h1 => (b τ h1).bind fun y h2 => match g x y with
  | some (.bl true) => (c τ h2).bind fun z h3 => match g' y z with
    | some (.bl true) => (d τ h3).bind fun w h4 => toRes (g2 z w) h4
    | some (.bl false) => .ok (.bl false) h3
    | _ => .bad
  | some (.bl false) => .ok (.bl false) h2
  | _ => .bad) := id rfl
theorem ap_lstRg (f : DR) (τ : List Sl) (h : HS) : lstRg f τ h = ((f τ h).bind fun p h1 => if rgOk p.1 p.2 then .ok (.lst ((rgInts p.1 p.2).map .int)) h1 else .bad) := id rfl
theorem ap_tupRg (f : DR) (τ : List Sl) (h : HS) : tupRg f τ h = ((f τ h).bind fun p h1 => if rgOk p.1 p.2 then .ok (.tup ((rgInts p.1 p.2).map .int)) h1 else .bad) := id rfl
theorem ap_rg1 (a : DE) (τ : List Sl) (h : HS) : rg1 a τ h = ((a τ h).bind fun d h1 => match d with | .int n => .ok ((0 : Int), n) h1 | _ => .bad) := id rfl
theorem ap_rg2 (a b : DE) (τ : List Sl) (h : HS) : rg2 a b τ h = ((a τ h).bind fun x h1 => (b τ h1).bind fun y h2 => match x, y with | .int i, .int j => .ok (i, j) h2 | _, _ => .bad) := id rfl
theorem ap_revTR (a : DE) (τ : List Sl) (h : HS) : revTR a τ h = ((a τ h).bind fun d h1 => match d with
  | .tup xs => .ok (.tup xs.reverse) h1
  | _ => .bad) := id rfl
theorem ap_whileS (c : DT) (b : DS) (n : Nat) (τ : List Sl) (h : HS) : whileS c b (n + 1) τ h = (RS.ofR (c τ h) τ fun k h1 => if k then match b τ h1 with
      | .nx τ2 h2 => whileS c b n τ2 h2
      | .ct τ2 h2 => whileS c b n τ2 h2
      | .bk τ2 h2 => .nx τ2 h2
      | s => s
    else .nx τ h1) := id rfl
theorem ty_tup (xs : List D) : ((tyD (.tup xs)).bind fun x => isiT x "tuple") = some true := by simp [tyD, isiT]
theorem ty_int (i : Int) : ((tyD (.int i)).bind fun x => isiT x "tuple") = some false := by simp [tyD, isiT]
theorem seq_nx {f g : DS} {τ τ' : List Sl} {h h' : HS} (e : f τ h = .nx τ' h') : seqS f g τ h = g τ' h' := by rw [ap_seqS, e]
theorem seq_rt {f g : DS} {τ : List Sl} {h h' : HS} {d : D} (e : f τ h = .rt d h') : seqS f g τ h = .rt d h' := by rw [ap_seqS, e]
theorem ite_t {t : DT} {f g : DS} {τ : List Sl} {h h' : HS} (e : t τ h = .ok true h') : iteS t f g τ h = f τ h' := by rw [ap_iteS, e, ro_ok, if_pos rfl]
theorem ite_f {t : DT} {f g : DS} {τ : List Sl} {h h' : HS} (e : t τ h = .ok false h') : iteS t f g τ h = g τ h' := by rw [ap_iteS, e, ro_ok, if_neg Bool.false_ne_true]
theorem while_f {c : DT} {b : DS} {n : Nat} {τ : List Sl} {h h' : HS} (e : c τ h = .ok false h') : whileS c b (n + 1) τ h = .nx τ h' := by rw [ap_whileS, e, ro_ok, if_neg Bool.false_ne_true]
theorem while_t {c : DT} {b : DS} {n : Nat} {τ τ' : List Sl} {h h1 h' : HS} (e : c τ h = .ok true h1) (e2 : b τ h1 = .nx τ' h') : whileS c b (n + 1) τ h = whileS c b n τ' h' := by rw [ap_whileS, e, ro_ok, if_pos rfl, e2]
theorem for_of {it : DA} {g : GT} {b : DS} {τ : List Sl} {h h' : HS} {l : List D} {r : RS} (e : it τ h = .ok l h') (e2 : forS g b l τ h' = r) : forR it g b τ h = r := by rw [ap_forR, e, ro_ok, e2]
theorem fn_rt {n : Nat} {f : DS} {ds : List D} {h h' : HS} {d : D} {τ : List Sl} (hτ : ds.map Sl.val ++ List.replicate (n - ds.length) Sl.un = τ) (e : f τ h = .rt d h') : fnR n f ds h = .ok d h' := by rw [ap_fnR, hτ, e]
theorem fn_nx {n : Nat} {f : DS} {ds : List D} {h h' : HS} {τ τ' : List Sl} (hτ : ds.map Sl.val ++ List.replicate (n - ds.length) Sl.un = τ) (e : f τ h = .nx τ' h') : fnR n f ds h = .ok .non h' := by rw [ap_fnR, hτ, e]
theorem rng1_of {fe : DE} {τ : List Sl} {h h' : HS} {n : Nat} (e : fe τ h = .ok (.int (n : Nat)) h') (hn : n ≤ 100000) : rngR1 fe τ h = .ok ((List.range n).map fun i : Nat => .int (0 + (i : Nat))) h' := by
  have w1 : -(2 ^ 62) ≤ (n : Int) := by omega
  have w2 : (n : Int) < 2 ^ 62 := by omega
  rw [ap_rngR1, e, rb_ok]
  simp only [decide_eq_true w1, decide_eq_true w2, Bool.and_self, if_true, Int.toNat_natCast, rangeD_map]
/-! ### rows of naturals as data -/
def ni (p : List Nat) : List Int := p.map fun i : Nat => (i : Int)
abbrev mv (p : List Nat) : D := .tup ((ni p).map .int)
theorem ni_len (p : List Nat) : (ni p).length = p.length := by rw [ni, List.length_map]
theorem ni_app (p q : List Nat) : ni (p ++ q) = ni p ++ ni q := by rw [ni, List.map_append]; rfl
theorem ni_get {p : List Nat} {i x : Nat} (h : p[i]? = some x) : ((ni p).map D.int)[i]? = some (.int (x : Nat)) := by
  rw [ni, List.map_map, List.getElem?_map, h]; rfl
theorem ni_map (p : List Nat) : (ni p).map D.int = p.map fun i => .int (i : Nat) := by rw [ni, List.map_map]; rfl
theorem ni_inj {p q : List Nat} (h : ni p = ni q) : p = q := by
  unfold ni at h
  induction p generalizing q with
  | nil => cases q with
    | nil => rfl
    | cons y q => cases h
  | cons x p ih => cases q with
    | nil => cases h
    | cons y q =>
      rw [List.map_cons, List.map_cons, List.cons.injEq] at h
      rw [ih h.2, Int.ofNat_inj.mp h.1]
theorem rg_ok {n : Nat} (h : n ≤ 100000) : rgOk 0 (n : Int) = true := by
  unfold rgOk
  simp only [Bool.and_eq_true, decide_eq_true_eq]
  omega
theorem rg_ints (n : Nat) : rgInts 0 (n : Int) = ni (List.range n) := by
  unfold rgInts ni
  rw [show ((n : Int) - 0).toNat = n by omega]
  exact List.map_congr_left fun i _ => by omega
theorem tupRg_ok {fe : DE} {τ : List Sl} {h : HS} {n : Nat} (e : fe τ h = .ok (.int (n : Nat)) h) (hn : n ≤ 100000) : tupRg (rg1 fe) τ h = .ok (mv (List.range n)) h := by
  simp only [ap_tupRg, ap_rg1, e, rb_ok, rg_ok hn, if_true, rg_ints]
theorem lstRg_ok {fe : DE} {τ : List Sl} {h : HS} {n : Nat} (e : fe τ h = .ok (.int (n : Nat)) h) (hn : n ≤ 100000) : lstRg (rg1 fe) τ h = .ok (.lst ((ni (List.range n)).map .int)) h := by
  simp only [ap_lstRg, ap_rg1, e, rb_ok, rg_ok hn, if_true, rg_ints]
theorem atI_at {α : Type} {xs : List α} {i : Nat} {x : α} (h : xs[i]? = some x) : L2.atI xs (i : Int) = some x := L2.atI_nat h
theorem at_tup {xs : List D} {i : Nat} {x : D} (h : xs[i]? = some x) : atD (.tup xs) (.int (i : Nat)) = some x := atI_at h
theorem at_lst {xs : List D} {i : Nat} {x : D} (h : xs[i]? = some x) : atD (.lst xs) (.int (i : Nat)) = some x := atI_at h
/-! ### moves -/
structure Mv (n : Nat) (p : List Nat) : Prop where
  len : p.length = n
  nd : p.Nodup
  lt : ∀ x ∈ p, x < n
def ap (p : List Nat) (i : Nat) : Nat := p.getD i 0
theorem ap_get {p : List Nat} {i : Nat} (h : i < p.length) : p[i]? = some (ap p i) := by
  unfold ap
  rw [List.getD_eq_getElem?_getD, List.getElem?_eq_getElem h]; rfl
theorem ap_map {p : List Nat} {f : Nat → Nat} {i : Nat} (h : i < p.length) : ap (p.map f) i = f (ap p i) := by
  have := ap_get (p := p.map f) (by rw [List.length_map]; exact h)
  rw [List.getElem?_map, ap_get h] at this
  exact (Option.some.inj this).symm
theorem ap_range {n i : Nat} (h : i < n) : ap (List.range n) i = i := by
  have := ap_get (p := List.range n) (by rw [List.length_range]; exact h)
  rw [List.getElem?_range h] at this
  exact (Option.some.inj this).symm
theorem ap_ext {p q : List Nat} (h : p.length = q.length) (e : ∀ i, i < p.length → ap p i = ap q i) : p = q := by
  refine List.ext_getElem? fun i => ?_
  rcases Nat.lt_or_ge i p.length with k | k
  · rw [ap_get k, ap_get (h ▸ k), e i k]
  · rw [List.getElem?_eq_none k, List.getElem?_eq_none (h ▸ k)]
theorem full {l : List Nat} {n : Nat} (nd : l.Nodup) (lt : ∀ x ∈ l, x < n) (len : l.length = n) : l.Perm (List.range n) := by
  have p : l.Perm ((List.range n).filter fun x => decide (x ∈ l)) := by
    refine (List.perm_ext_iff_of_nodup nd (List.nodup_range.filter _)).2 fun a => ?_
    simp only [List.mem_filter, List.mem_range, decide_eq_true_eq]
    exact ⟨fun q => ⟨lt a q, q⟩, fun q => q.2⟩
  have h2 : ((List.range n).filter fun x => decide (x ∈ l)).length = (List.range n).length := by rw [← p.length_eq, len, List.length_range]
  have h3 := List.filter_eq_self.mpr (List.length_filter_eq_length_iff.mp h2)
  rw [h3] at p
  exact p
theorem Mv.perm {n : Nat} {p : List Nat} (m : Mv n p) : p.Perm (List.range n) := full m.nd m.lt m.len
theorem Mv.of_perm {n : Nat} {p : List Nat} (h : p.Perm (List.range n)) : Mv n p := ⟨by rw [h.length_eq, List.length_range], h.nodup_iff.2 List.nodup_range, fun x m => List.mem_range.1 (h.mem_iff.1 m)⟩
theorem mv_id (n : Nat) : Mv n (List.range n) := .of_perm (.refl _)
theorem Mv.ap_lt {n : Nat} {p : List Nat} (m : Mv n p) {i : Nat} (h : i < n) : ap p i < n := m.lt _ (List.mem_of_getElem? (ap_get (by rw [m.len]; exact h)))
theorem Mv.inj {n : Nat} {p : List Nat} (m : Mv n p) : Cy.Inj (ap p) n where
  lt := fun x h => m.ap_lt h
  inj := fun x y hx hy e => by
    have hx' : x < p.length := by rw [m.len]; exact hx
    have hy' : y < p.length := by rw [m.len]; exact hy
    have e1 := ap_get hx'
    have e2 := ap_get hy'
    rw [List.getElem?_eq_getElem hx'] at e1
    rw [List.getElem?_eq_getElem hy'] at e2
    exact (List.getElem_inj m.nd).1 (by rw [Option.some.inj e1, Option.some.inj e2, e])
theorem Mv.onto {n : Nat} {p : List Nat} (m : Mv n p) {y : Nat} (h : y < n) : ∃ i, i < n ∧ ap p i = y := by
  obtain ⟨i, hi⟩ := List.mem_iff_getElem?.1 (m.perm.mem_iff.2 (List.mem_range.2 h))
  have hl := (List.getElem?_eq_some_iff.mp hi).1
  refine ⟨i, by rw [← m.len]; exact hl, ?_⟩
  rw [ap_get hl] at hi
  exact Option.some.inj hi
theorem nodup_map {l : List Nat} {f : Nat → Nat} (h : l.Nodup) (hf : ∀ x ∈ l, ∀ y ∈ l, f x = f y → x = y) : (l.map f).Nodup := by
  induction l with
  | nil => exact .nil
  | cons a l ih =>
    obtain ⟨h1, h2⟩ := List.nodup_cons.1 h
    rw [List.map_cons, List.nodup_cons]
    refine ⟨fun q => ?_, ih h2 fun x hx y hy => hf x (List.mem_cons_of_mem _ hx) y (List.mem_cons_of_mem _ hy)⟩
    obtain ⟨b, hb, e⟩ := List.mem_map.1 q
    have := hf b (List.mem_cons_of_mem _ hb) a List.mem_cons_self e
    subst this
    exact h1 hb
theorem Mv.map {n : Nat} {p : List Nat} {f : Nat → Nat} (m : Mv n p) (I : Cy.Inj f n) : Mv n (p.map f) :=
  ⟨by rw [List.length_map, m.len], nodup_map m.nd fun x hx y hy => I.inj x y (m.lt x hx) (m.lt y hy), fun x hx => by
    obtain ⟨y, hy, rfl⟩ := List.mem_map.1 hx
    exact I.lt y (m.lt y hy)⟩
/-- one and then the other -/
abbrev seqM (p q : List Nat) : List Nat := p.map (ap q)
theorem Mv.seqM {n : Nat} {p q : List Nat} (m : Mv n p) (m' : Mv n q) : Mv n (seqM p q) := m.map m'.inj
theorem sw_inj {n x y : Nat} (hx : x < n) (hy : y < n) : Cy.Inj (Cy.sw x y) n where
  lt := fun z hz => by
    unfold Cy.sw
    split
    · exact hy
    · split
      · exact hx
      · exact hz
  inj := fun a b ha hb e => by
    unfold Cy.sw at e
    split at e <;> split at e <;> (try split at e) <;> (try split at e) <;> simp_all
theorem left_inv_unique {n : Nat} {p q q' : List Nat} (m : Mv n p) (hq : q.length = n) (hq' : q'.length = n) (e : ∀ i, i < n → ap q (ap p i) = i) (e' : ∀ i, i < n → ap q' (ap p i) = i) : q = q' := by
  refine ap_ext (by rw [hq, hq']) fun y hy => ?_
  rw [hq] at hy
  obtain ⟨i, hi, rfl⟩ := m.onto hy
  rw [e i hi, e' i hi]
theorem right_inv {n : Nat} {p q : List Nat} (m : Mv n p) (e : ∀ i, i < n → ap q (ap p i) = i) {y : Nat} (hy : y < n) : ap p (ap q y) = y := by
  obtain ⟨i, hi, rfl⟩ := m.onto hy
  rw [e i hi]
theorem inv_mv {n : Nat} {p q : List Nat} (m : Mv n p) (hq : q.length = n) (e : ∀ i, i < n → ap q (ap p i) = i) : Mv n q := by
  have e2 : q = (List.range n).map (ap q) := by
    refine ap_ext (by simp [hq]) fun i hi => ?_
    rw [hq] at hi
    rw [ap_map (by rw [List.length_range]; exact hi), ap_range hi]
  rw [e2]
  refine (mv_id n).map ⟨fun x hx => ?_, fun x y hx hy h => ?_⟩
  · obtain ⟨i, hi, rfl⟩ := m.onto hx
    rw [e i hi]; exact hi
  · rw [← right_inv m e hx, ← right_inv m e hy, h]
/-! ### moves as the program sees them -/
theorem pair_sorted : ∀ n, (ni (List.range n)).Pairwise (· ≤ ·) := fun n => by
  unfold ni
  rw [List.pairwise_map]
  exact List.pairwise_lt_range.imp fun h => by omega
theorem sort_mv {n : Nat} {p : List Nat} (m : Mv n p) : sortI (ni p) = ni (List.range n) :=
  sorted_unique ((sortI_perm _).trans (m.perm.map _)) (sortI_sorted _) (pair_sorted n)
theorem sortsD_ints (l : List Int) : sortsD [.lst (l.map .int)] = some (.lst ((sortI l).map .int)) := by
  simp only [sortsD, sortsG, sortLG, Sw.ints_map, Option.map_some, Option.some_or]
theorem sortsD_tints (l : List Int) : sortsD [.tup (l.map .int)] = some (.lst ((sortI l).map .int)) := by
  simp only [sortsD, sortsG, sortLG, sortTG, Sw.ints_map, Option.map_some, Option.none_or, Option.some_or]
theorem bools_all (l : List Bool) : boolsD (l.map .bl) = some l := by
  induction l with
  | nil => rfl
  | cons x l ih => simp [boolsD, ih]
theorem inB_ints (x : Int) (l : List Int) : inB (.int x) (.lst (l.map .int)) = some (decide (x ∈ l)) := by
  have sh : SeqAt.shaped (.list (l.map PyData.int)) = true := by
    obtain ⟨p, e1, e2, e3⟩ := cmp_intsL l
    rw [D.py, py_ints] at e1
    cases e1
    unfold SeqAt.shaped
    rw [e2, decide_eq_true (Nat.le_trans e3 (by decide))]; rfl
  have sx : SeqAt.shaped (.int x) = true := rfl
  simp only [inB, D.py, py_ints, sh, sx, Bool.and_self, if_true]
  congr 1
  rw [List.any_map]
  induction l with
  | nil => simp
  | cons y l ih =>
    rw [List.any_cons, ih]
    simp only [Function.comp, PyData.eqv, List.mem_cons]
    · by_cases h : y = x
      · subst h; simp
      · have : ¬ x = y := fun q => h q.symm
        simp [h, this]
    · obtain ⟨p, e1, e2, e3⟩ := cmp_intsL l
      rw [D.py, py_ints] at e1
      cases e1
      unfold SeqAt.shaped
      rw [e2, decide_eq_true (Nat.le_trans e3 (by decide))]; rfl
theorem flat_ints : ∀ l : List Int, flatAll (l.map .int) = some (l.map V.int)
  | [] => by rw [List.map_nil, flatAll]; rfl
  | x :: l => by rw [List.map_cons, flatAll, flat_ints l]; rfl
theorem inTB_ints (x : Int) (l : List Int) : inTB (.int x) (.tup (l.map .int)) = some (decide (x ∈ l)) := by
  simp only [inTB, Dv, flat_ints, Option.map_some]
  congr 1
  induction l with
  | nil => rfl
  | cons y l ih =>
    rw [List.map_cons]
    simp only [List.mem_cons]
    show (eqV (.int y) (.int x) || inV (.int x) (l.map V.int)) = _
    rw [ih]
    by_cases h : y = x
    · subst h; simp [eqV]
    · have : ¬ x = y := fun q => h q.symm
      simp [eqV, h, this]
theorem mem_ni {x : Nat} {p : List Nat} : (x : Int) ∈ ni p ↔ x ∈ p := by
  unfold ni
  rw [List.mem_map]
  exact ⟨fun ⟨y, hy, e⟩ => by rw [Int.ofNat_inj.mp e] at hy; exact hy, fun h => ⟨x, h, rfl⟩⟩
theorem in_lst (x : Nat) (p : List Nat) : inA (.int (x : Nat)) (.lst ((ni p).map .int)) = some (.bl (decide (x ∈ p))) := by
  simp only [inA, inD, inB_ints, Option.map_some, Option.some_or, mem_ni]
theorem notIn_lst (x : Nat) (p : List Nat) : notInA (.int (x : Nat)) (.lst ((ni p).map .int)) = some (.bl (!decide (x ∈ p))) := by
  simp only [notInA, notInD, inB_ints, Option.map_some, Option.some_or, mem_ni]
theorem in_tup (x : Nat) (p : List Nat) : inA (.int (x : Nat)) (mv p) = some (.bl (decide (x ∈ p))) := by
  have n0 : inB (.int (x : Nat)) (mv p) = none := by simp [inB, D.py]
  simp only [inA, inD, n0, inTD, inTB_ints, Option.map_some, Option.map_none, Option.none_or, mem_ni]
theorem noRefsM {α : Type} (f : α → D) : ∀ l : List α, (∀ x ∈ l, (f x).noRef = true) → noRefs (l.map f) = true
  | [], _ => by rw [List.map_nil, noRefs]
  | x :: l, h => by rw [List.map_cons, noRefs, h x List.mem_cons_self, noRefsM f l fun y m => h y (List.mem_cons_of_mem _ m)]; rfl
theorem noRef_mv (p : List Nat) : (mv p).noRef = true := by simp [D.noRef, noRefs_ints]
theorem ixN_nat {n i : Nat} (h : i < n) : L2.ixN n (i : Int) = some i := by
  unfold L2.ixN
  rw [if_pos (by omega), if_pos (by omega), Int.toNat_natCast]
theorem ap_upd {r : List Nat} {k x : Nat} (h : k < r.length) (j : Nat) : ap (r.set k x) j = if j = k then x else ap r j := by
  unfold ap
  rw [List.getD_eq_getElem?_getD, List.getD_eq_getElem?_getD]
  by_cases e : j = k
  · subst e
    rw [List.getElem?_set_self h, if_pos rfl]; rfl
  · rw [List.getElem?_set_ne (fun q => e q.symm), if_neg e]
/-- which places were met -/
def mb (n : Nat) (S : List Nat) : List D := (List.range n).map fun i => D.bl (decide (i ∈ S))
theorem mb_len (n : Nat) (S : List Nat) : (mb n S).length = n := by rw [mb, List.length_map, List.length_range]
theorem mb_get {n i : Nat} {S : List Nat} (h : i < n) : (mb n S)[i]? = some (.bl (decide (i ∈ S))) := by
  rw [mb, List.getElem?_map, List.getElem?_range h]; rfl
theorem mb_set {n i : Nat} {S : List Nat} (h : i < n) : (mb n S).set i (.bl true) = mb n (S ++ [i]) := by
  refine List.ext_getElem? fun j => ?_
  by_cases e : i = j
  · subst e
    rw [List.getElem?_set_self (by rw [mb_len]; exact h), mb_get h]
    simp
  · rw [List.getElem?_set_ne e]
    rcases Nat.lt_or_ge j n with k | k
    · rw [mb_get k, mb_get k]
      have : ¬ j = i := fun q => e q.symm
      simp [this]
    · rw [List.getElem?_eq_none (by rw [mb_len]; exact k), List.getElem?_eq_none (by rw [mb_len]; exact k)]
theorem mb_nil (n : Nat) : (List.replicate n [D.bl false]).flatten = mb n [] := by
  unfold mb
  induction n with
  | zero => rfl
  | succ n ih => rw [List.replicate_succ', List.flatten_append, ih, List.range_succ, List.map_append]; rfl
theorem repL_eq (xs : List D) (k : Int) : repL (.lst xs) (.int k) = if (decide (k < 2 ^ 62) && (decide (-(2 ^ 62) < k) && fits (xs.length * k.toNat))) = true then some (.lst (List.replicate k.toNat xs).flatten) else none := id rfl
theorem rep_ok {x : D} {n : Nat} (h : n ≤ 1000) : repL (.lst [x]) (.int (n : Nat)) = some (.lst (List.replicate n [x]).flatten) := by
  have f : fits ([x].length * (n : Int).toNat) = true := fits_of (by simp; omega)
  have e : (decide ((n : Int) < 2 ^ 62) && (decide (-(2 ^ 62) < (n : Int)) && fits ([x].length * (n : Int).toNat))) = true := by
    rw [f, decide_eq_true (show (n : Int) < 2 ^ 62 by omega), decide_eq_true (show -(2 ^ 62) < (n : Int) by omega)]; rfl
  rw [repL_eq, if_pos e, Int.toNat_natCast]
theorem enumD_at : ∀ (l : List D) (k : Nat), enumD k l = (List.range l.length).map fun i => .tup [.int ((k + i : Nat) : Int), l.getD i .non]
  | [], k => rfl
  | x :: l, k => by
    have : enumD k (x :: l) = .tup [.int (k : Nat), x] :: enumD (k + 1) l := by first | rfl | (rw [enumD]; done) | (simp [enumD])
    rw [this, enumD_at l, List.length_cons, List.range_succ_eq_map, List.map_cons, List.map_map]
    congr 1
    refine List.map_congr_left fun i _ => ?_
    simp only [Function.comp, List.getD_cons_succ]
    rw [show k + 1 + i = k + (i + 1) by omega]
theorem enum_mv (p : List Nat) : enumD 0 ((ni p).map .int) = (List.range p.length).map fun i : Nat => .tup [.int (i : Nat), .int (ap p i : Nat)] := by
  rw [enumD_at, List.length_map, ni_len]
  refine List.map_congr_left fun i hi => ?_
  have := ni_get (ap_get (List.mem_range.1 hi))
  rw [List.getD_eq_getElem?_getD, this, Nat.zero_add]; rfl
theorem erase_perm {α : Type} {x : α} : ∀ {l : List α} {i : Nat}, l[i]? = some x → (x :: l.eraseIdx i).Perm l
  | [], i, h => by simp at h
  | y :: l, 0, h => by cases h; exact .refl _
  | y :: l, i + 1, h => by
    rw [List.eraseIdx_cons_succ]
    exact (List.Perm.swap y x _).trans ((erase_perm (l := l) (i := i) (by simpa using h)).cons y)
theorem erase_map {α β : Type} (f : α → β) : ∀ (l : List α) (i : Nat), (l.map f).eraseIdx i = (l.eraseIdx i).map f
  | [], i => by simp
  | y :: l, 0 => rfl
  | y :: l, i + 1 => by rw [List.map_cons, List.eraseIdx_cons_succ, List.eraseIdx_cons_succ, List.map_cons, erase_map f l i]
theorem seqIx_nat {n i : Nat} (h : i < n) : seqIndex? (i : Int) n = some i := by
  unfold seqIndex?
  have h1 : ¬ (i : Int) < 0 := by omega
  have h2 : (decide (0 ≤ (i : Int)) && decide ((i : Int) < (n : Int))) = true := by
    rw [decide_eq_true (show (0 : Int) ≤ i by omega), decide_eq_true (show (i : Int) < n by omega)]; rfl
  simp only [h1, if_false, h2, if_true, Int.toNat_natCast]
theorem popN_at {l : List D} {i : Nat} {x : D} (h : l[i]? = some x) (hz : l.length ≤ 1000000) : popN l (i : Int) = some (x, l.eraseIdx i) := by
  have hl := (List.getElem?_eq_some_iff.mp h).1
  have b : (decide (-(2 ^ 63) ≤ (i : Int)) && decide ((i : Int) < 2 ^ 63)) = true := by
    rw [decide_eq_true (show -(2 ^ 63) ≤ (i : Int) by omega), decide_eq_true (show (i : Int) < 2 ^ 63 by omega)]; rfl
  unfold popN
  rw [if_pos b, seqIx_nat hl]
  simp only [h]
theorem appPop_of {i j : Nat} {fe : DE} {τ : List Sl} {h h' : HS} {k : Int} {xs ys zs : List D} {y : D} (hi : τ[i]? = some (.own xs)) (hj : τ[j]? = some (.own ys)) (e : fe τ h = .ok (.int k) h') (pn : popN ys k = some (y, zs)) (z : xs.length < sizeLine) (ne : j ≠ i) :
    appPopS i j fe τ h = .nx ((τ.set j (.own zs)).set i (.own (xs ++ [y]))) h' := by
  have zz : (decide (xs.length < sizeLine) && decide (j ≠ i)) = true := by rw [decide_eq_true z, decide_eq_true ne]; rfl
  rw [ap_appPopS]
  simp only [hi, hj, e, ro_ok, pn]
  rw [if_pos zz]
theorem cut_to' (l : List D) (i : Nat) : Sw.cutD l none (some (i : Int)) = l.take i := by
  unfold Sw.cutD
  rw [HT.sIx_none, show HT.sIx l.length l.length (some (i : Int)) = min i l.length from HT.sIx_nat _ _ i, List.drop_zero, Nat.sub_zero]
  rcases Nat.le_total i l.length with h | h
  · rw [Nat.min_eq_left h]
  · rw [Nat.min_eq_right h, List.take_of_length_le (Nat.le_refl _), List.take_of_length_le h]
theorem cut_from' (l : List D) (i : Nat) : Sw.cutD l (some (i : Int)) none = l.drop i := by
  unfold Sw.cutD
  rw [HT.sIx_none, show HT.sIx l.length 0 (some (i : Int)) = min i l.length from HT.sIx_nat _ _ i]
  rcases Nat.le_total i l.length with h | h
  · rw [Nat.min_eq_left h, List.take_of_length_le (by rw [List.length_drop]; exact Nat.le_refl _)]
  · rw [Nat.min_eq_right h, List.drop_of_length_le (Nat.le_refl _), List.drop_of_length_le h]
    simp
/-- a comprehension that draws -/
theorem lcL_inv {α : Type} {g : GT} {te : DE} {τ : List Sl} (enc : α → D) (P : HS → Prop) (R : D → Prop) : ∀ (l : List α) (h : HS), P h → (∀ x ∈ l, ∀ h, P h → ∃ τ1 d h', g (enc x) τ = some τ1 ∧ te τ1 h = .ok d h' ∧ P h' ∧ R d) →
    ∃ ds h', lcL g (fun _ h => .ok true h) te τ (l.map enc) h = .ok ds h' ∧ P h' ∧ ds.length = l.length ∧ ∀ d ∈ ds, R d
  | [], h, p, _ => ⟨[], h, rfl, p, rfl, fun d m => by cases m⟩
  | x :: l, h, p, H => by
    obtain ⟨τ1, d, h1, e1, e2, p1, r1⟩ := H x List.mem_cons_self h p
    obtain ⟨ds, h2, e3, p2, hl, hr⟩ := lcL_inv enc P R l h1 p1 fun y m => H y (List.mem_cons_of_mem _ m)
    refine ⟨d :: ds, h2, ?_, p2, by rw [List.length_cons, List.length_cons, hl], fun z m => ?_⟩
    · rw [List.map_cons, lcL, e1]
      simp only [Res.nox, Res.bind, if_true, e2, e3]
    · rcases List.mem_cons.1 m with rfl | m
      · exact r1
      · exact hr z m
theorem all_of {α : Type} {f : α → D} {R : α → Prop} : ∀ {ds : List D}, (∀ d ∈ ds, ∃ a, d = f a ∧ R a) → ∃ l : List α, ds = l.map f ∧ ∀ a ∈ l, R a
  | [], _ => ⟨[], rfl, fun a m => by cases m⟩
  | d :: ds, h => by
    obtain ⟨a, rfl, r⟩ := h d List.mem_cons_self
    obtain ⟨l, rfl, hl⟩ := all_of fun z m => h z (List.mem_cons_of_mem _ m)
    exact ⟨a :: l, rfl, fun b m => by
      rcases List.mem_cons.1 m with rfl | m
      · exact r
      · exact hl b m⟩
theorem map_inj_perm {l m : List Nat} (h : l.Perm m) {n : Nat} (hm : m = List.range n) : Mv n l := by subst hm; exact .of_perm h
/-- max(1, min(K, len(script))) -/
theorem spots_ok (K : Int) (h1 : 1 ≤ K) (h2 : K ≤ 1000) (ns : List Int) (r : List Sl) (h : HS) : ∃ k : Nat, biR maxsG (consR (kD (.int 1)) (consR (biR minsG (consR (kD (.int K)) (consR (biR lenG (consR (nS 0) aN)) aN))) aN)) (.val (.frl (ns.map .int)) :: r) h = .ok (.int (k : Nat)) h ∧ k ≤ 1000 := by
  obtain ⟨z, e, z1, z2⟩ : ∃ z : Int, (if (if (ns.length : Int) < K then (ns.length : Int) else K) > 1 then (if (ns.length : Int) < K then (ns.length : Int) else K) else 1) = z ∧ 1 ≤ z ∧ z ≤ K := ⟨_, rfl, by split <;> split <;> omega, by split <;> split <;> omega⟩
  refine ⟨z.toNat, ?_, by omega⟩
  rw [show ((z.toNat : Nat) : Int) = z by omega, ← e]
  simp [ap_iSub, ap_addD, ap_mulD, ap_iLt, ap_iLe, ap_iGt, ap_iGe, ap_iMod, ap_iDiv, ap_ifR, ap_nS, ap_nB, ap_kD, ap_aN, ap_tY, ap_oN, ap_oS, ap_rT, ap_xS, ap_bkS, ap_ctS, ap_noS, ap_rN, ap_frS, ap_mN, ap_shR, ap_seqS, ap_iteS, ap_cmpT, ap_setS, ap_setN, ap_nilS, ap_res1, ap_res2, ap_refIxR, ap_rputS, ap_consR, ap_callR, ap_biR, ap_isiR, ap_bAndR, ap_bNotR, ap_bOrR, ap_chR, ap_chT, ap_truR, ap_tNotR, ap_tAndR, ap_tOrR, ap_seqR, ap_rngR1, ap_rngR2, ap_enumR, ap_zipR, ap_sliceR, ap_tupR, ap_lstR, ap_starR, ap_augS, ap_asgS, ap_par2, ap_ownM, ap_valM, ap_appS, ap_extS, ap_putS, ap_revR, rb_ok, rn_ok, ro_ok, tr_some, getS, getB, toRes, lenG, minsG, maxsG, minG, maxG]
/-- a turn of the law: the dice, and what is asked of them -/
theorem forS_any {α : Type} {g : GT} {b : DS} (enc : α → D) (I : List Sl → HS → Prop) (l : List α) (τ : List Sl) (h : HS) (i : I τ h) (H : ∀ x τ h, x ∈ l → I τ h → ∃ τ1 τ2 h2, g (enc x) τ = some τ1 ∧ b τ1 h = .nx τ2 h2 ∧ I τ2 h2) :
    ∃ τ2 h2, forS g b (l.map enc) τ h = .nx τ2 h2 ∧ I τ2 h2 :=
  forS_inv enc (fun _ => I) l [] τ h i fun _ x τ h i m => H x τ h m i
end Sw

/-! Sw, part V: range(a, b, -1); tests by chains of three; {}; repr of a bool. -/
namespace Sw
open PySem PySem.Spec PyProof.Rows L2
variable [Tbs]
section
variable {C : Cn} {a b c e tg : Expr} {fa fb fe : DE} {p pos : Pos}
def rngD3 (a b : DE) : DA := fun τ h => (a τ h).bind fun x h1 => (b τ h1).bind fun y h2 => match x, y with
  | .int m, .int n => if (decide (-(2 ^ 62) ≤ m) && decide (m < 2 ^ 62)) && (decide (-(2 ^ 62) ≤ n) && decide (n < 2 ^ 62)) then .ok (rangeC m (-1) (m - n).toNat) h2 else .bad
  | _, _ => .bad
theorem den_irngD {k : Nat} {p1 p2 : Pos} (hg : glB C.sc "range" = true) (hm : C.g.mg "range" = none) (ha : DenB C a fa) (hb : DenB C b fb)
    (hs : ∀ env, starEach [a, b, .UnaryOp .USub (.Constant (.int 1) k p1) p2] env = (false, eval a env) :: starEach [b, .UnaryOp .USub (.Constant (.int 1) k p1) p2] env)
    (hs2 : ∀ env, starEach [b, .UnaryOp .USub (.Constant (.int 1) k p1) p2] env = (false, eval b env) :: starEach [.UnaryOp .USub (.Constant (.int 1) k p1) p2] env)
    (hpl : ∀ env, (backTo pos (starEach [b, .UnaryOp .USub (.Constant (.int 1) k p1) p2] env)).any (·.1) = false) : DenI C tg (.Call (.Name "range" p) [a, b, .UnaryOp .USub (.Constant (.int 1) k p1) p2] [] pos) (rngD3 fa fb) := fun X E ok => by
  obtain ⟨t, pa, q⟩ := ha X E ok
  obtain ⟨t', pb, q'⟩ := hb X E ok
  obtain ⟨g1, g2, g3⟩ := glB_ok ok hg
  have pm : PE X (.UnaryOp .USub (.Constant (.int 1) k p1) p2) (tUn (rU fun i => .int (-i)) (tC (.int 1))) := pe_un un_neg pe_int
  refine ⟨_, pi_range3 g1 (by rw [ok.mg]; exact hm) (pa_cons pa (pa_cons pb (pa_cons pm pa_nil rfl) (hs2 _)) (hs _)) (hs _) (hpl _), fun W0 W τ σ h Q l fr rh o => ?_⟩
  refine q W0 W τ σ h _ l fr rh (okG.bind o fun x h1 W1 v l1 rh1 b1 o1 => ?_)
  refine q' W0 W1 τ σ h1 _ (l.trans l1) (fr.mono l1) rh1 (okG.bind o1 fun y h2 W2 u l2 rh2 b2 o2 => ?_)
  cases x with
  | int m =>
    cases y with
    | int n =>
      rw [b1.int, b2.int]
      simp only at o2
      split at o2
      · rename_i hc
        simp only [Bool.and_eq_true, decide_eq_true_eq] at hc
        exact ⟨1, rfl, m, n, -1, (m - n).toNat, rfl, RgC.neg hc.1.1 hc.1.2 hc.2.1 hc.2.2, o2 W2 _ (.refl _) rh2 walks_rngC⟩
      · exact o2.elim
    | _ => exact (show False from o2).elim
  | _ => exact (show False from o2).elim
theorem _root_.Sw.call_repr_bl {X : Cx} : CallR X (.builtin "repr") (fun xs H Q => ∃ b : Bool, xs = [.bl b] ∧ Q (.str (if b then "True" else "False")) H) := by
  intro pins s σ H xs us Q I r h
  obtain ⟨b, rfl, q⟩ := h
  obtain ⟨u, rfl, t⟩ := vals1 r
  cases t
  exact PySem.P.repr_of_bool ⟨.str _, H, I.tok _, ⟨_, rfl⟩, q⟩
def reprG : List D → Option D
  | [.bl b] => some (.str (if b then "True" else "False"))
  | _ => none
theorem c_repr : CalD C (.builtin "repr") reprG := fun X E ok => ⟨_, call_repr_bl, fun W h ds vs d Q rh b e k => by
  unfold reprG at e
  split at e
  · obtain ⟨v, rfl, b1⟩ := BorsAll.one b
    cases e
    rw [b1.bl]
    exact ⟨_, rfl, k W _ (.refl _) rh rep_str⟩
  · cases e⟩
/-- {} -/
theorem den_emptyK : DenN C (.Dict [] [] pos) (fun _ h => .ok (.dK []) h) := fun X E ok =>
  ⟨_, pe_dnewK, fun W0 W τ σ h Q l fr rh o => fun np hn => by
    have lw := le_put (o := HO.dK []) hn
    exact o (W.put np (.dK [])) (.ref np) lw (rh_put hn rh) ⟨np, [], rfl, upd_same, by rw [RepK], fun f => rh.up np f hn, fun m => rh.there m hn, hn⟩⟩
end
section
variable {X : Cx} {a b c d : Expr} {ta tb tc td : TE} {pos : Pos}
theorem pt_ch3 {op op' op2 : CmpOp} {r r' r2 : R2} (o0 : OpR X (compareOp op) r) (o1 : OpR X (compareOp op') r') (o2 : OpR X (compareOp op2) r2) (ha : PE X a ta) (hb : PE X b tb) (hc : PE X c tc) (hd : PE X d td)
    (hm : lastMarks [op, op', op2] [b, c, d] = false) : PT X (.Compare a [op, op', op2] [b, c, d] pos) (tTest (tCh3 r r' r2 ta tb tc td)) := by
  refine ⟨fun pins s σ H Q I h => ?_⟩
  refine isTrue_chain (thn (ha.run pins s σ H _ I h) fun va s1 ⟨x, H1, I1, ra, qa⟩ => test_link (thn (hb.run pins s1 σ H1 _ I1 qa) fun vb s2 ⟨y, H2, I2, rb, qb⟩ =>
    thn (o0 pins s2 σ H2 x y va vb _ I2 ra rb qb) fun vk s3 ⟨z, H3, I3, rk, k, ek, qk⟩ => ?_)) hm
  subst ek; cases rk
  refine wpAny_truthy_bool ?_
  cases k with
  | false =>
    obtain ⟨k', e', q'⟩ := qk
    cases e'
    exact ite_ff ⟨H3, I3, q'⟩
  | true =>
    refine ite_tt (test_link (thn (hc.run pins s3 σ H3 _ I3 qk) fun vc s4 ⟨u, H4, I4, rc, qc⟩ => thn (o1 pins s4 σ H4 y u vb vc _ I4 rb rc qc) fun vj s5 ⟨z', H5, I5, rj, j, ej, qj⟩ => ?_))
    subst ej; cases rj
    refine wpAny_truthy_bool ?_
    cases j with
    | false =>
      obtain ⟨k', e', q'⟩ := qj
      cases e'
      exact ite_ff ⟨H5, I5, q'⟩
    | true =>
      refine ite_tt (test_last (thn (hd.run pins s5 σ H5 _ I5 qj) fun vd s6 ⟨w, H6, I6, rd, qd⟩ => thn (o2 pins s6 σ H6 u w vc vd _ I6 rc rd qd) fun vm s7 ⟨z2, H7, I7, rm, m, em, qm⟩ => ?_))
      subst em; cases rm
      exact wpAny_truthy_bool ⟨H7, I7, qm⟩
end
def chT3 (g g' g2 : D → D → Option D) (a b c d : DE) : DT := fun τ h => (chR3 g g' g2 a b c d τ h).bind fun d h1 => match d with | .bl k => .ok k h1 | _ => .bad
section
variable {C : Cn} {a b c d : Expr} {fa fb fc fd : DE} {pos : Pos}
theorem den_tchain3 {op op' op2 : CmpOp} {g g' g2 : D → D → Option D} (ho : OpD C (compareOp op) g) (ho' : OpD C (compareOp op') g') (ho2 : OpD C (compareOp op2) g2) (ha : DenB C a fa) (hb : DenB C b fb) (hc : DenB C c fc) (hd : DenB C d fd)
    (hm : lastMarks [op, op', op2] [b, c, d] = false) : DenT C (.Compare a [op, op', op2] [b, c, d] pos) (chT3 g g' g2 fa fb fc fd) := fun X E ok => by
  obtain ⟨r, hr, qr⟩ := ho X E ok
  obtain ⟨r', hr', qr'⟩ := ho' X E ok
  obtain ⟨r2, hr2, qr2⟩ := ho2 X E ok
  obtain ⟨ta, pa, qa⟩ := ha X E ok
  obtain ⟨tb, pb, qb⟩ := hb X E ok
  obtain ⟨tc, pc, qc⟩ := hc X E ok
  obtain ⟨td, pd, qd⟩ := hd X E ok
  refine ⟨_, pt_ch3 hr hr' hr2 pa pb pc pd hm, fun W0 W τ σ h Q l fr rh o => ?_⟩
  let Q2 : VK := fun v H => ∃ k, v = .bl k ∧ Q k H
  have o : okG C.g.K C.g.mg (Rep C.g.K) W (fun c dd H => E c dd σ H) Q2 (chR3 g g' g2 fa fb fc fd τ h) := okG.bind o fun x h1 W1 v l1 rh1 b1 o1 => by
    cases x with
    | bl k => rw [Rep] at b1; exact ⟨k, b1, okG.now o1 rh1 rfl⟩
    | _ => exact (show False from o1).elim
  refine qa W0 W τ σ h _ l fr rh (okG.bind o fun x h1 W1 v l1 rh1 b1 o1 => ?_)
  refine qb W0 W1 τ σ h1 _ (l.trans l1) (fr.mono l1) rh1 (okG.bind o1 fun y h2 W2 u l2 rh2 b2 o2 => ?_)
  cases e : g x y with
  | none => rw [e] at o2; exact (show False from o2).elim
  | some dk =>
    rw [e] at o2
    cases dk with
    | bl k =>
      refine qr W2 h2 x y v u _ _ rh2 (b1.mono l2) b2 e fun W3 z l3 rh3 r3 => ?_
      rw [Rep] at r3
      refine ⟨k, r3, ?_⟩
      have o3 := okG.mono l3 o2
      cases k with
      | false => exact iteF (okG.now o3 rh3 rep_bl)
      | true =>
        have L3 := (l.trans l1).trans (l2.trans l3)
        refine iteT (qc W0 W3 τ σ h2 _ L3 ((fr.mono l1).mono (l2.trans l3)) rh3 (okG.bind o3 fun z h4 W4 w l4 rh4 b4 o4 => ?_))
        cases e' : g' y z with
        | none => rw [e'] at o4; exact (show False from o4).elim
        | some dk' =>
          rw [e'] at o4
          cases dk' with
          | bl k' =>
            refine qr' W4 h4 y z u w _ _ rh4 (b2.mono (l3.trans l4)) b4 e' fun W5 z5 l5 rh5 r5 => ?_
            rw [Rep] at r5
            refine ⟨k', r5, ?_⟩
            have o5 := okG.mono l5 o4
            cases k' with
            | false => exact iteF (okG.now o5 rh5 rep_bl)
            | true =>
              refine iteT (qd W0 W5 τ σ h4 _ (L3.trans (l4.trans l5)) (((fr.mono l1).mono (l2.trans l3)).mono (l4.trans l5)) rh5 (okG.bind o5 fun w6 h6 W6 v6 l6 rh6 b6 o6 => ?_))
              obtain ⟨d6, e6, k6⟩ := toRes_some o6
              exact qr2 W6 h6 z w6 w v6 d6 Q2 rh6 (b4.mono (l5.trans l6)) b6 e6 k6
          | _ => exact (show False from o4).elim
    | _ => exact (show False from o2).elim
end
theorem ap_chT3 (g g' g2 : D → D → Option D) (a b c d : DE) (τ : List Sl) (h : HS) : chT3 g g' g2 a b c d τ h = ((chR3 g g' g2 a b c d τ h).bind fun d h1 => match d with | .bl k => .ok k h1 | _ => .bad) := id rfl
theorem ap_rngD3 (a b : DE) (τ : List Sl) (h : HS) : rngD3 a b τ h = ((a τ h).bind fun x h1 => (b τ h1).bind fun y h2 => match x, y with
  | .int m, .int n => if (decide (-(2 ^ 62) ≤ m) && decide (m < 2 ^ 62)) && (decide (-(2 ^ 62) ≤ n) && decide (n < 2 ^ 62)) then .ok (rangeC m (-1) (m - n).toNat) h2 else .bad
  | _, _ => .bad) := id rfl
end Sw

/-! Sw, part W: rows of swaps, strict rows: plain Lean, and as data. -/
namespace Sw
variable [Tbs]
namespace Cy
theorem way_close {f : Nat → Nat} {n : Nat} {cs : List (List Nat)} (I : Inj f n) (P : Prt f n cs) : ∀ (F x : Nat) (r : List Nat) (y : Nat), Way f n cs x r y → n < r.length + F + 1 → ∃ r', Way f n cs x r' x
  | 0, x, r, y, w, hF => by have := way_len w; omega
  | F + 1, x, r, y, w, hF => by
    by_cases e : y = x
    · subst e; exact ⟨r, w⟩
    · exact way_close I P F x (r ++ [y]) (f y) (way_step I P w e) (by rw [List.length_append]; simp; omega)
theorem prt_upto {f : Nat → Nat} {n : Nat} (I : Inj f n) : ∀ k, k ≤ n → ∃ cs, Prt f n cs ∧ ∀ i, i < k → i ∈ cs.flatten
  | 0, _ => ⟨[], prt_nil, fun i h => by omega⟩
  | k + 1, h => by
    obtain ⟨cs, P, hk⟩ := prt_upto I k (by omega)
    by_cases m : k ∈ cs.flatten
    · exact ⟨cs, P, fun i hi => by
        rcases Nat.lt_succ_iff_lt_or_eq.1 hi with q | q
        · exact hk i q
        · rw [q]; exact m⟩
    · obtain ⟨r, w⟩ := way_close I P (n + 1) k [] (f k) (way_start (by omega) m) (by simp; omega)
      refine ⟨cs ++ [k :: r], way_done P w, fun i hi => ?_⟩
      rw [List.flatten_append, List.mem_append]
      rcases Nat.lt_succ_iff_lt_or_eq.1 hi with q | q
      · exact .inl (hk i q)
      · subst q; exact .inr (by simp)
theorem dec_exists {f : Nat → Nat} {n : Nat} (I : Inj f n) : ∃ cs, Dec f n cs := by
  obtain ⟨cs, P, h⟩ := prt_upto I n (Nat.le_refl _)
  exact ⟨cs, prt_dec P h⟩
theorem ncyc_le (f : Nat → Nat) (n : Nat) : ncyc f n ≤ n := by
  have : ncyc f n ≤ (List.range n).length := List.countP_le_length
  rwa [List.length_range] at this
end Cy
/-! ### rows -/
structure RowOk (n : Nat) (l : List (Nat × Nat)) : Prop where
  ok : ∀ s ∈ l, s.1 < s.2 ∧ s.2 < n
abbrev prod (p : List Nat) (l : List (Nat × Nat)) : List Nat := l.foldl (fun q s => q.map (Cy.sw s.1 s.2)) p
theorem prod_len (l : List (Nat × Nat)) : ∀ p : List Nat, (prod p l).length = p.length := by
  induction l with
  | nil => intro p; rfl
  | cons s l ih => intro p; show (prod (p.map _) l).length = _; rw [ih, List.length_map]
theorem RowOk.tail {n : Nat} {s : Nat × Nat} {l : List (Nat × Nat)} (r : RowOk n (s :: l)) : RowOk n l := ⟨fun t ht => r.ok t (List.mem_cons_of_mem _ ht)⟩
theorem RowOk.nil {n : Nat} : RowOk n [] := ⟨fun s h => by cases h⟩
theorem RowOk.cons {n : Nat} {s : Nat × Nat} {l : List (Nat × Nat)} (h : s.1 < s.2 ∧ s.2 < n) (r : RowOk n l) : RowOk n (s :: l) := ⟨fun t ht => by
  rcases List.mem_cons.1 ht with rfl | ht
  · exact h
  · exact r.ok t ht⟩
theorem RowOk.rev {n : Nat} {l : List (Nat × Nat)} (r : RowOk n l) : RowOk n l.reverse := ⟨fun s h => r.ok s (List.mem_reverse.1 h)⟩
theorem RowOk.app {n : Nat} {a b : List (Nat × Nat)} (r : RowOk n a) (r' : RowOk n b) : RowOk n (a ++ b) := ⟨fun s h => (List.mem_append.1 h).elim (r.ok s) (r'.ok s)⟩
theorem prod_mv {n : Nat} {l : List (Nat × Nat)} (r : RowOk n l) : ∀ {p : List Nat}, Mv n p → Mv n (prod p l) := by
  induction l with
  | nil => intro p m; exact m
  | cons s l ih =>
    intro p m
    have := r.ok s List.mem_cons_self
    exact ih r.tail (m.map (sw_inj (by omega) this.2))
theorem prod_app' (a b : List (Nat × Nat)) (p : List Nat) : prod p (a ++ b) = prod (prod p a) b := List.foldl_append
theorem sw_sw (x y z : Nat) : Cy.sw x y (Cy.sw x y z) = z := by
  unfold Cy.sw
  split
  · subst_vars
    split <;> simp_all
  · split
    · subst_vars; simp
    · rfl
theorem map_sw_sw (x y : Nat) (p : List Nat) : (p.map (Cy.sw x y)).map (Cy.sw x y) = p := by
  rw [List.map_map]
  conv => rhs; rw [← List.map_id p]
  exact List.map_congr_left fun i _ => sw_sw _ _ _
theorem prod_back (l : List (Nat × Nat)) : ∀ p : List Nat, prod p (l ++ l.reverse) = p := by
  induction l with
  | nil => intro p; rfl
  | cons s l ih =>
    intro p
    have e : prod p ((s :: l) ++ (s :: l).reverse) = (prod (p.map (Cy.sw s.1 s.2)) (l ++ l.reverse)).map (Cy.sw s.1 s.2) := by
      show ((s :: l) ++ (s :: l).reverse).foldl _ _ = _
      rw [List.reverse_cons, List.cons_append, List.foldl_cons, ← List.append_assoc, List.foldl_append]
      rfl
    rw [e, ih, map_sw_sw]
theorem prod_even (s : Nat × Nat) : ∀ (m : Nat) (p : List Nat), prod p (List.replicate (2 * m) s) = p
  | 0, p => rfl
  | m + 1, p => by
    rw [show 2 * (m + 1) = 2 * m + 1 + 1 by omega, List.replicate_succ, List.replicate_succ]
    show prod ((p.map _).map _) (List.replicate (2 * m) s) = p
    rw [map_sw_sw, prod_even s m]
theorem ncyc_sw {n : Nat} {p : List Nat} (m : Mv n p) {x y : Nat} (hx : x < n) (hy : y < n) : Cy.ncyc (ap (p.map (Cy.sw x y))) n = Cy.ncyc (fun z => Cy.sw x y (ap p z)) n :=
  Cy.ncyc_congr (m.map (sw_inj hx hy)).inj fun z hz => ap_map (by rw [m.len]; exact hz)
theorem ncyc_range (n : Nat) : Cy.ncyc (ap (List.range n)) n = n := by
  rw [Cy.ncyc_congr (mv_id n).inj (g := fun x => x) fun x hx => ap_range hx, Cy.ncyc_id]
/-! ### the strict row -/
def str : Nat → List Nat → List (Nat × Nat)
  | 0, _ => []
  | k + 1, p => if ap p (k + 1) = k + 1 then str k p else (ap p (k + 1), k + 1) :: str k (p.map (Cy.sw (ap p (k + 1)) (k + 1)))
/-- what is above k stays -/
def Top (n k : Nat) (p : List Nat) : Prop := ∀ i, k < i → i < n → ap p i = i
theorem top_lt {n k : Nat} {p : List Nat} (m : Mv n p) (t : Top n (k + 1) p) (hk : k + 1 < n) (ne : ap p (k + 1) ≠ k + 1) : ap p (k + 1) < k + 1 := by
  have h1 := m.ap_lt hk
  rcases Nat.lt_or_ge (k + 1) (ap p (k + 1)) with q | q
  · have h2 := t _ q h1
    have := m.inj.inj _ _ h1 hk h2
    omega
  · omega
theorem top_fix {n k : Nat} {p : List Nat} (t : Top n (k + 1) p) (hk : k + 1 < n) (e : ap p (k + 1) = k + 1) : Top n k p := fun i h1 h2 => by
  by_cases q : i = k + 1
  · rw [q, e]
  · exact t i (by omega) h2
theorem top_step {n k : Nat} {p : List Nat} (m : Mv n p) (t : Top n (k + 1) p) (hk : k + 1 < n) (ne : ap p (k + 1) ≠ k + 1) : Top n k (p.map (Cy.sw (ap p (k + 1)) (k + 1))) := fun i h1 h2 => by
  have lt := top_lt m t hk ne
  rw [ap_map (by rw [m.len]; exact h2)]
  by_cases q : i = k + 1
  · subst q; exact Cy.sw_l
  · rw [t i (by omega) h2]
    exact Cy.sw_o (by omega) q
theorem str_row {n : Nat} : ∀ {k : Nat} {p : List Nat}, Mv n p → Top n k p → k < n → RowOk n (str k p)
  | 0, p, m, t, hk => .nil
  | k + 1, p, m, t, hk => by
    rw [str]
    split
    · rename_i e
      exact str_row m (top_fix t hk e) (by omega)
    · rename_i ne
      have lt := top_lt m t hk ne
      exact .cons ⟨lt, hk⟩ (str_row (m.map (sw_inj (by omega) hk)) (top_step m t hk ne) (by omega))
theorem top0 {n : Nat} {p : List Nat} (m : Mv n p) (t : Top n 0 p) : p = List.range n := by
  refine ap_ext (by rw [m.len, List.length_range]) fun i hi => ?_
  rw [m.len] at hi
  rw [ap_range hi]
  cases i with
  | zero =>
    obtain ⟨j, hj, e⟩ := m.onto hi
    cases j with
    | zero => exact e
    | succ j => rw [t (j + 1) (by omega) hj] at e; omega
  | succ i => exact t _ (by omega) hi
theorem str_prod {n : Nat} : ∀ {k : Nat} {p : List Nat}, Mv n p → Top n k p → k < n → prod p (str k p) = List.range n
  | 0, p, m, t, hk => top0 m t
  | k + 1, p, m, t, hk => by
    rw [str]
    split
    · rename_i e
      exact str_prod m (top_fix t hk e) (by omega)
    · rename_i ne
      have lt := top_lt m t hk ne
      exact str_prod (m.map (sw_inj (by omega) hk)) (top_step m t hk ne) (by omega)
theorem str_len {n : Nat} : ∀ {k : Nat} {p : List Nat}, Mv n p → Top n k p → k < n → (str k p).length + Cy.ncyc (ap p) n = n
  | 0, p, m, t, hk => by rw [top0 m t, ncyc_range]; simp [str]
  | k + 1, p, m, t, hk => by
    rw [str]
    split
    · rename_i e
      exact str_len m (top_fix t hk e) (by omega)
    · rename_i ne
      have lt := top_lt m t hk ne
      have ih := str_len (m.map (sw_inj (by omega) hk)) (top_step m t hk ne) (by omega)
      obtain ⟨cs, d⟩ := Cy.dec_exists m.inj
      obtain ⟨c, hc, hx⟩ := List.mem_flatten.1 ((d.all (k + 1)).2 hk)
      rw [ncyc_sw m (by omega) hk, Cy.ncyc_part d (by omega) hc (Cy.cyc_closed (d.cyc c hc) hx) hx] at ih
      rw [List.length_cons]
      omega
theorem topAll {n : Nat} {p : List Nat} : Top n (n - 1) p := fun i h1 h2 => by omega
/-- the strict row of p -/
abbrev strictR (p : List Nat) : List (Nat × Nat) := (str (p.length - 1) p).reverse
theorem strict_ok {n : Nat} {p : List Nat} (m : Mv n p) (h1 : 1 ≤ n) : RowOk n (strictR p) ∧ prod (List.range n) (strictR p) = p ∧ (strictR p).length + Cy.ncyc (ap p) n = n := by
  have e : p.length - 1 = n - 1 := by rw [m.len]
  refine ⟨?_, ?_, ?_⟩
  · show RowOk n (str (p.length - 1) p).reverse
    rw [e]
    exact (str_row m topAll (by omega)).rev
  · show prod _ (str (p.length - 1) p).reverse = p
    rw [e, ← str_prod m topAll (by omega), ← prod_app', prod_back]
  · show (str (p.length - 1) p).reverse.length + _ = n
    rw [List.length_reverse, e]
    exact str_len m topAll (by omega)
/-- taking the last swap away -/
theorem str_first {n : Nat} : ∀ {k : Nat} {p : List Nat} {s : Nat × Nat} {r : List (Nat × Nat)}, Mv n p → Top n k p → k < n → str k p = s :: r → str k (p.map (Cy.sw s.1 s.2)) = r ∧ s.1 < s.2 ∧ s.2 ≤ k
  | 0, p, s, r, m, t, hk, e => by cases e
  | k + 1, p, s, r, m, t, hk, e => by
    rw [str] at e
    split at e
    · rename_i e1
      obtain ⟨h1, h2, h3⟩ := str_first m (top_fix t hk e1) (by omega) e
      refine ⟨?_, h2, by omega⟩
      rw [str, if_pos, h1]
      rw [ap_map (by rw [m.len]; exact hk), e1]
      exact Cy.sw_o (by omega) (by omega)
    · rename_i ne
      cases e
      have lt := top_lt m t hk ne
      refine ⟨?_, lt, Nat.le_refl _⟩
      rw [str, if_pos]
      rw [ap_map (by rw [m.len]; exact hk)]
      exact Cy.sw_l
/-- strict rows rise -/
theorem str_desc {n : Nat} : ∀ {k : Nat} {p : List Nat}, Mv n p → Top n k p → k < n → (∀ s ∈ str k p, s.2 ≤ k) ∧ (str k p).Pairwise (fun a b => b.2 < a.2)
  | 0, p, m, t, hk => ⟨(fun s h => by cases h), .nil⟩
  | k + 1, p, m, t, hk => by
    rw [str]
    split
    · rename_i e
      obtain ⟨h1, h2⟩ := str_desc m (top_fix t hk e) (by omega)
      exact ⟨fun s hs => by have := h1 s hs; omega, h2⟩
    · rename_i ne
      have lt := top_lt m t hk ne
      obtain ⟨h1, h2⟩ := str_desc (m.map (sw_inj (by omega) hk)) (top_step m t hk ne) (by omega)
      refine ⟨fun s hs => ?_, List.pairwise_cons.2 ⟨fun s hs => by have := h1 s hs; show s.2 < k + 1; omega, h2⟩⟩
      rcases List.mem_cons.1 hs with rfl | hs
      · exact Nat.le_refl _
      · have := h1 s hs; omega
theorem strict_asc {n : Nat} {p : List Nat} (m : Mv n p) (h1 : 1 ≤ n) : (strictR p).Pairwise (fun a b => a.2 < b.2) := by
  have e : p.length - 1 = n - 1 := by rw [m.len]
  show (str (p.length - 1) p).reverse.Pairwise _
  rw [e, List.pairwise_reverse]
  exact (str_desc m topAll (by omega)).2
/-! ### as data -/
abbrev pr (lo hi : Nat) : D := .tup [.int (lo : Nat), .int (hi : Nat)]
abbrev swD (s : Nat × Nat) : D := pr s.1 s.2
abbrev rowD (l : List (Nat × Nat)) : D := .tup (l.map swD)
theorem noRef_row (l : List (Nat × Nat)) : noRefs (l.map swD) = true := noRefsM swD l fun s _ => by simp [D.noRef, noRefs]
theorem eq_mv (p q : List Nat) : eqD (mv p) (mv q) = some (.bl (decide (p = q))) := by
  unfold eqD
  rw [eqB_ints]
  simp only [Option.map_some]
  by_cases h : p = q
  · subst h; simp
  · have : ¬ ni p = ni q := fun e => h (ni_inj e)
    simp [h, this]
theorem ne_mv (p q : List Nat) : neD (mv p) (mv q) = some (.bl (!decide (p = q))) := by
  unfold neD
  rw [eqB_ints]
  simp only [Option.map_some]
  by_cases h : p = q
  · subst h; simp
  · have : ¬ ni p = ni q := fun e => h (ni_inj e)
    simp [h, this]
end Sw

/-! Sw, part X: raise C('text'), try .. except C: return of texts. -/
namespace Sw
open PySem PySem.Spec PyProof.Rows L2
variable [Tbs]
section
variable {fa : List He.Fa} {fn : List He.DefD} {g : Gx}
/-- a class of the program's own over ValueError -/
structure ExC (g : Gx) (x : Str) : Prop where
  mg : g.mg x = some (.ref (He.ga g.K x))
  ex : PySem.W.excIn g.K (He.ga g.K x) He.veBase "ValueError.__new__" = true
  kp : PySem.W.keepIn g.K (.ref (He.ga g.K x)) = true
  sb : PySem.W.subIn g.K (.ref (He.ga g.K x)) (.type "BaseException") = some true
  ty : PySem.W.typeIn g.K (.ref (He.ga g.K x)) = some (.type "type")
theorem Tx.exc (T : Tx fa fn g) (i j : Nat) {x : Str} (e : fa[i]? = some (.glo x)) (e2 : fa[j]? = some (.exc x)) : ExC g x := by
  obtain ⟨h1, h2, h3, h4⟩ := He.exc_ok (T.c.fact j e2)
  exact ⟨T.glo i e, h1, h2, h3, h4⟩
theorem Tx.exm (T : Tx fa fn g) (i : Nat) {x y : Str} {b : Bool} (e : fa[i]? = some (.exm x y b)) : PySem.W.exmOne g.K (.ref (He.ga g.K x)) (.ref (He.ga g.K y)) = some b := He.exm_ok (T.c.fact i e)
end
section
variable {C : Cn} {x y : Str} {p p2 pos pos' : Pos}
/-- raise x('m') -/
def raiseS (x : Str) : DS := fun _ h => .exc ⟨x, none⟩ h
theorem den_raise {m : Str} {j : Nat} (E : ExC C.g x) (hg : glB C.sc x = true) : DenS C (.Raise (some (.Call (.Name x p) [.Constant (.str m) j p2] [] pos)) none pos') (raiseS x) := fun X W ok => by
  obtain ⟨g1, g2, g3⟩ := glB_ok ok hg
  refine ⟨_, ps_raise ok.calm ok.takes (pmk_own PySem.F.excBase_ValueError (by rw [ok.K]; exact E.ex) (by rw [ok.mg]; exact E.mg) (by rw [ok.K]; exact E.kp) (raises_own (by rw [ok.K]; exact E.sb) (by rw [ok.K]; exact E.ty)) g1 g2), fun W0 W1 τ σ h D l fr rh o => ?_⟩
  exact o W1 _ none σ l (.refl _) rh ⟨E.mg, rfl⟩
/-- which classes the clause takes -/
def Mt (g : Gx) (y : Str) (m : List (Str × Bool)) : Prop := ∀ p ∈ m, g.mg p.1 = some (.ref (He.ga g.K p.1)) ∧ PySem.W.exmOne g.K (.ref (He.ga g.K p.1)) (.ref (He.ga g.K y)) = some p.2
theorem mt_nil {g : Gx} : Mt g y [] := fun p m => by cases m
theorem mt_cons {g : Gx} {b : Bool} {m : List (Str × Bool)} (h1 : g.mg x = some (.ref (He.ga g.K x))) (h2 : PySem.W.exmOne g.K (.ref (He.ga g.K x)) (.ref (He.ga g.K y)) = some b) (h : Mt g y m) : Mt g y ((x, b) :: m) := fun p mm => by
  rcases List.mem_cons.1 mm with rfl | mm
  · exact ⟨h1, h2⟩
  · exact h p mm
/-- try: f, except y: return (m1, m2) -/
def tryR (m : List (Str × Bool)) (f : DS) (d : D) : DS := fun τ h => match f τ h with
  | .exc x h' => match m.find? (fun p => p.1 == x.cls) with
    | some (_, true) => .rt d h'
    | some (_, false) => .exc x h'
    | none => .bad
  | r => r
theorem den_tryR {body : List Stmt} {f : DS} {m : List (Str × Bool)} {s1 s2 : Str} {j1 j2 k : Nat} {np q1 q2 q3 q4 : Pos} (hb : DenSs C body f) (hn : glB C.sc y = true) (hy : C.g.mg y = some (.ref (He.ga C.g.K y))) (hm : Mt C.g y m) (ht : ∀ x, C.fn x = true) :
    DenS C (.Try body [.ExceptHandler (some (.Name y np)) none [.Return (some (.Tuple [.Constant (.str s1) j1 q1, .Constant (.str s2) j2 q2] k q3)) q4] pos'] [] [] pos) (tryR m f (.tup [.str s1, .str s2])) := fun X E ok => by
  obtain ⟨g1, g2, g3⟩ := glB_ok ok hn
  obtain ⟨t1, t2⟩ := ok.top ht
  let tb : WX → TS := fun V D σ H => ∃ W0 W1 τ h, W1.H = H ∧ Le W0 W1 ∧ Frm C.g.K W0 W1 τ σ ∧ RH C.g.K W1 h ∧ okS C W0 W1 V D (f τ h)
  refine ⟨_, ps_try_only (tb := tb) (c := .ref (He.ga C.g.K y)) (ts := fun _ _ _ => tRet (tTup (tCons (tC (.str s1)) (tCons (tC (.str s2)) tNil)))) t1 t2 ⟨g1, g2, .inl (by rw [ok.mg]; exact hy)⟩ ok.takes (fun V pn xe tk po => ?_) (fun a oe cls d pn _ _ => pss_one (ps_ret (pe_tup (pa_cons pe_str (pa_cons pe_str pa_nil))))), fun W0 W τ σ h D l fr rh o => ?_⟩
  · have okV : CxOk C (X.tr pn xe) V := ⟨ok.prog, ok.w, ok.K, ok.mg, ok.base, ok.names, ok.nd, ok.scope, ok.calm, ok.room, tk, po, ok.fnk, ok.top, ok.gd, ok.lm⟩
    obtain ⟨t, pt, qt⟩ := hb _ _ okV
    exact ⟨fun pins s σ H D I hw => pt.run pins s σ H D I (by
      obtain ⟨W0, W1, τ, h, rfl, l, fr, rh, o⟩ := hw
      exact qt W0 W1 τ σ h D l fr rh o)⟩
  · refine ⟨W0, W, τ, h, rfl, l, fr, rh, ?_⟩
    have o : okS C W0 W E D (match f τ h with | .exc x h' => (match m.find? (fun p => p.1 == x.cls) with | some (_, true) => .rt (.tup [.str s1, .str s2]) h' | some (_, false) => .exc x h' | none => .bad) | r => r) := o
    cases ef : f τ h with
    | exc x h' =>
      rw [ef] at o
      simp only at o
      intro W' c dd σ' l1 l2 rh' er
      cases em : m.find? (fun p => p.1 == x.cls) with
      | none => rw [em] at o; exact o.elim
      | some pr =>
        obtain ⟨z, b⟩ := pr
        rw [em] at o
        have hz := List.find?_some em
        have hz : z = x.cls := eq_of_beq hz
        obtain ⟨k1, k2⟩ := hm _ (List.mem_of_find?_eq_some em)
        subst hz
        have ec := er.1
        rw [k1] at ec
        cases ec
        refine ⟨b, by rw [ok.K]; exact k2, fun hb _ _ => ?_, fun hb => ?_⟩
        · subst hb
          have z2 : (2 : Nat) ≤ sizeLine := by rw [sizeLine_eq]; decide
          refine ⟨z2, fun np hnp => ?_⟩
          obtain ⟨W2, eH, l3, rh3, rp⟩ := new_tup (xs := [.str s1, .str s2]) (vs := [.str s1, .str s2]) hnp rh' (.cons rep_str (.cons rep_str .nil))
          rw [← eH]
          exact o W2 _ (l1.trans l3) (l2.trans l3.toLeF) rh3 rp
        · subst hb
          exact o W' _ dd σ' l1 l2 rh' er
    | nx _ _ => rw [ef] at o; exact o
    | rt _ _ => rw [ef] at o; exact o
    | bk _ _ => rw [ef] at o; exact o
    | ct _ _ => rw [ef] at o; exact o
    | bad => rw [ef] at o; exact o.elim
end
theorem ap_raiseS (x : Str) (τ : List Sl) (h : HS) : raiseS x τ h = .exc ⟨x, none⟩ h := id rfl
theorem ap_tryR (m : List (Str × Bool)) (f : DS) (d : D) (τ : List Sl) (h : HS) : tryR m f d τ h = (match f τ h with
  | .exc x h' => match m.find? (fun p => p.1 == x.cls) with
    | some (_, true) => .rt d h'
    | some (_, false) => .exc x h'
    | none => .bad
  | r => r) := id rfl
end Sw

/-! Sw, part Y: dicts: d[k], d[k] = v, k in d, {}, {k: v}, loops over the keys, len. -/
namespace Sw
open PySem PySem.Spec PyProof.Rows L2
variable [Tbs]

/-! ### keys as data -/
def keyD : D → Option Key
  | .int i => some (.inl i)
  | .str s => some (.inr s)
  | _ => none
def keysD : List D → Option (List Key)
  | [] => some []
  | x :: r => match keyD x, keysD r with
    | some k, some ks => some (k :: ks)
    | _, _ => none
def dOfK : Key → D
  | .inl i => .int i
  | .inr s => .str s
section
variable {κ α : Type} [DecidableEq κ]
def lk : List (κ × α) → κ → Option α
  | [], _ => none
  | p :: r, k => if p.1 = k then some p.2 else lk r k
def pk (kvs : List (κ × α)) (k : κ) (v : α) : List (κ × α) := if (lk kvs k).isSome then kvs.map (fun kv => if kv.1 = k then (kv.1, v) else kv) else kvs ++ [(k, v)]
end
section
variable {κ : Type} [DecidableEq κ]
theorem valV_lk : ∀ (kvs : List (κ × V)) (k : κ), valV kvs k = lk kvs k
  | [], k => rfl
  | p :: r, k => by
    rw [lk]
    by_cases e : p.1 = k
    · rw [valV_pos e, if_pos e]
    · rw [valV_neg e, if_neg e, valV_lk r k]
theorem putK_pk (kvs : List (κ × V)) (k : κ) (v : V) : putK kvs k v = pk kvs k v := by
  unfold putK pk
  rw [valV_any, valV_lk]
end
/-- dicts whose keys are the same, value by value -/
def RepM (K : PySem.W.Frag) (W : Wd) {κ : Type} : List (κ × D) → List (κ × V) → Prop := Paired fun p q => p.1 = q.1 ∧ Rep K W p.2 q.2
section
variable {K : PySem.W.Frag} {W : Wd}
theorem repK_m : ∀ {kvs : List (Key × D)} {ws : List (Key × V)}, RepK K W kvs ws ↔ RepM K W kvs ws
  | [], ws => by
    rw [RepK]
    exact ⟨fun h => by subst h; exact .nil, fun h => by cases h; rfl⟩
  | (k, d) :: r, ws => by
    rw [RepK]
    constructor
    · rintro ⟨v, t, rfl, h1, h2⟩
      exact .cons ⟨rfl, h1⟩ (repK_m.mp h2)
    · intro h
      cases h with
      | @cons _ q _ t h1 h2 =>
        obtain ⟨k', v⟩ := q
        obtain ⟨e, h1⟩ := h1
        cases e
        exact ⟨v, t, rfl, h1, repK_m.mpr h2⟩
theorem repT_m : ∀ {kvs : List (List Key × D)} {ws : List (List Key × V)}, RepT K W kvs ws ↔ RepM K W kvs ws
  | [], ws => by
    rw [RepT]
    exact ⟨fun h => by subst h; exact .nil, fun h => by cases h; rfl⟩
  | (k, d) :: r, ws => by
    rw [RepT]
    constructor
    · rintro ⟨v, t, rfl, h1, h2⟩
      exact .cons ⟨rfl, h1⟩ (repT_m.mp h2)
    · intro h
      cases h with
      | @cons _ q _ t h1 h2 =>
        obtain ⟨k', v⟩ := q
        obtain ⟨e, h1⟩ := h1
        cases e
        exact ⟨v, t, rfl, h1, repT_m.mpr h2⟩
variable {κ : Type} [DecidableEq κ]
theorem RepM.lk_none {kvs : List (κ × D)} {ws : List (κ × V)} (r : RepM K W kvs ws) (k : κ) : (lk ws k).isSome = (lk kvs k).isSome := by
  unfold RepM at r
  induction r with
  | nil => rfl
  | @cons p q ps qs h t ih =>
    rw [lk, lk, ← h.1]
    by_cases e : p.1 = k
    · rw [if_pos e, if_pos e]; rfl
    · rw [if_neg e, if_neg e, ih]
theorem RepM.lk {kvs : List (κ × D)} {ws : List (κ × V)} {k : κ} {d : D} (r : RepM K W kvs ws) (e : Sw.lk kvs k = some d) : ∃ v, Sw.lk ws k = some v ∧ Rep K W d v := by
  unfold RepM at r
  induction r with
  | nil => cases e
  | @cons p q ps qs h t ih =>
    rw [Sw.lk] at e ⊢
    rw [← h.1]
    by_cases z : p.1 = k
    · rw [if_pos z] at e ⊢; cases e; exact ⟨_, rfl, h.2⟩
    · rw [if_neg z] at e ⊢; exact ih e
theorem RepM.len {kvs : List (κ × D)} {ws : List (κ × V)} (r : RepM K W kvs ws) : kvs.length = ws.length := Paired.length r
theorem RepM.repl {kvs : List (κ × D)} {ws : List (κ × V)} (r : RepM K W kvs ws) (k : κ) {d : D} {v : V} (h : Rep K W d v) : RepM K W (kvs.map fun kv => if kv.1 = k then (kv.1, d) else kv) (ws.map fun kv => if kv.1 = k then (kv.1, v) else kv) := by
  unfold RepM at r ⊢
  induction r with
  | nil => exact .nil
  | @cons p q ps qs h1 t ih =>
    rw [List.map_cons, List.map_cons]
    refine .cons ?_ ih
    by_cases z : p.1 = k
    · rw [if_pos z, if_pos (h1.1 ▸ z)]; exact ⟨h1.1, h⟩
    · rw [if_neg z, if_neg (h1.1 ▸ z)]; exact h1
theorem RepM.put {kvs : List (κ × D)} {ws : List (κ × V)} (r : RepM K W kvs ws) (k : κ) {d : D} {v : V} (h : Rep K W d v) : RepM K W (pk kvs k d) (pk ws k v) := by
  unfold pk
  rw [r.lk_none k]
  split
  · exact r.repl k h
  · exact Paired.snoc r ⟨rfl, h⟩
theorem RepM.mono {W' : Wd} (l : LeF W W') {kvs : List (κ × D)} {ws : List (κ × V)} (r : RepM K W kvs ws) : RepM K W' kvs ws := Paired.mapP r fun _ _ z => ⟨z.1, z.2.mono l⟩
theorem keyD_rep {x : D} {v : V} {k : Key} (e : keyD x = some k) (r : Rep K W x v) : v = kV k := by
  cases x <;> first | (cases e; rw [Rep] at r; exact r) | cases e
theorem keysD_rep : ∀ {xs : List D} {vs : List V} {ks : List Key}, keysD xs = some ks → Reps K W xs vs → vs = ks.map kV
  | [], vs, ks, e, r => by cases e; rw [Reps] at r; exact r
  | x :: xs, vs, ks, e, r => by
    rw [keysD] at e
    rw [Reps] at r
    obtain ⟨v, t, rfl, h1, h2⟩ := r
    cases e1 : keyD x with
    | none => rw [e1] at e; cases e
    | some k =>
      cases e2 : keysD xs with
      | none => rw [e1, e2] at e; cases e
      | some ks' =>
        rw [e1, e2] at e
        cases e
        rw [List.map_cons, ← keyD_rep e1 h1, ← keysD_rep e2 h2]
theorem rep_dOfK {k : Key} : Rep K W (dOfK k) (kV k) := by
  cases k <;> (show Rep K W _ _; unfold dOfK; rw [Rep]; rfl)
theorem reps_dOfK : ∀ {ks : List Key}, Reps K W (ks.map dOfK) (ks.map kV)
  | [] => .nil
  | k :: ks => .cons rep_dOfK reps_dOfK
end
/-- a tuple's keys: the object itself -/
theorem Bor.keys {K : PySem.W.Frag} {W : Wd} {xs : List D} {v : V} {ks : List Key} (b : Bor K W (.tup xs) v) (e : keysD xs = some ks) : ∃ a, v = .ref a ∧ W.H a = some (.tup (ks.map kV)) := b.elim (fun h => by
  rw [Rep] at h
  obtain ⟨a, vs, rfl, t, r⟩ := h
  rw [← keysD_rep e r]
  exact ⟨a, rfl, t.elim (fun z => z.2) False.elim⟩) fun h => h.elim
/-- what stands at the key -/
def dGetO (x y : D) : Option (Option D) := match x, y with
  | .dK kvs, y => (keyD y).map (lk kvs)
  | .dT kvs, .tup ys => (keysD ys).map (lk kvs)
  | _, _ => none
theorem dGet_ok {K : PySem.W.Frag} {W : Wd} {x y : D} {v u : V} {o : Option D} (b1 : Bor K W x v) (b2 : Bor K W y u) (e : dGetO x y = some o) :
    ∃ a r, v = .ref a ∧ DGet W.H a u r ∧ r.isSome = o.isSome ∧ ∀ d, o = some d → ∃ w, r = some w ∧ Rep K W d w := by
  cases x with
  | dK kvs =>
    obtain ⟨a, ws, rfl, rd, r⟩ := b1.dK
    have r := repK_m.mp r
    have e : (keyD y).map (lk kvs) = some o := e
    obtain ⟨k, ek, e⟩ := Option.map_eq_some_iff.mp e
    subst e
    have hu : u = kV k := by
      refine b2.elim (keyD_rep ek) fun h => ?_
      cases y <;> first | exact h.elim | cases ek
    subst hu
    refine ⟨a, lk ws k, rfl, .inl ⟨ws, k, rd, rfl, (valV_lk _ _).symm⟩, r.lk_none k, fun d ed => r.lk ed⟩
  | dT kvs =>
    cases y with
    | tup ys =>
      obtain ⟨a, ws, rfl, rd, r⟩ := b1.dT
      have r := repT_m.mp r
      have e : (keysD ys).map (lk kvs) = some o := e
      obtain ⟨k, ek, e⟩ := Option.map_eq_some_iff.mp e
      subst e
      obtain ⟨b, rfl, hb⟩ := b2.keys ek
      refine ⟨a, lk ws k, rfl, .inr ⟨ws, k, b, rd, rfl, hb, (valV_lk _ _).symm⟩, r.lk_none k, fun d ed => r.lk ed⟩
    | _ => cases e
  | _ => cases e
/-- d[k] -/
def dAt (x y : D) : Option D := (dGetO x y).bind id
def dIn (x y : D) : Option D := (dGetO y x).map fun o => .bl o.isSome
def dNotIn (x y : D) : Option D := (dGetO y x).map fun o => .bl (!o.isSome)
section
variable {C : Cn} {a b c e : Expr} {fa fb fc : DE} {pos apos cpos : Pos}
theorem den_dget (ha : DenB C a fa) (hb : DenB C b fb) (hs : PlainIx b) : DenE C (.Subscript a b pos) (res2 dAt fa fb) := fun X E ok => by
  obtain ⟨t, p, q⟩ := ha X E ok
  obtain ⟨t', p', q'⟩ := hb X E ok
  refine ⟨_, pe_dget (by have := ok.room.units; omega) p p' hs, fun W0 W τ σ h Q l fr rh o => ?_⟩
  refine q W0 W τ σ h _ l fr rh (okG.bind o fun x h1 W1 v l1 rh1 b1 o1 => ?_)
  refine q' W0 W1 τ σ h1 _ (l.trans l1) (fr.mono l1) rh1 (okG.bind o1 fun y h2 W2 u l2 rh2 b2 o2 => ?_)
  obtain ⟨d, e, k⟩ := toRes_some o2
  unfold dAt at e
  obtain ⟨o, e, eo⟩ := Option.bind_eq_some_iff.mp e
  obtain ⟨a, r, rfl, g, _, z⟩ := dGet_ok (b1.mono l2) b2 e
  obtain ⟨w, rfl, rw'⟩ := z d eo
  exact ⟨a, w, rfl, g, k W2 _ (.refl _) rh2 rw'⟩
theorem or_din {X : Cx} (hu : X.A.units + 1 < cLine) : OpR X (compareOp .In) (fun y x H Q => ∃ a o, x = .ref a ∧ DGet H a y o ∧ Q (.bl o.isSome) H) := by
  intro pins s σ H y x vy vx Q I ry rx h
  obtain ⟨a, o, rfl, g, q⟩ := h
  obtain rfl : vx = Value.ref a := rx
  exact d_in hu I g ry fun s3 I3 => ⟨.bl o.isSome, H, I3, rfl, q⟩
theorem or_dnotin {X : Cx} (hu : X.A.units + 1 < cLine) : OpR X (compareOp .NotIn) (fun y x H Q => ∃ a o, x = .ref a ∧ DGet H a y o ∧ Q (.bl (!o.isSome)) H) := by
  intro pins s σ H y x vy vx Q I ry rx h
  obtain ⟨a, o, rfl, g, q⟩ := h
  obtain rfl : vx = Value.ref a := rx
  exact d_notIn hu I g ry fun s3 I3 => ⟨.bl (!o.isSome), H, I3, rfl, q⟩
theorem o_din : OpD C (compareOp .In) dIn := fun X E ok => ⟨_, or_din (by have := ok.room.units; omega), fun W h x y v u d Q rh b1 b2 e k => by
  obtain ⟨o, e, eo⟩ := Option.map_eq_some_iff.mp e
  obtain ⟨a, r, rfl, g, z, _⟩ := dGet_ok b2 b1 e
  subst eo
  exact ⟨a, r, rfl, g, by rw [z]; exact k W _ (.refl _) rh rep_bl⟩⟩
theorem o_dnotin : OpD C (compareOp .NotIn) dNotIn := fun X E ok => ⟨_, or_dnotin (by have := ok.room.units; omega), fun W h x y v u d Q rh b1 b2 e k => by
  obtain ⟨o, e, eo⟩ := Option.map_eq_some_iff.mp e
  obtain ⟨a, r, rfl, g, z, _⟩ := dGet_ok b2 b1 e
  subst eo
  exact ⟨a, r, rfl, g, by rw [z]; exact k W _ (.refl _) rh rep_bl⟩⟩
/-- d.get(k, x) -/
def dGetR (a b c : DE) : DE := fun τ h => (a τ h).bind fun x h1 => (b τ h1).bind fun y h2 => (c τ h2).bind fun z h3 => match dGetO x y with
  | some (some d) => .ok d h3
  | some none => .ok z h3
  | none => .bad
theorem Bor.isD {K : PySem.W.Frag} {W : Wd} {x : D} {v : V} (b : Bor K W x v) (h : match x with | .dK _ => True | .dT _ => True | _ => False) : ∃ a, v = .ref a ∧ IsD W.H a := by
  cases x with
  | dK kvs => obtain ⟨a, ws, rfl, rd, r⟩ := b.dK; exact ⟨a, rfl, .inl ⟨ws, rd⟩⟩
  | dT kvs => obtain ⟨a, ws, rfl, rd, r⟩ := b.dT; exact ⟨a, rfl, .inr ⟨ws, rd⟩⟩
  | _ => exact h.elim
theorem okG.ne_bad {K : PySem.W.Frag} {mg : Str → Option Value} {α β γ δ : Type} {Rel : Wd → α → β → Prop} {Rel' : Wd → γ → δ → Prop} {W : Wd} {E : XK} {Q : β → Hp → Prop} {r : Res γ} {g : γ → HS → Res α} (o : okG K mg Rel W E Q (r.bind g)) (hb : ∀ c h, g c h = .bad) (hx : ∀ x h, r ≠ .exc x h) : False := by
  cases r with
  | ok a s => have o : okG K mg Rel W E Q (g a s) := o; rw [hb] at o; exact o
  | exc x s => exact hx x s rfl
  | bad => exact o
def isDk : D → Bool
  | .dK _ => true
  | .dT _ => true
  | _ => false
def dGetR' (a b c : DE) : DE := fun τ h => (a τ h).bind fun x h1 => if isDk x then (b τ h1).bind fun y h2 => (c τ h2).bind fun z h3 => match dGetO x y with
  | some (some d) => .ok d h3
  | some none => .ok z h3
  | none => .bad
  else .bad
theorem den_dgetD (ha : DenB C a fa) (hb : DenB C b fb) (hc : DenE C c fc) (m : ∀ X : Cx, M2 X a "get" apos b c cpos) : DenE C (.Call (.Attribute a "get" apos) [b, c] [] cpos) (dGetR' fa fb fc) := fun X E ok => by
  obtain ⟨t, p, q⟩ := ha X E ok
  obtain ⟨t', p', q'⟩ := hb X E ok
  obtain ⟨t2, p2, q2⟩ := hc X E ok
  refine ⟨_, pe_dget2 (by have := ok.room.units; omega) p p' p2 (m X), fun W0 W τ σ h Q l fr rh o => ?_⟩
  refine q W0 W τ σ h _ l fr rh (okG.bind o fun x h1 W1 v l1 rh1 b1 o1 => ?_)
  by_cases hx : isDk x = true
  · rw [if_pos hx] at o1
    obtain ⟨ad, rfl, isd⟩ := b1.isD (by cases x <;> first | trivial | cases hx)
    refine ⟨ad, rfl, isd, ?_⟩
    refine q' W0 W1 τ σ h1 _ (l.trans l1) (fr.mono l1) rh1 (okG.bind o1 fun y h2 W2 u l2 rh2 b2 o2 => ?_)
    refine q2 W0 W2 τ σ h2 _ ((l.trans l1).trans l2) ((fr.mono l1).mono l2) rh2 (okG.bind o2 fun z h3 W3 w l3 rh3 r3 o3 => ?_)
    cases eo : dGetO x y with
    | none => rw [eo] at o3; exact (show False from o3).elim
    | some o =>
      rw [eo] at o3
      obtain ⟨a', r, ea, g, z1, z2⟩ := dGet_ok (b1.mono (l2.trans l3)) (b2.mono l3) eo
      cases ea
      refine ⟨r, g, ?_⟩
      cases o with
      | some d =>
        obtain ⟨w', rfl, rw'⟩ := z2 d rfl
        exact okG.now o3 rh3 rw'
      | none =>
        have : r = none := by cases r <;> first | rfl | cases z1
        subst this
        exact okG.now o3 rh3 r3
  · rw [if_neg hx] at o1
    exact (show False from o1).elim
theorem den_emptyT : DenN C (.Dict [] [] pos) (fun _ h => .ok (.dT []) h) := fun X E ok =>
  ⟨_, pe_dnewT, fun W0 W τ σ h Q l fr rh o => fun np hn => by
    have lw := le_put (o := HO.dT []) hn
    exact o (W.put np (.dT [])) (.ref np) lw (rh_put hn rh) ⟨np, [], rfl, upd_same, by rw [RepT], fun f => rh.up np f hn, fun m => rh.there m hn, hn⟩⟩
end

/-! ### own dicts changed -/
theorem SlAt.other {K : PySem.W.Frag} {W0 W : Wd} {a : Addr} {o : HO} {x : Sl} {z : Option (Option V)} (nf : ¬ W.F a) (h0 : SlAt K W0 W x z) (ne' : x.isOwn = true → z ≠ some (some (.ref a))) : SlAt K W0 (W.put a o) x z := by
  have lf := lef_own (W2 := W) (Dd := a) (o := o) nf
  cases x with
  | un => trivial
  | val d => obtain ⟨v, e, r⟩ := h0; exact ⟨v, e, r.mono lf⟩
  | own zs =>
    obtain ⟨b, vs, e, h, r, w'⟩ := h0
    have hb : b ≠ a := fun z => ne' rfl (by rw [e, z])
    exact ⟨b, vs, e, by rw [← h]; exact upd_ne hb, r.mono lf, w'.nf, w'.nr, w'.new⟩
  | ownK zs =>
    obtain ⟨b, vs, e, h, r, w'⟩ := h0
    have hb : b ≠ a := fun z => ne' rfl (by rw [e, z])
    exact ⟨b, vs, e, by rw [← h]; exact upd_ne hb, r.mono lf, w'.nf, w'.nr, w'.new⟩
  | ownT zs =>
    obtain ⟨b, vs, e, h, r, w'⟩ := h0
    have hb : b ≠ a := fun z => ne' rfl (by rw [e, z])
    exact ⟨b, vs, e, by rw [← h]; exact upd_ne hb, r.mono lf, w'.nf, w'.nr, w'.new⟩
theorem Frm.own_any {K : PySem.W.Frag} {W0 W : Wd} {τ : List Sl} {σ : L2.St} {i : Nat} {s s' : Sl} {a : Addr} {o : HO} (f : Frm K W0 W τ σ) (et : τ[i]? = some s) (hs : s.isOwn = true) (hs' : s'.isOwn = true) (ea : σ[i]? = some (some (.ref a)))
    (nf : ¬ W.F a) (n : SlAt K W0 (W.put a o) s' σ[i]?) : Frm K W0 (W.put a o) (τ.set i s') σ := by
  have hi : i < τ.length := (List.getElem?_eq_some_iff.mp et).1
  refine ⟨by simpa using f.len, fun j x e => ?_, fun p q x y ad ne e1 e2 o1 o2 => ?_⟩
  · by_cases hj : i = j
    · subst hj
      rw [List.getElem?_set_self hi] at e
      cases e
      exact n
    · rw [List.getElem?_set_ne hj] at e
      exact (f.at_ j x e).other nf fun ho => f.dis i j _ x a hj et e hs ho ea
  · have key : ∀ {j : Nat} {x : Sl}, (τ.set i s')[j]? = some x → x.isOwn = true → ∃ y, τ[j]? = some y ∧ y.isOwn = true := fun {j x} e o => by
      by_cases hj : i = j
      · subst hj; exact ⟨_, et, hs⟩
      · rw [List.getElem?_set_ne hj] at e; exact ⟨x, e, o⟩
    obtain ⟨x', e1', o1'⟩ := key e1 o1
    obtain ⟨y', e2', o2'⟩ := key e2 o2
    exact f.dis p q x' y' ad ne e1' e2' o1' o2'
/-- the own dict behind d[k] = v -/
def putSl (s : Sl) (k d : D) : Option Sl := match s, k with
  | .ownK kvs, k => if decide (kvs.length < sizeLine) then (keyD k).map fun k => .ownK (pk kvs k d) else none
  | .ownT kvs, .tup ks => if decide (kvs.length < sizeLine) then (keysD ks).map fun k => .ownT (pk kvs k d) else none
  | _, _ => none
theorem putSl_ok {K : PySem.W.Frag} {W0 W : Wd} {h : HS} {τ : List Sl} {σ : L2.St} {i : Nat} {s s' : Sl} {k d : D} {vk vd : V} (l : Le W0 W) (fr : Frm K W0 W τ σ) (rh : RH K W h) (et : τ[i]? = some s) (e : putSl s k d = some s') (bk : Bor K W k vk) (rd : Rep K W d vd) :
    ∃ a H', σ[i]? = some (some (.ref a)) ∧ DPut W.H a vk vd H' ∧ ∃ W', W'.H = H' ∧ Le W0 W' ∧ LeF W W' ∧ Frm K W0 W' (τ.set i s') σ ∧ RH K W' h := by
  cases s with
  | ownK kvs =>
    have e : (if decide (kvs.length < sizeLine) then (keyD k).map fun k => Sl.ownK (pk kvs k d) else none) = some s' := e
    split at e
    · rename_i hz
      have hz := of_decide_eq_true hz
      obtain ⟨k', ek, rfl⟩ := Option.map_eq_some_iff.mp e
      obtain ⟨a, ws, ea, ha, ra, wa⟩ := fr.at_ i _ et
      have r := repK_m.mp ra
      have hk : vk = kV k' := by
        refine bk.elim (keyD_rep ek) fun h => ?_
        cases k <;> first | exact h.elim | cases ek
      subst hk
      refine ⟨a, _, ea, .inl ⟨ws, k', ha, rfl, by rw [← r.len]; exact hz, rfl⟩, W.put a (.dK (putK ws k' vd)), rfl, le_own l wa.new wa.nf, lef_own wa.nf, ?_, rh_own rh wa.nf wa.nr⟩
      refine fr.own_any et rfl rfl ea wa.nf ⟨a, _, ea, upd_same, ?_, wa.nf, wa.nr, wa.new⟩
      rw [putK_pk]
      exact repK_m.mpr ((r.put k' rd).mono (lef_own wa.nf))
    · cases e
  | ownT kvs =>
    cases k with
    | tup ks =>
      have e : (if decide (kvs.length < sizeLine) then (keysD ks).map fun k => Sl.ownT (pk kvs k d) else none) = some s' := e
      split at e
      · rename_i hz
        have hz := of_decide_eq_true hz
        obtain ⟨k', ek, rfl⟩ := Option.map_eq_some_iff.mp e
        obtain ⟨a, ws, ea, ha, ra, wa⟩ := fr.at_ i _ et
        have r := repT_m.mp ra
        obtain ⟨b, rfl, hb⟩ := bk.keys ek
        refine ⟨a, _, ea, .inr ⟨ws, k', b, ha, rfl, hb, by rw [← r.len]; exact hz, rfl⟩, W.put a (.dT (putK ws k' vd)), rfl, le_own l wa.new wa.nf, lef_own wa.nf, ?_, rh_own rh wa.nf wa.nr⟩
        refine fr.own_any et rfl rfl ea wa.nf ⟨a, _, ea, upd_same, ?_, wa.nf, wa.nr, wa.new⟩
        rw [putK_pk]
        exact repT_m.mpr ((r.put k' rd).mono (lef_own wa.nf))
      · cases e
    | _ => cases e
  | _ => cases e
section
variable {C : Cn} {e e2 : Expr} {fe fe2 : DE} {x : Str} {i : Nat} {p1 tpos pos : Pos}
/-- x[e] = e2, x an own dict -/
def dputS (i : Nat) (fe fe2 : DE) : DS := fun τ h => RS.ofR (fe2 τ h) τ fun d h1 => match τ[i]? with
  | some s => if s.isOwn then RS.ofR (fe τ h1) τ fun k h2 => match putSl s k d with
    | some s' => .nx (τ.set i s') h2
    | none => .bad
    else .bad
  | none => .bad
theorem Frm.ownRef {K : PySem.W.Frag} {W0 W : Wd} {τ : List Sl} {σ : L2.St} {i : Nat} {s : Sl} (f : Frm K W0 W τ σ) (et : τ[i]? = some s) (ho : s.isOwn = true) : ∃ a, σ[i]? = some (some (.ref a)) := by
  have h := f.at_ i s et
  cases s with
  | own xs => obtain ⟨a, vs, ea, _⟩ := h; exact ⟨a, ea⟩
  | ownK xs => obtain ⟨a, vs, ea, _⟩ := h; exact ⟨a, ea⟩
  | ownT xs => obtain ⟨a, vs, ea, _⟩ := h; exact ⟨a, ea⟩
  | _ => cases ho
theorem den_dput (hn : nmB C.N C.sc x i = true) (he : DenB C e fe) (he2 : DenE C e2 fe2) (hs : ∀ env, swapsWith e2 (some (.Subscript (.Name x p1) e tpos)) pos.line env = pure false) :
    DenS C (.Assign [.Subscript (.Name x p1) e tpos] e2 pos) (dputS i fe fe2) := fun X E ok => by
  obtain ⟨t, p, q⟩ := he X E ok
  obtain ⟨t', p', q'⟩ := he2 X E ok
  obtain ⟨h1, h2, h3, h4⟩ := nmB_ok hn
  refine ⟨_, ps_dput (by have := ok.room.units; omega) (pe_var (i := i) (by rw [ok.names]; exact h1) (by rw [ok.scope]; exact h2) h3 h4) p p' (hs _), fun W0 W τ σ h D l fr rh o => ?_⟩
  refine q' W0 W τ σ h _ l fr rh (okS.ex l o fun d s W1 u l1 rh1 r1 o1 => ?_)
  have fr1 := fr.mono l1
  cases et : τ[i]? with
  | none => rw [et] at o1; exact o1.elim
  | some sl =>
    rw [et] at o1
    have o1 : okS C W0 W1 E D (if sl.isOwn then RS.ofR (fe τ s) τ fun k h2 => match putSl sl k d with
      | some s' => .nx (τ.set i s') h2
      | none => .bad
      else .bad) := o1
    by_cases ho : sl.isOwn = true
    · rw [if_pos ho] at o1
      obtain ⟨a, ea⟩ := fr1.ownRef et ho
      refine ⟨_, ea, ?_⟩
      refine q W0 W1 τ σ s _ (l.trans l1) fr1 rh1 (okS.ex (l.trans l1) o1 fun k s2 W2 w l2 rh2 b2 o2 => ?_)
      cases ep : putSl sl k d with
      | none => rw [ep] at o2; exact o2.elim
      | some s' =>
        rw [ep] at o2
        have l02 := (l.trans l1).trans l2
        obtain ⟨a', H', ea', g, W3, eH, l3, lf3, fr3, rh3⟩ := putSl_ok l02 (fr1.mono l2) rh2 et ep b2 (r1.mono l2.toLeF)
        rw [ea] at ea'
        cases ea'
        refine ⟨a, H', rfl, g, ?_⟩
        subst eH
        exact o2 W3 σ l3 lf3 fr3 rh3
    · rw [if_neg ho] at o1
      exact o1.elim
end

/-! ### loops over a dict's keys -/
/-- the value is locked for good -/
def tLk (t : TE) : TE := fun σ H Q => t σ H fun x H1 => ∃ d, x = .ref d ∧ ((∃ o u, H1 d = some (.frz o u) ∧ Q x H1) ∨ ∃ u, H1 d = some u ∧ Mut (some u) ∧ ∀ od, Q x (upd H1 d (.frz od u)))
theorem pe_lk {X : Cx} {e : Expr} {t : TE} (h : PE X e t) : PE X e (tLk t) := by
  refine ⟨fun pins s σ H Q I hw => ?_⟩
  refine thn (h.run pins s σ H _ I hw) fun v s1 ⟨x, H1, I1, r, d, ex, q⟩ => ?_
  rcases q with ⟨o, u, _, q⟩ | ⟨u, hd, mu, q⟩
  · exact ⟨x, H1, I1, r, q⟩
  · obtain ⟨od, I2⟩ := I1.lock hd mu
    exact ⟨x, _, I2, r, q od⟩
section
variable {K : PySem.W.Frag} {W : Wd} {h : HS} {a : Addr} {od : Obj} {u : HO}
theorem le_lock (f : W.F a) (e : W.H a = some u) (nf : fastO u = false) (nd : dicO u = true) : Le W (W.put a (.frz od u)) where
  fr := fun _ h => h
  st := fun b v _ fb r => by
    by_cases z : b = a
    · subst z
      rcases r with r | ⟨ob, r⟩
      · rw [e] at r; cases r; exact .inr ⟨od, upd_same⟩
      · rw [e] at r; cases r; cases nf
    · exact r.imp (fun q => by rw [← q]; exact upd_ne z) fun ⟨ob, q⟩ => ⟨ob, by rw [← q]; exact upd_ne z⟩
  sl := fun b o q fb r => by
    rw [← r]
    exact upd_ne fun z => by subst z; rw [e] at r; cases r; rw [nf] at q; cases q
  rh := List.prefix_refl _
  fo := fun b o r h1 h2 => ⟨by rw [← r]; exact upd_ne fun z => h1 (z ▸ f), h1, h2⟩
theorem rh_lock (f : W.F a) (rh : RH K W h) (l : Le W (W.put a (.frz od u))) (eu : W.H a = some u) (nd : dicO u = true) : RH K (W.put a (.frz od u)) h where
  len := rh.len
  nd := rh.nd
  at_ := fun i xs b e1 e2 => by
    obtain ⟨vs, q, r⟩ := rh.at_ i xs b e1 e2
    have hb : b ≠ a := fun z => rh.nf b (List.mem_of_getElem? e2) (z ▸ f)
    exact ⟨vs, by rw [← q]; exact upd_ne hb, Reps.mono l.toLeF _ _ r⟩
  nf := rh.nf
  up := fun b fb => by
    show upd W.H a _ b ≠ none
    by_cases z : b = a
    · subst z; rw [upd_same]; exact fun z => by cases z
    · rw [upd_ne z]; exact rh.up b fb
  tf := fun b ys e => by
    have e : upd W.H a (.frz od u) b = some (.tup ys) := e
    by_cases z : b = a
    · subst z; rw [upd_same] at e; cases e
    · rw [upd_ne z] at e; exact rh.tf b ys e
  tb := tab_step rh.tb (fun _ f => f) fun b v _ n e => by
    rw [← e]
    exact upd_ne fun z => by rw [z, eu] at e; cases e; rw [nd] at n; cases n
  tn := fun b ps e => by
    have e : upd W.H a (.frz od u) b = some (.tbl ps) := e
    by_cases z : b = a
    · subst z; rw [upd_same] at e; cases e
    · rw [upd_ne z] at e; exact rh.tn b ps e
  cf := fun b ps e => by
    have e : upd W.H a (.frz od u) b = some (.ext ps) := e
    by_cases z : b = a
    · subst z; rw [upd_same] at e; cases e
    · rw [upd_ne z] at e; exact rh.cf b ps e
theorem walks_keys {kvs : List (Key × D)} {ws : List (Key × V)} {d : Addr} {o : Obj} (f : W.F d) (e : W.H d = some (.frz o (.dK ws))) (r : RepM K W kvs ws) : Walks1 K W (Itk d o ws) (kvs.map fun p => dOfK p.1) := fun j W2 l _ => by
  have e2 := l.sl d _ rfl f e
  refine ⟨fun x hx => ?_, fun z => ⟨e2, by rw [← r.len, ← z, List.length_map]; exact Nat.le_refl _⟩⟩
  rw [List.getElem?_map] at hx
  obtain ⟨p, hp, rfl⟩ := Option.map_eq_some_iff.mp hx
  have hj : j < ws.length := by rw [← r.len]; exact (List.getElem?_eq_some_iff.mp hp).1
  refine ⟨⟨e2, hj⟩, ?_⟩
  rintro x H' ⟨rfl, k, v, hk, rfl⟩
  refine ⟨W2, rfl, .refl _, fun _ q => q, ?_⟩
  obtain ⟨q, hq, hpq⟩ := paired_get r hp
  rw [hk] at hq
  cases hq
  rw [hpq.1]
  exact rep_dOfK
theorem walks_keysT {kvs : List (List Key × D)} {ws : List (List Key × V)} {d : Addr} {o : Obj} (f : W.F d) (e : W.H d = some (.frz o (.dT ws))) (r : RepM K W kvs ws) : Walks1 K W (Itkt d o ws) (kvs.map fun p => .tup (p.1.map dOfK)) := fun j W2 l tf => by
  have e2 := l.sl d _ rfl f e
  refine ⟨fun x hx => ?_, fun z => ⟨e2, by rw [← r.len, ← z, List.length_map]; exact Nat.le_refl _⟩⟩
  rw [List.getElem?_map] at hx
  obtain ⟨p, hp, rfl⟩ := Option.map_eq_some_iff.mp hx
  have hj : j < ws.length := by rw [← r.len]; exact (List.getElem?_eq_some_iff.mp hp).1
  refine ⟨⟨e2, hj⟩, ?_⟩
  rintro x H' ⟨rfl, k, v, b, hk, rfl, hb⟩
  refine ⟨W2, rfl, .refl _, fun _ q => q, ?_⟩
  obtain ⟨q, hq, hpq⟩ := paired_get r hp
  rw [hk] at hq
  cases hq
  rw [hpq.1, Rep]
  exact ⟨b, _, rfl, .inl ⟨tf b _ hb, hb⟩, reps_dOfK⟩
end
def keysR (a : DE) : DA := fun τ h => (a τ h).bind fun x h1 => match x with
  | .dK kvs => .ok (kvs.map fun p => dOfK p.1) h1
  | .dT kvs => .ok (kvs.map fun p => .tup (p.1.map dOfK)) h1
  | _ => .bad
theorem rd_case {H : Hp} {a : Addr} {u : HO} (r : Rd H a u) : (∃ o, H a = some (.frz o u)) ∨ H a = some u := r.elim .inr .inl
theorem den_ikeys {C : Cn} {tg e : Expr} {f : DE} (he : DenE C e f) : DenI C tg e (keysR f) := fun X E ok => by
  obtain ⟨t, p, q⟩ := he X E ok
  refine ⟨_, pi_keys (pe_lk p), fun W0 W τ σ h Q l fr rh o => ?_⟩
  refine q W0 W τ σ h _ l fr rh (okG.bind o fun x h1 W1 v l1 rh1 r1 o1 => ?_)
  cases x with
  | dK kvs =>
    rw [Rep] at r1
    obtain ⟨a, ws, rfl, fa, rd, r⟩ := r1
    have r := repK_m.mp r
    have o1 : okG C.g.K C.g.mg (fun W' items J => Walks1 C.g.K W' J items) W1 (fun c dd H => E c dd σ H) Q (.ok (kvs.map fun p => dOfK p.1) h1) := o1
    refine ⟨a, rfl, ?_⟩
    rcases rd_case rd with ⟨ob, e⟩ | e
    · exact .inl ⟨ob, _, e, a, ob, rfl, .inl ⟨ws, e, o1 W1 _ (.refl _) rh1 (walks_keys fa e r)⟩⟩
    · refine .inr ⟨_, e, True.intro, fun od => ⟨a, od, rfl, .inl ⟨ws, upd_same, ?_⟩⟩⟩
      have lk := le_lock (od := od) fa e rfl rfl
      exact o1 (W1.put a (.frz od (.dK ws))) _ lk (rh_lock fa rh1 lk e rfl) (walks_keys fa upd_same (r.mono lk.toLeF))
  | dT kvs =>
    rw [Rep] at r1
    obtain ⟨a, ws, rfl, fa, rd, r⟩ := r1
    have r := repT_m.mp r
    have o1 : okG C.g.K C.g.mg (fun W' items J => Walks1 C.g.K W' J items) W1 (fun c dd H => E c dd σ H) Q (.ok (kvs.map fun p => Sw.D.tup (p.1.map dOfK)) h1) := o1
    refine ⟨a, rfl, ?_⟩
    rcases rd_case rd with ⟨ob, e⟩ | e
    · exact .inl ⟨ob, _, e, a, ob, rfl, .inr ⟨ws, e, o1 W1 _ (.refl _) rh1 (walks_keysT fa e r)⟩⟩
    · refine .inr ⟨_, e, True.intro, fun od => ⟨a, od, rfl, .inr ⟨ws, upd_same, ?_⟩⟩⟩
      have lk := le_lock (od := od) fa e rfl rfl
      exact o1 (W1.put a (.frz od (.dT ws))) _ lk (rh_lock fa rh1 lk e rfl) (walks_keysT fa upd_same (r.mono lk.toLeF))
  | _ => exact (show False from o1).elim

/-! ### displays {k: v, ..} -/
section
variable {prog : Program} {w : World} {A : Around} {E : Value → Shared → Prop} {s : Shared}
theorem wpAny_subDictG {pairs : List (Sem Value × Sem Value)} {Q : Addr → Shared → Prop} (hlen : pairs.length ≤ 15)
    (h : wpAny (model prog w) A (evalPairs pairs) (fun vs s₁ => wpAny (model prog w) A (forIn vs PUnit.unit fun (x : Value × Value) (_ : PUnit) => (do dictSet s.heap.objs.size x.1 x.2; pure (ForInStep.yield PUnit.unit) : Sem (ForInStep PUnit))) (fun _ s2 => Q s.heap.objs.size s2) E s₁) E
      { s with heap := s.heap.push { cls := .type "dict", data := .dict #[] } }) :
    wpAny (model prog w) A (subDict pairs) Q E s := by
  unfold subDict
  refine wpAny_bind (wpAny_alloc ?_)
  refine wpAny_bind (wpAny_holding ?_)
  rw [if_pos hlen]
  refine wpAny_bind (wpAny_mono h (fun vs s₁ h₁ => ?_) fun _ _ e => e)
  refine wpAny_holding ?_
  exact wpAny_bind (wpAny_mono h₁ (fun _ s2 q => wpAny_pure (wpAny_pure q)) fun _ _ e => e)
theorem wpAny_Dict_walkG {keys : List (Option Expr)} {values : List Expr} {pos : Pos} {env : Env} {Q : Value → Shared → Prop}
    (hall : keys.all (·.isSome) = true) (hl : keys.length = values.length) (h0 : keys ≠ []) (hlen : keys.length ≤ 15)
    (h : wpAny (model prog w) A (evalPairs (pairTrees keys values env pos)) (fun vs s₁ => wpAny (model prog w) A (forIn vs PUnit.unit fun (x : Value × Value) (_ : PUnit) => (do dictSet s.heap.objs.size x.1 x.2; pure (ForInStep.yield PUnit.unit) : Sem (ForInStep PUnit))) (fun _ s2 => Q (.ref s.heap.objs.size) s2) E s₁) E
      { s with heap := s.heap.push { cls := .type "dict", data := .dict #[] } }) :
    wpAny (model prog w) A (eval (.Dict keys values pos) env) Q E s := by
  have hn := pairTrees_length keys values env pos hall hl
  have hne : pairTrees keys values env pos ≠ [] := fun he => h0 (List.length_eq_zero_iff.mp (by rw [← hn, he]; rfl))
  rw [arm_eval_Dict, zip_pairTrees keys values env pos hall hl, dictDisplay_pairs _ hne (by rw [hn]; omega)]
  exact wpAny_bind (wpAny_standAt (wpAny_bind (wpAny_subDictG (Q := fun d s' => wpAny (model prog w) A (pure (Value.ref d)) Q E s') (by rw [hn]; exact hlen)
    (wpAny_mono h (fun vs s₁ h₁ => wpAny_mono h₁ (fun _ s2 q => wpAny_pure q) fun _ _ e => e) fun _ _ e => e))))
end
section
variable {X : Cx} {pins : List (Addr × Obj)} {σ : L2.St}
theorem d_dictSetT {H : Hp} {s : Shared} {E : Value → Shared → Prop} {A : Around} {D b : Addr} {kvs : List (List Key × V)} {k : List Key} {v : V} {r : Value} {Q : Unit → Shared → Prop} (hu : A.units + 1 < cLine) (I : Inv X pins σ H s) (hD : H D = some (.dT kvs)) (hz : kvs.length < sizeLine)
    (eb : H b = some (.tup (k.map kV))) (rv : RelV v r) (h : ∀ s', Inv X pins σ (upd H D (.dT (putK kvs k v))) s' → Q () s') : wpAny (model X.prog X.w) A (dictSet D (.ref b) r) Q E s := by
  obtain ⟨z, hd, xs, rel, dd⟩ := dt_of I.hok hD
  have hz' : xs.length ≤ sizeLine := by rw [← Paired.length rel]; exact z
  have hl : (putK kvs k v).length ≤ sizeLine := by have := length_putK kvs k v; omega
  refine wpAny_dictSet_heap (hsz := hz') (show (tupleKind (mixKind X.prog X.w)).room A from (by show A.units < cLine; omega)) (key_of I.hok eb) dd fun h' dd' hs => h _ ?_
  obtain ⟨q, es, ep, hq, h2, h3, h4, _, h5⟩ := dd'
  refine d_write I (by rw [hD]; exact True.intro) hs ⟨q, hq⟩ ⟨hl, hd, _, (rel.put k eb rv).keeps fun c ys ec => ?_, q, es, ep, hq, h2, h3, h4, h5⟩
  rw [upd_ne (ne_of ec hD (fun z => nomatch z))]
  exact ec
def mergeT (kvs more : List (List Key × V)) : List (List Key × V) := more.foldl (fun acc kv => putK acc kv.1 kv.2) kvs
theorem storeAllT {E : Value → Shared → Prop} {A : Around} {D : Addr} {Q : PUnit → Shared → Prop} (hu : A.units + 1 < cLine) : ∀ (ps : List (V × V)) (vs : List (Value × Value)) (more kvs : List (List Key × V)) (H : Hp) (s : Shared), VV ps vs → Inv X pins σ H s → H D = some (.dT kvs) →
    Paired (fun p kv => ∃ b, p.1 = V.ref b ∧ H b = some (.tup (kv.1.map kV)) ∧ p.2 = kv.2) ps more → kvs.length + more.length ≤ sizeLine → (∀ s', Inv X pins σ (upd H D (.dT (mergeT kvs more))) s' → Q PUnit.unit s') →
    wpAny (model X.prog X.w) A (forIn vs PUnit.unit fun (x : Value × Value) (_ : PUnit) => (do dictSet D x.1 x.2; pure (ForInStep.yield PUnit.unit) : Sem (ForInStep PUnit))) Q E s
  | [], _, more, kvs, H, s, rel, I, hD, pr, hz, h => by
    cases rel
    cases pr
    rw [List.forIn_nil]
    refine wpAny_pure (h s ?_)
    have : upd H D (.dT (mergeT kvs [])) = H := by
      funext c
      by_cases z : c = D
      · subst z; rw [upd_same, hD]; rfl
      · rw [upd_ne z]
    rw [this]
    exact I
  | p :: ps, _, more, kvs, H, s, rel, I, hD, pr, hz, h => by
    cases rel with
    | @cons _ q _ qs hq t =>
      cases pr with
      | @cons _ kv _ more hk tk =>
        obtain ⟨b, e1, e2, e3⟩ := hk
        obtain ⟨q1, q2⟩ := q
        obtain ⟨hq1, hq2⟩ := hq
        rw [e1] at hq1
        cases hq1
        rw [e3] at hq2
        rw [List.length_cons] at hz
        rw [List.forIn_cons]
        refine wpAny_bind (wpAny_bind (d_dictSetT hu I hD (by omega) e2 hq2 fun s' I' => wpAny_pure ?_))
        refine storeAllT hu ps qs more (putK kvs kv.1 kv.2) _ s' t I' upd_same (Paired.mapP tk fun p' kv' z => ?_) (by have := length_putK kvs kv.1 kv.2; omega) fun s2 I2 => h s2 ?_
        · obtain ⟨b', z1, z2, z3⟩ := z
          exact ⟨b', z1, by rw [upd_ne (ne_of z2 hD (fun z => nomatch z))]; exact z2, z3⟩
        · have : upd (upd H D (.dT (putK kvs kv.1 kv.2))) D (.dT (mergeT (putK kvs kv.1 kv.2) more)) = upd H D (.dT (mergeT kvs (kv :: more))) := by
            funext c
            by_cases z : c = D
            · subst z; rw [upd_same, upd_same]; rfl
            · rw [upd_ne z, upd_ne z, upd_ne z]
          rw [← this]
          exact I2
def tDispT (trs : List (TE × TE)) : TE := fun σ H Q => ∀ p, H p = none → tPairs trs σ (upd H p (.dT [])) fun ps H2 => H2 p = some (.dT []) ∧ ∃ kvs : List (List Key × V), Paired (fun q kv => ∃ b, q.1 = V.ref b ∧ H2 b = some (.tup (kv.1.map kV)) ∧ q.2 = kv.2) ps kvs ∧ kvs.length ≤ 15 ∧ Q (.ref p) (upd H2 p (.dT (mergeT [] kvs)))
theorem pe_dispT {pos : Pos} {keys : List (Option Expr)} {values : List Expr} {trs : List (TE × TE)} (hu : X.A.units + 1 < cLine) (h : PPs X pos keys values trs) (hall : keys.all (·.isSome) = true) (hl : keys.length = values.length) (h0 : keys ≠ [])
    (h15 : keys.length ≤ 15) : PE X (.Dict keys values pos) (tDispT trs) := by
  refine ⟨fun pins s σ H Q I q => ?_⟩
  have hn := I.hok.fresh (Nat.le_refl s.heap.objs.size)
  have I1 := I.laid (a := s.heap.objs.size) (o := .dT []) (h' := s.heap.push { cls := .type "dict", data := .dict #[] }) (t' := s.toks) (fun _ _ q => Heap.get?_push_of_some _ q) (Nat.le_refl _) (dt_empty s.heap I.big)
  refine wpAny_Dict_walkG hall hl h0 h15 (thn (h.run pins _ σ _ _ I1 (q _ hn)) fun ws s2 ⟨ps, H2, I2, rel, e, kvs, pr, lk, q2⟩ => ?_)
  exact storeAllT hu ps ws kvs [] H2 s2 rel I2 e pr (by rw [List.length_nil, sizeLine_eq]; omega) fun s' I' => ⟨.ref s.heap.objs.size, _, I', rfl, q2⟩
end
abbrev DP2 := List Sl → HS → Res (List (D × D))
def DenPs (C : Cn) (pos : Pos) (ks : List (Option Expr)) (vs : List Expr) (f : DP2) : Prop := ∀ X E, CxOk C X E → ∃ trs, PPs X pos ks vs trs ∧ ∀ W0 W τ σ h (Q : List (V × V) → Hp → Prop), Le W0 W → Frm C.g.K W0 W τ σ → RH C.g.K W h →
    okG C.g.K C.g.mg (fun W' a b => Paired (fun (p : D × D) (q : V × V) => Rep C.g.K W' p.1 q.1 ∧ Rep C.g.K W' p.2 q.2) a b) W (fun c dd H => E c dd σ H) Q (f τ h) → tPairs trs σ W.H Q
def p2N : DP2 := fun _ h => .ok [] h
def p2C (a b : DE) (r : DP2) : DP2 := fun τ h => (a τ h).bind fun x h1 => (b τ h1).bind fun y h2 => (r τ h2).bind fun ps h3 => .ok ((x, y) :: ps) h3
section
variable {C : Cn} {pos : Pos} {k v : Expr} {ks : List (Option Expr)} {vs : List Expr} {fk fv : DE} {fr : DP2}
theorem den_p2nil : DenPs C pos [] [] p2N := fun X E ok => ⟨[], pps_nil, fun W0 W τ σ h Q l fr rh o => o W [] (.refl _) rh .nil⟩
theorem den_p2cons (hk : DenE C k fk) (hv : DenE C v fv) (hr : DenPs C pos ks vs fr) : DenPs C pos (some k :: ks) (v :: vs) (p2C fk fv fr) := fun X E ok => by
  obtain ⟨t, p, q⟩ := hk X E ok
  obtain ⟨t', p', q'⟩ := hv X E ok
  obtain ⟨ts, ps, qs⟩ := hr X E ok
  refine ⟨_, pps_cons p p' ps, fun W0 W τ σ h Q l fr rh o => ?_⟩
  refine q W0 W τ σ h _ l fr rh (okG.bind o fun x h1 W1 u l1 rh1 r1 o1 => ?_)
  refine q' W0 W1 τ σ h1 _ (l.trans l1) (fr.mono l1) rh1 (okG.bind o1 fun y h2 W2 w l2 rh2 r2 o2 => ?_)
  refine qs W0 W2 τ σ h2 _ ((l.trans l1).trans l2) ((fr.mono l1).mono l2) rh2 (okG.bind o2 fun zs h3 W3 us l3 rh3 r3 o3 => ?_)
  exact o3 W3 _ (.refl _) rh3 (.cons ⟨r1.mono (l2.trans l3).toLeF, r2.mono l3.toLeF⟩ r3)
def keysOfT : List (D × D) → Option (List (List Key × D))
  | [] => some []
  | (.tup xs, d) :: r => match keysD xs, keysOfT r with
    | some k, some ks => some ((k, d) :: ks)
    | _, _ => none
  | _ => none
def keysOfK : List (D × D) → Option (List (Key × D))
  | [] => some []
  | (x, d) :: r => match keyD x, keysOfK r with
    | some k, some ks => some ((k, d) :: ks)
    | _, _ => none
def mergeD {κ : Type} [DecidableEq κ] (kvs more : List (κ × D)) : List (κ × D) := more.foldl (fun acc kv => pk acc kv.1 kv.2) kvs
def dispTR (f : DP2) : DE := fun τ h => (f τ h).bind fun ps h1 => if decide (ps.length ≤ 15) then toRes ((keysOfT ps).map fun kvs => .dT (mergeD [] kvs)) h1 else .bad
def dispKR (f : DP2) : DE := fun τ h => (f τ h).bind fun ps h1 => if decide (ps.length ≤ 15) then toRes ((keysOfK ps).map fun kvs => .dK (mergeD [] kvs)) h1 else .bad
theorem RepM.merge {K : PySem.W.Frag} {W : Wd} {κ : Type} [DecidableEq κ] {more : List (κ × D)} {rs : List (κ × V)} (r : RepM K W more rs) : ∀ {kvs : List (κ × D)} {ws : List (κ × V)}, RepM K W kvs ws → RepM K W (mergeD kvs more) (rs.foldl (fun acc kv => putK acc kv.1 kv.2) ws) := by
  unfold RepM at r
  induction r with
  | nil => intro _ _ q; exact q
  | @cons p q ps qs h t ih =>
    intro kvs ws r0
    have e := r0.put p.1 h.2
    rw [h.1, ← putK_pk] at e
    show RepM K W (mergeD (pk kvs p.1 p.2) ps) _
    rw [h.1]
    exact ih e
theorem keysOfT_ok {K : PySem.W.Frag} {W : Wd} : ∀ {ps : List (D × D)} {qs : List (V × V)} {kvs : List (List Key × D)}, Paired (fun (p : D × D) (q : V × V) => Rep K W p.1 q.1 ∧ Rep K W p.2 q.2) ps qs → keysOfT ps = some kvs →
    ∃ ws : List (List Key × V), RepM K W kvs ws ∧ ws.length = ps.length ∧ Paired (fun q kv => ∃ b, q.1 = V.ref b ∧ W.H b = some (.tup (kv.1.map kV)) ∧ q.2 = kv.2) qs ws
  | [], _, _, r, e => by cases r; cases e; exact ⟨[], .nil, rfl, .nil⟩
  | (x, d) :: ps, _, kvs, r, e => by
    cases r with
    | @cons _ q _ qs h t =>
      cases x with
      | tup xs =>
        rw [keysOfT] at e
        cases e1 : keysD xs with
        | none => rw [e1] at e; cases e
        | some k =>
          cases e2 : keysOfT ps with
          | none => rw [e1, e2] at e; cases e
          | some ks =>
            rw [e1, e2] at e
            cases e
            obtain ⟨ws, r1, r2, r3⟩ := keysOfT_ok t e2
            obtain ⟨b, eb, hb⟩ := (show Bor K W (.tup xs) q.1 from .inl h.1).keys e1
            exact ⟨(k, q.2) :: ws, .cons ⟨rfl, h.2⟩ r1, by rw [List.length_cons, List.length_cons, r2], .cons ⟨b, eb, hb, rfl⟩ r3⟩
      | _ => cases e
theorem keysOfK_ok {K : PySem.W.Frag} {W : Wd} : ∀ {ps : List (D × D)} {qs : List (V × V)} {kvs : List (Key × D)}, Paired (fun (p : D × D) (q : V × V) => Rep K W p.1 q.1 ∧ Rep K W p.2 q.2) ps qs → keysOfK ps = some kvs →
    ∃ ws : List (Key × V), RepM K W kvs ws ∧ ws.length = ps.length ∧ qs = ws.map (fun kv => (kV kv.1, kv.2))
  | [], _, _, r, e => by cases r; cases e; exact ⟨[], .nil, rfl, rfl⟩
  | (x, d) :: ps, _, kvs, r, e => by
    cases r with
    | @cons _ q _ qs h t =>
      rw [keysOfK] at e
      cases e1 : keyD x with
      | none => rw [e1] at e; cases e
      | some k =>
        cases e2 : keysOfK ps with
        | none => rw [e1, e2] at e; cases e
        | some ks =>
          rw [e1, e2] at e
          cases e
          obtain ⟨ws, r1, r2, r3⟩ := keysOfK_ok t e2
          refine ⟨(k, q.2) :: ws, .cons ⟨rfl, h.2⟩ r1, by rw [List.length_cons, List.length_cons, r2], ?_⟩
          rw [List.map_cons, r3, ← keyD_rep e1 h.1]
theorem den_dispT (hr : DenPs C pos ks vs fr) (hall : ks.all (·.isSome) = true) (hl : ks.length = vs.length) (h0 : ks ≠ []) (h15 : ks.length ≤ 15) : DenN C (.Dict ks vs pos) (dispTR fr) := fun X E ok => by
  obtain ⟨ts, ps, qs⟩ := hr X E ok
  refine ⟨_, pe_dispT (by have := ok.room.units; omega) ps hall hl h0 h15, fun W0 W τ σ h Q l fr' rh o => fun np hn => ?_⟩
  have lw := le_put (o := HO.dT []) hn
  refine qs W0 (W.put np (.dT [])) τ σ h _ (l.trans lw) (fr'.mono lw) (rh_put hn rh) ?_
  unfold dispTR at o
  cases hf : fr τ h with
  | ok zs h1 =>
    rw [hf] at o
    have o : okG C.g.K C.g.mg (NewR C.g.K W) W (fun c dd H => E c dd σ H) Q (if decide (zs.length ≤ 15) then toRes ((keysOfT zs).map fun kvs => .dT (mergeD [] kvs)) h1 else .bad) := o
    intro W1 us l1 rh1 r1
    obtain ⟨b1, b2, b3⟩ := l1.fo np (.dT []) upd_same (fun f => rh.up np f hn) (fun m => rh.there m hn)
    split at o
    · rename_i hz
      obtain ⟨d, e, k⟩ := toRes_some o
      obtain ⟨kvs, ek, rfl⟩ := Option.map_eq_some_iff.mp e
      obtain ⟨ws, r2, hl2, r3⟩ := keysOfT_ok r1 ek
      refine ⟨b1, ws, r3, by rw [hl2]; exact of_decide_eq_true hz, ?_⟩
      refine k (W1.put np (.dT (mergeT [] ws))) (.ref np) (le_own (lw.trans l1) hn b2) (rh_own rh1 b2 b3) ⟨np, _, rfl, upd_same, repT_m.mpr ?_, b2, b3, hn⟩
      exact (r2.merge .nil).mono (lef_own b2)
    · exact (show False from o).elim
  | exc x h1 =>
    rw [hf] at o
    exact fun W' c dd l2 => o W' c dd (lw.trans l2)
  | bad => rw [hf] at o; exact (show False from o).elim
theorem den_dispK (hr : DenPs C pos ks vs fr) (hall : ks.all (·.isSome) = true) (hl : ks.length = vs.length) (h0 : ks ≠ []) (h15 : ks.length ≤ 15) : DenN C (.Dict ks vs pos) (dispKR fr) := fun X E ok => by
  obtain ⟨ts, ps, qs⟩ := hr X E ok
  refine ⟨_, pe_disp ps hall hl h0 h15, fun W0 W τ σ h Q l fr' rh o => fun np hn => ?_⟩
  have lw := le_put (o := HO.dK []) hn
  refine qs W0 (W.put np (.dK [])) τ σ h _ (l.trans lw) (fr'.mono lw) (rh_put hn rh) ?_
  unfold dispKR at o
  cases hf : fr τ h with
  | ok zs h1 =>
    rw [hf] at o
    have o : okG C.g.K C.g.mg (NewR C.g.K W) W (fun c dd H => E c dd σ H) Q (if decide (zs.length ≤ 15) then toRes ((keysOfK zs).map fun kvs => .dK (mergeD [] kvs)) h1 else .bad) := o
    intro W1 us l1 rh1 r1
    obtain ⟨b1, b2, b3⟩ := l1.fo np (.dK []) upd_same (fun f => rh.up np f hn) (fun m => rh.there m hn)
    split at o
    · rename_i hz
      obtain ⟨d, e, k⟩ := toRes_some o
      obtain ⟨kvs, ek, rfl⟩ := Option.map_eq_some_iff.mp e
      obtain ⟨ws, r2, hl2, r3⟩ := keysOfK_ok r1 ek
      refine ⟨b1, ws, r3, by rw [hl2]; exact of_decide_eq_true hz, ?_⟩
      refine k (W1.put np (.dK (mergeK [] ws))) (.ref np) (le_own (lw.trans l1) hn b2) (rh_own rh1 b2 b3) ⟨np, _, rfl, upd_same, repK_m.mpr ?_, b2, b3, hn⟩
      exact (r2.merge .nil).mono (lef_own b2)
    · exact (show False from o).elim
  | exc x h1 =>
    rw [hf] at o
    exact fun W' c dd l2 => o W' c dd (lw.trans l2)
  | bad => rw [hf] at o; exact (show False from o).elim
end
end Sw

/-! Sw, part Z: sorted(d), len(d), dict(pairs), d.items() of dicts with tuple keys. -/
namespace Sw
open PySem PySem.Spec PyProof.Rows L2
variable [Tbs]
open PySem.W (dataLe AllAlike Sortable EachIs)
section
variable {X : Cx} {pins : List (Addr × Obj)} {σ : L2.St} {H : Hp} {s : Shared}
/-- what a dict with tuple keys is in the heap -/
theorem dT_read {a : Addr} {kvs : List (List Key × V)} (I : Inv X pins σ H s) (rd : Rd H a (.dT kvs)) : (a == sysModules) = false ∧ ∃ od, s.heap.get? a = some od ∧ od.ExactDict ∧ ∃ (es : Array DictEntry) (ep : Nat), od.data = .dict es ep ∧ es.size = kvs.length ∧ kvs.length ≤ sizeLine ∧
      ∀ (i : Nat) (k : List Key) (v : V), kvs[i]? = some (k, v) → ∃ (en : DictEntry) (q : Addr), es[i]? = some en ∧ en.key = .ref q ∧ H q = some (.tup (k.map kV)) ∧ L2.RelV v en.val := by
  obtain ⟨z, lo, xs, pr, o', es, ep, ho, hx, hdt, he, _⟩ := dt_rd I.hok rd
  refine ⟨lo, o', ho, hx, es, ep, hdt, ?_, z, fun i k v e => ?_⟩
  · have l1 : es.size = xs.length := size_of_entries he
    have l2 : kvs.length = xs.length := Paired.length pr
    omega
  · obtain ⟨b, hb, e1, e2, e3⟩ := paired_get pr e
    have q := entry_at he i
    rw [hb] at q
    exact ⟨_, b.2.1, q, rfl, e2, e3⟩
theorem paired_of {α β : Type} {F : α → β → Prop} : ∀ {a : List α} {b : List β}, a.length = b.length → (∀ (i : Nat) (x : α) (y : β), a[i]? = some x → b[i]? = some y → F x y) → Paired F a b
  | [], [], _, _ => .nil
  | x :: a, y :: b, h, f => .cons (f 0 x y rfl rfl) (paired_of (by simpa using h) fun i x y e1 e2 => f (i + 1) x y (by simpa using e1) (by simpa using e2))
theorem vals_of_at {us : List V} {vs : List Value} (h : us.length = vs.length) (f : ∀ (i : Nat) (x : V) (y : Value), us[i]? = some x → vs[i]? = some y → L2.RelV x y) : Vals us vs := by
  induction us generalizing vs with
  | nil => cases vs with | nil => exact .nil | cons _ _ => simp at h
  | cons u us ih =>
    cases vs with
    | nil => simp at h
    | cons v vs => exact .cons (f 0 u v rfl rfl) (ih (by simpa using h) fun i x y e1 e2 => f (i + 1) x y (by simpa using e1) (by simpa using e2))
def pyK : Key → PyData
  | .inl i => .int i
  | .inr s => .str s
abbrev pyT (k : List Key) : PyData := .tuple (k.map pyK)
theorem reads_keys {h : Heap} : ∀ {k : List Key} {vs : List Value}, Vals (k.map kV) vs → ReadsAll h vs (k.map pyK) []
  | [], _, r => by cases r; exact .nil
  | x :: k, _, r => by
    rw [List.map_cons] at r
    cases r with
    | @cons _ v _ vs h1 h2 =>
      have h3 := reads_keys (h := h) h2
      have h4 : Reads h v (pyK x) [] := by
        cases x with
        | inl i => obtain ⟨t, rfl⟩ := h1; exact .int i t
        | inr z => obtain ⟨t, rfl⟩ := h1; exact .str z t
      exact .cons h4 h3
/-- the keys' tuples, in their order -/
def KeysAt (H : Hp) (us : List V) (kvs : List (List Key × V)) : Prop := Paired (fun u (kv : List Key × V) => ∃ q, u = V.ref q ∧ H q = some (.tup (kv.1.map kV))) us kvs
theorem keys_each (I : Inv X pins σ H s) : ∀ {us : List V} {vs : List Value} {kvs : List (List Key × V)}, Vals us vs → KeysAt H us kvs → EachIs (fun u (b : V × PyData) => L2.RelV b.1 u ∧ Reads s.heap u b.2 []) vs (us.zip (kvs.map fun p => pyT p.1))
  | [], _, _, .nil, .nil => .nil
  | u :: us, _, kv :: kvs, .cons r t, .cons ⟨q, e, hq⟩ k => by
    subst e
    cases r
    obtain ⟨z, its, rv, o, h1, h2, n, h3⟩ := (show ObjOk X.prog X.w H s.heap q (.tup (kv.1.map kV)) from I.hok q _ hq)
    exact .cons ⟨rfl, .tuple h1 h2 h3 (by simpa using reads_keys rv)⟩ (keys_each I t k)
def rSortDT : List V → Hp → VK → Prop := fun vs H Q => ∃ (a : Addr) (kvs : List (List Key × V)), vs = [V.ref a] ∧ Rd H a (.dT kvs) ∧ AllAlike (kvs.map fun p => pyT p.1) ∧ Sortable (kvs.map fun p => pyT p.1) ∧ (∀ d ∈ kvs.map fun p => pyT p.1, d.depth ≤ 60) ∧ ∀ us, KeysAt H us kvs →
  ∀ p, H p = none → Q (.ref p) (upd H p (.lst (((us.zip (kvs.map fun p => pyT p.1)).mergeSort (dataLe false (·.2))).map (·.1))))
theorem cr_sortDT (hc : X.calm = true) (hu : X.A.units + 64 < cLine) : CallR X (.builtin "sorted") rSortDT := by
  intro pins s σ H vs us' Q I r h
  obtain ⟨a, kvs, rfl, rd, hal, hsb, hdep, q⟩ := h
  rw [Vals.ref1 r]
  obtain ⟨lo, od, ho, hx, es, ep, hdt, hes, hz, ent⟩ := dT_read I rd
  refine Calls.call_function_entry PyProof.Rows.kind_sorted PyProof.Rows.plain_sorted PyProof.Rows.entry_sorted (PyProof.Rows.args_sorted1 _) ?_
  unfold Builtin.«sorted»
  refine wpAny_bind (m := checkCount "sorted" 1 1 _) (wpAny_pure ?_)
  refine wpAny_bind (PySem.W.kdu_collect (A := X.A.in1) (kdl_raw lo hx hdt) (I.ok.hd hc) ho (by rw [hes]; exact hz) fun h' tk acc hk hacc => ?_)
  have I1 : Inv X pins σ H { s with heap := h', toks := tk } := I.kept hk
  have hal' : acc.toList.length = kvs.length := by rw [Array.length_toList, hacc.1, hes]
  have each : ∀ (j : Nat) (v : Value) (kv : List Key × V), acc.toList[j]? = some v → kvs[j]? = some kv → ∃ q, v = Value.ref q ∧ H q = some (.tup (kv.1.map kV)) := fun j v kv e1 e2 => by
    obtain ⟨en, f1, rfl⟩ := hacc.2 j v (by rw [← Array.getElem?_toList]; exact e1)
    obtain ⟨en', q', g1, g2, g3, _⟩ := ent j kv.1 kv.2 e2
    rw [f1] at g1
    cases g1
    exact ⟨q', g2, g3⟩
  obtain ⟨us, hv, hks⟩ : ∃ us, Vals us acc.toList ∧ KeysAt H us kvs := by
    refine ⟨acc.toList.map fun v => match v with | .ref q => V.ref q | _ => V.non, vals_of_at (by simp) fun i x y e1 e2 => ?_, paired_of (by simp [hes, hacc.1]) fun i x kv e1 e2 => ?_⟩
    · have hi : i < kvs.length := by rw [← hal']; exact (List.getElem?_eq_some_iff.mp e2).1
      obtain ⟨q', rfl, _⟩ := each i y _ e2 (List.getElem?_eq_getElem hi)
      rw [List.getElem?_map, e2] at e1
      cases e1
      rfl
    · rw [List.getElem?_map] at e1
      obtain ⟨v, ev, rfl⟩ := Option.map_eq_some_iff.mp e1
      obtain ⟨q', rfl, hq⟩ := each i v kv ev e2
      exact ⟨q', rfl, hq⟩
  have E1 := keys_each I1 hv hks
  have lenz : (us.zip (kvs.map fun p => pyT p.1)).length = kvs.length := by
    rw [List.length_zip, List.length_map, hv.length, hal', Nat.min_self]
  have snd : (us.zip (kvs.map fun p => pyT p.1)).map (·.2) = kvs.map fun p => pyT p.1 := zip_snd (by rw [List.length_map, hv.length, hal'])
  refine wpAny_bind (wpAny_newList ?_ (by rw [hal']; exact hz))
  have hoL : (h'.push (seqObj "list" acc.toList.toArray 0)).get? h'.objs.size = some (seqObj "list" acc.toList.toArray 0) := Heap.get?_push_size _ rfl
  show wpAny _ _ _ _ _ { s with heap := h'.push (seqObj "list" acc.toList.toArray 0), toks := tk }
  refine wpAny_bind (wpAny_holding (PySem.W.list_sort_data (s := { s with heap := h'.push (seqObj "list" acc.toList.toArray 0), toks := tk }) (bs := us.zip (kvs.map fun p => pyT p.1)) (enc := (·.2)) (R := fun u (b : V × PyData) => L2.RelV b.1 u) hoL (E1.mono fun _ _ z => z.1)
    (E1.mono fun _ _ z => ⟨[], PyProof.Rows.Reads.keeps (fun _ _ e => Heap.get?_push_of_some _ e) z.2, fun m => nomatch m⟩) (by rw [snd]; exact hal) (by rw [snd]; exact hsb) (by rw [lenz]; exact hz) (fun b hb => ?_) fun out hlo eo => ?_))
  · have := hdep b.2 (by rw [← snd]; exact List.mem_map_of_mem hb)
    show X.A.units + 1 + 1 + b.2.depth < cLine
    omega
  · obtain ⟨e', he'⟩ := PyProof.Rows.sortedHeap_at (vs := acc.toList) (out := out.toArray) hoL
    have vo := vals_each eo
    have fit : (((us.zip (kvs.map fun p => pyT p.1)).mergeSort (dataLe false (·.2))).map (·.1)).length ≤ sizeLine := by
      rw [vo.length, hlo, lenz]; exact hz
    refine wpAny_pure ⟨_, rfl, .ref h'.objs.size, upd H h'.objs.size (.lst (((us.zip (kvs.map fun p => pyT p.1)).mergeSort (dataLe false (·.2))).map (·.1))), I1.laid (t' := tk) (fun b u e => ?_) (Nat.le_refl _) ⟨fit, out, e', vo, he'⟩, rfl, q us hks _ (I1.hok.fresh (Nat.le_refl _))⟩
    have hb : b < h'.objs.size := Heap.lt_size e
    rw [PyProof.Rows.sortedHeap_old (Nat.ne_of_lt hb) (by rw [size_push']; exact Nat.lt_succ_of_lt hb)]
    exact Heap.get?_push_of_some _ e
end

/-! ### as data -/
section
variable {C : Cn}
theorem keysAt_rep {K : PySem.W.Frag} {W : Wd} (tf : ∀ a ys, W.H a = some (.tup ys) → W.F a) : ∀ {kvs : List (List Key × D)} {ws : List (List Key × V)} {us : List V}, RepM K W kvs ws → KeysAt W.H us ws → Reps K W (kvs.map fun p => .tup (p.1.map dOfK)) us
  | [], _, _, .nil, .nil => .nil
  | p :: kvs, _, _, .cons (b := q) h t, .cons (a := u) ⟨b, e, hb⟩ k => by
    subst e
    refine .cons ?_ (keysAt_rep tf t k)
    show Rep K W (.tup (p.1.map dOfK)) (V.ref b)
    rw [h.1, Rep]
    exact ⟨b, _, rfl, .inl ⟨tf b _ hb, hb⟩, reps_dOfK⟩
theorem repM_pyT {K : PySem.W.Frag} {W : Wd} {a : List (List Key × D)} {b : List (List Key × V)} (r : RepM K W a b) : (b.map fun p => pyT p.1) = a.map fun p => pyT p.1 := by
  unfold RepM at r
  induction r with
  | nil => rfl
  | cons h t ih => rw [List.map_cons, List.map_cons, ih, h.1]
def sortKG : List D → Option D
  | [.dT kvs] => if sortOk (kvs.map fun p => pyT p.1) then some (.lst ((sortB lePy ((kvs.map fun p => D.tup (p.1.map dOfK)).zip (kvs.map fun p => pyT p.1))).map (·.1))) else none
  | _ => none
theorem cn_sortK : CalN C (.builtin "sorted") sortKG := fun X E ok => ⟨_, cr_sortDT ok.calm ok.room.units, fun W h ds vs d Q rh b e k => by
  unfold sortKG at e
  split at e
  · rename_i kvs
    obtain ⟨v, rfl, b1⟩ := BorsAll.one b
    obtain ⟨a, ws, rfl, rd, r⟩ := b1.dT
    have r := repT_m.mp r
    split at e
    · rename_i hok
      cases e
      have ek := repM_pyT r
      obtain ⟨h1, h2, h3⟩ := sortOk_ok hok
      refine ⟨a, ws, rfl, rd, by rw [ek]; exact h1, by rw [ek]; exact h2, by rw [ek]; exact h3, fun us hus p np => ?_⟩
      have z := (SameZ.of (keysAt_rep rh.tf r hus) (show (kvs.map fun p => D.tup (p.1.map dOfK)).length = (kvs.map fun p => pyT p.1).length by simp)).sort.reps
      rw [ek, lePy_eq]
      obtain ⟨l, rh', n⟩ := new_lst np rh z
      exact k _ _ l rh' n
    · cases e
  · cases e⟩
/-- len(d) -/
def lenKG : List D → Option D
  | [.dT kvs] => some (.int kvs.length)
  | [.dK kvs] => some (.int kvs.length)
  | _ => none
theorem call_len_dR {X : Cx} : CallR X (.builtin "len") (fun xs H Q => ∃ p, xs = [V.ref p] ∧ ((∃ kvs : List (List Key × V), Rd H p (.dT kvs) ∧ Q (.int ((kvs.length : Nat) : Int)) H) ∨ ∃ kvs : List (Key × V), Rd H p (.dK kvs) ∧ Q (.int ((kvs.length : Nat) : Int)) H)) := by
  intro pins s σ H xs us Q I r h
  obtain ⟨p, rfl, h⟩ := h
  rw [Vals.ref1 r]
  rcases h with ⟨kvs, hp, q⟩ | ⟨kvs, hp, q⟩
  · obtain ⟨z, hd, ys, rel, dd⟩ := dt_rd I.hok hp
    have hl : kvs.length = ys.length := Paired.length rel
    refine call_len_dictH hd dd (by rw [← hl]; rw [sizeLine_eq] at z; omega) ?_
    rw [← hl]
    exact ⟨.int ((kvs.length : Nat) : Int), H, I.tok _, ⟨_, rfl⟩, q⟩
  · exact d_len I hp fun t s' I' => ⟨.int kvs.length, H, I', ⟨t, rfl⟩, q⟩
theorem c_lenK : CalD C (.builtin "len") lenKG := fun X E ok => ⟨_, call_len_dR, fun W h ds vs d Q rh b e k => by
  unfold lenKG at e
  split at e
  · obtain ⟨v, rfl, b1⟩ := BorsAll.one b
    obtain ⟨a, ws, rfl, rd, r⟩ := b1.dT
    cases e
    exact ⟨a, rfl, .inl ⟨ws, rd, by rw [← (repT_m.mp r).len]; exact k W _ (.refl _) rh rep_int⟩⟩
  · obtain ⟨v, rfl, b1⟩ := BorsAll.one b
    obtain ⟨a, ws, rfl, rd, r⟩ := b1.dK
    cases e
    exact ⟨a, rfl, .inr ⟨ws, rd, by rw [← (repK_m.mp r).len]; exact k W _ (.refl _) rh rep_int⟩⟩
  · cases e⟩
end

/-! ### dict(pairs) -/
section
variable {X : Cx}
theorem pairsT_of {pins : List (Addr × Obj)} {σ : L2.St} {H : Hp} {s : Shared} (I : Inv X pins σ H s) : ∀ {ps : List Addr} {kvs : List (List Key × V)}, Paired (fun p (kv : List Key × V) => ∃ q, H q = some (.tup (kv.1.map kV)) ∧ SqT X.K H p [.ref q, kv.2]) ps kvs →
    ∃ ph : List (List Key × Addr × Value), KT H kvs ph ∧ ph.length = ps.length ∧ ∀ (j : Nat) (x : List Key × Addr × Value), ph[j]? = some x → ∃ b, ps[j]? = some b ∧ IsTup s.heap b #[.ref x.2.1, x.2.2]
  | _, _, .nil => ⟨[], .nil, rfl, fun j q e => by simp at e⟩
  | _, _, .cons (a := p) (b := kv) ⟨q, hq, h⟩ t => by
    obtain ⟨ph, r, hl, hp⟩ := pairsT_of I t
    obtain ⟨its, rv, ht, _⟩ := I.tuple h
    obtain ⟨u, y, ei, ru, ry⟩ := vals2 rv
    subst ei
    cases ru
    refine ⟨(kv.1, q, y) :: ph, .cons ⟨rfl, hq, ry⟩ r, by rw [List.length_cons, List.length_cons, hl], fun j x e => ?_⟩
    cases j with
    | zero =>
      have e' : (kv.1, q, y) = x := Option.some.inj e
      subst e'
      exact ⟨p, rfl, ht⟩
    | succ j =>
      obtain ⟨b, e1, e2⟩ := hp j x (by simpa using e)
      exact ⟨b, by simpa using e1, e2⟩
theorem KT.mergeAll {H : Hp} {more : List (List Key × V)} {ph : List (List Key × Addr × Value)} (r : KT H more ph) : ∀ {kvs : List (List Key × V)} {xs : List (List Key × Addr × Value)}, KT H kvs xs → KT H (mergeT kvs more) (storedAllH xs ph) := by
  unfold KT at r
  induction r with
  | nil => intro _ _ q; exact q
  | @cons p q ps qs h t ih =>
    intro kvs xs r0
    have e := KT.put r0 p.1 h.2.1 h.2.2
    show KT H (mergeT (putK kvs p.1 p.2) ps) (storedAllH (storedH xs q.1 q.2.1 q.2.2) qs)
    rw [← h.1]
    exact ih e
theorem length_mergeT : ∀ (more kvs : List (List Key × V)), (mergeT kvs more).length ≤ kvs.length + more.length
  | [], kvs => by show kvs.length ≤ kvs.length + 0; omega
  | p :: r, kvs => by
    have h1 := length_mergeT r (putK kvs p.1 p.2)
    have h2 := length_putK kvs p.1 p.2
    show (mergeT (putK kvs p.1 p.2) r).length ≤ _
    rw [List.length_cons]; omega
theorem call_dictPT (hcalm : X.calm = true) (hu : X.A.units + 64 < cLine) : CallR X (.type "dict") (fun xs H Q => ∃ (a : Addr) (ps : List Addr) (kvs : List (List Key × V)), xs = [.ref a] ∧ SqL X.K H a (ps.map V.ref) ∧
    Paired (fun p (kv : List Key × V) => ∃ q, H q = some (.tup (kv.1.map kV)) ∧ SqT X.K H p [.ref q, kv.2]) ps kvs ∧ ∀ p, H p = none → Q (.ref p) (upd H p (.dT (mergeT [] kvs)))) := by
  intro pins s σ H xs us Q I r q
  obtain ⟨a, ps, kvs, ex, hq, hp, q⟩ := q
  subst ex
  rw [Vals.ref1 r]
  obtain ⟨its, rv, pl, hz⟩ := I.list hq
  have ei := refs_at rv
  subst ei
  rw [List.length_map] at hz
  obtain ⟨ph, rel, hl, hpr⟩ := pairsT_of I hp
  have hlk : kvs.length = ph.length := Paired.length rel
  obtain ⟨o, n, ho, hc, hd, hdat⟩ := pl
  have P := PairArg.list (prog := X.prog) (w := X.w) a (ps.map Value.ref).toArray (fun j => ps.getD j 0) (ph.map fun x => (Value.ref x.2.1, x.2.2))
  refine call_dict_pairsH (knd := tupleKind (mixKind X.prog X.w)) (ps := ph) P (I.ok.hd hcalm) (show X.A.units + 1 + 1 < cLine by omega) ⟨⟨o, n, ho, hc, hd, hdat⟩, by simp [hl], fun j k v e => ?_⟩ ⟨by simp, fun i key v e => ?_⟩ (fun h' hk x hx => ?_) (by rw [List.length_map, hl]; exact hz) fun h' tk hd' hk => ?_
  · rw [List.getElem?_map] at e
    obtain ⟨x, ex, ee⟩ := Option.map_eq_some_iff.mp e
    cases ee
    obtain ⟨b, e1, e2⟩ := hpr j x ex
    refine ⟨by simp [e1], .inl ?_⟩
    have : ps.getD j 0 = b := by rw [List.getD_eq_getElem?_getD, e1]; rfl
    show s.heap.IsTuple (ps.getD j 0) _
    rw [this]
    exact e2
  · have e : (ph.map fun x => (Value.ref x.2.1, x.2.2))[i]? = some (key, v) := e
    rw [List.getElem?_map] at e
    obtain ⟨x, ex, ee⟩ := Option.map_eq_some_iff.mp e
    cases ee
    exact ⟨x.1, x.2.1, ex, rfl⟩
  · have : ∀ {l : List (List Key × V)} {m : List (List Key × Addr × Value)}, KT H l m → ∀ x ∈ m, H x.2.1 = some (.tup (x.1.map kV)) := by
      intro l m q
      induction q with
      | nil => intro x hx; exact nomatch hx
      | @cons p q ps qs hq t ih =>
        intro x hx
        rcases List.mem_cons.mp hx with e | hx
        · subst e; rw [← hq.1]; exact hq.2.1
        · exact ih x hx
    obtain ⟨ob, itm, m, h1, h2, h3, h4⟩ := key_of I.hok (this rel x hx)
    exact ⟨ob, itm, m, hk _ _ (Nat.ne_of_lt (Heap.lt_size h1)) (by simp) h1, h2, h3, h4⟩
  · have hm : (s.heap.objs.size == sysModules) = false := beq_eq_false_iff_ne.mpr (Nat.ne_of_gt I.big)
    have hlen : (mergeT [] kvs).length ≤ sizeLine := by
      refine Nat.le_trans (length_mergeT kvs []) ?_
      rw [List.length_nil, Nat.zero_add, hlk, hl]
      exact hz
    obtain ⟨ob, es, ep, hob, h2, h3, h4, _, h5⟩ := hd'
    have nf := I.hok.fresh (Nat.le_refl s.heap.objs.size)
    have rel2 := (KT.mergeAll rel (kvs := []) (xs := []) .nil).keeps (H' := upd H s.heap.objs.size (.dT (mergeT [] kvs))) fun b ys e => by rw [upd_ne (ne_of_none e nf)]; exact e
    exact ⟨.ref s.heap.objs.size, upd H s.heap.objs.size (.dT (mergeT [] kvs)), I.laid (t' := tk) (fun b o e => hk b o (by simp) e) (Nat.le_refl _) (show ObjOk X.prog X.w _ _ _ (.dT (mergeT [] kvs)) from ⟨hlen, hm, _, rel2, ob, es, ep, hob, h2, h3, h4, h5⟩), rfl, q _ nf⟩
end
def pairsTD : List D → Option (List (List Key × D))
  | [] => some []
  | .tup [.tup ks, d] :: r => match keysD ks, pairsTD r with
    | some k, some m => some ((k, d) :: m)
    | _, _ => none
  | _ => none
def dictPG : List D → Option D
  | [.lst xs] => (pairsTD xs).map fun kvs => .dT (mergeD [] kvs)
  | _ => none
section
variable {C : Cn}
theorem pairsTD_ok {K : PySem.W.Frag} {W : Wd} : ∀ {xs : List D} {vs : List V} {kvs : List (List Key × D)}, Reps K W xs vs → pairsTD xs = some kvs →
    ∃ (ps : List Addr) (ws : List (List Key × V)), vs = ps.map V.ref ∧ RepM K W kvs ws ∧ Paired (fun p (kv : List Key × V) => ∃ q, W.H q = some (.tup (kv.1.map kV)) ∧ SqT K W.H p [.ref q, kv.2]) ps ws
  | [], _, _, r, e => by rw [Reps] at r; subst r; cases e; exact ⟨[], [], rfl, .nil, .nil⟩
  | x :: xs, _, kvs, r, e => by
    rw [Reps] at r
    obtain ⟨v, t, rfl, h1, h2⟩ := r
    unfold pairsTD at e
    split at e
    · rename_i heq
      cases heq
    · rename_i ks d r' heq
      cases heq
      cases e1 : keysD ks with
      | none => rw [e1] at e; cases e
      | some k =>
        cases e2 : pairsTD xs with
        | none => rw [e1, e2] at e; cases e
        | some m =>
          rw [e1, e2] at e
          cases e
          obtain ⟨ps, ws, rfl, r1, r2⟩ := pairsTD_ok h2 e2
          rw [Rep] at h1
          obtain ⟨p, us, rfl, tp, rr⟩ := h1
          rw [Reps] at rr
          obtain ⟨u1, t1, rfl, g1, rr⟩ := rr
          rw [Reps] at rr
          obtain ⟨u2, t2, rfl, g2, rr⟩ := rr
          rw [Reps] at rr
          subst rr
          obtain ⟨q, rfl, hq⟩ := (show Bor K W (.tup ks) u1 from .inl g1).keys e1
          exact ⟨p :: ps, (k, u2) :: ws, rfl, .cons ⟨rfl, g2⟩ r1, .cons ⟨q, hq, tp.sq⟩ r2⟩
    · cases e
theorem cn_dictP : CalN C (.type "dict") dictPG := fun X E ok => ⟨_, call_dictPT ok.calm ok.room.units, fun W h ds vs d Q rh b e k => by
  unfold dictPG at e
  split at e
  · rename_i xs
    obtain ⟨v, rfl, b1⟩ := BorsAll.one b
    obtain ⟨a, us, rfl, sq, r⟩ := b1.lst
    obtain ⟨kvs, ek, rfl⟩ := Option.map_eq_some_iff.mp e
    obtain ⟨ps, ws, rfl, r1, r2⟩ := pairsTD_ok r ek
    refine ⟨a, ps, ws, rfl, .of sq, by rw [ok.K]; exact r2, fun p np => ?_⟩
    have lw := le_put (o := HO.dT (mergeT [] ws)) np
    exact k (W.put p (.dT (mergeT [] ws))) (.ref p) lw (rh_put np rh) ⟨p, _, rfl, upd_same, repT_m.mpr ((r1.merge .nil).mono lw.toLeF), fun f => rh.up p f np, fun m => rh.there m np, np⟩
  · cases e⟩
end
end Sw

/-! Sw, part a: {k: v for ..} with keys that are numbers or texts. -/
namespace Sw
open PySem PySem.Spec PyProof.Rows L2
variable [Tbs]
/-- the new dict at Dd holds acc -/
structure OwnD (K : PySem.W.Frag) (W1 W2 : Wd) (Dd : Addr) (acc : List (Key × D)) (h : HS) : Prop where
  le : Le W1 W2
  rh : RH K W2 h
  obj : ∃ ws, W2.H Dd = some (.dK ws) ∧ RepM K W2 acc ws
  nF : ¬ W2.F Dd
  nr : Dd ∉ W2.ρ
theorem OwnD.step {K : PySem.W.Frag} {W1 W2 W3 : Wd} {Dd : Addr} {acc : List (Key × D)} {h h' : HS} (w : OwnD K W1 W2 Dd acc h) (l : Le W2 W3) (rh : RH K W3 h') : OwnD K W1 W3 Dd acc h' := by
  obtain ⟨ws, e, r⟩ := w.obj
  have z := l.fo Dd _ e w.nF w.nr
  exact ⟨w.le.trans l, rh, ⟨ws, z.1, r.mono l.toLeF⟩, z.2.1, z.2.2⟩
theorem OwnD.put {K : PySem.W.Frag} {W1 W2 : Wd} {Dd : Addr} {acc : List (Key × D)} {h : HS} {d : D} {v : V} {ws : List (Key × V)} (w : OwnD K W1 W2 Dd acc h) (n : W1.H Dd = none) (e : W2.H Dd = some (.dK ws)) (k : Key) (r : Rep K W2 d v) :
    OwnD K W1 (W2.put Dd (.dK (putK ws k v))) Dd (pk acc k d) h := by
  obtain ⟨ws', e', r'⟩ := w.obj
  rw [e] at e'
  cases e'
  refine ⟨le_own w.le n w.nF, rh_own w.rh w.nF w.nr, ⟨_, upd_same, ?_⟩, w.nF, w.nr⟩
  rw [putK_pk]
  exact (r'.put k r).mono (lef_own w.nF)
def dcL (g : GT) (tt : DT) (tk tv : DE) (τ : List Sl) : List D → List (Key × D) → HS → Res (List (Key × D))
  | [], acc, h => .ok acc h
  | x :: r, acc, h => match g x τ with
    | none => .bad
    | some τ1 => (tt τ1 h).nox.bind fun b h1 => if b then (tk τ1 h1).nox.bind fun y h2 => (tv τ1 h2).nox.bind fun z h3 => match keyD y with
        | some k => dcL g tt tk tv τ r (pk acc k z) h3
        | none => .bad
      else dcL g tt tk tv τ r acc h1
def dcR (fi : DA) (vs : List Nat) (g : GT) (ft : DT) (fk fv : DE) : DE := fun τ h => (fi τ h).bind fun items h1 => if fits items.length then (dcL g ft fk fv (wipeT τ vs) items [] h1).nox.bind fun kvs h2 => .ok (.dK kvs) h2 else .bad
theorem pk_len {κ α : Type} [DecidableEq κ] (kvs : List (κ × α)) (k : κ) (v : α) : (pk kvs k v).length ≤ kvs.length + 1 := by
  unfold pk
  split
  · rw [List.length_map]; omega
  · rw [List.length_append]; simp
section
variable {C : Cn} {kx vx tg iter : Expr} {ifs : List Expr} {scope : Scope} {own : List (Str × Nat)} {pos : Pos} {fi : DA} {g : GT} {is : List Nat} {ft : DT} {fk fv : DE}
theorem den_dcK (hi : DenI C tg iter fi) (hb : blkC C.N C.sc scope own = true) (ho : ∀ i ∈ is, i ∈ own.map (·.2)) (hg : DenGt (C.blk scope) tg is g) (ht : DenTs (C.blk scope) ifs ft) (hk : DenE (C.blk scope) kx fk) (hv : DenE (C.blk scope) vx fv)
    (hs : ∀ env x, foldedSetIterable iter env x = pure x) : DenN C (.DictComp kx vx [⟨tg, iter, ifs, 0⟩] scope pos) (dcR fi (own.map (·.2)) g ft fk fv) := fun X E ok => by
  obtain ⟨wi, pi, qi⟩ := hi X E ok
  have oks : ∀ i : BI, CxOk (C.blk scope) (bX X scope i) (fun _ _ _ _ => False) := fun i => ok.blk scope i.s i.H i.C i.cl i.fp
  obtain ⟨gt, pg, qg⟩ := hg.unif (bX X scope) _ oks
  obtain ⟨tt, pt, qt⟩ := ht.unif (bX X scope) _ oks fun X t t' p k => PTs.anti p k
  obtain ⟨tk, pk', qk⟩ := hk.unif (bX X scope) _ oks fun X t t' p k => PE.anti p k
  obtain ⟨tv, pv, qv⟩ := hv.unif (bX X scope) _ oks fun X t t' p k => PE.anti p k
  refine ⟨_, pe_dc ok.calm ok.nd pi (blkOk_by (by rw [ok.names, ok.scope]; exact hb)) (fun s H Cd cl fp => pg ⟨s, H, Cd, cl, fp⟩) (fun s H Cd cl fp => pt ⟨s, H, Cd, cl, fp⟩) (fun s H Cd cl fp => pk' ⟨s, H, Cd, cl, fp⟩) (fun s H Cd cl fp => pv ⟨s, H, Cd, cl, fp⟩) (hs _), fun W0 W τ σ h Q l fr rh o => ?_⟩
  refine qi W0 W τ σ h _ l fr rh (okG.bind o fun items h1 W1 J l1 rh1 wk o1 => ?_)
  intro Dd hD
  by_cases hz : fits items.length = true
  · rw [if_pos hz] at o1
    have hz : items.length ≤ sizeLine := of_decide_eq_true hz
    let vs := own.map (·.2)
    let τ0 := wipeT τ vs
    let Fin := fun (r : Res (List (Key × D))) => okG C.g.K C.g.mg (NewR C.g.K W) W1 (fun c dd H => E c dd σ H) Q (r.nox.bind fun kvs h2 => .ok (.dK kvs) h2)
    have o1 : Fin (dcL g ft fk fv τ0 items [] h1) := o1
    refine ⟨fun i m H => m = items.length - i ∧ i ≤ items.length ∧ ∃ W2 acc h2, W2.H = H ∧ OwnD C.g.K W1 W2 Dd acc h2 ∧ acc.length ≤ i ∧ Fin (dcL g ft fk fv τ0 (items.drop i) acc h2),
      ⟨items.length, by simp, Nat.zero_le _, W1.put Dd (.dK []), [], h1, rfl, ?_, Nat.le_refl _, by rw [List.drop_zero]; exact o1⟩, ?_⟩
    · exact ⟨le_put hD, rh_put hD rh1, ⟨[], upd_same, .nil⟩, fun f => rh1.up _ f hD, fun m => rh1.there m hD⟩
    rintro i m H ⟨rfl, hi, W2, acc, h2, rfl, w, hacc, o2⟩
    by_cases hlt : i < items.length
    · have hdrop : items.drop i = items[i] :: items.drop (i + 1) := List.drop_eq_getElem_cons hlt
      rw [hdrop, dcL] at o2
      obtain ⟨hgo, hy⟩ := (wk i W2 w.le.toLeF w.rh.tf).1 _ (List.getElem?_eq_getElem hlt)
      refine .inr ⟨hgo, fun H' => ∃ W3 acc h3, W3.H = H' ∧ OwnD C.g.K W1 W3 Dd acc h3 ∧ acc.length ≤ i + 1 ∧ Fin (dcL g ft fk fv τ0 (items.drop (i + 1)) acc h3), fun H' hN => ⟨items.length - (i + 1), by omega, rfl, hlt, hN⟩, fun x H' y => ?_⟩
      obtain ⟨W3, rfl, l3, k3, r3⟩ := hy x H' y
      have w3 := w.step l3 (k3 _ w.rh)
      have fr3 : Frm C.g.K W0 W3 τ0 (L2.wipe σ vs) := (fr.mono ((l1.trans w.le).trans l3)).wipe vs
      have le03 : Le W0 W3 := (l.trans (l1.trans w.le)).trans l3
      cases eg : g items[i] τ0 with
      | none => rw [eg] at o2; exact (show False from o2).elim
      | some τ1 =>
        rw [eg] at o2
        refine qg W0 W3 τ0 _ items[i] x τ1 _ fr3 r3 eg fun σ2 fr4 hl2 hs2 _ => ⟨?_, ?_⟩
        · rw [wipe_same (σ := L2.wipe σ vs) (σ' := σ2) (vs := vs) hl2 fun j hj => hs2 j fun z => hj (ho j z), wipe_wipe]
        · dsimp only at o2
          cases et : ft τ1 h2 with
          | exc _ _ => rw [et] at o2; exact (show False from o2).elim
          | bad => rw [et] at o2; exact (show False from o2).elim
          | ok b h4 =>
            refine qt W0 W3 τ1 σ2 h2 _ le03 fr4 w3.rh ?_
            rw [et] at o2 ⊢
            intro W4 b' l4 rh4 hb'
            subst hb'
            have w4 := w3.step l4 rh4
            cases b with
            | false => exact iteF ⟨W4, acc, h4, rfl, w4, Nat.le_succ_of_le hacc, o2⟩
            | true =>
              refine iteT ?_
              have o2 : Fin ((fk τ1 h4).nox.bind fun y h2 => (fv τ1 h2).nox.bind fun z h3 => match keyD y with | some k => dcL g ft fk fv τ0 (items.drop (i + 1)) (pk acc k z) h3 | none => .bad) := o2
              cases ek : fk τ1 h4 with
              | exc _ _ => rw [ek] at o2; exact (show False from o2).elim
              | bad => rw [ek] at o2; exact (show False from o2).elim
              | ok dk h5 =>
                refine qk W0 W4 τ1 σ2 h4 _ (le03.trans l4) (fr4.mono l4) rh4 ?_
                rw [ek] at o2 ⊢
                intro W5 yv l5 rh5 r5
                have w5 := w4.step l5 rh5
                have o2 : Fin ((fv τ1 h5).nox.bind fun z h3 => match keyD dk with | some k => dcL g ft fk fv τ0 (items.drop (i + 1)) (pk acc k z) h3 | none => .bad) := o2
                cases ev : fv τ1 h5 with
                | exc _ _ => rw [ev] at o2; exact (show False from o2).elim
                | bad => rw [ev] at o2; exact (show False from o2).elim
                | ok dv h6 =>
                  refine qv W0 W5 τ1 σ2 h5 _ ((le03.trans l4).trans l5) ((fr4.mono l4).mono l5) rh5 ?_
                  rw [ev] at o2 ⊢
                  intro W6 zv l6 rh6 r6
                  have w6 := w5.step l6 rh6
                  have o2 : Fin (match keyD dk with | some k => dcL g ft fk fv τ0 (items.drop (i + 1)) (pk acc k dv) h6 | none => .bad) := o2
                  cases eq : keyD dk with
                  | none => rw [eq] at o2; exact (show False from o2).elim
                  | some k =>
                    rw [eq] at o2
                    obtain ⟨ws, ea, ra⟩ := w6.obj
                    have hk := keyD_rep eq (r5.mono l6.toLeF)
                    refine ⟨ws, k, hk, ea, by rw [← ra.len]; omega, W6.put Dd (.dK (putK ws k zv)), pk acc k dv, h6, rfl, w6.put hD ea k r6, ?_, o2⟩
                    have := pk_len acc k dv
                    omega
    · have e : i = items.length := by omega
      subst e
      rw [List.drop_length, dcL] at o2
      obtain ⟨ws, ea, ra⟩ := w.obj
      refine .inl ⟨(wk _ W2 w.le.toLeF w.rh.tf).2 rfl, ?_⟩
      have o3 : okG C.g.K C.g.mg (NewR C.g.K W) W1 (fun c dd H => E c dd σ H) Q (.ok (.dK acc) h2) := o2
      exact o3 W2 _ w.le w.rh ⟨Dd, ws, rfl, ea, repK_m.mpr ra, w.nF, w.nr, l1.old rh1 hD⟩
  · rw [if_neg hz] at o1
    exact (show False from o1).elim
end

/-! ### min(d), d's keys numbers -/
section
variable {X : Cx}
def numK (vs : List (Key × Value)) (i : Nat) : Int := match vs[i]? with
  | some (.inl n, _) => n
  | _ => 0
theorem call_min_dK (hc : X.calm = true) : CallR X (.builtin "min") (fun xs H Q => ∃ (a : Addr) (kvs : List (Key × V)) (n : Int) (ns : List Int), xs = [V.ref a] ∧ Rd H a (.dK kvs) ∧ kvs.map (·.1) = (n :: ns).map Sum.inl ∧ ∀ m : Int, m ∈ n :: ns → (∀ k ∈ n :: ns, m ≤ k) → Q (.int m) H) := by
  intro pins s σ H xs us Q I r h
  obtain ⟨a, kvs, n, ns, rfl, rd, hk, q⟩ := h
  rw [Vals.ref1 r]
  obtain ⟨z, lo, vs, rel, dd⟩ := dk_rd I.hok rd
  obtain ⟨ep, hat⟩ := dd.dictAt
  have hkeys : vs.map (·.1) = (n :: ns).map Sum.inl := rel.keys.symm.trans hk
  have hl : vs.length = ns.length + 1 := by
    have e := congrArg List.length hkeys
    simpa using e
  have at_ : ∀ i, i < vs.length → ∃ m x, vs[i]? = some (Sum.inl m, x) ∧ m ∈ n :: ns ∧ numK vs i = m := fun i hi => by
    have e : (vs.map (·.1))[i]? = some vs[i].1 := by rw [List.getElem?_map, List.getElem?_eq_getElem hi]; rfl
    rw [hkeys, List.getElem?_map] at e
    obtain ⟨m, em, e2⟩ := Option.map_eq_some_iff.mp e
    have ev : vs[i]? = some (Sum.inl m, vs[i].2) := by rw [List.getElem?_eq_getElem hi, e2]
    exact ⟨m, vs[i].2, ev, List.mem_of_getElem? em, by unfold numK; rw [ev]⟩
  have all_ : ∀ k ∈ n :: ns, ∃ i, i < vs.length ∧ numK vs i = k := fun k hm => by
    obtain ⟨i, hi⟩ := List.getElem?_of_mem hm
    have e : ((n :: ns).map (Sum.inl : Int → Key))[i]? = some (Sum.inl k) := by rw [List.getElem?_map, hi]; rfl
    rw [← hkeys, List.getElem?_map] at e
    obtain ⟨p, ep', e2⟩ := Option.map_eq_some_iff.mp e
    refine ⟨i, (List.getElem?_eq_some_iff.mp ep').1, ?_⟩
    unfold numK
    rw [ep']
    obtain ⟨p1, p2⟩ := p
    cases e2
    rfl
  refine call_min_walk (wpAny_pyIter_dict lo hat ?_)
  have hne : a ≠ s.heap.objs.size := Nat.ne_of_lt (let ⟨_, _, ho, _⟩ := hat; Heap.lt_size ho)
  have W := Walks.dictKeys (prog := X.prog) (w := X.w) (knd := mixKind X.prog X.w) (A := X.A.in1) (show X.A.in1.handled = none from I.ok.hd hc) s.heap.objs.size a hne vs ep
  refine ⟨_, _, _, _, _, _, fun i j => decide (numK vs i < numK vs j), rfl, W, ⟨⟨_, Heap.get?_push_size _ rfl, rfl, rfl⟩, ?_⟩, fun b hb => ?_, by omega, CmpOf.ints_lt (numK vs) (fun i v hi => ?_), fun v h' tk hP hkp => ?_⟩
  · exact hat.at' fun o e => Heap.get?_push_of_some _ e
  · have e : b = s.heap.objs.size ∨ b = a := by simpa using hb
    rw [Heap.size_push]
    rcases e with rfl | rfl
    · exact Nat.lt_succ_self _
    · exact Nat.lt_succ_of_lt (let ⟨_, _, ho, _⟩ := hat; Heap.lt_size ho)
  · obtain ⟨k, x, e1, e2⟩ := hi
    obtain ⟨m, y, f1, _, f2⟩ := at_ i (List.getElem?_eq_some_iff.mp e1).1
    rw [e1] at f1; cases f1
    obtain ⟨t, rfl⟩ := Value.isInt_shape e2
    exact ⟨t, by rw [f2]⟩
  · obtain ⟨k, x, e1, e2⟩ := hP
    obtain ⟨b1, b2⟩ := argBest_lt (numK vs) (vs.length - 1)
    obtain ⟨m, y, f1, f3, f2⟩ := at_ _ (List.getElem?_eq_some_iff.mp e1).1
    rw [e1] at f1; cases f1
    obtain ⟨t, rfl⟩ := Value.isInt_shape e2
    refine ⟨.int m, H, ?_, ⟨t, rfl⟩, q m f3 fun k hk' => ?_⟩
    · exact I.kept (t' := tk) fun b o e => hkp b o (by
        have : b ≠ s.heap.objs.size := Nat.ne_of_lt (Heap.lt_size e)
        simpa using this) (Heap.get?_push_of_some _ e)
    · obtain ⟨i, hi, ei⟩ := all_ k hk'
      rw [← ei, ← f2]
      exact b2 i (by omega)
end

section
variable {C : Cn}
def intKeys : List (Key × D) → Option (List Int)
  | [] => some []
  | (.inl i, _) :: r => (intKeys r).map (i :: ·)
  | _ => none
theorem intKeys_ok {K : PySem.W.Frag} {W : Wd} : ∀ {kvs : List (Key × D)} {ws : List (Key × V)} {ns : List Int}, RepM K W kvs ws → intKeys kvs = some ns → ws.map (·.1) = ns.map Sum.inl
  | [], _, _, .nil, e => by cases e; rfl
  | (k, d) :: kvs, _, ns, .cons (b := q) h t, e => by
    cases k with
    | inl i =>
      obtain ⟨l, el, rfl⟩ := Option.map_eq_some_iff.mp (show (intKeys kvs).map (i :: ·) = some ns from e)
      rw [List.map_cons, List.map_cons, intKeys_ok t el, ← h.1]
    | inr s => cases e
def leastI : Int → List Int → Int
  | m, [] => m
  | m, x :: r => leastI (if x < m then x else m) r
theorem leastI_ok : ∀ (l : List Int) (m : Int), (leastI m l = m ∨ leastI m l ∈ l) ∧ leastI m l ≤ m ∧ ∀ k ∈ l, leastI m l ≤ k
  | [], m => ⟨.inl rfl, Int.le_refl _, fun k h => by cases h⟩
  | x :: r, m => by
    obtain ⟨h1, h2, h3⟩ := leastI_ok r (if x < m then x else m)
    rw [leastI]
    refine ⟨?_, ?_, fun k hk => ?_⟩
    · rcases h1 with h1 | h1
      · rw [h1]
        split
        · exact .inr List.mem_cons_self
        · exact .inl rfl
      · exact .inr (List.mem_cons_of_mem _ h1)
    · refine Int.le_trans h2 ?_
      split <;> omega
    · rcases List.mem_cons.mp hk with rfl | hk
      · refine Int.le_trans h2 ?_
        split <;> omega
      · exact h3 k hk
def minKG : List D → Option D
  | [.dK kvs] => match intKeys kvs with
    | some (n :: ns) => some (.int (leastI n ns))
    | _ => none
  | _ => none
theorem c_minK : CalD C (.builtin "min") minKG := fun X E ok => ⟨_, call_min_dK ok.calm, fun W h ds vs d Q rh b e k => by
  unfold minKG at e
  split at e
  · obtain ⟨v, rfl, b1⟩ := BorsAll.one b
    obtain ⟨a, ws, rfl, rd, r⟩ := b1.dK
    have r := repK_m.mp r
    split at e
    · rename_i n ns en
      cases e
      refine ⟨a, ws, n, ns, rfl, rd, intKeys_ok r en, fun m hm hle => ?_⟩
      obtain ⟨g1, g2, g3⟩ := leastI_ok ns n
      have : m = leastI n ns := by
        refine Int.le_antisymm (hle _ ?_) ?_
        · rcases g1 with g1 | g1
          · rw [g1]; exact List.mem_cons_self
          · exact List.mem_cons_of_mem _ g1
        · rcases List.mem_cons.mp hm with rfl | hm
          · exact g2
          · exact g3 m hm
      rw [this]
      exact k W _ (.refl _) rh rep_int
    · cases e
  · cases e⟩
end

/-! ### defs with a star parameter alone -/
def spV (g : Gx) (φ : DF) : Sp := fun vs H Q E => ∃ (W : Wd) (ds : List D) (h : HS), H = W.H ∧ RH g.K W h ∧ Reps g.K W ds vs ∧ ds.length ≤ sizeLine ∧ okG g.K g.mg (Rep g.K) W E Q (φ [.tup ds] h)
def FnDV (g : Gx) (x : Str) (k : Nat) (φ : DF) : Prop :=
  ∃ f : Addr, FnR g.P g.w g.K g.mg g.base (L2.CX g.P g.w) k f (spV g φ) ∧ g.mg x = some (.ref f) ∧ PySem.W.keepIn g.K (.ref f) = true
theorem pe_callV {X : Cx} {CX : CXT} {k : Nat} {f : Addr} {sp : Sp} {E : L2.St → XK} {x : Str} {p pos : Pos} {e : Expr} {es : List Expr} {t : TA} (F : FnR X.prog X.w X.K X.mg X.base CX k f sp) (hr : Room k X.A) (hg : Gl X x) (hm : X.mg x = some (.ref f))
    (hk : PySem.W.keepIn X.K (.ref f) = true) (hx : ∀ σ, PassesAt CX X σ (E σ)) (ha : PA X (e :: es) t) (hdb : (x == ("__debug__" : Str)) = false) (he : starEach (e :: es) X.env = (false, eval e X.env) :: starEach es X.env)
    (hpl : (backTo pos (starEach es X.env)).any (·.1) = false) : PE X (.Call (.Name x p) (e :: es) [] pos) (fun σ H Q => t σ H fun vs H1 => sp vs H1 Q (E σ)) :=
  ⟨fun pins s σ H Q I h => wpAny_Call_Name_kw (ld_glob I hg hm (by
    refine PySem.W.callWith_K (h₀ := X.base) I.ok.mod.kin hk (thn (ha.run pos pins s σ H _ I h) fun us s1 ⟨vs, H1, I1, rv, q⟩ => ⟨I1.kIn, ?_⟩) he hpl
    refine wpAny_call (codeAny_mono (F X.A X.stack s1 H1 us vs Q (E σ) hr I1.env0 rv q) fun z s2 hz => ?_)
    match z, hz with
    | .error ex, hz => exact hx σ pins H1 s1 ex s2 I1 hz
    | .ok (.ret u), hz => exact I1.after hz) hdb)⟩
theorem fn_mkV {g : Gx} {x qual pv : Str} {params : Arguments} {body : List Stmt} {scope : Scope} {f : Addr} {fd : FuncData} {N : List Str} {k : Nat} {fb : DS} (F : FunD g.K x qual params body scope [] [] f fd) (S : FnScope N [pv] scope) (hm : g.mg x = some (.ref f))
    (hb0 : ∀ (kV doc pm : Value) (an : Option Addr) (cdv ct : Value), bindArgs (PySem.W.fnOf x qual params body scope .none kV doc pm an cdv ct) ⟨[], []⟩ = (newTuple [] >>= fun t => pure [(pv, t)]))
    (hb1 : ∀ (kV doc pm : Value) (an : Option Addr) (cdv ct r : Value) (rs : List Value), bindArgs (PySem.W.fnOf x qual params body scope .none kV doc pm an cdv ct) ⟨r :: rs, []⟩ = (newTuple (r :: rs) >>= fun t => pure [(pv, t)]))
    (hbody : DenSs ⟨g, k, N, scope, fun _ => true, false⟩ body fb) : FnDV g x (k + 1) (fnR N.length fb) := by
  refine ⟨f, ?_, hm, F.kp⟩
  obtain ⟨oc, od, dV, kV, doc, pm, an, cdv, ct, osl, rfl, lk, hcd, hD, _⟩ := F.ex
  obtain rfl : dV = .none := hD.elim (fun z => z.2) fun z => absurd rfl z.1
  refine FnR.imp (StX.fn_star (CX := L2.CX g.P g.w) (N := N) (ps := []) (pv := pv) (k := k) (sp := spOf g 1 (fnR N.length fb)) lk hcd S StX.cxUp (fun us rest hl => ?_) fun A outer s H vs Q E hr h => ?_) fun vs H Q E h => ?_
  · cases us with
    | nil => cases rest with
      | nil => exact hb0 kV doc pm an cdv ct
      | cons r rs => exact hb1 kV doc pm an cdv ct r rs
    | cons _ _ => cases hl
  · obtain ⟨hl, W, ds, h0, rfl, rh, r, o⟩ := h
    have ok : CxOk ⟨g, k, N, scope, fun _ => true, false⟩ (cxOf (L2.CX g.P g.w) g.P g.w g.K g.mg g.base N qual scope f cdv A outer s W.H E) (fun c d _ H => E c d H) :=
      ⟨rfl, rfl, rfl, rfl, rfl, rfl, S.nd, rfl, rfl, hr, takes_of rfl rfl rfl rfl, passes_of rfl, fun _ _ => rfl, fun _ => ⟨rfl, rfl⟩, (fun z => nomatch z), fun z => nomatch z⟩
    obtain ⟨t, p, q⟩ := hbody _ _ ok
    refine ⟨t, p, q W W _ _ h0 _ (.refl _) (frm_start r) rh ?_⟩
    have o : okG g.K g.mg (Rep g.K) W E Q (match fb (ds.map Sl.val ++ List.replicate (N.length - ds.length) Sl.un) h0 with | .rt d h' => .ok d h' | .nx _ h' => .ok .non h' | .exc x h' => .exc x h' | _ => .bad) := o
    cases ef : fb (ds.map Sl.val ++ List.replicate (N.length - ds.length) Sl.un) h0 with
    | rt d h' => rw [ef] at o; exact fun W' v l _ rh' r' => o W' v l rh' r'
    | nx τ h' => rw [ef] at o; exact fun W' σ l _ fr rh' => o W' _ l rh' rep_non
    | exc x h' => rw [ef] at o; exact fun W' c dd σ l _ rh' r' => o W' c dd l rh' r'
    | bk _ _ => rw [ef] at o; exact o.elim
    | ct _ _ => rw [ef] at o; exact o.elim
    | bad => rw [ef] at o; exact o.elim
  · obtain ⟨W, ds, h0, rfl, rh, r, hz, o⟩ := h
    refine ⟨[], vs, rfl, rfl, by rw [← r.length]; exact hz, fun p hp => ?_⟩
    obtain ⟨W2, e2, l2, rh2, r2⟩ := new_tup hp rh r
    exact ⟨rfl, W2, [.tup ds], h0, e2, rh2, .one r2, okG.mono l2 o⟩
section
variable {fa : List He.Fa} {fn : List He.DefD} {g : Gx}
theorem Tx.defv (T : Tx fa fn g) (j i : Nat) {x pv : Str} {st : Stmt} {N : List Str} {k : Nat} {fb : DS} (hd : fn[j]? = some (dfd x st)) (hx : fa[i]? = some (.glo x)) (S : FnScope N [pv] (defScope st))
    (hb0 : ∀ (kV doc pm : Value) (an : Option Addr) (cdv ct : Value), bindArgs (PySem.W.fnOf x x (defArgs st) (defBody st) (defScope st) .none kV doc pm an cdv ct) ⟨[], []⟩ = (newTuple [] >>= fun t => pure [(pv, t)]))
    (hb1 : ∀ (kV doc pm : Value) (an : Option Addr) (cdv ct r : Value) (rs : List Value), bindArgs (PySem.W.fnOf x x (defArgs st) (defBody st) (defScope st) .none kV doc pm an cdv ct) ⟨r :: rs, []⟩ = (newTuple (r :: rs) >>= fun t => pure [(pv, t)]))
    (hbody : DenSs ⟨g, k, N, defScope st, fun _ => true, false⟩ (defBody st) fb) : FnDV g x (k + 1) (fnR N.length fb) := by
  obtain ⟨fd, F⟩ := T.c.def_ j hd
  exact fn_mkV F S (T.glo i hx) hb0 hb1 hbody
end
def callV (φ : DF) (a : DA) : DE := fun τ h => (a τ h).bind fun ds h1 => if fits ds.length then φ [.tup ds] h1 else .bad
section
variable {C : Cn} {x : Str} {e : Expr} {es : List Expr} {fs : DA} {φ : DF} {k : Nat} {p pos : Pos}
theorem den_callV (F : FnDV C.g x k φ) (hk : k ≤ C.k) (hg : glB C.sc x = true) (ha : DenA C (e :: es) fs)
    (he : ∀ env, starEach (e :: es) env = (false, eval e env) :: starEach es env) (hpl : ∀ env, (backTo pos (starEach es env)).any (·.1) = false) : DenE C (.Call (.Name x p) (e :: es) [] pos) (callV φ fs) := fun X E ok => by
  obtain ⟨t, pa, q⟩ := ha X E ok
  obtain ⟨f, F, m, kp⟩ := F
  obtain ⟨g1, g2, g3⟩ := glB_ok ok hg
  refine ⟨_, pe_callV (E := WE E) (sp := spV C.g φ) (by rw [ok.prog, ok.w, ok.K, ok.mg, ok.base]; rw [← ok.prog, ← ok.w] at F ⊢; exact F) (ok.room.mono hk) g1 (by rw [ok.mg]; exact m) (by rw [ok.K]; exact kp) (fun σ => passAt ok.takes σ) pa g2 (he _) (hpl _), fun W0 W τ σ h Q l fr rh o => ?_⟩
  refine q W0 W τ σ h _ l fr rh (okG.bind o fun ds h1 W1 vs l1 rh1 b1 o1 => ?_)
  by_cases hn : fits ds.length = true
  · rw [if_pos hn] at o1
    exact ⟨W1, ds, h1, rfl, rh1, b1, of_decide_eq_true hn, o1⟩
  · rw [if_neg hn] at o1; exact o1.elim
end
end Sw

/-! Sw, part b: loops over d.items(), list(d.items()), d with tuple keys. -/
namespace Sw
open PySem PySem.Spec PyProof.Rows L2 L2.DX
variable [Tbs]
/-- the pairs (key, value), each a new tuple -/
def ItiT (d : Addr) (o : Obj) (kvs : List (List Key × V)) : It :=
  ⟨fun i H => H d = some (.frz o (.dT kvs)) ∧ i < kvs.length,
   fun i H x H' => ∃ (T : Addr) (k : List Key) (v : V) (q : Addr), kvs[i]? = some (k, v) ∧ H q = some (.tup (k.map kV)) ∧ x = .ref T ∧ H T = none ∧ H' = upd H T (.tup [.ref q, v]),
   fun i H => H d = some (.frz o (.dT kvs)) ∧ kvs.length ≤ i⟩
theorem frz_at {X : Cx} {pins : List (Addr × Obj)} {σ : L2.St} {H : Hp} {s : Shared} {d : Addr} {o : Obj} {kvs : List (List Key × V)} (I : Inv X pins σ H s) (h : H d = some (.frz o (.dT kvs))) : (d == sysModules) = false ∧ s.heap.get? d = some o ∧ o.ExactDict ∧ ∃ (es : Array DictEntry) (ep : Nat), o.data = .dict es ep ∧ es.size = kvs.length ∧ kvs.length ≤ sizeLine ∧
      ∀ (i : Nat) (k : List Key) (v : V), kvs[i]? = some (k, v) → ∃ (en : DictEntry) (q : Addr), es[i]? = some en ∧ en.key = .ref q ∧ H q = some (.tup (k.map kV)) ∧ L2.RelV v en.val := by
  obtain ⟨lo, od, ho, hx, es, ep, hdt, hes, hz, ent⟩ := dT_read I (.inr ⟨o, h⟩)
  have e : s.heap.get? d = some o := (show ObjOk X.prog X.w H s.heap d (.frz o (.dT kvs)) from I.hok d _ h).1
  rw [e] at ho
  cases ho
  exact ⟨lo, e, hx, es, ep, hdt, hes, hz, ent⟩
theorem turn_itemsT {P : Program} {w : World} {K : PySem.W.Frag} {d : Addr} {o : Obj} {es : Array DictEntry} {ep : Nat} {elts : List Expr} {kk : Nat} {tpos : Pos} {kvs : List (List Key × V)} (it : Addr) (hod : o.data = .dict es ep) :
    Turn P w K (.Tuple elts kk tpos) (ItiT d o kvs) [it] it (fun i h => ∃ ka va, IsItemIter h it d i kvs.length ep ka va) where
  mem := List.mem_singleton.mpr rfl
  obj := fun i h ⟨ka, va, z⟩ b hb => by
    rw [List.mem_singleton.mp hb]
    exact ⟨_, z, fun v z => nomatch z⟩
  keep := fun i h h' ⟨ka, va, z⟩ k => ⟨ka, va, k it (List.mem_singleton.mpr rfl) _ z⟩
  item := by
    intro X hP hw hK hc i pins s σ H E I hf st hg
    subst hP hw hK
    obtain ⟨hd, hi⟩ := hg
    obtain ⟨ka, va, z⟩ := st
    obtain ⟨lo, e, hx, es', ep', hdt, hes, hz, ent⟩ := frz_at I hd
    rw [hod] at hdt
    cases hdt
    obtain ⟨k, v⟩ : List Key × V := kvs[i]
    obtain ⟨⟨k, v⟩, hkv⟩ : ∃ p, kvs[i]? = some p := ⟨kvs[i], List.getElem?_eq_getElem hi⟩
    obtain ⟨en, q, hen, hkey, hq, hval⟩ := ent i k v hkv
    have hie : i < es.size := by rw [hes]; exact hi
    have een : es[i] = en := by
      have := Array.getElem?_eq_getElem hie
      rw [hen] at this
      exact (Option.some.inj this).symm
    have hlt : it < s.heap.objs.size := Heap.lt_size z
    rw [← hes] at z
    refine DT.nextI z ⟨o, e, hx, hod⟩ hie fun h' zo hT hsz hk => ?_
    refine ⟨_, rfl, wpAny_letOwnedTupleGo_items (s := { s with heap := h' }) zo fun h2 z2 sb => ?_⟩
    rw [een, hkey] at hT
    have hT2 : h2.get? s.heap.objs.size = some { cls := .type "tuple", data := .seq #[.ref q, en.val] } := (sb.2 _ (Nat.ne_of_gt hlt)).trans hT
    have new : ObjOk X.prog X.w (upd H s.heap.objs.size (.tup [.ref q, v])) h2 s.heap.objs.size (.tup [.ref q, v]) :=
      ⟨by show 2 ≤ sizeLine; decide, [.ref q, en.val], .cons rfl (.cons hval .nil), ⟨_, hT2, rfl, _, rfl⟩⟩
    have I1 : Inv X pins σ (upd H s.heap.objs.size (.tup [.ref q, v])) { s with heap := h2 } :=
      I.turnedNew (t' := s.toks) (ch := [it]) (fun b ob hb eb => (sb.2 b fun y => hb (List.mem_singleton.mpr y)).trans (hk b ob (fun y => hb (List.mem_singleton.mpr y)) eb)) hf (Nat.le_refl _) new
    refine ⟨.ref s.heap.objs.size, _, I1, rfl, ⟨_, k, v, q, hkv, hq, rfl, I.hok.fresh (Nat.le_refl _), rfl⟩, ⟨_, _, by rw [← hes]; exact z2⟩, fun b hb => ?_⟩
    rw [List.mem_singleton.mp hb, upd_ne (Nat.ne_of_lt hlt)]
    exact (hf it (List.mem_singleton.mpr rfl)).1
  done := by
    intro X hP hw hK hc i pins s σ H E I hf st hg
    subst hP hw hK
    obtain ⟨hd, hi⟩ := hg
    obtain ⟨ka, va, z⟩ := st
    obtain ⟨g0, g1, g2, g3, g4, g5⟩ := hf it (List.mem_singleton.mpr rfl)
    obtain ⟨lo, e, hx, es', ep', hdt, hes, hz, ent⟩ := frz_at I hd
    rw [hod] at hdt
    cases hdt
    rw [← hes] at z
    exact DT.endI (I.ok.hd hc) z ⟨o, e, hx, hod⟩ (by rw [hes]; exact hi) fun h' eb => ⟨rfl, I.turned (t' := s.toks) (fun b ob hb y => eb b ob hb y) g0 g1 g3 g4 g5⟩
  self := fun A i s Q E ⟨_, _, z⟩ h => PySem.W.kcp_self z h
def iItemsT (td : TE) : TI := fun σ H R => td σ H fun x H1 => ∃ d o kvs, x = .ref d ∧ H1 d = some (.frz o (.dT kvs)) ∧ R (ItiT d o kvs) H1
theorem pi_itemsT {X : Cx} {e : Expr} {td : TE} {apos cpos : Pos} {elts : List Expr} {kk : Nat} {tpos : Pos} (he : PE X e td) (hb : attributeBase e "items" X.env (eval e X.env) = eval e X.env) (hl : (apos.endLine == cpos.line) = true) :
    PI X (.Tuple elts kk tpos) (.Call (.Attribute e "items" apos) [] [] cpos) (iItemsT td) := by
  refine ⟨fun pins s σ H R I h => wpAny_Call_method (T := "dict") (id := "dict.items") hb rfl hl F.plainAttrs_dict F.slot_dict_items F.type_dict_items (thn (he.run pins s σ H _ I h) fun dv s1 hdv => ?_)⟩
  obtain ⟨x, H1, I1, rx, d, o, kvs, ex, hd, q⟩ := hdv
  subst ex
  obtain rfl : dv = Value.ref d := rx
  obtain ⟨lo, e, hx, es, ep, hdt, hes, hz, ent⟩ := frz_at I1 hd
  refine ⟨⟨o, e, hx.1⟩, fun b eb => by cases eb; exact ⟨o, e, hx.2.1⟩, ?_⟩
  have raw : DT.Raw s1.heap d es ep := ⟨o, e, hx, hdt⟩
  have I2 : Inv X pins σ H1 { s1 with heap := s1.heap.push { cls := .type "dict_items", data := .fields #[.ref d] } } := I1.kept (t' := s1.toks) fun b ob y => Heap.get?_push_of_some _ y
  have walk : wpAny (model X.prog X.w) X.A (pyIter (.ref s1.heap.objs.size)) (PIE X pins σ (.Tuple elts kk tpos) R) X.xe { s1 with heap := s1.heap.push { cls := .type "dict_items", data := .fields #[.ref d] } } :=
    DT.iterI ⟨_, Heap.get?_push_size _ rfl, rfl, rfl⟩ (raw.push _) (pi_one (tk := s1.toks) I2 _ (turn_itemsT (kvs := kvs) _ hdt) ⟨.none, .none, by rw [hes]; exact Heap.get?_push_size _ rfl⟩ q)
  show wpAny _ _ (callWith cpos (.builtin "dict.items") [.ref d] [] []) _ X.xe s1
  exact method_meetsIn F.slot_dict_items F.entry_dict_items rfl (PySem.evalArgs_none ⟨rfl, ⟨o, e, hx.1⟩, F.args_dict_items_1 _, _, DT.meetsItems lo, raw, walk⟩)
/-- the pairs as data -/
def pairD (p : List Key × D) : D := .tup [.tup (p.1.map dOfK), p.2]
def itemsR (a : DE) : DA := fun τ h => (a τ h).bind fun x h1 => match x with
  | .dT kvs => .ok (kvs.map pairD) h1
  | _ => .bad
theorem walks_itemsT {K : PySem.W.Frag} {W : Wd} {kvs : List (List Key × D)} {ws : List (List Key × V)} {d : Addr} {o : Obj} (f : W.F d) (e : W.H d = some (.frz o (.dT ws))) (r : RepM K W kvs ws) : Walks1 K W (ItiT d o ws) (kvs.map pairD) := fun j W2 l tf => by
  have e2 := l.sl d _ rfl f e
  refine ⟨fun x hx => ?_, fun z => ⟨e2, by rw [← r.len, ← z, List.length_map]; exact Nat.le_refl _⟩⟩
  rw [List.getElem?_map] at hx
  obtain ⟨p, hp, rfl⟩ := Option.map_eq_some_iff.mp hx
  have hj : j < ws.length := by rw [← r.len]; exact (List.getElem?_eq_some_iff.mp hp).1
  refine ⟨⟨e2, hj⟩, ?_⟩
  rintro x H' ⟨T, k, v, b, hk, hb, rfl, hT, rfl⟩
  obtain ⟨q, hq, hpq⟩ := paired_get (r.mono l) hp
  rw [hk] at hq
  cases hq
  have rr : Reps K W2 [.tup (p.1.map dOfK), p.2] [.ref b, v] := by
    refine .cons ?_ (.one hpq.2)
    rw [hpq.1, Rep]
    exact ⟨b, _, rfl, .inl ⟨tf b _ hb, hb⟩, reps_dOfK⟩
  refine ⟨(W2.put T (.tup [.ref b, v])).frz T, rfl, le_frz (le_put hT) hT, fun h rh => rh_tup hT rh, ?_⟩
  rw [pairD, Rep]
  exact ⟨T, _, rfl, .inl ⟨.inr rfl, upd_same⟩, Reps.mono ((le_put hT).toLeF.trans (lef_frz _ _)) _ _ rr⟩
theorem den_iitems {C : Cn} {e : Expr} {f : DE} {apos cpos : Pos} {elts : List Expr} {kk : Nat} {tpos : Pos} (he : DenE C e f) (hb : ∀ env, attributeBase e "items" env (eval e env) = eval e env) (hl : (apos.endLine == cpos.line) = true) :
    DenI C (.Tuple elts kk tpos) (.Call (.Attribute e "items" apos) [] [] cpos) (itemsR f) := fun X E ok => by
  obtain ⟨t, p, q⟩ := he X E ok
  refine ⟨_, pi_itemsT (pe_lk p) (hb _) hl, fun W0 W τ σ h Q l fr rh o => ?_⟩
  refine q W0 W τ σ h _ l fr rh (okG.bind o fun x h1 W1 v l1 rh1 r1 o1 => ?_)
  cases x with
  | dT kvs =>
    rw [Rep] at r1
    obtain ⟨a, ws, rfl, fa, rd, r⟩ := r1
    have r := repT_m.mp r
    have o1 : okG C.g.K C.g.mg (fun W' items J => Walks1 C.g.K W' J items) W1 (fun c dd H => E c dd σ H) Q (.ok (kvs.map pairD) h1) := o1
    refine ⟨a, rfl, ?_⟩
    rcases rd_case rd with ⟨ob, e⟩ | e
    · exact .inl ⟨ob, _, e, a, ob, ws, rfl, e, o1 W1 _ (.refl _) rh1 (walks_itemsT fa e r)⟩
    · refine .inr ⟨_, e, True.intro, fun od => ⟨a, od, ws, rfl, upd_same, ?_⟩⟩
      have lk := le_lock (od := od) fa e rfl rfl
      exact o1 (W1.put a (.frz od (.dT ws))) _ lk (rh_lock fa rh1 lk e rfl) (walks_itemsT fa upd_same (r.mono lk.toLeF))
  | _ => exact (show False from o1).elim

/-! ### list(d.items()) -/
/-- tuples laid one behind another -/
inductive LayAll : Hp → List Addr → List (List V) → Hp → Prop
  | nil {H : Hp} : LayAll H [] [] H
  | cons {H H2 : Hp} {a : Addr} {x : List V} {as : List Addr} {xs : List (List V)} : H a = none → LayAll (upd H a (.tup x)) as xs H2 → LayAll H (a :: as) (x :: xs) H2
theorem lay_inv {X : Cx} {pins : List (Addr × Obj)} {σ : L2.St} {H0 : Hp} {s : Shared} {h' : Heap} {tk : Nat} (I0 : Inv X pins σ H0 s) (as : List Addr) : ∀ (xs : List (List V)) (H1 : Hp), Inv X pins σ H1 { s with heap := h', toks := tk } → as.Nodup → as.length = xs.length →
    (∀ (i : Nat) (a : Addr) (x : List V), as[i]? = some a → xs[i]? = some x → s.heap.objs.size ≤ a ∧ H1 a = none ∧ ∀ H2, ObjOk X.prog X.w H2 h' a (.tup x)) →
    ∃ H2, LayAll H1 as xs H2 ∧ Inv X pins σ H2 { s with heap := h', toks := tk } ∧ ∀ b, b ∉ as → H2 b = H1 b := by
  induction as with
  | nil =>
    intro xs H1 I1 _ hl _
    cases xs with
    | nil => exact ⟨H1, .nil, I1, fun _ _ => rfl⟩
    | cons x xs => cases hl
  | cons a as ih =>
    intro xs H1 I1 nd hl h
    cases xs with
    | nil => cases hl
    | cons x xs =>
      obtain ⟨h1, h2, h3⟩ := h 0 a x rfl rfl
      rw [List.nodup_cons] at nd
      have I2 : Inv X pins σ (upd H1 a (.tup x)) { s with heap := h', toks := tk } := I1.take (h' := h') (t' := tk) (fun _ _ _ y => y) (I0.fpOk h1 h2) (h3 _)
      have hl' : as.length = xs.length := Nat.succ.inj hl
      obtain ⟨H2, L, I3, far⟩ := ih xs (upd H1 a (.tup x)) I2 nd.2 hl' fun i b y e1 e2 => by
        obtain ⟨g1, g2, g3⟩ := h (i + 1) b y e1 e2
        have : b ≠ a := fun z => nd.1 (z ▸ List.mem_of_getElem? e1)
        exact ⟨g1, by rw [upd_ne this]; exact g2, g3⟩
      refine ⟨H2, .cons h2 L, I3, fun b hb => ?_⟩
      rw [List.mem_cons, not_or] at hb
      rw [far b hb.2, upd_ne hb.1]
abbrev pairsV (us : List V) (kvs : List (List Key × V)) : List (List V) := List.zipWith (fun u kv => [u, kv.2]) us kvs
theorem vals_refs : ∀ as : List Addr, Vals (as.map V.ref) (as.map Value.ref)
  | [] => .nil
  | a :: as => .cons rfl (vals_refs as)
def rListIt : List V → Hp → VK → Prop := fun vs H Q => ∃ (p a : Addr) (kvs : List (List Key × V)), vs = [V.ref p] ∧ H p = some (itemsO p a) ∧ Rd H a (.dT kvs) ∧ ∀ us, KeysAt H us kvs → ∀ as H2, LayAll H as (pairsV us kvs) H2 → ∀ q, H2 q = none → Q (.ref q) (upd H2 q (.lst (as.map V.ref)))
theorem cr_listIt {X : Cx} (hc : X.calm = true) : CallR X (.type "list") rListIt := by
  intro pins s σ H vs us' Q I r h
  obtain ⟨p, a, kvs, rfl, hp, rd, q⟩ := h
  rw [Vals.ref1 r]
  obtain ⟨lo, od, ho, hx, es, ep, hdt, hes, hz, ent⟩ := dT_read I rd
  have hv : s.heap.IsItemsView p a := (I.hok p _ hp).1
  refine PySem.W.dil_call (I.ok.hd hc) hv ⟨od, ho, hx, hdt⟩ (by rw [hes]; exact hz) fun h' tk acc c as hk hlst hlen G hacc => ?_
  have I1 : Inv X pins σ H { s with heap := h', toks := tk } := I.kept hk
  let us : List V := es.toList.map fun en => match en.key with | .ref q => V.ref q | _ => V.non
  have lu : us.length = kvs.length := by simp [us, hes]
  have hks : KeysAt H us kvs := paired_of lu fun i x kv e1 e2 => by
    obtain ⟨en, b, f1, f2, f3, f4⟩ := ent i kv.1 kv.2 e2
    have : us[i]? = some (V.ref b) := by
      show (es.toList.map _)[i]? = _
      rw [List.getElem?_map, Array.getElem?_toList, f1]
      show some (match en.key with | .ref q => V.ref q | _ => V.non) = _
      rw [f2]
    rw [this] at e1
    exact ⟨b, (Option.some.inj e1).symm, f3⟩
  have above : ∀ b ∈ as, s.heap.objs.size < b := G.above
  obtain ⟨H2, L, I2, far⟩ := lay_inv I as (pairsV us kvs) H I1 (G.rise.imp fun hab => Nat.ne_of_lt hab) (by rw [List.length_zipWith, lu, Nat.min_self, hlen, hes]) fun i b x e1 e2 => by
    obtain ⟨hj, eo⟩ := G.pairs i b e1
    have hi : i < kvs.length := by rw [← hes]; exact hj
    obtain ⟨⟨k, v⟩, hkv⟩ : ∃ z, kvs[i]? = some z := ⟨kvs[i], List.getElem?_eq_getElem hi⟩
    obtain ⟨en, y, f1, f2, f3, f4⟩ := ent i k v hkv
    have een : es[i] = en := by
      have := Array.getElem?_eq_getElem hj
      rw [f1] at this
      exact (Option.some.inj this).symm
    have eu : us[i]? = some (V.ref y) := by
      show (es.toList.map _)[i]? = _
      rw [List.getElem?_map, Array.getElem?_toList, f1]
      show some (match en.key with | .ref q => V.ref q | _ => V.non) = _
      rw [f2]
    have ex : x = [V.ref y, v] := by
      rw [List.getElem?_zipWith, eu, hkv] at e2
      exact (Option.some.inj e2).symm
    subst ex
    have hb := above b (List.mem_of_getElem? e1)
    refine ⟨Nat.le_of_lt hb, I.hok.fresh (Nat.le_of_lt hb), fun H2 => ⟨by show 2 ≤ sizeLine; decide, [es[i].key, es[i].val], ?_, ⟨_, eo, rfl, _, rfl⟩⟩⟩
    rw [een, f2]
    exact .cons rfl (.cons f4 .nil)
  have nL : s.heap.objs.size ∉ as := fun m => Nat.lt_irrefl _ (above _ m)
  have hn2 : H2 s.heap.objs.size = none := by rw [far _ nL]; exact I.hok.fresh (Nat.le_refl _)
  refine ⟨.ref s.heap.objs.size, upd H2 s.heap.objs.size (.lst (as.map V.ref)), I2.take (h' := h') (t' := tk) (fun _ _ _ y => y) (I.fpOk (Nat.le_refl _) hn2) ⟨by rw [List.length_map, hlen, hes]; exact hz, as.map Value.ref, c, ?_, ?_⟩, rfl, q us hks as H2 L _ hn2⟩
  · exact vals_refs as
  · rw [hlst, ← hacc]
theorem lay_world {K : PySem.W.Frag} {h : HS} : ∀ {as : List Addr} {ps : List (List D)} {xs : List (List V)} {W : Wd} {H2 : Hp}, LayAll W.H as xs H2 → RH K W h → Paired (fun p x => Reps K W p x) ps xs →
    ∃ W2, W2.H = H2 ∧ Le W W2 ∧ RH K W2 h ∧ Reps K W2 (ps.map D.tup) (as.map V.ref)
  | _, _, _, W, _, .nil, rh, .nil => ⟨W, rfl, .refl _, rh, .nil⟩
  | _, _, _, W, H2, .cons (a := a) hn L, rh, .cons r t => by
    obtain ⟨W1, e1, l1, rh1, r1⟩ := new_tup hn rh r
    rw [← e1] at L
    obtain ⟨W2, e2, l2, rh2, r2⟩ := lay_world L rh1 (Paired.mapP t fun p x z => Reps.mono l1.toLeF p x z)
    exact ⟨W2, e2, l1.trans l2, rh2, .cons (r1.mono l2.toLeF) r2⟩
theorem pairs_rep {K : PySem.W.Frag} {W : Wd} (tf : ∀ a ys, W.H a = some (.tup ys) → W.F a) : ∀ {kvs : List (List Key × D)} {ws : List (List Key × V)} {us : List V}, RepM K W kvs ws → KeysAt W.H us ws → Paired (fun p x => Reps K W p x) (kvs.map fun z => [D.tup (z.1.map dOfK), z.2]) (pairsV us ws)
  | [], _, _, .nil, .nil => .nil
  | p :: kvs, _, _, .cons (b := q) h t, .cons (a := u) ⟨b, e, hb⟩ k => by
    subst e
    refine .cons (.cons ?_ (.one h.2)) (pairs_rep tf t k)
    show Rep K W (.tup (p.1.map dOfK)) (V.ref b)
    rw [h.1, Rep]
    exact ⟨b, _, rfl, .inl ⟨tf b _ hb, hb⟩, reps_dOfK⟩
/-- list(x.items()), x an own dict -/
def listItR (i : Nat) : DE := fun τ h => match τ[i]? with
  | some (.ownT kvs) => .ok (.lst (kvs.map pairD)) h
  | _ => .bad
theorem den_listIt {C : Cn} {x y : Str} {i : Nat} {p1 p2 apos ipos pos : Pos} (hn : nmB C.N C.sc x i = true) (hg : glB C.sc y = true) (hm : C.g.mg y = none) (hv : bootBuiltins y = some (.type "list")) (hl : (apos.endLine == ipos.line) = true)
    (he : ∀ env, starEach [.Call (.Attribute (.Name x p1) "items" apos) [] [] ipos] env = (false, eval (.Call (.Attribute (.Name x p1) "items" apos) [] [] ipos) env) :: starEach [] env) :
    DenN C (.Call (.Name y p2) [.Call (.Attribute (.Name x p1) "items" apos) [] [] ipos] [] pos) (listItR i) := fun X E ok => by
  obtain ⟨h1, h2, h3, h4⟩ := nmB_ok hn
  obtain ⟨g1, g2, g3⟩ := glB_ok ok hg
  refine ⟨_, pe_callTy (cr_listIt ok.calm) g1 (by rw [ok.mg]; exact hm) hv (pa_cons (pe_bm0 PySem.F.plainAttrs_dict PySem.F.slot_dict_items PySem.F.type_dict_items mt_itemsT (pe_var (i := i) (by rw [ok.names]; exact h1) (by rw [ok.scope]; exact h2) h3 h4) rfl hl) pa_nil (he _)) g3 g2 (he _) rfl, fun W0 W τ σ h Q l fr rh o => ?_⟩
  unfold listItR at o
  cases et : τ[i]? with
  | none => rw [et] at o; exact o.elim
  | some sl =>
    rw [et] at o
    cases sl with
    | ownT kvs =>
      obtain ⟨a, ws, ea, ha, ra, wa⟩ := fr.at_ i _ et
      have r := repT_m.mp ra
      have o : okG C.g.K C.g.mg (NewR C.g.K W) W (fun c dd H => E c dd σ H) Q (.ok (.lst (kvs.map pairD)) h) := o
      refine ⟨_, ea, .inr (.inr (.inl ⟨rfl, .inr ⟨ws, ha⟩⟩)), a, ws, rfl, rfl, ha, fun p hp => ?_⟩
      have l1 := le_frz (le_put (o := itemsO p a) hp) hp
      have rh1 := rh_putF (o := itemsO p a) hp rh
      have pa : a ≠ p := fun z => by rw [z, hp] at ha; cases ha
      refine ⟨p, a, ws, rfl, upd_same, .inl (by show upd W.H p _ a = _; rw [upd_ne pa]; exact ha), fun us hus as H2 L q hq => ?_⟩
      have r1 := r.mono l1.toLeF
      obtain ⟨W2, e2, l2, rh2, r2⟩ := lay_world (W := (W.put p (itemsO p a)).frz p) L rh1 (pairs_rep rh1.tf r1 hus)
      subst e2
      obtain ⟨l3, rh3, n3⟩ := new_lst hq rh2 r2
      rw [List.map_map] at n3
      exact o _ _ ((l1.trans l2).trans l3) rh3 (n3.of (l1.trans l2) rh2)
    | _ => exact o.elim
end Sw

/-! Sw, part c: a def under another name; a def with a star parameter that reads no shared list. -/
namespace Sw
open PySem PySem.Spec PyProof.Rows L2
variable [Tbs]
section
variable {fa : List He.Fa} {fn : List He.DefD} {g : Gx}
theorem fn_mkA {al x qual : Str} {params : Arguments} {body : List Stmt} {scope : Scope} {f : Addr} {fd : FuncData} {N ps : List Str} {k : Nat} {fb : DS} (F : FunD g.K x qual params body scope [] [] f fd) (S : FnScope N ps scope) (hm : g.mg al = some (.ref f)) (hb : L2.Binds g.K fd ps [])
    (hbody : DenSs ⟨g, k, N, scope, fun _ => true, false⟩ body fb) : FnD g al ps.length (k + 1) (fnR N.length fb) := by
  refine ⟨f, fd, ps, ?_, hm, F.kp, hb⟩
  obtain ⟨oc, od, dV, kV, doc, pm, an, cdv, ct, osl, rfl, lk, hcd, _, _⟩ := F.ex
  refine FnG.made lk hcd S (fun vs H Q E h => h.1) fun A outer s H vs Q E hr gd h => ?_
  obtain ⟨hl, W, ds, h0, rfl, rh, r, o⟩ := h
  have ok : CxOk ⟨g, k, N, scope, fun _ => true, false⟩ (cxOf (L2.CX g.P g.w) g.P g.w g.K g.mg g.base N qual scope f cdv A outer s W.H E) (fun c d _ H => E c d H) :=
    ⟨rfl, rfl, rfl, rfl, rfl, rfl, S.nd, rfl, rfl, hr, takes_of rfl rfl rfl rfl, passes_of rfl, fun _ _ => rfl, fun _ => ⟨rfl, rfl⟩, (fun z => nomatch z), fun z => nomatch z⟩
  obtain ⟨t, p, q⟩ := hbody _ _ ok
  refine ⟨t, p, q W W _ _ h0 _ (.refl _) (frm_start r) rh ?_⟩
  have o : okG g.K g.mg (Rep g.K) W E Q (match fb (ds.map Sl.val ++ List.replicate (N.length - ds.length) Sl.un) h0 with | .rt d h' => .ok d h' | .nx _ h' => .ok .non h' | .exc x h' => .exc x h' | _ => .bad) := o
  cases ef : fb (ds.map Sl.val ++ List.replicate (N.length - ds.length) Sl.un) h0 with
  | rt d h' => rw [ef] at o; exact fun W' v l _ rh' r' => o W' v l rh' r'
  | nx τ h' => rw [ef] at o; exact fun W' σ l _ fr rh' => o W' _ l rh' rep_non
  | exc x h' => rw [ef] at o; exact fun W' c dd σ l _ rh' r' => o W' c dd l rh' r'
  | bk _ _ => rw [ef] at o; exact o.elim
  | ct _ _ => rw [ef] at o; exact o.elim
  | bad => rw [ef] at o; exact o.elim
abbrev dfa (al x : Str) (st : Stmt) : He.DefD := ⟨(al, none), x, x, defArgs st, defBody st, defScope st, [], []⟩
/-- a def of the module that is met by another name -/
theorem Tx.defa (T : Tx fa fn g) (j i : Nat) {al x : Str} {st : Stmt} {N ps : List Str} {k : Nat} {fb : DS} (hd : fn[j]? = some (dfa al x st)) (hx : fa[i]? = some (.glo al)) (S : FnScope N ps (defScope st))
    (hb : ∀ (kV doc pm : Value) (an : Option Addr) (cdv ct : Value) (us : List Value), us.length = ps.length → bindArgs (PySem.W.fnOf x x (defArgs st) (defBody st) (defScope st) .none kV doc pm an cdv ct) ⟨us, []⟩ = pure (ps.zip us))
    (hbody : DenSs ⟨g, k, N, defScope st, fun _ => true, false⟩ (defBody st) fb) : FnD g al ps.length (k + 1) (fnR N.length fb) := by
  obtain ⟨fd, F⟩ := T.c.def_ j hd
  exact fn_mkA F S (T.glo i hx) (FunD.bindsN F hb) hbody
end
theorem FnDV.pure {g : Gx} {x : Str} {k : Nat} {φ : DF} (F : FnDV g x k φ) : FnDV g x k (pureF φ) := by
  obtain ⟨f, F, m, kp⟩ := F
  refine ⟨f, ?_, m, kp⟩
  refine F.imp ?_
  intro vs H Q E hs
  obtain ⟨W, ds, h, rfl, rh, r, hl, o⟩ := hs
  unfold pureF at o
  split at o
  · rename_i hn
    have hn' : noRefs ds = true := by
      have z := hn
      simp only [noRefs, D.noRef, Bool.and_true] at z
      exact z
    exact ⟨W.lone, ds, [], rfl, rh_lone rh, Reps.aside (W := W) (W' := W.lone) rfl rfl ds vs hn' r, hl, okG.pure rh o⟩
  · exact o.elim
end Sw

/-! Sw, part d: {k: v for ..} with keys that are tuples of numbers or texts. -/
namespace Sw
open PySem PySem.Spec PyProof.Rows L2 L2.DX
variable [Tbs]
section
variable {X : Cx}
/-- the worth of such a comprehension: Dn is the new dict -/
def tDcT (ti : TI) (gt : TG) (ts : TT) (ta tb : TE) (us : List Nat) : TE := fun σ H Q => ti σ H fun J Hi => ∀ Dn, Hi Dn = none → ∃ U : Nat → Nat → Hp → Prop, (∃ m, U 0 m (upd Hi Dn (.dT []))) ∧ ∀ i m K, U i m K →
  (J.stop i K ∧ Q (.ref Dn) K) ∨ (J.go i K ∧ ∃ F : Hp → Prop, (∀ L, F L → ∃ n, n < m ∧ U (i + 1) n L) ∧ ∀ x L, J.yld i K x L → gt x (L2.wipe σ us) L fun ρ G2 => L2.wipe ρ us = L2.wipe σ us ∧ ts ρ G2 fun b G3 =>
    if b = true then ta ρ G3 fun y G4 => tb ρ G4 fun z G5 => ∃ kvs k q, y = V.ref q ∧ G5 q = some (.tup (k.map kV)) ∧ G5 Dn = some (.dT kvs) ∧ kvs.length < sizeLine ∧ F (upd G5 Dn (.dT (putK kvs k z))) else F G3)
theorem pe_dcT {ke ve tg it : Expr} {cs : List Expr} {sc : Scope} {own : List (Str × Nat)} {pos : Pos} {ti : TI} {gt : TG} {ts : TT} {ta tb : TE} (calm : X.calm = true) (hu : X.A.units + 1 < cLine) (nd : X.N.Nodup) (pi : PI X tg it ti) (bo : BlkOk X.N X.env.scope sc own)
    (pg : ∀ (s : Shared) (H : Hp) (C : Addr) (cl : List (Str × Addr)) (fp : List Addr), PG (X.blk s H sc (compEnvC sc cl C X.env) fp) tg gt)
    (pt : ∀ (s : Shared) (H : Hp) (C : Addr) (cl : List (Str × Addr)) (fp : List Addr), PTs (X.blk s H sc (compEnvC sc cl C X.env) fp) cs ts)
    (pk : ∀ (s : Shared) (H : Hp) (C : Addr) (cl : List (Str × Addr)) (fp : List Addr), PE (X.blk s H sc (compEnvC sc cl C X.env) fp) ke ta)
    (pv : ∀ (s : Shared) (H : Hp) (C : Addr) (cl : List (Str × Addr)) (fp : List Addr), PE (X.blk s H sc (compEnvC sc cl C X.env) fp) ve tb)
    (fs : ∀ x, foldedSetIterable it X.env x = pure x) : PE X (.DictComp ke ve [⟨tg, it, cs, 0⟩] sc pos) (tDcT ti gt ts ta tb (own.map (·.2))) := by
  refine ⟨fun pins s σ H Q I w => ?_⟩
  rw [arm_eval_DictComp]
  have cells : ∀ y ∈ sc.names, y.2 = .free → ∃ c, X.env.cells.lookup y.1 = some c := fun y my ey => (bo.free y my ey).elim (fun k => I.ok.has _ (.inl k)) fun k => I.ok.has _ (.inr k)
  refine wpAny_comprehension_free (use := none) rfl fs (closure_ok cells) bo.kind (fun y my ey => by rw [bo.uniq y my, ey]) (thn (pi.run pins s σ H _ I w) fun xv s1 f1 => thn f1 fun jv s2 f2 => ?_)
  obtain ⟨jt, fp, tn, J, Hi, rfl, Ii, T, sti, fpi, q⟩ := f2
  refine wpAny_newObj_type (newEnv_comp ?_)
  generalize eD : s2.heap.objs.size = Dn
  obtain ⟨U, ⟨n0, u0⟩, turn⟩ := q Dn (Ii.hok.fresh (Nat.le_of_eq eD))
  -- the state with the new dict
  obtain ⟨s3, e3⟩ : ∃ s3 : Shared, s3 = { s2 with heap := s2.heap.push { cls := .type "dict", data := .dict #[] } } := ⟨_, rfl⟩
  have hp3 : s3.heap = s2.heap.push { cls := .type "dict", data := .dict #[] } := by rw [e3]
  have Id : Inv X pins σ (upd Hi Dn (.dT [])) s3 := by
    rw [e3, ← eD]
    exact Ii.laid (t' := s2.toks) (fun _ _ y => Heap.get?_push_of_some _ y) (Nat.le_refl _) (dt_empty s2.heap Ii.big)
  have small : ∀ b ∈ fp, b < s2.heap.objs.size := fun b mb => let ⟨_, eo, _⟩ := T.obj _ _ sti b mb; Heap.lt_size eo
  have fpd : ∀ b ∈ fp, FpOk X pins (upd Hi Dn (.dT [])) b ∧ b < s3.heap.objs.size := fun b mb =>
    ⟨⟨by rw [upd_ne (by rw [← eD]; exact Nat.ne_of_lt (small b mb))]; exact (fpi b mb).1, (fpi b mb).2⟩, by rw [hp3, Heap.size_push]; exact Nat.lt_succ_of_lt (small b mb)⟩
  have std : tn 0 s3.heap := T.keep _ _ _ sti fun b _ o y => by rw [hp3]; exact Heap.get?_push_of_some _ y
  have Ib := block_start Id bo nd fpd
  have free0 : ∀ b ∈ fp, upd Hi Dn (.dT []) b = none := fun b mb => (fpd b mb).1.1
  obtain ⟨cl, ecl⟩ : ∃ cl, cl = cellsFrom (s3.heap.objs.size + 1) sc.names (cloFrom X.env.cells sc.names []) := ⟨_, rfl⟩
  rw [← ecl] at Ib
  have pg := pg s3 (upd Hi Dn (.dT [])) s3.heap.objs.size cl fp
  have pt := pt s3 (upd Hi Dn (.dT [])) s3.heap.objs.size cl fp
  have pk := pk s3 (upd Hi Dn (.dT [])) s3.heap.objs.size cl fp
  have pv := pv s3 (upd Hi Dn (.dT [])) s3.heap.objs.size cl fp
  obtain ⟨ce, ece⟩ : ∃ ce, ce = compEnvC sc cl s3.heap.objs.size X.env := ⟨_, rfl⟩
  obtain ⟨s4, e4⟩ : ∃ s4 : Shared, s4 = { s3 with heap := pushCells (s3.heap.push { cls := .type "dict", data := .dict #[] }) sc.names } := ⟨_, rfl⟩
  rw [← ece, ← e4] at Ib
  rw [← ece] at pg pt pk pv
  have st4 : tn 0 s4.heap := T.keep _ _ _ std fun b _ o y => by rw [e4]; exact pushCells_keeps _ _ _ _ (Heap.get?_push_of_some _ y)
  have main : codeAny (model X.prog X.w) X.A (.compStart (.DictComp ke ve [⟨tg, it, cs, 0⟩] sc pos) 0 (.ref jt) (.ref Dn) ce) (compPost (model X.prog X.w) X.A X.xe none (EP X pins σ Q) (.ref Dn) s3.heap.objs.size) s4 := by
    have home : ce.locals = s3.heap.objs.size := by rw [ece]; rfl
    obtain ⟨Hd, eHd⟩ : ∃ Hd, Hd = upd Hi Dn (.dT []) := ⟨_, rfl⟩
    rw [← eHd] at Id Ib u0 free0 fpd pg pt pk pv
    have still : ∀ {ρ : L2.St} {G : Hp} {s' : Shared}, Inv (X.blk s3 Hd sc ce fp) [] ρ G s' → (∀ b ∈ fp, G b = none) → ∀ b ∈ fp, FpOk (X.blk s3 Hd sc ce fp) [] G b := fun {ρ G s'} J' hn b mb =>
      ⟨hn b mb, (J'.ok.exf b mb).1, J'.ok.exfs b mb, .inl mb, fun x c e => (J'.ok.exf b mb).2 x c e, fun p hp => absurd (show p ∈ ([] : List (Addr × Obj)) ++ [] from hp) (by simp)⟩
    have loop : codeAny (model X.prog X.w) X.A (.compLoop (.DictComp ke ve [⟨tg, it, cs, 0⟩] sc pos) 0 (.ref jt) (.ref Dn) ce) (compPost (model X.prog X.w) X.A X.xe none (EP X pins σ Q) (.ref Dn) s3.heap.objs.size) s4 := by
      refine compLoop_anyD (fun n s' => ∃ i G, Inv (X.blk s3 Hd sc ce fp) [] (L2.wipe σ (own.map (·.2))) G s' ∧ tn i s'.heap ∧ (∀ b ∈ fp, G b = none) ∧ U i n G) ?_ n0 ⟨0, Hd, Ib, st4, free0, u0⟩
      rintro n s5 ⟨i, G5, J5, st5, no5, u5⟩
      rcases turn i n G5 u5 with ⟨stop, done⟩ | ⟨go, F, hF, step⟩
      · refine thnF (T.done (X.blk s3 Hd sc ce fp) rfl rfl rfl calm i [] s5 _ G5 (fun _ _ => False) J5 (still J5 no5) st5 stop) fun r s6 ⟨er, J6⟩ => ?_
        subst er
        have J7 : Inv X pins σ G5 s6 := Id.call' (ch := fp) J6.os J6.base J6.hok J6.bare fun b mb => ⟨(fpd b mb).1.2.2.2.1, (fpd b mb).1.2.1, (fpd b mb).1.2.2.2.2.1, (fpd b mb).1.2.2.2.2.2⟩
        have no : G5 s3.heap.objs.size = none := by
          have z : G5 ce.locals = none := J6.free
          rwa [home] at z
        obtain ⟨m, hm, _⟩ := J6.loc
        have hm : s6.heap.Ns ce.locals m := hm
        rw [home] at hm
        refine ⟨m, hm, fun h2 same => ?_⟩
        obtain ⟨g0, g1, _, g3, g4, g5⟩ := Id.fpOk (Nat.le_refl s3.heap.objs.size) no
        exact ⟨.ref Dn, G5, J7.turned (t' := s6.toks) (fun b o hb e => (same.2 b hb).trans e) g0 g1 g3 g4 g5, rfl, done⟩
      · refine thnF (T.item (X.blk s3 Hd sc ce fp) rfl rfl rfl calm i [] s5 _ G5 (fun _ _ => False) J5 (still J5 no5) st5 go) fun r s6 ⟨u, er, f6⟩ => ?_
        subst er
        refine thnF f6 fun _ s7 ⟨x, G7, J7, r7, y7, st7, no7⟩ => ?_
        refine thnF (pg.run _ s7 _ G7 x u _ (J7.pinned (still J7 no7) (T.obj _ _ st7)) r7 (step x G7 y7)) fun _ s8 ⟨ρ, G8, J8, same8, w8⟩ => ?_
        refine thnF (pt.run _ s8 ρ G8 _ J8 w8) fun b s9 ⟨G9, J9, w9⟩ => ?_
        have fin : ∀ {s' : Shared} {G' : Hp}, Inv (X.blk s3 Hd sc ce fp) ([] ++ pinsAt fp s7.heap) ρ G' s' → F G' → ∃ m, m < n ∧ ∃ i G, Inv (X.blk s3 Hd sc ce fp) [] (L2.wipe σ (own.map (·.2))) G s' ∧ tn i s'.heap ∧ (∀ b ∈ fp, G b = none) ∧ U i m G := fun {s' G'} J' f' => by
          obtain ⟨m, hm, um⟩ := hF G' f'
          have held : ∀ b ∈ fp, ∀ o, s7.heap.get? b = some o → s'.heap.get? b = some o ∧ G' b = none := fun b mb o e => by
            have z := J'.pin (b, o) (List.mem_append_right _ (List.mem_append_right _ (mem_pinsAt mb e)))
            exact ⟨z.1, z.2.1⟩
          refine ⟨m, hm, i + 1, G', (J'.unpinned (pins := [])).weak (by rw [← same8, wipe_length]) (fun j v e => ?_), T.keep _ _ _ st7 fun b mb o e => (held b mb o e).1, fun b mb => ?_, um⟩
          · rw [← same8] at e
            exact (wipe_some e).1
          · obtain ⟨o, e, _⟩ := T.obj _ _ st7 b mb
            exact (held b mb o e).2
        cases b with
        | false =>
          rw [if_neg (by simp)] at w9
          simp only [Bool.false_eq_true, if_false]
          exact fin J9 w9
        | true =>
          rw [if_pos rfl] at w9
          simp only [if_true]
          refine thnF (pk.run _ s9 ρ G9 _ J9 w9) fun ku s10 ⟨y, G10, J10, r10, w10⟩ => ?_
          refine thnF (pv.run _ s10 ρ G10 _ J10 w10) fun vu s11 ⟨z, G11, J11, r11, kvs, k, q, ey, eq, eD, hz, f'⟩ => ?_
          subst ey
          obtain rfl : ku = .ref q := r10
          exact d_dictSetT (X := X.blk s3 Hd sc ce fp) hu J11 eD hz eq r11 fun s12 J12 => fin J12 f'
    exact codeAny_compStart_dict loop (T.self X.A 0 _ _ _ st4 loop)
  subst e4 ece ecl e3
  exact main
end
/-- the new dict at Dd holds acc, keys tuples -/
structure OwnDT (K : PySem.W.Frag) (W1 W2 : Wd) (Dd : Addr) (acc : List (List Key × D)) (h : HS) : Prop where
  le : Le W1 W2
  rh : RH K W2 h
  obj : ∃ ws, W2.H Dd = some (.dT ws) ∧ RepM K W2 acc ws
  nF : ¬ W2.F Dd
  nr : Dd ∉ W2.ρ
theorem OwnDT.step {K : PySem.W.Frag} {W1 W2 W3 : Wd} {Dd : Addr} {acc : List (List Key × D)} {h h' : HS} (w : OwnDT K W1 W2 Dd acc h) (l : Le W2 W3) (rh : RH K W3 h') : OwnDT K W1 W3 Dd acc h' := by
  obtain ⟨ws, e, r⟩ := w.obj
  have z := l.fo Dd _ e w.nF w.nr
  exact ⟨w.le.trans l, rh, ⟨ws, z.1, r.mono l.toLeF⟩, z.2.1, z.2.2⟩
theorem OwnDT.put {K : PySem.W.Frag} {W1 W2 : Wd} {Dd : Addr} {acc : List (List Key × D)} {h : HS} {d : D} {v : V} {ws : List (List Key × V)} (w : OwnDT K W1 W2 Dd acc h) (n : W1.H Dd = none) (e : W2.H Dd = some (.dT ws)) (k : List Key) (r : Rep K W2 d v) :
    OwnDT K W1 (W2.put Dd (.dT (putK ws k v))) Dd (pk acc k d) h := by
  obtain ⟨ws', e', r'⟩ := w.obj
  rw [e] at e'
  cases e'
  refine ⟨le_own w.le n w.nF, rh_own w.rh w.nF w.nr, ⟨_, upd_same, ?_⟩, w.nF, w.nr⟩
  rw [putK_pk]
  exact (r'.put k r).mono (lef_own w.nF)
/-- the key that a tuple is -/
def tupK : D → Option (List Key)
  | .tup xs => keysD xs
  | _ => none
theorem tupK_rep {K : PySem.W.Frag} {W : Wd} {x : D} {v : V} {k : List Key} (e : tupK x = some k) (r : Rep K W x v) : ∃ q, v = .ref q ∧ W.H q = some (.tup (k.map kV)) := by
  cases x with
  | tup xs => exact (Bor.keys (.inl r) e)
  | _ => cases e
def dcTL (g : GT) (tt : DT) (tk tv : DE) (τ : List Sl) : List D → List (List Key × D) → HS → Res (List (List Key × D))
  | [], acc, h => .ok acc h
  | x :: r, acc, h => match g x τ with
    | none => .bad
    | some τ1 => (tt τ1 h).nox.bind fun b h1 => if b then (tk τ1 h1).nox.bind fun y h2 => (tv τ1 h2).nox.bind fun z h3 => match tupK y with
        | some k => dcTL g tt tk tv τ r (pk acc k z) h3
        | none => .bad
      else dcTL g tt tk tv τ r acc h1
def dcTR (fi : DA) (vs : List Nat) (g : GT) (ft : DT) (fk fv : DE) : DE := fun τ h => (fi τ h).bind fun items h1 => if fits items.length then (dcTL g ft fk fv (wipeT τ vs) items [] h1).nox.bind fun kvs h2 => .ok (.dT kvs) h2 else .bad
section
variable {C : Cn} {kx vx tg iter : Expr} {ifs : List Expr} {scope : Scope} {own : List (Str × Nat)} {pos : Pos} {fi : DA} {g : GT} {is : List Nat} {ft : DT} {fk fv : DE}
theorem den_dcT (hi : DenI C tg iter fi) (hb : blkC C.N C.sc scope own = true) (ho : ∀ i ∈ is, i ∈ own.map (·.2)) (hg : DenGt (C.blk scope) tg is g) (ht : DenTs (C.blk scope) ifs ft) (hk : DenE (C.blk scope) kx fk) (hv : DenE (C.blk scope) vx fv)
    (hs : ∀ env x, foldedSetIterable iter env x = pure x) : DenN C (.DictComp kx vx [⟨tg, iter, ifs, 0⟩] scope pos) (dcTR fi (own.map (·.2)) g ft fk fv) := fun X E ok => by
  obtain ⟨wi, pi, qi⟩ := hi X E ok
  have oks : ∀ i : BI, CxOk (C.blk scope) (bX X scope i) (fun _ _ _ _ => False) := fun i => ok.blk scope i.s i.H i.C i.cl i.fp
  obtain ⟨gt, pg, qg⟩ := hg.unif (bX X scope) _ oks
  obtain ⟨tt, pt, qt⟩ := ht.unif (bX X scope) _ oks fun X t t' p k => PTs.anti p k
  obtain ⟨tk, pk', qk⟩ := hk.unif (bX X scope) _ oks fun X t t' p k => PE.anti p k
  obtain ⟨tv, pv, qv⟩ := hv.unif (bX X scope) _ oks fun X t t' p k => PE.anti p k
  refine ⟨_, pe_dcT ok.calm (by have := ok.room.units; omega) ok.nd pi (blkOk_by (by rw [ok.names, ok.scope]; exact hb)) (fun s H Cd cl fp => pg ⟨s, H, Cd, cl, fp⟩) (fun s H Cd cl fp => pt ⟨s, H, Cd, cl, fp⟩) (fun s H Cd cl fp => pk' ⟨s, H, Cd, cl, fp⟩) (fun s H Cd cl fp => pv ⟨s, H, Cd, cl, fp⟩) (hs _), fun W0 W τ σ h Q l fr rh o => ?_⟩
  refine qi W0 W τ σ h _ l fr rh (okG.bind o fun items h1 W1 J l1 rh1 wk o1 => ?_)
  intro Dd hD
  by_cases hz : fits items.length = true
  · rw [if_pos hz] at o1
    have hz : items.length ≤ sizeLine := of_decide_eq_true hz
    let vs := own.map (·.2)
    let τ0 := wipeT τ vs
    let Fin := fun (r : Res (List (List Key × D))) => okG C.g.K C.g.mg (NewR C.g.K W) W1 (fun c dd H => E c dd σ H) Q (r.nox.bind fun kvs h2 => .ok (.dT kvs) h2)
    have o1 : Fin (dcTL g ft fk fv τ0 items [] h1) := o1
    refine ⟨fun i m H => m = items.length - i ∧ i ≤ items.length ∧ ∃ W2 acc h2, W2.H = H ∧ OwnDT C.g.K W1 W2 Dd acc h2 ∧ acc.length ≤ i ∧ Fin (dcTL g ft fk fv τ0 (items.drop i) acc h2),
      ⟨items.length, by simp, Nat.zero_le _, W1.put Dd (.dT []), [], h1, rfl, ?_, Nat.le_refl _, by rw [List.drop_zero]; exact o1⟩, ?_⟩
    · exact ⟨le_put hD, rh_put hD rh1, ⟨[], upd_same, .nil⟩, fun f => rh1.up _ f hD, fun m => rh1.there m hD⟩
    rintro i m H ⟨rfl, hi, W2, acc, h2, rfl, w, hacc, o2⟩
    by_cases hlt : i < items.length
    · have hdrop : items.drop i = items[i] :: items.drop (i + 1) := List.drop_eq_getElem_cons hlt
      rw [hdrop, dcTL] at o2
      obtain ⟨hgo, hy⟩ := (wk i W2 w.le.toLeF w.rh.tf).1 _ (List.getElem?_eq_getElem hlt)
      refine .inr ⟨hgo, fun H' => ∃ W3 acc h3, W3.H = H' ∧ OwnDT C.g.K W1 W3 Dd acc h3 ∧ acc.length ≤ i + 1 ∧ Fin (dcTL g ft fk fv τ0 (items.drop (i + 1)) acc h3), fun H' hN => ⟨items.length - (i + 1), by omega, rfl, hlt, hN⟩, fun x H' y => ?_⟩
      obtain ⟨W3, rfl, l3, k3, r3⟩ := hy x H' y
      have w3 := w.step l3 (k3 _ w.rh)
      have fr3 : Frm C.g.K W0 W3 τ0 (L2.wipe σ vs) := (fr.mono ((l1.trans w.le).trans l3)).wipe vs
      have le03 : Le W0 W3 := (l.trans (l1.trans w.le)).trans l3
      cases eg : g items[i] τ0 with
      | none => rw [eg] at o2; exact (show False from o2).elim
      | some τ1 =>
        rw [eg] at o2
        refine qg W0 W3 τ0 _ items[i] x τ1 _ fr3 r3 eg fun σ2 fr4 hl2 hs2 _ => ⟨?_, ?_⟩
        · rw [wipe_same (σ := L2.wipe σ vs) (σ' := σ2) (vs := vs) hl2 fun j hj => hs2 j fun z => hj (ho j z), wipe_wipe]
        · dsimp only at o2
          cases et : ft τ1 h2 with
          | exc _ _ => rw [et] at o2; exact (show False from o2).elim
          | bad => rw [et] at o2; exact (show False from o2).elim
          | ok b h4 =>
            refine qt W0 W3 τ1 σ2 h2 _ le03 fr4 w3.rh ?_
            rw [et] at o2 ⊢
            intro W4 b' l4 rh4 hb'
            subst hb'
            have w4 := w3.step l4 rh4
            cases b with
            | false => exact iteF ⟨W4, acc, h4, rfl, w4, Nat.le_succ_of_le hacc, o2⟩
            | true =>
              refine iteT ?_
              have o2 : Fin ((fk τ1 h4).nox.bind fun y h2 => (fv τ1 h2).nox.bind fun z h3 => match tupK y with | some k => dcTL g ft fk fv τ0 (items.drop (i + 1)) (pk acc k z) h3 | none => .bad) := o2
              cases ek : fk τ1 h4 with
              | exc _ _ => rw [ek] at o2; exact (show False from o2).elim
              | bad => rw [ek] at o2; exact (show False from o2).elim
              | ok dk h5 =>
                refine qk W0 W4 τ1 σ2 h4 _ (le03.trans l4) (fr4.mono l4) rh4 ?_
                rw [ek] at o2 ⊢
                intro W5 yv l5 rh5 r5
                have w5 := w4.step l5 rh5
                have o2 : Fin ((fv τ1 h5).nox.bind fun z h3 => match tupK dk with | some k => dcTL g ft fk fv τ0 (items.drop (i + 1)) (pk acc k z) h3 | none => .bad) := o2
                cases ev : fv τ1 h5 with
                | exc _ _ => rw [ev] at o2; exact (show False from o2).elim
                | bad => rw [ev] at o2; exact (show False from o2).elim
                | ok dv h6 =>
                  refine qv W0 W5 τ1 σ2 h5 _ ((le03.trans l4).trans l5) ((fr4.mono l4).mono l5) rh5 ?_
                  rw [ev] at o2 ⊢
                  intro W6 zv l6 rh6 r6
                  have w6 := w5.step l6 rh6
                  have o2 : Fin (match tupK dk with | some k => dcTL g ft fk fv τ0 (items.drop (i + 1)) (pk acc k dv) h6 | none => .bad) := o2
                  cases eq : tupK dk with
                  | none => rw [eq] at o2; exact (show False from o2).elim
                  | some k =>
                    rw [eq] at o2
                    obtain ⟨ws, ea, ra⟩ := w6.obj
                    obtain ⟨q, hk, hq⟩ := tupK_rep eq (r5.mono l6.toLeF)
                    refine ⟨ws, k, q, hk, hq, ea, by rw [← ra.len]; omega, W6.put Dd (.dT (putK ws k zv)), pk acc k dv, h6, rfl, w6.put hD ea k r6, ?_, o2⟩
                    have := pk_len acc k dv
                    omega
    · have e : i = items.length := by omega
      subst e
      rw [List.drop_length, dcTL] at o2
      obtain ⟨ws, ea, ra⟩ := w.obj
      refine .inl ⟨(wk _ W2 w.le.toLeF w.rh.tf).2 rfl, ?_⟩
      have o3 : okG C.g.K C.g.mg (NewR C.g.K W) W1 (fun c dd H => E c dd σ H) Q (.ok (.dT acc) h2) := o2
      exact o3 W2 _ w.le w.rh ⟨Dd, ws, rfl, ea, repT_m.mpr ra, w.nF, w.nr, l1.old rh1 hD⟩
  · rw [if_neg hz] at o1
    exact (show False from o1).elim
end


/-! ### list(e.items()), e a dict with tuple keys -/
def rItemsR : V → Hp → VK → Prop := fun x H Q => ∃ (a : Addr) (kvs : List (List Key × V)), x = .ref a ∧ Rd H a (.dT kvs) ∧ ∀ p, H p = none → Q (.ref p) (upd H p (itemsO p a))
theorem pe_itemsR {X : Cx} {o : Expr} {to : TE} {apos cpos : Pos} (ho : PE X o to) (hb : attributeBase o "items" X.env (eval o X.env) = eval o X.env) (hl : (apos.endLine == cpos.line) = true) :
    PE X (.Call (.Attribute o "items" apos) [] [] cpos) (fun σ H Q => to σ H fun x H1 => rItemsR x H1 Q) := by
  refine ⟨fun pins s σ H Q I h => ?_⟩
  refine wpAny_Call_method0_late hb hl (thn (ho.run pins s σ H _ I h) fun v s1 ⟨x, H1, I1, r1, a, kvs, ex, rd, q⟩ => ?_)
  subst ex
  obtain rfl : v = Value.ref a := r1
  obtain ⟨t1, t2, _⟩ := isD_at I1 (.inr ⟨kvs, rd⟩)
  refine ⟨"dict", "dict.items", PySem.F.plainAttrs_dict, PySem.F.slot_dict_items, PySem.F.type_dict_items, t1, t2, Calls.callWith_builtin rfl (PySem.evalArgs_none ?_)⟩
  obtain ⟨lo, od, oh, hx, es, ep, hdt, hes, hz, ent⟩ := dT_read I1 rd
  refine DT.callItems (es := es) (ep := ep) lo ⟨od, oh, hx, hdt⟩ ?_
  have hf : H1 s1.heap.objs.size = none := I1.hok.fresh (Nat.le_refl _)
  exact ⟨.ref s1.heap.objs.size, upd H1 s1.heap.objs.size (itemsO s1.heap.objs.size a), I1.laid (t' := s1.toks) (fun b u e => Heap.get?_push_of_some _ e) (Nat.le_refl _) (itemsO_ok (Heap.get?_push_size _ rfl)), rfl, q _ hf⟩
def listItV (f : DE) : DE := fun τ h => (f τ h).bind fun x h1 => match x with
  | .dT kvs => .ok (.lst (kvs.map pairD)) h1
  | _ => .bad
theorem den_listItV {C : Cn} {y : Str} {e : Expr} {f : DE} {p2 apos ipos pos : Pos} (he0 : DenE C e f) (hg : glB C.sc y = true) (hm : C.g.mg y = none) (hv : bootBuiltins y = some (.type "list")) (hl : (apos.endLine == ipos.line) = true)
    (hb : ∀ env, attributeBase e "items" env (eval e env) = eval e env)
    (he : ∀ env, starEach [.Call (.Attribute e "items" apos) [] [] ipos] env = (false, eval (.Call (.Attribute e "items" apos) [] [] ipos) env) :: starEach [] env) :
    DenN C (.Call (.Name y p2) [.Call (.Attribute e "items" apos) [] [] ipos] [] pos) (listItV f) := fun X E ok => by
  obtain ⟨t, p, q⟩ := he0 X E ok
  obtain ⟨g1, g2, g3⟩ := glB_ok ok hg
  refine ⟨_, pe_callTy (cr_listIt ok.calm) g1 (by rw [ok.mg]; exact hm) hv (pa_cons (pe_itemsR p (hb _) hl) pa_nil (he _)) g3 g2 (he _) rfl, fun W0 W τ σ h Q l fr rh o => ?_⟩
  refine q W0 W τ σ h _ l fr rh (okG.bind o fun x h1 W1 v l1 rh1 r1 o1 => ?_)
  cases x with
  | dT kvs =>
    rw [Rep] at r1
    obtain ⟨a, ws, rfl, fa, rd, r⟩ := r1
    have r := repT_m.mp r
    have o1 : okG C.g.K C.g.mg (NewR C.g.K W) W1 (fun c dd H => E c dd σ H) Q (.ok (.lst (kvs.map pairD)) h1) := o1
    refine ⟨a, ws, rfl, rd, fun p hp => ?_⟩
    have l2 := le_frz (le_put (o := itemsO p a) hp) hp
    have rh2 := rh_putF (o := itemsO p a) hp rh1
    have rd2 : Rd (upd W1.H p (itemsO p a)) a (.dT ws) := by
      have pa : a ≠ p := fun z => by rcases rd_case rd with ⟨ob, e⟩ | e <;> rw [z, hp] at e <;> cases e
      rcases rd with e | ⟨ob, e⟩
      · exact .inl (by rw [upd_ne pa]; exact e)
      · exact .inr ⟨ob, by rw [upd_ne pa]; exact e⟩
    refine ⟨p, a, ws, rfl, upd_same, rd2, fun us hus as H2 L q' hq => ?_⟩
    have r2 := r.mono l2.toLeF
    obtain ⟨W2, e2, l3, rh3, r3⟩ := lay_world (W := (W1.put p (itemsO p a)).frz p) L rh2 (pairs_rep rh2.tf r2 hus)
    subst e2
    obtain ⟨l4, rh4, n4⟩ := new_lst hq rh3 r3
    rw [List.map_map] at n4
    exact o1 _ _ ((l2.trans l3).trans l4) rh4 (n4.of ((l1.trans l2).trans l3) rh3)
  | _ => exact (show False from o1).elim
end Sw

/-! Sw, part e: formal sums of shapes, characters by rims: plain Lean; dicts of shapes as data. -/
/-! formal sums of shapes: what a dict of numbers is worth; shapes taken off and put on -/
namespace Ch
variable [Sw.Tbs]
open Sw
abbrev Sh := List Nat
abbrev FS := List (Sh × Int)
def ev (f : Sh → Int) : FS → Int
  | [] => 0
  | p :: r => p.2 * f p.1 + ev f r
def get (D : FS) (s : Sh) : Int := (lk D s).getD 0
def addTo (D : FS) (s : Sh) (c : Int) : FS := pk D s (get D s + c)
def ks (D : FS) : List Sh := D.map (·.1)
theorem lk_none {D : FS} {s : Sh} : lk D s = none ↔ s ∉ ks D := by
  induction D with
  | nil => simp [lk, ks]
  | cons p r ih =>
    rw [lk, ks, List.map_cons, List.mem_cons]
    by_cases e : p.1 = s
    · rw [if_pos e]; simp [e]
    · rw [if_neg e, ih]
      simp [ks, Ne.symm e]
theorem lk_mem {D : FS} {s : Sh} {c : Int} (nd : (ks D).Nodup) : lk D s = some c ↔ (s, c) ∈ D := by
  induction D with
  | nil => simp [lk]
  | cons p r ih =>
    rw [ks, List.map_cons, List.nodup_cons] at nd
    rw [lk, List.mem_cons]
    by_cases e : p.1 = s
    · rw [if_pos e]
      constructor
      · intro h; cases h; left; rw [← e]
      · intro h
        rcases h with h | h
        · rw [← h]
        · exact absurd (List.mem_map_of_mem (f := (·.1)) h) (by rw [← e]; exact nd.1)
    · rw [if_neg e, ih nd.2]
      constructor
      · exact .inr
      · intro h
        rcases h with h | h
        · exact absurd (by rw [← h]) e
        · exact h
theorem pk_old {D : FS} {s : Sh} {v : Int} (h : s ∈ ks D) : pk D s v = D.map (fun kv => if kv.1 = s then (kv.1, v) else kv) := by
  have : (lk D s).isSome = true := by
    cases e : lk D s with
    | none => exact absurd h (lk_none.mp e)
    | some _ => rfl
  rw [pk, if_pos this]
theorem pk_new {D : FS} {s : Sh} {v : Int} (h : s ∉ ks D) : pk D s v = D ++ [(s, v)] := by
  rw [pk, lk_none.mpr h]; rfl
theorem ks_pk (D : FS) (s : Sh) (v : Int) : ks (pk D s v) = if s ∈ ks D then ks D else ks D ++ [s] := by
  by_cases h : s ∈ ks D
  · rw [if_pos h, pk_old h, ks, List.map_map]
    unfold ks
    apply List.map_congr_left
    intro p _
    show (if p.1 = s then (p.1, v) else p).1 = p.1
    split <;> rfl
  · rw [if_neg h, pk_new h]; simp [ks]
theorem nd_pk {D : FS} (nd : (ks D).Nodup) (s : Sh) (v : Int) : (ks (pk D s v)).Nodup := by
  rw [ks_pk]
  split
  · exact nd
  · rename_i h
    rw [List.nodup_append]
    exact ⟨nd, by simp, fun a ha b hb => by simp at hb; subst hb; exact fun z => h (z ▸ ha)⟩
theorem ev_append (f : Sh → Int) (A B : FS) : ev f (A ++ B) = ev f A + ev f B := by
  induction A with
  | nil => simp [ev]
  | cons p r ih => rw [List.cons_append, ev, ev, ih]; omega
theorem ev_pk {f : Sh → Int} {D : FS} (nd : (ks D).Nodup) (s : Sh) (v : Int) : ev f (pk D s v) = ev f D + (v - get D s) * f s := by
  by_cases h : s ∈ ks D
  · rw [pk_old h]
    induction D with
    | nil => simp [ks] at h
    | cons p r ih =>
      rw [ks, List.map_cons, List.nodup_cons] at nd
      rw [List.map_cons, ev, ev]
      by_cases e : p.1 = s
      · rw [if_pos e]
        have ns : s ∉ ks r := by rw [← e]; exact nd.1
        have : r.map (fun kv => if kv.1 = s then (kv.1, v) else kv) = r := by
          conv => rhs; rw [← List.map_id r]
          apply List.map_congr_left
          intro q hq
          rw [if_neg]
          · rfl
          · intro z; exact ns (z ▸ List.mem_map_of_mem (f := (·.1)) hq)
        rw [this]
        show v * f p.1 + ev f r = _
        rw [get, lk, if_pos e, e]
        show v * f s + ev f r = p.2 * f s + ev f r + (v - p.2) * f s
        rw [Int.sub_mul]; omega
      · rw [if_neg e]
        have hr : s ∈ ks r := by
          rw [ks, List.map_cons, List.mem_cons] at h
          rcases h with h | h
          · exact absurd h.symm e
          · exact h
        rw [ih nd.2 hr, get, get, lk, if_neg e]; omega
  · rw [pk_new h, ev_append, get, lk_none.mpr h]
    simp [ev]
theorem ev_addTo {f : Sh → Int} {D : FS} (nd : (ks D).Nodup) (s : Sh) (c : Int) : ev f (addTo D s c) = ev f D + c * f s := by
  rw [addTo, ev_pk nd, show get D s + c - get D s = c by omega]
def del (t : Sh) : Sh → Int := fun s => if s = t then 1 else 0
theorem ev_notin {D : FS} {f : Sh → Int} (h : ∀ s ∈ ks D, f s = 0) : ev f D = 0 := by
  induction D with
  | nil => rfl
  | cons p r ih =>
    rw [ev, ih fun s m => h s (List.mem_cons_of_mem _ m), h p.1 List.mem_cons_self]; simp
theorem get_ev {D : FS} (nd : (ks D).Nodup) (t : Sh) : get D t = ev (del t) D := by
  induction D with
  | nil => rfl
  | cons p r ih =>
    have nd' := nd
    rw [ks, List.map_cons, List.nodup_cons] at nd'
    rw [ev, ← ih nd'.2, get, get, lk]
    by_cases e : p.1 = t
    · rw [if_pos e, lk_none.mpr (by rw [← e]; exact nd'.1), del, if_pos e]; simp
    · rw [if_neg e, del, if_neg e]; simp
theorem get_of {D : FS} (nd : (ks D).Nodup) {t : Sh} {c : Int} (h : (t, c) ∈ D) : get D t = c := by rw [get, (lk_mem nd).mpr h]; rfl
theorem get_not {D : FS} {t : Sh} (h : t ∉ ks D) : get D t = 0 := by rw [get, lk_none.mpr h]; rfl
theorem ev_congr {f g : Sh → Int} {D : FS} (h : ∀ s ∈ ks D, f s = g s) : ev f D = ev g D := by
  induction D with
  | nil => rfl
  | cons p r ih => rw [ev, ev, ih fun s m => h s (List.mem_cons_of_mem _ m), h p.1 List.mem_cons_self]
theorem ev_add (f g : Sh → Int) (D : FS) : ev (fun s => f s + g s) D = ev f D + ev g D := by
  induction D with
  | nil => rfl
  | cons p r ih => rw [ev, ev, ev, ih, Int.mul_add]; omega
theorem ev_mul (c : Int) (f : Sh → Int) (D : FS) : ev (fun s => c * f s) D = c * ev f D := by
  induction D with
  | nil => simp [ev]
  | cons p r ih => rw [ev, ev, ih, Int.mul_add, Int.mul_left_comm]
theorem ev_zero (D : FS) : ev (fun _ => 0) D = 0 := by
  induction D with
  | nil => rfl
  | cons p r ih => rw [ev, ih]; simp
/-- sums in either order -/
theorem ev_swap (k : Sh → Sh → Int) (A B : FS) : ev (fun s => ev (fun t => k s t) B) A = ev (fun t => ev (fun s => k s t) A) B := by
  induction A with
  | nil => simp [ev, ev_zero]
  | cons p r ih =>
    rw [ev, ih, ← ev_mul, ← ev_add]
    rfl
/-! ### one step -/
def addAll (acc : FS) (n : Int) (L : FS) : FS := L.foldl (fun acc q => addTo acc q.1 (q.2 * n)) acc
def stepF (R : Sh → FS) (D : FS) : FS := D.foldl (fun acc p => addAll acc p.2 (R p.1)) []
theorem addAll_ok (n : Int) : ∀ (L acc : FS), (ks acc).Nodup → (ks (addAll acc n L)).Nodup ∧ (∀ f, ev f (addAll acc n L) = ev f acc + n * ev f L) ∧ ∀ s ∈ ks (addAll acc n L), s ∈ ks acc ∨ s ∈ ks L
  | [], acc, nd => ⟨nd, fun f => by simp [addAll, ev], fun s m => .inl m⟩
  | q :: L, acc, nd => by
    obtain ⟨h1, h2, h3⟩ := addAll_ok n L (addTo acc q.1 (q.2 * n)) (nd_pk nd _ _)
    refine ⟨h1, fun f => ?_, fun s m => ?_⟩
    · show ev f (addAll (addTo acc q.1 (q.2 * n)) n L) = _
      rw [h2, ev_addTo nd, ev, Int.mul_add, ← Int.mul_assoc, Int.mul_comm n q.2]; omega
    · rcases h3 s m with h | h
      · rw [addTo, ks_pk] at h
        split at h
        · exact .inl h
        · rcases List.mem_append.mp h with h | h
          · exact .inl h
          · right; simp at h; subst h; exact List.mem_cons_self
      · exact .inr (List.mem_cons_of_mem _ h)
theorem stepF_go (R : Sh → FS) : ∀ (D acc : FS), (ks acc).Nodup → (ks (D.foldl (fun acc p => addAll acc p.2 (R p.1)) acc)).Nodup ∧ (∀ f, ev f (D.foldl (fun acc p => addAll acc p.2 (R p.1)) acc) = ev f acc + ev (fun s => ev f (R s)) D) ∧
    ∀ s ∈ ks (D.foldl (fun acc p => addAll acc p.2 (R p.1)) acc), s ∈ ks acc ∨ ∃ t ∈ ks D, s ∈ ks (R t)
  | [], acc, nd => ⟨nd, fun f => by simp [ev], fun s m => .inl m⟩
  | p :: D, acc, nd => by
    obtain ⟨a1, a2, a3⟩ := addAll_ok p.2 (R p.1) acc nd
    obtain ⟨h1, h2, h3⟩ := stepF_go R D (addAll acc p.2 (R p.1)) a1
    refine ⟨h1, fun f => ?_, fun s m => ?_⟩
    · rw [List.foldl_cons, h2, a2, ev]; omega
    · rcases h3 s m with h | ⟨t, ht, h⟩
      · rcases a3 s h with h | h
        · exact .inl h
        · exact .inr ⟨p.1, List.mem_cons_self, h⟩
      · exact .inr ⟨t, List.mem_cons_of_mem _ ht, h⟩
theorem stepF_nd (R : Sh → FS) (D : FS) : (ks (stepF R D)).Nodup := (stepF_go R D [] List.nodup_nil).1
theorem stepF_ev (R : Sh → FS) (D : FS) (f : Sh → Int) : ev f (stepF R D) = ev (fun s => ev f (R s)) D := by
  have := (stepF_go R D [] List.nodup_nil).2.1 f
  rw [show ev f [] = 0 from rfl, Int.zero_add] at this
  exact this
theorem stepF_ks {R : Sh → FS} {D : FS} {s : Sh} (h : s ∈ ks (stepF R D)) : ∃ t ∈ ks D, s ∈ ks (R t) := by
  rcases (stepF_go R D [] List.nodup_nil).2.2 s h with h | h
  · simp [ks] at h
  · exact h
/-! ### characters -/
def chi (R : Sh → Nat → FS) : List Nat → Sh → Int
  | [], s => del [] s
  | a :: l, s => ev (chi R l) (R s a)
def runD (R : Sh → Nat → FS) (l : List Nat) (D : FS) : FS := l.foldl (fun D a => stepF (fun s => R s a) D) D
theorem runD_nd (R : Sh → Nat → FS) : ∀ (l : List Nat) (D : FS), (ks D).Nodup → (ks (runD R l D)).Nodup
  | [], D, nd => nd
  | a :: l, D, _ => runD_nd R l _ (stepF_nd _ _)
theorem runD_ev (R : Sh → Nat → FS) : ∀ (l : List Nat) (D : FS), ev (del []) (runD R l D) = ev (chi R l) D
  | [], D => rfl
  | a :: l, D => by
    rw [runD, List.foldl_cons]
    have := runD_ev R l (stepF (fun s => R s a) D)
    rw [runD] at this
    rw [this, stepF_ev]
    rfl
/-- the law's own characters -/
theorem run_chi (R : Sh → Nat → FS) (l : List Nat) (s : Sh) : get (runD R l [(s, 1)]) [] = chi R l s := by
  rw [get_ev (runD_nd R l _ (by simp [ks])), runD_ev]
  simp [ev]
/-! ### zero sums -/
def neg (A : FS) : FS := A.map fun p => (p.1, -p.2)
theorem ev_neg (f : Sh → Int) (A : FS) : ev f (neg A) = - ev f A := by
  induction A with
  | nil => rfl
  | cons p r ih =>
    rw [neg, List.map_cons, ev, ev]
    show -p.2 * f p.1 + ev f (neg r) = -(p.2 * f p.1 + ev f r)
    rw [ih, Int.neg_mul]; omega
def zeroQ (A : FS) : Bool := (addAll [] 1 A).all fun p => p.2 == 0
theorem zeroQ_ok {A : FS} (h : zeroQ A = true) (f : Sh → Int) : ev f A = 0 := by
  have e := (addAll_ok 1 A [] List.nodup_nil).2.1 f
  rw [show ev f [] = 0 from rfl, Int.zero_add, Int.one_mul] at e
  rw [← e]
  have z : ∀ B : FS, (B.all fun p => p.2 == 0) = true → ev f B = 0 := by
    intro B
    induction B with
    | nil => intro _; rfl
    | cons p r ih =>
      intro h
      rw [List.all_cons, Bool.and_eq_true] at h
      rw [ev, ih h.2, eq_of_beq h.1]; simp
  exact z _ h
def sameQ (A B : FS) : Bool := zeroQ (A ++ neg B)
theorem sameQ_ok {A B : FS} (h : sameQ A B = true) (f : Sh → Int) : ev f A = ev f B := by
  have := zeroQ_ok h f
  rw [ev_append, ev_neg] at this
  omega
/-- a step of a formal sum, not brought together -/
def flat (R : Sh → FS) (A : FS) : FS := A.flatMap fun p => (R p.1).map fun q => (q.1, q.2 * p.2)
theorem ev_scale (c : Int) (f : Sh → Int) (A : FS) : ev f (A.map fun q => (q.1, q.2 * c)) = c * ev f A := by
  induction A with
  | nil => simp [ev]
  | cons p r ih => rw [List.map_cons, ev, ev, ih, Int.mul_add, ← Int.mul_assoc, Int.mul_comm c p.2]
theorem ev_flat (R : Sh → FS) (f : Sh → Int) (A : FS) : ev f (flat R A) = ev (fun s => ev f (R s)) A := by
  induction A with
  | nil => rfl
  | cons p r ih =>
    rw [flat, List.flatMap_cons, ev_append, ev_scale, ev]
    rw [flat] at ih
    rw [ih]
/-! ### all shapes of a size, rims taken off and put on -/
structure Good (S : Nat → List Sh) (R P : Sh → Nat → FS) (N : Nat) : Prop where
  s0 : ∀ s, s ∈ S 0 ↔ s = []
  rS : ∀ n a s, n ≤ N → 1 ≤ a → a ≤ n → s ∈ S n → ∀ p ∈ R s a, p.1 ∈ S (n - a)
  pS : ∀ n a s, n + a ≤ N → 1 ≤ a → s ∈ S n → ∀ p ∈ P s a, p.1 ∈ S (n + a)
  rN : ∀ n a s, n ≤ N → 1 ≤ a → a ≤ n → s ∈ S n → (ks (R s a)).Nodup
  pN : ∀ n a s, n + a ≤ N → 1 ≤ a → s ∈ S n → (ks (P s a)).Nodup
  rP : ∀ n a s, n ≤ N → 1 ≤ a → a ≤ n → s ∈ S n → ∀ p ∈ R s a, (s, p.2) ∈ P p.1 a
  pR : ∀ n a s, n + a ≤ N → 1 ≤ a → s ∈ S n → ∀ p ∈ P s a, (s, p.2) ∈ R p.1 a
  cm : ∀ n a b s, n ≤ N → 1 ≤ a → 1 ≤ b → a + b ≤ n → s ∈ S n → ∀ f, ev (fun t => ev f (R t b)) (R s a) = ev (fun t => ev f (R t a)) (R s b)
section
variable {S : Nat → List Sh} {R P : Sh → Nat → FS} {N : Nat}
theorem ks_mem {A : FS} {s : Sh} (h : s ∈ ks A) : ∃ c, (s, c) ∈ A := by
  obtain ⟨p, hp, rfl⟩ := List.mem_map.mp h
  exact ⟨p.2, hp⟩
theorem chi_perm (G : Good S R P N) {l l' : List Nat} (p : l.Perm l') : ∀ n s, n ≤ N → l.sum = n → (∀ a ∈ l, 1 ≤ a) → s ∈ S n → chi R l s = chi R l' s := by
  induction p with
  | nil => intro _ _ _ _ _ _; rfl
  | @cons a l l' p ih =>
    intro n s hn e pos hs
    rw [List.sum_cons] at e
    rw [chi, chi]
    refine ev_congr fun t ht => ?_
    obtain ⟨c, hc⟩ := ks_mem ht
    have := G.rS n a s hn (pos a List.mem_cons_self) (by omega) hs _ hc
    exact ih (n - a) t (by omega) (by omega) (fun b hb => pos b (List.mem_cons_of_mem _ hb)) this
  | @swap a b l =>
    intro n s hn e pos hs
    rw [List.sum_cons, List.sum_cons] at e
    show ev (fun t => ev (chi R l) (R t a)) (R s b) = ev (fun t => ev (chi R l) (R t b)) (R s a)
    exact G.cm n b a s hn (pos b List.mem_cons_self) (pos a (List.mem_cons_of_mem _ List.mem_cons_self)) (by omega) hs _
  | @trans l1 l2 l3 p1 p2 ih1 ih2 =>
    intro n s hn e pos hs
    rw [ih1 n s hn e pos hs, ih2 n s hn (by rw [← p1.sum_nat]; exact e) (fun a ha => pos a (p1.mem_iff.mpr ha)) hs]
/-- put on and taken off -/
theorem adj (G : Good S R P N) {n a : Nat} {s t : Sh} (hn : n + a ≤ N) (ha : 1 ≤ a) (hs : s ∈ S n) (ht : t ∈ S (n + a)) : ev (del t) (P s a) = ev (del s) (R t a) := by
  have hR := G.rN (n + a) a t hn ha (by omega) ht
  have hP := G.pN n a s hn ha hs
  rw [← get_ev hP, ← get_ev hR]
  by_cases h : t ∈ ks (P s a)
  · obtain ⟨c, hc⟩ := ks_mem h
    rw [get_of hP hc, get_of hR (G.pR n a s hn ha hs _ hc)]
  · rw [get_not h, get_not]
    intro z
    obtain ⟨c, hc⟩ := ks_mem z
    have := G.rP (n + a) a t hn ha (by omega) ht _ hc
    exact h (List.mem_map_of_mem (f := (·.1)) this)
theorem runD_S (G : Good S R P N) : ∀ (l : List Nat) (D : FS) (m : Nat), m + l.sum ≤ N → (∀ a ∈ l, 1 ≤ a) → (∀ s ∈ ks D, s ∈ S m) → ∀ s ∈ ks (runD P l D), s ∈ S (m + l.sum)
  | [], D, m, _, _, h => by simpa [runD] using h
  | a :: l, D, m, hN, pos, h => by
    rw [List.sum_cons] at hN ⊢
    have ih := runD_S G l (stepF (fun s => P s a) D) (m + a) (by omega) (fun b hb => pos b (List.mem_cons_of_mem _ hb)) fun s hs => by
      obtain ⟨t, ht, hs⟩ := stepF_ks hs
      obtain ⟨c, hc⟩ := ks_mem hs
      exact G.pS m a t (by omega) (pos a List.mem_cons_self) (h t ht) _ hc
    rw [runD] at ih ⊢
    rw [List.foldl_cons, ← Nat.add_assoc]
    exact ih
theorem reached_rev (G : Good S R P N) : ∀ (l : List Nat) (t : Sh), l.sum ≤ N → (∀ a ∈ l, 1 ≤ a) → t ∈ S l.sum → get (runD P l.reverse [([], 1)]) t = chi R l t
  | [], t, _, _, ht => by
    have := (G.s0 t).mp ht
    subst this
    rfl
  | a :: l, t, hN, pos, ht => by
    rw [List.sum_cons] at hN ht
    have p' : ∀ b ∈ l, 1 ≤ b := fun b hb => pos b (List.mem_cons_of_mem _ hb)
    have nd0 : (ks (runD P l.reverse [([], 1)])).Nodup := runD_nd P _ _ (by simp [ks])
    have e : runD P (a :: l).reverse [([], 1)] = stepF (fun s => P s a) (runD P l.reverse [([], 1)]) := by
      rw [List.reverse_cons, runD, List.foldl_append]; rfl
    have sm : l.reverse.sum = l.sum := by rw [List.sum_reverse]
    have sh := runD_S G l.reverse [([], 1)] 0 (by rw [sm]; omega) (fun b hb => p' b (List.mem_reverse.mp hb)) fun s hs => by
      have : s = [] := by simpa [ks] using hs
      exact (G.s0 s).mpr this
    rw [sm, Nat.zero_add] at sh
    rw [e, get_ev (stepF_nd _ _), stepF_ev, chi]
    have ht' : t ∈ S (l.sum + a) := by rw [Nat.add_comm]; exact ht
    rw [ev_congr (g := fun s => ev (fun u => del s u) (R t a)) fun s hs => adj G (by omega) (pos a List.mem_cons_self) (sh s hs) ht', ev_swap]
    refine ev_congr fun u hu => ?_
    obtain ⟨c, hc⟩ := ks_mem hu
    have hu := G.rS (l.sum + a) a t (by omega) (pos a List.mem_cons_self) (by omega) ht' _ hc
    rw [show l.sum + a - a = l.sum by omega] at hu
    rw [← reached_rev G l u (by omega) p' hu, get_ev nd0]
    refine ev_congr fun s _ => ?_
    show (if u = s then (1 : Int) else 0) = if s = u then 1 else 0
    by_cases z : u = s
    · rw [if_pos z, if_pos z.symm]
    · rw [if_neg z, if_neg (Ne.symm z)]
/-- what is reached by putting on is told by taking off -/
theorem reached_chi (G : Good S R P N) {l : List Nat} {t : Sh} (hN : l.sum ≤ N) (pos : ∀ a ∈ l, 1 ≤ a) (ht : t ∈ S l.sum) : get (runD P l [([], 1)]) t = chi R l t := by
  have := reached_rev G l.reverse t (by rw [List.sum_reverse]; exact hN) (fun b hb => pos b (List.mem_reverse.mp hb)) (by rw [List.sum_reverse]; exact ht)
  rw [List.reverse_reverse] at this
  rw [this]
  exact chi_perm G (List.reverse_perm l) l.sum t hN (by rw [List.sum_reverse]) (fun b hb => pos b (List.mem_reverse.mp hb)) ht
end
end Ch
/-! shapes as lists of numbers, rims by beads -/
namespace Ch
variable [Sw.Tbs]
/-- shapes of n with members up to m -/
def pn : Nat → Nat → Nat → List Sh
  | 0, _, _ => []
  | f + 1, m, n => (if n = 0 then [[]] else []) ++ (List.range (min m n)).flatMap fun k => (pn f (k + 1) (n - (k + 1))).map ((k + 1) :: ·)
theorem pn_mem : ∀ (f m n : Nat) (l : Sh), l.length < f → (∀ y ∈ l, 1 ≤ y) → (∀ y ∈ l, y ≤ m) → l.Pairwise (· ≥ ·) → l.sum = n → l ∈ pn f m n
  | 0, m, n, l, h, _, _, _, _ => by omega
  | f + 1, m, n, [], h, _, _, _, hs => by
    have : n = 0 := by simp at hs; omega
    subst this
    rw [pn]
    exact List.mem_append_left _ (by simp)
  | f + 1, m, n, x :: l, h, hp, hm, hd, hs => by
    rw [pn]
    have h1 := hp x List.mem_cons_self
    have h2 := hm x List.mem_cons_self
    rw [List.sum_cons] at hs
    refine List.mem_append_right _ (List.mem_flatMap.mpr ⟨x - 1, by rw [List.mem_range]; omega, ?_⟩)
    refine List.mem_map.mpr ⟨l, pn_mem f _ _ l (by rw [List.length_cons] at h; omega) (fun y q => hp y (List.mem_cons_of_mem _ q)) (fun y q => ?_) (List.pairwise_cons.mp hd).2 (by omega), ?_⟩
    · have := (List.pairwise_cons.mp hd).1 y q
      omega
    · congr 1
      omega
theorem pn_is : ∀ (f m n : Nat) (l : Sh), l ∈ pn f m n → (∀ y ∈ l, 1 ≤ y) ∧ (∀ y ∈ l, y ≤ m) ∧ l.Pairwise (· ≥ ·) ∧ l.sum = n
  | 0, m, n, l, h => by rw [pn] at h; cases h
  | f + 1, m, n, l, h => by
    rw [pn] at h
    rcases List.mem_append.mp h with h | h
    · by_cases hn : n = 0
      · rw [if_pos hn] at h
        have : l = [] := by simpa using h
        subst this
        exact ⟨fun y q => (by cases q), fun y q => (by cases q), .nil, by simp [hn]⟩
      · rw [if_neg hn] at h; cases h
    · obtain ⟨k, hk, h⟩ := List.mem_flatMap.mp h
      obtain ⟨r, hr, rfl⟩ := List.mem_map.mp h
      obtain ⟨q1, q2, q3, q4⟩ := pn_is f _ _ r hr
      have hk := List.mem_range.mp hk
      refine ⟨fun y z => ?_, fun y z => ?_, List.pairwise_cons.mpr ⟨fun y z => q2 y z, q3⟩, by rw [List.sum_cons, q4]; omega⟩
      · rcases List.mem_cons.mp z with rfl | z
        · omega
        · exact q1 y z
      · rcases List.mem_cons.mp z with rfl | z
        · omega
        · have := q2 y z; omega
def S (n : Nat) : List Sh := pn 15 n n
theorem len_le : ∀ (l : Sh), (∀ y ∈ l, 1 ≤ y) → l.length ≤ l.sum
  | [], _ => Nat.le_refl _
  | x :: l, h => by
    have := len_le l fun y q => h y (List.mem_cons_of_mem _ q)
    have := h x List.mem_cons_self
    rw [List.length_cons, List.sum_cons]; omega
theorem le_sum : ∀ (l : Sh), ∀ y ∈ l, y ≤ l.sum
  | [], y, h => by cases h
  | x :: l, y, h => by
    rw [List.sum_cons]
    rcases List.mem_cons.mp h with rfl | h
    · omega
    · have := le_sum l y h; omega
theorem S_mem {l : Sh} (hn : l.sum ≤ 14) (h1 : ∀ y ∈ l, 1 ≤ y) (h2 : l.Pairwise (· ≥ ·)) : l ∈ S l.sum :=
  pn_mem _ _ _ _ (by have := len_le l h1; omega) h1 (le_sum l) h2 rfl
/-- is a shape of n -/
def shB (n : Nat) (l : Sh) : Bool := go n l n where
  go (m : Nat) : Sh → Nat → Bool
    | [], k => k == 0
    | x :: r, k => Nat.ble 1 x && Nat.ble x m && Nat.ble x k && go x r (k - x)
theorem shB_go : ∀ (l : Sh) (m k : Nat), shB.go m l k = true → (∀ y ∈ l, 1 ≤ y) ∧ (∀ y ∈ l, y ≤ m) ∧ l.Pairwise (· ≥ ·) ∧ l.sum = k
  | [], m, k, h => by
    rw [shB.go] at h
    exact ⟨fun y q => (by cases q), fun y q => (by cases q), .nil, (eq_of_beq h).symm⟩
  | x :: r, m, k, h => by
    rw [shB.go, Bool.and_eq_true, Bool.and_eq_true, Bool.and_eq_true] at h
    obtain ⟨⟨⟨h1, h2⟩, h3⟩, h4⟩ := h
    obtain ⟨q1, q2, q3, q4⟩ := shB_go r x (k - x) h4
    have h1 := Nat.le_of_ble_eq_true h1
    have h2 := Nat.le_of_ble_eq_true h2
    have h3 := Nat.le_of_ble_eq_true h3
    refine ⟨fun y z => ?_, fun y z => ?_, List.pairwise_cons.mpr ⟨fun y z => q2 y z, q3⟩, by rw [List.sum_cons, q4]; omega⟩
    · rcases List.mem_cons.mp z with rfl | z
      · exact h1
      · exact q1 y z
    · rcases List.mem_cons.mp z with rfl | z
      · exact h2
      · exact Nat.le_trans (q2 y z) h2
theorem shB_ok {n : Nat} {l : Sh} (hn : n ≤ 14) (h : shB n l = true) : l ∈ S n := by
  obtain ⟨q1, q2, q3, q4⟩ := shB_go l n n h
  subst q4
  exact S_mem hn q1 q3
/-! ### beads -/
def bd : Sh → List Nat
  | [] => []
  | w :: r => (w + r.length) :: bd r
def unbd : List Nat → Sh
  | [] => []
  | b :: r => if Nat.ble b r.length then unbd r else (b - r.length) :: unbd r
def ins (x : Nat) : List Nat → List Nat
  | [] => [x]
  | y :: r => if Nat.ble x y then y :: ins x r else x :: y :: r
def has (x : Nat) : List Nat → Bool
  | [] => false
  | y :: r => if Nat.beq x y then true else has x r
def between (lo hi : Nat) : List Nat → Nat
  | [] => 0
  | y :: r => if Nat.ble y lo then between lo hi r else if Nat.ble hi y then between lo hi r else between lo hi r + 1
def drp (x : Nat) : List Nat → List Nat
  | [] => []
  | y :: r => if Nat.beq x y then drp x r else y :: drp x r
def sg (k : Nat) : Int := if Nat.beq (k % 2) 0 then 1 else -1
def rimsB (bs : List Nat) (a : Nat) : List Nat → FS
  | [] => []
  | b :: r => if Nat.ble a b then (if has (b - a) bs then rimsB bs a r else (unbd (ins (b - a) (drp b bs)), sg (between (b - a) b bs)) :: rimsB bs a r) else rimsB bs a r
def rims (s : Sh) (a : Nat) : FS := rimsB (bd s) a (bd s)
def putB (bs : List Nat) (a : Nat) : List Nat → FS
  | [] => []
  | b :: r => if has (b + a) bs then putB bs a r else (unbd (ins (b + a) (drp b bs)), sg (between b (b + a) bs)) :: putB bs a r
def put (s : Sh) (a : Nat) : FS := putB (bd (s ++ List.replicate a 0)) a (bd (s ++ List.replicate a 0))
/-! ### the finite checks -/
def ndB : List Sh → Bool
  | [] => true
  | x :: r => !(r.contains x) && ndB r
theorem ndB_ok : ∀ {l : List Sh}, ndB l = true → l.Nodup
  | [], _ => .nil
  | x :: r, h => by
    rw [ndB, Bool.and_eq_true] at h
    exact List.nodup_cons.mpr ⟨by simpa using h.1, ndB_ok h.2⟩
def q1 (n a : Nat) (s : Sh) : Bool := ndB (ks (rims s a)) && (rims s a).all fun p => shB (n - a) p.1 && (put p.1 a).contains (s, p.2)
def q2 (n a : Nat) (s : Sh) : Bool := ndB (ks (put s a)) && (put s a).all fun p => shB (n + a) p.1 && (rims p.1 a).contains (s, p.2)
def q3 (a b : Nat) (s : Sh) : Bool := sameQ (flat (fun t => rims t b) (rims s a)) (flat (fun t => rims t a) (rims s b))
def c1 (n : Nat) : Bool := (S n).all fun s => (List.range n).all fun a => q1 n (a + 1) s
def c2 (n : Nat) : Bool := (S n).all fun s => (List.range (14 - n)).all fun a => q2 n (a + 1) s
def c3 (n : Nat) : Bool := (S n).all fun s => (List.range n).all fun a => (List.range (min a (n - a - 1))).all fun b => q3 (a + 1) (b + 1) s
end Ch
namespace Ch
variable [Sw.Tbs]
theorem all_i {α : Type} {p : α → Bool} {l : List α} (h : l.all p = true) {x : α} (m : x ∈ l) : p x = true := List.all_eq_true.mp h x m
theorem S0 (s : Sh) : s ∈ S 0 ↔ s = [] := by
  rw [show S 0 = [[]] from rfl]; simp
theorem good_of {N : Nat} (hN : N ≤ 14) (h1 : ∀ n, n ≤ N → c1 n = true) (h2 : ∀ n, n ≤ N → c2 n = true) (h3 : ∀ n, n ≤ N → c3 n = true) : Good S rims put N := by
  have e1 : ∀ n a s, n ≤ N → 1 ≤ a → a ≤ n → s ∈ S n → q1 n a s = true := fun n a s hn ha han hs => by
    have := all_i (all_i (h1 n hn) hs) (x := a - 1) (List.mem_range.mpr (by omega))
    rwa [show a - 1 + 1 = a by omega] at this
  have e2 : ∀ n a s, n + a ≤ N → 1 ≤ a → s ∈ S n → q2 n a s = true := fun n a s hn ha hs => by
    have := all_i (all_i (h2 n (by omega)) hs) (x := a - 1) (List.mem_range.mpr (by omega))
    rwa [show a - 1 + 1 = a by omega] at this
  have e3 : ∀ n a b s, n ≤ N → 1 ≤ b → b < a → a + b ≤ n → s ∈ S n → q3 a b s = true := fun n a b s hn hb hba hab hs => by
    have := all_i (all_i (all_i (h3 n hn) hs) (x := a - 1) (List.mem_range.mpr (by omega))) (x := b - 1) (List.mem_range.mpr (by omega))
    rwa [show a - 1 + 1 = a by omega, show b - 1 + 1 = b by omega] at this
  have e4 : ∀ n a b s, n ≤ N → 1 ≤ b → b < a → a + b ≤ n → s ∈ S n → ∀ f, ev (fun t => ev f (rims t b)) (rims s a) = ev (fun t => ev f (rims t a)) (rims s b) := fun n a b s hn hb hba hab hs f => by
    have := sameQ_ok (e3 n a b s hn hb hba hab hs) f
    rwa [ev_flat, ev_flat] at this
  refine ⟨S0, fun n a s hn ha han hs p hp => ?_, fun n a s hn ha hs p hp => ?_, fun n a s hn ha han hs => ?_, fun n a s hn ha hs => ?_, fun n a s hn ha han hs p hp => ?_, fun n a s hn ha hs p hp => ?_, fun n a b s hn ha hb hab hs f => ?_⟩
  · have := e1 n a s hn ha han hs
    rw [q1, Bool.and_eq_true] at this
    have := all_i this.2 hp
    rw [Bool.and_eq_true] at this
    exact shB_ok (by omega) this.1
  · have := e2 n a s hn ha hs
    rw [q2, Bool.and_eq_true] at this
    have := all_i this.2 hp
    rw [Bool.and_eq_true] at this
    exact shB_ok (by omega) this.1
  · have := e1 n a s hn ha han hs
    rw [q1, Bool.and_eq_true] at this
    exact ndB_ok this.1
  · have := e2 n a s hn ha hs
    rw [q2, Bool.and_eq_true] at this
    exact ndB_ok this.1
  · have := e1 n a s hn ha han hs
    rw [q1, Bool.and_eq_true] at this
    have := all_i this.2 hp
    rw [Bool.and_eq_true] at this
    simpa using this.2
  · have := e2 n a s hn ha hs
    rw [q2, Bool.and_eq_true] at this
    have := all_i this.2 hp
    rw [Bool.and_eq_true] at this
    simpa using this.2
  · rcases Nat.lt_trichotomy a b with h | h | h
    · exact (e4 n b a s hn ha h (by omega) hs f).symm
    · subst h; rfl
    · exact e4 n a b s hn hb h hab hs f
end Ch
namespace Ch
variable [Sw.Tbs]
open Sw
/-! ### beads of a shape -/
theorem bd_length : ∀ s : Sh, (bd s).length = s.length
  | [] => rfl
  | w :: r => by rw [bd, List.length_cons, List.length_cons, bd_length r]
theorem bd_le : ∀ {s : Sh} {m : Nat}, (∀ y ∈ s, y ≤ m) → ∀ b ∈ bd s, b < m + s.length
  | [], m, _, b, h => by cases h
  | w :: r, m, hm, b, h => by
    rw [bd] at h
    rw [List.length_cons]
    rcases List.mem_cons.mp h with rfl | h
    · have := hm w List.mem_cons_self; omega
    · have := bd_le (fun y q => hm y (List.mem_cons_of_mem _ q)) b h; omega
theorem bd_desc : ∀ {s : Sh}, s.Pairwise (· ≥ ·) → (bd s).Pairwise (· > ·)
  | [], _ => .nil
  | w :: r, h => by
    rw [List.pairwise_cons] at h
    rw [bd]
    refine List.pairwise_cons.mpr ⟨fun b hb => ?_, bd_desc h.2⟩
    exact bd_le h.1 b hb
theorem has_iff (x : Nat) : ∀ l, has x l = true ↔ x ∈ l
  | [] => by simp [has]
  | y :: r => by
    rw [has, List.mem_cons]
    by_cases e : x = y
    · simp [e]
    · rw [if_neg (by simpa using e), has_iff x r]
      simp [e]
theorem has_dec (x : Nat) (l : List Nat) : has x l = decide (x ∈ l) := by
  rw [Bool.eq_iff_iff, has_iff, decide_eq_true_iff]
theorem ins_perm (x : Nat) : ∀ l, (ins x l).Perm (x :: l)
  | [] => .refl _
  | y :: r => by
    unfold ins
    split
    · exact (List.Perm.cons y (ins_perm x r)).trans (.swap x y r)
    · exact .refl _
theorem ins_desc (x : Nat) : ∀ {l : List Nat}, l.Pairwise (· ≥ ·) → (ins x l).Pairwise (· ≥ ·)
  | [], _ => by simp [ins]
  | y :: r, h => by
    unfold ins
    rw [List.pairwise_cons] at h
    split
    · rename_i hxy
      refine List.pairwise_cons.mpr ⟨fun z hz => ?_, ins_desc x h.2⟩
      rcases List.mem_cons.mp ((ins_perm x r).subset hz) with rfl | hz
      · exact Nat.le_of_ble_eq_true hxy
      · exact h.1 z hz
    · rename_i hxy
      have hxy : ¬ x ≤ y := fun z => hxy (Nat.ble_eq_true_of_le z)
      refine List.pairwise_cons.mpr ⟨fun z hz => ?_, List.pairwise_cons.mpr h⟩
      rcases List.mem_cons.mp hz with rfl | hz
      · omega
      · have := h.1 z hz; omega
theorem drp_filter (x : Nat) : ∀ l, drp x l = l.filter (fun y => y != x)
  | [] => rfl
  | z :: r => by
    rw [drp, drp_filter x r, List.filter_cons]
    by_cases e : x = z
    · simp [e]
    · rw [if_neg (by simpa using e), if_pos (by simpa using (Ne.symm e))]
theorem drp_at {l : List Nat} (nd : l.Nodup) {i b : Nat} (h : l[i]? = some b) : drp b l = l.take i ++ l.drop (i + 1) := by
  induction l generalizing i with
  | nil => cases h
  | cons y r ih =>
    rw [List.nodup_cons] at nd
    cases i with
    | zero =>
      cases h
      rw [drp, if_pos (by simp)]
      rw [drp_filter, List.filter_eq_self.mpr fun z hz => by
        simp only [bne_iff_ne, ne_eq]
        intro e
        exact nd.1 (e ▸ hz)]
      rfl
    | succ i =>
      have h : r[i]? = some b := h
      have ne : ¬ b = y := fun e => nd.1 (e ▸ List.mem_of_getElem? h)
      rw [drp, if_neg (by simpa using ne), ih nd.2 h]
      rfl
theorem between_len (lo hi : Nat) : ∀ l, between lo hi l = (l.filter fun x => decide (lo < x) && decide (x < hi)).length
  | [] => rfl
  | y :: r => by
    rw [between, List.filter_cons, between_len lo hi r]
    by_cases h1 : y ≤ lo
    · rw [if_pos (Nat.ble_eq_true_of_le h1), if_neg (by simp; omega)]
    · rw [if_neg (fun z => h1 (Nat.le_of_ble_eq_true z))]
      by_cases h2 : hi ≤ y
      · rw [if_pos (Nat.ble_eq_true_of_le h2), if_neg (by simp; omega)]
      · rw [if_neg (fun z => h2 (Nat.le_of_ble_eq_true z)), if_pos (by simp; omega), List.length_cons]
/-- a shape, read off its beads from the least one on -/
theorem unbd_rev : ∀ m : List Nat, unbd m.reverse = (((List.range m.length).filter fun i => decide (i < ap m i)).map fun i => ap m i - i).reverse := by
  have key : ∀ d : List Nat, unbd d = (((List.range d.reverse.length).filter fun i => decide (i < ap d.reverse i)).map fun i => ap d.reverse i - i).reverse := by
    intro d
    induction d with
    | nil => rfl
    | cons x d ih =>
      rw [List.reverse_cons, List.length_append, List.length_singleton, List.range_succ, List.filter_append, List.map_append, List.reverse_append]
      have a1 : ap (d.reverse ++ [x]) d.reverse.length = x := by
        unfold ap; rw [List.getD_eq_getElem?_getD, List.getElem?_append_right (Nat.le_refl _)]; simp
      have a2 : ∀ i ∈ List.range d.reverse.length, ap (d.reverse ++ [x]) i = ap d.reverse i := fun i hi => by
        have hi := List.mem_range.mp hi
        unfold ap; rw [List.getD_eq_getElem?_getD, List.getD_eq_getElem?_getD, List.getElem?_append_left hi]
      have e1 : (List.range d.reverse.length).filter (fun i => decide (i < ap (d.reverse ++ [x]) i)) = (List.range d.reverse.length).filter fun i => decide (i < ap d.reverse i) :=
        List.filter_congr fun i hi => by rw [a2 i hi]
      have e2 : ((List.range d.reverse.length).filter fun i => decide (i < ap d.reverse i)).map (fun i => ap (d.reverse ++ [x]) i - i) = ((List.range d.reverse.length).filter fun i => decide (i < ap d.reverse i)).map fun i => ap d.reverse i - i :=
        List.map_congr_left fun i hi => by rw [a2 i (List.mem_filter.mp hi).1]
      rw [e1, e2, ← ih, unbd]
      simp only [List.filter_cons, List.filter_nil, a1]
      by_cases h : x ≤ d.length
      · rw [if_pos (Nat.ble_eq_true_of_le h), if_neg (by simpa using h)]; rfl
      · rw [if_neg (fun z => h (Nat.le_of_ble_eq_true z)), if_pos (by simpa using h)]
        simp [a1]
        have := a1
        rw [List.length_reverse] at this
        rw [this]
  intro m
  have := key m.reverse
  rw [List.reverse_reverse] at this
  exact this
theorem ap_bd : ∀ {s : Sh} {i : Nat}, i < s.length → ap (bd s) i = ap s i + (s.length - 1 - i)
  | [], i, h => by cases h
  | w :: r, 0, h => by
    rw [bd]
    show w + r.length = w + (r.length + 1 - 1 - 0)
    omega
  | w :: r, i + 1, h => by
    rw [List.length_cons] at h
    rw [bd]
    show ap (bd r) i = ap r i + (r.length + 1 - 1 - (i + 1))
    rw [ap_bd (by omega)]; omega
theorem list_ap (l : List Nat) : (List.range l.length).map (ap l) = l := by
  refine List.ext_getElem? fun i => ?_
  rw [List.getElem?_map]
  rcases Nat.lt_or_ge i l.length with h | h
  · rw [List.getElem?_range h, ap_get h]; rfl
  · rw [List.getElem?_eq_none (by simpa using h), List.getElem?_eq_none h]; rfl
theorem nodup_len {l m : List Sh} (nd : l.Nodup) (h : ∀ x ∈ l, x ∈ m) : l.length ≤ m.length := by
  induction l generalizing m with
  | nil => exact Nat.zero_le _
  | cons x l ih =>
    rw [List.nodup_cons] at nd
    have hx := h x List.mem_cons_self
    have := ih (m := m.erase x) nd.2 fun y hy => (List.mem_erase_of_ne (fun (e : y = x) => nd.1 (by rw [← e]; exact hy))).mpr (h y (List.mem_cons_of_mem _ hy))
    rw [List.length_erase_of_mem hx] at this
    have : 0 < m.length := List.length_pos_of_mem hx
    rw [List.length_cons]; omega
end Ch
namespace Sw
open PySem PySem.Spec PyProof.Rows L2 Ch
variable [Tbs]
/-! ### dicts of shapes as data -/
def kn (s : Sh) : List Key := s.map fun n : Nat => Sum.inl (n : Int)
def emb (D : FS) : List (List Key × Sw.D) := D.map fun p => (kn p.1, .int p.2)
theorem kn_inj {s t : Sh} (h : kn s = kn t) : s = t := by
  induction s generalizing t with
  | nil => cases t with
    | nil => rfl
    | cons y t => cases h
  | cons x s ih => cases t with
    | nil => cases h
    | cons y t =>
      unfold kn at h
      rw [List.map_cons, List.map_cons, List.cons.injEq] at h
      rw [ih h.2]
      have := h.1
      rw [Sum.inl.injEq] at this
      rw [Int.ofNat_inj.mp this]
theorem keysD_mv (s : Sh) : keysD ((ni s).map .int) = some (kn s) := by
  induction s with
  | nil => rfl
  | cons x s ih =>
    show (match keyD (.int (x : Int)), keysD ((ni s).map .int) with | some k, some ks => some (k :: ks) | _, _ => none) = _
    rw [ih]; rfl
theorem kn_d (s : Sh) : (kn s).map dOfK = (ni s).map .int := by
  rw [kn, ni, List.map_map, List.map_map]; rfl
theorem lk_emb : ∀ (A : FS) (s : Sh), lk (emb A) (kn s) = (lk A s).map Sw.D.int
  | [], s => rfl
  | p :: A, s => by
    rw [emb, List.map_cons, lk, lk]
    by_cases e : p.1 = s
    · rw [if_pos e, if_pos (by rw [e])]; rfl
    · rw [if_neg e, if_neg (fun z => e (kn_inj z))]
      exact lk_emb A s
theorem pk_emb (A : FS) (s : Sh) (v : Int) : pk (emb A) (kn s) (.int v) = emb (pk A s v) := by
  unfold pk
  rw [lk_emb, Option.isSome_map]
  split
  · rw [emb, emb, List.map_map, List.map_map]
    apply List.map_congr_left
    intro p _
    show (if kn p.1 = kn s then (kn p.1, Sw.D.int v) else (kn p.1, .int p.2)) = (kn (if p.1 = s then (p.1, v) else p).1, .int (if p.1 = s then (p.1, v) else p).2)
    by_cases e : p.1 = s
    · rw [if_pos e, if_pos (by rw [e])]
    · rw [if_neg e, if_neg (fun z => e (kn_inj z))]
  · rw [emb, emb, List.map_append]; rfl
theorem emb_len (A : FS) : (emb A).length = A.length := by rw [emb, List.length_map]
theorem dGet_emb (A : FS) (s : Sh) : dGetO (.dT (emb A)) (mv s) = some ((lk A s).map .int) := by
  show (keysD ((ni s).map .int)).map (lk (emb A)) = _
  rw [keysD_mv, Option.map_some, lk_emb]
theorem put_emb {A : FS} (h : A.length < 16777216) (s : Sh) (v : Int) : putSl (.ownT (emb A)) (mv s) (.int v) = some (.ownT (emb (pk A s v))) := by
  show (if decide ((emb A).length < sizeLine) then (keysD ((ni s).map .int)).map fun k => Sl.ownT (pk (emb A) k (.int v)) else none) = _
  rw [emb_len, sizeLine_eq, decide_eq_true h, if_pos rfl, keysD_mv, Option.map_some, pk_emb]
theorem pair_emb (A : FS) : (emb A).map pairD = A.map fun p => .tup [mv p.1, .int p.2] := by
  rw [emb, List.map_map]
  apply List.map_congr_left
  intro p _
  show Sw.D.tup [.tup ((kn p.1).map dOfK), .int p.2] = _
  rw [kn_d]
theorem keys_emb (A : FS) : ((emb A).map fun p => Sw.D.tup (p.1.map dOfK)) = A.map fun p => mv p.1 := by
  rw [emb, List.map_map]
  apply List.map_congr_left
  intro p _
  show Sw.D.tup ((kn p.1).map dOfK) = _
  rw [kn_d]
end Sw

/-! Sw, part f: t * 1, t * 0, t a tuple. -/
namespace Sw
open PySem PySem.Spec PyProof.Rows L2
variable [Tbs]
theorem mul_one (l : Addr) (items : Array Value) (n : Nat) (sl : Array (Option Value)) (dd : Option Addr) (u : Tok) :
    Meets (Builtin.«tuple.__mul__» ⟨[.ref l, .int 1 u], []⟩) (fun _ R s => s.heap.get? l = some { cls := .type "tuple", dict := dd, data := .seq items n, slots := sl } ∧ R (.ok (.ret (Value.ref l))) s) :=
  .of_wp fun prog w A R s h => by
    obtain ⟨hp, g, d, tk, os⟩ := s
    obtain ⟨hl, h⟩ := h
    have f1 := AutoSeq1.idx_int
    wp_walk using wpAny_loadPart' hl
    exact ⟨_, rfl, h⟩
theorem mul_none (l : Addr) (items : Array Value) (n : Nat) (sl : Array (Option Value)) (dd : Option Addr) (u : Tok) (ne : items.isEmpty = false) :
    Meets (Builtin.«tuple.__mul__» ⟨[.ref l, .int 0 u], []⟩) (fun _ R s => s.heap.get? l = some { cls := .type "tuple", dict := dd, data := .seq items n, slots := sl } ∧
      R (.ok (.ret (Value.ref s.heap.objs.size))) { s with heap := s.heap.push { cls := Value.type "tuple", data := Data.seq #[] }, toks := s.toks }) :=
  .of_wp fun prog w A R s h => by
    obtain ⟨hp, g, d, tk, os⟩ := s
    obtain ⟨hl, h⟩ := h
    have f1 := AutoSeq1.idx_int
    wp_walk using wpAny_loadPart' hl
    repeat (first
      | (refine wpAny_ite_false (decide_eq_false (by rw [ne]; simp)) ?_; wp_walk using wpAny_loadPart' hl)
      | (refine wpAny_ite_true (decide_eq_true (by simp)) ?_; wp_walk using wpAny_loadPart' hl))
    exact ⟨_, rfl, h⟩
/-- t * 1 is t, t * 0 is () -/
def rRep01 (K : PySem.W.Frag) : R2 := fun x y H Q => ∃ l xs, x = .ref l ∧ SqT K H l xs ∧ xs ≠ [] ∧ ((y = .int 1 ∧ Q (.ref l) H) ∨ (y = .int 0 ∧ ∀ p, H p = none → Q (.ref p) (upd H p (.tup []))))
theorem op_rep01 {X : Cx} : OpR X (binaryOp .Mult) (rRep01 X.K) := by
  intro pins s σ H x y v u Q I rx ry h
  obtain ⟨l, xs, rfl, hT, hne, h⟩ := h
  cases rx
  obtain ⟨its, r, ⟨⟨cls, dd, data, sl⟩, ho, hc, n, hd⟩, hs⟩ := I.tuple hT
  simp only at hc hd
  subst hc hd
  have hi : its.toArray.isEmpty = false := by
    cases its with
    | nil => exact absurd (List.eq_nil_of_length_eq_zero r.length) hne
    | cons a b => rfl
  rcases h with ⟨rfl, q⟩ | ⟨rfl, q⟩
  · obtain ⟨t, rfl⟩ := ry
    refine wpAny_binaryOp_repeat_ref (T := "tuple") (U := "int") (by decide) ⟨_, ho, rfl⟩ (fun s' => typeIs_int s' 1 t) noFill_tuple_mul F.fills_int_mul F.slot_int_rmul repeat_tuple F.slot_int_index.lookup
      (call_meets F.slot_int_rmul (typeIs_int s 1 t) F.entry_int_rmul (F.args_int_rmul_2 _ _) (int_rmul_tuple 1 t l its.toArray n dd sl)
        ⟨ho, rfl, ⟨_, ho, rfl⟩, call_meets F.slot_tuple_mul ⟨_, ho, rfl⟩ F.entry_tuple_mul (F.args_tuple_mul_2 _ _) (mul_one l its.toArray n sl dd t) ⟨ho, ?_⟩⟩)
    exact ⟨.ref l, H, I, rfl, q⟩
  · obtain ⟨t, rfl⟩ := ry
    refine wpAny_binaryOp_repeat_ref (T := "tuple") (U := "int") (by decide) ⟨_, ho, rfl⟩ (fun s' => typeIs_int s' 0 t) noFill_tuple_mul F.fills_int_mul F.slot_int_rmul repeat_tuple F.slot_int_index.lookup
      (call_meets F.slot_int_rmul (typeIs_int s 0 t) F.entry_int_rmul (F.args_int_rmul_2 _ _) (int_rmul_tuple 0 t l its.toArray n dd sl)
        ⟨ho, rfl, ⟨_, ho, rfl⟩, call_meets F.slot_tuple_mul ⟨_, ho, rfl⟩ F.entry_tuple_mul (F.args_tuple_mul_2 _ _) (mul_none l its.toArray n sl dd t hi) ⟨ho, ?_⟩⟩)
    refine ⟨.ref s.heap.objs.size, _, I.laid (t' := s.toks) (o := .tup []) (fun b ob q => Heap.get?_push_of_some _ q) (Nat.le_refl _) ?_, rfl, q _ (I.hok.fresh (Nat.le_refl _))⟩
    exact ⟨Nat.zero_le _, [], .nil, IsTup.new _ _⟩
section
variable {C : Cn}
def rep01 : D → D → Option D
  | .tup (x :: xs), .int k => if k = 1 then some (.tup (x :: xs)) else if k = 0 then some (.tup []) else none
  | _, _ => none
theorem o_rep01 : OpD C (binaryOp .Mult) rep01 := fun X E ok =>
  ⟨_, op_rep01, fun W h x y v u d Q rh b1 b2 e k => by
    cases x with
    | tup zs => cases y with
      | int n => cases zs with
        | nil => cases e
        | cons z zs =>
          obtain ⟨a, vs, rfl, e1, r1, q1⟩ := b1.tup
          obtain rfl := b2.int
          have r1' := r1
          rw [Reps] at r1'
          obtain ⟨w, ws, ew, _⟩ := r1'
          have e2 := e1
          rw [← ok.K] at e2
          have e : (if n = 1 then some (Sw.D.tup (z :: zs)) else if n = 0 then some (.tup []) else none) = some d := e
          refine ⟨a, vs, rfl, e2, fun z => (by rw [z] at ew; cases ew), ?_⟩
          split at e
          · rename_i h1
            subst h1
            cases e
            refine .inl ⟨rfl, ?_⟩
            exact k W _ (.refl _) rh q1
          · split at e
            · rename_i h0
              subst h0
              cases e
              refine .inr ⟨rfl, fun p np => ?_⟩
              obtain ⟨W2, eH, l, rh', nn⟩ := new_tup np rh (xs := []) (vs := []) (by rw [Reps])
              rw [← eH]
              exact k _ _ l rh' nn
            · cases e
      | _ => cases zs <;> cases e
    | _ => cases e⟩
def mulE (x y : D) : Option D := (mulD x y).or (rep01 x y)
theorem o_mulE : OpD C (binaryOp .Mult) mulE := o_mulD.or o_rep01
end
open Ch
/-! ### dicts of shapes that are added to -/
theorem ap_dputS (i : Nat) (fe fe2 : DE) (τ : List Sl) (h : HS) : dputS i fe fe2 τ h = RS.ofR (fe2 τ h) τ (fun d h1 => match τ[i]? with
  | some s => if s.isOwn then RS.ofR (fe τ h1) τ fun k h2 => match putSl s k d with
    | some s' => .nx (τ.set i s') h2
    | none => .bad
    else .bad
  | none => .bad) := id rfl
theorem ap_dGetR' (a b c : DE) (τ : List Sl) (h : HS) : dGetR' a b c τ h = ((a τ h).bind fun x h1 => if isDk x then (b τ h1).bind fun y h2 => (c τ h2).bind fun z h3 => match dGetO x y with
  | some (some d) => .ok d h3
  | some none => .ok z h3
  | none => .bad
  else .bad) := id rfl
theorem dget_emb {τ : List Sl} {h : HS} {fa fb : DE} {A : FS} {s : Sh} (h1 : fa τ h = .ok (.dT (emb A)) h) (h2 : fb τ h = .ok (mv s) h) : dGetR' fa fb (kD (.int 0)) τ h = .ok (.int (Ch.get A s)) h := by
  rw [ap_dGetR', h1, rb_ok, if_pos (show isDk (.dT (emb A)) = true from rfl), h2, rb_ok, ap_kD, rb_ok, dGet_emb, Ch.get]
  cases lk A s <;> rfl
theorem dput_add {τ : List Sl} {h : HS} {i j : Nat} {fe : DE} {acc : FS} {s : Sh} {c : Int} (h1 : τ[i]? = some (.ownT (emb acc))) (h2 : τ[j]? = some (.val (mv s))) (e : fe τ h = .ok (.int c) h) (z : acc.length < 16777216) :
    dputS i (nS j) (res2 addD (dGetR' (nB i) (nS j) (kD (.int 0))) fe) τ h = .nx (τ.set i (.ownT (emb (addTo acc s c)))) h := by
  have e1 : nS j τ h = .ok (mv s) h := by
    show getS τ j h = _
    unfold getS
    rw [h2]
  have e0 : nB i τ h = .ok (.dT (emb acc)) h := by
    show getB τ i h = _
    unfold getB
    rw [h1]
  have e2 := dget_emb (fa := nB i) (fb := nS j) e0 e1
  have e3 : res2 addD (dGetR' (nB i) (nS j) (kD (.int 0))) fe τ h = .ok (.int (Ch.get acc s + c)) h := by
    rw [ap_res2, e2, rb_ok, e, rb_ok, ap_addD]
    rfl
  rw [ap_dputS, e3, ro_ok, h1]
  simp only
  rw [if_pos (show (Sl.ownT (emb acc)).isOwn = true from rfl), e1, ro_ok, put_emb z]
  rfl
/-- frames that agree but at some slots -/
structure Agr (ks : List Nat) (τ τ' : List Sl) : Prop where
  len : τ'.length = τ.length
  get : ∀ k, k ∉ ks → τ'[k]? = τ[k]?
theorem Agr.refl (ks : List Nat) (τ : List Sl) : Agr ks τ τ := ⟨rfl, fun _ _ => rfl⟩
theorem Agr.trans {ks : List Nat} {τ τ' τ2 : List Sl} (a : Agr ks τ τ') (b : Agr ks τ' τ2) : Agr ks τ τ2 := ⟨b.len.trans a.len, fun k h => (b.get k h).trans (a.get k h)⟩
theorem Agr.set {ks : List Nat} {τ τ' : List Sl} (a : Agr ks τ τ') {k : Nat} (h : k ∈ ks) (s : Sl) : Agr ks τ (τ'.set k s) :=
  ⟨by rw [List.length_set]; exact a.len, fun j hj => by rw [List.getElem?_set_ne (fun (e : k = j) => hj (by rw [← e]; exact h))]; exact a.get j hj⟩
theorem Agr.weak {ks ks' : List Nat} {τ τ' : List Sl} (a : Agr ks τ τ') (h : ∀ k ∈ ks, k ∈ ks') : Agr ks' τ τ' := ⟨a.len, fun k z => a.get k fun m => z (h k m)⟩
def shD (p : Sh × Int) : D := .tup [mv p.1, .int p.2]
theorem gT2 (j1 j2 : Nat) (p : Sh × Int) (τ : List Sl) : gT (gConsT (gN j1) (gConsT (gN j2) gNilT)) (shD p) τ = some ((τ.set j1 (.val (mv p.1))).set j2 (.val (.int p.2))) := rfl
theorem set_get {τ : List Sl} {k : Nat} {s : Sl} (h : k < τ.length) : (τ.set k s)[k]? = some s := List.getElem?_set_self h
theorem set_ne {τ : List Sl} {k j : Nat} {s : Sl} (h : k ≠ j) : (τ.set k s)[j]? = τ[j]? := List.getElem?_set_ne h
theorem getS_of {τ : List Sl} {k : Nat} {d : D} {h : HS} (e : τ[k]? = some (.val d)) : nS k τ h = .ok d h := by
  show getS τ k h = _
  unfold getS
  rw [e]
theorem getB_own {τ : List Sl} {k : Nat} {kvs : List (List Key × D)} {h : HS} (e : τ[k]? = some (.ownT kvs)) : nB k τ h = .ok (.dT kvs) h := by
  show getB τ k h = _
  unfold getB
  rw [e]
theorem len_of {τ : List Sl} {k : Nat} {s : Sl} (e : τ[k]? = some s) : k < τ.length := (List.getElem?_eq_some_iff.mp e).1
theorem sign_mul {a b : Int} (h : a = 1 ∨ a = -1) : mulD (.int a) (.int b) = some (.int (a * b)) := by
  rw [ap_mulD, if_pos]
  rcases h with h | h <;> rw [h] <;> exact mulOk_l (by decide) (by decide)
theorem for_cons {g : GT} {b : DS} {x : D} {r : List D} {τ τ1 τ2 : List Sl} {h h2 : HS} (e : g x τ = some τ1) (e2 : b τ1 h = .nx τ2 h2) : forS g b (x :: r) τ h = forS g b r τ2 h2 := by
  rw [forS, e]
  simp only [e2]
/-- later[made] = later.get(made, 0) + sign * number, for all made, sign -/
theorem add_loop {i j1 j2 : Nat} {fn : DE} {τ : List Sl} {h : HS} {n : Int} {M : List Sh} (hM : M.length < 16777215) (d1 : i ≠ j1) (d2 : i ≠ j2) (d3 : j1 ≠ j2) (l1 : j1 < τ.length) (l2 : j2 < τ.length)
    (hn : ∀ τ', Agr [i, j1, j2] τ τ' → fn τ' h = .ok (.int n) h) : ∀ (L : FS) (acc : FS) (τ1 : List Sl), Agr [i, j1, j2] τ τ1 → τ1[i]? = some (.ownT (emb acc)) → (ks acc).Nodup → (∀ s ∈ ks acc, s ∈ M) → (∀ q ∈ L, q.1 ∈ M ∧ (q.2 = 1 ∨ q.2 = -1)) →
    ∃ τ2, forS (gT (gConsT (gN j1) (gConsT (gN j2) gNilT))) (dputS i (nS j1) (res2 addD (dGetR' (nB i) (nS j1) (kD (.int 0))) (res2 mulD (nS j2) fn))) (L.map shD) τ1 h = .nx τ2 h ∧ Agr [i, j1, j2] τ τ2 ∧ τ2[i]? = some (.ownT (emb (addAll acc n L)))
  | [], acc, τ1, ag, e, nd, hk, hL => ⟨τ1, rfl, ag, e⟩
  | q :: L, acc, τ1, ag, e, nd, hk, hL => by
    obtain ⟨hq, hs⟩ := hL q List.mem_cons_self
    let τ2 := (τ1.set j1 (.val (mv q.1))).set j2 (.val (.int q.2))
    have g1 : τ2[j1]? = some (.val (mv q.1)) := by
      show ((τ1.set j1 _).set j2 _)[j1]? = _
      rw [set_ne (Ne.symm d3), set_get (by rw [ag.len]; exact l1)]
    have g2 : τ2[j2]? = some (.val (.int q.2)) := set_get (by rw [List.length_set, ag.len]; exact l2)
    have g0 : τ2[i]? = some (.ownT (emb acc)) := by
      show ((τ1.set j1 _).set j2 _)[i]? = _
      rw [set_ne (Ne.symm d2), set_ne (Ne.symm d1), e]
    have ag2 : Agr [i, j1, j2] τ τ2 := (ag.set (by simp) _).set (by simp) _
    have em : res2 mulD (nS j2) fn τ2 h = .ok (.int (q.2 * n)) h := by
      rw [ap_res2, getS_of g2, rb_ok, hn τ2 ag2, rb_ok, sign_mul hs]
      rfl
    have z : acc.length < 16777216 := by
      have := Ch.nodup_len nd hk
      unfold ks at this
      rw [List.length_map] at this
      omega
    have st := dput_add g0 g1 em z
    have nd' : (ks (addTo acc q.1 (q.2 * n))).Nodup := Ch.nd_pk nd _ _
    have hk' : ∀ s ∈ ks (addTo acc q.1 (q.2 * n)), s ∈ M := fun s m => by
      rw [addTo, Ch.ks_pk] at m
      split at m
      · exact hk s m
      · rcases List.mem_append.mp m with m | m
        · exact hk s m
        · rw [List.mem_singleton.mp m]; exact hq
    obtain ⟨τ3, e3, a3, g3⟩ := add_loop hM d1 d2 d3 l1 l2 hn L (addTo acc q.1 (q.2 * n)) (τ2.set i (.ownT (emb (addTo acc q.1 (q.2 * n))))) (ag2.set (by simp) _) (set_get (by rw [ag2.len, ← ag.len]; exact len_of e)) nd' hk' fun p hp => hL p (List.mem_cons_of_mem _ hp)
    refine ⟨τ3, ?_, a3, g3⟩
    rw [List.map_cons, for_cons (gT2 j1 j2 q τ1) st]
    exact e3
/-- one step: for shape, number in found.items(): for made, sign in call: .. -/
theorem step_items {i ix iy j1 j2 : Nat} {ca : DE} {τ : List Sl} {h : HS} {M : List Sh} {R : Sh → FS} (hM : M.length < 16777215) (nd : [i, ix, iy, j1, j2].Nodup) (lx : ix < τ.length) (ly : iy < τ.length) (l1 : j1 < τ.length) (l2 : j2 < τ.length) {A : FS}
    (hc : ∀ p ∈ A, ∀ τ', Agr [i, ix, iy, j1, j2] τ τ' → τ'[ix]? = some (.val (mv p.1)) → ca τ' h = .ok (.lst ((R p.1).map shD)) h) (hR : ∀ p ∈ A, ∀ q ∈ R p.1, q.1 ∈ M ∧ (q.2 = 1 ∨ q.2 = -1)) :
    ∀ (rest done : FS) (acc : FS) (τ1 : List Sl), (∀ p ∈ rest, p ∈ A) → Agr [i, ix, iy, j1, j2] τ τ1 → τ1[i]? = some (.ownT (emb acc)) → (ks acc).Nodup → (∀ s ∈ ks acc, s ∈ M) →
    ∃ τ2, forS (gT (gConsT (gN ix) (gConsT (gN iy) gNilT))) (forR (seqR ca) (gT (gConsT (gN j1) (gConsT (gN j2) gNilT))) (dputS i (nS j1) (res2 addD (dGetR' (nB i) (nS j1) (kD (.int 0))) (res2 mulD (nS j2) (nS iy))))) (rest.map shD) τ1 h = .nx τ2 h ∧
      Agr [i, ix, iy, j1, j2] τ τ2 ∧ τ2[i]? = some (.ownT (emb (rest.foldl (fun acc p => addAll acc p.2 (R p.1)) acc)))
  | [], done, acc, τ1, hr, ag, e, nd', hk => ⟨τ1, rfl, ag, e⟩
  | p :: rest, done, acc, τ1, hr, ag, e, nd', hk => by
    simp only [List.nodup_cons, List.mem_cons, List.not_mem_nil, or_false, not_or] at nd
    obtain ⟨⟨n1, n2, n3, n4⟩, ⟨n5, n6, n7⟩, ⟨n8, n9⟩, n10, _⟩ := nd
    have hp := hr p List.mem_cons_self
    let τ2 := (τ1.set ix (.val (mv p.1))).set iy (.val (.int p.2))
    have gx : τ2[ix]? = some (.val (mv p.1)) := by
      show ((τ1.set ix _).set iy _)[ix]? = _
      rw [set_ne (Ne.symm n5), set_get (by rw [ag.len]; exact lx)]
    have gy : τ2[iy]? = some (.val (.int p.2)) := set_get (by rw [List.length_set, ag.len]; exact ly)
    have g0 : τ2[i]? = some (.ownT (emb acc)) := by
      show ((τ1.set ix _).set iy _)[i]? = _
      rw [set_ne (Ne.symm n2), set_ne (Ne.symm n1), e]
    have ag2 : Agr [i, ix, iy, j1, j2] τ τ2 := (ag.set (by simp) _).set (by simp) _
    have ec := hc p hp τ2 ag2 gx
    obtain ⟨τ3, e3, a3, g3⟩ := add_loop (i := i) (j1 := j1) (j2 := j2) (fn := nS iy) (τ := τ2) (h := h) (n := p.2) (M := M) hM n3 n4 n10 (by rw [ag2.len]; exact l1) (by rw [ag2.len]; exact l2)
      (fun τ' a => getS_of (by rw [a.get iy (by simp [n8, n9, Ne.symm n2]), gy])) (R p.1) acc τ2 (.refl _ _) g0 nd' hk (hR p hp)
    obtain ⟨m1, m2, m3⟩ := Ch.addAll_ok p.2 (R p.1) acc nd'
    obtain ⟨τ4, e4, a4, g4⟩ := step_items hM (by simp [n1, n2, n3, n4, n5, n6, n7, n8, n9, n10]) lx ly l1 l2 hc hR rest (done ++ [p]) (addAll acc p.2 (R p.1)) τ3 (fun q hq => hr q (List.mem_cons_of_mem _ hq)) (ag2.trans (a3.weak (by simp))) g3 m1 fun s hs => by
      rcases m3 s hs with hs | hs
      · exact hk s hs
      · obtain ⟨c, hc'⟩ := ks_mem hs
        exact (hR p hp _ hc').1
    refine ⟨τ4, ?_, a4, g4⟩
    have : forR (seqR ca) (gT (gConsT (gN j1) (gConsT (gN j2) gNilT))) (dputS i (nS j1) (res2 addD (dGetR' (nB i) (nS j1) (kD (.int 0))) (res2 mulD (nS j2) (nS iy)))) τ2 h = .nx τ3 h := by
      refine for_of (h' := h) ?_ e3
      rw [ap_seqR, ec, rb_ok]
    rw [List.map_cons, for_cons (gT2 ix iy p τ1) this]
    exact e4
/-- later[made] = later.get(made, 0) + number, for all made -/
theorem add_loop1 {i j1 : Nat} {fn : DE} {τ : List Sl} {h : HS} {n : Int} {M : List Sh} (hM : M.length < 16777215) (d1 : i ≠ j1) (l1 : j1 < τ.length)
    (hn : ∀ τ', Agr [i, j1] τ τ' → fn τ' h = .ok (.int n) h) : ∀ (L : FS) (acc : FS) (τ1 : List Sl), Agr [i, j1] τ τ1 → τ1[i]? = some (.ownT (emb acc)) → (ks acc).Nodup → (∀ s ∈ ks acc, s ∈ M) → (∀ q ∈ L, q.1 ∈ M ∧ q.2 = 1) →
    ∃ τ2, forS (gN j1) (dputS i (nS j1) (res2 addD (dGetR' (nB i) (nS j1) (kD (.int 0))) fn)) (L.map fun q => mv q.1) τ1 h = .nx τ2 h ∧ Agr [i, j1] τ τ2 ∧ τ2[i]? = some (.ownT (emb (addAll acc n L)))
  | [], acc, τ1, ag, e, nd, hk, hL => ⟨τ1, rfl, ag, e⟩
  | q :: L, acc, τ1, ag, e, nd, hk, hL => by
    obtain ⟨hq, hs⟩ := hL q List.mem_cons_self
    let τ2 := τ1.set j1 (.val (mv q.1))
    have g1 : τ2[j1]? = some (.val (mv q.1)) := set_get (by rw [ag.len]; exact l1)
    have g0 : τ2[i]? = some (.ownT (emb acc)) := by
      show (τ1.set j1 _)[i]? = _
      rw [set_ne (Ne.symm d1), e]
    have ag2 : Agr [i, j1] τ τ2 := ag.set (by simp) _
    have em : fn τ2 h = .ok (.int (q.2 * n)) h := by rw [hn τ2 ag2, hs, Int.one_mul]
    have z : acc.length < 16777216 := by
      have := Ch.nodup_len nd hk
      unfold ks at this
      rw [List.length_map] at this
      omega
    have st := dput_add g0 g1 em z
    have nd' : (ks (addTo acc q.1 (q.2 * n))).Nodup := Ch.nd_pk nd _ _
    have hk' : ∀ s ∈ ks (addTo acc q.1 (q.2 * n)), s ∈ M := fun s m => by
      rw [addTo, Ch.ks_pk] at m
      split at m
      · exact hk s m
      · rcases List.mem_append.mp m with m | m
        · exact hk s m
        · rw [List.mem_singleton.mp m]; exact hq
    obtain ⟨τ3, e3, a3, g3⟩ := add_loop1 hM d1 l1 hn L (addTo acc q.1 (q.2 * n)) (τ2.set i (.ownT (emb (addTo acc q.1 (q.2 * n))))) (ag2.set (by simp) _) (set_get (by rw [ag2.len, ← ag.len]; exact len_of e)) nd' hk' fun p hp => hL p (List.mem_cons_of_mem _ hp)
    refine ⟨τ3, ?_, a3, g3⟩
    rw [List.map_cons, for_cons (show gN j1 (mv q.1) τ1 = some τ2 from rfl) st]
    exact e3
/-- a step over all entries of A -/
theorem step_gen {i : Nat} {g : GT} {body : DS} {enc : Sh × Int → D} {sl : List Nat} {τ : List Sl} {h : HS} {M : List Sh} {R : Sh → FS} {A : FS}
    (hb : ∀ p ∈ A, ∀ τ1 acc, Agr sl τ τ1 → τ1[i]? = some (.ownT (emb acc)) → (ks acc).Nodup → (∀ s ∈ ks acc, s ∈ M) → ∃ τ2 τ3, g (enc p) τ1 = some τ2 ∧ body τ2 h = .nx τ3 h ∧ Agr sl τ τ3 ∧ τ3[i]? = some (.ownT (emb (addAll acc p.2 (R p.1)))))
    (hR : ∀ p ∈ A, ∀ q ∈ R p.1, q.1 ∈ M) : ∀ (rest : FS) (acc : FS) (τ1 : List Sl), (∀ p ∈ rest, p ∈ A) → Agr sl τ τ1 → τ1[i]? = some (.ownT (emb acc)) → (ks acc).Nodup → (∀ s ∈ ks acc, s ∈ M) →
    ∃ τ2, forS g body (rest.map enc) τ1 h = .nx τ2 h ∧ Agr sl τ τ2 ∧ τ2[i]? = some (.ownT (emb (rest.foldl (fun acc p => addAll acc p.2 (R p.1)) acc)))
  | [], acc, τ1, hr, ag, e, nd', hk => ⟨τ1, rfl, ag, e⟩
  | p :: rest, acc, τ1, hr, ag, e, nd', hk => by
    have hp := hr p List.mem_cons_self
    obtain ⟨τ2, τ3, e1, e2, a3, g3⟩ := hb p hp τ1 acc ag e nd' hk
    obtain ⟨m1, m2, m3⟩ := Ch.addAll_ok p.2 (R p.1) acc nd'
    obtain ⟨τ4, e4, a4, g4⟩ := step_gen hb hR rest (addAll acc p.2 (R p.1)) τ3 (fun q hq => hr q (List.mem_cons_of_mem _ hq)) a3 g3 m1 fun s hs => by
      rcases m3 s hs with hs | hs
      · exact hk s hs
      · obtain ⟨c, hc'⟩ := ks_mem hs
        exact hR p hp _ hc'
    refine ⟨τ4, ?_, a4, g4⟩
    rw [List.map_cons, for_cons e1 e2]
    exact e4
theorem dAt_emb {τ : List Sl} {h : HS} {fa fb : DE} {A : FS} {s : Sh} {c : Int} (nd : (ks A).Nodup) (m : (s, c) ∈ A) (h1 : fa τ h = .ok (.dT (emb A)) h) (h2 : fb τ h = .ok (mv s) h) : res2 dAt fa fb τ h = .ok (.int c) h := by
  rw [ap_res2, h1, rb_ok, h2, rb_ok, dAt, dGet_emb, (Ch.lk_mem nd).mpr m]
  rfl
theorem pairsTD_emb : ∀ A : FS, pairsTD ((emb A).map Sw.pairD) = some (emb A)
  | [] => rfl
  | p :: A => by
    have ih := pairsTD_emb A
    rw [pair_emb] at ih ⊢
    rw [List.map_cons, pairsTD]
    simp only [keysD_mv]
    rw [ih]
    rfl
theorem merge_nd : ∀ (B A : FS), (ks (A ++ B)).Nodup → mergeD (emb A) (emb B) = emb (A ++ B)
  | [], A, _ => by rw [List.append_nil]; rfl
  | p :: B, A, nd => by
    have hn : p.1 ∉ ks A := by
      rw [ks, List.map_append, List.map_cons, List.nodup_append] at nd
      intro z
      exact nd.2.2 p.1 z p.1 List.mem_cons_self rfl
    have e1 : mergeD (emb A) (emb (p :: B)) = mergeD (pk (emb A) (kn p.1) (.int p.2)) (emb B) := rfl
    rw [e1, pk_emb, Ch.pk_new hn, merge_nd B (A ++ [(p.1, p.2)]) (by rw [List.append_assoc]; exact nd), List.append_assoc]
    rfl
theorem copy_emb {A : FS} (nd : (ks A).Nodup) : dictPG [.lst ((emb A).map Sw.pairD)] = some (.dT (emb A)) := by
  show (pairsTD ((emb A).map Sw.pairD)).map (fun kvs => Sw.D.dT (mergeD [] kvs)) = _
  rw [pairsTD_emb, Option.map_some]
  have := merge_nd A [] nd
  rw [List.nil_append] at this
  show some (Sw.D.dT (mergeD (emb []) (emb A))) = _
  rw [this]
end Sw

/-! Sw, part g: a, b = x, y where a name is met in a block of its own: the pair is made, and forgotten. -/
namespace Sw
open PySem PySem.Spec PyProof.Rows L2
variable [Tbs]
theorem ps_parC {X : Cx} {i j : Nat} {x y : Str} {a b : Expr} {ta : TA} {px py pt pos : Pos} {kt k2 : Nat} {pt2 : Pos} (calm : X.calm = true) (p1 : PG X (.Name x px) (gName i)) (p2 : PG X (.Name y py) (gName j)) (ha : PA X [a, b] ta)
    (hs : swapsWithSole [.Tuple [.Name x px, .Name y py] kt pt] (.Tuple [a, b] k2 pt2) pos.line X.env = pure false) (hw : swappedStores [.Tuple [.Name x px, .Name y py] kt pt] (.Tuple [a, b] k2 pt2) X.env = pure none)
    (h1 : (assignEach [.Tuple [.Name x px, .Name y py] kt pt] X.env).map (·.2) = [assign (.Tuple [.Name x px, .Name y py] kt pt) X.env]) :
    PS X (.Assign [.Tuple [.Name x px, .Name y py] kt pt] (.Tuple [a, b] k2 pt2) pos) (tPar i j ta) := by
  refine ⟨fun pins s σ H D I h => ?_⟩
  refine wpAny_Assign_stores (wpAny_Tuple_spliced (thn (ha.run pt2 pins s σ H _ I h) fun us s1 ⟨vs, H1, I1, r1, q1⟩ => ?_)) hs hw
  obtain ⟨v, w, rfl, q1⟩ := q1
  obtain ⟨u1, u2, rfl, rv, rw'⟩ : ∃ u1 u2, us = [u1, u2] ∧ RelV v u1 ∧ RelV w u2 := by
    cases r1 with
    | cons p q => cases q with
      | cons p' q' => cases q'; exact ⟨_, _, rfl, p, p'⟩
  refine ⟨by show 2 ≤ sizeLine; decide, ?_⟩
  rw [h1]
  refine wpAny_mono (Q := fun _ s2 => ∃ σ2 H2, Inv X pins σ2 H2 s2 ∧ D.nx σ2 H2) ?_ (fun _ s2 q => q) fun _ _ e => e
  have I2 : Inv X pins σ H1 { s1 with heap := s1.heap.push { cls := .type "tuple", data := .seq [u1, u2].toArray } } := I1.kept (t' := s1.toks) fun b o e => Heap.get?_push_of_some _ e
  refine assign_Tuple_tuple (I.ok.hd calm) (IsTup.new s1.heap _) rfl rfl fun h' hx' => ?_
  have I3 := I2.kept (h' := h') (t' := s1.toks) fun b o e => hx' b o (Nat.ne_of_lt (Heap.lt_size e)) e
  exact (pgs_cons p1 (pgs_cons p2 pgs_nil rfl) rfl).run pins _ σ H1 [v, w] _ _ I3 (.cons rv (.cons rw' .nil)) ⟨v, _, rfl, w, _, rfl, rfl, q1⟩
section
variable {C : Cn} {a b : Expr} {x y : Str} {i j : Nat} {px py pt pt2 pos : Pos} {kt k2 : Nat} {fs : List Sl → HS → Res (List Sl)}
theorem den_par2C (hi : stB C.N C.sc C.fn x i = true) (hj : stB C.N C.sc C.fn y j = true) (hij : i ≠ j) (ha : DenM C [a, b] fs)
    (hw : ∀ env, env.scope = C.sc → swappedStores [.Tuple [.Name x px, .Name y py] kt pt] (.Tuple [a, b] k2 pt2) env = pure none)
    (hs : ∀ env, swapsWithSole [.Tuple [.Name x px, .Name y py] kt pt] (.Tuple [a, b] k2 pt2) pos.line env = pure false)
    (h1 : ∀ env, (assignEach [.Tuple [.Name x px, .Name y py] kt pt] env).map (·.2) = [assign (.Tuple [.Name x px, .Name y py] kt pt) env]) :
    DenS C (.Assign [.Tuple [.Name x px, .Name y py] kt pt] (.Tuple [a, b] k2 pt2) pos) (par2 i j fs) := fun X E ok => by
  obtain ⟨t, p, q⟩ := ha X E ok
  obtain ⟨i1, i2, i3⟩ := stB_ok ok hi
  obtain ⟨j1, j2, j3⟩ := stB_ok ok hj
  refine ⟨_, ps_parC ok.calm (pg_name ok.nd i1 i2 i3) (pg_name ok.nd j1 j2 j3) p (hs _) (hw _ ok.scope) (h1 _), fun W0 W τ σ h D l fr rh o => ?_⟩
  refine q W0 W τ σ h _ l fr rh (okS.ex l o fun ss s1 W1 vs l1 rh1 n o1 => ?_)
  match ss with
  | [] => exact o1.elim
  | [_] => exact o1.elim
  | _ :: _ :: _ :: _ => exact o1.elim
  | [s, t] =>
    obtain ⟨v, r1, rfl, n1, n', d⟩ := n
    obtain ⟨u, r2, rfl, n2, e3, _⟩ := n'
    cases (show r2 = [] from e3)
    refine ⟨v, u, rfl, ?_⟩
    refine o1 W1 _ (l.trans l1) (.refl _) (((fr.mono l1).setG i (n1.at_ l rh) fun ho j' x' _ e' o' z => ?_).setG j (n2.at_ l rh) fun ho j' x' hj' e' o' z => ?_) rh1
    · obtain ⟨a, rfl, na⟩ := n1.no ho
      exact SlAt.there (fr.at_ j' x' e') o' z na
    · obtain ⟨a, rfl, na⟩ := n2.no ho
      by_cases hi' : i = j'
      · subst hi'
        by_cases hl : i < τ.length
        · rw [List.getElem?_set_self hl] at e'
          cases e'
          rw [List.getElem?_set_self (by rw [← fr.len]; exact hl)] at z
          cases z
          exact d o' 0 t rfl ho rfl
        · rw [List.getElem?_eq_none (by simpa using hl)] at e'; cases e'
      · rw [List.getElem?_set_ne hi'] at e' z
        exact SlAt.there (fr.at_ j' x' e') o' z na
end
section
variable {C : Cn} {x : Str} {i : Nat} {e : Expr} {fe : DE} {p' pos : Pos}
theorem den_setC (hn : stB C.N C.sc C.fn x i = true) (he : DenE C e fe) (hs : ∀ env, env.scope = C.sc → swapsWith e (some (.Name x p')) pos.line env = pure false) : DenS C (.Assign [.Name x p'] e pos) (setS i fe) := fun X E ok => by
  obtain ⟨t, p, q⟩ := he X E ok
  obtain ⟨h1, h2, h3⟩ := stB_ok ok hn
  refine ⟨_, ps_set ok.nd h1 h2 p (hs _ ok.scope) h3, fun W0 W τ σ h D l fr rh o => ?_⟩
  exact q W0 W τ σ h _ l fr rh (okS.ex l o fun a s W1 b l1 rh1 re o1 => o1 W1 _ (l.trans l1) (.refl _) ((fr.mono l1).set i re) rh1)
end
end Sw

/-! Sw, part h: x.count(y), x a list of ints. -/
namespace Sw
open PySem PySem.Spec PyProof.Rows L2
variable [Tbs]
def isLst : D → Bool
  | .lst _ => true
  | _ => false
def countV (x y : D) : Option D := match x, y with
  | .lst xs, .int k => (intsD xs).map fun ns => .int (ns.count k : Nat)
  | _, _ => none
def countR (fa fb : DE) : DE := fun τ h => (fa τ h).bind fun x h1 => if isLst x then (fb τ h1).bind fun y h2 => toRes (countV x y) h2 else .bad
theorem den_count {C : Cn} {a b : Expr} {fa fb : DE} {apos cpos : Pos} (ha : DenB C a fa) (hb : DenE C b fb) (hb0 : ∀ env, attributeBase a "count" env (eval a env) = eval a env) (hl : (apos.endLine == cpos.line) = true)
    (hs : ∀ env, starEach [b] env = (false, eval b env) :: starEach [] env) : DenE C (.Call (.Attribute a "count" apos) [b] [] cpos) (countR fa fb) := fun X E ok => by
  obtain ⟨t, p, q⟩ := ha X E ok
  obtain ⟨t', p', q'⟩ := hb X E ok
  refine ⟨_, pe_bm PySem.F.plainAttrs_list PySem.F.slot_list_count PySem.F.type_list_count mt_lcount p (pa_cons p' pa_nil (hs _)) (hb0 _) (by rw [hs]; rfl) hl (hs _) rfl, fun W0 W τ σ h Q l fr rh o => ?_⟩
  refine q W0 W τ σ h _ l fr rh (okG.bind o fun x h1 W1 v l1 rh1 b1 o1 => ?_)
  by_cases hx : isLst x = true
  · rw [if_pos hx] at o1
    cases x with
    | lst xs =>
      obtain ⟨a, vs, rfl, e1, r1⟩ := b1.lst
      refine ⟨.inl ⟨rfl, vs, .of e1⟩, ?_⟩
      refine q' W0 W1 τ σ h1 _ (l.trans l1) (fr.mono l1) rh1 (okG.bind o1 fun y h2 W2 u l2 rh2 r2 o2 => ?_)
      obtain ⟨d, e, k⟩ := toRes_some o2
      cases y with
      | int n =>
        obtain ⟨ns, en, rfl⟩ := Option.map_eq_some_iff.mp e
        obtain ⟨a', us, ea, e3, r3⟩ := (b1.mono l2).lst
        cases ea
        rw [ints_reps r3 en] at e3
        refine ⟨a, ns, n, rfl, ?_, .of e3, k W2 _ (.refl _) rh2 rep_int⟩
        rw [Rep] at r2
        rw [r2]
      | _ => cases e
    | _ => cases hx
  · rw [if_neg hx] at o1
    exact (show False from o1).elim
end Sw

/-! Sw, part i: == of dicts with tuple keys. -/
namespace Sw
open PySem PySem.Spec PyProof.Rows L2 L2.DX PySem.W
variable [Tbs]
section
variable {prog : Program} {w : World} {K : Type} [DecidableEq K] {knd : HeapKind prog w K} {A : Around} {s : Shared}
/-- what the comparing of the entries of one dict with the other dict answers -/
inductive HitsH (prog : Program) (w : World) (A : Around) (s : Shared) (ys : List (K × Addr × Value)) : List (K × Addr × Value) → Bool → Prop
  | nil : HitsH prog w A s ys [] true
  | miss {k : K} {p : Addr × Value} {r : List (K × Addr × Value)} : (∀ (j : Nat) (q : Addr × Value), ys[j]? ≠ some (k, q)) → HitsH prog w A s ys ((k, p) :: r) false
  | hit {k : K} {p q : Addr × Value} {r : List (K × Addr × Value)} {j : Nat} {e b : Bool} : ys[j]? = some (k, q) → SeqAt.EqP prog w A s p.2 q.2 e → HitsH prog w A s ys r b → HitsH prog w A s ys ((k, p) :: r) (e && b)
theorem HitsH.inv {ys : List (K × Addr × Value)} {k : K} {p : Addr × Value} {r : List (K × Addr × Value)} {b : Bool} (h : HitsH prog w A s ys ((k, p) :: r) b) :
    ((∀ (j : Nat) (q : Addr × Value), ys[j]? ≠ some (k, q)) ∧ b = false) ∨ ∃ (j : Nat) (q : Addr × Value) (e t : Bool), ys[j]? = some (k, q) ∧ SeqAt.EqP prog w A s p.2 q.2 e ∧ HitsH prog w A s ys r t ∧ b = (e && t) := by
  cases h with
  | miss h => exact .inl ⟨h, rfl⟩
  | hit a b c => exact .inr ⟨_, _, _, _, a, b, c, rfl⟩
theorem samePairsH {nm : String} {a b : Addr} {xs ys : List (K × Addr × Value)} {r : Bool} {E : Value → Shared → Prop} {Q : Bool → Shared → Prop} (na : (a == sysModules) = false) (nb : (b == sysModules) = false) (hu : knd.room A)
    (da : s.heap.DictOfH knd a xs) (db : s.heap.DictOfH knd b ys) (hits : xs.length = ys.length → HitsH prog w A s ys xs r) (h : Q (xs.length == ys.length && r) s) :
    wpAny (model prog w) A (Builtin.Dict.samePairs nm a b) Q E s := by
  obtain ⟨oa, es, ep, ho, _, hd, he, hi, hn⟩ := da
  obtain ⟨ob, fs, fp, go, _, gd, ge, gi, gn⟩ := db
  have lx := size_of_entries he
  have ly := size_of_entries ge
  unfold Builtin.Dict.samePairs Builtin.Dict.showsAll
  rw [if_neg (show ¬ (a == sysModules) = true by rw [na]; exact Bool.false_ne_true), if_neg (show ¬ (b == sysModules) = true by rw [nb]; exact Bool.false_ne_true)]
  refine wpAny_bind (wpAny_pure (wpAny_bind (wpAny_pure (wpAny_bind (wpAny_dictEntries ho hd ?_)))))
  dsimp only
  refine wpAny_bind (wpAny_dictEntries go gd ?_)
  by_cases same : es.size = fs.size
  case neg =>
    rw [if_pos (by simpa using same)]
    have z : (xs.length == ys.length) = false := by
      rw [lx, ly] at same
      simpa using same
    rw [z, Bool.false_and] at h
    exact wpAny_bind (wpAny_rule (wpAny_pure h))
  case pos =>
    have z : xs.length = ys.length := by rw [← lx, ← ly]; exact same
    have h1 : Q r s := by simpa [z] using h
    have run := hits z
    rw [if_neg (by rw [same]; simp)]
    refine wpAny_bind (wpAny_dictEpoch ho hd (wpAny_bind ?_))
    rw [Std.Legacy.Range.forIn_eq_forIn_range']
    simp only [Std.Legacy.Range.size, Nat.sub_zero, Nat.add_sub_cancel, Nat.div_one]
    refine wpAny_forIn_list _ (fun rest q s' => s' = s ∧ q = (none, ()) ∧ ∃ i, rest = List.range' i (es.size - i) ∧ i ≤ es.size ∧ HitsH prog w A s ys (xs.drop i) r) _ ?_ ?_ _ _ ⟨rfl, rfl, 0, by simp, Nat.zero_le _, run⟩
    · rintro x rest q s' ⟨rfl, rfl, i, er, ei, pre⟩
      have lt : i < es.size := by
        rcases Nat.lt_or_ge i es.size with y | y
        · exact y
        · rw [Nat.sub_eq_zero_of_le y] at er; simp at er
      obtain ⟨rfl, er2⟩ : x = i ∧ rest = List.range' (i + 1) (es.size - (i + 1)) := by
        have e : es.size - i = (es.size - (i + 1)) + 1 := by omega
        rw [e, List.range'_succ] at er
        injection er with y1 y2
        exact ⟨y1, y2⟩
      have ltx : x < xs.length := by rw [← lx]; exact lt
      obtain ⟨k, p, ekp⟩ : ∃ k p, xs[x] = (k, p) := ⟨_, _, rfl⟩
      have ex : es[x]? = some (entryOfKey knd (k, p)) := by
        rw [entry_at he, List.getElem?_eq_getElem ltx, ekp]; rfl
      have dr : xs.drop x = (k, p) :: xs.drop (x + 1) := by rw [← ekp]; exact List.drop_eq_getElem_cons ltx
      have key : knd.is s'.heap k p.1 := by
        have := hi (xs[x]) (List.getElem_mem ltx)
        rw [ekp] at this
        exact this
      rw [dr] at pre
      refine wpAny_bind (wpAny_dictEntries ho hd ?_)
      rw [ex]
      show wpAny _ _ (holding [Value.ref p.1, p.2] _ >>= _) _ _ _
      refine wpAny_bind (wpAny_holding (wpAny_bind ?_))
      show wpAny _ _ (dictFind b (.ref p.1) (knd.hash k)) _ _ _
      refine wpAny_dictFind_heap hu key go gd ge gi gn (fun none_ => ?_) fun j q ej => ?_
      · rcases pre.inv with ⟨_, e⟩ | ⟨j, q, _, _, ej, _⟩
        · rw [e] at h1
          refine wpAny_pure ?_
          show wpAny _ _ (if (!false) = true then _ else _) _ _ _
          rw [if_pos (by decide)]
          exact wpAny_pure (wpAny_pure h1)
        · exact absurd ej (none_ j q)
      · have fj : fs[j]? = some (entryOfKey knd (k, q)) := by rw [entry_at ge, ej]; rfl
        refine wpAny_bind (wpAny_dictEntries go gd ?_)
        rw [fj]
        rcases pre.inv with ⟨no, _⟩ | ⟨j', q', e, t, ej', heq, hr, er3⟩
        · exact absurd ej (no j q)
        · have eqq : q' = q := by
            have a1 : (ys.map (·.1))[j]? = some k := by rw [List.getElem?_map, ej]; rfl
            have a2 : (ys.map (·.1))[j']? = some k := by rw [List.getElem?_map, ej']; rfl
            obtain ⟨b1, c1⟩ := List.getElem?_eq_some_iff.mp a1
            obtain ⟨b2, c2⟩ := List.getElem?_eq_some_iff.mp a2
            have : j = j' := (List.getElem_inj gn).mp (c1.trans c2.symm)
            subst this
            rw [ej] at ej'
            have := Option.some.inj ej'
            exact (Prod.mk.inj this).2.symm
          subst eqq
          show wpAny _ _ (holding [q'.2] (eqBool p.2 q'.2)) _ _ _
          refine wpAny_holding (heq _ _ ?_)
          cases e with
          | false =>
            rw [er3, Bool.false_and] at h1
            show wpAny _ _ (if (!false) = true then _ else _) _ _ _
            rw [if_pos (by decide)]
            exact wpAny_pure (wpAny_pure h1)
          | true =>
            rw [Bool.true_and] at er3
            rw [← er3] at hr
            show wpAny _ _ (if (!true) = true then _ else _) _ _ _
            rw [if_neg (by decide)]
            refine wpAny_bind (wpAny_dictEpoch ho hd ?_)
            rw [if_neg (by simp)]
            exact wpAny_pure ⟨rfl, rfl, x + 1, er2, lt, hr⟩
    · rintro q s' ⟨rfl, rfl, i, er, ei, pre⟩
      have fin : i = es.size := by
        rcases Nat.lt_or_ge i es.size with y | y
        · have e : es.size - i = (es.size - (i + 1)) + 1 := by omega
          rw [e, List.range'_succ] at er
          cases er
        · omega
      rw [fin, lx, List.drop_length] at pre
      cases pre
      exact wpAny_pure h1
theorem rcH {a b : Addr} {xs ys : List (K × Addr × Value)} {r : Bool} {E Q : Value → Shared → Prop} (na : (a == sysModules) = false) (nb : (b == sysModules) = false) (hu : A.units < cLine) (hk : knd.room A.in1)
    (da : s.heap.DictOfH knd a xs) (db : s.heap.DictOfH knd b ys) (hits : xs.length = ys.length → HitsH prog w A.in1 s ys xs r) (h : Q (.bool (xs.length == ys.length && r)) s) : wpAny (model prog w) A (compareOp .Eq (.ref a) (.ref b)) Q E s := by
  refine wpAny_richCompare_same_room (op := .Eq) da.typeIs db.typeIs PySem.F.slot_dict_eq (wpAny_call_entry PySem.F.slot_dict_eq da.typeIs PySem.F.entry_dict_eq ?_ (PySem.F.args_dict_eq_2 _ _)) hu
  show wpAny _ _ (Builtin.Dict.dictSlotArgs "__eq__" ⟨[.ref a, .ref b], []⟩ >>= _) _ _ s
  unfold Builtin.Dict.dictSlotArgs
  refine wpAny_bind (wpAny_bind (wpAny_notOrdered_dict da.typeIs ?_))
  show wpAny _ _ (pure (Value.ref a, Value.ref b)) _ _ s
  refine wpAny_pure (wpAny_bind (wpAny_isInstance (T := "dict") db.typeIs PySem.F.sub_dict_dict ?_))
  simp only [Bool.not_true, Bool.false_eq_true, if_false]
  refine wpAny_bind (wpAny_pure (wpAny_bind (wpAny_pure (wpAny_bind (samePairsH na nb hk da db hits ?_)))))
  refine wpAny_pure ⟨_, rfl, ?_, ?_⟩
  · exact fun x => nomatch x
  · simpa using h
theorem rnH {a b : Addr} {xs ys : List (K × Addr × Value)} {r : Bool} {E Q : Value → Shared → Prop} (na : (a == sysModules) = false) (nb : (b == sysModules) = false) (hu : A.units < cLine) (hk : knd.room A.in1)
    (da : s.heap.DictOfH knd a xs) (db : s.heap.DictOfH knd b ys) (hits : xs.length = ys.length → HitsH prog w A.in1 s ys xs r) (h : Q (.bool (!(xs.length == ys.length && r))) s) : wpAny (model prog w) A (compareOp .NotEq (.ref a) (.ref b)) Q E s := by
  refine wpAny_richCompare_same_room (op := .NotEq) da.typeIs db.typeIs PySem.F.slot_dict_ne (wpAny_call_entry PySem.F.slot_dict_ne da.typeIs PySem.F.entry_dict_ne ?_ (PySem.F.args_dict_ne_2 _ _)) hu
  show wpAny _ _ (Builtin.Dict.dictSlotArgs "__ne__" ⟨[.ref a, .ref b], []⟩ >>= _) _ _ s
  unfold Builtin.Dict.dictSlotArgs
  refine wpAny_bind (wpAny_bind (wpAny_notOrdered_dict da.typeIs ?_))
  show wpAny _ _ (pure (Value.ref a, Value.ref b)) _ _ s
  refine wpAny_pure (wpAny_bind (wpAny_isInstance (T := "dict") db.typeIs PySem.F.sub_dict_dict ?_))
  simp only [Bool.not_true, Bool.false_eq_true, if_false]
  refine wpAny_bind (wpAny_pure (wpAny_bind (wpAny_pure (wpAny_bind (samePairsH na nb hk da db hits ?_)))))
  refine wpAny_pure ⟨_, rfl, ?_, ?_⟩
  · exact fun x => nomatch x
  · simpa using h
end
/-- == of two tables of data -/
def eqTab (A B : List (List Key × PyData)) : Bool := A.length == B.length && A.all fun p => match lk B p.1 with
  | some q => PyData.eqv p.2 q
  | none => false
section
variable {X : Cx} {pins : List (Addr × Obj)} {σ : L2.St} {H : Hp} {s : Shared}
def EntR (h : Heap) (z : List Key × PyData) (x : List Key × Addr × Value) : Prop := z.1 = x.1 ∧ ∃ as, Reads h x.2.2 z.2 as
theorem entR_of (I : Inv X pins σ H s) : ∀ {T : List (List Key × PyData)} {kvs : List (List Key × V)} {xs : List (List Key × Addr × Value)}, Paired (fun (z : List Key × PyData) (p : List Key × V) => z.1 = p.1 ∧ Dp X.K H p.2 z.2) T kvs → KT H kvs xs → Paired (EntR s.heap) T xs
  | [], [], [], .nil, .nil => .nil
  | _ :: _, _ :: _, _ :: _, .cons a t, .cons b u => .cons ⟨a.1.trans b.1, Dp.reads I _ _ _ a.2 b.2.2⟩ (entR_of I t u)
theorem entR_miss {h : Heap} {k : List Key} : ∀ {T : List (List Key × PyData)} {ys : List (List Key × Addr × Value)}, Paired (EntR h) T ys → lk T k = none → ∀ (j : Nat) (q : Addr × Value), ys[j]? ≠ some (k, q)
  | _, _, .nil, _, j, q, e => by simp at e
  | _, _, .cons (a := z) (b := y) a t, hn, j, q, e => by
    rw [lk] at hn
    split at hn
    · cases hn
    · rename_i ne
      cases j with
      | zero =>
        have e : y = (k, q) := by simpa using e
        exact ne (by rw [a.1, e])
      | succ j => exact entR_miss t hn j q (by simpa using e)
theorem entR_hit {h : Heap} {k : List Key} {d : PyData} : ∀ {T : List (List Key × PyData)} {ys : List (List Key × Addr × Value)}, Paired (EntR h) T ys → lk T k = some d → ∃ (j : Nat) (q : Addr × Value), ys[j]? = some (k, q) ∧ ∃ as, Reads h q.2 d as
  | _, _, .nil, hn => by cases hn
  | _, _, .cons (a := z) (b := y) a t, hn => by
    rw [lk] at hn
    split at hn
    · rename_i e
      cases hn
      obtain ⟨y1, y2⟩ := y
      refine ⟨0, y2, ?_, a.2⟩
      show some (y1, y2) = some (k, y2)
      rw [← e]
      have : z.1 = y1 := a.1
      rw [this]
    · obtain ⟨j, q, e, r⟩ := entR_hit t hn
      exact ⟨j + 1, q, by simpa using e, r⟩
theorem hitsT {A : Around} (hu : A.in1.units + 64 < cLine) {B : List (List Key × PyData)} {ys : List (List Key × Addr × Value)} (rb : Paired (EntR s.heap) B ys) (sb : ∀ p ∈ B, SeqAt.shaped p.2 = true) : ∀ {T : List (List Key × PyData)} {xs : List (List Key × Addr × Value)}, Paired (EntR s.heap) T xs → (∀ p ∈ T, SeqAt.shaped p.2 = true) →
    HitsH X.prog X.w A.in1 s ys xs (T.all fun p => match lk B p.1 with | some q => PyData.eqv p.2 q | none => false)
  | _, _, .nil, _ => .nil
  | _, _, .cons (a := z) (b := x) a t, sa => by
    have ih := hitsT hu rb sb t fun p hp => sa p (List.mem_cons_of_mem _ hp)
    obtain ⟨x1, x2⟩ := x
    have e1 : z.1 = x1 := a.1
    rw [List.all_cons]
    cases el : lk B z.1 with
    | none =>
      rw [Bool.false_and]
      exact .miss (by rw [← e1]; exact entR_miss rb el)
    | some d =>
      obtain ⟨j, q, ej, bs, rq⟩ := entR_hit rb el
      obtain ⟨as, rx⟩ := a.2
      have sd : SeqAt.shaped d = true := by
        have : ∀ {B : List (List Key × PyData)}, (∀ p ∈ B, SeqAt.shaped p.2 = true) → lk B z.1 = some d → SeqAt.shaped d = true := by
          intro B
          induction B with
          | nil => intro _ e; cases e
          | cons p B ih =>
            intro hB e
            rw [lk] at e
            split at e
            · cases e; exact hB p List.mem_cons_self
            · exact ih (fun q hq => hB q (List.mem_cons_of_mem _ hq)) e
        exact this sb el
      refine .hit (j := j) (by rw [← e1]; exact ej) (SeqAt.EqAt.eqP (PySem.W.keq_at (A := A) rx rq (sa z List.mem_cons_self) sd hu)) ih
def rEqT (K : PySem.W.Frag) (neg : Bool) : R2 := fun x y H Q => ∃ a b ks ls A B, x = .ref a ∧ y = .ref b ∧ Rd H a (.dT ks) ∧ Rd H b (.dT ls) ∧ Paired (fun (z : List Key × PyData) (p : List Key × V) => z.1 = p.1 ∧ Dp K H p.2 z.2) A ks ∧ Paired (fun (z : List Key × PyData) (p : List Key × V) => z.1 = p.1 ∧ Dp K H p.2 z.2) B ls ∧
  (∀ p ∈ A, SeqAt.shaped p.2 = true) ∧ (∀ p ∈ B, SeqAt.shaped p.2 = true) ∧ Q (.bl (if neg then !eqTab A B else eqTab A B)) H
theorem paired_len {α β : Type} {F : α → β → Prop} {a : List α} {b : List β} (p : Paired F a b) : a.length = b.length := Paired.length p
theorem op_eqT (hu : X.A.units + 65 < cLine) : OpR X (compareOp .Eq) (rEqT X.K false) := by
  intro pins s σ H x y v u Q I rx ry h
  obtain ⟨a, b, ks, ls, A, B, rfl, rfl, da, db, pa, pb, sa, sb, q⟩ := h
  obtain rfl : v = Value.ref a := rx
  obtain rfl : u = Value.ref b := ry
  obtain ⟨_, na, xs, ra, oa⟩ := dt_rd I.hok da
  obtain ⟨_, nb, ys, rb, ob⟩ := dt_rd I.hok db
  have ea := entR_of I pa ra
  have eb := entR_of I pb rb
  refine rcH na nb (by omega) (tupleKind_room_in1 (by omega)) oa ob (fun _ => hitsT (A := X.A) (by show X.A.units + 1 + 64 < cLine; omega) eb sb ea sa) (fin_bl I q ?_)
  · show eqTab A B = _
    rw [eqTab, ea.length, eb.length]
theorem op_neT (hu : X.A.units + 65 < cLine) : OpR X (compareOp .NotEq) (rEqT X.K true) := by
  intro pins s σ H x y v u Q I rx ry h
  obtain ⟨a, b, ks, ls, A, B, rfl, rfl, da, db, pa, pb, sa, sb, q⟩ := h
  obtain rfl : v = Value.ref a := rx
  obtain rfl : u = Value.ref b := ry
  obtain ⟨_, na, xs, ra, oa⟩ := dt_rd I.hok da
  obtain ⟨_, nb, ys, rb, ob⟩ := dt_rd I.hok db
  have ea := entR_of I pa ra
  have eb := entR_of I pb rb
  refine rnH na nb (by omega) (tupleKind_room_in1 (by omega)) oa ob (fun _ => hitsT (A := X.A) (by show X.A.units + 1 + 64 < cLine; omega) eb sb ea sa) (fin_bl I q ?_)
  · show (!eqTab A B) = _
    rw [eqTab, ea.length, eb.length]
end
section
variable {C : Cn}
def pyVals : List (List Key × D) → Option (List (List Key × PyData))
  | [] => some []
  | (k, d) :: r => match d.py, pyVals r with
    | some p, some ps => some ((k, p) :: ps)
    | _, _ => none
theorem pyVals_dp {K : PySem.W.Frag} {W : Wd} : ∀ {kvs : List (List Key × D)} {ws : List (List Key × V)} {T : List (List Key × PyData)}, RepM K W kvs ws → pyVals kvs = some T → Paired (fun (z : List Key × PyData) (p : List Key × V) => z.1 = p.1 ∧ Dp K W.H p.2 z.2) T ws
  | [], _, _, .nil, e => by cases e; exact .nil
  | (k, d) :: kvs, _, T, .cons (b := q) h t, e => by
    rw [pyVals] at e
    split at e
    · rename_i p ps e1 e2
      cases e
      exact .cons ⟨h.1, Rep.dp d q.2 p h.2 e1⟩ (pyVals_dp t e2)
    · cases e
def eqTD (x y : D) : Option Bool := match x, y with
  | .dT ks, .dT ls => match pyVals ks, pyVals ls with
    | some A, some B => if (A.all fun p => SeqAt.shaped p.2) && (B.all fun p => SeqAt.shaped p.2) then some (eqTab A B) else none
    | _, _ => none
  | _, _ => none
theorem Bor.dTe {K : PySem.W.Frag} {W : Wd} {ks : List (List Key × D)} {v : V} (b : Bor K W (.dT ks) v) : ∃ a ws, v = .ref a ∧ Rd W.H a (.dT ws) ∧ RepM K W ks ws := by
  obtain ⟨a, ws, rfl, rd, r⟩ := b.dT
  exact ⟨a, ws, rfl, rd, repT_m.mp r⟩
def eqDD (x y : D) : Option D := (eqD x y).or ((eqTD x y).map fun b => .bl b)
def neDD (x y : D) : Option D := (neD x y).or ((eqTD x y).map fun b => .bl (!b))
theorem o_eqT : OpD C (compareOp .Eq) (fun x y => (eqTD x y).map fun b => .bl b) := fun X E ok => ⟨_, op_eqT ok.room.u65_, fun W h x y v u d Q rh b1 b2 e k => by
  obtain ⟨b, e1, rfl⟩ := Option.map_eq_some_iff.mp e
  cases x with
  | dT ks => cases y with
    | dT ls =>
      rw [eqTD] at e1
      split at e1
      · rename_i A B eA eB
        split at e1
        · rename_i hs
          cases e1
          rw [Bool.and_eq_true, List.all_eq_true, List.all_eq_true] at hs
          obtain ⟨a, ws, rfl, ra, r1⟩ := b1.dTe
          obtain ⟨a2, ws2, rfl, ra2, r2⟩ := b2.dTe
          exact ⟨a, a2, ws, ws2, A, B, rfl, rfl, ra, ra2, by rw [ok.K]; exact pyVals_dp r1 eA, by rw [ok.K]; exact pyVals_dp r2 eB, hs.1, hs.2, k W _ (.refl W) rh rep_bl⟩
        · cases e1
      · cases e1
    | _ => cases e1
  | _ => cases y <;> cases e1⟩
theorem o_neT : OpD C (compareOp .NotEq) (fun x y => (eqTD x y).map fun b => .bl (!b)) := fun X E ok => ⟨_, op_neT ok.room.u65_, fun W h x y v u d Q rh b1 b2 e k => by
  obtain ⟨b, e1, rfl⟩ := Option.map_eq_some_iff.mp e
  cases x with
  | dT ks => cases y with
    | dT ls =>
      rw [eqTD] at e1
      split at e1
      · rename_i A B eA eB
        split at e1
        · rename_i hs
          cases e1
          rw [Bool.and_eq_true, List.all_eq_true, List.all_eq_true] at hs
          obtain ⟨a, ws, rfl, ra, r1⟩ := b1.dTe
          obtain ⟨a2, ws2, rfl, ra2, r2⟩ := b2.dTe
          exact ⟨a, a2, ws, ws2, A, B, rfl, rfl, ra, ra2, by rw [ok.K]; exact pyVals_dp r1 eA, by rw [ok.K]; exact pyVals_dp r2 eB, hs.1, hs.2, k W _ (.refl W) rh rep_bl⟩
        · cases e1
      · cases e1
    | _ => cases e1
  | _ => cases y <;> cases e1⟩
theorem o_eqDD : OpD C (compareOp .Eq) eqDD := o_eq.or o_eqT
theorem o_neDD : OpD C (compareOp .NotEq) neDD := o_ne.or o_neT
end
/-! ### list(d) -/
theorem vals_keys : ∀ l : List DictEntry, (∀ en ∈ l, ∃ q, en.key = .ref q) → Vals (l.map fun en => match en.key with | .ref q => V.ref q | _ => V.non) (l.map (·.key))
  | [], _ => .nil
  | en :: l, h => by
    obtain ⟨q, hq⟩ := h en List.mem_cons_self
    refine .cons ?_ (vals_keys l fun e he => h e (List.mem_cons_of_mem _ he))
    show L2.RelV (match en.key with | .ref q => V.ref q | _ => V.non) en.key
    rw [hq]
    rfl
def rListK : List V → Hp → VK → Prop := fun vs H Q => ∃ (a : Addr) (kvs : List (List Key × V)), vs = [V.ref a] ∧ Rd H a (.dT kvs) ∧ ∀ us, KeysAt H us kvs → ∀ q, H q = none → Q (.ref q) (upd H q (.lst us))
theorem cr_listK {X : Cx} (hc : X.calm = true) : CallR X (.type "list") rListK := by
  intro pins s σ H vs us' Q I r h
  obtain ⟨a, kvs, rfl, rd, q⟩ := h
  rw [Vals.ref1 r]
  obtain ⟨lo, od, ho, hx, es, ep, hdt, hes, hz, ent⟩ := dT_read I rd
  refine kdl_call (KdlSrc.rawDict (es := es) (ep := ep) lo) (I.ok.hd hc) ⟨od, ho, hx, hdt⟩ (by rw [hes]; exact hz) fun h' tk acc c hk hlst hacc => ?_
  have I1 : Inv X pins σ H { s with heap := h', toks := tk } := I.kept hk
  have hn : H s.heap.objs.size = none := I.hok.fresh (Nat.le_refl _)
  let us : List V := es.toList.map fun en => match en.key with | .ref q => V.ref q | _ => V.non
  have lu : us.length = kvs.length := by simp [us, hes]
  have hks : KeysAt H us kvs := paired_of lu fun i x kv e1 e2 => by
    obtain ⟨en, b, f1, f2, f3, f4⟩ := ent i kv.1 kv.2 e2
    have : us[i]? = some (V.ref b) := by
      show (es.toList.map _)[i]? = _
      rw [List.getElem?_map, Array.getElem?_toList, f1]
      show some (match en.key with | .ref q => V.ref q | _ => V.non) = _
      rw [f2]
    rw [this] at e1
    exact ⟨b, (Option.some.inj e1).symm, f3⟩
  refine ⟨.ref s.heap.objs.size, upd H s.heap.objs.size (.lst us), I1.take (h' := h') (t' := tk) (fun _ _ _ y => y) (I.fpOk (Nat.le_refl _) hn) ⟨by rw [lu]; exact hz, acc.toList, c, ?_, ?_⟩, rfl, q us hks _ hn⟩
  · have e1 : acc.toList = es.toList.map (·.key) := by
      refine List.ext_getElem? fun i => ?_
      rw [List.getElem?_map, Array.getElem?_toList, Array.getElem?_toList]
      rcases Nat.lt_or_ge i es.size with z | z
      · have za : i < acc.size := by rw [hacc.1]; exact z
        obtain ⟨_, hv⟩ := hacc.2 i acc[i] (Array.getElem?_eq_getElem za)
        rw [Array.getElem?_eq_getElem za, Array.getElem?_eq_getElem z, hv]
        rfl
      · rw [Array.getElem?_eq_none (by rw [hacc.1]; exact z), Array.getElem?_eq_none z]
        rfl
    rw [e1]
    refine vals_keys es.toList fun en hen => ?_
    obtain ⟨i, hi⟩ := List.getElem?_of_mem hen
    have hil : i < kvs.length := by rw [← hes]; exact (List.getElem?_eq_some_iff.mp hi).1
    obtain ⟨en', b, f1, f2, _, _⟩ := ent i kvs[i].1 kvs[i].2 (List.getElem?_eq_getElem hil)
    rw [Array.getElem?_toList, f1] at hi
    rw [← Option.some.inj hi]
    exact ⟨b, f2⟩
  · rw [hlst]
def listKR (fa : DE) : DE := fun τ h => (fa τ h).bind fun x h1 => match x with
  | .dT kvs => .ok (.lst (kvs.map fun p => .tup (p.1.map dOfK))) h1
  | _ => .bad
theorem keys_reps {K : PySem.W.Frag} {W : Wd} (tf : ∀ a ys, W.H a = some (.tup ys) → W.F a) : ∀ {kvs : List (List Key × D)} {ws : List (List Key × V)} {us : List V}, RepM K W kvs ws → KeysAt W.H us ws → Reps K W (kvs.map fun p => .tup (p.1.map dOfK)) us
  | [], _, _, .nil, .nil => .nil
  | p :: kvs, _, _, .cons (b := q) h t, .cons (a := u) ⟨b, e, hb⟩ k => by
    subst e
    refine .cons ?_ (keys_reps tf t k)
    show Rep K W (.tup (p.1.map dOfK)) (V.ref b)
    rw [h.1, Rep]
    exact ⟨b, _, rfl, .inl ⟨tf b _ hb, hb⟩, reps_dOfK⟩
theorem den_listK {C : Cn} {y : Str} {e : Expr} {f : DE} {p2 pos : Pos} (he0 : DenB C e f) (hg : glB C.sc y = true) (hm : C.g.mg y = none) (hv : bootBuiltins y = some (.type "list"))
    (he : ∀ env, starEach [e] env = (false, eval e env) :: starEach [] env) : DenN C (.Call (.Name y p2) [e] [] pos) (listKR f) := fun X E ok => by
  obtain ⟨t, p, q⟩ := he0 X E ok
  obtain ⟨g1, g2, g3⟩ := glB_ok ok hg
  refine ⟨_, pe_callTy (cr_listK ok.calm) g1 (by rw [ok.mg]; exact hm) hv (pa_cons p pa_nil (he _)) g3 g2 (he _) rfl, fun W0 W τ σ h Q l fr rh o => ?_⟩
  refine q W0 W τ σ h _ l fr rh (okG.bind o fun x h1 W1 v l1 rh1 r1 o1 => ?_)
  cases x with
  | dT kvs =>
    obtain ⟨a, ws, rfl, rd, r⟩ := r1.dTe
    have o1 : okG C.g.K C.g.mg (NewR C.g.K W) W1 (fun c dd H => E c dd σ H) Q (.ok (.lst (kvs.map fun p => .tup (p.1.map dOfK))) h1) := o1
    refine ⟨a, ws, rfl, rd, fun us hus q' hq => ?_⟩
    obtain ⟨l4, rh4, n4⟩ := new_lst hq rh1 (keys_reps rh1.tf r hus)
    exact o1 _ _ l4 rh4 (n4.of l1 rh1)
  | _ => exact (show False from o1).elim
end Sw

/-! Sw, part j: dict(d), d an own dict with tuple keys. -/
namespace Sw
open PySem PySem.Spec PyProof.Rows L2 L2.DX PySem.W
variable [Tbs]
section
variable {prog : Program} {w : World} {K : Type} [DecidableEq K] {knd : HeapKind prog w K} {A : Around} {E : Value → Shared → Prop} {s : Shared}
theorem call_dictH {o : Addr} {more : List (K × Addr × Value)} {Q : Value → Shared → Prop} (hu : knd.room A.in1.in1) (no : (o == sysModules) = false) (ho : s.heap.DictOfH knd o more) (hsz : more.length ≤ sizeLine)
    (hty : ∀ x ∈ more, s.TypeIs (.ref x.2.1) "tuple") (hap : (more.map fun x => knd.hash x.1).Nodup) (hi : ∀ h' : Heap, (∀ b o, s.heap.get? b = some o → h'.get? b = some o) → h'.DictOfH knd o more)
    (h : ∀ h', h'.DictOfH knd s.heap.objs.size more → Heap.SameBut s.heap.objs.size (s.heap.push { cls := .type "dict", data := .dict #[] }) h' → Q (.ref s.heap.objs.size) { s with heap := h' }) :
    wpAny (model prog w) A (call (.type "dict") [.ref o]) Q E s := by
  refine callType_codes (Q₁ := fun obj s₁ => obj = .ref s.heap.objs.size ∧ s₁ = { s with heap := s.heap.push { cls := .type "dict", data := .dict #[] } }) F.kt_called_dict (F.kt_typeCall_dict_1 _) F.entry_dict_init (kt_code_dict_new _ ⟨rfl, rfl⟩) ?_
  rintro obj s₁ ⟨rfl, rfl⟩
  have hnew : (s.heap.push { cls := .type "dict", data := .dict #[] }).DictOfH knd s.heap.objs.size [] := Heap.DictOfH.new s.heap
  have ho' := hi (s.heap.push { cls := .type "dict", data := .dict #[] }) fun b o e => Heap.get?_push_of_some _ e
  have hdo : s.heap.objs.size ≠ o := by
    obtain ⟨_, _, _, hg, _⟩ := ho
    exact fun e => absurd (Heap.lt_size hg) (by rw [e]; exact Nat.lt_irrefl _)
  refine ⟨hnew.typeIs, F.args_dict_init_2 _ _, ?_⟩
  unfold Builtin.«dict.__init__»
  refine wpAny_bind ?_
  unfold Builtin.Dict.selfAndRest
  refine wpAny_bind (wpAny_notOrdered_dict hnew.typeIs ?_)
  show wpAny _ _ (pure (s.heap.objs.size, [Value.ref o])) _ _ _
  refine wpAny_pure ?_
  show wpAny _ _ (Builtin.Dict.updateFrom "dict.__init__" s.heap.objs.size (.ref o) [] .none) _ _ _
  refine updateFrom_dictH .none hu hdo no hnew ho' (.inr ⟨fun x hx => ?_, hap⟩) (by simpa using hsz) fun h' hd' _ hs' => ⟨rfl, h h' ?_ hs'⟩
  · obtain ⟨ob, h1, h2⟩ := hty x hx
    exact ⟨ob, Heap.get?_push_of_some _ h1, h2⟩
  · have hn : (more.map (·.1)).Nodup := ho.nodup
    rw [storedAllH_nil_of_nodup more hn] at hd'
    exact hd'
end
/-- the hash of a tuple of ints -/
def hashT (ks : List Key) : Int := reduceHash (Builtin.Tuple.tupleHashOf (ks.map fun k => match k with | .inl n => hashInt n | .inr _ => 0))
def intsK (ks : List Key) : Bool := ks.all fun k => match k with | .inl _ => true | .inr _ => false
/-- distinct hashes: what a copy by dict(d) needs -/
def apart {α : Type} (kvs : List (List Key × α)) : Bool := (kvs.all fun p => intsK p.1) && decide (kvs.map fun p => hashT p.1).Nodup
theorem hashT_eq {P : Program} {w : World} {ks : List Key} (h : intsK ks = true) : (tupleKind (mixKind P w)).hash ks = hashT ks := by
  show reduceHash (Builtin.Tuple.tupleHashOf (ks.map (keyH w))) = _
  unfold hashT
  congr 2
  refine List.map_congr_left fun k hk => ?_
  have := List.all_eq_true.mp h k hk
  cases k with
  | inl n => rfl
  | inr z => cases this
theorem kT_map {H : Hp} {kvs : List (List Key × V)} {xs : List (List Key × Addr × Value)} (r : KT H kvs xs) : xs.map (·.1) = kvs.map (·.1) := by
  unfold KT at r
  induction r with
  | nil => rfl
  | cons h t ih => rw [List.map_cons, List.map_cons, ih, h.1]
def rDictC : List V → Hp → VK → Prop := fun vs H Q => ∃ (a : Addr) (kvs : List (List Key × V)), vs = [V.ref a] ∧ Rd H a (.dT kvs) ∧ apart kvs = true ∧ ∀ q, H q = none → Q (.ref q) (upd H q (.dT kvs))
theorem cr_dictC {X : Cx} (hu : X.A.units + 64 < cLine) : CallR X (.type "dict") rDictC := by
  intro pins s σ H vs us' Q I r h
  obtain ⟨a, kvs, rfl, rd, ap, q⟩ := h
  rw [Vals.ref1 r]
  obtain ⟨hz, ha, xs, rel, hd⟩ := dt_rd I.hok rd
  have hl : kvs.length = xs.length := Paired.length rel
  obtain ⟨ap1, ap2⟩ := Bool.and_eq_true_iff.mp ap
  have ap2 := of_decide_eq_true ap2
  have intsx : ∀ x ∈ xs, intsK x.1 = true := fun x hx => by
    have : x.1 ∈ xs.map (·.1) := List.mem_map_of_mem hx
    rw [kT_map rel] at this
    obtain ⟨p, hp, e⟩ := List.mem_map.mp this
    rw [← e]
    exact List.all_eq_true.mp ap1 p hp
  have inH : ∀ {l : List (List Key × V)} {m : List (List Key × Addr × Value)}, KT H l m → ∀ x ∈ m, H x.2.1 = some (.tup (x.1.map kV)) := by
    intro l m q
    induction q with
    | nil => intro x hx; exact nomatch hx
    | @cons p q ps qs hq t ih =>
      intro x hx
      rcases List.mem_cons.mp hx with e | hx
      · subst e; rw [← hq.1]; exact hq.2.1
      · exact ih x hx
  have keys : ∀ h' : Heap, (∀ b o, s.heap.get? b = some o → h'.get? b = some o) → ∀ x ∈ xs, (tupleKind (mixKind X.prog X.w)).is h' x.1 x.2.1 := fun h' k x hx => by
    obtain ⟨ob, itm, m, h1, h2, h3, h4⟩ := key_of I.hok (inH rel x hx)
    exact ⟨ob, itm, m, k _ _ h1, h2, h3, h4⟩
  refine call_dictH (knd := tupleKind (mixKind X.prog X.w)) (more := xs) (show X.A.units + 1 + 1 < cLine by omega) ha hd (by rw [← hl]; exact hz) (fun x hx => ?_) ?_ (fun h' k => ?_) fun h' hd' hs => ?_
  · obtain ⟨ob, itm, m, h1, h2, h3, h4⟩ := key_of I.hok (inH rel x hx)
    exact ⟨ob, h1, h2⟩
  · have e : (xs.map fun x => (tupleKind (mixKind X.prog X.w)).hash x.1) = kvs.map fun p => hashT p.1 := by
      rw [show (kvs.map fun p => hashT p.1) = (kvs.map (·.1)).map hashT by rw [List.map_map]; rfl, ← kT_map rel, List.map_map]
      exact List.map_congr_left fun x hx => hashT_eq (intsx x hx)
    rw [e]
    exact ap2
  · obtain ⟨o, es, ep, h1, h2, h3, h4, h5, h6⟩ := hd
    exact ⟨o, es, ep, k _ _ h1, h2, h3, h4, keys h' k, h6⟩
  · have kk : ∀ b o, s.heap.get? b = some o → h'.get? b = some o := fun b o e => by
      rw [hs.2 b (Nat.ne_of_lt (Heap.lt_size e))]
      exact Heap.get?_push_of_some _ e
    have hm : (s.heap.objs.size == sysModules) = false := beq_eq_false_iff_ne.mpr (Nat.ne_of_gt I.big)
    obtain ⟨ob, es, ep, hob, h2, h3, h4, _, h5⟩ := hd'
    have nf := I.hok.fresh (Nat.le_refl s.heap.objs.size)
    have rel2 := rel.keeps (H' := upd H s.heap.objs.size (.dT kvs)) fun b ys e => by rw [upd_ne (ne_of_none e nf)]; exact e
    exact ⟨.ref s.heap.objs.size, upd H s.heap.objs.size (.dT kvs), I.laid (t' := s.toks) kk (Nat.le_refl _) (show ObjOk X.prog X.w _ _ _ (.dT kvs) from ⟨hz, hm, xs, rel2, ob, es, ep, hob, h2, h3, h4, h5⟩), rfl, q _ nf⟩
def dictCG : List D → Option D
  | [.dT kvs] => if apart kvs = true then some (.dT kvs) else none
  | _ => none
theorem apart_repM {K : PySem.W.Frag} {W : Wd} {kvs : List (List Key × D)} {ws : List (List Key × V)} (r : RepM K W kvs ws) : apart ws = apart kvs := by
  have e : ws.map (·.1) = kvs.map (·.1) := by
    induction r with
    | nil => rfl
    | cons h t ih => rw [List.map_cons, List.map_cons, ih, h.1]
  unfold apart
  have e1 : (ws.all fun p => intsK p.1) = (kvs.all fun p => intsK p.1) := by
    rw [show (ws.all fun p => intsK p.1) = (ws.map (·.1)).all intsK by rw [List.all_map]; rfl, e, List.all_map]; rfl
  have e2 : (ws.map fun p => hashT p.1) = (kvs.map fun p => hashT p.1) := by
    rw [show (ws.map fun p => hashT p.1) = (ws.map (·.1)).map hashT by rw [List.map_map]; rfl, e, List.map_map]; rfl
  rw [e1, e2]
theorem cn_dictC {C : Cn} : CalN C (.type "dict") dictCG := fun X E ok => ⟨_, cr_dictC ok.room.units, fun W h ds vs d Q rh b e k => by
  unfold dictCG at e
  split at e
  · rename_i kvs
    split at e
    · rename_i ap
      obtain ⟨v, rfl, b1⟩ := BorsAll.one b
      obtain ⟨a, ws, rfl, rd, r⟩ := b1.dTe
      cases e
      refine ⟨a, ws, rfl, rd, by rw [apart_repM r]; exact ap, fun p np => ?_⟩
      have lw := le_put (o := HO.dT ws) np
      exact k (W.put p (.dT ws)) (.ref p) lw (rh_put np rh) ⟨p, _, rfl, upd_same, repT_m.mpr (r.mono lw.toLeF), fun f => rh.up p f np, fun m => rh.there m np, np⟩
    · cases e
  · cases e⟩
end Sw

/-! Sw, part k: == and != of lists of equal dicts with tuple keys. -/
namespace PySem.SeqAt
open AutoSeq1 (wpAny_loadPart')
open MeetsSeq MeetsSeq2 MeetsSeq3 SeqRoads2
section
variable {prog : Program} {w : World}
theorem sw_neLoop (l b : Addr) (us ws : Array Value) (n n2 : Nat) (dd dd2 : Option Addr) (sl sl2 : Array (Option Value)) (hsz : us.size = ws.size) (k : Nat) :
    ∀ i : Nat, us.size - i = k → MeetsIn prog w (Builtin.«list.__eq__.loop» ⟨[.ref l, .ref b, rawInt i, rawInt 3], []⟩)
      (fun A R s => s.heap.get? l = some { cls := .type "list", dict := dd, data := .seq us n, slots := sl } ∧ s.heap.get? b = some { cls := .type "list", dict := dd2, data := .seq ws n2, slots := sl2 } ∧
        (∀ j (h1 : j < us.size) (h2 : j < ws.size), EqP prog w A.in1 s us[j] ws[j] true) ∧ R (.ok (.ret (.bool false))) s) := by
  induction k with
  | zero =>
    intro i hk A R s h
    obtain ⟨hp, g, d, tk, os⟩ := s
    obtain ⟨hl, hb, he, h⟩ := h
    wp_walk using wpAny_loadPart' hl, wpAny_loadPart' hb
    have g1 : us[((i : Nat) : Int).toNat]? = none := by simp; omega
    have g2 : ws[((i : Nat) : Int).toNat]? = none := by simp; omega
    rw [g1, g2]
    wp_walk using wpAny_loadPart' hl, wpAny_loadPart' hb
    show R (.ok (.ret (.bool (us.size != ws.size)))) _
    rw [hsz]
    simpa using h
  | succ k ih =>
    intro i hk A R s h
    obtain ⟨hp, g, d, tk, os⟩ := s
    obtain ⟨hl, hb, he, h⟩ := h
    wp_walk using wpAny_loadPart' hl, wpAny_loadPart' hb
    have l1 : i < us.size := by omega
    have l2 : i < ws.size := by omega
    have g1 : us[((i : Nat) : Int).toNat]? = some us[i] := by simp [l1]
    have g2 : ws[((i : Nat) : Int).toNat]? = some ws[i] := by simp [l2]
    have nx : ((i : Int) + 1) = ((i + 1 : Nat) : Int) := by push_cast; rfl
    rw [g1, g2]
    refine wpAny_bind (he i l1 l2 _ _ ?_)
    wp_walk
    rw [nx]
    refine ⟨plainId_quiet plain_eq_loop _, codeAny_builtin entry_eq_loop ?_⟩
    rw [Around.under_plainId plain_eq_loop _]
    exact ih (i + 1) (by omega) A R _ ⟨hl, hb, he, h⟩
theorem sw_neIn (l b : Addr) (us ws : Array Value) (n n2 : Nat) (dd dd2 : Option Addr) (sl sl2 : Array (Option Value)) (hsz : us.size = ws.size) :
    MeetsIn prog w (Builtin.«list.__ne__» ⟨[.ref l, .ref b], []⟩)
      (fun A R s => s.heap.get? l = some { cls := .type "list", dict := dd, data := .seq us n, slots := sl } ∧ s.heap.get? b = some { cls := .type "list", dict := dd2, data := .seq ws n2, slots := sl2 } ∧
        (∀ j (h1 : j < us.size) (h2 : j < ws.size), EqP prog w A.in1 s us[j] ws[j] true) ∧ R (.ok (.ret (.bool false))) s) := by
  intro A R s h
  obtain ⟨hp, g, d, tk, os⟩ := s
  obtain ⟨hl, hb, he, h⟩ := h
  have f3 := AutoSeq1.sub_list_list
  have hne : ¬ (us.size != ws.size) = true := by simp [hsz]
  wp_walk using wpAny_loadPart' hl, wpAny_loadPart' hb
  refine ⟨plainId_quiet plain_eq_loop _, codeAny_builtin entry_eq_loop ?_⟩
  rw [Around.under_plainId plain_eq_loop _]
  exact sw_neLoop l b us ws n n2 dd dd2 sl sl2 hsz _ 0 rfl A R _ ⟨hl, hb, he, h⟩
theorem sw_neLists {A : Around} {s : Shared} {l b : Addr} {us ws : Array Value} (hl : s.heap.IsList l us) (hb : s.heap.IsList b ws) (hsz : us.size = ws.size) (hu : A.units < cLine)
    (he : ∀ j (h1 : j < us.size) (h2 : j < ws.size), EqP prog w A.in1 s us[j] ws[j] true) (E Q : Value → Shared → Prop) (h : Q (.bool false) s) : wpAny (model prog w) A (richCompare .NotEq (.ref l) (.ref b)) Q E s := by
  obtain ⟨⟨cls, dd, data, sl⟩, ho, hc, n, hd⟩ := id hl
  obtain ⟨⟨cls2, dd2, data2, sl2⟩, ho2, hc2, n2, hd2⟩ := id hb
  simp only at hc hd hc2 hd2
  subst hc hd hc2 hd2
  have ta : s.TypeIs (.ref l) "list" := ⟨_, ho, rfl⟩
  have tb : s.TypeIs (.ref b) "list" := ⟨_, ho2, rfl⟩
  refine wpAny_richCompare_same_room (op := .NotEq) ta tb F.slot_list_ne (call_meetsIn F.slot_list_ne ta F.entry_list_ne (F.args_list_ne_2 _ _) (sw_neIn l b us ws n n2 dd dd2 sl sl2 hsz) ⟨ho, ho2, he, ?_⟩) hu
  exact ⟨fun x => (nomatch x), h⟩
end
end PySem.SeqAt
namespace Sw
open PySem PySem.Spec PyProof.Rows L2 L2.DX PySem.W
variable [Tbs]
/-- two dicts with tuple keys that are equal -/
def SameT (K : PySem.W.Frag) (H : Hp) (x y : V) : Prop := ∃ a b ks ls A B, x = .ref a ∧ y = .ref b ∧ Rd H a (.dT ks) ∧ Rd H b (.dT ls) ∧ Paired (fun (z : List Key × PyData) (p : List Key × V) => z.1 = p.1 ∧ Dp K H p.2 z.2) A ks ∧ Paired (fun (z : List Key × PyData) (p : List Key × V) => z.1 = p.1 ∧ Dp K H p.2 z.2) B ls ∧
  (∀ p ∈ A, SeqAt.shaped p.2 = true) ∧ (∀ p ∈ B, SeqAt.shaped p.2 = true) ∧ eqTab A B = true
section
variable {X : Cx} {pins : List (Addr × Obj)} {σ : L2.St} {H : Hp} {s : Shared}
theorem sameT_run (I : Inv X pins σ H s) {A : Around} (hu : A.units + 66 < cLine) : ∀ x y v u, SameT X.K H x y → RelV x v → RelV y u → SeqAt.EqP X.prog X.w A s v u true := by
  intro x y v u h rx ry
  obtain ⟨a, b, ks, ls, T, U, rfl, rfl, da, db, pa, pb, sa, sb, q⟩ := h
  obtain rfl : v = Value.ref a := rx
  obtain rfl : u = Value.ref b := ry
  by_cases e : a = b
  · subst e
    exact (SeqAt.EqAt.same _).eqP
  · obtain ⟨_, na, xs, ra, oa⟩ := dt_rd I.hok da
    obtain ⟨_, nb, ys, rb, ob⟩ := dt_rd I.hok db
    have ea := entR_of I pa ra
    have eb := entR_of I pb rb
    refine SeqAt.eqP_refs e fun E Q hq => ?_
    refine rcH na nb (by omega) (tupleKind_room_in1 (by omega)) oa ob (fun _ => hitsT (A := A) (by show A.units + 1 + 64 < cLine; omega) eb sb ea sa) ?_
    have z := q
    rw [eqTab, ea.length, eb.length] at z
    exact Eq.mpr (congrArg (fun b => Q (Value.bool b) s) z) hq
def rEqLT (K : PySem.W.Frag) (neg : Bool) : R2 := fun x y H Q => ∃ a b xs ys, x = .ref a ∧ y = .ref b ∧ SqL K H a xs ∧ SqL K H b ys ∧ Paired (SameT K H) xs ys ∧ Q (.bl (!neg)) H
theorem op_eqLT (hu : X.A.units + 67 < cLine) : OpR X (compareOp .Eq) (rEqLT X.K false) := by
  intro pins s σ H x y v u Q I rx ry h
  obtain ⟨a, b, xs, ys, rfl, rfl, ha, hb, hp, q⟩ := h
  exact eqR_run I (A := X.A) (by omega) (sameT_run I (A := X.A.in1) (by show X.A.units + 1 + 66 < cLine; omega)) (.inl ⟨a, b, xs, ys, rfl, rfl, ha, hb, hp⟩) rx ry _ _ ⟨.bl true, H, I, rfl, q⟩
theorem op_neLT (hu : X.A.units + 67 < cLine) : OpR X (compareOp .NotEq) (rEqLT X.K true) := by
  intro pins s σ H x y v u Q I rx ry h
  obtain ⟨a, b, xs, ys, rfl, rfl, ha, hb, hp, q⟩ := h
  obtain rfl : v = Value.ref a := rx
  obtain rfl : u = Value.ref b := ry
  obtain ⟨us, r1, p1, _⟩ := I.list ha
  obtain ⟨ws, r2, p2, _⟩ := I.list hb
  have hsz : us.toArray.size = ws.toArray.size := by
    rw [List.size_toArray, List.size_toArray, ← r1.length, ← r2.length]
    exact Paired.length hp
  refine SeqAt.sw_neLists p1.isList p2.isList hsz (by omega) (fun j h1 h2 => ?_) _ _ ⟨.bl false, H, I, rfl, q⟩
  have k := items_run (sameT_run I (A := X.A.in1) (by show X.A.units + 1 + 66 < cLine; omega)) hp r1 r2 j (by simpa using h1) (by simpa using h2)
  simpa using k
end
def sameTs : List D → List D → Bool
  | [], [] => true
  | x :: xs, y :: ys => eqTD x y == some true && sameTs xs ys
  | _, _ => false
def eqLT (x y : D) : Bool := match x, y with
  | .lst xs, .lst ys => sameTs xs ys
  | _, _ => false
theorem eqTD_same {K : PySem.W.Frag} {W : Wd} {x y : D} {v u : V} (b1 : Bor K W x v) (b2 : Bor K W y u) (e : eqTD x y = some true) : SameT K W.H v u := by
  cases x with
  | dT ks => cases y with
    | dT ls =>
      rw [eqTD] at e
      split at e
      · rename_i A B eA eB
        split at e
        · rename_i hs
          rw [Bool.and_eq_true, List.all_eq_true, List.all_eq_true] at hs
          obtain ⟨a, ws, rfl, ra, r1⟩ := b1.dTe
          obtain ⟨a2, ws2, rfl, ra2, r2⟩ := b2.dTe
          exact ⟨a, a2, ws, ws2, A, B, rfl, rfl, ra, ra2, pyVals_dp r1 eA, pyVals_dp r2 eB, hs.1, hs.2, Option.some.inj e⟩
        · cases e
      · cases e
    | _ => cases e
  | _ => cases y <;> cases e
theorem sameTs_ok {K : PySem.W.Frag} {W : Wd} : ∀ {xs ys : List D} {vs us : List V}, Reps K W xs vs → Reps K W ys us → sameTs xs ys = true → Paired (SameT K W.H) vs us
  | [], [], _, _, r1, r2, _ => by
    rw [Reps] at r1 r2
    subst r1 r2
    exact .nil
  | x :: xs, y :: ys, _, _, r1, r2, e => by
    rw [Reps] at r1 r2
    obtain ⟨v, t, rfl, h1, t1⟩ := r1
    obtain ⟨u, t', rfl, h2, t2⟩ := r2
    rw [sameTs, Bool.and_eq_true, beq_iff_eq] at e
    exact .cons (eqTD_same (.inl h1) (.inl h2) e.1) (sameTs_ok t1 t2 e.2)
  | [], _ :: _, _, _, _, _, e => by cases e
  | _ :: _, [], _, _, _, _, e => by cases e
section
variable {C : Cn}
theorem o_eqLT : OpD C (compareOp .Eq) (fun x y => if eqLT x y then some (.bl true) else none) := fun X E ok => ⟨_, op_eqLT (by have := ok.room.un; omega), fun W h x y v u d Q rh b1 b2 e k => by
  have e : (if eqLT x y = true then some (D.bl true) else none) = some d := e
  split at e
  · rename_i q
    cases e
    cases x with
    | lst xs => cases y with
      | lst ys =>
        obtain ⟨a, vs, rfl, e1, r1⟩ := b1.lst
        obtain ⟨b, us, rfl, e2, r2⟩ := b2.lst
        exact ⟨a, b, vs, us, rfl, rfl, .of e1, .of e2, by rw [ok.K]; exact sameTs_ok r1 r2 q, k W _ (.refl W) rh rep_bl⟩
      | _ => cases q
    | _ => cases y <;> cases q
  · cases e⟩
theorem o_neLT : OpD C (compareOp .NotEq) (fun x y => if eqLT x y then some (.bl false) else none) := fun X E ok => ⟨_, op_neLT (by have := ok.room.un; omega), fun W h x y v u d Q rh b1 b2 e k => by
  have e : (if eqLT x y = true then some (D.bl false) else none) = some d := e
  split at e
  · rename_i q
    cases e
    cases x with
    | lst xs => cases y with
      | lst ys =>
        obtain ⟨a, vs, rfl, e1, r1⟩ := b1.lst
        obtain ⟨b, us, rfl, e2, r2⟩ := b2.lst
        exact ⟨a, b, vs, us, rfl, rfl, .of e1, .of e2, by rw [ok.K]; exact sameTs_ok r1 r2 q, k W _ (.refl W) rh rep_bl⟩
      | _ => cases q
    | _ => cases y <;> cases q
  · cases e⟩
/-- == where a side may be a dict, or both may be lists of equal dicts -/
def eqDE (x y : D) : Option D := (eqDD x y).or (if eqLT x y then some (.bl true) else none)
def neDE (x y : D) : Option D := (neDD x y).or (if eqLT x y then some (.bl false) else none)
theorem o_eqDE : OpD C (compareOp .Eq) eqDE := o_eqDD.or o_eqLT
theorem o_neDE : OpD C (compareOp .NotEq) neDE := o_neDD.or o_neLT
end
end Sw

/-! Sw, part l: loops over d.values(), d with tuple keys. -/
namespace Sw
open PySem PySem.Spec PyProof.Rows L2 L2.DX PySem.W
variable [Tbs]
def ItvT (d : Addr) (o : Obj) (kvs : List (List Key × V)) : It :=
  ⟨fun i H => H d = some (.frz o (.dT kvs)) ∧ i < kvs.length, fun i H x H' => H' = H ∧ ∃ k, kvs[i]? = some (k, x), fun i H => H d = some (.frz o (.dT kvs)) ∧ kvs.length ≤ i⟩
theorem turn_valsT {P : Program} {w : World} {K : PySem.W.Frag} {d : Addr} {o : Obj} {es : Array DictEntry} {ep : Nat} {tg : Expr} {kvs : List (List Key × V)} (it : Addr) (hod : o.data = .dict es ep) :
    Turn P w K tg (ItvT d o kvs) [it] it (fun i h => h.IsValIter it d i kvs.length ep) where
  mem := List.mem_singleton.mpr rfl
  obj := fun i h st b hb => by
    rw [List.mem_singleton.mp hb]
    obtain ⟨oi, e, c, dd⟩ := st
    exact ⟨oi, e, fun v z => by rw [dd] at z; cases z⟩
  keep := fun i h h' st k => st.at fun oi e => k it (List.mem_singleton.mpr rfl) oi e
  item := by
    intro X hP hw hK hc i pins s σ H E I hf st hg
    subst hP hw hK
    obtain ⟨hd, hi⟩ := hg
    obtain ⟨lo, e, hx, es', ep', hdt, hes, hz, ent⟩ := frz_at I hd
    rw [hod] at hdt
    cases hdt
    obtain ⟨⟨k, v⟩, hkv⟩ : ∃ p, kvs[i]? = some p := ⟨kvs[i], List.getElem?_eq_getElem hi⟩
    obtain ⟨en, q, hen, hkey, hq, hval⟩ := ent i k v hkv
    have hie : i < es.size := by rw [hes]; exact hi
    have een : es[i] = en := by
      have := Array.getElem?_eq_getElem hie
      rw [hen] at this
      exact (Option.some.inj this).symm
    obtain ⟨f0, f1, f2, f3, f4, f5⟩ := hf it (List.mem_singleton.mpr rfl)
    rw [← hes] at st
    refine wpAny_pyNext_values_item_raw st ⟨o, e, hx, hod⟩ hie fun h' st' sb => ?_
    have I1 : Inv X pins σ H { s with heap := h' } := I.turned (t' := s.toks) (fun b ob hb eb => (sb.2 b hb).trans eb) f0 f1 f3 f4 f5
    obtain ⟨oi, e1, c, dd⟩ := id st'
    rw [een]
    refine ⟨en.val, rfl, go_of (s := { s with heap := h' }) e1 c dd (by decide) ⟨v, H, I1, hval, ⟨rfl, k, hkv⟩, ?_, fun b hb => (hf b hb).1⟩⟩
    show h'.IsValIter it d (i + 1) kvs.length _
    rw [← hes]
    exact st'
  done := by
    intro X hP hw hK hc i pins s σ H E I hf st hg
    subst hP hw hK
    obtain ⟨hd, hi⟩ := hg
    obtain ⟨f0, f1, f2, f3, f4, f5⟩ := hf it (List.mem_singleton.mpr rfl)
    obtain ⟨lo, e, hx, es', ep', hdt, hes, hz, ent⟩ := frz_at I hd
    rw [hod] at hdt
    cases hdt
    rw [← hes] at st
    exact wpAny_pyNext_values_end_raw (I.ok.hd hc) st ⟨o, e, hx, hod⟩ (by rw [hes]; exact hi) fun h' eb => ⟨rfl, I.turned (t' := s.toks) (fun b ob hb y => eb b ob hb y) f0 f1 f3 f4 f5⟩
  self := fun A i s Q E st h => wpAny_pyIter_valiter st h
def iValsT (td : TE) : TI := fun σ H R => td σ H fun x H1 => ∃ d o kvs, x = .ref d ∧ H1 d = some (.frz o (.dT kvs)) ∧ R (ItvT d o kvs) H1
theorem pi_valuesT {X : Cx} {tg e : Expr} {td : TE} {apos cpos : Pos} (he : PE X e td) (hb : attributeBase e "values" X.env (eval e X.env) = eval e X.env) (hl : (apos.endLine == cpos.line) = true) :
    PI X tg (.Call (.Attribute e "values" apos) [] [] cpos) (iValsT td) := by
  refine ⟨fun pins s σ H R I h => wpAny_Call_method (T := "dict") (id := "dict.values") hb rfl hl F.plainAttrs_dict F.slot_dict_values F.type_dict_values (thn (he.run pins s σ H _ I h) fun dv s1 hdv => ?_)⟩
  obtain ⟨x, H1, I1, rx, d, o, kvs, ex, hd, q⟩ := hdv
  subst ex
  obtain rfl : dv = Value.ref d := rx
  obtain ⟨lo, e, hx, es, ep, hdt, hes, hz, ent⟩ := frz_at I1 hd
  refine ⟨⟨o, e, hx.1⟩, fun b eb => by cases eb; exact ⟨o, e, hx.2.1⟩, ?_⟩
  have raw : s1.heap.DictRaw d es ep := ⟨o, e, hx, hdt⟩
  have raw2 : (s1.heap.push { cls := .type "dict_values", data := .fields #[.ref d] }).DictRaw d es ep := ⟨o, Heap.get?_push_of_some _ e, hx, hdt⟩
  have I2 : Inv X pins σ H1 { s1 with heap := s1.heap.push { cls := .type "dict_values", data := .fields #[.ref d] } } := I1.kept (t' := s1.toks) fun b ob y => Heap.get?_push_of_some _ y
  have walk : wpAny (model X.prog X.w) X.A (pyIter (.ref s1.heap.objs.size)) (PIE X pins σ tg R) X.xe { s1 with heap := s1.heap.push { cls := .type "dict_values", data := .fields #[.ref d] } } := by
    refine wpAny_pyIter_values_raw (d := d) ⟨_, Heap.get?_push_size _ rfl, rfl, rfl⟩ raw2 (pi_one (tk := s1.toks) I2 _ (turn_valsT (kvs := kvs) _ hdt) ⟨_, Heap.get?_push_size _ rfl, rfl, ?_⟩ q)
    rw [hes]; rfl
  show wpAny _ _ (callWith cpos (.builtin "dict.values") [.ref d] [] []) _ X.xe s1
  exact method_meetsIn F.slot_dict_values F.entry_dict_values rfl (PySem.evalArgs_none ⟨rfl, ⟨o, e, hx.1⟩, F.args_dict_values_1 _, _, meets_dict_values_raw d lo, ⟨es, ep, raw⟩, walk⟩)
def valuesR (a : DE) : DA := fun τ h => (a τ h).bind fun x h1 => match x with
  | .dT kvs => .ok (kvs.map (·.2)) h1
  | _ => .bad
theorem walks_valsT {K : PySem.W.Frag} {W : Wd} {kvs : List (List Key × D)} {ws : List (List Key × V)} {d : Addr} {o : Obj} (f : W.F d) (e : W.H d = some (.frz o (.dT ws))) (r : RepM K W kvs ws) : Walks1 K W (ItvT d o ws) (kvs.map (·.2)) := fun j W2 l tf => by
  have e2 := l.sl d _ rfl f e
  refine ⟨fun x hx => ?_, fun z => ⟨e2, by rw [← r.len, ← z, List.length_map]; exact Nat.le_refl _⟩⟩
  rw [List.getElem?_map] at hx
  obtain ⟨p, hp, rfl⟩ := Option.map_eq_some_iff.mp hx
  have hj : j < ws.length := by rw [← r.len]; exact (List.getElem?_eq_some_iff.mp hp).1
  refine ⟨⟨e2, hj⟩, ?_⟩
  rintro x H' ⟨rfl, k, hk⟩
  refine ⟨W2, rfl, .refl _, fun _ q => q, ?_⟩
  obtain ⟨q, hq, hpq⟩ := paired_get (r.mono l) hp
  rw [hk] at hq
  cases hq
  exact hpq.2
theorem den_ivalues {C : Cn} {tg e : Expr} {f : DE} {apos cpos : Pos} (he : DenE C e f) (hb : ∀ env, attributeBase e "values" env (eval e env) = eval e env) (hl : (apos.endLine == cpos.line) = true) :
    DenI C tg (.Call (.Attribute e "values" apos) [] [] cpos) (valuesR f) := fun X E ok => by
  obtain ⟨t, p, q⟩ := he X E ok
  refine ⟨_, pi_valuesT (pe_lk p) (hb _) hl, fun W0 W τ σ h Q l fr rh o => ?_⟩
  refine q W0 W τ σ h _ l fr rh (okG.bind o fun x h1 W1 v l1 rh1 r1 o1 => ?_)
  cases x with
  | dT kvs =>
    rw [Rep] at r1
    obtain ⟨a, ws, rfl, fa, rd, r⟩ := r1
    have r := repT_m.mp r
    have o1 : okG C.g.K C.g.mg (fun W' items J => Walks1 C.g.K W' J items) W1 (fun c dd H => E c dd σ H) Q (.ok (kvs.map (·.2)) h1) := o1
    refine ⟨a, rfl, ?_⟩
    rcases rd_case rd with ⟨ob, e⟩ | e
    · exact .inl ⟨ob, _, e, a, ob, ws, rfl, e, o1 W1 _ (.refl _) rh1 (walks_valsT fa e r)⟩
    · refine .inr ⟨_, e, True.intro, fun od => ⟨a, od, ws, rfl, upd_same, ?_⟩⟩
      have lk := le_lock (od := od) fa e rfl rfl
      exact o1 (W1.put a (.frz od (.dT ws))) _ lk (rh_lock fa rh1 lk e rfl) (walks_valsT fa upd_same (r.mono lk.toLeF))
  | _ => exact (show False from o1).elim
end Sw

/-! Sw, part m: next(iter(d), x), d with tuple keys, not empty. -/
namespace Sw
open PySem PySem.Spec PyProof.Rows L2 L2.DX PySem.W
variable [Tbs]
abbrev kitObj (d : Addr) (n ep : Nat) : Obj := { cls := .type "dict_keyiterator", data := .fields #[.ref d, .int 0 0, .int n 0, .int ep 0] }
section
variable {prog : Program} {w : World} {A : Around} {E : Value → Shared → Prop} {s : Shared}
theorem call_iterD {d : Addr} {o : Obj} {es : Array DictEntry} {ep : Nat} {Q : Value → Shared → Prop} (hd : (d == sysModules) = false) (ho : s.heap.get? d = some o) (hc : o.ExactDict) (hdat : o.data = .dict es ep)
    (h : Q (.ref s.heap.objs.size) { s with heap := s.heap.push (kitObj d es.size ep) }) : wpAny (model prog w) A (call (.builtin "iter") [.ref d]) Q E s := by
  refine Calls.call_function_entry (by decide +kernel) (by decide +kernel) kdk_entry_iter (kdk_args_iter _) ?_
  unfold Builtin.«iter»
  refine wpAny_bind (m := someArgs "iter" 1 2 _) (wpAny_of_eq (a := [Value.ref d]) (by first | rfl | kernel_rfl!) ?_)
  show wpAny _ _ (pyIter (.ref d) >>= _) _ _ _
  exact wpAny_bind (iter_keys hd ho hc hdat (wpAny_pure ⟨_, rfl, h⟩))
theorem call_next2 {it d : Addr} {n ep : Nat} {od : Obj} {es : Array DictEntry} {en : DictEntry} {y : Value} {Q : Value → Shared → Prop} (hit : s.heap.get? it = some (kitObj d n ep)) (hod : s.heap.get? d = some od) (hdd : od.data = .dict es ep)
    (hsz : es.size = n) (hx : es[0]? = some en) (h : ∀ h', Heap.SameBut it s.heap h' → Q en.key { s with heap := h' }) : wpAny (model prog w) A (call (.builtin "next") [.ref it, y]) Q E s := by
  have hit : s.heap.IsKeyIter it d 0 n ep := ⟨_, hit, rfl, rfl⟩
  refine Calls.call_function_entry (by decide +kernel) (by decide +kernel) kdk_entry_next (kdk_args_next2 _ _) ?_
  unfold Builtin.«next»
  refine wpAny_bind (m := someArgs "next" 1 2 _) (wpAny_of_eq (a := [Value.ref it, y]) (by first | rfl | kernel_rfl!) ?_)
  dsimp only
  refine wpAny_bind (wpAny_specialOf (name := Str.ofString "__next__") hit.typeIs PySem.F.slot_dict_keyiterator_next.lookup ?_)
  refine wpAny_ite_split (fun hab => absurd hab (by decide)) (fun _ => ?_)
  refine wpAny_bind (next_key_item hit hod hdd hsz hx fun h' _ sb => ?_)
  exact wpAny_pure ⟨_, rfl, h h' sb⟩
end
theorem pin_add {X : Cx} {pins : List (Addr × Obj)} {σ : L2.St} {H : Hp} {s : Shared} {it : Addr} {o : Obj} (I : Inv X pins σ H s) (h : s.heap.get? it = some o) (h1 : H it = none) (h2 : it ≠ X.env.locals) (h3 : it ∉ X.fs) (h4 : ∀ v, o.data ≠ .cell v) : Inv X ((it, o) :: pins) σ H s :=
  ⟨I.ok, I.os, I.bare, I.base, I.loc, I.cell, I.free, I.freeC, fun p hp => by
    rcases List.mem_append.mp hp with hp | hp
    · exact I.pin p (List.mem_append_left _ hp)
    · rcases List.mem_cons.mp hp with rfl | hp
      · exact ⟨h, h1, h2, h3, h4⟩
      · exact I.pin p (List.mem_append_right _ hp), I.hok, I.len⟩
theorem pin_drop {X : Cx} {pins : List (Addr × Obj)} {σ : L2.St} {H : Hp} {s : Shared} {p0 : Addr × Obj} (I : Inv X (p0 :: pins) σ H s) : Inv X pins σ H s :=
  ⟨I.ok, I.os, I.bare, I.base, I.loc, I.cell, I.free, I.freeC, fun p hp => I.pin p (by
    rcases List.mem_append.mp hp with hp | hp
    · exact List.mem_append_left _ hp
    · exact List.mem_append_right _ (List.mem_cons_of_mem _ hp)), I.hok, I.len⟩
def tNextIter (ta tb : TE) : TE := fun σ H Q => ta σ H fun x H1 => ∃ d o kvs, x = .ref d ∧ H1 d = some (.frz o (.dT kvs)) ∧ tb σ H1 fun _ H2 => H2 d = some (.frz o (.dT kvs)) ∧ ∃ k v r, kvs = (k, v) :: r ∧ ∀ q, H2 q = some (.tup (k.map kV)) → Q (.ref q) H2
theorem pe_nextIter {X : Cx} {a b : Expr} {ta tb : TE} {p p2 q pos : Pos} (hg : Gl X "next") (hm : X.mg "next" = none) (hg2 : Gl X "iter") (hm2 : X.mg "iter" = none) (ha : PE X a ta) (hb : PE X b tb)
    (na : starEach [a] X.env = (false, eval a X.env) :: starEach [] X.env) (nc : starEach [.Call (.Name "iter" p2) [a] [] q, b] X.env = (false, eval (.Call (.Name "iter" p2) [a] [] q) X.env) :: starEach [b] X.env)
    (nb : starEach [b] X.env = (false, eval b X.env) :: starEach [] X.env) : PE X (.Call (.Name "next" p) [.Call (.Name "iter" p2) [a] [] q, b] [] pos) (tNextIter ta tb) := by
  refine ⟨fun pins s σ H Q I h => ?_⟩
  refine wpAny_Call_Name_kw (ld_blt (u := .builtin "next") I hg hm boot_next ?_ (by decide) (by decide))
  refine PyProof.Rows.callWith_builtin1 (PyProof.Rows.args_cons ?_ nc) nc (by rw [nb]; rfl)
  refine wpAny_Call_Name_kw (ld_blt (u := .builtin "iter") I hg2 hm2 boot_iter ?_ (by decide) (by decide))
  refine PyProof.Rows.callWith_builtin1 (PyProof.Rows.args_cons (thn (ha.run pins s σ H _ I h) fun v s1 ⟨x, H1, I1, r1, q1⟩ => PyProof.Rows.args_nil ?_) na) na rfl
  obtain ⟨d, o, kvs, rfl, hd, q1⟩ := q1
  obtain rfl : v = Value.ref d := r1
  obtain ⟨lo, e, hx, es, ep, hdt, hes, hz, ent⟩ := frz_at I1 hd
  refine call_iterD lo e hx hdt ?_
  have hit : (s1.heap.push (kitObj d es.size ep)).get? s1.heap.objs.size = some (kitObj d es.size ep) := Heap.get?_push_size _ rfl
  have I2 : Inv X pins σ H1 { s1 with heap := s1.heap.push (kitObj d es.size ep) } := I1.kept (t' := s1.toks) fun b u y => Heap.get?_push_of_some _ y
  have hn : H1 s1.heap.objs.size = none := I1.hok.fresh (Nat.le_refl _)
  have Ip := pin_add I2 hit hn (Nat.ne_of_gt I1.lt) (I1.nofs (Nat.le_refl _)) (fun v z => nomatch z)
  refine PyProof.Rows.args_cons (thn (hb.run _ _ σ H1 _ Ip q1) fun y s3 ⟨yv, H2, I3, r3, q3⟩ => PyProof.Rows.args_nil ?_) nb
  obtain ⟨hd2, k, v', r, ek, q⟩ := q3
  obtain ⟨g1, g2, g3, g4, g5⟩ := I3.pin (s1.heap.objs.size, kitObj d es.size ep) (List.mem_append_right _ List.mem_cons_self)
  have I4 := pin_drop I3
  obtain ⟨lo', e', hx', es', ep', hdt', hes', hz', ent'⟩ := frz_at I4 hd2
  rw [hdt] at hdt'
  cases hdt'
  obtain ⟨en, qa, e1, e2, e3, e4⟩ := ent' 0 k v' (by rw [ek]; rfl)
  refine call_next2 g1 e' hdt rfl e1 fun h' sb => ?_
  have fp : FpOk X pins H2 s1.heap.objs.size := by
    have f := I1.fpOk (b := s1.heap.objs.size) (H' := H2) (Nat.le_refl _) g2
    exact f
  obtain ⟨f0, f1, f2, f3, f4, f5⟩ := fp
  have I5 : Inv X pins σ H2 { s3 with heap := h' } := I4.turned (t' := s3.toks) (fun b ob hb eb => (sb.2 b hb).trans eb) f0 f1 f3 f4 f5
  exact ⟨.ref qa, H2, I5, e2.symm ▸ rfl, q qa e3⟩
/-- next(iter(d), x), d not empty -/
def nextIterR (fa fb : DE) : DE := fun τ h => (fa τ h).bind fun x h1 => match x with
  | .dT (p :: _) => (fb τ h1).bind fun _ h2 => .ok (.tup (p.1.map dOfK)) h2
  | _ => .bad
theorem den_nextIter {C : Cn} {a b : Expr} {fa fb : DE} {p p2 q pos : Pos} (he : DenE C a fa) (hb : DenE C b fb) (hg : glB C.sc "next" = true) (hm : C.g.mg "next" = none) (hg2 : glB C.sc "iter" = true) (hm2 : C.g.mg "iter" = none)
    (na : ∀ env, starEach [a] env = (false, eval a env) :: starEach [] env) (nc : ∀ env, starEach [.Call (.Name "iter" p2) [a] [] q, b] env = (false, eval (.Call (.Name "iter" p2) [a] [] q) env) :: starEach [b] env)
    (nb : ∀ env, starEach [b] env = (false, eval b env) :: starEach [] env) : DenE C (.Call (.Name "next" p) [.Call (.Name "iter" p2) [a] [] q, b] [] pos) (nextIterR fa fb) := fun X E ok => by
  obtain ⟨t, P, w⟩ := he X E ok
  obtain ⟨t2, P2, w2⟩ := hb X E ok
  obtain ⟨g1, _, _⟩ := glB_ok ok hg
  obtain ⟨g2, _, _⟩ := glB_ok ok hg2
  refine ⟨_, pe_nextIter g1 (by rw [ok.mg]; exact hm) g2 (by rw [ok.mg]; exact hm2) (pe_lk P) P2 (na _) (nc _) (nb _), fun W0 W τ σ h Q l fr rh o => ?_⟩
  refine w W0 W τ σ h _ l fr rh (okG.bind o fun x h1 W1 v l1 rh1 r1 o1 => ?_)
  cases x with
  | dT kvs =>
    cases kvs with
    | cons kv kvs =>
      rw [Rep] at r1
      obtain ⟨d, ws, rfl, fa', rd, r⟩ := r1
      have r := repT_m.mp r
      have fin : ∀ (W3 : Wd) (od : Obj), Le W1 W3 → RH C.g.K W3 h1 → W3.H d = some (.frz od (.dT ws)) → ∃ d' o' kvs', V.ref d = V.ref d' ∧ W3.H d' = some (.frz o' (.dT kvs')) ∧ t2 σ W3.H fun _ H2 => H2 d' = some (.frz o' (.dT kvs')) ∧ ∃ k v r, kvs' = (k, v) :: r ∧ ∀ q, H2 q = some (.tup (k.map kV)) → Q (.ref q) H2 := by
        intro W3 od l3 rh3 e3
        refine ⟨d, od, ws, rfl, e3, w2 W0 W3 τ σ h1 _ (l.trans (l1.trans l3)) (fr.mono (l1.trans l3)) rh3 (okG.bind (o1.mono l3) fun y h2 W4 u l4 rh4 r4 o4 => ?_)⟩
        have e4 := l4.sl d _ rfl (l3.fr d fa') e3
        cases r with
        | @cons p0 q0 _ ws' hh tt =>
          obtain ⟨k, v'⟩ := q0
          refine ⟨e4, k, v', ws', rfl, fun qa hq => ?_⟩
          refine o4 W4 (.ref qa) (.refl _) rh4 ?_
          have hk : kv.1 = k := hh.1
          rw [hk]
          show Rep C.g.K W4 (.tup (k.map dOfK)) (.ref qa)
          rw [Rep]
          exact ⟨qa, _, rfl, .inl ⟨rh4.tf qa _ hq, hq⟩, reps_dOfK⟩
      refine ⟨d, rfl, ?_⟩
      rcases rd_case rd with ⟨ob, e⟩ | e
      · exact .inl ⟨ob, _, e, fin W1 ob (.refl _) rh1 e⟩
      · refine .inr ⟨_, e, True.intro, fun od => ?_⟩
        have lk := le_lock (od := od) fa' e rfl rfl
        exact fin (W1.put d (.frz od (.dT ws))) od lk (rh_lock fa' rh1 lk e rfl) upd_same
    | nil => exact (show False from o1).elim
  | _ => exact (show False from o1).elim
end Sw

/-! Sw, part n: isinstance(x, T), x maybe a dict with tuple keys. -/
namespace Sw
open PySem PySem.Spec PyProof.Rows L2 L2.DX PySem.W
variable [Tbs]
def rIsiDT (K : PySem.W.Frag) : List V → Hp → VK → Prop := fun xs H Q => ∃ (a : Addr) (kvs : List (List Key × V)) (c : V) (u : Value) (b : Bool), xs = [.ref a, c] ∧ ClsV c u ∧ Rd H a (.dT kvs) ∧ PySem.W.kitOne K (.type "dict") u = some b ∧ Q (.bl b) H
theorem call_isiDT {X : Cx} : CallR X (.builtin "isinstance") (rIsiDT X.K) := by
  intro pins s σ H xs us Q I r h
  obtain ⟨a, kvs, c, u, b, rfl, k, rd, e, q⟩ := h
  obtain ⟨u1, u2, rfl, r1, r2⟩ := vals2 r
  have e2 := k.eq r2
  subst e2
  obtain rfl : u1 = Value.ref a := r1
  obtain ⟨_, _, _, _, o, es, ep, h1, h2, _⟩ := dt_rd I.hok rd
  exact PySem.W.kia_one (PySem.W.kitx_dict (K := X.K) (a := a)) I.kIn ⟨o, h1, h2.1⟩ e (fun z => nomatch z) fun tk => ⟨.bl b, H, I.tok tk, rfl, q⟩
def tyE : D → Option String
  | .dT _ => some "dict"
  | d => tyD d
theorem tyE_cases {d : D} {t : String} (h : tyE d = some t) : (∃ kvs, d = .dT kvs ∧ t = "dict") ∨ tyD d = some t := by
  unfold tyE at h
  split at h
  · exact .inl ⟨_, rfl, (Option.some.inj h).symm⟩
  · exact .inr h
def isiDR (T : String) (a : DE) : DE := fun τ h => (a τ h).bind fun d h1 => match (tyE d).bind (isiT · T) with
  | some b => .ok (.bl b) h1
  | none => .bad
theorem ap_isiDR (T : String) (a : DE) (τ : List Sl) (h : HS) : isiDR T a τ h = ( (a τ h).bind fun d h1 => match (tyE d).bind (isiT · T) with
  | some b => .ok (.bl b) h1
  | none => .bad) := id rfl
section
variable {C : Cn}
theorem den_isiD {a : Expr} {fa : DE} {T : Str} {Tn : String} {p pT pos : Pos} (hg : glB C.sc "isinstance" = true) (hm : C.g.mg "isinstance" = none) (hgT : glB C.sc T = true) (hmT : C.g.mg T = none) (hv : bootBuiltins T = some (.type Tn)) (ha : DenB C a fa)
    (he : ∀ env, starEach [a, .Name T pT] env = (false, eval a env) :: starEach [.Name T pT] env) (hs : ∀ env, starEach [.Name T pT] env = [(false, eval (.Name T pT) env)])
    (hpl : ∀ env, (backTo pos (starEach [.Name T pT] env)).any (·.1) = false) : DenE C (.Call (.Name "isinstance" p) [a, .Name T pT] [] pos) (isiDR Tn fa) := fun X E ok => by
  obtain ⟨t, pa, q⟩ := ha X E ok
  obtain ⟨g1, g2, g3⟩ := glB_ok ok hg
  obtain ⟨k1, k2, k3⟩ := glB_ok ok hgT
  have pT' : PE X (.Name T pT) (tC (.ty Tn)) := pe_bltn k1 (by rw [ok.mg]; exact hmT) hv rfl k3 k2
  have pas : PA X [a, .Name T pT] _ := pa_cons pa (pa_cons pT' pa_nil (hs _)) (he _)
  refine ⟨_, pe_callB (L2.CallR.or call_isi call_isiDT) g1 (by rw [ok.mg]; exact hm) rfl pas g3 g2 (he _) (hpl _), fun W0 W τ σ h Q l fr rh o => ?_⟩
  refine q W0 W τ σ h _ l fr rh (okG.bind o fun d h1 W1 v l1 rh1 b1 o1 => ?_)
  cases e1 : tyE d with
  | none => rw [e1] at o1; exact o1.elim
  | some t =>
    rw [e1] at o1
    have o1 : okG C.g.K C.g.mg (Rep C.g.K) W1 (fun c dd H => E c dd σ H) Q (match isiT t Tn with | some b => Res.ok (D.bl b) h1 | none => .bad) := o1
    cases e2 : isiT t Tn with
    | none => rw [e2] at o1; exact o1.elim
    | some b =>
      rw [e2] at o1
      have o2 : okG C.g.K C.g.mg (Rep C.g.K) W1 (fun c dd H => E c dd σ H) Q (Res.ok (D.bl b) h1) := o1
      clear o1
      rcases tyE_cases e1 with ⟨kvs, rfl, rfl⟩ | e1
      · obtain ⟨ad, ws, rfl, rd, r⟩ := b1.dTe
        exact .inr ⟨ad, ws, .ty Tn, .type Tn, b, rfl, .ty Tn, rd, kit_ty (by rw [isiT_kit "dict" (by decide) Tn (isiT_mem e2)]; exact e2), o2 W1 _ (.refl _) rh1 rep_bl⟩
      · exact .inl ⟨v, .ty Tn, .type t, .type Tn, b, rfl, .ty Tn, by rw [ok.K]; exact tyx b1 e1, kit_ty (by rw [isiT_kit t (tyD_mem e1) Tn (isiT_mem e2)]; exact e2), o2 W1 _ (.refl _) rh1 rep_bl⟩
end
end Sw

/-! Sw, part o: imported built-ins (gcd, comb), f-strings, texts. -/
namespace Sw
open PySem PySem.Spec PyProof.Rows L2
variable [Tbs]
/-! ### a program's facts, with the built-ins that it imports -/
def blB (bs : List (Str × String)) (K : PySem.W.Frag) : Bool := bs.all fun q => He.eqO (PySem.W.nsIn K mainGlobals q.1) (some (some (.builtin q.2)))
abbrev AlB : Type := He.AlD × Bool
def obsBK (fa : List He.Fa) (fn : List He.DefD) (bs : List (Str × String)) (K : PySem.W.Frag) : AlB := (He.obsD fa fn K, blB bs K)
def obsB (n : Nat) (fa : List He.Fa) (fn : List He.DefD) (bs : List (Str × String)) (g : Addr → Option Obj) : AlB := obsBK fa fn bs (He.frG g (He.asD g n))
def hookB (n : Nat) (fa : List He.Fa) (fn : List He.DefD) (bs : List (Str × String)) : PySem.W.Hook where
  α := AlB
  obs := fun s => obsB n fa fn bs s.heap.get?
  val := fun _ => (He.valD fn, true)
  says := fun _ h => ∃ K : PySem.W.Frag, K.In h ∧ He.SaysD fa fn K ∧ blB bs K = true
  of := fun _ _ e => ⟨_, He.frG_in, congrArg (fun z : AlB => z.1) e, congrArg (fun z : AlB => z.2) e⟩
  keeps := fun _ _ _ ⟨K, hK, c⟩ k => ⟨K, PySem.W.Frag.In.keeps hK k, c⟩
theorem obsB_eq {n : Nat} {fa : List He.Fa} {fn : List He.DefD} {bs : List (Str × String)} {g : Addr → Option Obj} {s : Shared} (h : ∀ a, g a = s.heap.get? a) : obsB n fa fn bs g = (hookB n fa fn bs).obs s := by
  have e : g = s.heap.get? := funext h
  rw [e] <;> rfl
structure TxB (fa : List He.Fa) (fn : List He.DefD) (bs : List (Str × String)) (g : Gx) : Prop extends Tx fa fn g where
  bl : blB bs g.K = true
theorem TxB.blt {fa : List He.Fa} {fn : List He.DefD} {bs : List (Str × String)} {g : Gx} (T : TxB fa fn bs g) (i : Nat) {x : Str} {id : String} (e : bs[i]? = some (x, id)) : g.mg x = some (.builtin id) := by
  obtain ⟨h, X, G⟩ := T.hh
  exact PySem.W.mg_of X G (He.eqO_ok (List.all_eq_true.mp T.bl _ (List.mem_of_getElem? e)))
theorem law_factsB {fa : List He.Fa} {fn : List He.DefD} {bs : List (Str × String)} {P : Program} {w : World} {K : PySem.W.Frag} {h : Heap} {mg : Str → Option Value} {f : Addr} (X : K.In h) (G : h.Ns mainGlobals mg) (c : He.SaysD fa fn K) (cb : blB bs K = true) (hfa : mg ("law" : Str) = some (.ref f))
    (j i : Nat) {x : Str} {st : Stmt} {N : List Str} {k : Nat} {fb : DS} (hd : fn[j]? = some (dfd "law" st)) (hx : fa[i]? = some (.glo "law")) (S : FnScope N [x] (defScope st))
    (hb : ∀ (kV doc pm : Value) (an : Option Addr) (cdv ct : Value) (us : List Value), us.length = [x].length → bindArgs (PySem.W.fnOf "law" "law" (defArgs st) (defBody st) (defScope st) .none kV doc pm an cdv ct) ⟨us, []⟩ = pure ([x].zip us))
    (hbody : ∀ g : Gx, TxB fa fn bs g → DenSs ⟨g, k, N, defScope st, fun _ => true, false⟩ (defBody st) fb) :
    ∃ fd : FuncData, (∀ (s : Shared) (v : Value), BindsTo s fd ⟨[v], []⟩ [(x, v)]) ∧ ∀ base : Heap, K.In base → base.Ns mainGlobals mg → FnOk P w K mg base (L2.CX P w) (k + 1) f fd [x] (spOf ⟨P, w, K, mg, base⟩ 1 (fnR N.length fb)) := by
  obtain ⟨fd, F⟩ := c.def_ j hd
  have e := hfa.symm.trans (He.glo_ok X G (c.fact i hx))
  cases e
  have b := FunD.bindsA (ps := [x]) F hb
  refine ⟨fd, fun s v => b s [v] rfl, fun base _ _ => ?_⟩
  exact fn_okD (g := ⟨P, w, K, mg, base⟩) F S (hbody _ ⟨⟨⟨h, X, G⟩, c⟩, cb⟩)
/-- a text of the module -/
theorem Tx.str {fa : List He.Fa} {fn : List He.DefD} {g : Gx} (T : Tx fa fn g) (i : Nat) {x z : Str} (e : fa[i]? = some (.str x z)) : ∃ t, g.mg x = some (.str z t) := by
  obtain ⟨h, X, G⟩ := T.hh
  exact He.str_ok X G (T.c.fact i e)

/-! ### calls of imported built-ins -/
section
variable {C : Cn} {x : Str} {e : Expr} {es : List Expr} {fs : DA} {g : List D → Option D} {p pos : Pos} {id : String}
theorem den_bm (hc : CalD C (.builtin id) g) (hg : glB C.sc x = true) (hm : C.g.mg x = some (.builtin id)) (ha : DenAB C (e :: es) fs)
    (he : ∀ env, starEach (e :: es) env = (false, eval e env) :: starEach es env) (hpl : ∀ env, (backTo pos (starEach es env)).any (·.1) = false) : DenE C (.Call (.Name x p) (e :: es) [] pos) (biR g fs) := fun X E ok => by
  obtain ⟨t, pa, q⟩ := ha X E ok
  obtain ⟨r, hr, qr⟩ := hc X E ok
  obtain ⟨g1, g2, g3⟩ := glB_ok ok hg
  refine ⟨_, pe_callBfun hr g1 (by rw [ok.mg]; exact hm) pa g2 (he _) (hpl _), fun W0 W τ σ h Q l fr rh o => ?_⟩
  refine q W0 W τ σ h _ l fr rh (okG.bind o fun ds h1 W1 vs l1 rh1 b1 o1 => ?_)
  obtain ⟨d, e, k⟩ := toRes_some o1
  exact qr W1 h1 ds vs d Q rh1 b1 e k
end
def rComb : List V → Hp → VK → Prop := fun vs H Q => ∃ a b : Int, vs = [.int a, .int b] ∧ 0 ≤ a ∧ 0 ≤ b ∧ a ≤ 18000 ∧ Q (.int (PySem.W.mcComb a b)) H
theorem cr_comb {X : Cx} : CallR X (.builtin "math.comb") rComb := by
  intro pins s σ H vs us Q I r h
  obtain ⟨a, b, rfl, h0, h1, h2, q⟩ := h
  obtain ⟨t, u, rfl⟩ := Vals.int2 r
  exact PySem.W.mc_comb h0 h1 (Int.lt_of_le_of_lt h2 (by decide)) (.inr h2) fun _ => ⟨.int _, H, I.tok _, ⟨_, rfl⟩, q⟩
def combG : List D → Option D
  | [.int a, .int b] => if decide (0 ≤ a) && (decide (0 ≤ b) && decide (a ≤ 18000)) then some (.int (PySem.W.mcComb a b)) else none
  | _ => none
theorem c_comb {C : Cn} : CalD C (.builtin "math.comb") combG := fun X E ok => ⟨_, cr_comb, fun W h ds vs d Q rh b e k => by
  unfold combG at e
  split at e
  · rename_i i j
    split at e
    · rename_i hc
      cases e
      simp only [Bool.and_eq_true, decide_eq_true_eq] at hc
      obtain ⟨v, r, rfl, b1, b2⟩ := b
      obtain ⟨u, r2, rfl, b3, b4⟩ := b2
      have b4 : r2 = [] := b4
      subst b4
      obtain rfl := b1.int
      obtain rfl := b3.int
      exact ⟨i, j, rfl, hc.1, hc.2.1, hc.2.2, k W _ (.refl _) rh rep_int⟩
    · cases e
  · cases e⟩

/-! ### f-strings -/
def fmtD : D → Option D
  | .str y => if fits y.length then some (.str y) else none
  | .int i => if i.natAbs.log2 < 1920 then some (.str (toString i)) else none
  | _ => none
section
variable {C : Cn} {a : Expr} {fa : DE} {p pos : Pos}
theorem den_fmt (ha : DenE C a fa) : DenE C (.FormattedValue a (-1) none pos) (res1 fmtD fa) := fun X E ok => by
  obtain ⟨t, pa, q⟩ := ha X E ok
  refine ⟨_, pe_fmt pa, fun W0 W τ σ h Q l fr rh o => ?_⟩
  refine q W0 W τ σ h _ l fr rh (okG.bind o fun d h1 W1 v l1 rh1 r1 o1 => ?_)
  obtain ⟨d', e, k⟩ := toRes_some o1
  cases d with
  | str y =>
    rw [Rep] at r1
    subst r1
    simp only [fmtD] at e
    split at e
    · rename_i hz
      cases e
      exact .inl ⟨y, rfl, of_decide_eq_true hz, k W1 _ (.refl _) rh1 rep_str⟩
    · cases e
  | int i =>
    rw [Rep] at r1
    subst r1
    simp only [fmtD] at e
    split at e
    · rename_i hz
      cases e
      exact .inr ⟨i, rfl, hz, k W1 _ (.refl _) rh1 rep_str⟩
    · cases e
  | _ => cases e
theorem den_joined1 (ha : DenE C a fa) : DenE C (.JoinedStr [a] pos) fa := fun X E ok => by
  obtain ⟨t, pa, q⟩ := ha X E ok
  exact ⟨_, pe_joined1 pa, q⟩
/-- the parts of an f-string, behind a text -/
abbrev DFs := Str → List Sl → HS → Res D
def DenFs (C : Cn) (es : List Expr) (f : DFs) : Prop :=
  ∀ X E, CxOk C X E → ∃ ts, PJ X es ts ∧ ∀ acc W0 W τ σ h (Q : VK), Le W0 W → Frm C.g.K W0 W τ σ → RH C.g.K W h →
    okG C.g.K C.g.mg (Rep C.g.K) W (fun c dd H => E c dd σ H) Q (f acc τ h) → tJs ts acc σ W.H fun out H1 => Q (.str out) H1
def jN : DFs := fun acc _ h => .ok (.str acc) h
def jC (a : DE) (r : DFs) : DFs := fun acc τ h => (a τ h).bind fun d h1 => match d with
  | .str y => if fits (acc ++ y).length then r (acc ++ y) τ h1 else .bad
  | _ => .bad
def joinR (f : DFs) : DE := fun τ h => f Str.empty τ h
theorem den_jnil : DenFs C [] jN := fun X E ok => ⟨[], .nil, fun acc W0 W τ σ h Q l fr rh o => o W _ (.refl _) rh rep_str⟩
theorem den_jcons {es : List Expr} {r : DFs} (ha : DenE C a fa) (hr : DenFs C es r) : DenFs C (a :: es) (jC fa r) := fun X E ok => by
  obtain ⟨t, pa, q⟩ := ha X E ok
  obtain ⟨ts, pj, q'⟩ := hr X E ok
  refine ⟨t :: ts, .cons pa pj, fun acc W0 W τ σ h Q l fr rh o => ?_⟩
  refine q W0 W τ σ h _ l fr rh (okG.bind o fun d h1 W1 v l1 rh1 r1 o1 => ?_)
  cases d with
  | str y =>
    rw [Rep] at r1
    subst r1
    have o1 : okG C.g.K C.g.mg (Rep C.g.K) W1 (fun c dd H => E c dd σ H) Q (if fits (acc ++ y).length then r (acc ++ y) τ h1 else .bad) := o1
    split at o1
    · rename_i hz
      exact ⟨y, rfl, of_decide_eq_true hz, q' (acc ++ y) W0 W1 τ σ h1 Q (l.trans l1) (fr.mono l1) rh1 o1⟩
    · exact o1.elim
  | _ => exact o1.elim
theorem den_joined {v1 v2 : Expr} {es : List Expr} {f : DFs} (hf : DenFs C (v1 :: v2 :: es) f) : DenE C (.JoinedStr (v1 :: v2 :: es) pos) (joinR f) := fun X E ok => by
  obtain ⟨ts, pj, q⟩ := hf X E ok
  exact ⟨_, pe_joined pj, fun W0 W τ σ h Q l fr rh o => q Str.empty W0 W τ σ h Q l fr rh o⟩

/-! ### texts: their signs, a sign in a text -/
def signsD (x : Str) : List D := x.cps.toList.map fun c => .str ⟨#[c]⟩
def strItR (a : DE) : DA := fun τ h => (a τ h).bind fun d h1 => match d with
  | .str x => .ok (signsD x) h1
  | _ => .bad
theorem walks_str {K : PySem.W.Frag} {W : Wd} {x : Str} : Walks1 K W (Its x) (signsD x) := fun j W2 l _ => by
  refine ⟨fun d e => ?_, fun e => ?_⟩
  · unfold signsD at e
    rw [List.getElem?_map] at e
    obtain ⟨c, e1, rfl⟩ := Option.map_eq_some_iff.mp e
    have e2 : x.cps[j]? = some c := by rw [← Array.getElem?_toList]; exact e1
    refine ⟨(Array.getElem?_eq_some_iff.mp e2).1, fun v H' y => ?_⟩
    obtain ⟨rfl, c', e3, rfl⟩ := y
    rw [e2] at e3
    cases e3
    exact ⟨W2, rfl, .refl _, fun _ q => q, rep_str⟩
  · unfold signsD at e
    rw [List.length_map, Array.length_toList] at e
    exact Nat.le_of_eq e
theorem den_istr {tg : Expr} (ha : DenE C a fa) : DenI C tg a (strItR fa) := fun X E ok => by
  obtain ⟨t, pa, q⟩ := ha X E ok
  refine ⟨_, pi_str pa, fun W0 W τ σ h Q l fr rh o => ?_⟩
  refine q W0 W τ σ h _ l fr rh (okG.bind o fun d h1 W1 v l1 rh1 r1 o1 => ?_)
  cases d with
  | str y =>
    rw [Rep] at r1
    subst r1
    exact ⟨y, rfl, o1 W1 _ (.refl _) rh1 walks_str⟩
  | _ => exact o1.elim
end
def inSD (x y : D) : Option D := match x, y with
  | .str ⟨⟨[c]⟩⟩, .str z => some (.bl (decide (c ∈ z.cps.toList)))
  | _, _ => none
theorem o_inS {C : Cn} : OpD C (compareOp .In) inSD := fun X E ok =>
  ⟨_, op_in_sign, fun W h x y v u d Q rh b1 b2 e k => by
    unfold inSD at e
    split at e
    · cases e
      obtain rfl := b1.str
      obtain rfl := b2.str
      exact ⟨_, _, rfl, rfl, k W _ (.refl _) rh rep_bl⟩
    · cases e⟩
end Sw

/-! Sw, part p: an exception class of the program's own over a built-in one: super().__init__('..'); self.f = v. -/
namespace Sw
namespace Xi
open PySem PySem.Spec PyProof.Rows PySem.Calls
open PySem.W
/-- the text of such an __init__ -/
structure Tx where
  f : Str
  v : Str
  msg : Str
  j : Nat
  qs : List Pos
  pr : Arguments
def Tx.pos (T : Tx) (i : Nat) : Pos := T.qs.getD i default
def Tx.body (T : Tx) : List Stmt :=
  [.Expr (.Call (.Attribute (.Call (.Name "super" (T.pos 0)) [] [] (T.pos 1)) "__init__" (T.pos 2)) [.Constant (.str T.msg) T.j (T.pos 3)] [] (T.pos 4)) (T.pos 5),
   .Assign [.Attribute (.Name "self" (T.pos 6)) T.f (T.pos 7)] (.Name T.v (T.pos 8)) (T.pos 9)]
def Tx.scope (T : Tx) : Scope := { kind := .function, names := [("self", .local), (T.v, .local), ("__class__", .free), ("super", .globalImplicit)], isGenerator := false, isCoroutine := false, more := [] }
/-- how the method is called: on one line -/
def Tx.Line (T : Tx) : Prop := ∃ pl : Sem Bool, ∀ env : Env, eval (.Call (.Attribute (.Call (.Name "super" (T.pos 0)) [] [] (T.pos 1)) "__init__" (T.pos 2)) [.Constant (.str T.msg) T.j (T.pos 3)] [] (T.pos 4)) env = (do
  let ov ← attributeBase (.Call (.Name "super" (T.pos 0)) [] [] (T.pos 1)) "__init__" env (eval (.Call (.Name "super" (T.pos 0)) [] [] (T.pos 1)) env)
  standAt (T.pos 2).atName
  let (f, first) ← holding [ov] (getMethod ov "__init__" pl)
  callWith (T.pos 4) f first (backTo (T.pos 4) (starEach [.Constant (.str T.msg) T.j (T.pos 3)] env)) [])
/-- what the written part says of the class at C -/
structure Ok (prog : Program) (K : Frag) (C : Addr) (B newId i : String) (bmB : List Value) (T : Tx) : Prop where
  FB : ExcBaseFacts B newId i bmB
  KF : KxsFacts B i
  SF : StoreFacts B bmB "object.__setattr__" "object"
  ini : excInitIn K C bmB newId = true
  ovr : excOver K C bmB = true
  cls : ∃ cd, clsIn K C = some cd ∧ cd.hasDict = true
  self : mroIn K C (.ref C) = some true
  sub : subIn K (.ref C) (.type B) = some true
  bex : subIn K (.ref C) (.type "BaseException") = some true
  typ : typeIn K (.ref C) = some (.type "type")
  kep : keepIn K (.ref C) = true
  along : ks_superIn K C C "__init__" = some (some (.builtin i))
  set : findIn K (.ref C) "__setattr__" = some (some (.builtin "object.__setattr__"))
  tak : takerIn K C T.f = some none
  fn : ∃ (fI cda cc : Addr) (nm qual : Str) (params : Arguments) (dV kV doc pm ct oc : Value) (an od : Option Addr) (osl : Array (Option Value)) (vs : Array Value) (file : Str) (tf : Tok) (cl ccl : Value) (cld cdd : Option Addr) (csl ccs : Array (Option Value)) (ar : Arg),
    findIn K (.ref C) "__init__" = some (some (.ref fI)) ∧ typeIn K (.ref fI) = some (.type "function") ∧ K.lookup fI = some ⟨oc, od, .func (ksFn nm qual params T.body T.scope dV kV doc pm an (.ref cda) ct cc), osl⟩ ∧ codeIn K (.ref cda) qual = true ∧
    K.lookup cc = some ⟨cl, cld, .cell (some (.ref C)), csl⟩ ∧ K.lookup cda = some ⟨ccl, cdd, .fields vs, ccs⟩ ∧ vs[2]? = some (.str file tf) ∧ ((prog.main.file : Str) == file) = true ∧
    (params.posonlyargs ++ params.args).head? = some ar ∧ ar.arg = ("self" : Str) ∧ T.scope.names.lookup ("super" : Str) = some .globalImplicit ∧ T.scope.names.lookup ("__class__" : Str) = some .free ∧ T.scope.names.lookup T.v = some .local ∧
    T.v ≠ ("self" : Str) ∧ (T.v == ("__debug__" : Str)) = false ∧
    ∀ (x u : Value), bindArgs (ksFn nm qual params T.body T.scope dV kV doc pm an (.ref cda) ct cc) ⟨[x, u], []⟩ = pure [(("self" : Str), x), (T.v, u)]
  sup : nsIn K mainGlobals "super" = some none
  opq : nsIn K cStatics "thirdparty.any" = some none
  top : (prog.main.scope.names.lookup ("super" : Str)).isSome = false
section
variable {prog : Program} {w : World} {A : Around} {R : Result → Shared → Prop} {K : Frag} {C e t0 : Addr} {B newId i : String} {bmB : List Value} {T : Tx} {mg mb : Str → Option Value}
theorem init_run {s : Shared} {u : Value} {fI : Addr} (O : Ok prog K C B newId i bmB T) (hL : T.Line) (hfI : findIn K (.ref C) "__init__" = some (some (.ref fI))) (X : K.In s.heap) (lim : s.heap.NoLimit) (G : s.heap.Ns mainGlobals mg) (Bn : s.heap.Ns builtinsNs mb) (hbb : ∀ x : Str, x ≠ "__name__" → mb x = bootBuiltins x)
    (he : s.heap.get? e = some (HandSPX.excO C t0)) (room : A.depth < recursionLimit) (neK : K.lookup e = none)
    (hq : ∀ h' tk dx t1, (∀ b o, b ≠ e → s.heap.get? b = some o → h'.get? b = some o) → s.heap.objs.size ≤ dx → dx ≠ e → h'.get? e = some { cls := .ref C, dict := some dx, data := .fields #[.ref t1, .none, .none, .none, .bool false, .none] } →
      h'.Ns1 dx (fun y => if y = T.f then some u else none) → R (.ok (.ret .none)) { s with heap := h', toks := tk }) :
    codeAny (model prog w) A (.call (.ref fI) ⟨[.ref e, u], []⟩) R s := by
  obtain ⟨fI', cda, cc, nm, qual, params, dV, kV, doc, pm, ct, oc, an, od, osl, vs, file, tf, cl, ccl, cld, cdd, csl, ccs, ar, f1, f2, lk, f4, f5, f6, f7, f8, f9, f10, f11, f12, f14, f19, f20, f21⟩ := O.fn
  have f13 : T.scope.names.lookup ("self" : Str) = some .local := by simp [Tx.scope, List.lookup]
  have ef : fI' = fI := by rw [hfI] at f1; cases f1; rfl
  subst ef
  have hmg : mg "super" = none := PySem.W.mg_none_of X G O.sup
  refine ks_codeAny_call_defAt (fd := ksFn nm qual params T.body T.scope dV kV doc pm an (.ref cda) ct cc) (body := T.body) (binds := [(("self" : Str), .ref e), (T.v, u)]) room (X _ _ lk) rfl lim (PySem.W.codeRec_of X f4) rfl (BindsTo.of_eq (f21 _ _)) (by intro x hx; simp only [ksFn, Tx.scope, List.mem_cons, List.not_mem_nil, or_false] at hx; rcases hx with rfl | rfl | rfl | rfl <;> exact fun z => by cases z) (fun y hy => ?_) (fun h1 hns hk => ?_)
  · rcases List.mem_cons.mp hy with rfl | hy
    · exact f13
    · rcases List.mem_cons.mp hy with rfl | hy
      · exact f14
      · cases hy
  · have k1 : ∀ b o, s.heap.get? b = some o → h1.get? b = some o := hk
    have X1 : K.In h1 := X.keeps k1
    obtain ⟨cd, hcd, hdd⟩ := O.cls
    obtain ⟨oD, hD1, hD2⟩ : ∃ oD, h1.get? C = some oD ∧ oD.data = .cls cd := by
      unfold clsIn at hcd
      split at hcd
      · rename_i c d cd' sl ho
        cases hcd
        exact ⟨_, X1 _ _ ho, rfl⟩
      · cases hcd
    have he1 := k1 _ _ he
    have I1 : InstAt h1 e (HandSPX.excO C t0) C none := ⟨he1, rfl, rfl, trivial⟩
    have vS : ((([(("self" : Str), Value.ref e), (T.v, u)] : List (Str × Value)).reverse.lookup ("self" : Str))) = some (.ref e) := by
      show List.lookup _ [(T.v, u), (("self" : Str), Value.ref e)] = _
      have : (("self" : Str) == T.v) = false := by simpa using fun z => f19 z.symm
      simp [List.lookup, this]
    have vV : ((([(("self" : Str), Value.ref e), (T.v, u)] : List (Str × Value)).reverse.lookup T.v)) = some u := by
      show List.lookup _ [(T.v, u), (("self" : Str), Value.ref e)] = _
      simp [List.lookup]
    obtain ⟨pl, hpl⟩ := hL
    refine ks_wpAt_execs_cons (ks_wpAt_Expr_any (ks_wpAt_MethodCall (pl := pl) ?_ (hpl _)))
    · refine ks_wpAt_super_base f11 f12 (by decide) rfl (X1 _ _ lk) rfl f9 rfl (X1 _ _ f6) rfl f7 f8 O.top ?_
      refine ks_loadName_global rfl f11 (loadGlobal_builtin (G.keeps k1) hmg (Bn.keeps k1) ((hbb _ (by decide +kernel)).trans (by first | rfl | kernel_rfl)) ⟨rfl, ?_⟩)
      refine wpAny_loadName_free rfl f12 rfl ⟨_, X1 _ _ f5, rfl⟩ ?_
      rw [f10]
      refine wpAny_loadName_local rfl f13 hns vS ?_
      refine ks_wpAny_isType_cls hD1 hD2 ⟨rfl, ?_⟩
      refine ks_wpAny_call_super hD1 hD2 he1 rfl (fun c z => by cases z) (looks_mroIn X1 O.self) (fun h2 e2 k2 => ?_)
      have X2 : K.In h2 := X1.keeps k2
      have he2 := k2 _ _ he1
      have I2 : InstAt h2 e (HandSPX.excO C t0) C none := ⟨he2, rfl, rfl, trivial⟩
      have hal : alongIn K "__init__" ((cd.mro.dropWhile (· != .ref C)).drop 1) = some (some (.builtin i)) := by
        have := O.along
        unfold ks_superIn at this
        rw [hcd] at this
        exact this
      refine kxs_getMethod O.KF e2 (looks_opaque X2 O.opq) (l₀ := cd.mro) (fun A Q E s k q => wpAny_bind ((looks_clsIn X2 hcd) A _ E s k (wpAny_pure q))) rfl X2 hal (I2.type.andThen (looks_subIn X2 O.sub)) (ks_ne X2 I2 hcd) (by decide) ?_
      have k3 : ∀ b o, h2.get? b = some o → (h2.push (kxs_mw i e)).get? b = some o := fun b o z => Heap.get?_push_of_some _ z
      have hu : (h2.push (kxs_mw i e)).get? h2.objs.size = some (kxs_mw i e) := Heap.get?_push_at rfl rfl
      refine kxs_callWith (i := i) (x := e) rfl (evalArgs_plain (spliced_cons (Constant_str (k := T.j) (pos := T.pos 3) ?_)))
      refine spliced_nil ⟨hu, ?_⟩
      have X3 : K.In (h2.push (kxs_mw i e)) := X2.keeps k3
      obtain ⟨nm', N', qn, bs, bm, hdct, sn, sub, ab, col, dd, q0, q1, q2, q3, q5, hC, hT⟩ := excInit_of X3 O.ini
      refine wpAny_call (codeAny_of_tree ?_)
      show wpAny _ _ (callAny (.ref h2.objs.size) ⟨[_], []⟩) _ _ _
      simp only [callAny]
      refine wpAny_bind (wpAny_load hu ?_)
      simp only [kxs_mw, show (Value.type "method-wrapper" == Value.type "method" || Value.type "method-wrapper" == Value.type "builtin_function_or_method" || Value.type "method-wrapper" == Value.type "method-wrapper") = true by decide, if_true]
      refine KFB.if_so (by decide) ?_
      refine wpAny_bind (check_bound_init O.FB.toExcCallFacts hC (k3 _ _ he2) rfl ?_)
      refine wpAny_bind (wpAny_pure (wpAny_pure ?_))
      refine ⟨plainId_quiet O.FB.init.plain _, codeAny_builtin O.FB.initEntry ?_⟩
      refine exc_init_tree (cls := .ref C) (t0 := t0) (dv := none) (c2 := .none) (c3 := .none) (b4 := .bool false) (k3 _ _ he2) (by show 1 ≤ sizeLine; rw [sizeLine_eq]; decide) (fun h4 k4 he4 _ => ?_)
      have h4e : ∀ b o, b ≠ e → s.heap.get? b = some o → h4.get? b = some o := fun b o z q => k4 b o z (k3 _ _ (k2 _ _ (k1 _ _ q)))
      have X4 : K.In h4 := fun b o z => k4 b o (fun y => by rw [y, neK] at z; cases z) (X3 _ _ z)
      have eL : s.heap.objs.size ≠ e := Nat.ne_of_gt (Heap.lt_size he)
      have hns4 : h4.Ns s.heap.objs.size fun x => [(("self" : Str), Value.ref e), (T.v, u)].reverse.lookup x := by
        obtain ⟨oL, es, ep, hL, r⟩ := hns
        exact ⟨oL, es, ep, k4 _ _ eL (k3 _ _ (k2 _ _ hL)), r⟩
      have I4 : InstAt h4 e (excObj C (h2.push (kxs_mw i e)).objs.size none .none) C none := ⟨he4, rfl, rfl, trivial⟩
      refine ks_wpAt_execs_cons (wpAt_of_wpAny (plainObj_wpAny_Assign_Attribute (wpAny_Name (wpAny_loadName_local rfl f14 hns4 vV (wpAny_Name (wpAny_loadName_local rfl f13 hns4 vS ?_))) f20) rfl))
      refine set_plain (od := none) X4 I4 O.set (osa_openX (od := none) O.SF X4 I4 O.ovr O.tak fun b => ?_)
      refine wpAny_bind (wpAny_pure (wpAny_bind (instanceDict_exc he4 (looks_clsIn X4 hcd) hdd ?_)))
      have hes : e ≠ h4.objs.size := Nat.ne_of_lt (Heap.lt_size he4)
      refine HandSPX.store_in_new ?_ (fun h' tk' hn' hs => ?_)
      · refine ⟨{ cls := .type "dict", data := .dict #[] 0 }, #[], 0, ?_, rfl, fun e he => absurd he (by simp), fun _ => rfl⟩
        exact (Heap.get?_update_ne _ _ _ _ hes.symm).trans (Heap.get?_push_at rfl rfl)
      · have hx5 : (h4.push (dictOf [] 0)).get? e = some (excObj C (h2.push (kxs_mw i e)).objs.size none .none) := Heap.get?_push_of_some _ he4
        refine wpAt_of_wpAny (wpAny_execs_nil ?_)
        refine hq h' _ h4.objs.size (h2.push (kxs_mw i e)).objs.size (fun b o hb ho => ?_) ?_ (Ne.symm hes) ?_ hn'
        · have h4b := h4e b o hb ho
          exact (hs.2 b (Nat.ne_of_lt (Heap.lt_size h4b))).trans ((Heap.get?_update_ne _ _ _ _ hb).trans (Heap.get?_push_of_some _ h4b))
        · obtain ⟨oL, _, _, hL, _⟩ := hns4
          exact Nat.le_of_lt (Heap.lt_size hL)
        · exact (hs.2 e hes).trans (Heap.get?_update_self _ hx5 rfl)
end
end Xi
end Sw
namespace Sw
open PySem PySem.Spec PyProof.Rows L2
/-- raise x(e): the exception's dict is new -/
theorem pmk_xi {X : Cx} {C : Addr} {B newId i : String} {bmB : List Value} {T : Xi.Tx} {x : Str} {e : Expr} {te : TE} {p pos : Pos} (O : Xi.Ok X.prog X.K C B newId i bmB T) (hL : T.Line) (hr : Room 1 X.A) (hg : Gl X x) (hm : X.mg x = some (.ref C)) (he : PE X e te)
    (hdb : (x == ("__debug__" : Str)) = false) (hs : starEach [e] X.env = (false, eval e X.env) :: starEach [] X.env) :
    PMk X (.Call (.Name x p) [e] [] pos) (fun σ H Q => te σ H fun y H1 => ∀ dx, H1 dx = none → Q (.ref C) (some dx) (upd H1 dx (.xd [(T.f, y)]))) := by
  intro pins s σ H Q I h
  refine wpAny_Call_Name_kw (ld_glob I hg hm ?_ hdb)
  refine PySem.W.callWith_K (h₀ := X.base) I.ok.mod.kin O.kep ?_ hs (by rfl)
  rw [hs]
  show wpAny _ _ (spliced ((false, eval e X.env) :: backTo pos (starEach [] X.env))) _ _ s
  refine Calls.spliced_cons (thn (he.run pins s σ H _ I h) fun u s1 ⟨y, H1, I1, r1, q1⟩ => ?_)
  refine Calls.spliced_nil ⟨I1.kIn, ?_⟩
  show wpAny _ _ (call (.ref C) [u]) _ _ _
  obtain ⟨nm, N, qn, bs, bm, hdct, sn, sub, ab, col, dd, k0, k1, k2, k3, k5, hC, hT⟩ := PySem.W.excInit_of I1.kIn O.ini
  obtain ⟨fI, cda, cc, _, _, _, _, _, _, _, _, _, _, _, _, _, _, _, _, _, _, _, _, _, _, iC, tI, _⟩ := O.fn
  obtain ⟨mb, hmb, hbb⟩ := I1.mod.blt
  have G1 := I1.mod.glob.keeps I1.bk
  have B1 := hmb.keeps I1.bk
  have L1 := I1.nolimit
  have K1 := I1.kIn
  obtain ⟨hp, g, dr, tk, os⟩ := s1
  have kk : ∀ b o, hp.get? b = some o → ((hp.push (PySem.W.kdv_tup [u])).push (PySem.HandSPX.excO C hp.objs.size)).get? b = some o := fun b o z => Heap.get?_push_of_some _ (Heap.get?_push_of_some _ z)
  have hget : ((hp.push (PySem.W.kdv_tup [u])).push (PySem.HandSPX.excO C hp.objs.size)).get? (hp.objs.size + 1) = some (PySem.HandSPX.excO C hp.objs.size) := by heap_get
  have fr1 : ∀ {b : Addr} {o : Obj}, hp.get? b = some o → b ≠ hp.objs.size + 1 := fun {b o} z => Nat.ne_of_lt (Nat.lt_succ_of_lt (Heap.lt_size z))
  refine wpAny_call (PySem.HandSPX.call_own O.FB hT hC (PySem.W.looks_findIn K1 iC) (fun self => PySem.W.bind_fn K1 self tI) (by show 1 ≤ sizeLine; rw [sizeLine_eq]; decide) ?_)
  refine Xi.init_run (s := ⟨(hp.push (PySem.W.kdv_tup [u])).push (PySem.HandSPX.excO C hp.objs.size), g, dr, tk, os⟩) (e := hp.objs.size + 1) (t0 := hp.objs.size) O hL iC (K1.keeps kk) (L1.keeps kk) (G1.keeps kk) (B1.keeps kk) hbb hget (hr.make C [u] []).depth ?_ ?_
  · cases z : X.K.lookup (hp.objs.size + 1) with
    | none => rfl
    | some o => exact absurd rfl (fr1 (K1 _ _ z))
  · intro h' tk' dx t1 k' hz hdx he' hn'
    have sz : hp.objs.size + 2 ≤ dx := by
      have : ((hp.push (PySem.W.kdv_tup [u])).push (PySem.HandSPX.excO C hp.objs.size)).objs.size = hp.objs.size + 2 := by rw [Heap.size_push, Heap.size_push]
      have hz : ((hp.push (PySem.W.kdv_tup [u])).push (PySem.HandSPX.excO C hp.objs.size)).objs.size ≤ dx := hz
      omega
    obtain ⟨Gh, g1, g2⟩ := restrict h' fun b => decide (b ≠ hp.objs.size + 1)
    have gk : ∀ b, b ≠ hp.objs.size + 1 → Gh.get? b = h'.get? b := fun b hb => g1 b (decide_eq_true hb)
    have ge : Gh.get? (hp.objs.size + 1) = none := g2 _ (by simp)
    have keep : ∀ b o, hp.get? b = some o → Gh.get? b = some o := fun b o z => (gk b (fr1 z)).trans (k' b o (fr1 z) (kk b o z))
    have hdn : H1 dx = none := I1.hok.fresh (by show hp.objs.size ≤ dx; omega)
    have J : Inv X pins σ (upd H1 dx (.xd [(T.f, y)])) ⟨Gh, g, dr, tk', os⟩ := by
      refine I1.laidN (t' := tk') (h' := Gh) keep ?_ hdn ?_
      · cases z : hp.get? dx with
        | none => rfl
        | some o =>
          have q : dx < hp.objs.size := Heap.lt_size z
          omega
      · refine ⟨fun z => if z = T.f then some u else none, ?_, fun z => ?_⟩
        · exact hn'.at fun o z => (gk dx hdx).trans z
        · exact relO_put (fs := []) r1 (mA := fun _ => none) (fun _ => True.intro) z
    have nE : upd H1 dx (.xd [(T.f, y)]) (hp.objs.size + 1) = none := by
      rw [upd_ne hdx.symm]
      exact I1.hok.fresh (by show hp.objs.size ≤ hp.objs.size + 1; omega)
    refine ⟨rfl, hp.objs.size + 1, _, _, ⟨Gh, g, dr, tk', os⟩, _, .ref C, some dx, rfl, J, fun b o z => ?_, ge, he', ⟨rfl, rfl⟩, rfl, rfl, nE, rfl, I1.bare, raises_own O.bex O.typ, q1 dx hdn⟩
    by_cases hb : b = hp.objs.size + 1
    · rw [hb] at z
      exact absurd (ge.symm.trans z) (by simp)
    · exact (gk b hb).symm.trans z
end Sw

/-! Sw, part q: several except clauses, some of them with a name. -/
namespace Sw
open PySem PySem.Spec PyProof.Rows L2
abbrev Su := Addr → Value → Option Addr → TS
/-- a clause's suite is run: with the name in slot i, or without a name -/
def suR (io : Option Nat) (ts : Su) (a : Addr) (cls : Value) (d : Option Addr) (D : Ends) (σ : L2.St) (H : Hp) : Prop := match io with
  | none => ts a cls d D σ H
  | some i => ts a cls d { nx := fun τ G => D.nx (τ.set i none) G, rt := D.rt, bk := fun τ G => D.bk (τ.set i none) G, ct := fun τ G => D.ct (τ.set i none) G } (σ.set i (some (.ref a))) H
/-- what the clauses want of an exception -/
def wCl (K : PySem.W.Frag) (V : WX) (D : Ends) : List (Value × Option Nat × Su) → WX
  | [] => V
  | p :: r => fun cls d σ H => ∃ b, PySem.W.exmOne K cls p.1 = some b ∧ (b = true → ∀ a, H a = none → suR p.2.1 p.2.2 a cls d D σ H) ∧ (b = false → wCl K V D r cls d σ H)
def SuOk (X : Cx) (suite : List Stmt) (ts : Su) : Prop := ∀ (a : Addr) (oe : Obj) (cls : Value) (d : Option Addr) (pn : List (Addr × Obj)), Zc cls d oe → (∃ vs, oe.data = .fields vs) → PSs (X.suite a ((a, oe) :: pn)) suite (ts a cls d)
inductive Cls (X : Cx) : List ExceptHandler → List (Value × Option Nat × Su) → Prop
  | nil : Cls X [] []
  | one {x : Str} {c : Value} {ts : Su} {st : Stmt} {su : List Stmt} {p q : Pos} {hs : List ExceptHandler} {l : List (Value × Option Nat × Su)} (n : Names X x c) (s : SuOk X (st :: su) ts) (r : Cls X hs l) : Cls X (.ExceptHandler (some (.Name x p)) none (st :: su) q :: hs) ((c, none, ts) :: l)
  | as_ {x y : Str} {i : Nat} {c : Value} {ts : Su} {st : Stmt} {su : List Stmt} {p q : Pos} {hs : List ExceptHandler} {l : List (Value × Option Nat × Su)} (n : Names X x c) (ei : X.N[i]? = some y) (ky : X.env.kindOf y = some .local) (s : SuOk X (st :: su) ts) (r : Cls X hs l) :
      Cls X (.ExceptHandler (some (.Name x p)) (some y) (st :: su) q :: hs) ((c, some i, ts) :: l)
section
variable {X : Cx} {body : List Stmt} {h0 : ExceptHandler} {hs : List ExceptHandler} {l : List (Value × Option Nat × Su)} {pos : Pos} {tb : WX → TS} {V : WX}
theorem ps_try_cls (ek : X.stack = X.env :: X.outer) (ef : X.env.frame = some X.env.locals) (nd : X.N.Nodup) (tk : Takes X V)
    (hb : ∀ (V' : WX) (pn : List (Addr × Obj)) (xe : Value → Shared → Prop), Takes (X.tr pn xe) V' → PassesOwn (model X.prog X.w) X.A X.env xe → PSs (X.tr pn xe) body (tb V')) (hh : Cls X (h0 :: hs) l) :
    PS X (.Try body (h0 :: hs) [] [] pos) (fun D σ H => tb (wCl X.K V D l) D σ H) := by
  refine ⟨fun pins z σ H D I hw => wpAny_Try_except ?_⟩
  have ok := I.ok
  have fr : X.A.frames = some (X.env :: X.outer) := ok.frames.trans (congrArg some ek)
  refine wpAny_mono ((hb (wCl X.K V D l) (X.pn ++ pins) (fun e s1 => wpAny (model X.prog X.w) X.A (noteFrame e X.env) (fun _ s2 => wpAny (model X.prog X.w) X.A (setFlight e none) (fun _ s3 => wpAny (model X.prog X.w) X.A (handleBy e X.env (h0 :: hs)) (SP X pins D) X.xe s3) X.xe s2) X.xe s1)
    (fun u s' caught => ?_) PassesOwn.looking).run [] z σ H D (I.toTry _) hw) (fun fl s1 q => ?_) (fun e s1 q => q)
  · obtain ⟨a, B, sI, ps', τ, G, cls, d, rfl, J0, nb, up, sky, na, eo, bare, want⟩ := caught
    have J : Inv X pins τ G sI := J0.ofTry ok
    show wpAny (model X.prog X.w) X.A (noteFrame (.ref a) X.env) _ _ _
    refine Sky.land Zc.steady fr ef (by rw [← ek]; exact sky) fun g1 fly up1 => ?_
    have J1 : Inv X pins τ G { s' with heap := g1 } := J.landed nb fly.1 (up.trans up1) eo bare
    obtain ⟨o1, v1, e1, z1, d1⟩ := fly.there
    have off : a ∉ frs (X.env :: X.outer) := fun m => by
      obtain ⟨_, o', e', nf⟩ := fly.2.2.1.mem m
      rw [e1] at e'; cases e'
      exact nf _ d1
    have nL : a ≠ X.env.locals := fun q => off (List.mem_filterMap.mpr ⟨X.env, List.mem_cons_self, by rw [ef, q]⟩)
    have nF : a ∉ X.fs := fun m => off (let ⟨e, he, q⟩ := List.mem_filterMap.mp m; List.mem_filterMap.mpr ⟨e, List.mem_cons_of_mem _ he, q⟩)
    have S1 := J1.suite e1 d1 na nL nF
    have look : ∀ {x : Str} {c : Value} {p : Pos} {Q Ex : Value → Shared → Prop}, Names X x c → Q c { s' with heap := g1 } → wpAny (model X.prog X.w) (X.A.mark (some (.ref a))) (eval (.Name x p) X.env) Q Ex { s' with heap := g1 } := fun {x c p Q Ex} n q => by
      obtain ⟨hg, hdb, hm | ⟨hm, hv, hne⟩⟩ := n
      · exact ld_glob (X := X.suite a ((a, o1) :: (X.pn ++ pins))) S1 hg hm q hdb
      · exact ld_blt (X := X.suite a ((a, o1) :: (X.pn ++ pins))) S1 hg hm hv q hne hdb
    have fits : ∀ {c : Value} {b : Bool}, PySem.W.exmOne X.K cls c = some b → _ := fun {c b} hb1 => PySem.W.exm_one (M := model X.prog X.w) J1.kIn (show PySem.W.Looks (model X.prog X.w) g1 (typeOf (.ref a)) cls from fun A Q E s k q => wpAny_typeOf_ref (k _ _ e1) (by rw [z1.1]; exact q)) hb1
    have go : ∀ {hs' : List ExceptHandler} {l' : List (Value × Option Nat × Su)}, Cls X hs' l' → wCl X.K V D l' cls d τ G → wpAny (model X.prog X.w) X.A (handleBy (.ref a) X.env hs') (SP X pins D) X.xe { s' with heap := g1 } := by
      intro hs' l' hk
      induction hk with
      | nil =>
        intro want
        refine wpAny_handleBy_nil ?_
        obtain ⟨_, _, _, oe, vs, Tb, oT, tz, he, hz, hd, hp, hr⟩ := id fly
        unfold PySem.passOn
        refine wpAny_bind (wpAny_field he hd hp ?_)
        rw [if_neg (by simp : ¬ ((Value.ref Tb == Value.none) = true))]
        have out : wpAny (model X.prog X.w) X.A (setFlight (.ref a) X.env.frame) (fun _ s4 => wpAny (model X.prog X.w) X.A (throw (.ref a) : Sem Flow) (SP X pins D) X.xe s4) X.xe { s' with heap := g1 } := by
          rw [ef]
          exact HandSPX.setFlight_upZ fly fun g2 h2 up2 => wpAny_throw (tk _ _ ⟨a, B, sI, pins, τ, G, cls, d, rfl, J, nb, (up.trans up1).trans up2, .inr (.inr (by rw [ek]; exact h2)), na, eo, bare, want⟩)
        first | exact wpAny_bind (wpAny_pure (wpAny_bind out)) | exact wpAny_bind out
      | one n su r ih =>
        intro want
        obtain ⟨b, eb, yes, no⟩ := want
        refine wpAny_handleBy_cons (codeAny_handlers_test (look n ((fits eb).here ?_))) (by intro q; cases q)
        cases b with
        | false => exact ih (no rfl)
        | true =>
          refine codeAny_handlers_suite (HandSPX.lands_againZ fly fun g2 fly2 up2 => ?_)
          obtain ⟨o2, v2, e2, z2, d2⟩ := fly2.there
          have J2 : Inv X pins τ G { s' with heap := g2 } := J.landed nb fly2.1 ((up.trans up1).trans up2) eo bare
          have S2 := J2.suite e2 d2 na nL nF
          refine wpAny_mono ((su a o2 cls d (X.pn ++ pins) z2 ⟨_, d2⟩).run [] _ _ G _ S2 (yes rfl a na)) (fun fl s6 q => ?_) (fun _ _ q => q.elim)
          cases fl with
          | next => obtain ⟨σ6, H6, S6, q6⟩ := q; exact ⟨_, _, S6.unsuite ok, q6⟩
          | brk => obtain ⟨σ6, H6, S6, q6⟩ := q; exact ⟨_, _, S6.unsuite ok, q6⟩
          | cont => obtain ⟨σ6, H6, S6, q6⟩ := q; exact ⟨_, _, S6.unsuite ok, q6⟩
          | ret u => obtain ⟨v6, σ6, H6, S6, r6, q6⟩ := q; exact ⟨_, _, _, S6.unsuite ok, r6, q6⟩
      | as_ n ei ky su r ih =>
        intro want
        obtain ⟨b, eb, yes, no⟩ := want
        refine wpAny_handleBy_cons (codeAny_handlers_test (look n ((fits eb).here ?_))) (by intro q; cases q)
        cases b with
        | false => exact ih (no rfl)
        | true =>
          refine codeAny_handlers_suite_as (HandSPX.lands_againZ fly fun g2 fly2 up2 => ?_)
          obtain ⟨o2, v2, e2, z2, d2⟩ := fly2.there
          have J2 : Inv X pins τ G { s' with heap := g2 } := J.landed nb fly2.1 ((up.trans up1).trans up2) eo bare
          have S2 := J2.suite e2 d2 na nL nF
          refine store_ok (X := X.suite a ((a, o2) :: (X.pn ++ pins))) (v := .ref a) S2 nd ei (.inl ky) rfl (fun s5 S5 => ?_) (.inr ky)
          refine wpAny_mono ((su a o2 cls d (X.pn ++ pins) z2 ⟨_, d2⟩).run [] s5 _ G _ S5 (yes rfl a na)) (fun fl s6 q => ?_) (fun _ _ q => q.elim)
          cases fl with
          | next => obtain ⟨σ6, H6, S6, q6⟩ := q; exact gone_ok (S6.unsuite ok) nd ei ky fun s7 J7 => ⟨_, _, J7, q6⟩
          | brk => obtain ⟨σ6, H6, S6, q6⟩ := q; exact gone_ok (S6.unsuite ok) nd ei ky fun s7 J7 => ⟨_, _, J7, q6⟩
          | cont => obtain ⟨σ6, H6, S6, q6⟩ := q; exact gone_ok (S6.unsuite ok) nd ei ky fun s7 J7 => ⟨_, _, J7, q6⟩
          | ret u => obtain ⟨v6, σ6, H6, S6, r6, q6⟩ := q; exact gone_ok (S6.unsuite ok) nd ei ky fun s7 J7 => ⟨_, _, _, J7, r6, q6⟩
    exact go hh want
  · cases fl with
    | next => obtain ⟨σ', H', J', q⟩ := q; exact wpAny_execs_nil ⟨σ', H', J'.ofTry ok, q⟩
    | brk => obtain ⟨σ', H', J', q⟩ := q; exact ⟨σ', H', J'.ofTry ok, q⟩
    | cont => obtain ⟨σ', H', J', q⟩ := q; exact ⟨σ', H', J'.ofTry ok, q⟩
    | ret u => obtain ⟨v, σ', H', J', r, q⟩ := q; exact ⟨v, σ', H', J'.ofTry ok, r, q⟩
end
end Sw

/-! Sw, part r: repr(x) of plain data. -/
namespace Sw
open PySem PySem.Spec PyProof.Rows L2
variable [Tbs]
mutual
def pyD : D → Option PyData
  | .non => some .none
  | .bl b => some (.bool b)
  | .int i => some (.int i)
  | .str s => some (.str s)
  | .tup xs => (pysD xs).map .tuple
  | .lst xs => (pysD xs).map .list
  | .frl xs => (pysD xs).map .list
  | .dK _ => none
  | .dT _ => none
  | .ref _ => none
  | .fn _ => none
def pysD : List D → Option (List PyData)
  | [] => some []
  | x :: r => (pyD x).bind fun p => (pysD r).map fun ps => p :: ps
end
def shownD (p : PyData) : Option Str := if p.showable && (!p.hasDict && (decide (p.depth ≤ 60) && fits p.shown.length)) then some p.shown else none
def reprD : D → Option Str
  | .non => some "None"
  | .bl b => some (if b then "True" else "False")
  | .int i => if decide (i.natAbs.log2 < 1920) then some (toString i) else none
  | .str s => if fits (reprText s).length then some (reprText s) else none
  | .dK [] => some "{}"
  | .dT [] => some "{}"
  | d => (pyD d).bind shownD
section
variable {P : Program} {w : World} {K : PySem.W.Frag} {W : Wd} {h : Heap}
theorem read_lst {a : Addr} {vs : List V} (hok : HOk P w W.H h) (kin : K.In h) (t : FrlAt K W a vs) : ∃ (o : Obj) (its : Array Value) (n : Nat), h.get? a = some o ∧ o.cls = .type "list" ∧ o.data = .seq its n ∧ Vals vs its.toList := by
  rcases t with ⟨_, r⟩ | ⟨o, its, n, lk, c, _, d, _, v⟩
  · obtain ⟨_, its, n, v, e⟩ := r.ok hok
    exact ⟨_, its.toArray, n, e, rfl, rfl, by simpa using v⟩
  · exact ⟨o, its, n, kin _ _ lk, c, d, v⟩
mutual
theorem rep_reads (hok : HOk P w W.H h) (kin : K.In h) : ∀ (d : D) {p : PyData} {v : V} {u : Value}, pyD d = some p → Rep K W d v → RelV v u → ∃ as, Reads h u p as
  | .non, _, _, _, e, r, q => by
    rw [pyD] at e; cases e; rw [Rep] at r; subst r; cases q; exact ⟨_, .none⟩
  | .bl b, _, _, _, e, r, q => by
    rw [pyD] at e; cases e; rw [Rep] at r; subst r; cases q; exact ⟨_, .bool b⟩
  | .int i, _, _, _, e, r, q => by
    rw [pyD] at e; cases e; rw [Rep] at r; subst r; obtain ⟨t, rfl⟩ := q; exact ⟨_, .int i t⟩
  | .str i, _, _, _, e, r, q => by
    rw [pyD] at e; cases e; rw [Rep] at r; subst r; obtain ⟨t, rfl⟩ := q; exact ⟨_, .str i t⟩
  | .tup xs, _, _, _, e, r, q => by
    rw [pyD] at e
    obtain ⟨ps, e1, rfl⟩ := Option.map_eq_some_iff.mp e
    rw [Rep] at r
    obtain ⟨a, vs, rfl, t, rs⟩ := r
    cases q
    obtain ⟨_, its, rv, o, ho, hc, n, hd⟩ := t.elim (fun z => hok a _ z.2) False.elim
    obtain ⟨as, ra⟩ := reps_reads hok kin xs e1 rs rv
    exact ⟨as, .tuple ho hc hd (by simpa using ra)⟩
  | .lst xs, _, _, _, e, r, q => by
    rw [pyD] at e
    obtain ⟨ps, e1, rfl⟩ := Option.map_eq_some_iff.mp e
    rw [Rep] at r
    obtain ⟨a, vs, rfl, t, rs⟩ := r
    cases q
    obtain ⟨o, its, n, ho, hc, hd, rv⟩ := read_lst hok kin (.inl ⟨t.1, .inl t.2⟩)
    obtain ⟨as, ra⟩ := reps_reads hok kin xs e1 rs rv
    exact ⟨_, .list ho hc hd ra⟩
  | .frl xs, _, _, _, e, r, q => by
    rw [pyD] at e
    obtain ⟨ps, e1, rfl⟩ := Option.map_eq_some_iff.mp e
    rw [Rep] at r
    obtain ⟨a, vs, rfl, t, rs⟩ := r
    cases q
    obtain ⟨o, its, n, ho, hc, hd, rv⟩ := read_lst hok kin t
    obtain ⟨as, ra⟩ := reps_reads hok kin xs e1 rs rv
    exact ⟨_, .list ho hc hd ra⟩
  | .dK _, _, _, _, e, _, _ => by rw [pyD] at e; cases e
  | .dT _, _, _, _, e, _, _ => by rw [pyD] at e; cases e
  | .ref _, _, _, _, e, _, _ => by rw [pyD] at e; cases e
  | .fn _, _, _, _, e, _, _ => by rw [pyD] at e; cases e
theorem reps_reads (hok : HOk P w W.H h) (kin : K.In h) : ∀ (ds : List D) {ps : List PyData} {vs : List V} {us : List Value}, pysD ds = some ps → Reps K W ds vs → Vals vs us → ∃ as, ReadsAll h us ps as
  | [], _, _, _, e, r, q => by
    rw [pysD] at e; cases e; rw [Reps] at r; subst r; cases q; exact ⟨_, .nil⟩
  | d :: ds, _, _, _, e, r, q => by
    rw [pysD] at e
    obtain ⟨p, e1, e2⟩ := Option.bind_eq_some_iff.mp e
    obtain ⟨ps, e3, rfl⟩ := Option.map_eq_some_iff.mp e2
    rw [Reps] at r
    obtain ⟨v, t, rfl, r1, r2⟩ := r
    cases q with
    | cons q1 q2 =>
      obtain ⟨as, a1⟩ := rep_reads hok kin d e1 r1 q1
      obtain ⟨bs, a2⟩ := reps_reads hok kin ds e3 r2 q2
      exact ⟨_, .cons a1 a2⟩
end
end
/-- repr(v), v standing for d -/
def rRepr (K : PySem.W.Frag) : List V → Hp → VK → Prop := fun vs H Q => ∃ (W : Wd) (d : D) (v : V) (s : Str), vs = [v] ∧ W.H = H ∧ Rep K W d v ∧ reprD d = some s ∧ Q (.str s) H
theorem call_repr {X : Cx} (hg : X.A.guards = some []) (hu : X.A.units + 100 < cLine) : CallR X (.builtin "repr") (rRepr X.K) := by
  intro pins s σ H xs us Q I r h
  obtain ⟨W, d, v, t, rfl, rfl, rp, e, q⟩ := h
  obtain ⟨u, rfl, ru⟩ := r.one
  have done : ∀ (x : Str) (tk : Tok) (n : Nat), t = x → EP X pins σ Q (.str x tk) { s with toks := n } := fun x tk n z => ⟨.str x, W.H, I.tok _, ⟨tk, rfl⟩, by rw [← z]; exact q⟩
  have big : ∀ (a : Addr) (p : PyData) (as : List Addr), Reads s.heap (.ref a) p as → shownD p = some t → wpAny (model X.prog X.w) X.A (call (.builtin "repr") [.ref a]) (EP X pins σ Q) X.xe s := fun a p as ra e => by
    unfold shownD at e
    split at e
    · rename_i hc
      cases e
      simp only [Bool.and_eq_true, decide_eq_true_eq, Bool.not_eq_true'] at hc
      obtain ⟨h1, h2, h3, h4⟩ := hc
      exact repr_of_reads' ra h1 (PyData.noDict_hsm h2) hg (by omega) (fun _ _ z => z) (fun h' u tk hk => ⟨.str _, W.H, I.kept (t' := tk) hk, ⟨u, rfl⟩, q⟩) (of_decide_eq_true h4)
    · cases e
  have seq : ∀ p, pyD d = some p → (∃ a, v = .ref a) → shownD p = some t → wpAny (model X.prog X.w) X.A (call (.builtin "repr") [u]) (EP X pins σ Q) X.xe s := fun p e1 ⟨a, ev⟩ e2 => by
    obtain ⟨as, ra⟩ := rep_reads I.hok I.kIn d e1 rp ru
    subst ev
    cases ru
    exact big a p as ra e2
  have empty : ∀ (a : Addr) (o : Obj) (es : Array DictEntry) (ep : Nat), s.heap.get? a = some o → o.cls = .type "dict" → o.data = .dict es ep → es.toList = [] → (a == sysModules) = false → t = "{}" → wpAny (model X.prog X.w) X.A (call (.builtin "repr") [.ref a]) (EP X pins σ Q) X.xe s := fun a o es ep h1 h2 h3 h4 h5 et => by
    have ra : Reads s.heap (.ref a) (.dict []) (a :: [] ++ []) := .dict (kvs := []) h1 h2 h3 (by rw [h4]; exact .nil) (by rw [h4]; exact .nil)
    have sh : (PyData.dict []).shown = t := by rw [et]; decide +kernel
    have hd : PyData.depth (.dict []) ≤ 60 := by decide +kernel
    refine repr_of_reads' ra (by rfl) (fun _ m => ?_) hg (by omega) (fun _ _ z => z) (fun h' u tk hk => ⟨.str _, W.H, I.kept (t' := tk) hk, ⟨u, rfl⟩, by rw [sh]; exact q⟩) (by decide +kernel)
    simp only [List.append_nil, List.mem_singleton] at m
    rw [m] at h5
    simp at h5
  cases d with
  | non => rw [Rep] at rp; subst rp; cases ru; cases e; exact PySem.P.repr_of_none (done _ _ _ rfl)
  | bl b => rw [Rep] at rp; subst rp; cases ru; cases e; exact PySem.P.repr_of_bool (done _ _ _ rfl)
  | int i =>
    rw [Rep] at rp; subst rp; obtain ⟨tk, rfl⟩ := ru
    simp only [reprD] at e
    split at e
    · rename_i hz; cases e; exact PySem.P.repr_of_int (of_decide_eq_true hz) (done _ _ _ rfl)
    · cases e
  | str i =>
    rw [Rep] at rp; subst rp; obtain ⟨tk, rfl⟩ := ru
    simp only [reprD] at e
    split at e
    · rename_i hz; cases e; exact PySem.P.repr_of_str (done _ _ _ rfl) (of_decide_eq_true hz)
    · cases e
  | tup xs =>
    obtain ⟨p, e1, e2⟩ := Option.bind_eq_some_iff.mp (show (pyD (.tup xs)).bind shownD = some t from e)
    exact seq p e1 (by rw [Rep] at rp; obtain ⟨a, _, rfl, _⟩ := rp; exact ⟨a, rfl⟩) e2
  | lst xs =>
    obtain ⟨p, e1, e2⟩ := Option.bind_eq_some_iff.mp (show (pyD (.lst xs)).bind shownD = some t from e)
    exact seq p e1 (by rw [Rep] at rp; obtain ⟨a, _, rfl, _⟩ := rp; exact ⟨a, rfl⟩) e2
  | frl xs =>
    obtain ⟨p, e1, e2⟩ := Option.bind_eq_some_iff.mp (show (pyD (.frl xs)).bind shownD = some t from e)
    exact seq p e1 (by rw [Rep] at rp; obtain ⟨a, _, rfl, _⟩ := rp; exact ⟨a, rfl⟩) e2
  | dK kvs =>
    cases kvs with
    | cons _ _ => cases e
    | nil =>
      cases e
      rw [Rep] at rp
      obtain ⟨a, ws, rfl, _, rd, rs⟩ := rp
      rw [RepK] at rs
      subst rs
      cases ru
      obtain ⟨_, hs, vs, kv, o, es, ep, ho, hx, hd, hk, hp, _⟩ := rd.ok I.hok
      cases kv
      have he : es.toList = [] := by cases q : es.toList with | nil => rfl | cons _ _ => rw [q] at hp; cases hp
      exact empty a o es ep ho hx.1 hd he hs rfl
  | dT kvs =>
    cases kvs with
    | cons _ _ => cases e
    | nil =>
      cases e
      rw [Rep] at rp
      obtain ⟨a, ws, rfl, _, rd, rs⟩ := rp
      rw [RepT] at rs
      subst rs
      cases ru
      obtain ⟨_, hs, xs, pr, o, es, ep, ho, hx, hd, he, _⟩ := rd.ok I.hok
      cases pr
      exact empty a o es ep ho hx.1 hd he hs rfl
  | ref n => cases e
  | fn n => cases e
end Sw

/-! Sw, part s: raise x(e) with a kept value; calls of a def held by a name; met(lambda: e). -/
namespace Sw
open PySem PySem.Spec PyProof.Rows L2
variable [Tbs]
/-! ### raise x(e) -/
structure XcC (g : Gx) (x : Str) (T : Xi.Tx) : Prop where
  mg : g.mg x = some (.ref (He.ga g.K x))
  ok : ∃ (B newId i : String) (bmB : List Value), Xi.Ok g.P g.K (He.ga g.K x) B newId i bmB T
  ln : T.Line
def raiseVS (x f : Str) (fe : DE) : DS := fun τ h => RS.ofR (fe τ h) τ fun d h1 => .exc ⟨x, some (f, d)⟩ h1
section
variable {C : Cn} {x y : Str} {e : Expr} {fe : DE} {p pos pos' : Pos} {T : Xi.Tx}
theorem den_raiseV (E : XcC C.g x T) (hk : 1 ≤ C.k) (hg : glB C.sc x = true) (he : DenE C e fe) (hs : ∀ env, starEach [e] env = (false, eval e env) :: starEach [] env) : DenS C (.Raise (some (.Call (.Name x p) [e] [] pos)) none pos') (raiseVS x T.f fe) := fun X W ok => by
  obtain ⟨g1, g2, g3⟩ := glB_ok ok hg
  obtain ⟨t, pe, q⟩ := he X W ok
  obtain ⟨mg, ⟨B, newId, i, bmB, O⟩, ln⟩ := E
  refine ⟨_, ps_raise ok.calm ok.takes (pmk_xi (C := He.ga C.g.K x) (B := B) (newId := newId) (i := i) (bmB := bmB) (T := T) (by rw [ok.prog, ok.K]; exact O) ln (ok.room.mono hk) g1 (by rw [ok.mg]; exact mg) pe g2 (hs _)), fun W0 W1 τ σ h D l fr rh o => ?_⟩
  refine q W0 W1 τ σ h _ l fr rh (okS.ex l o fun d s W2 v l2 rh2 r2 o2 dx hn => ?_)
  have lp := le_put (o := HO.xd [(T.f, v)]) hn
  exact o2 (W2.put dx (.xd [(T.f, v)])) _ (some dx) σ ((l.trans l2).trans lp) lp.toLeF (rh_put hn rh2) ⟨mg, v, dx, rfl, upd_same, r2.mono lp.toLeF⟩
end
/-! ### a def held by a name -/
/-- the defs that such a name may hold -/
abbrev Fns := List (Str × Nat × DF)
def FnsOk (g : Gx) (k : Nat) (L : Fns) : Prop := ∀ p ∈ L, FnD g p.1 p.2.1 k p.2.2 ∧ g.mg p.1 = some (.ref (He.ga g.K p.1))
def callVR (L : Fns) (i : Nat) (fs : DA) : DE := fun τ h => match τ[i]? with
  | some (.val (.fn x)) => match L.find? (fun p => p.1 == x) with
    | some p => (fs τ h).bind fun ds h1 => if ds.length = p.2.1 then p.2.2 ds h1 else .bad
    | none => .bad
  | _ => .bad
theorem pe_callAt {X : Cx} {k : Nat} {a : Str} {i : Nat} {p pos : Pos} {e : Expr} {es : List Expr} {t : TA} {E : L2.St → XK} (hN : X.N[i]? = some a) (hv : Vis X.env.scope a) (hd : (a == ("__debug__" : Str)) = false) (hcd : (a == ("__classdict__" : Str)) = false) (hr : Room k X.A)
    (hx : ∀ σ, PassesAt (L2.CX X.prog X.w) X σ (E σ)) (ha : PA X (e :: es) t) (he : starEach (e :: es) X.env = (false, eval e X.env) :: starEach es X.env) (hpl : (backTo pos (starEach es X.env)).any (·.1) = false) :
    PE X (.Call (.Name a p) (e :: es) [] pos) (fun σ H Q => ∃ (f : Addr) (fd : FuncData) (ps : List Str) (sp : Sp), σ[i]? = some (some (.ref f)) ∧ FnG ⟨X.prog, X.w, X.K, X.mg, X.base⟩ false k f fd ps sp ∧ PySem.W.keepIn X.K (.ref f) = true ∧ L2.Binds X.K fd ps [] ∧
      t σ H fun vs H1 => sp vs H1 Q (E σ)) :=
  ⟨fun pins s σ H Q I h => by
    obtain ⟨f, fd, ps, sp, hs, F, hk, hb, h⟩ := h
    refine wpAny_Call_Name_kw (thn ((pe_var (pos := p) (i := i) hN hv hd hcd).run pins s σ H (fun v H1 => v = .ref f ∧ H1 = H) I ⟨.ref f, hs, rfl, rfl⟩) fun u s1 ⟨v, H1, I1, r1, ev, eH⟩ => ?_)
    subst ev eH
    obtain rfl : u = Value.ref f := r1
    refine PySem.W.callWith_K (h₀ := X.base) I.ok.mod.kin hk (thn (ha.run pos pins s1 σ H1 _ I1 h) fun us s2 ⟨vs, H2, I2, rv, q⟩ => ⟨I2.kIn, ?_⟩) he hpl
    have bd := hb s2 us I2.kIn (by rw [List.append_nil, ← rv.length]; exact F.len _ _ _ _ q)
    rw [List.append_nil] at bd
    refine wpAny_call (codeAny_mono (F.run X.A X.stack s2 H2 ⟨us, []⟩ us vs Q (E σ) hr (fun z => nomatch z) I2.env0 bd rv q) fun z s3 hz => ?_)
    match z, hz with
    | .error ex, hz => exact hx σ pins H2 s2 ex s3 I2 hz
    | .ok (.ret u), hz => exact I2.after hz⟩
section
variable {C : Cn} {x a : Str} {e : Expr} {es : List Expr} {fs : DA} {i k : Nat} {p pos : Pos} {L : Fns}
theorem den_callV1 (F : FnsOk C.g k L) (hk : k ≤ C.k) (hn : nmB C.N C.sc a i = true) (ha : DenA C (e :: es) fs)
    (he : ∀ env, starEach (e :: es) env = (false, eval e env) :: starEach es env) (hpl : ∀ env, (backTo pos (starEach es env)).any (·.1) = false) : DenE C (.Call (.Name a p) (e :: es) [] pos) (callVR L i fs) := fun X E ok => by
  obtain ⟨t, pa, q⟩ := ha X E ok
  obtain ⟨h1, h2, h3, h4⟩ := nmB_ok hn
  refine ⟨_, pe_callAt (i := i) (E := WE E) (by rw [ok.names]; exact h1) (by rw [ok.scope]; exact h2) h3 h4 (ok.room.mono hk) (fun σ => passAt ok.takes σ) pa (he _) (hpl _), fun W0 W τ σ h Q l fr rh o => ?_⟩
  unfold callVR at o
  cases et : τ[i]? with
  | none => rw [et] at o; exact (show False from o).elim
  | some s =>
    cases s with
    | val d =>
      cases d with
      | fn x =>
        rw [et] at o
        have o : okG C.g.K C.g.mg (Rep C.g.K) W (fun c dd H => E c dd σ H) Q (match L.find? (fun p => p.1 == x) with | some p => (fs τ h).bind fun ds h1 => if ds.length = p.2.1 then p.2.2 ds h1 else .bad | none => .bad) := o
        cases ef : L.find? (fun p => p.1 == x) with
        | none => rw [ef] at o; exact (show False from o).elim
        | some p =>
          rw [ef] at o
          have hx : p.1 = x := eq_of_beq (List.find?_some (p := fun p : Str × Nat × DF => p.1 == x) ef)
          obtain ⟨⟨f, fd, ps, Fg, m, kp, b⟩, mg⟩ := F p (List.mem_of_find?_eq_some ef)
          have ef : f = He.ga C.g.K p.1 := by rw [m] at mg; cases mg; rfl
          obtain ⟨v, ev, rv⟩ := fr.at_ i _ et
          rw [Rep, ← hx, ← ef] at rv
          subst rv
          refine ⟨f, fd, ps, spOf C.g p.2.1 p.2.2, ev, by rw [ok.prog, ok.w, ok.K, ok.mg, ok.base]; exact Fg, by rw [ok.K]; exact kp, by rw [ok.K]; exact b, ?_⟩
          refine q W0 W τ σ h _ l fr rh (okG.bind o fun ds h1 W1 vs l1 rh1 b1 o1 => ?_)
          by_cases hn : ds.length = p.2.1
          · rw [if_pos hn] at o1
            exact ⟨by rw [← b1.length]; exact hn, W1, ds, h1, rfl, rh1, b1, o1⟩
          · rw [if_neg hn] at o1; exact o1.elim
      | _ => rw [et] at o; exact (show False from o).elim
    | _ => rw [et] at o; exact (show False from o).elim
/-- a def as a value -/
theorem den_fnv (hg : glB C.sc x = true) (hm : C.g.mg x = some (.ref (He.ga C.g.K x))) : DenE C (.Name x p) (kD (.fn x)) := fun X E ok => by
  obtain ⟨g1, g2, g3⟩ := glB_ok ok hg
  exact ⟨_, pe_glob (v := .ref (He.ga C.g.K x)) g1 (by rw [ok.mg]; exact hm) rfl g2, fun W0 W τ σ h Q l fr rh o => okG.now o rh (show Rep C.g.K W (.fn x) (.ref (He.ga C.g.K x)) by rw [Rep])⟩
end
end Sw

/-! Sw, part t: met(lambda: e): the def that calls what it got, and tells which exception it met. -/
namespace Sw
open PySem PySem.Spec PyProof.Rows L2
variable [Tbs]
/-- a part of what a clause tells: a text; (a text and) repr of what the exception of class z keeps in f -/
inductive Pt where
  | s (x : Str) | r (z f : Str) | sr (x z f : Str)
/-- what a clause tells -/
inductive Tl where
  | non | one (p : Pt) | tup (ps : List Pt)
def keptR (z f : Str) (x : Ex) : Option Str := if x.cls = z then match x.kept with
  | some (g, d) => if g = f then reprD d else none
  | none => none
  else none
def Pt.val (x : Ex) : Pt → Option Str
  | .s t => some t
  | .r z f => keptR z f x
  | .sr t z f => (keptR z f x).bind fun u => if fits (t.length + u.length) then some (t ++ u) else none
def Pt.vals (x : Ex) : List Pt → Option (List Str)
  | [] => some []
  | p :: l => (p.val x).bind fun t => (Pt.vals x l).map fun ts => t :: ts
def Tl.val (x : Ex) : Tl → Option D
  | .non => some .non
  | .one p => (p.val x).map .str
  | .tup ps => (Pt.vals x ps).bind fun ts => if fits ts.length then some (.tup (ts.map .str)) else none
/-- the class z: what it keeps in f may be read -/
structure KeptC (g : Gx) (z f : Str) : Prop where
  mg : g.mg z = some (.ref (He.ga g.K z))
  xf : XfC g.K (He.ga g.K z)
  no : PySem.W.findIn g.K (.ref (He.ga g.K z)) f = some none
/-- the text of such a part; y: the exception's name -/
inductive PtE (g : Gx) (y : Str) : Expr → Pt → Prop
  | s {x : Str} {j : Nat} {p : Pos} : PtE g y (.Constant (.str x) j p) (.s x)
  | r {z f : Str} {p1 p2 p3 p4 : Pos} (k : KeptC g z f) : PtE g y (.Call (.Name "repr" p1) [.Attribute (.Name y p2) f p3] [] p4) (.r z f)
  | sr {x z f : Str} {j : Nat} {p0 p1 p2 p3 p4 p5 : Pos} (k : KeptC g z f) : PtE g y (.BinOp (.Constant (.str x) j p0) .Add (.Call (.Name "repr" p1) [.Attribute (.Name y p2) f p3] [] p4) p5) (.sr x z f)
inductive PtEs (g : Gx) (y : Str) : List Expr → List Pt → Prop
  | nil : PtEs g y [] []
  | cons {e : Expr} {p : Pt} {es : List Expr} {ps : List Pt} (h : PtE g y e p) (r : PtEs g y es ps) (s : ∀ env, starEach (e :: es) env = (false, eval e env) :: starEach es env) : PtEs g y (e :: es) (p :: ps)
inductive TlE (g : Gx) (y : Str) : Expr → Tl → Prop
  | non {p : Pos} {j : Nat} : TlE g y (.Constant .none j p) .non
  | one {e : Expr} {p : Pt} (h : PtE g y e p) : TlE g y e (.one p)
  | tup {es : List Expr} {ps : List Pt} {k : Nat} {p : Pos} (h : PtEs g y es ps) : TlE g y (.Tuple es k p) (.tup ps)
section
variable {g : Gx} {X : Cx} {a : Addr} {oe : Obj} {cls : Value} {d : Option Addr} {pn : List (Addr × Obj)} {i : Nat} {y : Str}
/-- what is known where a clause's text is read -/
def At_ (g : Gx) (i : Nat) (a : Addr) (cls : Value) (d : Option Addr) (x : Ex) (σ : L2.St) (H : Hp) : Prop :=
  (∃ τ : L2.St, σ = τ.set i (some (.ref a))) ∧ ∃ (W : Wd) (h : HS), W.H = H ∧ RH g.K W h ∧ ExR g.K g.mg W x cls d
structure SuC (g : Gx) (X : Cx) (i : Nat) (y : Str) : Prop where
  K : X.K = g.K
  mg : X.mg = g.mg
  nm : X.N[i]? = some y
  vis : Vis X.env.scope y
  n1 : (y == ("__debug__" : Str)) = false
  n2 : (y == ("__classdict__" : Str)) = false
  rp : Gl X "repr"
  rm : X.mg "repr" = none
  gd : X.A.guards = some []
  un : X.A.units + 100 < cLine
theorem pe_exn {Y : Cx} (hN : Y.N[i]? = some y) (hv : Vis Y.env.scope y) (h1 : (y == ("__debug__" : Str)) = false) (h2 : (y == ("__classdict__" : Str)) = false) {p : Pos} : PE Y (.Name y p) (fun σ H Q => (∃ τ : L2.St, σ = τ.set i (some (.ref a))) ∧ Q (.ref a) H) :=
  ⟨fun pins s σ H Q I h => by
    obtain ⟨⟨τ, rfl⟩, q⟩ := h
    refine (pe_var (pos := p) (i := i) hN hv h1 h2).run pins s _ H Q I ⟨.ref a, ?_, q⟩
    have hi : i < τ.length := by
      have h := I.len
      rw [List.length_set] at h
      rw [h]
      exact (List.getElem?_eq_some_iff.mp hN).1
    exact List.getElem?_set_self hi⟩
theorem pe_kept (S : SuC g X i y) (hz : Zc cls d oe) (hf : ∃ vs, oe.data = .fields vs) {z f : Str} {p1 p2 p3 p4 : Pos} (k : KeptC g z f) :
    PE (X.suite a ((a, oe) :: pn)) (.Call (.Name "repr" p1) [.Attribute (.Name y p2) f p3] [] p4) (fun σ H Q => ∃ x t, At_ g i a cls d x σ H ∧ keptR z f x = some t ∧ Q (.str t) H) := by
  have px := pe_xf (X := X) (a := a) (oe := oe) (cls := cls) (d := d) (pn := pn) (C := He.ga g.K z) (n := f) (pos := p3) (by rw [S.K]; exact k.xf) (by rw [S.K]; exact k.no) hz hf (pe_exn (Y := X.suite a ((a, oe) :: pn)) (a := a) (p := p2) S.nm S.vis S.n1 S.n2)
  have pc := pe_callB (X := X.suite a ((a, oe) :: pn)) (x := "repr") (p := p1) (pos := p4) (call_repr S.gd S.un) S.rp S.rm rfl (pa_cons px pa_nil)
  refine ⟨fun pins s σ H Q I h => pc.run pins s σ H Q I ?_⟩
  obtain ⟨x, t, ⟨hτ, W, h0, rfl, rh, er⟩, ek, q⟩ := h
  unfold keptR at ek
  split at ek
  · rename_i hc
    obtain ⟨e1, e2⟩ := er
    rw [hc, k.mg] at e1
    cases e1
    cases hk : x.kept with
    | none => rw [hk] at ek; cases ek
    | some pr =>
      obtain ⟨g', dd⟩ := pr
      rw [hk] at ek e2
      by_cases hg : g' = f
      · simp only [if_pos hg] at ek
        subst hg
        obtain ⟨v, ad, rfl, hx, rd⟩ := e2
        refine ⟨hτ, rfl, rfl, ad, _, v, rfl, hx, by simp [List.lookup], ?_⟩
        exact ⟨W, dd, v, t, rfl, rfl, by show Rep X.K W dd v; rw [S.K]; exact rd, ek, q⟩
      · simp only [if_neg hg] at ek; cases ek
  · cases ek
theorem pe_pt (S : SuC g X i y) (hz : Zc cls d oe) (hf : ∃ vs, oe.data = .fields vs) {e : Expr} {p : Pt} (h : PtE g y e p) :
    PE (X.suite a ((a, oe) :: pn)) e (fun σ H Q => ∃ x t, At_ g i a cls d x σ H ∧ p.val x = some t ∧ Q (.str t) H) := by
  cases h with
  | @s t0 j p => exact ⟨fun pins s σ H Q I h => by
      obtain ⟨x, t, _, e, q⟩ := h
      cases e
      exact (pe_str (X := X.suite a ((a, oe) :: pn)) (j := j) (pos := p)).run pins s σ H Q I q⟩
  | r k => exact pe_kept S hz hf k
  | @sr t0 z f j p0 p1 p2 p3 p4 p5 k =>
    have po := pe_op (pos := p5) (op_add_str (X := X.suite a ((a, oe) :: pn))) (pe_str (x := t0) (j := j) (pos := p0)) (pe_kept (p1 := p1) (p2 := p2) (p3 := p3) (p4 := p4) S hz hf k)
    refine ⟨fun pins s σ H Q I h => po.run pins s σ H Q I ?_⟩
    obtain ⟨x, t, at_, e, q⟩ := h
    obtain ⟨u, e1, e2⟩ := Option.bind_eq_some_iff.mp (show ((keptR z f x).bind fun u => if fits (t0.length + u.length) then some (t0 ++ u) else none) = some t from e)
    split at e2
    · rename_i hz
      cases e2
      exact ⟨x, u, at_, e1, t0, u, rfl, rfl, of_decide_eq_true hz, q⟩
    · cases e2
theorem pa_pts (S : SuC g X i y) (hz : Zc cls d oe) (hf : ∃ vs, oe.data = .fields vs) : ∀ {es : List Expr} {ps : List Pt}, PtEs g y es ps →
    PA (X.suite a ((a, oe) :: pn)) es (fun σ H Q => ∃ x ts, At_ g i a cls d x σ H ∧ Pt.vals x ps = some ts ∧ Q (ts.map .str) H)
  | _, _, .nil => ⟨fun pos pins s σ H Q I h => by
      obtain ⟨x, ts, _, e, q⟩ := h
      cases e
      exact pa_nil.run pos pins s σ H Q I q⟩
  | _, _, @PtEs.cons _ _ e0 p0 es0 ps0 h r hs => ⟨fun pos pins s σ H Q I hw => by
      have pc := pa_cons (pe_pt S hz hf h) (pa_pts S hz hf r) (hs _)
      refine pc.run pos pins s σ H Q I ?_
      obtain ⟨x, ts, at_, e, q⟩ := hw
      obtain ⟨t, e1, e2⟩ := Option.bind_eq_some_iff.mp (show (Pt.val x p0).bind (fun t => (Pt.vals x ps0).map fun ts => t :: ts) = some ts from e)
      obtain ⟨ts', e3, rfl⟩ := Option.map_eq_some_iff.mp e2
      exact ⟨x, t, at_, e1, x, ts', at_, e3, q⟩⟩
end
theorem reps_strs {K : PySem.W.Frag} {W : Wd} : ∀ {ts : List Str}, Reps K W (ts.map D.str) (ts.map V.str)
  | [] => .nil
  | t :: ts => .cons rep_str reps_strs
/-- the clause's suite: return e -/
def suT (g : Gx) (i : Option Nat) (tl : Tl) : Su := fun a cls d D σ H => (∀ j, i = some j → ∃ τ : L2.St, σ = τ.set j (some (.ref a))) ∧
  ∃ (W : Wd) (h : HS) (x : Ex) (r : Sw.D), W.H = H ∧ RH g.K W h ∧ ExR g.K g.mg W x cls d ∧ tl.val x = some r ∧ ∀ W2 v, Le W W2 → RH g.K W2 h → Rep g.K W2 r v → D.rt v W2.H
theorem su_tl {g : Gx} {X : Cx} {i : Nat} {y : Str} {e : Expr} {tl : Tl} {q : Pos} (S : SuC g X i y) (h : TlE g y e tl) : SuOk X [.Return (some e) q] (suT g (some i) tl) := by
  intro a oe cls d pn hz hf
  have key : PE (X.suite a ((a, oe) :: pn)) e (fun σ H Q => (∃ τ : L2.St, σ = τ.set i (some (.ref a))) ∧ ∃ (W : Wd) (h : HS) (x : Ex) (r : Sw.D), W.H = H ∧ RH g.K W h ∧ ExR g.K g.mg W x cls d ∧ tl.val x = some r ∧ ∀ W2 v, Le W W2 → RH g.K W2 h → Rep g.K W2 r v → Q v W2.H) := by
    cases h with
    | @non p j => exact ⟨fun pins s σ H Q I hw => by
        obtain ⟨_, W, h0, x, r, rfl, rh, er, e, q⟩ := hw
        cases e
        exact (pe_non (X := X.suite a ((a, oe) :: pn)) (j := j) (pos := p)).run pins s σ _ Q I (q W _ (.refl _) rh rep_non)⟩
    | one hp => exact ⟨fun pins s σ H Q I hw => (pe_pt S hz hf hp).run pins s σ H Q I (by
        obtain ⟨hτ, W, h0, x, r, rfl, rh, er, e, q⟩ := hw
        obtain ⟨t, e1, rfl⟩ := Option.map_eq_some_iff.mp (show (Pt.val x _).map D.str = some r from e)
        exact ⟨x, t, ⟨hτ, W, h0, rfl, rh, er⟩, e1, q W _ (.refl _) rh rep_str⟩)⟩
    | @tup es ps k p hp => exact ⟨fun pins s σ H Q I hw => (pe_tup (x1 := k) (pos := p) (pa_pts S hz hf hp)).run pins s σ H Q I (by
        obtain ⟨hτ, W, h0, x, r, rfl, rh, er, e, q⟩ := hw
        obtain ⟨ts, e1, e2⟩ := Option.bind_eq_some_iff.mp (show (Pt.vals x ps).bind (fun ts => if fits ts.length then some (D.tup (ts.map .str)) else none) = some r from e)
        split at e2
        · rename_i hz
          cases e2
          refine ⟨x, ts, ⟨hτ, W, h0, rfl, rh, er⟩, e1, by rw [List.length_map]; exact of_decide_eq_true hz, fun np hn => ?_⟩
          obtain ⟨W2, eH, l2, rh2, r2⟩ := new_tup hn rh (reps_strs (ts := ts))
          rw [← eH]
          exact q W2 _ l2 rh2 r2
        · cases e2)⟩
  refine pss_one ⟨fun pins s σ H D I hw => (ps_ret (pos := q) key).run pins s σ H D I ?_⟩
  obtain ⟨hτ, w⟩ := hw
  exact ⟨hτ i rfl, w⟩
/-! ### clauses without a name, and the end: texts alone -/
inductive CtE : List Expr → List Pt → Prop
  | nil : CtE [] []
  | cons {x : Str} {j : Nat} {p : Pos} {es : List Expr} {ps : List Pt} (r : CtE es ps) (s : ∀ env, starEach (.Constant (.str x) j p :: es) env = (false, eval (.Constant (.str x) j p) env) :: starEach es env) : CtE (.Constant (.str x) j p :: es) (.s x :: ps)
inductive TlC : Expr → Tl → Prop
  | non {p : Pos} {j : Nat} : TlC (.Constant .none j p) .non
  | one {x : Str} {j : Nat} {p : Pos} : TlC (.Constant (.str x) j p) (.one (.s x))
  | tup {es : List Expr} {ps : List Pt} {k : Nat} {p : Pos} (h : CtE es ps) : TlC (.Tuple es k p) (.tup ps)
theorem pa_ct {Y : Cx} {x : Ex} : ∀ {es : List Expr} {ps : List Pt}, CtE es ps → PA Y es (fun σ H Q => ∃ ts, Pt.vals x ps = some ts ∧ Q (ts.map .str) H)
  | _, _, .nil => ⟨fun pos pins s σ H Q I h => by
      obtain ⟨ts, e, q⟩ := h
      cases e
      exact pa_nil.run pos pins s σ H Q I q⟩
  | _, _, @CtE.cons t0 j p es0 ps0 r hs => ⟨fun pos pins s σ H Q I hw => by
      have pc := pa_cons (X := Y) (pe_str (x := t0) (j := j) (pos := p)) (pa_ct (x := x) r) (hs _)
      refine pc.run pos pins s σ H Q I ?_
      obtain ⟨ts, e, q⟩ := hw
      obtain ⟨ts', e3, rfl⟩ := Option.map_eq_some_iff.mp (show (Pt.vals x ps0).map (fun ts => t0 :: ts) = some ts from e)
      exact ⟨ts', e3, q⟩⟩
theorem pe_ct {g : Gx} {Y : Cx} {e : Expr} {tl : Tl} (x : Ex) (h : TlC e tl) : PE Y e (fun σ H Q => ∃ (W : Wd) (h : HS) (r : Sw.D), W.H = H ∧ RH g.K W h ∧ tl.val x = some r ∧ ∀ W2 v, Le W W2 → RH g.K W2 h → Rep g.K W2 r v → Q v W2.H) := by
  cases h with
  | @non p j => exact ⟨fun pins s σ H Q I hw => by
      obtain ⟨W, h0, r, rfl, rh, e, q⟩ := hw
      cases e
      exact (pe_non (X := Y) (j := j) (pos := p)).run pins s σ _ Q I (q W _ (.refl _) rh rep_non)⟩
  | @one t j p => exact ⟨fun pins s σ H Q I hw => by
      obtain ⟨W, h0, r, rfl, rh, e, q⟩ := hw
      cases e
      exact (pe_str (X := Y) (j := j) (pos := p)).run pins s σ _ Q I (q W _ (.refl _) rh rep_str)⟩
  | @tup es ps k p hp => exact ⟨fun pins s σ H Q I hw => (pe_tup (x1 := k) (pos := p) (pa_ct (x := x) hp)).run pins s σ H Q I (by
      obtain ⟨W, h0, r, rfl, rh, e, q⟩ := hw
      obtain ⟨ts, e1, e2⟩ := Option.bind_eq_some_iff.mp (show (Pt.vals x ps).bind (fun ts => if fits ts.length then some (D.tup (ts.map .str)) else none) = some r from e)
      split at e2
      · rename_i hz
        cases e2
        refine ⟨ts, e1, by rw [List.length_map]; exact of_decide_eq_true hz, fun np hn => ?_⟩
        obtain ⟨W2, eH, l2, rh2, r2⟩ := new_tup hn rh (reps_strs (ts := ts))
        rw [← eH]
        exact q W2 _ l2 rh2 r2
      · cases e2)⟩
theorem su_ct {g : Gx} {X : Cx} {e : Expr} {tl : Tl} {q : Pos} (h : TlC e tl) : SuOk X [.Return (some e) q] (suT g none tl) := by
  intro a oe cls d pn hz hf
  refine pss_one ⟨fun pins s σ H D I hw => ?_⟩
  obtain ⟨_, W, h0, x, r, eH, rh, er, e, k⟩ := hw
  exact (ps_ret (pos := q) (pe_ct (g := g) x h)).run pins s σ H D I ⟨W, h0, r, eH, rh, e, k⟩
/-! ### the clauses -/
structure Cl where
  y : Str
  m : List (Str × Bool)
  io : Option Nat
  tl : Tl
def clsR (x : Ex) : List Cl → Option D
  | [] => none
  | c :: l => match c.m.find? (fun p => p.1 == x.cls) with
    | some (_, true) => c.tl.val x
    | some (_, false) => clsR x l
    | none => none
def metR (cl : List Cl) (fin : Tl) (f : DE) : DE := fun τ h => match f τ h with
  | .ok _ h' => toRes (fin.val ⟨"", none⟩) h'
  | .exc x h' => toRes (clsR x cl) h'
  | .bad => .bad
abbrev clW (g : Gx) (cl : List Cl) : List (Value × Option Nat × Su) := cl.map fun c => (.ref (He.ga g.K c.y), c.io, suT g c.io c.tl)
/-- what each clause's class takes -/
def ClM (g : Gx) (cl : List Cl) : Prop := ∀ c ∈ cl, Mt g c.y c.m
/-- the clauses of the text -/
inductive ClE (g : Gx) (N : List Str) (sc : Scope) : List ExceptHandler → List Cl → Prop
  | nil : ClE g N sc [] []
  | one {y : Str} {m : List (Str × Bool)} {tl : Tl} {e : Expr} {p q q2 : Pos} {hs : List ExceptHandler} {l : List Cl} (hg : glB sc y = true) (hm : g.mg y = some (.ref (He.ga g.K y))) (h : TlC e tl) (r : ClE g N sc hs l) :
      ClE g N sc (.ExceptHandler (some (.Name y p)) none [.Return (some e) q] q2 :: hs) (⟨y, m, none, tl⟩ :: l)
  | as_ {y n : Str} {i : Nat} {m : List (Str × Bool)} {tl : Tl} {e : Expr} {p q q2 : Pos} {hs : List ExceptHandler} {l : List Cl} (hg : glB sc y = true) (hm : g.mg y = some (.ref (He.ga g.K y))) (hn : nmB N sc n i = true) (hl : decide (sc.names.lookup n = some .local) = true) (h : TlE g n e tl) (r : ClE g N sc hs l) :
      ClE g N sc (.ExceptHandler (some (.Name y p)) (some n) [.Return (some e) q] q2 :: hs) (⟨y, m, some i, tl⟩ :: l)
/-- the context of the def that meets -/
structure MeC (g : Gx) (Z : Cx) (N : List Str) (sc : Scope) : Prop where
  K : Z.K = g.K
  mg : Z.mg = g.mg
  N_ : Z.N = N
  sc_ : Z.env.scope = sc
  kind : ∀ x, Z.env.kindOf x = sc.names.lookup x
  gd : Z.A.guards = some []
  un : Z.A.units + 100 < cLine
  rp : glB sc "repr" = true
  rm : g.mg "repr" = none
theorem glB_at {sc : Scope} {Z : Cx} {x : Str} (hk : ∀ x, Z.env.kindOf x = sc.names.lookup x) (h : glB sc x = true) : Gl Z x ∧ (x == ("__debug__" : Str)) = false := by
  unfold glB at h
  simp only [Bool.and_eq_true, Bool.not_eq_true'] at h
  obtain ⟨⟨h1, h2⟩, _⟩ := h
  refine ⟨?_, h2⟩
  show Z.env.kindOf x = some .globalImplicit
  rw [hk]
  cases q : sc.names.lookup x with
  | none => rw [q] at h1; cases h1
  | some k => rw [q] at h1; cases k <;> first | rfl | cases h1
theorem cls_of {g : Gx} {Z : Cx} {N : List Str} {sc : Scope} (M : MeC g Z N sc) : ∀ {hs : List ExceptHandler} {cl : List Cl}, ClE g N sc hs cl → Cls Z hs (clW g cl)
  | _, _, .nil => .nil
  | _, _, .one hg hm h r => .one ⟨(glB_at M.kind hg).1, (glB_at M.kind hg).2, .inl (by rw [M.mg]; exact hm)⟩ (su_ct h) (cls_of M r)
  | _, _, .as_ hg hm hn hl h r => by
    obtain ⟨n1, n2, n3, n4⟩ := nmB_ok hn
    exact .as_ ⟨(glB_at M.kind hg).1, (glB_at M.kind hg).2, .inl (by rw [M.mg]; exact hm)⟩ (by rw [M.N_]; exact n1) (by rw [M.kind]; exact of_decide_eq_true hl) (su_tl ⟨M.K, M.mg, by rw [M.N_]; exact n1, by rw [M.sc_]; exact n2, n3, n4, (glB_at M.kind M.rp).1, by rw [M.mg]; exact M.rm, M.gd, M.un⟩ h) (cls_of M r)
/-- what is told of an exception x that the clauses take -/
def ExW (g : Gx) (cl : List Cl) (Q : VK) : XK := fun cls dd H => ∃ (W : Wd) (h : HS) (x : Ex) (r : Sw.D), W.H = H ∧ RH g.K W h ∧ ExR g.K g.mg W x cls dd ∧ clsR x cl = some r ∧ ∀ W2 v, Le W W2 → RH g.K W2 h → Rep g.K W2 r v → Q v W2.H
theorem exw_cl {g : Gx} {V : WX} {D : Ends} {cls : Value} {dd : Option Addr} {σ : L2.St} {H : Hp} : ∀ {cl : List Cl}, ClM g cl → ExW g cl D.rt cls dd H → wCl g.K V D (clW g cl) cls dd σ H
  | [], _, ⟨_, _, _, _, _, _, _, e, _⟩ => nomatch e
  | c :: l, hm, ⟨W, h, x, r, eH, rh, er, e, k⟩ => by
    have e : (match c.m.find? (fun p => p.1 == x.cls) with | some (_, true) => c.tl.val x | some (_, false) => clsR x l | none => none) = some r := e
    cases ef : c.m.find? (fun p => p.1 == x.cls) with
    | none => rw [ef] at e; cases e
    | some pr =>
      obtain ⟨z, b⟩ := pr
      rw [ef] at e
      have hz : z = x.cls := eq_of_beq (List.find?_some (p := fun p : Str × Bool => p.1 == x.cls) ef)
      subst hz
      obtain ⟨k1, k2⟩ := hm c List.mem_cons_self _ (List.mem_of_find?_eq_some ef)
      have ec := er.1
      rw [k1] at ec
      cases ec
      refine ⟨b, k2, fun hb a _ => ?_, fun hb => ?_⟩
      · subst hb
        show suR c.io (suT g c.io c.tl) a _ dd D σ H
        cases hio : c.io with
        | none => exact ⟨(fun j z => nomatch z), W, h, x, r, eH, rh, er, e, k⟩
        | some i => exact ⟨(fun j z => by cases z; exact ⟨σ, rfl⟩), W, h, x, r, eH, rh, er, e, k⟩
      · subst hb
        exact exw_cl (fun c' hc => hm c' (List.mem_cons_of_mem _ hc)) ⟨W, h, x, r, eH, rh, er, e, k⟩
end Sw

/-! Sw, part u: met(lambda: e), the call. -/
namespace Sw
open PySem PySem.Spec PyProof.Rows L2
variable [Tbs]
def FinW (g : Gx) (fin : Tl) (Q : VK) (H : Hp) : Prop := ∃ (W : Wd) (h : HS) (r : D), W.H = H ∧ RH g.K W h ∧ fin.val ⟨"", none⟩ = some r ∧ ∀ W2 v, Le W W2 → RH g.K W2 h → Rep g.K W2 r v → Q v W2.H
def metT (g : Gx) (cl : List Cl) (fin : Tl) : (XK → Hp → VK → Prop) → Hp → VK → Prop := fun tl H Q => tl (ExW g cl Q) H (fun _ H' => FinW g fin Q H')
theorem met_gives {X : Cx} {g : Gx} {Ng : List Str} {x a q : Str} {sg : Scope} {gad : Addr} {cdg : Value} {cl : List Cl} {fin : Tl} {fe : Expr} {h0 : ExceptHandler} {hs : List ExceptHandler} {p1 p2 p3 p4 p5 : Pos} (eK : X.K = g.K) (eM : X.mg = g.mg)
    (nd : Ng.Nodup) (hcl : ClE g Ng sg (h0 :: hs) cl) (hM : ClM g cl) (hf : TlC fe fin) (gd : X.A.guards = some []) (un : X.A.units + 110 < cLine) (rp : glB sg "repr" = true) (rm : g.mg "repr" = none) (ht : ∀ f : Addr, (L2.start Ng [V.ref f])[0]? = some (some (V.ref f)))
    (hsw : ∀ env, swapsWith (.Call (.Name a p1) [] [] p2) none p3.line env = pure false) :
    LamX.GivesTo X Ng x sg gad cdg [.Try [.Expr (.Call (.Name a p1) [] [] p2) p3] (h0 :: hs) [] [] p4, .Return (some fe) p5] a q (metT g cl fin) := by
  intro f c' s H Q tl act hc h
  have M : MeC g (cxOf C8.CX0 X.prog X.w X.K X.mg X.base Ng x sg gad cdg X.A X.stack s H C8.E0).nox Ng sg := ⟨eK, eM, rfl, rfl, fun _ => rfl, gd, by show X.A.units + 3 + 100 < cLine; omega, rp, rm⟩
  refine ⟨_, pss_cons (ps_try_cls (X := (cxOf C8.CX0 X.prog X.w X.K X.mg X.base Ng x sg gad cdg X.A X.stack s H C8.E0).nox) (V := fun _ _ _ _ => False)
    (tb := fun W D σ H => ∃ Ech : XK, (∀ cls d σ' H', Ech cls d H' → W cls d σ' H') ∧ σ[0]? = some (some (.ref f)) ∧ H c' = some (LamX.CodeO c' q) ∧ tl Ech H (fun _ H' => D.nx σ H'))
    rfl rfl nd LamX.takes0 (fun W pn xe tk _ => ?_) (cls_of M hcl)) (pss_one (ps_ret (pe_ct (g := g) ⟨"", none⟩ hf))), ?_⟩
  · refine ⟨fun pins s' σ H' D I h' => ?_⟩
    obtain ⟨Ech, hW, h1, h2, h3⟩ := h'
    exact (pss_one (ps_expr (act W pn xe Ech p1 p2 tk hW) (hsw _))).run pins s' σ H' D I ⟨h1, h2, h3⟩
  · have eK' : (cxOf C8.CX0 X.prog X.w X.K X.mg X.base Ng x sg gad cdg X.A X.stack s H C8.E0).nox.K = g.K := eK
    refine ⟨ExW g cl Q, fun cls d σ' H' hx => ?_, ht f, hc, h⟩
    rw [eK']
    exact exw_cl hM hx
/-- what the body of a lambda is worth, as a reading -/
def semT (C : Cn) (f : DE) (E : XK) : TE := fun σ H Q => ∃ (W0 W : Wd) (τ : List Sl) (h : HS), W.H = H ∧ Le W0 W ∧ Frm C.g.K W0 W τ σ ∧ RH C.g.K W h ∧ okG C.g.K C.g.mg (Rep C.g.K) W (fun c dd H => E c dd H) Q (f τ h)
/-! ### a lambda is made -/
open LamX in
/-- what the making leaves: nothing new, or a longer table and a code object -/
def Gr (H H1 : Hp) (P : Addr) (q : Str) : Prop := H1 = H ∨ ∃ (ps more : Array Value) (c : Addr), H P = some (.tbl ps) ∧ H c = none ∧ H1 = upd (upd H P (.tbl (ps ++ more))) c (CodeO c q)
open LamX in
theorem Gr.ext {H H1 : Hp} {P : Addr} {q : Str} (g : Gr H H1 P q) : ExtN H H1 := by
  rcases g with rfl | ⟨ps, more, c, hP, hc, rfl⟩
  · exact ExtN.refl _
  · exact fun b o e n => by
      rw [upd_ne (ne_of_none e hc), upd_ne (fun z => n ps (Option.some.inj (e.symm.trans (by rw [z]; exact hP))))]
      exact e
open LamX in
theorem Gr.new {H H1 : Hp} {P : Addr} {q : Str} (g : Gr H H1 P q) {a : Addr} {ps : Array Value} (e : H1 a = some (.tbl ps)) : H a ≠ none := by
  rcases g with rfl | ⟨qs, more, c, hP, hc, rfl⟩
  · rw [e]; exact fun z => nomatch z
  · by_cases h1 : a = c
    · subst h1
      rw [upd_same] at e
      exact absurd (Option.some.inj e) (codeO_ne ps)
    · rw [upd_ne h1] at e
      by_cases h2 : a = P
      · subst h2; rw [hP]; exact fun z => nomatch z
      · rw [upd_ne h2] at e; rw [e]; exact fun z => nomatch z
section
open LamX
variable {X : Cx} {pins : List (Addr × Obj)} {σ : L2.St} {H : Hp} {s : Shared}
theorem lam_new {T : List (Addr × Str)} {c P : Addr} {params : Arguments} {body : Expr} {scope : Scope} {pos : Pos} {E Q : Value → Shared → Prop} (I : Inv X pins σ H s) (B : TabB X.base X.mg c P) (ec : X.env.code = .ref c) (hm : (P, X.env.qual ++ "<lambda>") ∈ T)
    (hu : ∀ p ∈ T, p.1 = P → p.2 = X.env.qual ++ "<lambda>") (hT : Tabs T H) (hd : defaultsOf params X.env = ([], [])) (hfr : ∀ y ∈ scope.names, y.2 = .free → ∃ c, X.env.cells.lookup y.1 = some c)
    (k : ∀ (f c' : Addr) (pm ctv : Value) (H1 : Hp) (z : Shared), Inv X pins σ H1 z → Gr H H1 P (X.env.qual ++ "<lambda>") → Tabs T H1 →
      z.heap.get? f = some (PySem.W.kla_obj "<lambda>" (X.env.qual ++ "<lambda>") params body scope (cloFrom X.env.cells scope.names []) pm c' ctv) → H1 f = none → f ∉ frs X.stack → H1 c' = some (CodeO c' (X.env.qual ++ "<lambda>")) → Q (.ref f) z) :
    wpAny (model X.prog X.w) X.A (eval (.Lambda params body scope pos) X.env) Q E s := by
  obtain ⟨ps, hP, tr, am⟩ := hT _ hm
  have bP := B.bm.keeps I.bk
  have gP : s.heap.get? P = some { cls := .none, data := .fields ps } := I.hok P _ hP
  have off : ∀ f, s.heap.objs.size ≤ f → f ∉ frs X.stack := fun f hf z => (List.mem_cons.mp (I.stkSub _ z)).elim (fun e => by have q := I.lt; rw [← e] at q; exact Nat.lt_irrefl _ (Nat.lt_of_lt_of_le q hf)) (I.nofs hf)
  refine PySem.W.kla_eval hd ?_
  cases ha : codeAmong pos ps.toList with
  | some cv =>
    obtain ⟨c', rfl, hco⟩ := am pos cv ha
    refine PySem.W.kla_makeFunctionHit (mg := X.mg) (c := c) (P := P) (ps := ps) (closure_ok hfr) I.ok.glob (I.mod.glob.keeps I.bk) ec (B.code.keeps I.bk) gP tr ha bP fun ctv g tk hx hsz => ?_
    exact k g.objs.size c' _ ctv H _ (I.kept (h' := g.push (PySem.W.kla_obj "<lambda>" (X.env.qual ++ "<lambda>") params body scope (cloFrom X.env.cells scope.names []) ((X.mg "__name__").getD .none) c' ctv)) (t' := tk) fun b o e => Heap.get?_push_of_some _ (hx b o e)) (.inl rfl) hT (Heap.get?_push_size _ rfl) (I.hok.fresh hsz) (off _ hsz) hco
  | none =>
    refine PySem.W.kla_makeFunction (mg := X.mg) (c := c) (P := P) (ps := ps) (closure_ok hfr) I.ok.glob (I.mod.glob.keeps I.bk) ec (B.code.keeps I.bk) gP tr ha B.gP bP fun c' ctv g tk hx hge hlt hrec htb => ?_
    obtain ⟨_, oc, vs, t, e2, ho, hdt, hv⟩ := hrec
    cases e2
    have nC : H c' = none := I.hok.fresh hge
    have hsz : s.heap.objs.size ≤ g.objs.size := Nat.le_trans hge (Nat.le_of_lt hlt)
    have gr : Gr H (upd (upd H P (.tbl (ps ++ #[rawInt pos.line, rawInt pos.col, .ref c']))) c' (CodeO c' (X.env.qual ++ "<lambda>"))) P (X.env.qual ++ "<lambda>") := .inr ⟨ps, _, c', hP, nC, rfl⟩
    have J := inv_table (t' := tk) (more := #[rawInt pos.line, rawInt pos.col, .ref c']) (h' := g.push (PySem.W.kla_obj "<lambda>" (X.env.qual ++ "<lambda>") params body scope (cloFrom X.env.cells scope.names []) ((X.mg "__name__").getD .none) c' ctv)) I hP (fun b o hb e => Heap.get?_push_of_some _ (hx b o hb e)) (Heap.get?_push_of_some _ htb) hge ⟨oc, vs, t, Heap.get?_push_of_some _ ho, hdt, hv⟩
    have el : (ps ++ #[rawInt pos.line, rawInt pos.col, .ref c']).toList = ps.toList ++ [rawInt pos.line, rawInt pos.col, .ref c'] := by simp
    refine k g.objs.size c' _ ctv _ _ J gr (fun p hp => ?_) (Heap.get?_push_size _ rfl) ?_ (off _ hsz) upd_same
    · by_cases hb : p.1 = P
      · rw [hu p hp hb, hb]
        refine ⟨_, by rw [upd_ne (ne_of_none hP nC), upd_same], by rw [el]; exact PySem.TriplesOk_snoc _ _ _ _ tr, fun p' cv hcv => ?_⟩
        rw [el] at hcv
        rcases among_app _ tr hcv with z | z
        · obtain ⟨c0, e1, e3⟩ := am p' cv z
          exact ⟨c0, e1, gr.ext _ _ e3 codeO_ne⟩
        · exact ⟨c', z, upd_same⟩
      · obtain ⟨qs, a1, a2, a3⟩ := hT p hp
        refine ⟨qs, by rw [upd_ne (ne_of_none a1 nC), upd_ne hb]; exact a1, a2, fun p' cv hcv => ?_⟩
        obtain ⟨c0, e1, e3⟩ := a3 p' cv hcv
        exact ⟨c0, e1, gr.ext _ _ e3 codeO_ne⟩
    · have n2 : g.objs.size ≠ P := Nat.ne_of_gt (Nat.lt_of_lt_of_le (Heap.lt_size gP) hsz)
      rw [upd_ne (Nat.ne_of_gt hlt), upd_ne n2]
      exact I.hok.fresh hsz
/-- x(lambda: e) -/
theorem pe_met {T : List (Addr × Str)} {TT : (XK → Hp → VK → Prop) → Hp → VK → Prop} {x a : Str} {g c P : Addr} {k : Nat} {pg : Arguments} {bg : List Stmt} {sg : Scope} {dV kV doc pm cdv ct oc : Value} {an od : Option Addr} {osl : Array (Option Value)} {Ng : List Str} {params : Arguments} {body : Expr} {scope : Scope} {t : XK → TE} {p lpos pos : Pos}
    (hg : Gl X x) (hm : X.mg x = some (.ref g)) (hk : PySem.W.keepIn X.K (.ref g) = true) (lk : X.K.lookup g = some ⟨oc, od, .func (PySem.W.fnOf x x pg bg sg dV kV doc pm an cdv ct), osl⟩) (hcg : PySem.W.codeIn X.K cdv x = true) (hb : L2.Binds X.K (PySem.W.fnOf x x pg bg sg dV kV doc pm an cdv ct) [a] [])
    (Sg : FnScope Ng [a] sg) (hNg : Ng[0]? = some a) (hva : Vis sg a) (hG : GivesTo X Ng x sg g cdv bg a (X.env.qual ++ "<lambda>") TT) (B : TabB X.base X.mg c P) (ec : X.env.code = .ref c) (hmT : (P, X.env.qual ++ "<lambda>") ∈ T) (hu : ∀ p ∈ T, p.1 = P → p.2 = X.env.qual ++ "<lambda>")
    (hr : Room (k + 2) X.A) (L : LamS X.env.scope scope) (hd : defaultsOf params X.env = ([], [])) (hbn : ∀ (q : Str) (cl : List (Str × Addr)) (pm cv ctv : Value), bindArgs (PySem.W.kla_fn "<lambda>" q params body scope cl pm cv ctv) ⟨[], []⟩ = pure [])
    (hbody : ∀ (A : Around) (outer : List Env) (s : Shared) (H : Hp) (E : XK) (f c' : Addr), Room k (A.deeper (lamEnv X scope s.heap.objs.size f c')) → PE (lamCx X A outer s H E scope f c') body (t E))
    (h1 : (x == ("__debug__" : Str)) = false) (h2 : (a == ("__debug__" : Str)) = false) (h3 : (a == ("__classdict__" : Str)) = false) :
    PE X (.Call (.Name x p) [.Lambda params body scope lpos] [] pos) (fun σ H Q => Tabs T H ∧ ∀ H1, Gr H H1 P (X.env.qual ++ "<lambda>") → Tabs T H1 → TT (fun E H' Q' => t E σ H' Q') H1 Q) := by
  refine ⟨fun pins s σ H Q I hw => ?_⟩
  obtain ⟨hT, hw⟩ := hw
  refine wpAny_Call_Name_kw (ld_glob I hg hm (PySem.W.callWith_K (h₀ := X.base) I.ok.mod.kin hk ?_ (by rfl) (by rfl)) h1)
  show wpAny _ _ (spliced ((false, eval (.Lambda params body scope lpos) X.env) :: backTo pos (starEach [] X.env))) _ _ s
  refine Calls.spliced_cons (lam_new I B ec hmT hu hT hd (L.has I.ok) fun f c' pm' ctv H1 z J gr T1 hf hfn hfo hco => Calls.spliced_nil ⟨J.kIn, ?_⟩)
  have run : codeAny (model X.prog X.w) X.A (.call (.ref g) ⟨[.ref f], []⟩) (CR C8.CX0 X.stack X.prog X.w H1 z Q C8.E0) z :=
    run_ofS (N := Ng) (ps := [a]) (us := [.ref f]) (vs := [.ref f]) lk hcg Sg hr J.env0 (hb z [.ref f] J.kIn rfl) (.cons rfl .nil) rfl fun hr' => by
      obtain ⟨t', ht', hq'⟩ := hG f c' z H1 Q (fun E H' Q' => t E σ H' Q') (fun W pn xe E p1 p2 tk hW => pe_act (i := 0) J L hf hfn hfo (hbn _ _ _ _ _) tk hW hr' (fun A outer s H hr2 => hbody A outer s H E f c' hr2) hNg hva h2 h3) hco (hw H1 gr T1)
      exact ⟨t', ht'.nox, hq'⟩
  refine wpAny_call (codeAny_mono run fun r s2 hq => ?_)
  match r, hq with
  | .error e, hq => exact (show False from hq).elim
  | .ok (.ret u), hq => exact J.after hq
end
/-- the world behind the making of a lambda -/
def Wd.grow (W : Wd) (H1 : Hp) : Wd := ⟨fun a => W.F a ∨ (W.H a = none ∧ H1 a ≠ none), W.ρ, H1⟩
theorem tabs_of {K : PySem.W.Frag} {W : Wd} {h : HS} (rh : RH K W h) : LamX.Tabs Tbs.T W.H := fun p hp => by
  obtain ⟨_, ps, h1, h2, h3⟩ := rh.tb p hp
  exact ⟨ps, h1, h2, fun pos cv hc => let ⟨c, e1, _, e3⟩ := h3 pos cv hc; ⟨c, e1, e3⟩⟩
section
variable {K : PySem.W.Frag} {W : Wd} {h : HS} {H1 : Hp}
theorem grow_keep (rh : RH K W h) (e : LamX.ExtN W.H H1) {a : Addr} {o : HO} (ha : W.H a = some o) (n : tblO o = false) : H1 a = some o := e a o ha fun ps z => by rw [z] at n; cases n
theorem grow_tab (rh : RH K W h) (t : LamX.Tabs Tbs.T H1) {a : Addr} {ps : Array Value} (ha : W.H a = some (.tbl ps)) : W.F a ∧ ∃ ps', H1 a = some (.tbl ps') := by
  obtain ⟨q, hq⟩ := rh.tn a ps ha
  obtain ⟨f, _⟩ := rh.tb _ hq
  obtain ⟨ps', h1, _⟩ := t _ hq
  exact ⟨f, ps', h1⟩
theorem grow_lef (rh : RH K W h) (e : LamX.ExtN W.H H1) : LeF W (W.grow H1) where
  fr := fun a f => .inl f
  st := fun a u n f r => by
    rcases r with r | ⟨o, r⟩
    · exact .inl (grow_keep rh e r n)
    · exact .inr ⟨o, grow_keep rh e r rfl⟩
  sl := fun a o q f r => grow_keep rh e r (by cases o <;> first | rfl | cases q)
  rh := List.prefix_refl _
theorem grow_le (rh : RH K W h) (e : LamX.ExtN W.H H1) (t : LamX.Tabs Tbs.T H1) : Le W (W.grow H1) where
  toLeF := grow_lef rh e
  fo := fun a o r nf nr => by
    have n : tblO o = false := by
      cases o with
      | tbl ps => exact absurd (grow_tab rh t r).1 nf
      | _ => rfl
    exact ⟨grow_keep rh e r n, fun z => z.elim nf fun q => ne_of_none r q.1 rfl |>.elim, nr⟩
theorem grow_rh (rh : RH K W h) (e : LamX.ExtN W.H H1) (t : LamX.Tabs Tbs.T H1) (nw : ∀ a ps, H1 a = some (.tbl ps) → W.H a ≠ none) : RH K (W.grow H1) h where
  len := rh.len
  nd := rh.nd
  at_ := fun i xs a e1 e2 => by
    obtain ⟨vs, q, r⟩ := rh.at_ i xs a e1 e2
    exact ⟨vs, grow_keep rh e q rfl, Reps.mono (grow_lef rh e) _ _ r⟩
  nf := fun a m z => z.elim (rh.nf a m) fun q => rh.there m q.1
  up := fun a z => by
    rcases z with f | q
    · cases r : W.H a with
      | none => exact absurd r (rh.up a f)
      | some o =>
        show H1 a ≠ none
        cases o with
        | tbl ps => obtain ⟨_, ps', q⟩ := grow_tab rh t r; rw [q]; exact fun z => nomatch z
        | _ => rw [grow_keep rh e r rfl]; exact fun z => nomatch z
    · exact q.2
  tf := fun a xs q => by
    have q : H1 a = some (.tup xs) := q
    cases r : W.H a with
    | none => exact .inr ⟨r, by rw [q]; exact fun z => nomatch z⟩
    | some o =>
      cases o with
      | tbl ps => obtain ⟨_, ps', z⟩ := grow_tab rh t r; rw [q] at z; cases z
      | tup ys => exact .inl (rh.tf a ys r)
      | _ => have z := grow_keep rh e r rfl; rw [q] at z; cases z
  tb := fun p hp => by
    obtain ⟨f, _⟩ := rh.tb p hp
    obtain ⟨ps, h1, h2, h3⟩ := t p hp
    refine ⟨.inl f, ps, h1, h2, fun pos cv hc => ?_⟩
    obtain ⟨c, e1, e2⟩ := h3 pos cv hc
    refine ⟨c, e1, ?_, e2⟩
    cases r : W.H c with
    | none => exact .inr ⟨r, by rw [e2]; exact fun z => nomatch z⟩
    | some o =>
      cases o with
      | tbl ps => obtain ⟨_, ps', z⟩ := grow_tab rh t r; rw [e2] at z; cases z
      | ext φ => exact .inl (rh.cf c φ r)
      | _ => have z := grow_keep rh e r rfl; rw [e2] at z; cases z
  tn := fun a ps q => by
    have q : H1 a = some (.tbl ps) := q
    cases r : W.H a with
    | none => exact absurd r (nw a ps q)
    | some o =>
      cases o with
      | tbl ps => exact rh.tn a _ r
      | _ => have z := grow_keep rh e r rfl; rw [q] at z; cases z
  cf := fun a φ q => by
    have q : H1 a = some (.ext φ) := q
    cases r : W.H a with
    | none => exact .inr ⟨r, by rw [q]; exact fun z => nomatch z⟩
    | some o =>
      cases o with
      | tbl ps => obtain ⟨_, ps', z⟩ := grow_tab rh t r; rw [q] at z; cases z
      | ext ψ => exact .inl (rh.cf a ψ r)
      | _ => have z := grow_keep rh e r rfl; rw [q] at z; cases z
end
/-- the def that meets: its text, its clauses, its end -/
structure MetD (g : Gx) (x a : Str) (st : Stmt) (Ng : List Str) (cl : List Cl) (fin : Tl) : Prop where
  fn : ∃ (f : Addr) (fd : FuncData), FunD g.K x x (defArgs st) (defBody st) (defScope st) [] [] f fd ∧ g.mg x = some (.ref f) ∧ L2.Binds g.K fd [a] []
  S : FnScope Ng [a] (defScope st)
  N0 : Ng[0]? = some a
  va : Vis (defScope st) a
  n1 : (a == ("__debug__" : Str)) = false
  n2 : (a == ("__classdict__" : Str)) = false
  sh : ∃ (p1 p2 p3 p4 p5 : Pos) (h0 : ExceptHandler) (hs : List ExceptHandler) (fe : Expr), defBody st = [.Try [.Expr (.Call (.Name a p1) [] [] p2) p3] (h0 :: hs) [] [] p4, .Return (some fe) p5] ∧ ClE g Ng (defScope st) (h0 :: hs) cl ∧ TlC fe fin ∧
    ∀ env, swapsWith (.Call (.Name a p1) [] [] p2) none p3.line env = pure false
  M : ClM g cl
  rp : glB (defScope st) "repr" = true
  rm : g.mg "repr" = none
  t0 : ∀ f : Addr, (L2.start Ng [V.ref f])[0]? = some (some (V.ref f))
section
variable {C : Cn} {x a : Str} {st : Stmt} {Ng : List Str} {cl : List Cl} {fin : Tl} {params : Arguments} {body : Expr} {scope : Scope} {f : DE} {k : Nat} {p lpos pos : Pos}
theorem den_met (Me : MetD C.g x a st Ng cl fin) (hl : C.lam = true) (hk : k + 2 ≤ C.k) (hg : glB C.sc x = true) (hL : LamX.lamSB C.sc scope = true) (hd : ∀ env, defaultsOf params env = ([], []))
    (hbn : ∀ (q : Str) (cl : List (Str × Addr)) (pm cv ctv : Value), bindArgs (PySem.W.kla_fn "<lambda>" q params body scope cl pm cv ctv) ⟨[], []⟩ = pure []) (hb : DenE ⟨C.g, k, C.N, scope, fun _ => false, false⟩ body f) :
    DenE C (.Call (.Name x p) [.Lambda params body scope lpos] [] pos) (metR cl fin f) := fun X E ok => by
  obtain ⟨g1, g2, g3⟩ := glB_ok ok hg
  obtain ⟨c, P, ec, B, hmT, hu⟩ := ok.lm hl
  obtain ⟨⟨fa, fd, F, hm, hbd⟩, S, N0, va, n1, n2, ⟨p1, p2, p3, p4, p5, h0, hs, fe, eb, hcl, hfe, hsw⟩, M, rp, rm, t0⟩ := Me
  obtain ⟨oc, od, dV, kV, doc, pm, an, cdv, ct, osl, rfl, lk, hcd, _, _⟩ := F.ex
  have gd := ok.gd hl
  have rm2 : Room (k + 2) X.A := ok.room.mono hk
  have hG : LamX.GivesTo X Ng x (defScope st) fa cdv (defBody st) a (X.env.qual ++ "<lambda>") (metT C.g cl fin) := by
    rw [eb]
    exact met_gives ok.K ok.mg S.nd hcl M hfe gd (by have := rm2.un; omega) rp rm t0 hsw
  have hbody : ∀ (A : Around) (outer : List Env) (s : Shared) (H : Hp) (E' : XK) (f' c' : Addr), Room k (A.deeper (LamX.lamEnv X scope s.heap.objs.size f' c')) → PE (LamX.lamCx X A outer s H E' scope f' c') body (semT C f E') := by
    intro A outer s H E' f' c' hr'
    have ok' : CxOk ⟨C.g, k, C.N, scope, fun _ => false, false⟩ (LamX.lamCx X A outer s H E' scope f' c') (fun c d _ H => E' c d H) :=
      ⟨ok.prog, ok.w, ok.K, ok.mg, ok.base, ok.names, ok.nd, rfl, rfl, hr', takes_of rfl rfl rfl rfl, passes_of rfl, fun _ z => z, (fun z => nomatch (z "")), (fun z => nomatch z), (fun z => nomatch z)⟩
    obtain ⟨t', pt, qt⟩ := hb _ _ ok'
    refine ⟨fun pins s' σ H' Q I hw => pt.run pins s' σ H' Q I ?_⟩
    obtain ⟨W0, W, τ, h, rfl, l, fr, rh, o⟩ := hw
    exact qt W0 W τ σ h Q l fr rh o
  refine ⟨_, pe_met (T := Tbs.T) (TT := metT C.g cl fin) (t := semT C f) (c := c) (P := P) (k := k) g1 (by rw [ok.mg]; exact hm) (by rw [ok.K]; exact F.kp) (by rw [ok.K]; exact lk) (by rw [ok.K]; exact hcd) (by rw [ok.K]; exact hbd) S N0 va hG B ec hmT hu rm2 (LamX.lamS_by (by rw [ok.scope]; exact hL)) (hd _) hbn hbody g2 n1 n2, fun W0 W τ σ h Q l fr rh o => ?_⟩
  refine ⟨tabs_of rh, fun H1 gr T1 => ?_⟩
  have lg := grow_le rh gr.ext T1
  have rg := grow_rh rh gr.ext T1 (fun a ps e => gr.new e)
  refine ⟨W0, W.grow H1, τ, h, rfl, l.trans lg, fr.mono lg, rg, ?_⟩
  unfold metR at o
  cases ef : f τ h with
  | bad => rw [ef] at o; exact (show False from o).elim
  | ok d h' =>
    rw [ef] at o
    intro W' b l' rh' rb
    obtain ⟨r, er, kk⟩ := toRes_some o
    exact ⟨W', h', r, rfl, rh', er, fun W2 v l2 rh2 r2 => kk W2 v ((lg.trans l').trans l2) rh2 r2⟩
  | exc y h' =>
    rw [ef] at o
    intro W' b dd l' rh' rb
    obtain ⟨r, er, kk⟩ := toRes_some o
    exact ⟨W', h', y, r, rfl, rh', rb, er, fun W2 v l2 rh2 r2 => kk W2 v ((lg.trans l').trans l2) rh2 r2⟩
end
end Sw

/-! Sw, part v: defs of the law's own level (nothing is under way; lambdas); the head's facts; the law's end. -/
namespace Sw
open PySem PySem.Spec PyProof.Rows L2
section
variable [Tbs]
/-! ### repr as a built-in -/
def reprLG : List D → Option D
  | [d] => (reprD d).map .str
  | _ => none
theorem Bor.frozen {K : PySem.W.Frag} {W : Wd} {d : D} {v : V} (b : Bor K W d v) : ∃ W2 : Wd, W2.H = W.H ∧ Rep K W2 d v := by
  rcases b with b | b
  · exact ⟨W, rfl, b⟩
  · cases d with
    | lst xs => obtain ⟨a, vs, rfl, h, r, _⟩ := b; exact ⟨W.frz a, rfl, by rw [Rep]; exact ⟨a, vs, rfl, ⟨.inr rfl, h⟩, r.mono (lef_frz _ _)⟩⟩
    | dK xs => obtain ⟨a, vs, rfl, h, r, _⟩ := b; exact ⟨W.frz a, rfl, by rw [Rep]; exact ⟨a, vs, rfl, .inr rfl, .inl h, r.mono (lef_frz _ _)⟩⟩
    | dT xs => obtain ⟨a, vs, rfl, h, r, _⟩ := b; exact ⟨W.frz a, rfl, by rw [Rep]; exact ⟨a, vs, rfl, .inr rfl, .inl h, r.mono (lef_frz _ _)⟩⟩
    | _ => exact b.elim
theorem c_reprL {C : Cn} (hl : C.lam = true) : CalD C (.builtin "repr") reprLG := fun X E ok => ⟨_, call_repr (ok.gd hl) (by have := ok.room.un; omega), fun W h ds vs d Q rh b e k => by
  unfold reprLG at e
  split at e
  · obtain ⟨v, rfl, b1⟩ := BorsAll.one b
    obtain ⟨s, es, rfl⟩ := Option.map_eq_some_iff.mp e
    obtain ⟨W2, eH, r2⟩ := b1.frozen
    exact ⟨W2, _, v, s, rfl, eH, by rw [ok.K]; exact r2, es, k W _ (.refl _) rh rep_str⟩
  · cases e⟩
/-! ### defs of the law's own level -/
def FnDL (g : Gx) (x : Str) (n k : Nat) (φ : DF) : Prop :=
  ∃ (f : Addr) (fd : FuncData) (ps : List Str), FnG g true k f fd ps (spOf g n φ) ∧ g.mg x = some (.ref f) ∧ PySem.W.keepIn g.K (.ref f) = true ∧ L2.Binds g.K fd ps []
section
variable {C : Cn} {x : Str} {e : Expr} {es : List Expr} {fs : DA} {φ : DF} {n k : Nat} {p pos : Pos}
theorem den_callL (F : FnDL C.g x n k φ) (hl : C.lam = true) (hk : k ≤ C.k) (hg : glB C.sc x = true) (ha : DenA C (e :: es) fs)
    (he : ∀ env, starEach (e :: es) env = (false, eval e env) :: starEach es env) (hpl : ∀ env, (backTo pos (starEach es env)).any (·.1) = false) : DenE C (.Call (.Name x p) (e :: es) [] pos) (callR n φ fs) := fun X E ok => by
  obtain ⟨t, pa, q⟩ := ha X E ok
  obtain ⟨f, fd, ps, F, m, kp, b⟩ := F
  obtain ⟨g1, g2, g3⟩ := glB_ok ok hg
  refine ⟨_, pe_callG (b := true) (E := WE E) (sp := spOf C.g n φ) (by rw [ok.prog, ok.w, ok.K, ok.mg, ok.base]; exact F) (ok.room.mono hk) (fun _ => ok.gd hl) g1 (by rw [ok.mg]; exact m) (by rw [ok.K]; exact kp) (by rw [ok.K]; exact b) (fun σ => passAt ok.takes σ) pa g2 (he _) (hpl _), fun W0 W τ σ h Q l fr rh o => ?_⟩
  refine q W0 W τ σ h _ l fr rh (okG.bind o fun ds h1 W1 vs l1 rh1 b1 o1 => ?_)
  by_cases hn : ds.length = n
  · rw [if_pos hn] at o1
    exact ⟨by rw [← b1.length]; exact hn, W1, ds, h1, rfl, rh1, b1, o1⟩
  · rw [if_neg hn] at o1; exact o1.elim
end
/-- what a def with lambdas leans on: its code object, its table -/
def LamAt (g : Gx) (x : Str) : Prop := ∃ P, LamX.TabB g.base g.mg (He.codeOf g.K (x, none)) P ∧ (P, x ++ ".<locals>." ++ "<lambda>") ∈ Tbs.T ∧ ∀ p ∈ Tbs.T, p.1 = P → p.2 = x ++ ".<locals>." ++ "<lambda>"
theorem fng_L {g : Gx} {x : Str} {params : Arguments} {body : List Stmt} {scope : Scope} {fd : FuncData} {N ps : List Str} {k : Nat} {fb : DS} (F : FunD g.K x x params body scope [] [] (He.fAd g.K (x, none)) fd) (S : FnScope N ps scope) (hA : LamAt g x)
    (hbody : DenSs ⟨g, k, N, scope, fun _ => true, true⟩ body fb) : FnG g true (k + 1) (He.fAd g.K (x, none)) fd ps (spOf g ps.length (fnR N.length fb)) := by
  obtain ⟨oc, od, dV, kV, doc, pm, an, cdv, ct, osl, rfl, lk, hcd, _, _⟩ := F.ex
  obtain ⟨c, rfl⟩ := He.codeIn_ref hcd
  have hc : He.codeOf g.K (x, none) = c := He.codeOf_eq lk rfl
  obtain ⟨P, hB, hm, hu⟩ := hA
  rw [hc] at hB
  refine FnG.made lk hcd S (fun vs H Q E h => h.1) fun A outer s H vs Q E hr gd h => ?_
  obtain ⟨hl, W, ds, h0, rfl, rh, r, o⟩ := h
  have ok : CxOk ⟨g, k, N, scope, fun _ => true, true⟩ (cxOf (L2.CX g.P g.w) g.P g.w g.K g.mg g.base N x scope (He.fAd g.K (x, none)) (.ref c) A outer s W.H E) (fun c d _ H => E c d H) :=
    ⟨rfl, rfl, rfl, rfl, rfl, rfl, S.nd, rfl, rfl, hr, takes_of rfl rfl rfl rfl, passes_of rfl, fun _ _ => rfl, fun _ => ⟨rfl, rfl⟩, gd, fun _ => ⟨c, P, rfl, hB, hm, hu⟩⟩
  obtain ⟨t, p, q⟩ := hbody _ _ ok
  refine ⟨t, p, q W W _ _ h0 _ (.refl _) (frm_start r) rh ?_⟩
  have o : okG g.K g.mg (Rep g.K) W E Q (match fb (ds.map Sl.val ++ List.replicate (N.length - ds.length) Sl.un) h0 with | .rt d h' => .ok d h' | .nx _ h' => .ok .non h' | .exc x h' => .exc x h' | _ => .bad) := o
  cases ef : fb (ds.map Sl.val ++ List.replicate (N.length - ds.length) Sl.un) h0 with
  | rt d h' => rw [ef] at o; exact fun W' v l _ rh' r' => o W' v l rh' r'
  | nx τ h' => rw [ef] at o; exact fun W' σ l _ fr rh' => o W' _ l rh' rep_non
  | exc x h' => rw [ef] at o; exact fun W' c dd σ l _ rh' r' => o W' c dd l rh' r'
  | bk _ _ => rw [ef] at o; exact o.elim
  | ct _ _ => rw [ef] at o; exact o.elim
  | bad => rw [ef] at o; exact o.elim
theorem Tx.defL {fa : List He.Fa} {fn : List He.DefD} {g : Gx} (T : Tx fa fn g) (j i : Nat) {x : Str} {st : Stmt} {N ps : List Str} {k : Nat} {fb : DS} (hA : LamAt g x) (hd : fn[j]? = some (dfd x st)) (hx : fa[i]? = some (.glo x)) (S : FnScope N ps (defScope st))
    (hb : ∀ (kV doc pm : Value) (an : Option Addr) (cdv ct : Value) (us : List Value), us.length = ps.length → bindArgs (PySem.W.fnOf x x (defArgs st) (defBody st) (defScope st) .none kV doc pm an cdv ct) ⟨us, []⟩ = pure (ps.zip us))
    (hbody : DenSs ⟨g, k, N, defScope st, fun _ => true, true⟩ (defBody st) fb) : FnDL g x ps.length (k + 1) (fnR N.length fb) := by
  obtain ⟨fd, F⟩ := T.c.def_ j hd
  exact ⟨_, fd, ps, fng_L F S hA hbody, T.glo i hx, F.kp, FunD.bindsN F hb⟩
/-- a def whose text meets: its facts -/
theorem Tx.met {fa : List He.Fa} {fn : List He.DefD} {g : Gx} (T : Tx fa fn g) (j i : Nat) {x a : Str} {st : Stmt} {Ng : List Str} {cl : List Cl} {fin : Tl} (hd : fn[j]? = some (dfd x st)) (hx : fa[i]? = some (.glo x)) (S : FnScope Ng [a] (defScope st))
    (hb : ∀ (kV doc pm : Value) (an : Option Addr) (cdv ct : Value) (us : List Value), us.length = 1 → bindArgs (PySem.W.fnOf x x (defArgs st) (defBody st) (defScope st) .none kV doc pm an cdv ct) ⟨us, []⟩ = pure ([a].zip us))
    (N0 : Ng[0]? = some a) (va : nmB Ng (defScope st) a 0 = true) (p1 p2 p3 p4 p5 : Pos) (h0 : ExceptHandler) (hs : List ExceptHandler) (fe : Expr) (eb : defBody st = [.Try [.Expr (.Call (.Name a p1) [] [] p2) p3] (h0 :: hs) [] [] p4, .Return (some fe) p5])
    (hcl : ClE g Ng (defScope st) (h0 :: hs) cl) (hfe : TlC fe fin) (hsw : ∀ env, swapsWith (.Call (.Name a p1) [] [] p2) none p3.line env = pure false) (M : ClM g cl) (rp : glB (defScope st) "repr" = true) (rm : g.mg "repr" = none) (t0 : ∀ f : Addr, (L2.start Ng [V.ref f])[0]? = some (some (V.ref f))) :
    MetD g x a st Ng cl fin := by
  obtain ⟨fd, F⟩ := T.c.def_ j hd
  obtain ⟨_, v2, v3, v4⟩ := nmB_ok va
  exact ⟨⟨_, fd, F, T.glo i hx, FunD.bindsN F hb⟩, S, N0, v2, v3, v4, ⟨p1, p2, p3, p4, p5, h0, hs, fe, eb, hcl, hfe, hsw⟩, M, rp, rm, t0⟩
end
end Sw

/-! Sw, part w: the head's facts for laws of errors; the law's end. -/
namespace Sw
open PySem PySem.Spec PyProof.Rows L2
/-! ### classes of exceptions with an __init__ of their own -/
structure XiD where
  x : Str
  T : Xi.Tx
  B : String
  newId : String
  i : String
  bmB : List Value
abbrev XiW : Type := Option (Str × Str × Arguments × FuncBody × Scope × Addr × List Str × Addr)
def xiW (K : PySem.W.Frag) (x : Str) : XiW := match K.lookup (He.fAd K (x, some "__init__")) with
  | some ⟨_, _, .func fd, _⟩ => some (fd.name, fd.qualname, fd.params, fd.body, fd.scope, fd.globals, fd.closure.map (·.1), fd.builtins)
  | _ => none
def XiD.val (d : XiD) : XiW := some ("__init__", d.x ++ ".__init__", d.T.pr, .stmts d.T.body, d.T.scope, mainGlobals, ["__class__"], builtinsNs)
def clsHas (K : PySem.W.Frag) (C : Addr) : Bool := match PySem.W.clsIn K C with
  | some cd => cd.hasDict
  | none => false
def cellIs (K : PySem.W.Frag) (cc C : Addr) : Bool := match K.lookup cc with
  | some ⟨_, _, .cell (some v), _⟩ => decide (v = .ref C)
  | _ => false
def fileIs (K : PySem.W.Frag) (cda : Addr) (file : Str) : Bool := match K.lookup cda with
  | some ⟨_, _, .fields vs, _⟩ => (match (vs[2]? : Option Value) with
    | some (.str f _) => file == f
    | _ => false)
  | _ => false
def initC (file : Str) (K : PySem.W.Frag) (x : Str) : Value → List (Str × Addr) → Bool
  | .ref cda, [p] => PySem.W.codeIn K (.ref cda) (x ++ ".__init__") && (cellIs K p.2 (He.ga K x) && fileIs K cda file)
  | _, _ => false
def noneV : Value → Bool
  | .none => true
  | _ => false
def initB (file : Str) (K : PySem.W.Frag) (x : Str) : Bool := match K.lookup (He.fAd K (x, some "__init__")) with
  | some ⟨_, _, .func fd, _⟩ => noneV fd.defaults && initC file K x fd.code fd.closure
  | _ => false
def xiB (file : Str) (K : PySem.W.Frag) (d : XiD) : Bool :=
  PySem.W.excInitIn K (He.ga K d.x) d.bmB d.newId && (PySem.W.excOver K (He.ga K d.x) d.bmB && (clsHas K (He.ga K d.x) && (decide (PySem.W.mroIn K (He.ga K d.x) (.ref (He.ga K d.x)) = some true) && (decide (PySem.W.subIn K (.ref (He.ga K d.x)) (.type d.B) = some true) &&
  (decide (PySem.W.subIn K (.ref (He.ga K d.x)) (.type "BaseException") = some true) && (decide (PySem.W.typeIn K (.ref (He.ga K d.x)) = some (.type "type")) && (PySem.W.keepIn K (.ref (He.ga K d.x)) && (He.eqO (PySem.W.ks_superIn K (He.ga K d.x) (He.ga K d.x) "__init__") (some (some (.builtin d.i))) &&
  (He.eqO (PySem.W.findIn K (.ref (He.ga K d.x)) "__setattr__") (some (some (.builtin "object.__setattr__"))) && (He.eqO (PySem.W.takerIn K (He.ga K d.x) d.T.f) (some none) && (He.eqO (PySem.W.findIn K (.ref (He.ga K d.x)) "__init__") (some (some (.ref (He.fAd K (d.x, some "__init__"))))) &&
  (decide (PySem.W.typeIn K (.ref (He.fAd K (d.x, some "__init__"))) = some (.type "function")) && (initB file K d.x && (He.eqO (PySem.W.nsIn K mainGlobals "super") (some none) && (He.eqO (PySem.W.nsIn K cStatics "thirdparty.any") (some none) &&
  (xfB K (He.ga K d.x) && He.eqO (PySem.W.findIn K (.ref (He.ga K d.x)) d.T.f) (some none)))))))))))))))))
/-- what is plain of such a class -/
structure XiF (d : XiD) : Prop where
  FB : ExcBaseFacts d.B d.newId d.i d.bmB
  KF : PySem.W.KxsFacts d.B d.i
  SF : StoreFacts d.B d.bmB "object.__setattr__" "object"
  ln : d.T.Line
  ar : ∃ ar, (d.T.pr.posonlyargs ++ d.T.pr.args).head? = some ar ∧ ar.arg = ("self" : Str)
  s1 : d.T.scope.names.lookup ("super" : Str) = some .globalImplicit
  s2 : d.T.scope.names.lookup ("__class__" : Str) = some .free
  s3 : d.T.scope.names.lookup d.T.v = some .local
  v1 : d.T.v ≠ ("self" : Str)
  v2 : (d.T.v == ("__debug__" : Str)) = false
  bd : ∀ (q : Str) (cc : Addr) (kV doc pm : Value) (an : Option Addr) (cdv ct x u : Value), bindArgs (PySem.W.ksFn "__init__" q d.T.pr d.T.body d.T.scope .none kV doc pm an cdv ct cc) ⟨[x, u], []⟩ = pure [(("self" : Str), x), (d.T.v, u)]
theorem xi_ok {P : Program} {file : Str} {K : PySem.W.Frag} {d : XiD} (F : XiF d) (fl : P.main.file = file) (top : (P.main.scope.names.lookup ("super" : Str)).isSome = false) (e : xiW K d.x = d.val) (b : xiB file K d = true) : Xi.Ok P K (He.ga K d.x) d.B d.newId d.i d.bmB d.T ∧ XfC K (He.ga K d.x) ∧ PySem.W.findIn K (.ref (He.ga K d.x)) d.T.f = some none := by
  unfold xiB at b
  simp only [Bool.and_eq_true, decide_eq_true_eq] at b
  obtain ⟨b1, b2, b3, b4, b5, b6, b7, b8, b9, b10, b11, b12, b13, b14, b15, b16, b17, b18⟩ := b
  refine ⟨⟨F.FB, F.KF, F.SF, b1, b2, ?_, b4, b5, b6, b7, b8, He.eqO_ok b9, He.eqO_ok b10, He.eqO_ok b11, ?_, He.eqO_ok b15, He.eqO_ok b16, top⟩, xfB_ok b17, He.eqO_ok b18⟩
  · unfold clsHas at b3
    split at b3
    · rename_i cd hc; exact ⟨cd, hc, b3⟩
    · cases b3
  · unfold initB at b14
    unfold xiW at e
    cases q : K.lookup (He.fAd K (d.x, some "__init__")) with
    | none => rw [q] at b14; cases b14
    | some o =>
      obtain ⟨oc, od, dt, osl⟩ := o
      rw [q] at b14 e
      cases dt with
      | func fd =>
        obtain ⟨n1, n2, n3, n4, n5, n6, n7, n8, n9, n10, n11, n12, n13, n14, n15⟩ := fd
        have e2 : (some (n1, n2, n3, n4, n5, n6, n7.map (·.1), n15) : XiW) = d.val := e
        unfold XiD.val at e2
        simp only [Option.some.injEq, Prod.mk.injEq] at e2
        obtain ⟨h1, h2, h3, h4, h5, h6, h7, h8⟩ := e2
        subst h1 h2 h3 h4 h5 h6 h8
        have b14 : (noneV n8 && initC file K d.x n13 n7) = true := b14
        obtain ⟨b140, b14⟩ := Bool.and_eq_true_iff.mp b14
        have hn8 : n8 = .none := by cases n8 <;> first | rfl | cases b140
        subst hn8
        cases n13 with
        | ref cda =>
          cases n7 with
          | nil => cases b14
          | cons p r =>
            cases r with
            | cons _ _ => cases b14
            | nil =>
              have b14 : (PySem.W.codeIn K (.ref cda) (d.x ++ ".__init__") && (cellIs K p.2 (He.ga K d.x) && fileIs K cda file)) = true := b14
              simp only [Bool.and_eq_true] at b14
              obtain ⟨c1, c2, c3⟩ := b14
              obtain ⟨pn, cc⟩ := p
              have hpn : pn = ("__class__" : Str) := by simpa using h7
              subst hpn
              obtain ⟨ar, a1, a2⟩ := F.ar
              unfold cellIs at c2
              unfold fileIs at c3
              split at c2
              · rename_i cl cld v csl qc
                have hv := of_decide_eq_true c2
                subst hv
                split at c3
                · rename_i ccl cdd vs ccs qd
                  split at c3
                  · rename_i f tf qv
                    refine ⟨_, cda, cc, "__init__", d.x ++ ".__init__", d.T.pr, .none, n9, n10, n11, n14, oc, n12, od, osl, vs, f, tf, cl, ccl, cld, cdd, csl, ccs, ar, He.eqO_ok b12, b13, q, c1, qc, qd, qv, by rw [fl]; exact c3, a1, a2, F.s1, F.s2, F.s3, F.v1, F.v2, fun x u => F.bd _ _ _ _ _ _ _ _ x u⟩
                  · cases c3
                · cases c3
              · cases c2
        | _ => cases b14
      | _ => cases b14
/-! ### the Hook -/
abbrev AlL : Type := He.AlD × (List XiW × Bool)
abbrev tfD (tf : List Str) : List He.Defn := tf.map fun x => (x, none)
def asL (g : Addr → Option Obj) (n : Nat) : List Addr := He.asD g n ++ [cStatics]
def exL (file : Str) (bs : List (Str × String)) (xs : List XiD) (tf : List Str) (K : PySem.W.Frag) : Bool := blB bs K && (xs.all (fun q => xiB file K q) && decide ((tf.map fun x => (He.cT K (x, none)).2).Nodup))
def obsLK (fa : List He.Fa) (fn : List He.DefD) (bs : List (Str × String)) (xs : List XiD) (tf : List Str) (file : Str) (g : Addr → Option Obj) (K : PySem.W.Frag) : AlL := (He.obsD fa fn K, xs.map (fun q => xiW K q.x), exL file bs xs tf K && He.tabsB g (tfD tf) K)
def obsL (n : Nat) (fa : List He.Fa) (fn : List He.DefD) (bs : List (Str × String)) (xs : List XiD) (tf : List Str) (file : Str) (g : Addr → Option Obj) : AlL := obsLK fa fn bs xs tf file g (He.frT g (asL g n))
def valL (fn : List He.DefD) (xs : List XiD) : AlL := (He.valD fn, xs.map XiD.val, true)
structure SaysL (fa : List He.Fa) (fn : List He.DefD) (bs : List (Str × String)) (xs : List XiD) (tf : List Str) (file : Str) (h : Heap) (K : PySem.W.Frag) : Prop where
  d : He.SaysD fa fn K
  x : ∀ q ∈ xs, xiW K q.x = q.val
  bl : blB bs K = true
  xb : ∀ q ∈ xs, xiB file K q = true
  nd : (tf.map fun x => (He.cT K (x, none)).2).Nodup
  hd : ∀ x ∈ tf, PySem.W.codeHdIn K (He.cT K (x, none)).1 (He.cT K (x, none)).2 = true
  out : ∀ x ∈ tf, K.lookup (He.cT K (x, none)).2 = none
  empty : ∀ x ∈ tf, h.get? (He.cT K (x, none)).2 = some { cls := .none, data := .fields #[] }
theorem map_eq_at {α β : Type} {f g : α → β} : ∀ {l : List α}, l.map f = l.map g → ∀ q ∈ l, f q = g q
  | [], _, q, h => nomatch h
  | a :: l, e, q, h => by
    injection e with e1 e2
    rcases List.mem_cons.mp h with rfl | h
    · exact e1
    · exact map_eq_at e2 q h
theorem saysL_of {n : Nat} {fa : List He.Fa} {fn : List He.DefD} {bs : List (Str × String)} {xs : List XiD} {tf : List Str} {file : Str} {h : Heap} (e : obsL n fa fn bs xs tf file h.get? = valL fn xs) : SaysL fa fn bs xs tf file h (He.frT h.get? (asL h.get? n)) := by
  have e1 := congrArg (fun z : AlL => z.1) e
  have e2 := congrArg (fun z : AlL => z.2.1) e
  have e3 : (exL file bs xs tf (He.frT h.get? (asL h.get? n)) && He.tabsB h.get? (tfD tf) (He.frT h.get? (asL h.get? n))) = true := congrArg (fun z : AlL => z.2.2) e
  unfold exL at e3
  simp only [Bool.and_eq_true, decide_eq_true_eq] at e3
  obtain ⟨⟨b1, b2, b3⟩, b4⟩ := e3
  have key : ∀ x ∈ tf, PySem.W.codeHdIn (He.frT h.get? (asL h.get? n)) (He.cT (He.frT h.get? (asL h.get? n)) (x, none)).1 (He.cT (He.frT h.get? (asL h.get? n)) (x, none)).2 = true ∧ ∃ o, h.get? (He.cT (He.frT h.get? (asL h.get? n)) (x, none)).2 = some o ∧ He.emptyTab o = true := fun x hx => by
    have z := List.all_eq_true.mp b4 (x, none) (List.mem_map.mpr ⟨x, hx, rfl⟩)
    obtain ⟨z1, z2⟩ := Bool.and_eq_true_iff.mp z
    refine ⟨z1, ?_⟩
    cases q : h.get? (He.cT (He.frT h.get? (asL h.get? n)) (x, none)).2 with
    | none => rw [q] at z2; cases z2
    | some o => rw [q] at z2; exact ⟨o, rfl, z2⟩
  exact ⟨e1, map_eq_at e2, b1, fun q hq => List.all_eq_true.mp b2 q hq, b3, fun x hx => (key x hx).1, fun x hx => by
    obtain ⟨_, o, q, z⟩ := key x hx
    exact He.frT_none q z, fun x hx => by
    obtain ⟨_, o, q, z⟩ := key x hx
    rw [q, He.emptyTab_eq z]⟩
def hookL (n : Nat) (fa : List He.Fa) (fn : List He.DefD) (bs : List (Str × String)) (xs : List XiD) (tf : List Str) (file : Str) : PySem.W.Hook where
  α := AlL
  obs := fun s => obsL n fa fn bs xs tf file s.heap.get?
  val := fun _ => valL fn xs
  says := fun _ h => ∃ K : PySem.W.Frag, K.In h ∧ SaysL fa fn bs xs tf file h K
  of := fun _ _ e => ⟨_, He.frT_in, saysL_of e⟩
  keeps := fun _ _ _ ⟨K, hK, c⟩ k => ⟨K, PySem.W.Frag.In.keeps hK k, ⟨c.d, c.x, c.bl, c.xb, c.nd, c.hd, c.out, fun x hx => k _ _ (c.empty x hx)⟩⟩
theorem obsL_eq {n : Nat} {fa : List He.Fa} {fn : List He.DefD} {bs : List (Str × String)} {xs : List XiD} {tf : List Str} {file : Str} {g : Addr → Option Obj} {s : Shared} (h : ∀ a, g a = s.heap.get? a) : obsL n fa fn bs xs tf file g = (hookL n fa fn bs xs tf file).obs s := by
  have e : g = s.heap.get? := funext h
  rw [e] <;> rfl
/-- a law's text: its facts -/
structure TL [Tbs] (fa : List He.Fa) (fn : List He.DefD) (bs : List (Str × String)) (xs : List XiD) (tf : List Str) (file : Str) (g : Gx) : Prop extends TxB fa fn bs g where
  xi : ∀ q ∈ xs, xiW g.K q.x = q.val ∧ xiB file g.K q = true
  la : ∀ x ∈ tf, LamAt g x
  fl : g.P.main.file = file
  top : (g.P.main.scope.names.lookup ("super" : Str)).isSome = false
section
variable [Tbs] {fa : List He.Fa} {fn : List He.DefD} {bs : List (Str × String)} {xs : List XiD} {tf : List Str} {file : Str} {g : Gx}
theorem TL.xc (T : TL fa fn bs xs tf file g) (i j : Nat) {d : XiD} (F : XiF d) (e : xs[i]? = some d) (gl : fa[j]? = some (.glo d.x)) : XcC g d.x d.T :=
  ⟨T.glo j gl, ⟨_, _, _, _, (xi_ok F T.fl T.top (T.xi d (List.mem_of_getElem? e)).1 (T.xi d (List.mem_of_getElem? e)).2).1⟩, F.ln⟩
theorem TL.kc (T : TL fa fn bs xs tf file g) (i j : Nat) {d : XiD} (F : XiF d) (e : xs[i]? = some d) (gl : fa[j]? = some (.glo d.x)) : KeptC g d.x d.T.f :=
  ⟨T.glo j gl, (xi_ok F T.fl T.top (T.xi d (List.mem_of_getElem? e)).1 (T.xi d (List.mem_of_getElem? e)).2).2.1, (xi_ok F T.fl T.top (T.xi d (List.mem_of_getElem? e)).1 (T.xi d (List.mem_of_getElem? e)).2).2.2⟩
theorem TL.lam (T : TL fa fn bs xs tf file g) (i : Nat) {x : Str} (e : tf[i]? = some x) : LamAt g x := T.la x (List.mem_of_getElem? e)
end
/-! ### the law's call -/
section
variable {P : Program} {w : World} {K : PySem.W.Frag} {mg mb : Str → Option Value} {k : Nat} {fa a : Addr} {cs : List (Addr × Addr)} {fd : FuncData} {x : Str} {sp : Sp} {z : Shared} {vs : List Value} {ns : List Int}
theorem law_callL (KX : K.In z.heap) (hns : z.heap.Ns mainGlobals mg) (hb : z.heap.Ns builtinsNs mb) (hbb : ∀ x : Str, x ≠ "__name__" → mb x = bootBuiltins x) (hlim : z.heap.NoLimit) (hg : z.gens = #[]) (hT : ∀ p ∈ cs, z.heap.get? p.2 = some { cls := .none, data := .fields #[] })
    (nT : ∀ p ∈ cs, K.lookup p.2 = none) (C : ∀ p ∈ cs, PySem.W.CodeHd z.heap p.1 p.2) (hbm : ∃ (bm : Addr) (ob : Obj), mg "__builtins__" = some (.ref bm) ∧ bm ≠ builtinsNs ∧ z.heap.get? bm = some ob ∧ ob.cls = .type "module" ∧ ob.dict = some builtinsNs ∧ ob.data = .plain)
    (ha : z.heap.get? a = some { cls := .type "list", data := .seq vs.toArray }) (hi : IntsAre vs ns) (hl : ns.length ≤ sizeLine) (hr : Room k callerA) (F : ∀ base : Heap, K.In base → base.Ns mainGlobals mg → (∀ p ∈ cs, LamX.TabB base mg p.1 p.2) → FnG ⟨P, w, K, mg, base⟩ true k fa fd [x] sp)
    (hbind : ∀ (s : Shared) (u : Value), BindsTo s fd ⟨[u], []⟩ [(x, u)]) (hsp : ∀ H : Hp, (∀ p ∈ cs, H p.2 = some (.tbl #[])) → (∀ b ps, H b = some (.tbl ps) → b ∈ cs.map (·.2)) → (∀ b, H b ≠ none → b ∈ cs.map (·.2) ∨ ∃ o xs, H b = some (.frz o (.lst xs))) → SqL K H a (ns.map V.int) → sp [.ref a] H (fun v _ => v = .bl true) fun _ _ _ => False) :
    codeAny (model P w) callerA (.call (.ref fa) ⟨[.ref a], []⟩) (fun r s' => r = .ok (.ret (.bool true)) ∧ OldK z.heap s'.heap ∧ s'.os = z.os ∧ AllBare s'.gens) z := by
  have tab : ∀ b ∈ cs.map (·.2), z.heap.get? b = some { cls := .none, data := .fields #[] } := fun b m => by
    obtain ⟨p, hp, rfl⟩ := List.mem_map.mp m
    exact hT p hp
  have aN : a ∉ cs.map (·.2) := fun m => by
    have q := tab a m
    rw [ha] at q
    exact nomatch (congrArg Obj.data (Option.some.inj q) : Data.seq vs.toArray _ = Data.fields #[])
  have kN : ∀ b ∈ cs.map (·.2), K.lookup b = none := fun b m => by
    obtain ⟨p, hp, rfl⟩ := List.mem_map.mp m
    exact nT p hp
  let G : Hp := fun b => if b ∈ cs.map (·.2) then some (.tbl #[]) else if b = a ∧ (K.lookup a).isNone = true then some (.frz { cls := .type "list", data := .seq vs.toArray } (.lst (ns.map V.int))) else none
  have g1 : ∀ b ∈ cs.map (·.2), G b = some (.tbl #[]) := fun b m => if_pos m
  have g2 : ∀ b u, G b = some u → (b ∈ cs.map (·.2) ∧ u = .tbl #[]) ∨ (b = a ∧ K.lookup a = none ∧ u = .frz { cls := .type "list", data := .seq vs.toArray } (.lst (ns.map V.int))) := fun b u e => by
    by_cases m : b ∈ cs.map (·.2)
    · rw [g1 b m] at e; cases e; exact .inl ⟨m, rfl⟩
    · have e : (if b = a ∧ (K.lookup a).isNone = true then some (HO.frz { cls := .type "list", data := .seq vs.toArray } (.lst (ns.map V.int))) else none) = some u := (if_neg m).symm.trans e
      split at e
      · rename_i q; cases e; exact .inr ⟨q.1, Option.isNone_iff_eq_none.mp q.2, rfl⟩
      · cases e
  have rv := vals_ints hi
  have ok : HOk P w G z.heap := fun b u e => by
    rcases g2 b u e with ⟨m, rfl⟩ | ⟨rfl, _, rfl⟩
    · exact tab b m
    · exact ⟨ha, by rw [List.length_map]; exact hl, vs, _, rv, ha⟩
  have sq : SqL K G a (ns.map V.int) := by
    cases q : K.lookup a with
    | none => exact .inl (.inr ⟨_, (if_neg aN).trans (if_pos ⟨rfl, by rw [q]; rfl⟩)⟩)
    | some o =>
      have e := KX a o q
      rw [ha] at e
      cases e
      exact .inr ⟨_, vs.toArray, _, q, rfl, rfl, rfl, by rw [List.size_toArray, hi.length]; exact hl, by simpa using rv⟩
  -- what stands in the heap and is no table and no list is not tracked
  have clear : ∀ {b : Addr} {o : Obj}, z.heap.get? b = some o → (∀ vs n, o.data ≠ .seq vs n) → o.data ≠ .fields #[] → G b = none := fun {b o} e h1 h2 => by
    cases q : G b with
    | none => rfl
    | some u =>
      rcases g2 b u q with ⟨m, _⟩ | ⟨rfl, _, _⟩
      · have t := tab b m; rw [e] at t; cases t; exact (h2 rfl).elim
      · rw [ha] at e; cases e; exact (h1 _ _ rfl).elim
  have keep : ∀ {b : Addr} {o : Obj}, z.heap.get? b = some o → G b = none → (hidT z.heap G).get? b = some o := fun e n => hidT_get e n
  have nsK : ∀ {b : Addr} {m : Str → Option Value}, z.heap.Ns b m → (hidT z.heap G).Ns b m := fun {b m} ⟨o, es, ep, e, d, r⟩ =>
    ⟨o, es, ep, keep e (clear e (fun _ _ q => by rw [d] at q; cases q) (fun q => by rw [d] at q; cases q)), d, r⟩
  have inK : K.In (hidT z.heap G) := fun b o e => keep (KX b o e) (by
    cases q : G b with
    | none => rfl
    | some u =>
      rcases g2 b u q with ⟨m, _⟩ | ⟨rfl, n, _⟩
      · have t := kN b m; rw [t] at e; cases e
      · rw [n] at e; cases e)
  have tb : ∀ p ∈ cs, LamX.TabB (hidT z.heap G) mg p.1 p.2 := fun p hp => by
    have tp := hT p hp
    refine ⟨?_, ?_, fun q => ?_⟩
    · obtain ⟨o, us, file, tf, flags, tg, inF, text, tt, e1, r1, r2, r3, r⟩ := C p hp
      exact ⟨o, us, file, tf, flags, tg, inF, text, tt, keep e1 (clear e1 (fun _ _ q => by rw [r2] at q; cases q) (fun q => by rw [r2] at q; cases q; simp at r3)), r1, r2, r3, r⟩
    · obtain ⟨bm, ob, b1, b2, b3, b4, b5, b6⟩ := hbm
      refine ⟨bm, ob, b1, b2, fun q => ?_, fun q => ?_, keep b3 (clear b3 (fun _ _ q => by rw [b6] at q; cases q) (fun q => by rw [b6] at q; cases q)), b4, b5, b6⟩
      · obtain ⟨o, es, ep, e, hd, _⟩ := hns
        rw [q, e] at b3; cases b3; rw [hd] at b6; cases b6
      · rw [q, tp] at b3; cases b3; cases b6
    · obtain ⟨o, es, ep, e, hd, _⟩ := hns
      rw [q, tp] at e; cases e; cases hd
  have e0 : Env0 P w K mg (hidT z.heap G) callerA [] z G := ⟨rfl, ⟨inK, nsK hns, ⟨mb, nsK hb, hbb⟩, let ⟨mc, h1, h2⟩ := hlim; ⟨mc, nsK h1, h2⟩⟩, fun b o e => of_hidT e, Nat.le_of_eq (hidT_size _ _), trivial, fun b m => absurd (show b ∈ ([] : List Addr) from m) (by simp), ok, .of_eq hg⟩
  have want := hsp G (fun p hp => g1 _ (List.mem_map.mpr ⟨p, hp, rfl⟩)) (fun b ps e => by
    rcases g2 b _ e with ⟨m, _⟩ | ⟨_, _, q⟩
    · exact m
    · cases q) (fun b n => by
    cases q : G b with
    | none => exact absurd q n
    | some u =>
      rcases g2 b u q with ⟨m, _⟩ | ⟨_, _, rfl⟩
      · exact .inl m
      · exact .inr ⟨_, _, rfl⟩) sq
  refine codeAny_mono ((F _ inK (nsK hns) tb).run callerA [] z G ⟨[.ref a], []⟩ [.ref a] [.ref a] _ _ hr (fun _ => rfl) e0 (hbind z (.ref a)) (.cons rfl .nil) want) fun r s' h => ?_
  match r, h with
  | .error e, h =>
    haveI : Tbs := ⟨[]⟩
    exact (cx_no G z e s' h).elim
  | .ok (.ret u), h =>
    obtain ⟨v, H', os, bare, un, ok', r', q⟩ := h
    have q' : v = .bl true := q
    subst q'
    obtain rfl : u = Value.bool true := r'
    have same : ∀ b o, b ∉ cs.map (·.2) → z.heap.get? b = some o → s'.heap.get? b = some o := fun b o nb e => by
      cases q : G b with
      | none => exact un.keep b o e q (by intro m; exact absurd (show b ∈ ([] : List Addr) from m) (by simp)) (by simp)
      | some u =>
        rcases g2 b u q with ⟨m, _⟩ | ⟨rfl, _, rfl⟩
        · exact absurd m nb
        · have e2 := (ok' b _ (un.frzs b _ _ q)).1
          rw [ha] at e; cases e
          exact e2
    have grown : ∀ p ∈ cs, ∃ more : Array Value, s'.heap.get? p.2 = some { cls := .none, data := .fields more } := fun p hp => by
      obtain ⟨more, q⟩ := un.tbls p.2 #[] (g1 _ (List.mem_map.mpr ⟨p, hp, rfl⟩))
      exact ⟨_, ok' p.2 _ q⟩
    refine ⟨rfl, ⟨fun b o e => ?_, fun b o e => ?_⟩, os, bare⟩
    · by_cases m : b ∈ cs.map (·.2)
      · obtain ⟨p, hp, rfl⟩ := List.mem_map.mp m
        obtain ⟨more, hm⟩ := grown p hp
        rw [hT p hp] at e
        cases e
        exact .inr (.inl ⟨((C p hp).tab (hT p hp)).isCodeTable, rfl, #[], more, rfl, by rw [Array.empty_append]; exact hm⟩)
      · exact .inl (same b o m e)
    · by_cases m : b ∈ cs.map (·.2)
      · obtain ⟨p, hp, rfl⟩ := List.mem_map.mp m
        obtain ⟨more, hm⟩ := grown p hp
        exact ⟨_, hm⟩
      · exact ⟨o, same b o m e⟩
/-- the law's call, its head by facts with tables -/
theorem walk_endL {l : PySem.W.OpenLaw} {n k : Nat} {q : Program} {loose : List Str} {XP : (Str → Option Value) → Heap → Prop} {YP : World → Heap → Prop} {d : DefRec} {x : Str} (few : l.most = some n) (fit : n ≤ sizeLine) (plain : d.params.defaults = []) (hr : Room k callerA)
    (F : ∀ (w : World) (mg : Str → Option Value) (fa : Addr) (h : Heap), YP w h → h.Ns mainGlobals mg → mg d.name = some (.ref fa) → ∃ (K : PySem.W.Frag) (fd : FuncData) (cs : List (Addr × Addr)) (sp : Sp), K.In h ∧ (∀ p ∈ cs, h.get? p.2 = some { cls := .none, data := .fields #[] }) ∧ (∀ p ∈ cs, K.lookup p.2 = none) ∧ (∀ p ∈ cs, PySem.W.CodeHd h p.1 p.2) ∧
      (∀ (s : Shared) (u : Value), BindsTo s fd ⟨[u], []⟩ [(x, u)]) ∧
      (∀ (H : Hp) (a : Addr) (ns : List Int), ns.length ≤ n → (∀ p ∈ cs, H p.2 = some (.tbl #[])) → (∀ b ps, H b = some (.tbl ps) → b ∈ cs.map (·.2)) → (∀ b, H b ≠ none → b ∈ cs.map (·.2) ∨ ∃ o xs, H b = some (.frz o (.lst xs))) → SqL K H a (ns.map V.int) → sp [.ref a] H (fun v _ => v = .bl true) fun _ _ _ => False) ∧
      ∀ base : Heap, K.In base → base.Ns mainGlobals mg → (∀ p ∈ cs, LamX.TabB base mg p.1 p.2) → FnG ⟨l.prog, w, K, mg, base⟩ true k fa fd [x] sp) :
    PySem.W.WalkO q loose XP YP l.row.toRowW d [] (fun f vs => PySem.call f vs) := by
  refine Att.attach_call few plain fun w s0 s1 mg mb fa o pm cd doc a vs ns G Y ho hd hcd hmg hobj hints hlen hg => ?_
  obtain ⟨K, fd, cs, sp, KX, hT, nT, C, hb, hsp, hF⟩ := F w mg fa _ Y G.T.g hmg
  exact law_callL KX G.T.g G.T.b G.T.builtins G.T.nolimit hg hT nT C G.T.bmain hobj hints (Nat.le_trans hlen fit) hr hF hb fun H h1 h2 h3 h4 => hsp H a ns hlen h1 h2 h3 h4
end
/-- the tables, as the worlds carry them -/
def tbsOf (K : PySem.W.Frag) (tf : List Str) : Tbs := ⟨tf.map fun x => ((He.cT K (x, none)).2, x ++ ".<locals>." ++ "<lambda>")⟩
abbrev csOf (K : PySem.W.Frag) (tf : List Str) : List (Addr × Addr) := tf.map fun x => He.cT K (x, none)
theorem nodup_at {α β : Type} {f : α → β} : ∀ {l : List α}, (l.map f).Nodup → ∀ {a b : α}, a ∈ l → b ∈ l → f a = f b → a = b
  | [], _, a, _, h, _, _ => nomatch h
  | c :: l, n, a, b, ha, hb, e => by
    rw [List.map_cons, List.nodup_cons] at n
    rcases List.mem_cons.mp ha with h1 | h1 <;> rcases List.mem_cons.mp hb with h2 | h2
    · exact h1.trans h2.symm
    · exact absurd (List.mem_map.mpr ⟨b, h2, by rw [← e, h1]⟩) n.1
    · exact absurd (List.mem_map.mpr ⟨a, h1, by rw [e, h2]⟩) n.1
    · exact nodup_at n.2 h1 h2 e
theorem lam_at {P : Program} {w : World} {K : PySem.W.Frag} {mg : Str → Option Value} {base : Heap} {tf : List Str} (nd : (tf.map fun x => (He.cT K (x, none)).2).Nodup) (hB : ∀ p ∈ csOf K tf, LamX.TabB base mg p.1 p.2) (x : Str) (hx : x ∈ tf) : @LamAt (tbsOf K tf) ⟨P, w, K, mg, base⟩ x :=
  ⟨(He.cT K (x, none)).2, hB _ (List.mem_map.mpr ⟨x, hx, rfl⟩), List.mem_map.mpr ⟨x, hx, rfl⟩, fun p hp e => by
    obtain ⟨y, hy, rfl⟩ := List.mem_map.mp hp
    rw [nodup_at nd hy hx e]⟩
/-- a law with lambdas, from its facts -/
theorem law_factsL {fa : List He.Fa} {fn : List He.DefD} {bs : List (Str × String)} {xs : List XiD} {tf : List Str} {file : Str} {P : Program} {w : World} {K : PySem.W.Frag} {h : Heap} {mg : Str → Option Value} {f : Addr} (X : K.In h) (G : h.Ns mainGlobals mg) (c : SaysL fa fn bs xs tf file h K) (fl : P.main.file = file) (top : (P.main.scope.names.lookup ("super" : Str)).isSome = false)
    (hfa : mg ("law" : Str) = some (.ref f)) (j i : Nat) {x : Str} {st : Stmt} {N : List Str} {k m : Nat} {fb : DS} (hd : fn[j]? = some (dfd "law" st)) (hx : fa[i]? = some (.glo "law")) (hlaw : ("law" : Str) ∈ tf) (S : FnScope N [x] (defScope st))
    (hb : ∀ (kV doc pm : Value) (an : Option Addr) (cdv ct : Value) (us : List Value), us.length = [x].length → bindArgs (PySem.W.fnOf "law" "law" (defArgs st) (defBody st) (defScope st) .none kV doc pm an cdv ct) ⟨us, []⟩ = pure ([x].zip us))
    (hbody : ∀ (i : Tbs) (g : Gx), TL fa fn bs xs tf file g → DenSs ⟨g, k, N, defScope st, fun _ => true, true⟩ (defBody st) fb) (math : ∀ ns : List Int, ns.length ≤ m → ∃ h, fnR N.length fb [.frl (ns.map .int)] [] = .ok (.bl true) h) :
    ∃ (K : PySem.W.Frag) (fd : FuncData) (cs : List (Addr × Addr)) (sp : Sp), K.In h ∧ (∀ p ∈ cs, h.get? p.2 = some { cls := .none, data := .fields #[] }) ∧ (∀ p ∈ cs, K.lookup p.2 = none) ∧ (∀ p ∈ cs, PySem.W.CodeHd h p.1 p.2) ∧ (∀ (s : Shared) (u : Value), BindsTo s fd ⟨[u], []⟩ [(x, u)]) ∧
      (∀ (H : Hp) (a : Addr) (ns : List Int), ns.length ≤ m → (∀ p ∈ cs, H p.2 = some (.tbl #[])) → (∀ b ps, H b = some (.tbl ps) → b ∈ cs.map (·.2)) → (∀ b, H b ≠ none → b ∈ cs.map (·.2) ∨ ∃ o xs, H b = some (.frz o (.lst xs))) → SqL K H a (ns.map V.int) → sp [.ref a] H (fun v _ => v = .bl true) fun _ _ _ => False) ∧
      ∀ base : Heap, K.In base → base.Ns mainGlobals mg → (∀ p ∈ cs, LamX.TabB base mg p.1 p.2) → FnG ⟨P, w, K, mg, base⟩ true (k + 1) f fd [x] sp := by
  letI : Tbs := tbsOf K tf
  obtain ⟨fd, F⟩ := c.d.def_ j hd
  have e := hfa.symm.trans (He.glo_ok X G (c.d.fact i hx))
  cases e
  have b := FunD.bindsA (ps := [x]) F hb
  refine ⟨K, fd, csOf K tf, spOf ⟨P, w, K, mg, h⟩ 1 (fnR N.length fb), X, fun p hp => ?_, fun p hp => ?_, fun p hp => ?_, fun s v => b s [v] rfl, fun H a ns hl h1 h2 h3 hS => ?_, fun base i1 i2 hB => ?_⟩
  · obtain ⟨y, hy, rfl⟩ := List.mem_map.mp hp; exact c.empty y hy
  · obtain ⟨y, hy, rfl⟩ := List.mem_map.mp hp; exact c.out y hy
  · obtain ⟨y, hy, rfl⟩ := List.mem_map.mp hp; exact PySem.W.codeHd_of_K X (c.hd y hy)
  · refine law_sp (fun p hp => ?_) (fun a ps e => ?_) hS (math ns hl)
    · obtain ⟨y, hy, rfl⟩ := List.mem_map.mp hp
      exact h1 _ (List.mem_map.mpr ⟨y, hy, rfl⟩)
    · obtain ⟨p, hp, rfl⟩ := List.mem_map.mp (h2 a ps e)
      obtain ⟨y, hy, rfl⟩ := List.mem_map.mp hp
      exact ⟨_, List.mem_map.mpr ⟨y, hy, rfl⟩⟩
  · have T : TL fa fn bs xs tf file ⟨P, w, K, mg, base⟩ := ⟨⟨⟨⟨h, X, G⟩, c.d⟩, c.bl⟩, fun q hq => ⟨c.x q hq, c.xb q hq⟩, fun y hy => lam_at c.nd hB y hy, fl, top⟩
    exact fng_L (g := ⟨P, w, K, mg, base⟩) F S (lam_at c.nd hB _ hlaw) (hbody _ _ T)
end Sw

/-! Sw, part x: defs that are never run; levels; tuple(range(a, b, -1)). -/
namespace Sw
open PySem PySem.Spec PyProof.Rows L2
variable [Tbs]
theorem FnG.up {g : Gx} {b : Bool} {j k : Nat} {f : Addr} {fd : FuncData} {ps : List Str} {sp : Sp} (F : FnG g b j f fd ps sp) (h : j ≤ k) : FnG g b k f fd ps sp :=
  ⟨F.len, fun Ar out z H gs us vs Q E hr => F.run Ar out z H gs us vs Q E (hr.mono h)⟩
theorem FnD.up {g : Gx} {x : Str} {n j k : Nat} {φ : DF} (F : FnD g x n j φ) (h : j ≤ k) : FnD g x n k φ :=
  let ⟨f, fd, ps, F, m, kp, b⟩ := F
  ⟨f, fd, ps, F.up h, m, kp, b⟩
theorem fnsOk_nil {g : Gx} {k : Nat} : FnsOk g k [] := fun p h => nomatch h
theorem fnsOk_cons {g : Gx} {k j : Nat} {x : Str} {n : Nat} {φ : DF} {L : Fns} (F : FnD g x n j φ) (h : j ≤ k) (m : g.mg x = some (.ref (He.ga g.K x))) (r : FnsOk g k L) : FnsOk g k ((x, n, φ) :: L) := fun p hp => by
  rcases List.mem_cons.mp hp with rfl | hp
  · exact ⟨F.up h, m⟩
  · exact r p hp
def noF : DF := fun _ _ => .bad
/-- a def that is never run -/
theorem Tx.never {fa : List He.Fa} {fn : List He.DefD} {g : Gx} (T : Tx fa fn g) (j i : Nat) {x : Str} {st : Stmt} {ps : List Str} (hd : fn[j]? = some (dfd x st)) (hx : fa[i]? = some (.glo x))
    (hb : ∀ (kV doc pm : Value) (an : Option Addr) (cdv ct : Value) (us : List Value), us.length = ps.length → bindArgs (PySem.W.fnOf x x (defArgs st) (defBody st) (defScope st) .none kV doc pm an cdv ct) ⟨us, []⟩ = pure (ps.zip us)) : FnD g x ps.length 0 noF := by
  obtain ⟨fd, F⟩ := T.c.def_ j hd
  refine ⟨_, fd, ps, ⟨fun vs H Q E h => ?_, fun Ar out z H gs us vs Q E _ _ _ _ _ h => ?_⟩, T.glo i hx, F.kp, FunD.bindsN F hb⟩
  · exact h.1
  · obtain ⟨_, W, ds, h0, _, _, _, o⟩ := h
    exact o.elim
theorem clM_nil {g : Gx} : ClM g [] := fun c h => nomatch h
theorem clM_cons {g : Gx} {c : Cl} {l : List Cl} (h : Mt g c.y c.m) (r : ClM g l) : ClM g (c :: l) := fun d hd => by
  rcases List.mem_cons.mp hd with rfl | hd
  · exact h
  · exact r d hd
/-! ### tuple(range(a, b, -1)) -/
def dnInts (a b : Int) : List Int := (List.range (a - b).toNat).map fun i : Nat => a + (i : Int) * (-1)
theorem vals_dn {a b : Int} {acc : Array Value} (h : ItemsOf (fun i v => ∃ t, v = .int (a + i * (-1)) t) acc (a - b).toNat) : Vals ((dnInts a b).map V.int) acc.toList := by
  have e : acc.toList.length = (a - b).toNat := by rw [Array.length_toList]; exact h.1
  unfold dnInts
  rw [← e, List.map_map]
  refine vals_of_get acc.toList _ fun j u hj => ?_
  obtain ⟨t, rfl⟩ := h.2 j u (by rw [← hj, Array.getElem?_toList])
  exact ⟨t, rfl⟩
def tupRgD (a b : DE) : DE := fun τ h => (a τ h).bind fun x h1 => (b τ h1).bind fun y h2 => match x, y with
  | .int m, .int n => if (decide (-(2 ^ 62) ≤ m) && decide (m < 2 ^ 62)) && ((decide (-(2 ^ 62) ≤ n) && decide (n < 2 ^ 62)) && decide ((m - n).toNat ≤ 2 ^ 24)) then .ok (.tup ((dnInts m n).map .int)) h2 else .bad
  | _, _ => .bad
section
variable {C : Cn} {a b : Expr} {fa fb : DE} {p q pos rpos p1 p2 : Pos} {k : Nat}
theorem pe_tupDn {X : Cx} {c : Expr} {ta : TA} (hc : X.calm = true) (hg : Gl X "tuple") (hm : X.mg "tuple" = none) (hg2 : Gl X "range") (hm2 : X.mg "range" = none) (ha : PA X [a, b, c] ta) (hs : starEach [a, b, c] X.env = (false, eval a X.env) :: starEach [b, c] X.env) (hpl : (backTo rpos (starEach [b, c] X.env)).any (·.1) = false)
    (na : starEach [.Call (.Name "range" q) [a, b, c] [] rpos] X.env = (false, eval (.Call (.Name "range" q) [a, b, c] [] rpos) X.env) :: starEach [] X.env) :
    PE X (.Call (.Name "tuple" p) [.Call (.Name "range" q) [a, b, c] [] rpos] [] pos) (fun σ H Q => ta σ H fun vs H1 => ∃ m n : Int, vs = [.int m, .int n, .int (-1)] ∧ -(2 ^ 62) ≤ m ∧ m < 2 ^ 62 ∧ -(2 ^ 62) ≤ n ∧ n < 2 ^ 62 ∧ (m - n).toNat ≤ 2 ^ 24 ∧ ∀ r, H1 r = none → Q (.ref r) (upd H1 r (.tup ((dnInts m n).map .int)))) := by
  refine ⟨fun pins s σ H Q I h => ?_⟩
  refine Call_ (ld_blt I hg hm boot_tuple (PyProof.Rows.callWith_type1 (args_cons ?_ na) na))
  refine Call_ (ld_blt I hg2 hm2 boot_range (PyProof.Rows.callWith_type1 (thn (ha.run rpos pins s σ H _ I h) fun us s1 ⟨vs, H1, I1, r1, m, n, ev, b1, b2, b3, b4, b5, q1⟩ => ?_) hs hpl))
  subst ev
  cases r1 with
  | cons ru rr =>
    cases rr with
    | cons rv rr =>
      cases rr with
      | cons rw0 rr =>
        cases rr
        obtain ⟨t, rfl⟩ := ru
        obtain ⟨t', rfl⟩ := rv
        obtain ⟨t2, rfl⟩ := rw0
        refine call_range_3 (by decide) (args_nil ?_)
        have hr : IsRange (s1.heap.push { cls := .type "range", data := .fields #[.int m t, .int n t', .int (-1) t2] }) s1.heap.objs.size m n (-1) t t' t2 := IsRange.new _ _ _ _ _ _ _
        have I2 : Inv X pins σ H1 { s1 with heap := s1.heap.push { cls := .type "range", data := .fields #[.int m t, .int n t', .int (-1) t2] } } := I1.kept (t' := s1.toks) fun b u e => Heap.get?_push_of_some _ e
        refine call_tuple_range (n := (m - n).toNat) (I2.ok.hd hc) hr (PySem.W.small_down b1 b2 b3 b4) (PySem.W.rangeSize_downNat m n) b5 fun h' tk acc hk hi => ?_
        have I3 : Inv X pins σ H1 { s1 with heap := h', toks := tk } := I2.kept hk
        refine ⟨.ref h'.objs.size, upd H1 h'.objs.size (.tup ((dnInts m n).map .int)), I3.laid (t' := tk) (fun c o e => Heap.get?_push_of_some _ e) (Nat.le_refl _) (show ObjOk X.prog X.w _ _ _ (.tup ((dnInts m n).map .int)) from ⟨?_, acc.toList, vals_dn hi, ?_⟩), rfl, q1 _ (I3.hok.fresh (Nat.le_refl _))⟩
        · simp only [dnInts, List.length_map, List.length_range]; rw [sizeLine_eq]; omega
        · rw [Array.toArray_toList]; exact IsTup.new _ _
theorem den_tupRgD (hg : glB C.sc "tuple" = true) (hm : C.g.mg "tuple" = none) (hg2 : glB C.sc "range" = true) (hm2 : C.g.mg "range" = none) (ha : DenB C a fa) (hb : DenB C b fb)
    (hs : ∀ env, starEach [a, b, .UnaryOp .USub (.Constant (.int 1) k p1) p2] env = (false, eval a env) :: starEach [b, .UnaryOp .USub (.Constant (.int 1) k p1) p2] env) (hs2 : ∀ env, starEach [b, .UnaryOp .USub (.Constant (.int 1) k p1) p2] env = (false, eval b env) :: starEach [.UnaryOp .USub (.Constant (.int 1) k p1) p2] env)
    (hpl : ∀ env, (backTo rpos (starEach [b, .UnaryOp .USub (.Constant (.int 1) k p1) p2] env)).any (·.1) = false)
    (na : ∀ env, starEach [.Call (.Name "range" q) [a, b, .UnaryOp .USub (.Constant (.int 1) k p1) p2] [] rpos] env = (false, eval (.Call (.Name "range" q) [a, b, .UnaryOp .USub (.Constant (.int 1) k p1) p2] [] rpos) env) :: starEach [] env) :
    DenE C (.Call (.Name "tuple" p) [.Call (.Name "range" q) [a, b, .UnaryOp .USub (.Constant (.int 1) k p1) p2] [] rpos] [] pos) (tupRgD fa fb) := fun X E ok => by
  obtain ⟨t, pa, q1⟩ := ha X E ok
  obtain ⟨t', pb, q'⟩ := hb X E ok
  obtain ⟨g1, _, _⟩ := glB_ok ok hg
  obtain ⟨g2, _, _⟩ := glB_ok ok hg2
  have pm : PE X (.UnaryOp .USub (.Constant (.int 1) k p1) p2) (tUn (rU fun i => .int (-i)) (tC (.int 1))) := pe_un un_neg pe_int
  refine ⟨_, pe_tupDn ok.calm g1 (by rw [ok.mg]; exact hm) g2 (by rw [ok.mg]; exact hm2) (pa_cons pa (pa_cons pb (pa_cons pm pa_nil rfl) (hs2 _)) (hs _)) (hs _) (hpl _) (na _), fun W0 W τ σ h Q l fr rh o => ?_⟩
  refine q1 W0 W τ σ h _ l fr rh (okG.bind o fun x h1 W1 v l1 rh1 b1 o1 => ?_)
  refine q' W0 W1 τ σ h1 _ (l.trans l1) (fr.mono l1) rh1 (okG.bind o1 fun y h2 W2 u l2 rh2 b2 o2 => ?_)
  cases x with
  | int m =>
    cases y with
    | int n =>
      rw [b1.int, b2.int]
      simp only at o2
      split at o2
      · rename_i hc
        simp only [Bool.and_eq_true, decide_eq_true_eq] at hc
        refine ⟨1, rfl, m, n, rfl, hc.1.1, hc.1.2, hc.2.1.1, hc.2.1.2, hc.2.2, fun r hr => ?_⟩
        obtain ⟨W3, eH, l3, rh3, r3⟩ := new_tup hr rh2 (reps_ints (dnInts m n))
        rw [← eH]
        exact o2 W3 _ l3 rh3 r3
      · exact o2.elim
    | _ => exact (show False from o2).elim
  | _ => exact (show False from o2).elim
end
end Sw

/-! Sw, part y: plain: calls that are met; picks; the law's loop. -/
namespace Sw
open PySem PySem.Spec PyProof.Rows L2
variable [Tbs]
/-- what is told of a call that reads no shared list -/
def metV (cl : List Cl) (fin : Tl) (φ : DF) (ds : List D) : Option D := match φ ds [] with
  | .ok _ _ => fin.val ⟨"", none⟩
  | .exc x _ => clsR x cl
  | .bad => none
theorem met_pure {cl : List Cl} {fin : Tl} {n : Nat} {φ : DF} {fs : DA} {τ : List Sl} {h : HS} {ds : List D} {d : D} (hf : fs τ h = .ok ds h) (hn : ds.length = n) (hr : noRefs ds = true) (e : metV cl fin (pureF φ) ds = some d) : metR cl fin (callR n (pureF φ) fs) τ h = .ok d h := by
  have e1 : callR n (pureF φ) fs τ h = pureR (φ ds []) h := by
    rw [ap_callR, hf]
    show (if ds.length = n then pureF φ ds h else .bad) = _
    rw [if_pos hn]
    unfold pureF
    rw [if_pos hr]
  have e2 : pureF φ ds [] = pureR (φ ds []) [] := by unfold pureF; rw [if_pos hr]
  unfold metV at e
  rw [e2] at e
  unfold metR
  rw [e1]
  cases q : φ ds [] with
  | ok d0 h0 =>
    rw [q] at e
    cases h0 with
    | nil =>
      show toRes (fin.val ⟨"", none⟩) h = _
      rw [show fin.val ⟨"", none⟩ = some d from e]; rfl
    | cons _ _ => exact nomatch (show (none : Option D) = some d from e)
  | exc x h0 =>
    rw [q] at e
    cases h0 with
    | nil =>
      show toRes (clsR x cl) h = _
      rw [show clsR x cl = some d from e]; rfl
    | cons _ _ => exact nomatch (show (none : Option D) = some d from e)
  | bad => rw [q] at e; exact nomatch (show (none : Option D) = some d from e)
/-- a word told: ("..", w) -/
def wd (q w : Str) : D := .tup [.str q, .str w]
def okW (q w : Str) : Option D → Bool
  | some (.tup [.str a, .str b]) => a == q && b == w
  | _ => false
theorem okW_eq {q w : Str} {o : Option D} (h : okW q w o = true) : o = some (wd q w) := by
  unfold okW at h
  split at h
  · simp only [Bool.and_eq_true, beq_iff_eq] at h
    rw [h.1, h.2]; rfl
  · cases h
/-- a word with what is kept -/
def okC (q : Str) (c : Option D) : Option D → Bool
  | some (.tup [.str a, .str b]) => match c with
    | some (.str w) => a == q && (b == w && PyData.strOk w)
    | _ => false
  | _ => false
theorem okC_eq {q : Str} {c o : Option D} (h : okC q c o = true) : ∃ w, c = some (.str w) ∧ o = some (wd q w) ∧ PyData.strOk w = true := by
  unfold okC at h
  split at h
  · split at h
    · simp only [Bool.and_eq_true, beq_iff_eq] at h
      rw [h.1, h.2.1]; exact ⟨_, rfl, rfl, h.2.2⟩
    · cases h
  · cases h
theorem cmp_str0 {s : Str} (h : PyData.strOk s = true) : Cmp 0 (.str s) := ⟨_, by rw [D.py], by rw [PyData.canLay0]; exact h, Nat.le_refl _⟩
theorem cmp_wd {q w : Str} (h1 : PyData.strOk q = true) (h2 : PyData.strOk w = true) : Cmp 1 (wd q w) := cmp_tup fun x m => by
  rcases List.mem_cons.mp m with rfl | m
  · exact cmp_str0 h1
  · rcases List.mem_cons.mp m with rfl | m
    · exact cmp_str0 h2
    · cases m
/-- "count " + repr(v) -/
def cwR (p : Str) (v : D) : Option D := (reprLG [v]).bind fun u => addD (.str p) u
theorem cwR_ok {p : Str} {fe : DA} {τ : List Sl} {h : HS} {v : D} {w : D} (hf : fe τ h = .ok [v] h) (e : cwR p v = some w) : res2 addD (kD (.str p)) (biR reprLG fe) τ h = .ok w h := by
  obtain ⟨u, e1, e2⟩ := Option.bind_eq_some_iff.mp e
  rw [ap_res2, ap_kD]
  show (biR reprLG fe τ h).bind _ = _
  rw [ap_biR, hf]
  show (toRes (reprLG [v]) h).bind _ = _
  rw [e1]
  show toRes (addD (.str p) u) h = _
  rw [e2]; rfl
theorem app_nx {i : Nat} {fe : DE} {τ : List Sl} {h h1 : HS} {xs : List D} {d : D} (e : τ[i]? = some (.own xs)) (hl : xs.length < 1000) (r : fe τ h = .ok d h1) : appS i fe τ h = .nx (τ.set i (.own (xs ++ [d]))) h1 := by
  have l : decide (xs.length < sizeLine) = true := decide_eq_true (by rw [sizeLine_eq]; omega)
  rw [ap_appS, e]
  simp only [r, ro_ok, l, if_true]
theorem setS_nx {i : Nat} {fe : DE} {τ : List Sl} {h h1 : HS} {d : D} (r : fe τ h = .ok d h1) : setS i fe τ h = .nx (τ.set i (.val d)) h1 := by
  rw [ap_setS, r]; rfl
theorem setN1_nx {i : Nat} {fe : DE} {τ : List Sl} {h h1 : HS} {d : D} (r : fe τ h = .ok d h1) : setN i (lstR (consR fe aN)) τ h = .nx (τ.set i (.own [d])) h1 := by
  have f : fits 1 = true := fits_of (by decide)
  rw [ap_setN, ap_lstR, ap_consR, r]
  show RS.ofR (if fits 1 then Res.ok (D.lst [d]) h1 else Res.bad) τ _ = _
  rw [if_pos f]; rfl
/-- a pick -/
theorem pick_nx {i : Nat} {le : DE} {τ : List Sl} {h : HS} {k : Nat} {xs : List D} (h0 : τ[0]? = some (.val (.ref k))) (hd : IsDice h k) (hl : le τ h = .ok (.lst xs) h) (hx : xs ≠ []) (hz : xs.length < 1000) :
    ∃ d h', setS i (callR 2 dPick (consR (nS 0) (consR le aN))) τ h = .nx (τ.set i (.val d)) h' ∧ IsDice h' k ∧ d ∈ xs := by
  obtain ⟨d, h', e, hd', m⟩ := pick_ok hd hx (by omega)
  refine ⟨d, h', setS_nx ?_, hd', m⟩
  rw [ap_callR, ap_consR, ap_nS]
  unfold getS
  rw [h0]
  show ((consR le aN τ h).bind _ |>.bind _) = _
  rw [ap_consR, hl]
  exact e
/-- the law's loop over its spots -/
theorem law_loop {COND : DT} {K0 : Int} (k1 : 1 ≤ K0) (k2 : K0 ≤ 1000) {rest : List Sl} {ns : List Int} (cond : ∀ (h : HS) (k : Nat) (x : Int), IsDice h k → ∃ h', COND (.val (.frl (ns.map .int)) :: .val (.int x) :: .val (.ref k) :: rest) h = .ok false h') (h : HS) :
    ∃ u1 u2 h', forR (rngR1 (biR maxsG (consR (kD (.int 1)) (consR (biR minsG (consR (kD (.int K0)) (consR (biR lenG (consR (nS 0) aN)) aN))) aN)))) (gN 1) (seqS (setS 2 (callR 2 dDice (consR (nS 0) (consR (nS 1) aN)))) (iteS COND (rT (kD (.bl false))) nilS))
      (.val (.frl (ns.map .int)) :: .un :: .un :: rest) h = .nx (.val (.frl (ns.map .int)) :: u1 :: u2 :: rest) h' := by
  obtain ⟨K, eK, K1⟩ := spots_ok K0 k1 k2 ns (.un :: .un :: rest) h
  obtain ⟨τ2, h2, e, u1, u2, rfl⟩ := forS_any (g := gN 1) (b := seqS (setS 2 (callR 2 dDice (consR (nS 0) (consR (nS 1) aN)))) (iteS COND (rT (kD (.bl false))) nilS))
    (fun i : Nat => .int (0 + (i : Nat))) (fun τ _ => ∃ s1 s2, τ = .val (.frl (ns.map .int)) :: s1 :: s2 :: rest) (List.range K) (.val (.frl (ns.map .int)) :: .un :: .un :: rest) h ⟨_, _, rfl⟩ fun x τ h hx hi => by
      obtain ⟨s1, s2, rfl⟩ := hi
      obtain ⟨L, c, ed⟩ := dice_ok (h := h) (ns := ns) (i := x)
      obtain ⟨hc, ec⟩ := cond (h ++ [[.int L, .int c, .int 0]]) h.length (x : Nat) (IsDice.last (h := h) (L := L) (c := c))
      have sd : setS 2 (callR 2 dDice (consR (nS 0) (consR (nS 1) aN))) (.val (.frl (ns.map .int)) :: .val (.int (x : Nat)) :: s2 :: rest) h = .nx (.val (.frl (ns.map .int)) :: .val (.int (x : Nat)) :: .val (.ref h.length) :: rest) (h ++ [[.int L, .int c, .int 0]]) := by
        simp only [ap_iSub, ap_addD, ap_mulD, ap_iLt, ap_iLe, ap_iGt, ap_iGe, ap_iMod, ap_iDiv, ap_ifR, ap_nS, ap_nB, ap_kD, ap_aN, ap_tY, ap_oN, ap_oS, ap_rT, ap_xS, ap_bkS, ap_ctS, ap_noS, ap_rN, ap_frS, ap_mN, ap_shR, ap_seqS, ap_iteS, ap_cmpT, ap_setS, ap_setN, ap_nilS, ap_res1, ap_res2, ap_refIxR, ap_rputS, ap_consR, ap_callR, ap_biR, ap_isiR, ap_bAndR, ap_bNotR, ap_bOrR, ap_chR, ap_chT, ap_truR, ap_tNotR, ap_tAndR, ap_tOrR, ap_seqR, ap_rngR1, ap_rngR2, ap_enumR, ap_zipR, ap_sliceR, ap_tupR, ap_lstR, ap_starR, ap_augS, ap_asgS, ap_par2, ap_ownM, ap_valM, ap_appS, ap_extS, ap_putS, ap_revR, rb_ok, rn_ok, ro_ok, tr_some, getS, getB, toRes, List.getElem?_cons_succ, List.getElem?_cons_zero, List.length_cons, List.length_nil, if_true, ed, List.set]
      refine ⟨.val (.frl (ns.map .int)) :: .val (.int (x : Nat)) :: s2 :: rest, .val (.frl (ns.map .int)) :: .val (.int (x : Nat)) :: .val (.ref h.length) :: rest, hc, by simp [gN], ?_, ⟨_, _, rfl⟩⟩
      rw [seq_nx sd, ap_iteS, ec]
      rfl
  exact ⟨u1, u2, h2, for_of (rng1_of eK (by omega)) e⟩
/-- a turn's test: both must hold -/
theorem cond_or {a b : DE} {τ : List Sl} {h h1 h2 : HS} (ea : a τ h = .ok (.bl true) h1) (eb : b τ h1 = .ok (.bl true) h2) : tOrR (tNotR (truR a)) (tNotR (truR b)) τ h = .ok false h2 := by
  simp only [ap_iSub, ap_addD, ap_mulD, ap_iLt, ap_iLe, ap_iGt, ap_iGe, ap_iMod, ap_iDiv, ap_ifR, ap_nS, ap_nB, ap_kD, ap_aN, ap_tY, ap_oN, ap_oS, ap_rT, ap_xS, ap_bkS, ap_ctS, ap_noS, ap_rN, ap_frS, ap_mN, ap_shR, ap_seqS, ap_iteS, ap_cmpT, ap_setS, ap_setN, ap_nilS, ap_res1, ap_res2, ap_refIxR, ap_rputS, ap_consR, ap_callR, ap_biR, ap_isiR, ap_bAndR, ap_bNotR, ap_bOrR, ap_chR, ap_chT, ap_truR, ap_tNotR, ap_tAndR, ap_tOrR, ap_seqR, ap_rngR1, ap_rngR2, ap_enumR, ap_zipR, ap_sliceR, ap_tupR, ap_lstR, ap_starR, ap_augS, ap_asgS, ap_par2, ap_ownM, ap_valM, ap_appS, ap_extS, ap_putS, ap_revR, rb_ok, rn_ok, ro_ok, tr_some, getS, getB, toRes, ea, eb, rb_ok, D.tru, toRes, Bool.not_true, Bool.false_eq_true, if_false]
theorem cond_one {a : DE} {τ : List Sl} {h h1 : HS} (ea : a τ h = .ok (.bl true) h1) : tNotR (truR a) τ h = .ok false h1 := by
  simp only [ap_iSub, ap_addD, ap_mulD, ap_iLt, ap_iLe, ap_iGt, ap_iGe, ap_iMod, ap_iDiv, ap_ifR, ap_nS, ap_nB, ap_kD, ap_aN, ap_tY, ap_oN, ap_oS, ap_rT, ap_xS, ap_bkS, ap_ctS, ap_noS, ap_rN, ap_frS, ap_mN, ap_shR, ap_seqS, ap_iteS, ap_cmpT, ap_setS, ap_setN, ap_nilS, ap_res1, ap_res2, ap_refIxR, ap_rputS, ap_consR, ap_callR, ap_biR, ap_isiR, ap_bAndR, ap_bNotR, ap_bOrR, ap_chR, ap_chT, ap_truR, ap_tNotR, ap_tAndR, ap_tOrR, ap_seqR, ap_rngR1, ap_rngR2, ap_enumR, ap_zipR, ap_sliceR, ap_tupR, ap_lstR, ap_starR, ap_augS, ap_asgS, ap_par2, ap_ownM, ap_valM, ap_appS, ap_extS, ap_putS, ap_revR, rb_ok, rn_ok, ro_ok, tr_some, getS, getB, toRes, ea, rb_ok, D.tru, toRes, Bool.not_true]
theorem eq_lst_same {xs : List D} (h : ∀ x ∈ xs, Cmp 1 x) : eqD (.lst xs) (.lst xs) = some (.bl true) := eq_same (cmp_lst h) (by decide)
/-! ### checks that the kernel does -/
def chkW (cl : List Cl) (fin : Tl) (q : Str) (φ : DF) (w : Str) (ds : List D) : Bool := noRefs ds && okW q w (metV cl fin φ ds)
def chkC (cl : List Cl) (fin : Tl) (q p : Str) (φ : DF) (v : D) (ds : List D) : Bool := noRefs ds && okC q (cwR p v) (metV cl fin φ ds)
theorem met_W {cl : List Cl} {fin : Tl} {q w : Str} {n : Nat} {φ : DF} {fs : DA} {τ : List Sl} {h : HS} {ds : List D} (c : chkW cl fin q (pureF φ) w ds = true) (hf : fs τ h = .ok ds h) (hn : ds.length = n) : metR cl fin (callR n (pureF φ) fs) τ h = .ok (wd q w) h := by
  obtain ⟨c1, c2⟩ := Bool.and_eq_true_iff.mp c
  exact met_pure hf hn c1 (okW_eq c2)
theorem met_C {cl : List Cl} {fin : Tl} {q p : Str} {v : D} {n : Nat} {φ : DF} {fs : DA} {τ : List Sl} {h : HS} {ds : List D} (c : chkC cl fin q p (pureF φ) v ds = true) (hf : fs τ h = .ok ds h) (hn : ds.length = n) :
    ∃ w, metR cl fin (callR n (pureF φ) fs) τ h = .ok (wd q w) h ∧ cwR p v = some (.str w) ∧ PyData.strOk w = true := by
  obtain ⟨c1, c2⟩ := Bool.and_eq_true_iff.mp c
  obtain ⟨w, e1, e2, e3⟩ := okC_eq c2
  exact ⟨w, met_pure hf hn c1 e2, e1, e3⟩
theorem all_mem {α : Type} {l : List α} {p : α → Bool} (h : l.all p = true) {x : α} (m : x ∈ l) : p x = true := List.all_eq_true.mp h x m
end Sw

namespace G_k13
open PySem PySem.Spec PyProof.Rows L2 Sw
abbrev Pg : Program := PySem.Challenge.pw_swapsheets_k13_errors_of_lots
def top (i : Nat) : Stmt := Pg.main.body.getD i (.Pass ⟨0, 0, 0, 0⟩)
def fa : List He.Fa := [.free "len", .free "int", .free "abs", .free "max", .glo "_law_dice", .glo "_law_met", .glo "InvalidCount", .glo "InvalidOperation", .exm "InvalidOperation" "InvalidCount" false, .glo "InvalidLot", .exm "InvalidLot" "InvalidCount" false, .exm "InvalidCount" "InvalidCount" true, .exm "InvalidOperation" "InvalidOperation" true, .exm "InvalidLot" "InvalidOperation" false, .exm "InvalidCount" "InvalidOperation" false, .exm "InvalidOperation" "InvalidLot" false, .exm "InvalidLot" "InvalidLot" true, .exm "InvalidCount" "InvalidLot" false, .free "repr", .glo "_law_roll", .glo "_law_pick", .free "isinstance", .free "bool", .glo "is_whole", .int "BOUND" 1000000000000000000000000000000000000000000000000000000000000, .glo "is_integer", .glo "is_within", .int "MAX_SUM" 24, .free "all", .free "tuple", .free "zip", .free "sum", .glo "is_lot", .exc "InvalidLot", .glo "require_lot", .glo "keepers_in", .glo "keepers", .glo "renamings_in", .glo "renamings", .free "range", .glo "factorial_in", .glo "class_size", .glo "conjugate_in", .glo "conjugate", .free "enumerate", .glo "squares_in", .glo "squares_of", .glo "contents_in", .glo "contents", .glo "content_sum_in", .glo "content_sum", .glo "hook_in", .glo "hooks_product_in", .glo "hooks_product", .glo "dimension_in", .glo "dimension", .free "sorted", .glo "lot_of", .glo "less_square", .exc "InvalidOperation", .glo "more_square", .glo "is_square_of", .glo "hook", .glo "require_within", .glo "beads_in", .int "MAX_BEADS" 40, .glo "beads", .glo "lot_by_beads", .glo "without_rim", .glo "rims_in", .glo "rims", .int "MAX_FILLED" 60, .glo "filled_number", .glo "require_two_lots", .glo "is_above_in", .glo "is_above", .glo "_law_lots_right", .glo "_law_lot_of", .free "min", .glo "_law_lot_drawn", .glo "lots_in", .glo "lots", .glo "are_beads", .free "list", .glo "lot_of_beads", .glo "_law_others_right", .glo "law"]
def fn : List He.DefD := [dfd "_law_dice" (top 56), dfd "_law_met" (top 61), dfd "_law_roll" (top 57), dfd "_law_pick" (top 58), dfd "is_whole" (top 7), dfd "is_integer" (top 8), dfd "is_within" (top 9), dfd "is_lot" (top 32), dfd "require_lot" (top 33), dfd "keepers_in" (top 19), dfd "keepers" (top 37), dfd "renamings_in" (top 18), dfd "renamings" (top 38), dfd "factorial_in" (top 11), dfd "class_size" (top 39), dfd "conjugate_in" (top 20), dfd "conjugate" (top 40), dfd "squares_in" (top 21), dfd "squares_of" (top 41), dfd "contents_in" (top 22), dfd "contents" (top 42), dfd "content_sum_in" (top 23), dfd "content_sum" (top 43), dfd "hook_in" (top 24), dfd "hooks_product_in" (top 25), dfd "hooks_product" (top 46), dfd "dimension_in" (top 26), dfd "dimension" (top 47), dfd "lot_of" (top 17), dfd "less_square" (top 48), dfd "more_square" (top 49), dfd "is_square_of" (top 44), dfd "hook" (top 45), dfd "require_within" (top 10), dfd "beads_in" (top 27), dfd "beads" (top 50), dfd "lot_by_beads" (top 28), dfd "without_rim" (top 29), dfd "rims_in" (top 30), dfd "rims" (top 53), dfd "filled_number" (top 54), dfd "require_two_lots" (top 34), dfd "is_above_in" (top 31), dfd "is_above" (top 36), dfd "_law_lots_right" (top 62), dfd "_law_lot_of" (top 59), dfd "_law_lot_drawn" (top 60), dfd "lots_in" (top 16), dfd "lots" (top 35), dfd "are_beads" (top 51), dfd "lot_of_beads" (top 52), dfd "_law_others_right" (top 63), dfd "law" (top 64)]
variable [Tbs]
def bs : List (Str × String) := []
def xt_InvalidCount : Xi.Tx := ⟨"value", "value", "an integer within the told bounds is expected", 0, [⟨11, 8, 11, 13⟩, ⟨11, 8, 11, 15⟩, ⟨11, 8, 11, 24⟩, ⟨11, 25, 11, 72⟩, ⟨11, 8, 11, 73⟩, ⟨11, 8, 11, 73⟩, ⟨12, 8, 12, 12⟩, ⟨12, 8, 12, 18⟩, ⟨12, 21, 12, 26⟩, ⟨12, 8, 12, 26⟩], { posonlyargs := [], args := [{ arg := "self", annotation := none, pos := ⟨10, 17, 10, 21⟩ : PySem.Arg }, { arg := "value", annotation := none, pos := ⟨10, 23, 10, 28⟩ : PySem.Arg }], vararg := none, kwonlyargs := [], kw_defaults := [], kwarg := none, defaults := [] : PySem.Arguments }⟩
def xd_InvalidCount : XiD := ⟨"InvalidCount", xt_InvalidCount, "IndexError", "IndexError.__new__", "IndexError.__init__", [.type "IndexError", .type "LookupError", .type "Exception", .type "BaseException", .type "object"]⟩
theorem xf_InvalidCount : XiF xd_InvalidCount := ⟨PySem.F.excBase_IndexError, PySem.W.kxs_IndexError, PySem.F.store_IndexError, ⟨_, fun _ => rfl⟩, ⟨_, rfl, rfl⟩, rfl, rfl, rfl, by decide, by decide, fun _ _ _ _ _ _ _ _ _ _ => by kernel_rfl⟩
def xs : List XiD := [xd_InvalidCount]
def tf : List Str := ["_law_lots_right", "_law_others_right", "law"]
def file : Str := "/claim/cut.py"
abbrev TX (g : Gx) : Prop := TL fa fn bs xs tf file g
variable {g : Gx}
abbrev s__law_dice : Stmt := top 56
theorem sc__law_dice : FnScope ["_law_script", "_law_spot", "_law_cell", "_law_left"] ["_law_script", "_law_spot"] (defScope s__law_dice) := ⟨by kernel_rfl, by kernel_rfl, by kernel_rfl, by decide +kernel, rfl, by decide +kernel, by decide +kernel⟩
def b__law_dice : DS :=
    (seqS (setS 2 (ifR (cmpT iLt (nS 1) (biR lenG (consR (nS 0) aN))) (biR intG (consR (res2 atD (nS 0) (nS 1)) aN)) (res2 addD (res2 mulD (kD (.int 73)) (nS 1)) (kD (.int 41)))))
    (seqS (setS 3 (res2 iMod (biR maxsG (consR (kD (.int 0)) (consR (res2 iSub (biR absG (consR (nS 2) aN)) (res2 iPow (kD (.int 10)) (kD (.int 17)))) aN))) (res2 mulD (res2 iPow (kD (.int 10)) (kD (.int 57))) (res2 iPow (kD (.int 10)) (kD (.int 60))))))
    (rT (shR (lstR (consR (nS 3) (consR (res2 addD (res2 addD (res2 addD (res2 mulD (res2 iMod (biR absG (consR (nS 2) aN)) (kD (.int 1152921504606846883))) (kD (.int 59))) (res2 mulD (kD (.int 977)) (nS 1))) (res2 mulD (kD (.int 47)) (biR intG (consR (res2 iLt (nS 2) (kD (.int 0))) aN)))) (kD (.int 13))) (consR (kD (.int 0)) aN))))))))
def d__law_dice : DF := fnR 4 b__law_dice
theorem ok__law_dice (T : TX g) : FnD g "_law_dice" 2 1 d__law_dice := by
  exact T.deff 0 4 (x := "_law_dice") (st := s__law_dice) (k := 0) (fb := b__law_dice) rfl rfl sc__law_dice (fun _ _ _ _ _ _ us hl => match us, hl with | [_, _], _ => rfl)
    (den_scons (den_set (i := 2) (by kernel_rfl) (den_if (den_tcmp o_lt (DenE.b (den_name (i := 1) (by kernel_rfl))) (DenE.b (den_bi c_len (by kernel_rfl) (T.free 0 rfl) (by kernel_rfl) (den_abcons (DenE.b (den_name (i := 0) (by kernel_rfl))) den_abnil (fun _ => rfl)) (fun _ => rfl) (fun _ => rfl))) rfl) (den_bt c_int (by kernel_rfl) (T.free 1 rfl) (by kernel_rfl) (den_abcons (DenE.b (den_ix (DenE.b (den_name (i := 0) (by kernel_rfl))) (DenE.b (den_name (i := 1) (by kernel_rfl))) (fun _ _ => rfl))) den_abnil (fun _ => rfl)) (fun _ => rfl) (fun _ => rfl)) (den_bin o_addD (DenE.b (den_bin o_mulD (DenE.b den_int) (DenE.b (den_name (i := 1) (by kernel_rfl))))) (DenE.b den_int))) (fun _ => rfl))
    (den_scons (den_set (i := 3) (by kernel_rfl) (den_bin o_mod (DenE.b (den_bi c_maxs (by kernel_rfl) (T.free 3 rfl) (by kernel_rfl) (den_abcons (DenE.b den_int) (den_abcons (DenE.b (den_bin o_sub (DenE.b (den_bi c_abs (by kernel_rfl) (T.free 2 rfl) (by kernel_rfl) (den_abcons (DenE.b (den_name (i := 2) (by kernel_rfl))) den_abnil (fun _ => rfl)) (fun _ => rfl) (fun _ => rfl))) (DenE.b (den_bin o_pow (DenE.b den_int) (DenE.b den_int))))) den_abnil (fun _ => rfl)) (fun _ => rfl)) (fun _ => rfl) (fun _ => rfl))) (DenE.b (den_bin o_mulD (DenE.b (den_bin o_pow (DenE.b den_int) (DenE.b den_int))) (DenE.b (den_bin o_pow (DenE.b den_int) (DenE.b den_int)))))) (fun _ => rfl))
    (den_sone (den_ret (DenN.share (den_lst (den_acons (den_name (i := 3) (by kernel_rfl)) (den_acons (den_bin o_addD (DenE.b (den_bin o_addD (DenE.b (den_bin o_addD (DenE.b (den_bin o_mulD (DenE.b (den_bin o_mod (DenE.b (den_bi c_abs (by kernel_rfl) (T.free 2 rfl) (by kernel_rfl) (den_abcons (DenE.b (den_name (i := 2) (by kernel_rfl))) den_abnil (fun _ => rfl)) (fun _ => rfl) (fun _ => rfl))) (DenE.b den_int))) (DenE.b den_int))) (DenE.b (den_bin o_mulD (DenE.b den_int) (DenE.b (den_name (i := 1) (by kernel_rfl))))))) (DenE.b (den_bin o_mulD (DenE.b den_int) (DenE.b (den_bt c_int (by kernel_rfl) (T.free 1 rfl) (by kernel_rfl) (den_abcons (DenE.b (den_cmp o_lt (DenE.b (den_name (i := 2) (by kernel_rfl))) (DenE.b den_int) rfl)) den_abnil (fun _ => rfl)) (fun _ => rfl) (fun _ => rfl))))))) (DenE.b den_int)) (den_acons den_int den_anil (fun _ => rfl)) (fun _ => rfl)) (fun _ => rfl))))))))

abbrev s__law_met : Stmt := top 61
theorem sc__law_met : FnScope ["_law_call", "error"] ["_law_call"] (defScope s__law_met) := ⟨by kernel_rfl, by kernel_rfl, by kernel_rfl, by decide +kernel, rfl, by decide +kernel, by decide +kernel⟩
def cl__law_met : List Cl := [⟨"InvalidLot", [("InvalidCount", false), ("InvalidLot", true), ("InvalidOperation", false)], none, (.tup [(.s "refused"), (.s "lot")])⟩, ⟨"InvalidOperation", [("InvalidCount", false), ("InvalidLot", false), ("InvalidOperation", true)], none, (.tup [(.s "refused"), (.s "operation")])⟩, ⟨"InvalidCount", [("InvalidCount", true), ("InvalidLot", false), ("InvalidOperation", false)], (some 1), (.tup [(.s "refused"), (.sr "count " "InvalidCount" "value")])⟩]
def fin__law_met : Tl := (.one (.s "fine"))
theorem me__law_met (T : TX g) : MetD g "_law_met" "_law_call" s__law_met ["_law_call", "error"] cl__law_met fin__law_met := by
  refine Tx.met T.toTx 1 5 (x := "_law_met") (a := "_law_call") (st := s__law_met) (Ng := ["_law_call", "error"]) (cl := cl__law_met) (fin := fin__law_met) rfl rfl sc__law_met (fun _ _ _ _ _ _ us hl => match us, hl with | [_], _ => rfl) rfl (by kernel_rfl) _ _ _ _ _ _ _ _ rfl ?_ ?_ (fun _ => rfl) ?_ (by kernel_rfl) (T.free 18 rfl) (fun _ => rfl)
  · exact (.one (by kernel_rfl) (T.glo 9 rfl) (.tup (.cons (.cons .nil (fun _ => rfl)) (fun _ => rfl))) (.one (by kernel_rfl) (T.glo 7 rfl) (.tup (.cons (.cons .nil (fun _ => rfl)) (fun _ => rfl))) (.as_ (i := 1) (by kernel_rfl) (T.glo 6 rfl) (by kernel_rfl) (by kernel_rfl) (.tup (.cons .s (.cons (.sr (T.kc 0 6 xf_InvalidCount rfl rfl)) .nil (fun _ => rfl)) (fun _ => rfl))) .nil)))
  · exact .one
  · exact (clM_cons (mt_cons (T.glo 6 rfl) (T.exm 17 rfl) (mt_cons (T.glo 9 rfl) (T.exm 16 rfl) (mt_cons (T.glo 7 rfl) (T.exm 15 rfl) mt_nil))) (clM_cons (mt_cons (T.glo 6 rfl) (T.exm 14 rfl) (mt_cons (T.glo 9 rfl) (T.exm 13 rfl) (mt_cons (T.glo 7 rfl) (T.exm 12 rfl) mt_nil))) (clM_cons (mt_cons (T.glo 6 rfl) (T.exm 11 rfl) (mt_cons (T.glo 9 rfl) (T.exm 10 rfl) (mt_cons (T.glo 7 rfl) (T.exm 8 rfl) mt_nil))) clM_nil)))

abbrev s__law_roll : Stmt := top 57
theorem sc__law_roll : FnScope ["_law_dice_here", "_law_total", "_law_found", "_law_one", "_law_two"] ["_law_dice_here", "_law_total"] (defScope s__law_roll) := ⟨by kernel_rfl, by kernel_rfl, by kernel_rfl, by decide +kernel, rfl, by decide +kernel, by decide +kernel⟩
def b__law_roll : DS :=
    (seqS (iteS (cmpT iGt (refIxR (nS 0) (kD (.int 0))) (kD (.int 0))) (seqS (setS 2 (res2 iMod (biR intG (consR (refIxR (nS 0) (kD (.int 0))) aN)) (nS 1)))
    (seqS (rputS 0 (kD (.int 0)) (res2 iDiv (refIxR (nS 0) (kD (.int 0))) (nS 1)))
    (rT (nS 2)))) nilS)
    (seqS (rputS 0 (kD (.int 2)) (res2 addD (refIxR (nS 0) (kD (.int 2))) (kD (.int 1))))
    (seqS (setS 3 (res2 iMod (biR intG (consR (res2 addD (refIxR (nS 0) (kD (.int 1))) (res2 mulD (kD (.int 99990001)) (refIxR (nS 0) (kD (.int 2))))) aN)) (kD (.int 2305843009213693403))))
    (seqS (setS 4 (res2 addD (res2 mulD (res2 iMod (biR intG (consR (res2 addD (res2 mulD (nS 3) (nS 3)) (res2 mulD (kD (.int 83)) (refIxR (nS 0) (kD (.int 2))))) aN)) (kD (.int 2305843009213693373))) (kD (.int 8675327))) (nS 3)))
    (rT (res2 iMod (biR intG (consR (res2 iDiv (nS 4) (kD (.int 65539))) aN)) (nS 1)))))))
def d__law_roll : DF := fnR 5 b__law_roll
theorem ok__law_roll (T : TX g) : FnD g "_law_roll" 2 1 d__law_roll := by
  exact T.deff 2 19 (x := "_law_roll") (st := s__law_roll) (k := 0) (fb := b__law_roll) rfl rfl sc__law_roll (fun _ _ _ _ _ _ us hl => match us, hl with | [_, _], _ => rfl)
    (den_scons (den_sif (den_tcmp o_gt (DenE.b (den_refix (den_name (i := 0) (by kernel_rfl)) den_int (fun _ _ => rfl))) (DenE.b den_int) rfl) (den_scons (den_set (i := 2) (by kernel_rfl) (den_bin o_mod (DenE.b (den_bt c_int (by kernel_rfl) (T.free 1 rfl) (by kernel_rfl) (den_abcons (DenE.b (den_refix (den_name (i := 0) (by kernel_rfl)) den_int (fun _ _ => rfl))) den_abnil (fun _ => rfl)) (fun _ => rfl) (fun _ => rfl))) (DenE.b (den_name (i := 1) (by kernel_rfl)))) (fun _ => rfl))
    (den_scons (den_rput (i := 0) (by kernel_rfl) (DenE.b den_int) (den_bin o_div (DenE.b (den_refix (den_name (i := 0) (by kernel_rfl)) den_int (fun _ _ => rfl))) (DenE.b (den_name (i := 1) (by kernel_rfl)))) (fun _ _ => rfl) (by exact fun _ _ => rfl) (fun _ => rfl) (fun _ => rfl) (fun _ => rfl))
    (den_sone (den_ret (den_name (i := 2) (by kernel_rfl)))))) den_snil)
    (den_scons (den_rput (i := 0) (by kernel_rfl) (DenE.b den_int) (den_bin o_addD (DenE.b (den_refix (den_name (i := 0) (by kernel_rfl)) den_int (fun _ _ => rfl))) (DenE.b den_int)) (fun _ _ => rfl) (by exact fun _ _ => rfl) (fun _ => rfl) (fun _ => rfl) (fun _ => rfl))
    (den_scons (den_set (i := 3) (by kernel_rfl) (den_bin o_mod (DenE.b (den_bt c_int (by kernel_rfl) (T.free 1 rfl) (by kernel_rfl) (den_abcons (DenE.b (den_bin o_addD (DenE.b (den_refix (den_name (i := 0) (by kernel_rfl)) den_int (fun _ _ => rfl))) (DenE.b (den_bin o_mulD (DenE.b den_int) (DenE.b (den_refix (den_name (i := 0) (by kernel_rfl)) den_int (fun _ _ => rfl))))))) den_abnil (fun _ => rfl)) (fun _ => rfl) (fun _ => rfl))) (DenE.b den_int)) (fun _ => rfl))
    (den_scons (den_set (i := 4) (by kernel_rfl) (den_bin o_addD (DenE.b (den_bin o_mulD (DenE.b (den_bin o_mod (DenE.b (den_bt c_int (by kernel_rfl) (T.free 1 rfl) (by kernel_rfl) (den_abcons (DenE.b (den_bin o_addD (DenE.b (den_bin o_mulD (DenE.b (den_name (i := 3) (by kernel_rfl))) (DenE.b (den_name (i := 3) (by kernel_rfl))))) (DenE.b (den_bin o_mulD (DenE.b den_int) (DenE.b (den_refix (den_name (i := 0) (by kernel_rfl)) den_int (fun _ _ => rfl))))))) den_abnil (fun _ => rfl)) (fun _ => rfl) (fun _ => rfl))) (DenE.b den_int))) (DenE.b den_int))) (DenE.b (den_name (i := 3) (by kernel_rfl)))) (fun _ => rfl))
    (den_sone (den_ret (den_bin o_mod (DenE.b (den_bt c_int (by kernel_rfl) (T.free 1 rfl) (by kernel_rfl) (den_abcons (DenE.b (den_bin o_div (DenE.b (den_name (i := 4) (by kernel_rfl))) (DenE.b den_int))) den_abnil (fun _ => rfl)) (fun _ => rfl) (fun _ => rfl))) (DenE.b (den_name (i := 1) (by kernel_rfl))))))))))

abbrev s__law_pick : Stmt := top 58
theorem sc__law_pick : FnScope ["_law_dice_here", "_law_items"] ["_law_dice_here", "_law_items"] (defScope s__law_pick) := ⟨by kernel_rfl, by kernel_rfl, by kernel_rfl, by decide +kernel, rfl, by decide +kernel, by decide +kernel⟩
def b__law_pick : DS :=
    (rT (res2 atD (nS 1) (callR 2 d__law_roll (consR (nS 0) (consR (biR lenG (consR (nS 1) aN)) aN)))))
def d__law_pick : DF := fnR 2 b__law_pick
theorem ok__law_pick (T : TX g) : FnD g "_law_pick" 2 2 d__law_pick := by
  exact T.deff 3 20 (x := "_law_pick") (st := s__law_pick) (k := 1) (fb := b__law_pick) rfl rfl sc__law_pick (fun _ _ _ _ _ _ us hl => match us, hl with | [_, _], _ => rfl)
    (den_sone (den_ret (den_ix (DenE.b (den_name (i := 1) (by kernel_rfl))) (DenE.b (den_call (n := 2) (ok__law_roll T) (show 1 ≤ 1 by decide) (by kernel_rfl) (den_acons (den_name (i := 0) (by kernel_rfl)) (den_acons (den_bi c_len (by kernel_rfl) (T.free 0 rfl) (by kernel_rfl) (den_abcons (DenE.b (den_name (i := 1) (by kernel_rfl))) den_abnil (fun _ => rfl)) (fun _ => rfl) (fun _ => rfl)) den_anil (fun _ => rfl)) (fun _ => rfl)) (fun _ => rfl) (fun _ => rfl))) (fun _ _ => rfl))))

abbrev s_is_whole : Stmt := top 7
theorem sc_is_whole : FnScope ["value"] ["value"] (defScope s_is_whole) := ⟨by kernel_rfl, by kernel_rfl, by kernel_rfl, by decide +kernel, rfl, by decide +kernel, by decide +kernel⟩
def b_is_whole : DS :=
    (rT (bAndR (isiR "int" (nS 0)) (bNotR (isiR "bool" (nS 0)))))
def d_is_whole : DF := pureF (fnR 1 b_is_whole)
theorem ok_is_whole (T : TX g) : FnD g "is_whole" 1 1 d_is_whole := by
  exact FnD.pure (T.deff 4 23 (x := "is_whole") (st := s_is_whole) (k := 0) (fb := b_is_whole) rfl rfl sc_is_whole (fun _ _ _ _ _ _ us hl => match us, hl with | [_], _ => rfl)
    (den_sone (den_ret (den_band (den_isi (Tn := "int") (by kernel_rfl) (T.free 21 rfl) (by kernel_rfl) (T.free 1 rfl) (by kernel_rfl) (DenE.b (den_name (i := 0) (by kernel_rfl))) (fun _ => rfl) (fun _ => rfl) (fun _ => rfl)) (den_band1 (den_bnot (den_isi (Tn := "bool") (by kernel_rfl) (T.free 21 rfl) (by kernel_rfl) (T.free 22 rfl) (by kernel_rfl) (DenE.b (den_name (i := 0) (by kernel_rfl))) (fun _ => rfl) (fun _ => rfl) (fun _ => rfl))))))))

abbrev s_is_integer : Stmt := top 8
theorem sc_is_integer : FnScope ["value"] ["value"] (defScope s_is_integer) := ⟨by kernel_rfl, by kernel_rfl, by kernel_rfl, by decide +kernel, rfl, by decide +kernel, by decide +kernel⟩
def b_is_integer : DS :=
    (rT (bAndR (callR 1 d_is_whole (consR (nS 0) aN)) (chR iLt iLt (res1 negD (kD (.int 1000000000000000000000000000000000000000000000000000000000000))) (nS 0) (kD (.int 1000000000000000000000000000000000000000000000000000000000000)))))
def d_is_integer : DF := pureF (fnR 1 b_is_integer)
theorem ok_is_integer (T : TX g) : FnD g "is_integer" 1 2 d_is_integer := by
  obtain ⟨t_BOUND, c_BOUND⟩ := T.int 24 (x := "BOUND") (n := 1000000000000000000000000000000000000000000000000000000000000) rfl
  exact FnD.pure (T.deff 5 25 (x := "is_integer") (st := s_is_integer) (k := 1) (fb := b_is_integer) rfl rfl sc_is_integer (fun _ _ _ _ _ _ us hl => match us, hl with | [_], _ => rfl)
    (den_sone (den_ret (den_band (den_call (n := 1) (ok_is_whole T) (show 1 ≤ 1 by decide) (by kernel_rfl) (den_acons (den_name (i := 0) (by kernel_rfl)) den_anil (fun _ => rfl)) (fun _ => rfl) (fun _ => rfl)) (den_band1 (den_chain o_lt o_lt (DenE.b (den_neg (DenE.b (den_con (by kernel_rfl) c_BOUND rfl)))) (DenE.b (den_name (i := 0) (by kernel_rfl))) (DenE.b (den_con (by kernel_rfl) c_BOUND rfl)) rfl))))))

abbrev s_is_within : Stmt := top 9
theorem sc_is_within : FnScope ["value", "least", "most"] ["value", "least", "most"] (defScope s_is_within) := ⟨by kernel_rfl, by kernel_rfl, by kernel_rfl, by decide +kernel, rfl, by decide +kernel, by decide +kernel⟩
def b_is_within : DS :=
    (rT (bAndR (callR 1 d_is_integer (consR (nS 0) aN)) (chR iLe iLe (nS 1) (nS 0) (nS 2))))
def d_is_within : DF := pureF (fnR 3 b_is_within)
theorem ok_is_within (T : TX g) : FnD g "is_within" 3 3 d_is_within := by
  exact FnD.pure (T.deff 6 26 (x := "is_within") (st := s_is_within) (k := 2) (fb := b_is_within) rfl rfl sc_is_within (fun _ _ _ _ _ _ us hl => match us, hl with | [_, _, _], _ => rfl)
    (den_sone (den_ret (den_band (den_call (n := 1) (ok_is_integer T) (show 2 ≤ 2 by decide) (by kernel_rfl) (den_acons (den_name (i := 0) (by kernel_rfl)) den_anil (fun _ => rfl)) (fun _ => rfl) (fun _ => rfl)) (den_band1 (den_chain o_le o_le (DenE.b (den_name (i := 1) (by kernel_rfl))) (DenE.b (den_name (i := 0) (by kernel_rfl))) (DenE.b (den_name (i := 2) (by kernel_rfl))) rfl))))))

abbrev s_is_lot : Stmt := top 32
theorem sc_is_lot : FnScope ["value", "member", "one", "other"] ["value"] (defScope s_is_lot) := ⟨by kernel_rfl, by kernel_rfl, by kernel_rfl, by decide +kernel, rfl, by decide +kernel, by decide +kernel⟩
def b_is_lot : DS :=
    (seqS (iteS (tOrR (tNotR (truR (isiR "tuple" (nS 0)))) (tNotR (truR (biR allG (consR (lcR (seqR (nS 0)) [1] (gN 1) tY (callR 3 d_is_within (consR (nS 1) (consR (kD (.int 1)) (consR (kD (.int 24)) aN))))) aN))))) (rT (kD (.bl false))) nilS)
    (rT (bAndR (res2 iLe (biR sumsG (consR (nS 0) aN)) (kD (.int 24))) (biR allG (consR (lcR (zipR (nS 0) (sliceR (nS 0) (oS (kD (.int 1))) oN)) [2, 3] (gT (gConsT (gN 2) (gConsT (gN 3) gNilT))) tY (res2 iGe (nS 2) (nS 3))) aN)))))
def d_is_lot : DF := pureF (fnR 4 b_is_lot)
theorem ok_is_lot (T : TX g) : FnD g "is_lot" 1 4 d_is_lot := by
  obtain ⟨t_MAX_SUM, c_MAX_SUM⟩ := T.int 27 (x := "MAX_SUM") (n := 24) rfl
  exact FnD.pure (T.deff 7 32 (x := "is_lot") (st := s_is_lot) (k := 3) (fb := b_is_lot) rfl rfl sc_is_lot (fun _ _ _ _ _ _ us hl => match us, hl with | [_], _ => rfl)
    (den_scons (den_sif (den_tw (den_wor (den_tnot (den_tru (DenE.b (den_isi (Tn := "tuple") (by kernel_rfl) (T.free 21 rfl) (by kernel_rfl) (T.free 29 rfl) (by kernel_rfl) (DenE.b (den_name (i := 0) (by kernel_rfl))) (fun _ => rfl) (fun _ => rfl) (fun _ => rfl))) (fun _ _ => rfl))) (den_wor1 (den_tnot (den_tru (DenE.b (den_bi c_all (by kernel_rfl) (T.free 28 rfl) (by kernel_rfl) (den_abcons (DenN.b (den_lc (own := [("member", 1)]) (den_iseq (den_name (i := 0) (by kernel_rfl))) (by kernel_rfl) (by decide) (den_gname (i := 1) (by kernel_rfl)) den_tsnil (den_call (n := 3) (ok_is_within T) (show 3 ≤ 3 by decide) (by kernel_rfl) (den_acons (den_name (i := 1) (by kernel_rfl)) (den_acons den_int (den_acons (den_con (by kernel_rfl) c_MAX_SUM rfl) den_anil (fun _ => rfl)) (fun _ => rfl)) (fun _ => rfl)) (fun _ => rfl) (fun _ => rfl)) (fun _ _ => rfl))) den_abnil (fun _ => rfl)) (fun _ => rfl) (fun _ => rfl))) (fun _ _ => rfl)))))) (den_sone (den_ret den_bl)) den_snil)
    (den_sone (den_ret (den_band (den_cmp o_le (DenE.b (den_bi c_sums (by kernel_rfl) (T.free 31 rfl) (by kernel_rfl) (den_abcons (DenE.b (den_name (i := 0) (by kernel_rfl))) den_abnil (fun _ => rfl)) (fun _ => rfl) (fun _ => rfl))) (DenE.b (den_con (by kernel_rfl) c_MAX_SUM rfl)) rfl) (den_band1 (den_bi c_all (by kernel_rfl) (T.free 28 rfl) (by kernel_rfl) (den_abcons (DenN.b (den_lc (own := [("one", 2), ("other", 3)]) (den_izip (by kernel_rfl) (T.free 30 rfl) (den_name (i := 0) (by kernel_rfl)) (den_slT (DenE.b (den_name (i := 0) (by kernel_rfl))) (den_psm (DenE.b den_int)) den_pnone) (fun _ => rfl) (fun _ => rfl)) (by kernel_rfl) (by decide) (den_gtup (den_gcons (den_gname (i := 2) (by kernel_rfl)) (den_gcons (den_gname (i := 3) (by kernel_rfl)) den_gnil (fun _ => rfl)) (fun _ => rfl)) (fun _ => rfl) (fun _ => rfl) (gcons_len (gcons_len gnil_len))) den_tsnil (den_cmp o_ge (DenE.b (den_name (i := 2) (by kernel_rfl))) (DenE.b (den_name (i := 3) (by kernel_rfl))) rfl) (fun _ _ => rfl))) den_abnil (fun _ => rfl)) (fun _ => rfl) (fun _ => rfl))))))))

abbrev s_require_lot : Stmt := top 33
theorem sc_require_lot : FnScope ["value"] ["value"] (defScope s_require_lot) := ⟨by kernel_rfl, by kernel_rfl, by kernel_rfl, by decide +kernel, rfl, by decide +kernel, by decide +kernel⟩
def b_require_lot : DS :=
    (iteS (tNotR (truR (callR 1 d_is_lot (consR (nS 0) aN)))) (raiseS "InvalidLot") nilS)
def d_require_lot : DF := pureF (fnR 1 b_require_lot)
theorem ok_require_lot (T : TX g) : FnD g "require_lot" 1 5 d_require_lot := by
  exact FnD.pure (T.deff 8 34 (x := "require_lot") (st := s_require_lot) (k := 4) (fb := b_require_lot) rfl rfl sc_require_lot (fun _ _ _ _ _ _ us hl => match us, hl with | [_], _ => rfl)
    (den_sone (den_sif (den_tnot (den_tru (DenE.b (den_call (n := 1) (ok_is_lot T) (show 4 ≤ 4 by decide) (by kernel_rfl) (den_acons (den_name (i := 0) (by kernel_rfl)) den_anil (fun _ => rfl)) (fun _ => rfl) (fun _ => rfl))) (fun _ _ => rfl))) (den_sone (den_raise (T.exc 9 33 rfl rfl) (by kernel_rfl))) den_snil)))

abbrev s_keepers_in : Stmt := top 19
def d_keepers_in : DF := noF
theorem ok_keepers_in (T : TX g) : FnD g "keepers_in" 1 0 d_keepers_in := by
  exact Tx.never T.toTx 9 35 (x := "keepers_in") (st := s_keepers_in) (ps := ["lot"]) rfl rfl (fun _ _ _ _ _ _ us hl => match us, hl with | [_], _ => rfl)

abbrev s_keepers : Stmt := top 37
theorem sc_keepers : FnScope ["lot"] ["lot"] (defScope s_keepers) := ⟨by kernel_rfl, by kernel_rfl, by kernel_rfl, by decide +kernel, rfl, by decide +kernel, by decide +kernel⟩
def b_keepers : DS :=
    (seqS (xS (callR 1 d_require_lot (consR (nS 0) aN)))
    (rT (callR 1 d_keepers_in (consR (nS 0) aN))))
def d_keepers : DF := pureF (fnR 1 b_keepers)
theorem ok_keepers (T : TX g) : FnD g "keepers" 1 6 d_keepers := by
  exact FnD.pure (T.deff 10 36 (x := "keepers") (st := s_keepers) (k := 5) (fb := b_keepers) rfl rfl sc_keepers (fun _ _ _ _ _ _ us hl => match us, hl with | [_], _ => rfl)
    (den_scons (den_sexpr (DenE.b (den_call (n := 1) (ok_require_lot T) (show 5 ≤ 5 by decide) (by kernel_rfl) (den_acons (den_name (i := 0) (by kernel_rfl)) den_anil (fun _ => rfl)) (fun _ => rfl) (fun _ => rfl))) (fun _ => rfl))
    (den_sone (den_ret (den_call (n := 1) (ok_keepers_in T) (show 0 ≤ 5 by decide) (by kernel_rfl) (den_acons (den_name (i := 0) (by kernel_rfl)) den_anil (fun _ => rfl)) (fun _ => rfl) (fun _ => rfl))))))

abbrev s_renamings_in : Stmt := top 18
def d_renamings_in : DF := noF
theorem ok_renamings_in (T : TX g) : FnD g "renamings_in" 1 0 d_renamings_in := by
  exact Tx.never T.toTx 11 37 (x := "renamings_in") (st := s_renamings_in) (ps := ["lot"]) rfl rfl (fun _ _ _ _ _ _ us hl => match us, hl with | [_], _ => rfl)

abbrev s_renamings : Stmt := top 38
theorem sc_renamings : FnScope ["lot"] ["lot"] (defScope s_renamings) := ⟨by kernel_rfl, by kernel_rfl, by kernel_rfl, by decide +kernel, rfl, by decide +kernel, by decide +kernel⟩
def b_renamings : DS :=
    (seqS (xS (callR 1 d_require_lot (consR (nS 0) aN)))
    (rT (callR 1 d_renamings_in (consR (nS 0) aN))))
def d_renamings : DF := pureF (fnR 1 b_renamings)
theorem ok_renamings (T : TX g) : FnD g "renamings" 1 6 d_renamings := by
  exact FnD.pure (T.deff 12 38 (x := "renamings") (st := s_renamings) (k := 5) (fb := b_renamings) rfl rfl sc_renamings (fun _ _ _ _ _ _ us hl => match us, hl with | [_], _ => rfl)
    (den_scons (den_sexpr (DenE.b (den_call (n := 1) (ok_require_lot T) (show 5 ≤ 5 by decide) (by kernel_rfl) (den_acons (den_name (i := 0) (by kernel_rfl)) den_anil (fun _ => rfl)) (fun _ => rfl) (fun _ => rfl))) (fun _ => rfl))
    (den_sone (den_ret (den_call (n := 1) (ok_renamings_in T) (show 0 ≤ 5 by decide) (by kernel_rfl) (den_acons (den_name (i := 0) (by kernel_rfl)) den_anil (fun _ => rfl)) (fun _ => rfl) (fun _ => rfl))))))

abbrev s_factorial_in : Stmt := top 11
theorem sc_factorial_in : FnScope ["number", "found", "step"] ["number"] (defScope s_factorial_in) := ⟨by kernel_rfl, by kernel_rfl, by kernel_rfl, by decide +kernel, rfl, by decide +kernel, by decide +kernel⟩
def b_factorial_in : DS :=
    (seqS (setS 1 (kD (.int 1)))
    (seqS (forR (rngR2 (kD (.int 2)) (res2 addD (nS 0) (kD (.int 1)))) (gN 2) (augS 1 iMul (nS 2)))
    (rT (nS 1))))
def d_factorial_in : DF := pureF (fnR 3 b_factorial_in)
theorem ok_factorial_in (T : TX g) : FnD g "factorial_in" 1 1 d_factorial_in := by
  exact FnD.pure (T.deff 13 40 (x := "factorial_in") (st := s_factorial_in) (k := 0) (fb := b_factorial_in) rfl rfl sc_factorial_in (fun _ _ _ _ _ _ us hl => match us, hl with | [_], _ => rfl)
    (den_scons (den_set (i := 1) (by kernel_rfl) den_int (fun _ => rfl))
    (den_scons (den_for (den_irng2 (by kernel_rfl) (T.free 39 rfl) (DenE.b den_int) (DenE.b (den_bin o_addD (DenE.b (den_name (i := 0) (by kernel_rfl))) (DenE.b den_int))) (fun _ => rfl) (fun _ => rfl)) (den_gname (i := 2) (by kernel_rfl)) (den_sone (den_aug (i := 1) (by kernel_rfl) io_mul (DenE.b (den_name (i := 2) (by kernel_rfl))))) (fun _ _ => rfl))
    (den_sone (den_ret (den_name (i := 1) (by kernel_rfl)))))))

abbrev s_class_size : Stmt := top 39
theorem sc_class_size : FnScope ["lot"] ["lot"] (defScope s_class_size) := ⟨by kernel_rfl, by kernel_rfl, by kernel_rfl, by decide +kernel, rfl, by decide +kernel, by decide +kernel⟩
def b_class_size : DS :=
    (seqS (xS (callR 1 d_require_lot (consR (nS 0) aN)))
    (rT (res2 iDiv (callR 1 d_factorial_in (consR (biR sumsG (consR (nS 0) aN)) aN)) (callR 1 d_keepers_in (consR (nS 0) aN)))))
def d_class_size : DF := pureF (fnR 1 b_class_size)
theorem ok_class_size (T : TX g) : FnD g "class_size" 1 6 d_class_size := by
  exact FnD.pure (T.deff 14 41 (x := "class_size") (st := s_class_size) (k := 5) (fb := b_class_size) rfl rfl sc_class_size (fun _ _ _ _ _ _ us hl => match us, hl with | [_], _ => rfl)
    (den_scons (den_sexpr (DenE.b (den_call (n := 1) (ok_require_lot T) (show 5 ≤ 5 by decide) (by kernel_rfl) (den_acons (den_name (i := 0) (by kernel_rfl)) den_anil (fun _ => rfl)) (fun _ => rfl) (fun _ => rfl))) (fun _ => rfl))
    (den_sone (den_ret (den_bin o_div (DenE.b (den_call (n := 1) (ok_factorial_in T) (show 1 ≤ 5 by decide) (by kernel_rfl) (den_acons (den_bi c_sums (by kernel_rfl) (T.free 31 rfl) (by kernel_rfl) (den_abcons (DenE.b (den_name (i := 0) (by kernel_rfl))) den_abnil (fun _ => rfl)) (fun _ => rfl) (fun _ => rfl)) den_anil (fun _ => rfl)) (fun _ => rfl) (fun _ => rfl))) (DenE.b (den_call (n := 1) (ok_keepers_in T) (show 0 ≤ 5 by decide) (by kernel_rfl) (den_acons (den_name (i := 0) (by kernel_rfl)) den_anil (fun _ => rfl)) (fun _ => rfl) (fun _ => rfl))))))))

abbrev s_conjugate_in : Stmt := top 20
theorem sc_conjugate_in : FnScope ["lot", "width", "column", "member"] ["lot"] (defScope s_conjugate_in) := ⟨by kernel_rfl, by kernel_rfl, by kernel_rfl, by decide +kernel, rfl, by decide +kernel, by decide +kernel⟩
def b_conjugate_in : DS :=
    (seqS (setS 1 (ifR (cmpT neD (nS 0) (tupR aN)) (res2 atD (nS 0) (kD (.int 0))) (kD (.int 0))))
    (rT (biR tupG (consR (lcR (rngR1 (nS 1)) [2] (gN 2) tY (biR lenG (consR (lcR (seqR (nS 0)) [3] (gN 3) (cmpT iGt (nS 3) (nS 2)) (nS 3)) aN))) aN))))
def d_conjugate_in : DF := pureF (fnR 4 b_conjugate_in)
theorem ok_conjugate_in (T : TX g) : FnD g "conjugate_in" 1 1 d_conjugate_in := by
  exact FnD.pure (T.deff 15 42 (x := "conjugate_in") (st := s_conjugate_in) (k := 0) (fb := b_conjugate_in) rfl rfl sc_conjugate_in (fun _ _ _ _ _ _ us hl => match us, hl with | [_], _ => rfl)
    (den_scons (den_set (i := 1) (by kernel_rfl) (den_if (den_tcmp o_ne (DenE.b (den_name (i := 0) (by kernel_rfl))) (DenE.b (den_tup den_anil)) rfl) (den_ix (DenE.b (den_name (i := 0) (by kernel_rfl))) (DenE.b den_int) (fun _ _ => rfl)) den_int) (fun _ => rfl))
    (den_sone (den_ret (den_bt c_tup (by kernel_rfl) (T.free 29 rfl) (by kernel_rfl) (den_abcons (DenN.b (den_lc (own := [("column", 2)]) (den_irng1 (by kernel_rfl) (T.free 39 rfl) (DenE.b (den_name (i := 1) (by kernel_rfl))) (fun _ => rfl)) (by kernel_rfl) (by decide) (den_gname (i := 2) (by kernel_rfl)) den_tsnil (den_bi c_len (by kernel_rfl) (T.free 0 rfl) (by kernel_rfl) (den_abcons (DenN.b (den_lc (own := [("member", 3)]) (den_iseq (den_name (i := 0) (by kernel_rfl))) (by kernel_rfl) (by decide) (den_gname (i := 3) (by kernel_rfl)) (den_tsone (den_tcmp o_gt (DenE.b (den_name (i := 3) (by kernel_rfl))) (DenE.b (den_name (i := 2) (by kernel_rfl))) rfl)) (den_name (i := 3) (by kernel_rfl)) (fun _ _ => rfl))) den_abnil (fun _ => rfl)) (fun _ => rfl) (fun _ => rfl)) (fun _ _ => rfl))) den_abnil (fun _ => rfl)) (fun _ => rfl) (fun _ => rfl))))))

abbrev s_conjugate : Stmt := top 40
theorem sc_conjugate : FnScope ["lot"] ["lot"] (defScope s_conjugate) := ⟨by kernel_rfl, by kernel_rfl, by kernel_rfl, by decide +kernel, rfl, by decide +kernel, by decide +kernel⟩
def b_conjugate : DS :=
    (seqS (xS (callR 1 d_require_lot (consR (nS 0) aN)))
    (rT (callR 1 d_conjugate_in (consR (nS 0) aN))))
def d_conjugate : DF := pureF (fnR 1 b_conjugate)
theorem ok_conjugate (T : TX g) : FnD g "conjugate" 1 6 d_conjugate := by
  exact FnD.pure (T.deff 16 43 (x := "conjugate") (st := s_conjugate) (k := 5) (fb := b_conjugate) rfl rfl sc_conjugate (fun _ _ _ _ _ _ us hl => match us, hl with | [_], _ => rfl)
    (den_scons (den_sexpr (DenE.b (den_call (n := 1) (ok_require_lot T) (show 5 ≤ 5 by decide) (by kernel_rfl) (den_acons (den_name (i := 0) (by kernel_rfl)) den_anil (fun _ => rfl)) (fun _ => rfl) (fun _ => rfl))) (fun _ => rfl))
    (den_sone (den_ret (den_call (n := 1) (ok_conjugate_in T) (show 1 ≤ 5 by decide) (by kernel_rfl) (den_acons (den_name (i := 0) (by kernel_rfl)) den_anil (fun _ => rfl)) (fun _ => rfl) (fun _ => rfl))))))

abbrev s_squares_in : Stmt := top 21
theorem sc_squares_in : FnScope ["lot", "row", "member", "column"] ["lot"] (defScope s_squares_in) := ⟨by kernel_rfl, by kernel_rfl, by kernel_rfl, by decide +kernel, rfl, by decide +kernel, by decide +kernel⟩
def b_squares_in : DS :=
    (rT (lcR2 (enumR (nS 0)) [1, 2, 3] (gT (gConsT (gN 1) (gConsT (gN 2) gNilT))) tY (rngR1 (nS 2)) [3] (gN 3) tY (tupR (consR (nS 1) (consR (nS 3) aN)))))
def d_squares_in : DF := pureF (fnR 4 b_squares_in)
theorem ok_squares_in (T : TX g) : FnD g "squares_in" 1 1 d_squares_in := by
  exact FnD.pure (T.deff 17 45 (x := "squares_in") (st := s_squares_in) (k := 0) (fb := b_squares_in) rfl rfl sc_squares_in (fun _ _ _ _ _ _ us hl => match us, hl with | [_], _ => rfl)
    (den_sone (den_ret (DenN.toE (den_lc2 (own := [("row", 1), ("member", 2), ("column", 3)]) (den_ienum (by kernel_rfl) (T.free 44 rfl) (den_name (i := 0) (by kernel_rfl)) (fun _ => rfl)) (by kernel_rfl) (by decide) (by decide) (den_gtup (den_gcons (den_gname (i := 1) (by kernel_rfl)) (den_gcons (den_gname (i := 2) (by kernel_rfl)) den_gnil (fun _ => rfl)) (fun _ => rfl)) (fun _ => rfl) (fun _ => rfl) (gcons_len (gcons_len gnil_len))) den_tsnil (den_irng1 (by kernel_rfl) (T.free 39 rfl) (DenE.b (den_name (i := 2) (by kernel_rfl))) (fun _ => rfl)) (den_gname (i := 3) (by kernel_rfl)) den_tsnil (den_tup (den_acons (den_name (i := 1) (by kernel_rfl)) (den_acons (den_name (i := 3) (by kernel_rfl)) den_anil (fun _ => rfl)) (fun _ => rfl))) (fun _ _ => rfl) (fun _ _ => rfl))))))

abbrev s_squares_of : Stmt := top 41
theorem sc_squares_of : FnScope ["lot"] ["lot"] (defScope s_squares_of) := ⟨by kernel_rfl, by kernel_rfl, by kernel_rfl, by decide +kernel, rfl, by decide +kernel, by decide +kernel⟩
def b_squares_of : DS :=
    (seqS (xS (callR 1 d_require_lot (consR (nS 0) aN)))
    (rT (biR tupG (consR (callR 1 d_squares_in (consR (nS 0) aN)) aN))))
def d_squares_of : DF := pureF (fnR 1 b_squares_of)
theorem ok_squares_of (T : TX g) : FnD g "squares_of" 1 6 d_squares_of := by
  exact FnD.pure (T.deff 18 46 (x := "squares_of") (st := s_squares_of) (k := 5) (fb := b_squares_of) rfl rfl sc_squares_of (fun _ _ _ _ _ _ us hl => match us, hl with | [_], _ => rfl)
    (den_scons (den_sexpr (DenE.b (den_call (n := 1) (ok_require_lot T) (show 5 ≤ 5 by decide) (by kernel_rfl) (den_acons (den_name (i := 0) (by kernel_rfl)) den_anil (fun _ => rfl)) (fun _ => rfl) (fun _ => rfl))) (fun _ => rfl))
    (den_sone (den_ret (den_bt c_tup (by kernel_rfl) (T.free 29 rfl) (by kernel_rfl) (den_abcons (DenE.b (den_call (n := 1) (ok_squares_in T) (show 1 ≤ 5 by decide) (by kernel_rfl) (den_acons (den_name (i := 0) (by kernel_rfl)) den_anil (fun _ => rfl)) (fun _ => rfl) (fun _ => rfl))) den_abnil (fun _ => rfl)) (fun _ => rfl) (fun _ => rfl))))))

abbrev s_contents_in : Stmt := top 22
theorem sc_contents_in : FnScope ["lot", "row", "column"] ["lot"] (defScope s_contents_in) := ⟨by kernel_rfl, by kernel_rfl, by kernel_rfl, by decide +kernel, rfl, by decide +kernel, by decide +kernel⟩
def b_contents_in : DS :=
    (rT (lcR (seqR (callR 1 d_squares_in (consR (nS 0) aN))) [1, 2] (gT (gConsT (gN 1) (gConsT (gN 2) gNilT))) tY (res2 iSub (nS 2) (nS 1))))
def d_contents_in : DF := pureF (fnR 3 b_contents_in)
theorem ok_contents_in (T : TX g) : FnD g "contents_in" 1 2 d_contents_in := by
  exact FnD.pure (T.deff 19 47 (x := "contents_in") (st := s_contents_in) (k := 1) (fb := b_contents_in) rfl rfl sc_contents_in (fun _ _ _ _ _ _ us hl => match us, hl with | [_], _ => rfl)
    (den_sone (den_ret (DenN.toE (den_lc (own := [("row", 1), ("column", 2)]) (den_iseq (den_call (n := 1) (ok_squares_in T) (show 1 ≤ 1 by decide) (by kernel_rfl) (den_acons (den_name (i := 0) (by kernel_rfl)) den_anil (fun _ => rfl)) (fun _ => rfl) (fun _ => rfl))) (by kernel_rfl) (by decide) (den_gtup (den_gcons (den_gname (i := 1) (by kernel_rfl)) (den_gcons (den_gname (i := 2) (by kernel_rfl)) den_gnil (fun _ => rfl)) (fun _ => rfl)) (fun _ => rfl) (fun _ => rfl) (gcons_len (gcons_len gnil_len))) den_tsnil (den_bin o_sub (DenE.b (den_name (i := 2) (by kernel_rfl))) (DenE.b (den_name (i := 1) (by kernel_rfl)))) (fun _ _ => rfl))))))

abbrev s_contents : Stmt := top 42
theorem sc_contents : FnScope ["lot"] ["lot"] (defScope s_contents) := ⟨by kernel_rfl, by kernel_rfl, by kernel_rfl, by decide +kernel, rfl, by decide +kernel, by decide +kernel⟩
def b_contents : DS :=
    (seqS (xS (callR 1 d_require_lot (consR (nS 0) aN)))
    (rT (biR tupG (consR (callR 1 d_contents_in (consR (nS 0) aN)) aN))))
def d_contents : DF := pureF (fnR 1 b_contents)
theorem ok_contents (T : TX g) : FnD g "contents" 1 6 d_contents := by
  exact FnD.pure (T.deff 20 48 (x := "contents") (st := s_contents) (k := 5) (fb := b_contents) rfl rfl sc_contents (fun _ _ _ _ _ _ us hl => match us, hl with | [_], _ => rfl)
    (den_scons (den_sexpr (DenE.b (den_call (n := 1) (ok_require_lot T) (show 5 ≤ 5 by decide) (by kernel_rfl) (den_acons (den_name (i := 0) (by kernel_rfl)) den_anil (fun _ => rfl)) (fun _ => rfl) (fun _ => rfl))) (fun _ => rfl))
    (den_sone (den_ret (den_bt c_tup (by kernel_rfl) (T.free 29 rfl) (by kernel_rfl) (den_abcons (DenE.b (den_call (n := 1) (ok_contents_in T) (show 2 ≤ 5 by decide) (by kernel_rfl) (den_acons (den_name (i := 0) (by kernel_rfl)) den_anil (fun _ => rfl)) (fun _ => rfl) (fun _ => rfl))) den_abnil (fun _ => rfl)) (fun _ => rfl) (fun _ => rfl))))))

abbrev s_content_sum_in : Stmt := top 23
theorem sc_content_sum_in : FnScope ["lot"] ["lot"] (defScope s_content_sum_in) := ⟨by kernel_rfl, by kernel_rfl, by kernel_rfl, by decide +kernel, rfl, by decide +kernel, by decide +kernel⟩
def b_content_sum_in : DS :=
    (rT (biR sumsG (consR (callR 1 d_contents_in (consR (nS 0) aN)) aN)))
def d_content_sum_in : DF := pureF (fnR 1 b_content_sum_in)
theorem ok_content_sum_in (T : TX g) : FnD g "content_sum_in" 1 3 d_content_sum_in := by
  exact FnD.pure (T.deff 21 49 (x := "content_sum_in") (st := s_content_sum_in) (k := 2) (fb := b_content_sum_in) rfl rfl sc_content_sum_in (fun _ _ _ _ _ _ us hl => match us, hl with | [_], _ => rfl)
    (den_sone (den_ret (den_bi c_sums (by kernel_rfl) (T.free 31 rfl) (by kernel_rfl) (den_abcons (DenE.b (den_call (n := 1) (ok_contents_in T) (show 2 ≤ 2 by decide) (by kernel_rfl) (den_acons (den_name (i := 0) (by kernel_rfl)) den_anil (fun _ => rfl)) (fun _ => rfl) (fun _ => rfl))) den_abnil (fun _ => rfl)) (fun _ => rfl) (fun _ => rfl)))))

abbrev s_content_sum : Stmt := top 43
theorem sc_content_sum : FnScope ["lot"] ["lot"] (defScope s_content_sum) := ⟨by kernel_rfl, by kernel_rfl, by kernel_rfl, by decide +kernel, rfl, by decide +kernel, by decide +kernel⟩
def b_content_sum : DS :=
    (seqS (xS (callR 1 d_require_lot (consR (nS 0) aN)))
    (rT (callR 1 d_content_sum_in (consR (nS 0) aN))))
def d_content_sum : DF := pureF (fnR 1 b_content_sum)
theorem ok_content_sum (T : TX g) : FnD g "content_sum" 1 6 d_content_sum := by
  exact FnD.pure (T.deff 22 50 (x := "content_sum") (st := s_content_sum) (k := 5) (fb := b_content_sum) rfl rfl sc_content_sum (fun _ _ _ _ _ _ us hl => match us, hl with | [_], _ => rfl)
    (den_scons (den_sexpr (DenE.b (den_call (n := 1) (ok_require_lot T) (show 5 ≤ 5 by decide) (by kernel_rfl) (den_acons (den_name (i := 0) (by kernel_rfl)) den_anil (fun _ => rfl)) (fun _ => rfl) (fun _ => rfl))) (fun _ => rfl))
    (den_sone (den_ret (den_call (n := 1) (ok_content_sum_in T) (show 3 ≤ 5 by decide) (by kernel_rfl) (den_acons (den_name (i := 0) (by kernel_rfl)) den_anil (fun _ => rfl)) (fun _ => rfl) (fun _ => rfl))))))

abbrev s_hook_in : Stmt := top 24
theorem sc_hook_in : FnScope ["lot", "columns", "square", "row", "column"] ["lot", "columns", "square"] (defScope s_hook_in) := ⟨by kernel_rfl, by kernel_rfl, by kernel_rfl, by decide +kernel, rfl, by decide +kernel, by decide +kernel⟩
def b_hook_in : DS :=
    (seqS (asgS (gT (gConsT (gN 3) (gConsT (gN 4) gNilT))) (nS 2))
    (rT (res2 iSub (res2 iSub (res2 addD (res2 iSub (res2 atD (nS 0) (nS 3)) (nS 4)) (res2 atD (nS 1) (nS 4))) (nS 3)) (kD (.int 1)))))
def d_hook_in : DF := pureF (fnR 5 b_hook_in)
theorem ok_hook_in (T : TX g) : FnD g "hook_in" 3 1 d_hook_in := by
  exact FnD.pure (T.deff 23 51 (x := "hook_in") (st := s_hook_in) (k := 0) (fb := b_hook_in) rfl rfl sc_hook_in (fun _ _ _ _ _ _ us hl => match us, hl with | [_, _, _], _ => rfl)
    (den_scons (den_asg (den_gtup (den_gcons (den_gname (i := 3) (by kernel_rfl)) (den_gcons (den_gname (i := 4) (by kernel_rfl)) den_gnil (fun _ => rfl)) (fun _ => rfl)) (fun _ => rfl) (fun _ => rfl) (gcons_len (gcons_len gnil_len))) (den_name (i := 2) (by kernel_rfl)) (fun _ => rfl) (hw_of fun _ => by kernel_rfl) (fun _ => rfl))
    (den_sone (den_ret (den_bin o_sub (DenE.b (den_bin o_sub (DenE.b (den_bin o_addD (DenE.b (den_bin o_sub (DenE.b (den_ix (DenE.b (den_name (i := 0) (by kernel_rfl))) (DenE.b (den_name (i := 3) (by kernel_rfl))) (fun _ _ => rfl))) (DenE.b (den_name (i := 4) (by kernel_rfl))))) (DenE.b (den_ix (DenE.b (den_name (i := 1) (by kernel_rfl))) (DenE.b (den_name (i := 4) (by kernel_rfl))) (fun _ _ => rfl))))) (DenE.b (den_name (i := 3) (by kernel_rfl))))) (DenE.b den_int))))))

abbrev s_hooks_product_in : Stmt := top 25
theorem sc_hooks_product_in : FnScope ["lot", "found", "columns", "square"] ["lot"] (defScope s_hooks_product_in) := ⟨by kernel_rfl, by kernel_rfl, by kernel_rfl, by decide +kernel, rfl, by decide +kernel, by decide +kernel⟩
def b_hooks_product_in : DS :=
    (seqS (par2 1 2 (valM (kD (.int 1)) (valM (callR 1 d_conjugate_in (consR (nS 0) aN)) mN)))
    (seqS (forR (seqR (callR 1 d_squares_in (consR (nS 0) aN))) (gN 3) (augS 1 iMul (callR 3 d_hook_in (consR (nS 0) (consR (nS 2) (consR (nS 3) aN))))))
    (rT (nS 1))))
def d_hooks_product_in : DF := pureF (fnR 4 b_hooks_product_in)
theorem ok_hooks_product_in (T : TX g) : FnD g "hooks_product_in" 1 2 d_hooks_product_in := by
  exact FnD.pure (T.deff 24 52 (x := "hooks_product_in") (st := s_hooks_product_in) (k := 1) (fb := b_hooks_product_in) rfl rfl sc_hooks_product_in (fun _ _ _ _ _ _ us hl => match us, hl with | [_], _ => rfl)
    (den_scons (den_par2 (i := 1) (j := 2) (by kernel_rfl) (by kernel_rfl) (by decide) (by kernel_rfl) (by kernel_rfl) (den_mval den_int (den_mval (den_call (n := 1) (ok_conjugate_in T) (show 1 ≤ 1 by decide) (by kernel_rfl) (den_acons (den_name (i := 0) (by kernel_rfl)) den_anil (fun _ => rfl)) (fun _ => rfl) (fun _ => rfl)) den_mnil (fun _ => rfl)) (fun _ => rfl)) (hw_of fun _ => by kernel_rfl) (fun _ => rfl))
    (den_scons (den_for (den_iseq (den_call (n := 1) (ok_squares_in T) (show 1 ≤ 1 by decide) (by kernel_rfl) (den_acons (den_name (i := 0) (by kernel_rfl)) den_anil (fun _ => rfl)) (fun _ => rfl) (fun _ => rfl))) (den_gname (i := 3) (by kernel_rfl)) (den_sone (den_aug (i := 1) (by kernel_rfl) io_mul (DenE.b (den_call (n := 3) (ok_hook_in T) (show 1 ≤ 1 by decide) (by kernel_rfl) (den_acons (den_name (i := 0) (by kernel_rfl)) (den_acons (den_name (i := 2) (by kernel_rfl)) (den_acons (den_name (i := 3) (by kernel_rfl)) den_anil (fun _ => rfl)) (fun _ => rfl)) (fun _ => rfl)) (fun _ => rfl) (fun _ => rfl))))) (fun _ _ => rfl))
    (den_sone (den_ret (den_name (i := 1) (by kernel_rfl)))))))

abbrev s_hooks_product : Stmt := top 46
theorem sc_hooks_product : FnScope ["lot"] ["lot"] (defScope s_hooks_product) := ⟨by kernel_rfl, by kernel_rfl, by kernel_rfl, by decide +kernel, rfl, by decide +kernel, by decide +kernel⟩
def b_hooks_product : DS :=
    (seqS (xS (callR 1 d_require_lot (consR (nS 0) aN)))
    (rT (callR 1 d_hooks_product_in (consR (nS 0) aN))))
def d_hooks_product : DF := pureF (fnR 1 b_hooks_product)
theorem ok_hooks_product (T : TX g) : FnD g "hooks_product" 1 6 d_hooks_product := by
  exact FnD.pure (T.deff 25 53 (x := "hooks_product") (st := s_hooks_product) (k := 5) (fb := b_hooks_product) rfl rfl sc_hooks_product (fun _ _ _ _ _ _ us hl => match us, hl with | [_], _ => rfl)
    (den_scons (den_sexpr (DenE.b (den_call (n := 1) (ok_require_lot T) (show 5 ≤ 5 by decide) (by kernel_rfl) (den_acons (den_name (i := 0) (by kernel_rfl)) den_anil (fun _ => rfl)) (fun _ => rfl) (fun _ => rfl))) (fun _ => rfl))
    (den_sone (den_ret (den_call (n := 1) (ok_hooks_product_in T) (show 2 ≤ 5 by decide) (by kernel_rfl) (den_acons (den_name (i := 0) (by kernel_rfl)) den_anil (fun _ => rfl)) (fun _ => rfl) (fun _ => rfl))))))

abbrev s_dimension_in : Stmt := top 26
def d_dimension_in : DF := noF
theorem ok_dimension_in (T : TX g) : FnD g "dimension_in" 1 0 d_dimension_in := by
  exact Tx.never T.toTx 26 54 (x := "dimension_in") (st := s_dimension_in) (ps := ["lot"]) rfl rfl (fun _ _ _ _ _ _ us hl => match us, hl with | [_], _ => rfl)

abbrev s_dimension : Stmt := top 47
theorem sc_dimension : FnScope ["lot"] ["lot"] (defScope s_dimension) := ⟨by kernel_rfl, by kernel_rfl, by kernel_rfl, by decide +kernel, rfl, by decide +kernel, by decide +kernel⟩
def b_dimension : DS :=
    (seqS (xS (callR 1 d_require_lot (consR (nS 0) aN)))
    (rT (callR 1 d_dimension_in (consR (nS 0) aN))))
def d_dimension : DF := pureF (fnR 1 b_dimension)
theorem ok_dimension (T : TX g) : FnD g "dimension" 1 6 d_dimension := by
  exact FnD.pure (T.deff 27 55 (x := "dimension") (st := s_dimension) (k := 5) (fb := b_dimension) rfl rfl sc_dimension (fun _ _ _ _ _ _ us hl => match us, hl with | [_], _ => rfl)
    (den_scons (den_sexpr (DenE.b (den_call (n := 1) (ok_require_lot T) (show 5 ≤ 5 by decide) (by kernel_rfl) (den_acons (den_name (i := 0) (by kernel_rfl)) den_anil (fun _ => rfl)) (fun _ => rfl) (fun _ => rfl))) (fun _ => rfl))
    (den_sone (den_ret (den_call (n := 1) (ok_dimension_in T) (show 0 ≤ 5 by decide) (by kernel_rfl) (den_acons (den_name (i := 0) (by kernel_rfl)) den_anil (fun _ => rfl)) (fun _ => rfl) (fun _ => rfl))))))

abbrev s_lot_of : Stmt := top 17
theorem sc_lot_of : FnScope ["members", "member"] ["members"] (defScope s_lot_of) := ⟨by kernel_rfl, by kernel_rfl, by kernel_rfl, by decide +kernel, rfl, by decide +kernel, by decide +kernel⟩
def b_lot_of : DS :=
    (rT (biR tupG (consR (sortRR (lcR (seqR (nS 0)) [1] (gN 1) (cmpT iGt (nS 1) (kD (.int 0))) (nS 1))) aN)))
def d_lot_of : DF := pureF (fnR 2 b_lot_of)
theorem ok_lot_of (T : TX g) : FnD g "lot_of" 1 1 d_lot_of := by
  exact FnD.pure (T.deff 28 57 (x := "lot_of") (st := s_lot_of) (k := 0) (fb := b_lot_of) rfl rfl sc_lot_of (fun _ _ _ _ _ _ us hl => match us, hl with | [_], _ => rfl)
    (den_sone (den_ret (den_bt c_tup (by kernel_rfl) (T.free 29 rfl) (by kernel_rfl) (den_abcons (DenN.b (den_sortRev (by kernel_rfl) (T.free 56 rfl) (by kernel_rfl) (DenN.b (den_lc (own := [("member", 1)]) (den_iseq (den_name (i := 0) (by kernel_rfl))) (by kernel_rfl) (by decide) (den_gname (i := 1) (by kernel_rfl)) (den_tsone (den_tcmp o_gt (DenE.b (den_name (i := 1) (by kernel_rfl))) (DenE.b den_int) rfl)) (den_name (i := 1) (by kernel_rfl)) (fun _ _ => rfl))) (fun _ => rfl) (fun _ => rfl) (fun _ => rfl) (fun _ => rfl) (fun _ => rfl) (fun _ => rfl))) den_abnil (fun _ => rfl)) (fun _ => rfl) (fun _ => rfl)))))

abbrev s_less_square : Stmt := top 48
theorem sc_less_square : FnScope ["lot", "found", "row", "member"] ["lot"] (defScope s_less_square) := ⟨by kernel_rfl, by kernel_rfl, by kernel_rfl, by decide +kernel, rfl, by decide +kernel, by decide +kernel⟩
def b_less_square : DS :=
    (seqS (xS (callR 1 d_require_lot (consR (nS 0) aN)))
    (seqS (setN 1 (lstR aN))
    (seqS (forR (enumR (nS 0)) (gT (gConsT (gN 2) (gConsT (gN 3) gNilT))) (iteS (tOrR (cmpT eqD (res2 addD (nS 2) (kD (.int 1))) (biR lenG (consR (nS 0) aN))) (cmpT iLt (res2 atD (nS 0) (res2 addD (nS 2) (kD (.int 1)))) (nS 3))) (appS 1 (callR 1 d_lot_of (consR (lstR (starR (sliceR (nS 0) oN (oS (nS 2))) (consR (res2 iSub (nS 3) (kD (.int 1))) (starR (sliceR (nS 0) (oS (res2 addD (nS 2) (kD (.int 1)))) oN) aN)))) aN))) nilS))
    (rT (biR tupG (consR (biR sortsD (consR (nB 1) aN)) aN))))))
def d_less_square : DF := pureF (fnR 4 b_less_square)
theorem ok_less_square (T : TX g) : FnD g "less_square" 1 6 d_less_square := by
  exact FnD.pure (T.deff 29 58 (x := "less_square") (st := s_less_square) (k := 5) (fb := b_less_square) rfl rfl sc_less_square (fun _ _ _ _ _ _ us hl => match us, hl with | [_], _ => rfl)
    (den_scons (den_sexpr (DenE.b (den_call (n := 1) (ok_require_lot T) (show 5 ≤ 5 by decide) (by kernel_rfl) (den_acons (den_name (i := 0) (by kernel_rfl)) den_anil (fun _ => rfl)) (fun _ => rfl) (fun _ => rfl))) (fun _ => rfl))
    (den_scons (den_setN (i := 1) (by kernel_rfl) (den_lst den_anil) (fun _ => rfl))
    (den_scons (den_for (den_ienum (by kernel_rfl) (T.free 44 rfl) (den_name (i := 0) (by kernel_rfl)) (fun _ => rfl)) (den_gtup (den_gcons (den_gname (i := 2) (by kernel_rfl)) (den_gcons (den_gname (i := 3) (by kernel_rfl)) den_gnil (fun _ => rfl)) (fun _ => rfl)) (fun _ => rfl) (fun _ => rfl) (gcons_len (gcons_len gnil_len))) (den_sone (den_sif (den_tw (den_wor (den_tcmp o_eq (DenE.b (den_bin o_addD (DenE.b (den_name (i := 2) (by kernel_rfl))) (DenE.b den_int))) (DenE.b (den_bi c_len (by kernel_rfl) (T.free 0 rfl) (by kernel_rfl) (den_abcons (DenE.b (den_name (i := 0) (by kernel_rfl))) den_abnil (fun _ => rfl)) (fun _ => rfl) (fun _ => rfl))) rfl) (den_wor1 (den_tcmp o_lt (DenE.b (den_ix (DenE.b (den_name (i := 0) (by kernel_rfl))) (DenE.b (den_bin o_addD (DenE.b (den_name (i := 2) (by kernel_rfl))) (DenE.b den_int))) (fun _ _ => rfl))) (DenE.b (den_name (i := 3) (by kernel_rfl))) rfl)))) (den_sone (den_append (i := 1) (by kernel_rfl) (den_call (n := 1) (ok_lot_of T) (show 1 ≤ 5 by decide) (by kernel_rfl) (den_acons (DenN.toE (den_lst (den_astar (DenE.b (den_slT (DenE.b (den_name (i := 0) (by kernel_rfl))) den_pnone (den_psm (DenE.b (den_name (i := 2) (by kernel_rfl)))))) (den_acons (den_bin o_sub (DenE.b (den_name (i := 3) (by kernel_rfl))) (DenE.b den_int)) (den_astar (DenE.b (den_slT (DenE.b (den_name (i := 0) (by kernel_rfl))) (den_psm (DenE.b (den_bin o_addD (DenE.b (den_name (i := 2) (by kernel_rfl))) (DenE.b den_int)))) den_pnone)) den_anil (fun _ => rfl)) (fun _ => rfl)) (fun _ => rfl)))) den_anil (fun _ => rfl)) (fun _ => rfl) (fun _ => rfl)) rfl (fun _ => rfl))) den_snil)) (fun _ _ => rfl))
    (den_sone (den_ret (den_bt c_tup (by kernel_rfl) (T.free 29 rfl) (by kernel_rfl) (den_abcons (DenN.b (den_biN cn_sortsD (by kernel_rfl) (T.free 56 rfl) (by kernel_rfl) (den_abcons (den_bname (i := 1) (by kernel_rfl)) den_abnil (fun _ => rfl)) (fun _ => rfl) (fun _ => rfl))) den_abnil (fun _ => rfl)) (fun _ => rfl) (fun _ => rfl))))))))

abbrev s_more_square : Stmt := top 49
theorem sc_more_square : FnScope ["lot", "found", "row", "member"] ["lot"] (defScope s_more_square) := ⟨by kernel_rfl, by kernel_rfl, by kernel_rfl, by decide +kernel, rfl, by decide +kernel, by decide +kernel⟩
def b_more_square : DS :=
    (seqS (xS (callR 1 d_require_lot (consR (nS 0) aN)))
    (seqS (iteS (cmpT eqD (biR sumsG (consR (nS 0) aN)) (kD (.int 24))) (raiseS "InvalidOperation") nilS)
    (seqS (setN 1 (lstR (consR (tupR (starR (nS 0) (consR (kD (.int 1)) aN))) aN)))
    (seqS (forR (enumR (nS 0)) (gT (gConsT (gN 2) (gConsT (gN 3) gNilT))) (iteS (tOrR (cmpT eqD (nS 2) (kD (.int 0))) (cmpT iGt (res2 atD (nS 0) (res2 iSub (nS 2) (kD (.int 1)))) (nS 3))) (appS 1 (tupR (starR (sliceR (nS 0) oN (oS (nS 2))) (consR (res2 addD (nS 3) (kD (.int 1))) (starR (sliceR (nS 0) (oS (res2 addD (nS 2) (kD (.int 1)))) oN) aN))))) nilS))
    (rT (biR tupG (consR (biR sortsD (consR (nB 1) aN)) aN)))))))
def d_more_square : DF := pureF (fnR 4 b_more_square)
theorem ok_more_square (T : TX g) : FnD g "more_square" 1 6 d_more_square := by
  obtain ⟨t_MAX_SUM, c_MAX_SUM⟩ := T.int 27 (x := "MAX_SUM") (n := 24) rfl
  exact FnD.pure (T.deff 30 60 (x := "more_square") (st := s_more_square) (k := 5) (fb := b_more_square) rfl rfl sc_more_square (fun _ _ _ _ _ _ us hl => match us, hl with | [_], _ => rfl)
    (den_scons (den_sexpr (DenE.b (den_call (n := 1) (ok_require_lot T) (show 5 ≤ 5 by decide) (by kernel_rfl) (den_acons (den_name (i := 0) (by kernel_rfl)) den_anil (fun _ => rfl)) (fun _ => rfl) (fun _ => rfl))) (fun _ => rfl))
    (den_scons (den_sif (den_tcmp o_eq (DenE.b (den_bi c_sums (by kernel_rfl) (T.free 31 rfl) (by kernel_rfl) (den_abcons (DenE.b (den_name (i := 0) (by kernel_rfl))) den_abnil (fun _ => rfl)) (fun _ => rfl) (fun _ => rfl))) (DenE.b (den_con (by kernel_rfl) c_MAX_SUM rfl)) rfl) (den_sone (den_raise (T.exc 7 59 rfl rfl) (by kernel_rfl))) den_snil)
    (den_scons (den_setN (i := 1) (by kernel_rfl) (den_lst (den_acons (den_tup (den_astar (DenE.b (den_name (i := 0) (by kernel_rfl))) (den_acons den_int den_anil (fun _ => rfl)) (fun _ => rfl))) den_anil (fun _ => rfl))) (fun _ => rfl))
    (den_scons (den_for (den_ienum (by kernel_rfl) (T.free 44 rfl) (den_name (i := 0) (by kernel_rfl)) (fun _ => rfl)) (den_gtup (den_gcons (den_gname (i := 2) (by kernel_rfl)) (den_gcons (den_gname (i := 3) (by kernel_rfl)) den_gnil (fun _ => rfl)) (fun _ => rfl)) (fun _ => rfl) (fun _ => rfl) (gcons_len (gcons_len gnil_len))) (den_sone (den_sif (den_tw (den_wor (den_tcmp o_eq (DenE.b (den_name (i := 2) (by kernel_rfl))) (DenE.b den_int) rfl) (den_wor1 (den_tcmp o_gt (DenE.b (den_ix (DenE.b (den_name (i := 0) (by kernel_rfl))) (DenE.b (den_bin o_sub (DenE.b (den_name (i := 2) (by kernel_rfl))) (DenE.b den_int))) (fun _ _ => rfl))) (DenE.b (den_name (i := 3) (by kernel_rfl))) rfl)))) (den_sone (den_append (i := 1) (by kernel_rfl) (den_tup (den_astar (DenE.b (den_slT (DenE.b (den_name (i := 0) (by kernel_rfl))) den_pnone (den_psm (DenE.b (den_name (i := 2) (by kernel_rfl)))))) (den_acons (den_bin o_addD (DenE.b (den_name (i := 3) (by kernel_rfl))) (DenE.b den_int)) (den_astar (DenE.b (den_slT (DenE.b (den_name (i := 0) (by kernel_rfl))) (den_psm (DenE.b (den_bin o_addD (DenE.b (den_name (i := 2) (by kernel_rfl))) (DenE.b den_int)))) den_pnone)) den_anil (fun _ => rfl)) (fun _ => rfl)) (fun _ => rfl))) rfl (fun _ => rfl))) den_snil)) (fun _ _ => rfl))
    (den_sone (den_ret (den_bt c_tup (by kernel_rfl) (T.free 29 rfl) (by kernel_rfl) (den_abcons (DenN.b (den_biN cn_sortsD (by kernel_rfl) (T.free 56 rfl) (by kernel_rfl) (den_abcons (den_bname (i := 1) (by kernel_rfl)) den_abnil (fun _ => rfl)) (fun _ => rfl) (fun _ => rfl))) den_abnil (fun _ => rfl)) (fun _ => rfl) (fun _ => rfl)))))))))

abbrev s_is_square_of : Stmt := top 44
theorem sc_is_square_of : FnScope ["lot", "value"] ["lot", "value"] (defScope s_is_square_of) := ⟨by kernel_rfl, by kernel_rfl, by kernel_rfl, by decide +kernel, rfl, by decide +kernel, by decide +kernel⟩
def b_is_square_of : DS :=
    (seqS (iteS (tOrR (tNotR (truR (isiR "tuple" (nS 1)))) (tOrR (cmpT neD (biR lenG (consR (nS 1) aN)) (kD (.int 2))) (tNotR (truR (callR 3 d_is_within (consR (res2 atD (nS 1) (kD (.int 0))) (consR (kD (.int 0)) (consR (res2 iSub (biR lenG (consR (nS 0) aN)) (kD (.int 1))) aN)))))))) (rT (kD (.bl false))) nilS)
    (rT (callR 3 d_is_within (consR (res2 atD (nS 1) (kD (.int 1))) (consR (kD (.int 0)) (consR (res2 iSub (res2 atD (nS 0) (res2 atD (nS 1) (kD (.int 0)))) (kD (.int 1))) aN))))))
def d_is_square_of : DF := pureF (fnR 2 b_is_square_of)
theorem ok_is_square_of (T : TX g) : FnD g "is_square_of" 2 4 d_is_square_of := by
  exact FnD.pure (T.deff 31 61 (x := "is_square_of") (st := s_is_square_of) (k := 3) (fb := b_is_square_of) rfl rfl sc_is_square_of (fun _ _ _ _ _ _ us hl => match us, hl with | [_, _], _ => rfl)
    (den_scons (den_sif (den_tw (den_wor (den_tnot (den_tru (DenE.b (den_isi (Tn := "tuple") (by kernel_rfl) (T.free 21 rfl) (by kernel_rfl) (T.free 29 rfl) (by kernel_rfl) (DenE.b (den_name (i := 1) (by kernel_rfl))) (fun _ => rfl) (fun _ => rfl) (fun _ => rfl))) (fun _ _ => rfl))) (den_wor (den_tcmp o_ne (DenE.b (den_bi c_len (by kernel_rfl) (T.free 0 rfl) (by kernel_rfl) (den_abcons (DenE.b (den_name (i := 1) (by kernel_rfl))) den_abnil (fun _ => rfl)) (fun _ => rfl) (fun _ => rfl))) (DenE.b den_int) rfl) (den_wor1 (den_tnot (den_tru (DenE.b (den_call (n := 3) (ok_is_within T) (show 3 ≤ 3 by decide) (by kernel_rfl) (den_acons (den_ix (DenE.b (den_name (i := 1) (by kernel_rfl))) (DenE.b den_int) (fun _ _ => rfl)) (den_acons den_int (den_acons (den_bin o_sub (DenE.b (den_bi c_len (by kernel_rfl) (T.free 0 rfl) (by kernel_rfl) (den_abcons (DenE.b (den_name (i := 0) (by kernel_rfl))) den_abnil (fun _ => rfl)) (fun _ => rfl) (fun _ => rfl))) (DenE.b den_int)) den_anil (fun _ => rfl)) (fun _ => rfl)) (fun _ => rfl)) (fun _ => rfl) (fun _ => rfl))) (fun _ _ => rfl))))))) (den_sone (den_ret den_bl)) den_snil)
    (den_sone (den_ret (den_call (n := 3) (ok_is_within T) (show 3 ≤ 3 by decide) (by kernel_rfl) (den_acons (den_ix (DenE.b (den_name (i := 1) (by kernel_rfl))) (DenE.b den_int) (fun _ _ => rfl)) (den_acons den_int (den_acons (den_bin o_sub (DenE.b (den_ix (DenE.b (den_name (i := 0) (by kernel_rfl))) (DenE.b (den_ix (DenE.b (den_name (i := 1) (by kernel_rfl))) (DenE.b den_int) (fun _ _ => rfl))) (fun _ _ => rfl))) (DenE.b den_int)) den_anil (fun _ => rfl)) (fun _ => rfl)) (fun _ => rfl)) (fun _ => rfl) (fun _ => rfl))))))

abbrev s_hook : Stmt := top 45
theorem sc_hook : FnScope ["lot", "square"] ["lot", "square"] (defScope s_hook) := ⟨by kernel_rfl, by kernel_rfl, by kernel_rfl, by decide +kernel, rfl, by decide +kernel, by decide +kernel⟩
def b_hook : DS :=
    (seqS (xS (callR 1 d_require_lot (consR (nS 0) aN)))
    (seqS (iteS (tNotR (truR (callR 2 d_is_square_of (consR (nS 0) (consR (nS 1) aN))))) (raiseS "InvalidOperation") nilS)
    (rT (callR 3 d_hook_in (consR (nS 0) (consR (callR 1 d_conjugate_in (consR (nS 0) aN)) (consR (nS 1) aN)))))))
def d_hook : DF := pureF (fnR 2 b_hook)
theorem ok_hook (T : TX g) : FnD g "hook" 2 6 d_hook := by
  exact FnD.pure (T.deff 32 62 (x := "hook") (st := s_hook) (k := 5) (fb := b_hook) rfl rfl sc_hook (fun _ _ _ _ _ _ us hl => match us, hl with | [_, _], _ => rfl)
    (den_scons (den_sexpr (DenE.b (den_call (n := 1) (ok_require_lot T) (show 5 ≤ 5 by decide) (by kernel_rfl) (den_acons (den_name (i := 0) (by kernel_rfl)) den_anil (fun _ => rfl)) (fun _ => rfl) (fun _ => rfl))) (fun _ => rfl))
    (den_scons (den_sif (den_tnot (den_tru (DenE.b (den_call (n := 2) (ok_is_square_of T) (show 4 ≤ 5 by decide) (by kernel_rfl) (den_acons (den_name (i := 0) (by kernel_rfl)) (den_acons (den_name (i := 1) (by kernel_rfl)) den_anil (fun _ => rfl)) (fun _ => rfl)) (fun _ => rfl) (fun _ => rfl))) (fun _ _ => rfl))) (den_sone (den_raise (T.exc 7 59 rfl rfl) (by kernel_rfl))) den_snil)
    (den_sone (den_ret (den_call (n := 3) (ok_hook_in T) (show 1 ≤ 5 by decide) (by kernel_rfl) (den_acons (den_name (i := 0) (by kernel_rfl)) (den_acons (den_call (n := 1) (ok_conjugate_in T) (show 1 ≤ 5 by decide) (by kernel_rfl) (den_acons (den_name (i := 0) (by kernel_rfl)) den_anil (fun _ => rfl)) (fun _ => rfl) (fun _ => rfl)) (den_acons (den_name (i := 1) (by kernel_rfl)) den_anil (fun _ => rfl)) (fun _ => rfl)) (fun _ => rfl)) (fun _ => rfl) (fun _ => rfl)))))))

abbrev s_require_within : Stmt := top 10
theorem sc_require_within : FnScope ["value", "least", "most"] ["value", "least", "most"] (defScope s_require_within) := ⟨by kernel_rfl, by kernel_rfl, by kernel_rfl, by decide +kernel, rfl, by decide +kernel, by decide +kernel⟩
def b_require_within : DS :=
    (iteS (tNotR (truR (callR 3 d_is_within (consR (nS 0) (consR (nS 1) (consR (nS 2) aN)))))) (raiseVS "InvalidCount" "value" (nS 0)) nilS)
def d_require_within : DF := pureF (fnR 3 b_require_within)
theorem ok_require_within (T : TX g) : FnD g "require_within" 3 4 d_require_within := by
  exact FnD.pure (T.deff 33 63 (x := "require_within") (st := s_require_within) (k := 3) (fb := b_require_within) rfl rfl sc_require_within (fun _ _ _ _ _ _ us hl => match us, hl with | [_, _, _], _ => rfl)
    (den_sone (den_sif (den_tnot (den_tru (DenE.b (den_call (n := 3) (ok_is_within T) (show 3 ≤ 3 by decide) (by kernel_rfl) (den_acons (den_name (i := 0) (by kernel_rfl)) (den_acons (den_name (i := 1) (by kernel_rfl)) (den_acons (den_name (i := 2) (by kernel_rfl)) den_anil (fun _ => rfl)) (fun _ => rfl)) (fun _ => rfl)) (fun _ => rfl) (fun _ => rfl))) (fun _ _ => rfl))) (den_sone (den_raiseV (x := "InvalidCount") (T := xt_InvalidCount) (T.xc 0 6 xf_InvalidCount rfl rfl) (show 1 ≤ 3 by decide) (by kernel_rfl) (den_name (i := 0) (by kernel_rfl)) (fun _ => rfl))) den_snil)))

abbrev s_beads_in : Stmt := top 27
theorem sc_beads_in : FnScope ["lot", "rows", "members", "row", "member"] ["lot", "rows"] (defScope s_beads_in) := ⟨by kernel_rfl, by kernel_rfl, by kernel_rfl, by decide +kernel, rfl, by decide +kernel, by decide +kernel⟩
def b_beads_in : DS :=
    (seqS (setS 2 (lstR (starR (nS 0) (starR (res2 repL (lstR (consR (kD (.int 0)) aN)) (res2 iSub (nS 1) (biR lenG (consR (nS 0) aN)))) aN))))
    (rT (lcR (enumR (nS 2)) [3, 4] (gT (gConsT (gN 3) (gConsT (gN 4) gNilT))) tY (res2 iSub (res2 iSub (res2 addD (nS 4) (nS 1)) (kD (.int 1))) (nS 3)))))
def d_beads_in : DF := pureF (fnR 5 b_beads_in)
theorem ok_beads_in (T : TX g) : FnD g "beads_in" 2 1 d_beads_in := by
  exact FnD.pure (T.deff 34 64 (x := "beads_in") (st := s_beads_in) (k := 0) (fb := b_beads_in) rfl rfl sc_beads_in (fun _ _ _ _ _ _ us hl => match us, hl with | [_, _], _ => rfl)
    (den_scons (den_set (i := 2) (by kernel_rfl) (DenN.toE (den_lst (den_astar (DenE.b (den_name (i := 0) (by kernel_rfl))) (den_astar (DenN.b (den_repN (DenN.b (den_lst (den_acons den_int den_anil (fun _ => rfl)))) (DenE.b (den_bin o_sub (DenE.b (den_name (i := 1) (by kernel_rfl))) (DenE.b (den_bi c_len (by kernel_rfl) (T.free 0 rfl) (by kernel_rfl) (den_abcons (DenE.b (den_name (i := 0) (by kernel_rfl))) den_abnil (fun _ => rfl)) (fun _ => rfl) (fun _ => rfl))))))) den_anil (fun _ => rfl)) (fun _ => rfl)))) (fun _ => rfl))
    (den_sone (den_ret (DenN.toE (den_lc (own := [("row", 3), ("member", 4)]) (den_ienum (by kernel_rfl) (T.free 44 rfl) (den_name (i := 2) (by kernel_rfl)) (fun _ => rfl)) (by kernel_rfl) (by decide) (den_gtup (den_gcons (den_gname (i := 3) (by kernel_rfl)) (den_gcons (den_gname (i := 4) (by kernel_rfl)) den_gnil (fun _ => rfl)) (fun _ => rfl)) (fun _ => rfl) (fun _ => rfl) (gcons_len (gcons_len gnil_len))) den_tsnil (den_bin o_sub (DenE.b (den_bin o_sub (DenE.b (den_bin o_addD (DenE.b (den_name (i := 4) (by kernel_rfl))) (DenE.b (den_name (i := 1) (by kernel_rfl))))) (DenE.b den_int))) (DenE.b (den_name (i := 3) (by kernel_rfl)))) (fun _ _ => rfl)))))))

abbrev s_beads : Stmt := top 50
theorem sc_beads : FnScope ["lot", "rows"] ["lot", "rows"] (defScope s_beads) := ⟨by kernel_rfl, by kernel_rfl, by kernel_rfl, by decide +kernel, rfl, by decide +kernel, by decide +kernel⟩
def b_beads : DS :=
    (seqS (xS (callR 1 d_require_lot (consR (nS 0) aN)))
    (seqS (xS (callR 3 d_require_within (consR (nS 1) (consR (biR lenG (consR (nS 0) aN)) (consR (kD (.int 40)) aN)))))
    (rT (biR tupG (consR (callR 2 d_beads_in (consR (nS 0) (consR (nS 1) aN))) aN)))))
def d_beads : DF := pureF (fnR 2 b_beads)
theorem ok_beads (T : TX g) : FnD g "beads" 2 6 d_beads := by
  obtain ⟨t_MAX_BEADS, c_MAX_BEADS⟩ := T.int 65 (x := "MAX_BEADS") (n := 40) rfl
  exact FnD.pure (T.deff 35 66 (x := "beads") (st := s_beads) (k := 5) (fb := b_beads) rfl rfl sc_beads (fun _ _ _ _ _ _ us hl => match us, hl with | [_, _], _ => rfl)
    (den_scons (den_sexpr (DenE.b (den_call (n := 1) (ok_require_lot T) (show 5 ≤ 5 by decide) (by kernel_rfl) (den_acons (den_name (i := 0) (by kernel_rfl)) den_anil (fun _ => rfl)) (fun _ => rfl) (fun _ => rfl))) (fun _ => rfl))
    (den_scons (den_sexpr (DenE.b (den_call (n := 3) (ok_require_within T) (show 4 ≤ 5 by decide) (by kernel_rfl) (den_acons (den_name (i := 1) (by kernel_rfl)) (den_acons (den_bi c_len (by kernel_rfl) (T.free 0 rfl) (by kernel_rfl) (den_abcons (DenE.b (den_name (i := 0) (by kernel_rfl))) den_abnil (fun _ => rfl)) (fun _ => rfl) (fun _ => rfl)) (den_acons (den_con (by kernel_rfl) c_MAX_BEADS rfl) den_anil (fun _ => rfl)) (fun _ => rfl)) (fun _ => rfl)) (fun _ => rfl) (fun _ => rfl))) (fun _ => rfl))
    (den_sone (den_ret (den_bt c_tup (by kernel_rfl) (T.free 29 rfl) (by kernel_rfl) (den_abcons (DenE.b (den_call (n := 2) (ok_beads_in T) (show 1 ≤ 5 by decide) (by kernel_rfl) (den_acons (den_name (i := 0) (by kernel_rfl)) (den_acons (den_name (i := 1) (by kernel_rfl)) den_anil (fun _ => rfl)) (fun _ => rfl)) (fun _ => rfl) (fun _ => rfl))) den_abnil (fun _ => rfl)) (fun _ => rfl) (fun _ => rfl)))))))

abbrev s_lot_by_beads : Stmt := top 28
theorem sc_lot_by_beads : FnScope ["beads", "rows", "row", "bead"] ["beads"] (defScope s_lot_by_beads) := ⟨by kernel_rfl, by kernel_rfl, by kernel_rfl, by decide +kernel, rfl, by decide +kernel, by decide +kernel⟩
def b_lot_by_beads : DS :=
    (seqS (setS 1 (biR lenG (consR (nS 0) aN)))
    (rT (callR 1 d_lot_of (consR (lcR (enumR (nS 0)) [2, 3] (gT (gConsT (gN 2) (gConsT (gN 3) gNilT))) tY (res2 iSub (nS 3) (res2 iSub (res2 iSub (nS 1) (kD (.int 1))) (nS 2)))) aN))))
def d_lot_by_beads : DF := pureF (fnR 4 b_lot_by_beads)
theorem ok_lot_by_beads (T : TX g) : FnD g "lot_by_beads" 1 2 d_lot_by_beads := by
  exact FnD.pure (T.deff 36 67 (x := "lot_by_beads") (st := s_lot_by_beads) (k := 1) (fb := b_lot_by_beads) rfl rfl sc_lot_by_beads (fun _ _ _ _ _ _ us hl => match us, hl with | [_], _ => rfl)
    (den_scons (den_set (i := 1) (by kernel_rfl) (den_bi c_len (by kernel_rfl) (T.free 0 rfl) (by kernel_rfl) (den_abcons (DenE.b (den_name (i := 0) (by kernel_rfl))) den_abnil (fun _ => rfl)) (fun _ => rfl) (fun _ => rfl)) (fun _ => rfl))
    (den_sone (den_ret (den_call (n := 1) (ok_lot_of T) (show 1 ≤ 1 by decide) (by kernel_rfl) (den_acons (DenN.toE (den_lc (own := [("row", 2), ("bead", 3)]) (den_ienum (by kernel_rfl) (T.free 44 rfl) (den_name (i := 0) (by kernel_rfl)) (fun _ => rfl)) (by kernel_rfl) (by decide) (den_gtup (den_gcons (den_gname (i := 2) (by kernel_rfl)) (den_gcons (den_gname (i := 3) (by kernel_rfl)) den_gnil (fun _ => rfl)) (fun _ => rfl)) (fun _ => rfl) (fun _ => rfl) (gcons_len (gcons_len gnil_len))) den_tsnil (den_bin o_sub (DenE.b (den_name (i := 3) (by kernel_rfl))) (DenE.b (den_bin o_sub (DenE.b (den_bin o_sub (DenE.b (den_name (i := 1) (by kernel_rfl))) (DenE.b den_int))) (DenE.b (den_name (i := 2) (by kernel_rfl)))))) (fun _ _ => rfl))) den_anil (fun _ => rfl)) (fun _ => rfl) (fun _ => rfl))))))

abbrev s_without_rim : Stmt := top 29
theorem sc_without_rim : FnScope ["beads", "bead", "length", "goal", "sign", "one"] ["beads", "bead", "length"] (defScope s_without_rim) := ⟨by kernel_rfl, by kernel_rfl, by kernel_rfl, by decide +kernel, rfl, by decide +kernel, by decide +kernel⟩
def b_without_rim : DS :=
    (seqS (setS 3 (res2 iSub (nS 1) (nS 2)))
    (seqS (setS 4 (ifR (cmpT eqD (res2 iMod (biR lenG (consR (lcR (seqR (nS 0)) [5] (gN 5) (chT iLt iLt (nS 3) (nS 5) (nS 1)) (nS 5)) aN)) (kD (.int 2))) (kD (.int 1))) (res1 negD (kD (.int 1))) (kD (.int 1))))
    (rT (tupR (consR (callR 1 d_lot_by_beads (consR (sortRR (lstR (starR (lcR (seqR (nS 0)) [5] (gN 5) (cmpT neD (nS 5) (nS 1)) (nS 5)) (consR (nS 3) aN)))) aN)) (consR (nS 4) aN))))))
def d_without_rim : DF := pureF (fnR 6 b_without_rim)
theorem ok_without_rim (T : TX g) : FnD g "without_rim" 3 3 d_without_rim := by
  exact FnD.pure (T.deff 37 68 (x := "without_rim") (st := s_without_rim) (k := 2) (fb := b_without_rim) rfl rfl sc_without_rim (fun _ _ _ _ _ _ us hl => match us, hl with | [_, _, _], _ => rfl)
    (den_scons (den_set (i := 3) (by kernel_rfl) (den_bin o_sub (DenE.b (den_name (i := 1) (by kernel_rfl))) (DenE.b (den_name (i := 2) (by kernel_rfl)))) (fun _ => rfl))
    (den_scons (den_set (i := 4) (by kernel_rfl) (den_if (den_tcmp o_eq (DenE.b (den_bin o_mod (DenE.b (den_bi c_len (by kernel_rfl) (T.free 0 rfl) (by kernel_rfl) (den_abcons (DenN.b (den_lc (own := [("one", 5)]) (den_iseq (den_name (i := 0) (by kernel_rfl))) (by kernel_rfl) (by decide) (den_gname (i := 5) (by kernel_rfl)) (den_tsone (den_tchain o_lt o_lt (DenE.b (den_name (i := 3) (by kernel_rfl))) (DenE.b (den_name (i := 5) (by kernel_rfl))) (DenE.b (den_name (i := 1) (by kernel_rfl))) rfl)) (den_name (i := 5) (by kernel_rfl)) (fun _ _ => rfl))) den_abnil (fun _ => rfl)) (fun _ => rfl) (fun _ => rfl))) (DenE.b den_int))) (DenE.b den_int) rfl) (den_neg (DenE.b den_int)) den_int) (fun _ => rfl))
    (den_sone (den_ret (den_tup (den_acons (den_call (n := 1) (ok_lot_by_beads T) (show 2 ≤ 2 by decide) (by kernel_rfl) (den_acons (DenN.toE (den_sortRev (by kernel_rfl) (T.free 56 rfl) (by kernel_rfl) (DenN.b (den_lst (den_astar (DenN.b (den_lc (own := [("one", 5)]) (den_iseq (den_name (i := 0) (by kernel_rfl))) (by kernel_rfl) (by decide) (den_gname (i := 5) (by kernel_rfl)) (den_tsone (den_tcmp o_ne (DenE.b (den_name (i := 5) (by kernel_rfl))) (DenE.b (den_name (i := 1) (by kernel_rfl))) rfl)) (den_name (i := 5) (by kernel_rfl)) (fun _ _ => rfl))) (den_acons (den_name (i := 3) (by kernel_rfl)) den_anil (fun _ => rfl)) (fun _ => rfl)))) (fun _ => rfl) (fun _ => rfl) (fun _ => rfl) (fun _ => rfl) (fun _ => rfl) (fun _ => rfl))) den_anil (fun _ => rfl)) (fun _ => rfl) (fun _ => rfl)) (den_acons (den_name (i := 4) (by kernel_rfl)) den_anil (fun _ => rfl)) (fun _ => rfl))))))))

abbrev s_rims_in : Stmt := top 30
theorem sc_rims_in : FnScope ["lot", "length", "beads", "some", "bead"] ["lot", "length"] (defScope s_rims_in) := ⟨by kernel_rfl, by kernel_rfl, by kernel_rfl, by decide +kernel, rfl, by decide +kernel, by decide +kernel⟩
def b_rims_in : DS :=
    (seqS (setS 2 (callR 2 d_beads_in (consR (nS 0) (consR (biR lenG (consR (nS 0) aN)) aN))))
    (seqS (setS 3 (lcR (seqR (nS 2)) [4] (gN 4) (tAndR (cmpT iGe (nS 4) (nS 1)) (cmpT notInA (res2 iSub (nS 4) (nS 1)) (nS 2))) (nS 4)))
    (rT (biR sortsD (consR (lcR (seqR (nS 3)) [4] (gN 4) tY (callR 3 d_without_rim (consR (nS 2) (consR (nS 4) (consR (nS 1) aN))))) aN)))))
def d_rims_in : DF := pureF (fnR 5 b_rims_in)
theorem ok_rims_in (T : TX g) : FnD g "rims_in" 2 4 d_rims_in := by
  exact FnD.pure (T.deff 38 69 (x := "rims_in") (st := s_rims_in) (k := 3) (fb := b_rims_in) rfl rfl sc_rims_in (fun _ _ _ _ _ _ us hl => match us, hl with | [_, _], _ => rfl)
    (den_scons (den_set (i := 2) (by kernel_rfl) (den_call (n := 2) (ok_beads_in T) (show 1 ≤ 3 by decide) (by kernel_rfl) (den_acons (den_name (i := 0) (by kernel_rfl)) (den_acons (den_bi c_len (by kernel_rfl) (T.free 0 rfl) (by kernel_rfl) (den_abcons (DenE.b (den_name (i := 0) (by kernel_rfl))) den_abnil (fun _ => rfl)) (fun _ => rfl) (fun _ => rfl)) den_anil (fun _ => rfl)) (fun _ => rfl)) (fun _ => rfl) (fun _ => rfl)) (fun _ => rfl))
    (den_scons (den_setLc (i := 3) (by kernel_rfl) (by kernel_rfl) (by kernel_rfl) (by kernel_rfl) (by kernel_rfl) (own := [("bead", 4)]) (den_iseq (den_name (i := 2) (by kernel_rfl))) (by kernel_rfl) (by decide) (den_gname (i := 4) (by kernel_rfl)) (den_tsone (den_tw (den_wand (den_tcmp o_ge (DenE.b (den_name (i := 4) (by kernel_rfl))) (DenE.b (den_name (i := 1) (by kernel_rfl))) rfl) (den_wand1 (den_tcmp o_notInA (DenE.b (den_bin o_sub (DenE.b (den_name (i := 4) (by kernel_rfl))) (DenE.b (den_name (i := 1) (by kernel_rfl))))) (DenE.b (den_name (i := 2) (by kernel_rfl))) rfl))))) (den_name (i := 4) (by kernel_rfl)) (fun _ _ => rfl))
    (den_sone (den_ret (DenN.toE (den_biN cn_sortsD (by kernel_rfl) (T.free 56 rfl) (by kernel_rfl) (den_abcons (DenN.b (den_lc (own := [("bead", 4)]) (den_iseq (den_name (i := 3) (by kernel_rfl))) (by kernel_rfl) (by decide) (den_gname (i := 4) (by kernel_rfl)) den_tsnil (den_call (n := 3) (ok_without_rim T) (show 3 ≤ 3 by decide) (by kernel_rfl) (den_acons (den_name (i := 2) (by kernel_rfl)) (den_acons (den_name (i := 4) (by kernel_rfl)) (den_acons (den_name (i := 1) (by kernel_rfl)) den_anil (fun _ => rfl)) (fun _ => rfl)) (fun _ => rfl)) (fun _ => rfl) (fun _ => rfl)) (fun _ _ => rfl))) den_abnil (fun _ => rfl)) (fun _ => rfl) (fun _ => rfl))))))))

abbrev s_rims : Stmt := top 53
theorem sc_rims : FnScope ["lot", "length"] ["lot", "length"] (defScope s_rims) := ⟨by kernel_rfl, by kernel_rfl, by kernel_rfl, by decide +kernel, rfl, by decide +kernel, by decide +kernel⟩
def b_rims : DS :=
    (seqS (xS (callR 1 d_require_lot (consR (nS 0) aN)))
    (seqS (xS (callR 3 d_require_within (consR (nS 1) (consR (kD (.int 1)) (consR (kD (.int 24)) aN)))))
    (rT (biR tupG (consR (callR 2 d_rims_in (consR (nS 0) (consR (nS 1) aN))) aN)))))
def d_rims : DF := pureF (fnR 2 b_rims)
theorem ok_rims (T : TX g) : FnD g "rims" 2 6 d_rims := by
  obtain ⟨t_MAX_SUM, c_MAX_SUM⟩ := T.int 27 (x := "MAX_SUM") (n := 24) rfl
  exact FnD.pure (T.deff 39 70 (x := "rims") (st := s_rims) (k := 5) (fb := b_rims) rfl rfl sc_rims (fun _ _ _ _ _ _ us hl => match us, hl with | [_, _], _ => rfl)
    (den_scons (den_sexpr (DenE.b (den_call (n := 1) (ok_require_lot T) (show 5 ≤ 5 by decide) (by kernel_rfl) (den_acons (den_name (i := 0) (by kernel_rfl)) den_anil (fun _ => rfl)) (fun _ => rfl) (fun _ => rfl))) (fun _ => rfl))
    (den_scons (den_sexpr (DenE.b (den_call (n := 3) (ok_require_within T) (show 4 ≤ 5 by decide) (by kernel_rfl) (den_acons (den_name (i := 1) (by kernel_rfl)) (den_acons den_int (den_acons (den_con (by kernel_rfl) c_MAX_SUM rfl) den_anil (fun _ => rfl)) (fun _ => rfl)) (fun _ => rfl)) (fun _ => rfl) (fun _ => rfl))) (fun _ => rfl))
    (den_sone (den_ret (den_bt c_tup (by kernel_rfl) (T.free 29 rfl) (by kernel_rfl) (den_abcons (DenE.b (den_call (n := 2) (ok_rims_in T) (show 4 ≤ 5 by decide) (by kernel_rfl) (den_acons (den_name (i := 0) (by kernel_rfl)) (den_acons (den_name (i := 1) (by kernel_rfl)) den_anil (fun _ => rfl)) (fun _ => rfl)) (fun _ => rfl) (fun _ => rfl))) den_abnil (fun _ => rfl)) (fun _ => rfl) (fun _ => rfl)))))))

abbrev s_filled_number : Stmt := top 54
theorem sc_filled_number : FnScope ["lot", "number", "found", "content"] ["lot", "number"] (defScope s_filled_number) := ⟨by kernel_rfl, by kernel_rfl, by kernel_rfl, by decide +kernel, rfl, by decide +kernel, by decide +kernel⟩
def b_filled_number : DS :=
    (seqS (xS (callR 1 d_require_lot (consR (nS 0) aN)))
    (seqS (xS (callR 3 d_require_within (consR (nS 1) (consR (kD (.int 0)) (consR (kD (.int 60)) aN)))))
    (seqS (setS 2 (kD (.int 1)))
    (seqS (forR (seqR (callR 1 d_contents_in (consR (nS 0) aN))) (gN 3) (augS 2 iMul (res2 addD (nS 1) (nS 3))))
    (rT (res2 iDiv (nS 2) (callR 1 d_hooks_product_in (consR (nS 0) aN))))))))
def d_filled_number : DF := pureF (fnR 4 b_filled_number)
theorem ok_filled_number (T : TX g) : FnD g "filled_number" 2 6 d_filled_number := by
  obtain ⟨t_MAX_FILLED, c_MAX_FILLED⟩ := T.int 71 (x := "MAX_FILLED") (n := 60) rfl
  exact FnD.pure (T.deff 40 72 (x := "filled_number") (st := s_filled_number) (k := 5) (fb := b_filled_number) rfl rfl sc_filled_number (fun _ _ _ _ _ _ us hl => match us, hl with | [_, _], _ => rfl)
    (den_scons (den_sexpr (DenE.b (den_call (n := 1) (ok_require_lot T) (show 5 ≤ 5 by decide) (by kernel_rfl) (den_acons (den_name (i := 0) (by kernel_rfl)) den_anil (fun _ => rfl)) (fun _ => rfl) (fun _ => rfl))) (fun _ => rfl))
    (den_scons (den_sexpr (DenE.b (den_call (n := 3) (ok_require_within T) (show 4 ≤ 5 by decide) (by kernel_rfl) (den_acons (den_name (i := 1) (by kernel_rfl)) (den_acons den_int (den_acons (den_con (by kernel_rfl) c_MAX_FILLED rfl) den_anil (fun _ => rfl)) (fun _ => rfl)) (fun _ => rfl)) (fun _ => rfl) (fun _ => rfl))) (fun _ => rfl))
    (den_scons (den_set (i := 2) (by kernel_rfl) den_int (fun _ => rfl))
    (den_scons (den_for (den_iseq (den_call (n := 1) (ok_contents_in T) (show 2 ≤ 5 by decide) (by kernel_rfl) (den_acons (den_name (i := 0) (by kernel_rfl)) den_anil (fun _ => rfl)) (fun _ => rfl) (fun _ => rfl))) (den_gname (i := 3) (by kernel_rfl)) (den_sone (den_aug (i := 2) (by kernel_rfl) io_mul (DenE.b (den_bin o_addD (DenE.b (den_name (i := 1) (by kernel_rfl))) (DenE.b (den_name (i := 3) (by kernel_rfl))))))) (fun _ _ => rfl))
    (den_sone (den_ret (den_bin o_div (DenE.b (den_name (i := 2) (by kernel_rfl))) (DenE.b (den_call (n := 1) (ok_hooks_product_in T) (show 2 ≤ 5 by decide) (by kernel_rfl) (den_acons (den_name (i := 0) (by kernel_rfl)) den_anil (fun _ => rfl)) (fun _ => rfl) (fun _ => rfl)))))))))))

abbrev s_require_two_lots : Stmt := top 34
theorem sc_require_two_lots : FnScope ["one", "other"] ["one", "other"] (defScope s_require_two_lots) := ⟨by kernel_rfl, by kernel_rfl, by kernel_rfl, by decide +kernel, rfl, by decide +kernel, by decide +kernel⟩
def b_require_two_lots : DS :=
    (seqS (xS (callR 1 d_require_lot (consR (nS 0) aN)))
    (seqS (xS (callR 1 d_require_lot (consR (nS 1) aN)))
    (iteS (cmpT neD (biR sumsG (consR (nS 0) aN)) (biR sumsG (consR (nS 1) aN))) (raiseS "InvalidOperation") nilS)))
def d_require_two_lots : DF := pureF (fnR 2 b_require_two_lots)
theorem ok_require_two_lots (T : TX g) : FnD g "require_two_lots" 2 6 d_require_two_lots := by
  exact FnD.pure (T.deff 41 73 (x := "require_two_lots") (st := s_require_two_lots) (k := 5) (fb := b_require_two_lots) rfl rfl sc_require_two_lots (fun _ _ _ _ _ _ us hl => match us, hl with | [_, _], _ => rfl)
    (den_scons (den_sexpr (DenE.b (den_call (n := 1) (ok_require_lot T) (show 5 ≤ 5 by decide) (by kernel_rfl) (den_acons (den_name (i := 0) (by kernel_rfl)) den_anil (fun _ => rfl)) (fun _ => rfl) (fun _ => rfl))) (fun _ => rfl))
    (den_scons (den_sexpr (DenE.b (den_call (n := 1) (ok_require_lot T) (show 5 ≤ 5 by decide) (by kernel_rfl) (den_acons (den_name (i := 1) (by kernel_rfl)) den_anil (fun _ => rfl)) (fun _ => rfl) (fun _ => rfl))) (fun _ => rfl))
    (den_sone (den_sif (den_tcmp o_ne (DenE.b (den_bi c_sums (by kernel_rfl) (T.free 31 rfl) (by kernel_rfl) (den_abcons (DenE.b (den_name (i := 0) (by kernel_rfl))) den_abnil (fun _ => rfl)) (fun _ => rfl) (fun _ => rfl))) (DenE.b (den_bi c_sums (by kernel_rfl) (T.free 31 rfl) (by kernel_rfl) (den_abcons (DenE.b (den_name (i := 1) (by kernel_rfl))) den_abnil (fun _ => rfl)) (fun _ => rfl) (fun _ => rfl))) rfl) (den_sone (den_raise (T.exc 7 59 rfl rfl) (by kernel_rfl))) den_snil)))))

abbrev s_is_above_in : Stmt := top 31
def d_is_above_in : DF := noF
theorem ok_is_above_in (T : TX g) : FnD g "is_above_in" 2 0 d_is_above_in := by
  exact Tx.never T.toTx 42 74 (x := "is_above_in") (st := s_is_above_in) (ps := ["one", "other"]) rfl rfl (fun _ _ _ _ _ _ us hl => match us, hl with | [_, _], _ => rfl)

abbrev s_is_above : Stmt := top 36
theorem sc_is_above : FnScope ["one", "other"] ["one", "other"] (defScope s_is_above) := ⟨by kernel_rfl, by kernel_rfl, by kernel_rfl, by decide +kernel, rfl, by decide +kernel, by decide +kernel⟩
def b_is_above : DS :=
    (seqS (xS (callR 2 d_require_two_lots (consR (nS 0) (consR (nS 1) aN))))
    (rT (callR 2 d_is_above_in (consR (nS 0) (consR (nS 1) aN)))))
def d_is_above : DF := pureF (fnR 2 b_is_above)
theorem ok_is_above (T : TX g) : FnD g "is_above" 2 7 d_is_above := by
  exact FnD.pure (T.deff 43 75 (x := "is_above") (st := s_is_above) (k := 6) (fb := b_is_above) rfl rfl sc_is_above (fun _ _ _ _ _ _ us hl => match us, hl with | [_, _], _ => rfl)
    (den_scons (den_sexpr (DenE.b (den_call (n := 2) (ok_require_two_lots T) (show 6 ≤ 6 by decide) (by kernel_rfl) (den_acons (den_name (i := 0) (by kernel_rfl)) (den_acons (den_name (i := 1) (by kernel_rfl)) den_anil (fun _ => rfl)) (fun _ => rfl)) (fun _ => rfl) (fun _ => rfl))) (fun _ => rfl))
    (den_sone (den_ret (den_call (n := 2) (ok_is_above_in T) (show 0 ≤ 6 by decide) (by kernel_rfl) (den_acons (den_name (i := 0) (by kernel_rfl)) (den_acons (den_name (i := 1) (by kernel_rfl)) den_anil (fun _ => rfl)) (fun _ => rfl)) (fun _ => rfl) (fun _ => rfl))))))

abbrev s__law_lots_right : Stmt := top 62
theorem sc__law_lots_right : FnScope ["_law_dice_here", "_law_none", "_law_told", "_law_many", "_law_call"] ["_law_dice_here"] (defScope s__law_lots_right) := ⟨by kernel_rfl, by kernel_rfl, by kernel_rfl, by decide +kernel, rfl, by decide +kernel, by decide +kernel⟩
def fs__law_lots_right__law_call : Fns := [("keepers", 1, d_keepers), ("renamings", 1, d_renamings), ("class_size", 1, d_class_size), ("conjugate", 1, d_conjugate), ("squares_of", 1, d_squares_of), ("contents", 1, d_contents), ("content_sum", 1, d_content_sum), ("hooks_product", 1, d_hooks_product), ("dimension", 1, d_dimension), ("less_square", 1, d_less_square), ("more_square", 1, d_more_square)]
theorem fo__law_lots_right__law_call (T : TX g) : FnsOk g 6 fs__law_lots_right__law_call := (fnsOk_cons (ok_keepers T) (by decide) (T.glo 36 rfl) (fnsOk_cons (ok_renamings T) (by decide) (T.glo 38 rfl) (fnsOk_cons (ok_class_size T) (by decide) (T.glo 41 rfl) (fnsOk_cons (ok_conjugate T) (by decide) (T.glo 43 rfl) (fnsOk_cons (ok_squares_of T) (by decide) (T.glo 46 rfl) (fnsOk_cons (ok_contents T) (by decide) (T.glo 48 rfl) (fnsOk_cons (ok_content_sum T) (by decide) (T.glo 50 rfl) (fnsOk_cons (ok_hooks_product T) (by decide) (T.glo 53 rfl) (fnsOk_cons (ok_dimension T) (by decide) (T.glo 55 rfl) (fnsOk_cons (ok_less_square T) (by decide) (T.glo 58 rfl) (fnsOk_cons (ok_more_square T) (by decide) (T.glo 60 rfl) fnsOk_nil)))))))))))
def le__law_lots_right_0 : DE :=
    (lstR (consR (kD .non) (consR (kD (.int 3)) (consR (tupR (consR (kD (.int 1)) (consR (kD (.int 2)) aN))) (consR (tupR (consR (kD (.int 0)) aN)) (consR (lstR (consR (kD (.int 2)) (consR (kD (.int 1)) aN))) (consR (kD (.str "21")) (consR (fun _ h => .ok (.dK []) h) (consR (tupR (consR (kD (.int 25)) aN)) (consR (tupR (consR (kD (.bl true)) aN)) (consR (tupR (consR (kD (.int 2)) (consR (res1 negD (kD (.int 1))) aN))) (consR (tupR (consR (kD (.int 2)) (consR (tupR (consR (kD (.int 1)) aN)) aN))) (consR (tupR (consR (res2 iPow (kD (.int 10)) (kD (.int 60))) aN)) (consR (tupR (consR (kD (.int 13)) (consR (kD (.int 12)) aN))) aN))))))))))))))
def opt__law_lots_right_0 : List D := [.non, .int 3, .tup [.int 1, .int 2], .tup [.int 0], .lst [.int 2, .int 1], .str "21", .dK [], .tup [.int 25], .tup [.bl true], .tup [.int 2, .int (-1)], .tup [.int 2, .tup [.int 1]], .tup [.int (1000000000000000000000000000000000000000000000000000000000000)], .tup [.int 13, .int 12]]
theorem leok__law_lots_right_0 (τ : List Sl) (h : HS) : le__law_lots_right_0 τ h = .ok (.lst opt__law_lots_right_0) h := by kernel_rfl
def t__law_lots_right_0 : DS :=
    (setS 1 (callR 2 d__law_pick (consR (nS 0) (consR le__law_lots_right_0 aN))))
def t__law_lots_right_1 : DS :=
    (par2 2 3 (ownM (lstR aN) (valM (kD (.int 0)) mN)))
def t__law_lots_right_2 : DS :=
    (forR (seqR (tupR (consR (kD (.fn "keepers")) (consR (kD (.fn "renamings")) (consR (kD (.fn "class_size")) (consR (kD (.fn "conjugate")) (consR (kD (.fn "squares_of")) (consR (kD (.fn "contents")) (consR (kD (.fn "content_sum")) (consR (kD (.fn "hooks_product")) (consR (kD (.fn "dimension")) aN))))))))))) (gN 4) (seqS (appS 2 (metR cl__law_met fin__law_met (callVR fs__law_lots_right__law_call 4 (consR (nS 1) aN))))
    (setS 3 (res2 addD (nS 3) (kD (.int 1))))))
def t__law_lots_right_3 : DS :=
    (forR (seqR (tupR (consR (kD (.fn "less_square")) (consR (kD (.fn "more_square")) aN)))) (gN 4) (seqS (appS 2 (metR cl__law_met fin__law_met (callVR fs__law_lots_right__law_call 4 (consR (nS 1) aN))))
    (setS 3 (res2 addD (nS 3) (kD (.int 1))))))
def t__law_lots_right_4 : DS :=
    (appS 2 (metR cl__law_met fin__law_met (callR 2 d_hook (consR (nS 1) (consR (kD .non) aN)))))
def t__law_lots_right_5 : DS :=
    (appS 2 (metR cl__law_met fin__law_met (callR 2 d_beads (consR (nS 1) (consR (kD .non) aN)))))
def t__law_lots_right_6 : DS :=
    (appS 2 (metR cl__law_met fin__law_met (callR 2 d_rims (consR (nS 1) (consR (kD .non) aN)))))
def t__law_lots_right_7 : DS :=
    (appS 2 (metR cl__law_met fin__law_met (callR 2 d_filled_number (consR (nS 1) (consR (kD .non) aN)))))
def t__law_lots_right_8 : DS :=
    (appS 2 (metR cl__law_met fin__law_met (callR 2 d_is_above (consR (nS 1) (consR (tupR (consR (kD (.int 2)) (consR (kD (.int 1)) aN))) aN)))))
def t__law_lots_right_9 : DS :=
    (appS 2 (metR cl__law_met fin__law_met (callR 2 d_is_above (consR (tupR (consR (kD (.int 2)) (consR (kD (.int 1)) aN))) (consR (nS 1) aN)))))
def t__law_lots_right_10 : DS :=
    (rT (res2 eqD (nB 2) (res2 repL (lstR (consR (tupR (consR (kD (.str "refused")) (consR (kD (.str "lot")) aN))) aN)) (res2 addD (nS 3) (kD (.int 6))))))
def b__law_lots_right : DS :=
    (seqS t__law_lots_right_0
    (seqS t__law_lots_right_1
    (seqS t__law_lots_right_2
    (seqS t__law_lots_right_3
    (seqS t__law_lots_right_4
    (seqS t__law_lots_right_5
    (seqS t__law_lots_right_6
    (seqS t__law_lots_right_7
    (seqS t__law_lots_right_8
    (seqS t__law_lots_right_9
    t__law_lots_right_10))))))))))
def d__law_lots_right : DF := fnR 5 b__law_lots_right
theorem ok__law_lots_right (T : TX g) : FnDL g "_law_lots_right" 1 10 d__law_lots_right := by
  exact Tx.defL T.toTx 44 76 (x := "_law_lots_right") (st := s__law_lots_right) (k := 9) (fb := b__law_lots_right) (T.lam 0 rfl) rfl rfl sc__law_lots_right (fun _ _ _ _ _ _ us hl => match us, hl with | [_], _ => rfl)
    (den_scons (den_set (i := 1) (by kernel_rfl) (den_call (n := 2) (ok__law_pick T) (show 2 ≤ 9 by decide) (by kernel_rfl) (den_acons (den_name (i := 0) (by kernel_rfl)) (den_acons (DenN.toE (den_lst (den_acons den_non (den_acons den_int (den_acons (den_tup (den_acons den_int (den_acons den_int den_anil (fun _ => rfl)) (fun _ => rfl))) (den_acons (den_tup (den_acons den_int den_anil (fun _ => rfl))) (den_acons (DenN.toE (den_lst (den_acons den_int (den_acons den_int den_anil (fun _ => rfl)) (fun _ => rfl)))) (den_acons den_str (den_acons (DenN.toE den_emptyK) (den_acons (den_tup (den_acons den_int den_anil (fun _ => rfl))) (den_acons (den_tup (den_acons den_bl den_anil (fun _ => rfl))) (den_acons (den_tup (den_acons den_int (den_acons (den_neg (DenE.b den_int)) den_anil (fun _ => rfl)) (fun _ => rfl))) (den_acons (den_tup (den_acons den_int (den_acons (den_tup (den_acons den_int den_anil (fun _ => rfl))) den_anil (fun _ => rfl)) (fun _ => rfl))) (den_acons (den_tup (den_acons (den_bin o_pow (DenE.b den_int) (DenE.b den_int)) den_anil (fun _ => rfl))) (den_acons (den_tup (den_acons den_int (den_acons den_int den_anil (fun _ => rfl)) (fun _ => rfl))) den_anil (fun _ => rfl)) (fun _ => rfl)) (fun _ => rfl)) (fun _ => rfl)) (fun _ => rfl)) (fun _ => rfl)) (fun _ => rfl)) (fun _ => rfl)) (fun _ => rfl)) (fun _ => rfl)) (fun _ => rfl)) (fun _ => rfl)) (fun _ => rfl)))) den_anil (fun _ => rfl)) (fun _ => rfl)) (fun _ => rfl) (fun _ => rfl)) (fun _ => rfl))
    (den_scons (den_par2 (i := 2) (j := 3) (by kernel_rfl) (by kernel_rfl) (by decide) (by kernel_rfl) (by kernel_rfl) (den_mown (den_lst den_anil) (den_mval den_int den_mnil (fun _ => rfl)) (fun _ => rfl)) (hw_of fun _ => by kernel_rfl) (fun _ => rfl))
    (den_scons (den_for (den_iseq (den_tup (den_acons (den_fnv (by kernel_rfl) (T.glo 36 rfl)) (den_acons (den_fnv (by kernel_rfl) (T.glo 38 rfl)) (den_acons (den_fnv (by kernel_rfl) (T.glo 41 rfl)) (den_acons (den_fnv (by kernel_rfl) (T.glo 43 rfl)) (den_acons (den_fnv (by kernel_rfl) (T.glo 46 rfl)) (den_acons (den_fnv (by kernel_rfl) (T.glo 48 rfl)) (den_acons (den_fnv (by kernel_rfl) (T.glo 50 rfl)) (den_acons (den_fnv (by kernel_rfl) (T.glo 53 rfl)) (den_acons (den_fnv (by kernel_rfl) (T.glo 55 rfl)) den_anil (fun _ => rfl)) (fun _ => rfl)) (fun _ => rfl)) (fun _ => rfl)) (fun _ => rfl)) (fun _ => rfl)) (fun _ => rfl)) (fun _ => rfl)) (fun _ => rfl)))) (den_gname (i := 4) (by kernel_rfl)) (den_scons (den_append (i := 2) (by kernel_rfl) (den_met (k := 7) (me__law_met T) rfl (show 7 + 2 ≤ 9 by decide) (by kernel_rfl) (by kernel_rfl) (fun _ => rfl) (fun _ _ _ _ _ => rfl) (den_callV1 (L := fs__law_lots_right__law_call) (i := 4) (k := 6) (fo__law_lots_right__law_call T) (show 6 ≤ 7 by decide) (by kernel_rfl) (den_acons (den_name (i := 1) (by kernel_rfl)) den_anil (fun _ => rfl)) (fun _ => rfl) (fun _ => rfl))) rfl (fun _ => rfl))
    (den_sone (den_set (i := 3) (by kernel_rfl) (den_bin o_addD (DenE.b (den_name (i := 3) (by kernel_rfl))) (DenE.b den_int)) (fun _ => rfl)))) (fun _ _ => rfl))
    (den_scons (den_for (den_iseq (den_tup (den_acons (den_fnv (by kernel_rfl) (T.glo 58 rfl)) (den_acons (den_fnv (by kernel_rfl) (T.glo 60 rfl)) den_anil (fun _ => rfl)) (fun _ => rfl)))) (den_gname (i := 4) (by kernel_rfl)) (den_scons (den_append (i := 2) (by kernel_rfl) (den_met (k := 7) (me__law_met T) rfl (show 7 + 2 ≤ 9 by decide) (by kernel_rfl) (by kernel_rfl) (fun _ => rfl) (fun _ _ _ _ _ => rfl) (den_callV1 (L := fs__law_lots_right__law_call) (i := 4) (k := 6) (fo__law_lots_right__law_call T) (show 6 ≤ 7 by decide) (by kernel_rfl) (den_acons (den_name (i := 1) (by kernel_rfl)) den_anil (fun _ => rfl)) (fun _ => rfl) (fun _ => rfl))) rfl (fun _ => rfl))
    (den_sone (den_set (i := 3) (by kernel_rfl) (den_bin o_addD (DenE.b (den_name (i := 3) (by kernel_rfl))) (DenE.b den_int)) (fun _ => rfl)))) (fun _ _ => rfl))
    (den_scons (den_append (i := 2) (by kernel_rfl) (den_met (k := 7) (me__law_met T) rfl (show 7 + 2 ≤ 9 by decide) (by kernel_rfl) (by kernel_rfl) (fun _ => rfl) (fun _ _ _ _ _ => rfl) (den_call (n := 2) (ok_hook T) (show 6 ≤ 7 by decide) (by kernel_rfl) (den_acons (den_name (i := 1) (by kernel_rfl)) (den_acons den_non den_anil (fun _ => rfl)) (fun _ => rfl)) (fun _ => rfl) (fun _ => rfl))) rfl (fun _ => rfl))
    (den_scons (den_append (i := 2) (by kernel_rfl) (den_met (k := 7) (me__law_met T) rfl (show 7 + 2 ≤ 9 by decide) (by kernel_rfl) (by kernel_rfl) (fun _ => rfl) (fun _ _ _ _ _ => rfl) (den_call (n := 2) (ok_beads T) (show 6 ≤ 7 by decide) (by kernel_rfl) (den_acons (den_name (i := 1) (by kernel_rfl)) (den_acons den_non den_anil (fun _ => rfl)) (fun _ => rfl)) (fun _ => rfl) (fun _ => rfl))) rfl (fun _ => rfl))
    (den_scons (den_append (i := 2) (by kernel_rfl) (den_met (k := 7) (me__law_met T) rfl (show 7 + 2 ≤ 9 by decide) (by kernel_rfl) (by kernel_rfl) (fun _ => rfl) (fun _ _ _ _ _ => rfl) (den_call (n := 2) (ok_rims T) (show 6 ≤ 7 by decide) (by kernel_rfl) (den_acons (den_name (i := 1) (by kernel_rfl)) (den_acons den_non den_anil (fun _ => rfl)) (fun _ => rfl)) (fun _ => rfl) (fun _ => rfl))) rfl (fun _ => rfl))
    (den_scons (den_append (i := 2) (by kernel_rfl) (den_met (k := 7) (me__law_met T) rfl (show 7 + 2 ≤ 9 by decide) (by kernel_rfl) (by kernel_rfl) (fun _ => rfl) (fun _ _ _ _ _ => rfl) (den_call (n := 2) (ok_filled_number T) (show 6 ≤ 7 by decide) (by kernel_rfl) (den_acons (den_name (i := 1) (by kernel_rfl)) (den_acons den_non den_anil (fun _ => rfl)) (fun _ => rfl)) (fun _ => rfl) (fun _ => rfl))) rfl (fun _ => rfl))
    (den_scons (den_append (i := 2) (by kernel_rfl) (den_met (k := 7) (me__law_met T) rfl (show 7 + 2 ≤ 9 by decide) (by kernel_rfl) (by kernel_rfl) (fun _ => rfl) (fun _ _ _ _ _ => rfl) (den_call (n := 2) (ok_is_above T) (show 7 ≤ 7 by decide) (by kernel_rfl) (den_acons (den_name (i := 1) (by kernel_rfl)) (den_acons (den_tup (den_acons den_int (den_acons den_int den_anil (fun _ => rfl)) (fun _ => rfl))) den_anil (fun _ => rfl)) (fun _ => rfl)) (fun _ => rfl) (fun _ => rfl))) rfl (fun _ => rfl))
    (den_scons (den_append (i := 2) (by kernel_rfl) (den_met (k := 7) (me__law_met T) rfl (show 7 + 2 ≤ 9 by decide) (by kernel_rfl) (by kernel_rfl) (fun _ => rfl) (fun _ _ _ _ _ => rfl) (den_call (n := 2) (ok_is_above T) (show 7 ≤ 7 by decide) (by kernel_rfl) (den_acons (den_tup (den_acons den_int (den_acons den_int den_anil (fun _ => rfl)) (fun _ => rfl))) (den_acons (den_name (i := 1) (by kernel_rfl)) den_anil (fun _ => rfl)) (fun _ => rfl)) (fun _ => rfl) (fun _ => rfl))) rfl (fun _ => rfl))
    (den_sone (den_ret (den_cmp o_eq (den_bname (i := 2) (by kernel_rfl)) (DenN.b (den_repN (DenN.b (den_lst (den_acons (den_tup (den_acons den_str (den_acons den_str den_anil (fun _ => rfl)) (fun _ => rfl))) den_anil (fun _ => rfl)))) (DenE.b (den_bin o_addD (DenE.b (den_name (i := 3) (by kernel_rfl))) (DenE.b den_int))))) rfl)))))))))))))

abbrev s__law_lot_of : Stmt := top 59
theorem sc__law_lot_of : FnScope ["_law_members"] ["_law_members"] (defScope s__law_lot_of) := ⟨by kernel_rfl, by kernel_rfl, by kernel_rfl, by decide +kernel, rfl, by decide +kernel, by decide +kernel⟩
def b__law_lot_of : DS :=
    (rT (biR tupG (consR (revR (biR sortsG (consR (nS 0) aN))) aN)))
def d__law_lot_of : DF := pureF (fnR 1 b__law_lot_of)
theorem ok__law_lot_of (T : TX g) : FnD g "_law_lot_of" 1 1 d__law_lot_of := by
  exact FnD.pure (T.deff 45 77 (x := "_law_lot_of") (st := s__law_lot_of) (k := 0) (fb := b__law_lot_of) rfl rfl sc__law_lot_of (fun _ _ _ _ _ _ us hl => match us, hl with | [_], _ => rfl)
    (den_sone (den_ret (den_bt c_tup (by kernel_rfl) (T.free 29 rfl) (by kernel_rfl) (den_abcons (DenN.b (den_rev (DenN.b (den_biN cn_sorts (by kernel_rfl) (T.free 56 rfl) (by kernel_rfl) (den_abcons (DenE.b (den_name (i := 0) (by kernel_rfl))) den_abnil (fun _ => rfl)) (fun _ => rfl) (fun _ => rfl))))) den_abnil (fun _ => rfl)) (fun _ => rfl) (fun _ => rfl)))))

abbrev s__law_lot_drawn : Stmt := top 60
theorem sc__law_lot_drawn : FnScope ["_law_dice_here", "_law_total", "_law_found", "_law_left", "_law_member"] ["_law_dice_here", "_law_total"] (defScope s__law_lot_drawn) := ⟨by kernel_rfl, by kernel_rfl, by kernel_rfl, by decide +kernel, rfl, by decide +kernel, by decide +kernel⟩
def b__law_lot_drawn : DS :=
    (seqS (par2 2 3 (ownM (lstR aN) (valM (nS 1) mN)))
    (seqS (whileS (cmpT iGt (nS 3) (kD (.int 0))) (seqS (setS 4 (res2 addD (kD (.int 1)) (callR 2 d__law_roll (consR (nS 0) (consR (biR minsG (consR (nS 3) (consR (callR 2 d__law_pick (consR (nS 0) (consR (lstR (consR (kD (.int 1)) (consR (kD (.int 2)) (consR (kD (.int 3)) (consR (kD (.int 8)) aN))))) aN))) aN))) aN)))))
    (seqS (appS 2 (nS 4))
    (setS 3 (res2 iSub (nS 3) (nS 4))))) 64)
    (frS 2 (rT (callR 1 d__law_lot_of (consR (nS 2) aN))))))
def d__law_lot_drawn : DF := fnR 5 b__law_lot_drawn
theorem ok__law_lot_drawn (T : TX g) : FnD g "_law_lot_drawn" 2 3 d__law_lot_drawn := by
  exact T.deff 46 79 (x := "_law_lot_drawn") (st := s__law_lot_drawn) (k := 2) (fb := b__law_lot_drawn) rfl rfl sc__law_lot_drawn (fun _ _ _ _ _ _ us hl => match us, hl with | [_, _], _ => rfl)
    (den_scons (den_par2 (i := 2) (j := 3) (by kernel_rfl) (by kernel_rfl) (by decide) (by kernel_rfl) (by kernel_rfl) (den_mown (den_lst den_anil) (den_mval (den_name (i := 1) (by kernel_rfl)) den_mnil (fun _ => rfl)) (fun _ => rfl)) (hw_of fun _ => by kernel_rfl) (fun _ => rfl))
    (den_scons (den_while 64 (den_tcmp o_gt (DenE.b (den_name (i := 3) (by kernel_rfl))) (DenE.b den_int) rfl) (den_scons (den_set (i := 4) (by kernel_rfl) (den_bin o_addD (DenE.b den_int) (DenE.b (den_call (n := 2) (ok__law_roll T) (show 1 ≤ 2 by decide) (by kernel_rfl) (den_acons (den_name (i := 0) (by kernel_rfl)) (den_acons (den_bi c_mins (by kernel_rfl) (T.free 78 rfl) (by kernel_rfl) (den_abcons (DenE.b (den_name (i := 3) (by kernel_rfl))) (den_abcons (DenE.b (den_call (n := 2) (ok__law_pick T) (show 2 ≤ 2 by decide) (by kernel_rfl) (den_acons (den_name (i := 0) (by kernel_rfl)) (den_acons (DenN.toE (den_lst (den_acons den_int (den_acons den_int (den_acons den_int (den_acons den_int den_anil (fun _ => rfl)) (fun _ => rfl)) (fun _ => rfl)) (fun _ => rfl)))) den_anil (fun _ => rfl)) (fun _ => rfl)) (fun _ => rfl) (fun _ => rfl))) den_abnil (fun _ => rfl)) (fun _ => rfl)) (fun _ => rfl) (fun _ => rfl)) den_anil (fun _ => rfl)) (fun _ => rfl)) (fun _ => rfl) (fun _ => rfl)))) (fun _ => rfl))
    (den_scons (den_append (i := 2) (by kernel_rfl) (den_name (i := 4) (by kernel_rfl)) rfl (fun _ => rfl))
    (den_sone (den_set (i := 3) (by kernel_rfl) (den_bin o_sub (DenE.b (den_name (i := 3) (by kernel_rfl))) (DenE.b (den_name (i := 4) (by kernel_rfl)))) (fun _ => rfl))))))
    (den_sone (den_frz 2 (den_ret (den_call (n := 1) (ok__law_lot_of T) (show 1 ≤ 2 by decide) (by kernel_rfl) (den_acons (den_name (i := 2) (by kernel_rfl)) den_anil (fun _ => rfl)) (fun _ => rfl) (fun _ => rfl)))))))

abbrev s_lots_in : Stmt := top 16
def d_lots_in : DF := noF
theorem ok_lots_in (T : TX g) : FnD g "lots_in" 1 0 d_lots_in := by
  exact Tx.never T.toTx 47 80 (x := "lots_in") (st := s_lots_in) (ps := ["total"]) rfl rfl (fun _ _ _ _ _ _ us hl => match us, hl with | [_], _ => rfl)

abbrev s_lots : Stmt := top 35
theorem sc_lots : FnScope ["total"] ["total"] (defScope s_lots) := ⟨by kernel_rfl, by kernel_rfl, by kernel_rfl, by decide +kernel, rfl, by decide +kernel, by decide +kernel⟩
def b_lots : DS :=
    (seqS (xS (callR 3 d_require_within (consR (nS 0) (consR (kD (.int 0)) (consR (kD (.int 24)) aN)))))
    (rT (biR tupG (consR (callR 1 d_lots_in (consR (nS 0) aN)) aN))))
def d_lots : DF := pureF (fnR 1 b_lots)
theorem ok_lots (T : TX g) : FnD g "lots" 1 5 d_lots := by
  obtain ⟨t_MAX_SUM, c_MAX_SUM⟩ := T.int 27 (x := "MAX_SUM") (n := 24) rfl
  exact FnD.pure (T.deff 48 81 (x := "lots") (st := s_lots) (k := 4) (fb := b_lots) rfl rfl sc_lots (fun _ _ _ _ _ _ us hl => match us, hl with | [_], _ => rfl)
    (den_scons (den_sexpr (DenE.b (den_call (n := 3) (ok_require_within T) (show 4 ≤ 4 by decide) (by kernel_rfl) (den_acons (den_name (i := 0) (by kernel_rfl)) (den_acons den_int (den_acons (den_con (by kernel_rfl) c_MAX_SUM rfl) den_anil (fun _ => rfl)) (fun _ => rfl)) (fun _ => rfl)) (fun _ => rfl) (fun _ => rfl))) (fun _ => rfl))
    (den_sone (den_ret (den_bt c_tup (by kernel_rfl) (T.free 29 rfl) (by kernel_rfl) (den_abcons (DenE.b (den_call (n := 1) (ok_lots_in T) (show 0 ≤ 4 by decide) (by kernel_rfl) (den_acons (den_name (i := 0) (by kernel_rfl)) den_anil (fun _ => rfl)) (fun _ => rfl) (fun _ => rfl))) den_abnil (fun _ => rfl)) (fun _ => rfl) (fun _ => rfl))))))

abbrev s_are_beads : Stmt := top 51
theorem sc_are_beads : FnScope ["value", "bead", "one", "other"] ["value"] (defScope s_are_beads) := ⟨by kernel_rfl, by kernel_rfl, by kernel_rfl, by decide +kernel, rfl, by decide +kernel, by decide +kernel⟩
def b_are_beads : DS :=
    (seqS (iteS (tOrR (tNotR (truR (isiR "tuple" (nS 0)))) (cmpT iGt (biR lenG (consR (nS 0) aN)) (kD (.int 40)))) (rT (kD (.bl false))) nilS)
    (seqS (iteS (tNotR (truR (biR allG (consR (lcR (seqR (nS 0)) [1] (gN 1) tY (callR 3 d_is_within (consR (nS 1) (consR (kD (.int 0)) (consR (res2 addD (kD (.int 24)) (kD (.int 40))) aN))))) aN)))) (rT (kD (.bl false))) nilS)
    (rT (biR allG (consR (lcR (zipR (nS 0) (sliceR (nS 0) (oS (kD (.int 1))) oN)) [2, 3] (gT (gConsT (gN 2) (gConsT (gN 3) gNilT))) tY (res2 iGt (nS 2) (nS 3))) aN)))))
def d_are_beads : DF := pureF (fnR 4 b_are_beads)
theorem ok_are_beads (T : TX g) : FnD g "are_beads" 1 4 d_are_beads := by
  obtain ⟨t_MAX_BEADS, c_MAX_BEADS⟩ := T.int 65 (x := "MAX_BEADS") (n := 40) rfl
  obtain ⟨t_MAX_SUM, c_MAX_SUM⟩ := T.int 27 (x := "MAX_SUM") (n := 24) rfl
  exact FnD.pure (T.deff 49 82 (x := "are_beads") (st := s_are_beads) (k := 3) (fb := b_are_beads) rfl rfl sc_are_beads (fun _ _ _ _ _ _ us hl => match us, hl with | [_], _ => rfl)
    (den_scons (den_sif (den_tw (den_wor (den_tnot (den_tru (DenE.b (den_isi (Tn := "tuple") (by kernel_rfl) (T.free 21 rfl) (by kernel_rfl) (T.free 29 rfl) (by kernel_rfl) (DenE.b (den_name (i := 0) (by kernel_rfl))) (fun _ => rfl) (fun _ => rfl) (fun _ => rfl))) (fun _ _ => rfl))) (den_wor1 (den_tcmp o_gt (DenE.b (den_bi c_len (by kernel_rfl) (T.free 0 rfl) (by kernel_rfl) (den_abcons (DenE.b (den_name (i := 0) (by kernel_rfl))) den_abnil (fun _ => rfl)) (fun _ => rfl) (fun _ => rfl))) (DenE.b (den_con (by kernel_rfl) c_MAX_BEADS rfl)) rfl)))) (den_sone (den_ret den_bl)) den_snil)
    (den_scons (den_sif (den_tnot (den_tru (DenE.b (den_bi c_all (by kernel_rfl) (T.free 28 rfl) (by kernel_rfl) (den_abcons (DenN.b (den_lc (own := [("bead", 1)]) (den_iseq (den_name (i := 0) (by kernel_rfl))) (by kernel_rfl) (by decide) (den_gname (i := 1) (by kernel_rfl)) den_tsnil (den_call (n := 3) (ok_is_within T) (show 3 ≤ 3 by decide) (by kernel_rfl) (den_acons (den_name (i := 1) (by kernel_rfl)) (den_acons den_int (den_acons (den_bin o_addD (DenE.b (den_con (by kernel_rfl) c_MAX_SUM rfl)) (DenE.b (den_con (by kernel_rfl) c_MAX_BEADS rfl))) den_anil (fun _ => rfl)) (fun _ => rfl)) (fun _ => rfl)) (fun _ => rfl) (fun _ => rfl)) (fun _ _ => rfl))) den_abnil (fun _ => rfl)) (fun _ => rfl) (fun _ => rfl))) (fun _ _ => rfl))) (den_sone (den_ret den_bl)) den_snil)
    (den_sone (den_ret (den_bi c_all (by kernel_rfl) (T.free 28 rfl) (by kernel_rfl) (den_abcons (DenN.b (den_lc (own := [("one", 2), ("other", 3)]) (den_izip (by kernel_rfl) (T.free 30 rfl) (den_name (i := 0) (by kernel_rfl)) (den_slT (DenE.b (den_name (i := 0) (by kernel_rfl))) (den_psm (DenE.b den_int)) den_pnone) (fun _ => rfl) (fun _ => rfl)) (by kernel_rfl) (by decide) (den_gtup (den_gcons (den_gname (i := 2) (by kernel_rfl)) (den_gcons (den_gname (i := 3) (by kernel_rfl)) den_gnil (fun _ => rfl)) (fun _ => rfl)) (fun _ => rfl) (fun _ => rfl) (gcons_len (gcons_len gnil_len))) den_tsnil (den_cmp o_gt (DenE.b (den_name (i := 2) (by kernel_rfl))) (DenE.b (den_name (i := 3) (by kernel_rfl))) rfl) (fun _ _ => rfl))) den_abnil (fun _ => rfl)) (fun _ => rfl) (fun _ => rfl)))))))

abbrev s_lot_of_beads : Stmt := top 52
theorem sc_lot_of_beads : FnScope ["value", "found"] ["value"] (defScope s_lot_of_beads) := ⟨by kernel_rfl, by kernel_rfl, by kernel_rfl, by decide +kernel, rfl, by decide +kernel, by decide +kernel⟩
def b_lot_of_beads : DS :=
    (seqS (iteS (tNotR (truR (callR 1 d_are_beads (consR (nS 0) aN)))) (raiseS "InvalidOperation") nilS)
    (seqS (setS 1 (callR 1 d_lot_by_beads (consR (biR listG (consR (nS 0) aN)) aN)))
    (seqS (iteS (cmpT iGt (biR sumsG (consR (nS 1) aN)) (kD (.int 24))) (raiseS "InvalidOperation") nilS)
    (rT (nS 1)))))
def d_lot_of_beads : DF := pureF (fnR 2 b_lot_of_beads)
theorem ok_lot_of_beads (T : TX g) : FnD g "lot_of_beads" 1 5 d_lot_of_beads := by
  obtain ⟨t_MAX_SUM, c_MAX_SUM⟩ := T.int 27 (x := "MAX_SUM") (n := 24) rfl
  exact FnD.pure (T.deff 50 84 (x := "lot_of_beads") (st := s_lot_of_beads) (k := 4) (fb := b_lot_of_beads) rfl rfl sc_lot_of_beads (fun _ _ _ _ _ _ us hl => match us, hl with | [_], _ => rfl)
    (den_scons (den_sif (den_tnot (den_tru (DenE.b (den_call (n := 1) (ok_are_beads T) (show 4 ≤ 4 by decide) (by kernel_rfl) (den_acons (den_name (i := 0) (by kernel_rfl)) den_anil (fun _ => rfl)) (fun _ => rfl) (fun _ => rfl))) (fun _ _ => rfl))) (den_sone (den_raise (T.exc 7 59 rfl rfl) (by kernel_rfl))) den_snil)
    (den_scons (den_set (i := 1) (by kernel_rfl) (den_call (n := 1) (ok_lot_by_beads T) (show 2 ≤ 4 by decide) (by kernel_rfl) (den_acons (DenN.toE (den_btN cn_list (by kernel_rfl) (T.free 83 rfl) (by kernel_rfl) (den_abcons (DenE.b (den_name (i := 0) (by kernel_rfl))) den_abnil (fun _ => rfl)) (fun _ => rfl) (fun _ => rfl))) den_anil (fun _ => rfl)) (fun _ => rfl) (fun _ => rfl)) (fun _ => rfl))
    (den_scons (den_sif (den_tcmp o_gt (DenE.b (den_bi c_sums (by kernel_rfl) (T.free 31 rfl) (by kernel_rfl) (den_abcons (DenE.b (den_name (i := 1) (by kernel_rfl))) den_abnil (fun _ => rfl)) (fun _ => rfl) (fun _ => rfl))) (DenE.b (den_con (by kernel_rfl) c_MAX_SUM rfl)) rfl) (den_sone (den_raise (T.exc 7 59 rfl rfl) (by kernel_rfl))) den_snil)
    (den_sone (den_ret (den_name (i := 1) (by kernel_rfl))))))))

abbrev s__law_others_right : Stmt := top 63
theorem sc__law_others_right : FnScope ["_law_dice_here", "_law_lot", "_law_total", "_law_square", "_law_rows", "_law_some", "_law_length", "_law_number", "_law_told", "_law_due", "_law_word"] ["_law_dice_here"] (defScope s__law_others_right) := ⟨by kernel_rfl, by kernel_rfl, by kernel_rfl, by decide +kernel, rfl, by decide +kernel, by decide +kernel⟩
def t__law_others_right_0 : DS :=
    (setS 1 (callR 2 d__law_lot_drawn (consR (nS 0) (consR (res2 addD (kD (.int 1)) (callR 2 d__law_roll (consR (nS 0) (consR (kD (.int 9)) aN)))) aN))))
def le__law_others_right_1 : DE :=
    (lstR (consR (kD .non) (consR (res1 negD (kD (.int 1))) (consR (kD (.int 25)) (consR (kD (.bl true)) (consR (kD (.str "3")) (consR (tupR (consR (kD (.int 3)) aN)) (consR (res2 iPow (kD (.int 10)) (kD (.int 60))) aN))))))))
def opt__law_others_right_1 : List D := [.non, .int (-1), .int 25, .bl true, .str "3", .tup [.int 3], .int (1000000000000000000000000000000000000000000000000000000000000)]
theorem leok__law_others_right_1 (τ : List Sl) (h : HS) : le__law_others_right_1 τ h = .ok (.lst opt__law_others_right_1) h := by kernel_rfl
def t__law_others_right_1 : DS :=
    (setS 2 (callR 2 d__law_pick (consR (nS 0) (consR le__law_others_right_1 aN))))
def le__law_others_right_2 : DE :=
    (lstR (consR (kD .non) (consR (tupR (consR (kD (.int 0)) aN)) (consR (tupR (consR (biR lenG (consR (nS 1) aN)) (consR (kD (.int 0)) aN))) (consR (tupR (consR (kD (.int 0)) (consR (res2 atD (nS 1) (kD (.int 0))) aN))) (consR (tupR (consR (res1 negD (kD (.int 1))) (consR (kD (.int 0)) aN))) (consR (lstR (consR (kD (.int 0)) (consR (kD (.int 0)) aN))) (consR (tupR (consR (kD (.int 0)) (consR (kD (.str "0")) aN))) (consR (kD (.int 0)) (consR (tupR (consR (kD (.int 0)) (consR (kD (.bl true)) aN))) (consR (tupR (consR (kD (.int 0)) (consR (kD (.int 0)) (consR (kD (.int 0)) aN)))) aN)))))))))))
def t__law_others_right_2 : DS :=
    (setS 3 (callR 2 d__law_pick (consR (nS 0) (consR le__law_others_right_2 aN))))
def le__law_others_right_3 : DE :=
    (lstR (consR (kD .non) (consR (res2 iSub (biR lenG (consR (nS 1) aN)) (kD (.int 1))) (consR (kD (.int 41)) (consR (res1 negD (kD (.int 1))) (consR (kD (.bl true)) (consR (kD (.str "9")) (consR (tupR (consR (kD (.int 9)) aN)) (consR (res2 iPow (kD (.int 10)) (kD (.int 60))) aN)))))))))
def t__law_others_right_3 : DS :=
    (setS 4 (callR 2 d__law_pick (consR (nS 0) (consR le__law_others_right_3 aN))))
def le__law_others_right_4 : DE :=
    (lstR (consR (kD .non) (consR (kD (.int 5)) (consR (tupR (consR (kD (.int 1)) (consR (kD (.int 1)) aN))) (consR (tupR (consR (kD (.int 1)) (consR (kD (.int 2)) aN))) (consR (tupR (consR (kD (.int 2)) (consR (res1 negD (kD (.int 1))) aN))) (consR (lstR (consR (kD (.int 3)) (consR (kD (.int 1)) aN))) (consR (tupR (consR (kD (.str "2")) aN)) (consR (tupR (consR (kD (.bl true)) aN)) (consR (tupR (consR (kD (.int 30)) aN)) (consR (fun _ h => .ok (.dK []) h) (consR (tupR (consR (kD (.int 0)) (consR (kD (.int 0)) aN))) (consR (tupRgD (kD (.int 40)) (res1 negD (kD (.int 1)))) aN)))))))))))))
def opt__law_others_right_4 : List D := [.non, .int 5, .tup [.int 1, .int 1], .tup [.int 1, .int 2], .tup [.int 2, .int (-1)], .lst [.int 3, .int 1], .tup [.str "2"], .tup [.bl true], .tup [.int 30], .dK [], .tup [.int 0, .int 0], .tup [.int (40), .int (39), .int (38), .int (37), .int (36), .int (35), .int (34), .int (33), .int (32), .int (31), .int (30), .int (29), .int (28), .int (27), .int (26), .int (25), .int (24), .int (23), .int (22), .int (21), .int (20), .int (19), .int (18), .int (17), .int (16), .int (15), .int (14), .int (13), .int (12), .int (11), .int (10), .int (9), .int (8), .int (7), .int (6), .int (5), .int (4), .int (3), .int (2), .int (1), .int (0)]]
theorem leok__law_others_right_4 (τ : List Sl) (h : HS) : le__law_others_right_4 τ h = .ok (.lst opt__law_others_right_4) h := by kernel_rfl
def t__law_others_right_4 : DS :=
    (setS 5 (callR 2 d__law_pick (consR (nS 0) (consR le__law_others_right_4 aN))))
def le__law_others_right_5 : DE :=
    (lstR (consR (kD .non) (consR (kD (.int 0)) (consR (kD (.int 25)) (consR (res1 negD (kD (.int 2))) (consR (kD (.bl false)) (consR (kD (.str "1")) (consR (tupR (consR (kD (.int 1)) aN)) (consR (res2 iPow (kD (.int 10)) (kD (.int 60))) aN)))))))))
def opt__law_others_right_5 : List D := [.non, .int 0, .int 25, .int (-2), .bl false, .str "1", .tup [.int 1], .int (1000000000000000000000000000000000000000000000000000000000000)]
theorem leok__law_others_right_5 (τ : List Sl) (h : HS) : le__law_others_right_5 τ h = .ok (.lst opt__law_others_right_5) h := by kernel_rfl
def t__law_others_right_5 : DS :=
    (setS 6 (callR 2 d__law_pick (consR (nS 0) (consR le__law_others_right_5 aN))))
def le__law_others_right_6 : DE :=
    (lstR (consR (kD .non) (consR (res1 negD (kD (.int 1))) (consR (kD (.int 61)) (consR (kD (.bl true)) (consR (kD (.str "2")) (consR (lstR (consR (kD (.int 2)) aN)) (consR (res2 iPow (kD (.int 10)) (kD (.int 60))) aN))))))))
def opt__law_others_right_6 : List D := [.non, .int (-1), .int 61, .bl true, .str "2", .lst [.int 2], .int (1000000000000000000000000000000000000000000000000000000000000)]
theorem leok__law_others_right_6 (τ : List Sl) (h : HS) : le__law_others_right_6 τ h = .ok (.lst opt__law_others_right_6) h := by kernel_rfl
def t__law_others_right_6 : DS :=
    (setS 7 (callR 2 d__law_pick (consR (nS 0) (consR le__law_others_right_6 aN))))
def t__law_others_right_7 : DS :=
    (setN 8 (lstR (consR (metR cl__law_met fin__law_met (callR 1 d_lots (consR (nS 2) aN))) aN)))
def t__law_others_right_8 : DS :=
    (appS 8 (metR cl__law_met fin__law_met (callR 2 d_hook (consR (nS 1) (consR (nS 3) aN)))))
def t__law_others_right_9 : DS :=
    (appS 8 (metR cl__law_met fin__law_met (callR 2 d_beads (consR (nS 1) (consR (nS 4) aN)))))
def t__law_others_right_10 : DS :=
    (appS 8 (metR cl__law_met fin__law_met (callR 1 d_lot_of_beads (consR (nS 5) aN))))
def t__law_others_right_11 : DS :=
    (appS 8 (metR cl__law_met fin__law_met (callR 2 d_rims (consR (nS 1) (consR (nS 6) aN)))))
def t__law_others_right_12 : DS :=
    (appS 8 (metR cl__law_met fin__law_met (callR 2 d_filled_number (consR (nS 1) (consR (nS 7) aN)))))
def t__law_others_right_13 : DS :=
    (appS 8 (metR cl__law_met fin__law_met (callR 2 d_is_above (consR (nS 1) (consR (res2 addD (nS 1) (tupR (consR (kD (.int 1)) aN))) aN)))))
def t__law_others_right_14 : DS :=
    (appS 8 (metR cl__law_met fin__law_met (callR 1 d_more_square (consR (callR 2 d__law_lot_drawn (consR (nS 0) (consR (kD (.int 24)) aN))) aN))))
def t__law_others_right_15 : DS :=
    (setS 9 (lstR (consR (res2 addD (kD (.str "count ")) (biR reprLG (consR (nS 2) aN))) (consR (kD (.str "operation")) (consR (res2 addD (kD (.str "count ")) (biR reprLG (consR (nS 4) aN))) (consR (kD (.str "operation")) (consR (res2 addD (kD (.str "count ")) (biR reprLG (consR (nS 6) aN))) aN)))))))
def t__law_others_right_16 : DS :=
    (rT (res2 eqD (nB 8) (lcR (seqR (res2 addD (nS 9) (lstR (consR (res2 addD (kD (.str "count ")) (biR reprLG (consR (nS 7) aN))) (consR (kD (.str "operation")) (consR (kD (.str "operation")) aN)))))) [10] (gN 10) tY (tupR (consR (kD (.str "refused")) (consR (nS 10) aN))))))
def b__law_others_right : DS :=
    (seqS t__law_others_right_0
    (seqS t__law_others_right_1
    (seqS t__law_others_right_2
    (seqS t__law_others_right_3
    (seqS t__law_others_right_4
    (seqS t__law_others_right_5
    (seqS t__law_others_right_6
    (seqS t__law_others_right_7
    (seqS t__law_others_right_8
    (seqS t__law_others_right_9
    (seqS t__law_others_right_10
    (seqS t__law_others_right_11
    (seqS t__law_others_right_12
    (seqS t__law_others_right_13
    (seqS t__law_others_right_14
    (seqS t__law_others_right_15
    t__law_others_right_16))))))))))))))))
def d__law_others_right : DF := fnR 11 b__law_others_right
theorem ok__law_others_right (T : TX g) : FnDL g "_law_others_right" 1 10 d__law_others_right := by
  exact Tx.defL T.toTx 51 85 (x := "_law_others_right") (st := s__law_others_right) (k := 9) (fb := b__law_others_right) (T.lam 1 rfl) rfl rfl sc__law_others_right (fun _ _ _ _ _ _ us hl => match us, hl with | [_], _ => rfl)
    (den_scons (den_set (i := 1) (by kernel_rfl) (den_call (n := 2) (ok__law_lot_drawn T) (show 3 ≤ 9 by decide) (by kernel_rfl) (den_acons (den_name (i := 0) (by kernel_rfl)) (den_acons (den_bin o_addD (DenE.b den_int) (DenE.b (den_call (n := 2) (ok__law_roll T) (show 1 ≤ 9 by decide) (by kernel_rfl) (den_acons (den_name (i := 0) (by kernel_rfl)) (den_acons den_int den_anil (fun _ => rfl)) (fun _ => rfl)) (fun _ => rfl) (fun _ => rfl)))) den_anil (fun _ => rfl)) (fun _ => rfl)) (fun _ => rfl) (fun _ => rfl)) (fun _ => rfl))
    (den_scons (den_set (i := 2) (by kernel_rfl) (den_call (n := 2) (ok__law_pick T) (show 2 ≤ 9 by decide) (by kernel_rfl) (den_acons (den_name (i := 0) (by kernel_rfl)) (den_acons (DenN.toE (den_lst (den_acons den_non (den_acons (den_neg (DenE.b den_int)) (den_acons den_int (den_acons den_bl (den_acons den_str (den_acons (den_tup (den_acons den_int den_anil (fun _ => rfl))) (den_acons (den_bin o_pow (DenE.b den_int) (DenE.b den_int)) den_anil (fun _ => rfl)) (fun _ => rfl)) (fun _ => rfl)) (fun _ => rfl)) (fun _ => rfl)) (fun _ => rfl)) (fun _ => rfl)))) den_anil (fun _ => rfl)) (fun _ => rfl)) (fun _ => rfl) (fun _ => rfl)) (fun _ => rfl))
    (den_scons (den_set (i := 3) (by kernel_rfl) (den_call (n := 2) (ok__law_pick T) (show 2 ≤ 9 by decide) (by kernel_rfl) (den_acons (den_name (i := 0) (by kernel_rfl)) (den_acons (DenN.toE (den_lst (den_acons den_non (den_acons (den_tup (den_acons den_int den_anil (fun _ => rfl))) (den_acons (den_tup (den_acons (den_bi c_len (by kernel_rfl) (T.free 0 rfl) (by kernel_rfl) (den_abcons (DenE.b (den_name (i := 1) (by kernel_rfl))) den_abnil (fun _ => rfl)) (fun _ => rfl) (fun _ => rfl)) (den_acons den_int den_anil (fun _ => rfl)) (fun _ => rfl))) (den_acons (den_tup (den_acons den_int (den_acons (den_ix (DenE.b (den_name (i := 1) (by kernel_rfl))) (DenE.b den_int) (fun _ _ => rfl)) den_anil (fun _ => rfl)) (fun _ => rfl))) (den_acons (den_tup (den_acons (den_neg (DenE.b den_int)) (den_acons den_int den_anil (fun _ => rfl)) (fun _ => rfl))) (den_acons (DenN.toE (den_lst (den_acons den_int (den_acons den_int den_anil (fun _ => rfl)) (fun _ => rfl)))) (den_acons (den_tup (den_acons den_int (den_acons den_str den_anil (fun _ => rfl)) (fun _ => rfl))) (den_acons den_int (den_acons (den_tup (den_acons den_int (den_acons den_bl den_anil (fun _ => rfl)) (fun _ => rfl))) (den_acons (den_tup (den_acons den_int (den_acons den_int (den_acons den_int den_anil (fun _ => rfl)) (fun _ => rfl)) (fun _ => rfl))) den_anil (fun _ => rfl)) (fun _ => rfl)) (fun _ => rfl)) (fun _ => rfl)) (fun _ => rfl)) (fun _ => rfl)) (fun _ => rfl)) (fun _ => rfl)) (fun _ => rfl)) (fun _ => rfl)))) den_anil (fun _ => rfl)) (fun _ => rfl)) (fun _ => rfl) (fun _ => rfl)) (fun _ => rfl))
    (den_scons (den_set (i := 4) (by kernel_rfl) (den_call (n := 2) (ok__law_pick T) (show 2 ≤ 9 by decide) (by kernel_rfl) (den_acons (den_name (i := 0) (by kernel_rfl)) (den_acons (DenN.toE (den_lst (den_acons den_non (den_acons (den_bin o_sub (DenE.b (den_bi c_len (by kernel_rfl) (T.free 0 rfl) (by kernel_rfl) (den_abcons (DenE.b (den_name (i := 1) (by kernel_rfl))) den_abnil (fun _ => rfl)) (fun _ => rfl) (fun _ => rfl))) (DenE.b den_int)) (den_acons den_int (den_acons (den_neg (DenE.b den_int)) (den_acons den_bl (den_acons den_str (den_acons (den_tup (den_acons den_int den_anil (fun _ => rfl))) (den_acons (den_bin o_pow (DenE.b den_int) (DenE.b den_int)) den_anil (fun _ => rfl)) (fun _ => rfl)) (fun _ => rfl)) (fun _ => rfl)) (fun _ => rfl)) (fun _ => rfl)) (fun _ => rfl)) (fun _ => rfl)))) den_anil (fun _ => rfl)) (fun _ => rfl)) (fun _ => rfl) (fun _ => rfl)) (fun _ => rfl))
    (den_scons (den_set (i := 5) (by kernel_rfl) (den_call (n := 2) (ok__law_pick T) (show 2 ≤ 9 by decide) (by kernel_rfl) (den_acons (den_name (i := 0) (by kernel_rfl)) (den_acons (DenN.toE (den_lst (den_acons den_non (den_acons den_int (den_acons (den_tup (den_acons den_int (den_acons den_int den_anil (fun _ => rfl)) (fun _ => rfl))) (den_acons (den_tup (den_acons den_int (den_acons den_int den_anil (fun _ => rfl)) (fun _ => rfl))) (den_acons (den_tup (den_acons den_int (den_acons (den_neg (DenE.b den_int)) den_anil (fun _ => rfl)) (fun _ => rfl))) (den_acons (DenN.toE (den_lst (den_acons den_int (den_acons den_int den_anil (fun _ => rfl)) (fun _ => rfl)))) (den_acons (den_tup (den_acons den_str den_anil (fun _ => rfl))) (den_acons (den_tup (den_acons den_bl den_anil (fun _ => rfl))) (den_acons (den_tup (den_acons den_int den_anil (fun _ => rfl))) (den_acons (DenN.toE den_emptyK) (den_acons (den_tup (den_acons den_int (den_acons den_int den_anil (fun _ => rfl)) (fun _ => rfl))) (den_acons (den_tupRgD (by kernel_rfl) (T.free 29 rfl) (by kernel_rfl) (T.free 39 rfl) (DenE.b den_int) (DenE.b (den_neg (DenE.b den_int))) (fun _ => rfl) (fun _ => rfl) (fun _ => rfl) (fun _ => rfl)) den_anil (fun _ => rfl)) (fun _ => rfl)) (fun _ => rfl)) (fun _ => rfl)) (fun _ => rfl)) (fun _ => rfl)) (fun _ => rfl)) (fun _ => rfl)) (fun _ => rfl)) (fun _ => rfl)) (fun _ => rfl)) (fun _ => rfl)))) den_anil (fun _ => rfl)) (fun _ => rfl)) (fun _ => rfl) (fun _ => rfl)) (fun _ => rfl))
    (den_scons (den_set (i := 6) (by kernel_rfl) (den_call (n := 2) (ok__law_pick T) (show 2 ≤ 9 by decide) (by kernel_rfl) (den_acons (den_name (i := 0) (by kernel_rfl)) (den_acons (DenN.toE (den_lst (den_acons den_non (den_acons den_int (den_acons den_int (den_acons (den_neg (DenE.b den_int)) (den_acons den_bl (den_acons den_str (den_acons (den_tup (den_acons den_int den_anil (fun _ => rfl))) (den_acons (den_bin o_pow (DenE.b den_int) (DenE.b den_int)) den_anil (fun _ => rfl)) (fun _ => rfl)) (fun _ => rfl)) (fun _ => rfl)) (fun _ => rfl)) (fun _ => rfl)) (fun _ => rfl)) (fun _ => rfl)))) den_anil (fun _ => rfl)) (fun _ => rfl)) (fun _ => rfl) (fun _ => rfl)) (fun _ => rfl))
    (den_scons (den_set (i := 7) (by kernel_rfl) (den_call (n := 2) (ok__law_pick T) (show 2 ≤ 9 by decide) (by kernel_rfl) (den_acons (den_name (i := 0) (by kernel_rfl)) (den_acons (DenN.toE (den_lst (den_acons den_non (den_acons (den_neg (DenE.b den_int)) (den_acons den_int (den_acons den_bl (den_acons den_str (den_acons (DenN.toE (den_lst (den_acons den_int den_anil (fun _ => rfl)))) (den_acons (den_bin o_pow (DenE.b den_int) (DenE.b den_int)) den_anil (fun _ => rfl)) (fun _ => rfl)) (fun _ => rfl)) (fun _ => rfl)) (fun _ => rfl)) (fun _ => rfl)) (fun _ => rfl)))) den_anil (fun _ => rfl)) (fun _ => rfl)) (fun _ => rfl) (fun _ => rfl)) (fun _ => rfl))
    (den_scons (den_setN (i := 8) (by kernel_rfl) (den_lst (den_acons (den_met (k := 7) (me__law_met T) rfl (show 7 + 2 ≤ 9 by decide) (by kernel_rfl) (by kernel_rfl) (fun _ => rfl) (fun _ _ _ _ _ => rfl) (den_call (n := 1) (ok_lots T) (show 5 ≤ 7 by decide) (by kernel_rfl) (den_acons (den_name (i := 2) (by kernel_rfl)) den_anil (fun _ => rfl)) (fun _ => rfl) (fun _ => rfl))) den_anil (fun _ => rfl))) (fun _ => rfl))
    (den_scons (den_append (i := 8) (by kernel_rfl) (den_met (k := 7) (me__law_met T) rfl (show 7 + 2 ≤ 9 by decide) (by kernel_rfl) (by kernel_rfl) (fun _ => rfl) (fun _ _ _ _ _ => rfl) (den_call (n := 2) (ok_hook T) (show 6 ≤ 7 by decide) (by kernel_rfl) (den_acons (den_name (i := 1) (by kernel_rfl)) (den_acons (den_name (i := 3) (by kernel_rfl)) den_anil (fun _ => rfl)) (fun _ => rfl)) (fun _ => rfl) (fun _ => rfl))) rfl (fun _ => rfl))
    (den_scons (den_append (i := 8) (by kernel_rfl) (den_met (k := 7) (me__law_met T) rfl (show 7 + 2 ≤ 9 by decide) (by kernel_rfl) (by kernel_rfl) (fun _ => rfl) (fun _ _ _ _ _ => rfl) (den_call (n := 2) (ok_beads T) (show 6 ≤ 7 by decide) (by kernel_rfl) (den_acons (den_name (i := 1) (by kernel_rfl)) (den_acons (den_name (i := 4) (by kernel_rfl)) den_anil (fun _ => rfl)) (fun _ => rfl)) (fun _ => rfl) (fun _ => rfl))) rfl (fun _ => rfl))
    (den_scons (den_append (i := 8) (by kernel_rfl) (den_met (k := 7) (me__law_met T) rfl (show 7 + 2 ≤ 9 by decide) (by kernel_rfl) (by kernel_rfl) (fun _ => rfl) (fun _ _ _ _ _ => rfl) (den_call (n := 1) (ok_lot_of_beads T) (show 5 ≤ 7 by decide) (by kernel_rfl) (den_acons (den_name (i := 5) (by kernel_rfl)) den_anil (fun _ => rfl)) (fun _ => rfl) (fun _ => rfl))) rfl (fun _ => rfl))
    (den_scons (den_append (i := 8) (by kernel_rfl) (den_met (k := 7) (me__law_met T) rfl (show 7 + 2 ≤ 9 by decide) (by kernel_rfl) (by kernel_rfl) (fun _ => rfl) (fun _ _ _ _ _ => rfl) (den_call (n := 2) (ok_rims T) (show 6 ≤ 7 by decide) (by kernel_rfl) (den_acons (den_name (i := 1) (by kernel_rfl)) (den_acons (den_name (i := 6) (by kernel_rfl)) den_anil (fun _ => rfl)) (fun _ => rfl)) (fun _ => rfl) (fun _ => rfl))) rfl (fun _ => rfl))
    (den_scons (den_append (i := 8) (by kernel_rfl) (den_met (k := 7) (me__law_met T) rfl (show 7 + 2 ≤ 9 by decide) (by kernel_rfl) (by kernel_rfl) (fun _ => rfl) (fun _ _ _ _ _ => rfl) (den_call (n := 2) (ok_filled_number T) (show 6 ≤ 7 by decide) (by kernel_rfl) (den_acons (den_name (i := 1) (by kernel_rfl)) (den_acons (den_name (i := 7) (by kernel_rfl)) den_anil (fun _ => rfl)) (fun _ => rfl)) (fun _ => rfl) (fun _ => rfl))) rfl (fun _ => rfl))
    (den_scons (den_append (i := 8) (by kernel_rfl) (den_met (k := 7) (me__law_met T) rfl (show 7 + 2 ≤ 9 by decide) (by kernel_rfl) (by kernel_rfl) (fun _ => rfl) (fun _ _ _ _ _ => rfl) (den_call (n := 2) (ok_is_above T) (show 7 ≤ 7 by decide) (by kernel_rfl) (den_acons (den_name (i := 1) (by kernel_rfl)) (den_acons (den_bin o_addD (DenE.b (den_name (i := 1) (by kernel_rfl))) (DenE.b (den_tup (den_acons den_int den_anil (fun _ => rfl))))) den_anil (fun _ => rfl)) (fun _ => rfl)) (fun _ => rfl) (fun _ => rfl))) rfl (fun _ => rfl))
    (den_scons (den_append (i := 8) (by kernel_rfl) (den_met (k := 7) (me__law_met T) rfl (show 7 + 2 ≤ 9 by decide) (by kernel_rfl) (by kernel_rfl) (fun _ => rfl) (fun _ _ _ _ _ => rfl) (den_call (n := 1) (ok_more_square T) (show 6 ≤ 7 by decide) (by kernel_rfl) (den_acons (den_call (n := 2) (ok__law_lot_drawn T) (show 3 ≤ 7 by decide) (by kernel_rfl) (den_acons (den_name (i := 0) (by kernel_rfl)) (den_acons den_int den_anil (fun _ => rfl)) (fun _ => rfl)) (fun _ => rfl) (fun _ => rfl)) den_anil (fun _ => rfl)) (fun _ => rfl) (fun _ => rfl))) rfl (fun _ => rfl))
    (den_scons (den_set (i := 9) (by kernel_rfl) (DenN.toE (den_lst (den_acons (den_bin o_addD (DenE.b den_str) (DenE.b (den_bi (c_reprL rfl) (by kernel_rfl) (T.free 18 rfl) (by kernel_rfl) (den_abcons (DenE.b (den_name (i := 2) (by kernel_rfl))) den_abnil (fun _ => rfl)) (fun _ => rfl) (fun _ => rfl)))) (den_acons den_str (den_acons (den_bin o_addD (DenE.b den_str) (DenE.b (den_bi (c_reprL rfl) (by kernel_rfl) (T.free 18 rfl) (by kernel_rfl) (den_abcons (DenE.b (den_name (i := 4) (by kernel_rfl))) den_abnil (fun _ => rfl)) (fun _ => rfl) (fun _ => rfl)))) (den_acons den_str (den_acons (den_bin o_addD (DenE.b den_str) (DenE.b (den_bi (c_reprL rfl) (by kernel_rfl) (T.free 18 rfl) (by kernel_rfl) (den_abcons (DenE.b (den_name (i := 6) (by kernel_rfl))) den_abnil (fun _ => rfl)) (fun _ => rfl) (fun _ => rfl)))) den_anil (fun _ => rfl)) (fun _ => rfl)) (fun _ => rfl)) (fun _ => rfl)) (fun _ => rfl)))) (fun _ => rfl))
    (den_sone (den_ret (den_cmp o_eq (den_bname (i := 8) (by kernel_rfl)) (DenN.b (den_lc (own := [("_law_word", 10)]) (den_iseq (den_bin o_addD (DenE.b (den_name (i := 9) (by kernel_rfl))) (DenN.b (den_lst (den_acons (den_bin o_addD (DenE.b den_str) (DenE.b (den_bi (c_reprL rfl) (by kernel_rfl) (T.free 18 rfl) (by kernel_rfl) (den_abcons (DenE.b (den_name (i := 7) (by kernel_rfl))) den_abnil (fun _ => rfl)) (fun _ => rfl) (fun _ => rfl)))) (den_acons den_str (den_acons den_str den_anil (fun _ => rfl)) (fun _ => rfl)) (fun _ => rfl)))))) (by kernel_rfl) (by decide) (den_gname (i := 10) (by kernel_rfl)) den_tsnil (den_tup (den_acons den_str (den_acons (den_name (i := 10) (by kernel_rfl)) den_anil (fun _ => rfl)) (fun _ => rfl))) (fun _ _ => rfl))) rfl)))))))))))))))))))

abbrev s_law : Stmt := top 64
theorem sc_law : FnScope ["_law_script", "_law_spot", "_law_dice_here", "_law_told"] ["_law_script"] (defScope s_law) := ⟨by kernel_rfl, by kernel_rfl, by kernel_rfl, by decide +kernel, rfl, by decide +kernel, by decide +kernel⟩
def t_law_0 : DS :=
    (forR (rngR1 (biR maxsG (consR (kD (.int 1)) (consR (biR minsG (consR (kD (.int 4)) (consR (biR lenG (consR (nS 0) aN)) aN))) aN)))) (gN 1) (seqS (setS 2 (callR 2 d__law_dice (consR (nS 0) (consR (nS 1) aN))))
    (iteS (tOrR (tNotR (truR (callR 1 d__law_lots_right (consR (nS 2) aN)))) (tNotR (truR (callR 1 d__law_others_right (consR (nS 2) aN))))) (rT (kD (.bl false))) nilS)))
def t_law_1 : DS :=
    (setN 3 (lstR (consR (metR cl__law_met fin__law_met (callR 2 d_beads (consR (res2 mulE (tupR (consR (kD (.int 1)) aN)) (kD (.int 24))) (consR (kD (.int 24)) aN)))) aN)))
def t_law_2 : DS :=
    (appS 3 (metR cl__law_met fin__law_met (callR 2 d_beads (consR (tupR aN) (consR (kD (.int 40)) aN)))))
def t_law_3 : DS :=
    (appS 3 (metR cl__law_met fin__law_met (callR 2 d_rims (consR (tupR (consR (kD (.int 24)) aN)) (consR (kD (.int 24)) aN)))))
def t_law_4 : DS :=
    (appS 3 (metR cl__law_met fin__law_met (callR 2 d_filled_number (consR (tupR (consR (kD (.int 12)) (consR (kD (.int 12)) aN))) (consR (kD (.int 60)) aN)))))
def t_law_5 : DS :=
    (appS 3 (metR cl__law_met fin__law_met (callR 1 d_less_square (consR (tupR (consR (kD (.int 24)) aN)) aN))))
def t_law_6 : DS :=
    (appS 3 (metR cl__law_met fin__law_met (callR 1 d_lot_of_beads (consR (tupR (consR (kD (.int 24)) aN)) aN))))
def t_law_7 : DS :=
    (rT (res2 eqD (nB 3) (res2 repL (lstR (consR (kD (.str "fine")) aN)) (kD (.int 6)))))
def b_law : DS :=
    (seqS t_law_0
    (seqS t_law_1
    (seqS t_law_2
    (seqS t_law_3
    (seqS t_law_4
    (seqS t_law_5
    (seqS t_law_6
    t_law_7)))))))
def d_law : DF := fnR 4 b_law
theorem body_law (i : Tbs) (g : Gx) (T : TX g) : DenSs ⟨g, 10, ["_law_script", "_law_spot", "_law_dice_here", "_law_told"], defScope s_law, fun _ => true, true⟩ (defBody s_law) b_law := by
  exact (den_scons (den_for (den_irng1 (by kernel_rfl) (T.free 39 rfl) (DenE.b (den_bi c_maxs (by kernel_rfl) (T.free 3 rfl) (by kernel_rfl) (den_abcons (DenE.b den_int) (den_abcons (DenE.b (den_bi c_mins (by kernel_rfl) (T.free 78 rfl) (by kernel_rfl) (den_abcons (DenE.b den_int) (den_abcons (DenE.b (den_bi c_len (by kernel_rfl) (T.free 0 rfl) (by kernel_rfl) (den_abcons (DenE.b (den_name (i := 0) (by kernel_rfl))) den_abnil (fun _ => rfl)) (fun _ => rfl) (fun _ => rfl))) den_abnil (fun _ => rfl)) (fun _ => rfl)) (fun _ => rfl) (fun _ => rfl))) den_abnil (fun _ => rfl)) (fun _ => rfl)) (fun _ => rfl) (fun _ => rfl))) (fun _ => rfl)) (den_gname (i := 1) (by kernel_rfl)) (den_scons (den_set (i := 2) (by kernel_rfl) (den_call (n := 2) (ok__law_dice T) (show 1 ≤ 10 by decide) (by kernel_rfl) (den_acons (den_name (i := 0) (by kernel_rfl)) (den_acons (den_name (i := 1) (by kernel_rfl)) den_anil (fun _ => rfl)) (fun _ => rfl)) (fun _ => rfl) (fun _ => rfl)) (fun _ => rfl))
    (den_sone (den_sif (den_tw (den_wor (den_tnot (den_tru (DenE.b (den_callL (n := 1) (ok__law_lots_right T) rfl (show 10 ≤ 10 by decide) (by kernel_rfl) (den_acons (den_name (i := 2) (by kernel_rfl)) den_anil (fun _ => rfl)) (fun _ => rfl) (fun _ => rfl))) (fun _ _ => rfl))) (den_wor1 (den_tnot (den_tru (DenE.b (den_callL (n := 1) (ok__law_others_right T) rfl (show 10 ≤ 10 by decide) (by kernel_rfl) (den_acons (den_name (i := 2) (by kernel_rfl)) den_anil (fun _ => rfl)) (fun _ => rfl) (fun _ => rfl))) (fun _ _ => rfl)))))) (den_sone (den_ret den_bl)) den_snil))) (fun _ _ => rfl))
    (den_scons (den_setN (i := 3) (by kernel_rfl) (den_lst (den_acons (den_met (k := 8) (me__law_met T) rfl (show 8 + 2 ≤ 10 by decide) (by kernel_rfl) (by kernel_rfl) (fun _ => rfl) (fun _ _ _ _ _ => rfl) (den_call (n := 2) (ok_beads T) (show 6 ≤ 8 by decide) (by kernel_rfl) (den_acons (den_bin o_mulE (DenE.b (den_tup (den_acons den_int den_anil (fun _ => rfl)))) (DenE.b den_int)) (den_acons den_int den_anil (fun _ => rfl)) (fun _ => rfl)) (fun _ => rfl) (fun _ => rfl))) den_anil (fun _ => rfl))) (fun _ => rfl))
    (den_scons (den_append (i := 3) (by kernel_rfl) (den_met (k := 8) (me__law_met T) rfl (show 8 + 2 ≤ 10 by decide) (by kernel_rfl) (by kernel_rfl) (fun _ => rfl) (fun _ _ _ _ _ => rfl) (den_call (n := 2) (ok_beads T) (show 6 ≤ 8 by decide) (by kernel_rfl) (den_acons (den_tup den_anil) (den_acons den_int den_anil (fun _ => rfl)) (fun _ => rfl)) (fun _ => rfl) (fun _ => rfl))) rfl (fun _ => rfl))
    (den_scons (den_append (i := 3) (by kernel_rfl) (den_met (k := 8) (me__law_met T) rfl (show 8 + 2 ≤ 10 by decide) (by kernel_rfl) (by kernel_rfl) (fun _ => rfl) (fun _ _ _ _ _ => rfl) (den_call (n := 2) (ok_rims T) (show 6 ≤ 8 by decide) (by kernel_rfl) (den_acons (den_tup (den_acons den_int den_anil (fun _ => rfl))) (den_acons den_int den_anil (fun _ => rfl)) (fun _ => rfl)) (fun _ => rfl) (fun _ => rfl))) rfl (fun _ => rfl))
    (den_scons (den_append (i := 3) (by kernel_rfl) (den_met (k := 8) (me__law_met T) rfl (show 8 + 2 ≤ 10 by decide) (by kernel_rfl) (by kernel_rfl) (fun _ => rfl) (fun _ _ _ _ _ => rfl) (den_call (n := 2) (ok_filled_number T) (show 6 ≤ 8 by decide) (by kernel_rfl) (den_acons (den_tup (den_acons den_int (den_acons den_int den_anil (fun _ => rfl)) (fun _ => rfl))) (den_acons den_int den_anil (fun _ => rfl)) (fun _ => rfl)) (fun _ => rfl) (fun _ => rfl))) rfl (fun _ => rfl))
    (den_scons (den_append (i := 3) (by kernel_rfl) (den_met (k := 8) (me__law_met T) rfl (show 8 + 2 ≤ 10 by decide) (by kernel_rfl) (by kernel_rfl) (fun _ => rfl) (fun _ _ _ _ _ => rfl) (den_call (n := 1) (ok_less_square T) (show 6 ≤ 8 by decide) (by kernel_rfl) (den_acons (den_tup (den_acons den_int den_anil (fun _ => rfl))) den_anil (fun _ => rfl)) (fun _ => rfl) (fun _ => rfl))) rfl (fun _ => rfl))
    (den_scons (den_append (i := 3) (by kernel_rfl) (den_met (k := 8) (me__law_met T) rfl (show 8 + 2 ≤ 10 by decide) (by kernel_rfl) (by kernel_rfl) (fun _ => rfl) (fun _ _ _ _ _ => rfl) (den_call (n := 1) (ok_lot_of_beads T) (show 5 ≤ 8 by decide) (by kernel_rfl) (den_acons (den_tup (den_acons den_int den_anil (fun _ => rfl))) den_anil (fun _ => rfl)) (fun _ => rfl) (fun _ => rfl))) rfl (fun _ => rfl))
    (den_sone (den_ret (den_cmp o_eq (den_bname (i := 3) (by kernel_rfl)) (DenN.b (den_repN (DenN.b (den_lst (den_acons den_str den_anil (fun _ => rfl)))) (DenE.b den_int))) rfl))))))))))

abbrev Rr : PySem.W.OpenRow := PySem.W.OpenLaw.row PySem.Challenge.rw_swapsheets_k13_errors_of_lots
abbrev hk : PySem.W.Hook := hookL 6 fa fn bs xs tf file
def ob (s : PySem.W.SharedT) : AlL := obsL 6 fa fn bs xs tf file (HandSHeadRun.getT s)
theorem ob_eq (s : PySem.W.SharedT) : ob s = hk.obs s.abs := obsL_eq (HandSHeadRun.getT_eq s)
def loose0 : List Str := ["SheetError", "InvalidLot", "InvalidOperation", "InvalidCount", "BOUND", "is_whole", "is_integer", "is_within", "require_within", "factorial_in", "MAX_SUM", "MAX_BEADS", "MAX_FILLED", "lots_in", "lot_of", "renamings_in", "keepers_in", "conjugate_in", "squares_in", "contents_in", "content_sum_in", "hook_in", "hooks_product_in", "dimension_in", "beads_in", "lot_by_beads", "without_rim", "rims_in", "is_above_in", "is_lot"]
def loose1 : List Str := ["require_lot", "require_two_lots", "lots", "is_above", "keepers", "renamings", "class_size", "conjugate", "squares_of", "contents", "content_sum", "is_square_of", "hook", "hooks_product", "dimension", "less_square", "more_square", "beads", "are_beads", "lot_of_beads", "rims", "filled_number", "_law_dice", "_law_roll", "_law_pick", "_law_lot_of", "_law_lot_drawn", "_law_met", "_law_lots_right", "_law_others_right"]
def loose : List Str := loose0 ++ loose1
theorem run (w : World) : HandSHeadRun.RunEq Rr (PySem.W.view Rr.prog [64]) hk ob 6000 loose w := by
  intro os
  kernel_rfl
end G_k13

namespace G_k13
open PySem PySem.Spec PyProof.Rows L2 Sw
variable [Tbs]
theorem whole_ok (v : Int) (h : HS) : d_is_whole [.int v] h = .ok (.bl true) h := by
  simp [d_is_whole, b_is_whole, ifR, nS, nB, kD, aN, tY, oN, oS, rT, xS, bkS, ctS, noS, rN, frS, mN, shR, mulOk, fnR, seqS, iteS, cmpT, setS, setN, nilS, RS.ofR, Res.bind, Res.nox, res1, res2, toRes, refIxR, rputS, atRef, L2.atI, L2.ixN, getS, getB, consR, callR, biR, addD, mulD, iAdd, iSub, iMul, iDiv, iMod, iPow, iLt, iLe, iGt, iGe, Sw.intD, intG, lenG, pureF, pureR, noRefs, D.noRef, noRefs_ints, isiR, tyD, isiT, bAndR, bNotR, bOrR, chR, chT, truR, D.tru, tNotR, tAndR, tOrR, negD, seqR, wipeT, gN, gT, gConsT, gNilT]
theorem integer_ok {v : Int} (h : HS) (h1 : -1000000000000000000000000000000000000000000000000000000000000 < v) (h2 : v < 1000000000000000000000000000000000000000000000000000000000000) : d_is_integer [.int v] h = .ok (.bl true) h := by
  simp [d_is_integer, b_is_integer, ifR, nS, nB, kD, aN, tY, oN, oS, rT, xS, bkS, ctS, noS, rN, frS, mN, shR, mulOk, fnR, seqS, iteS, cmpT, setS, setN, nilS, RS.ofR, Res.bind, Res.nox, res1, res2, toRes, refIxR, rputS, atRef, L2.atI, L2.ixN, getS, getB, consR, callR, biR, addD, mulD, iAdd, iSub, iMul, iDiv, iMod, iPow, iLt, iLe, iGt, iGe, Sw.intD, intG, lenG, pureF, pureR, noRefs, D.noRef, noRefs_ints, isiR, tyD, isiT, bAndR, bNotR, bOrR, chR, chT, truR, D.tru, tNotR, tAndR, tOrR, negD, seqR, wipeT, gN, gT, gConsT, gNilT, whole_ok, h1, h2]
theorem within_ok {v : Int} (a b : Int) (h : HS) (h1 : -1000000 < v) (h2 : v < 1000000) : d_is_within [.int v, .int a, .int b] h = .ok (.bl (decide (a ≤ v) && decide (v ≤ b))) h := by
  simp [d_is_within, b_is_within, ifR, nS, nB, kD, aN, tY, oN, oS, rT, xS, bkS, ctS, noS, rN, frS, mN, shR, mulOk, fnR, seqS, iteS, cmpT, setS, setN, nilS, RS.ofR, Res.bind, Res.nox, res1, res2, toRes, refIxR, rputS, atRef, L2.atI, L2.ixN, getS, getB, consR, callR, biR, addD, mulD, iAdd, iSub, iMul, iDiv, iMod, iPow, iLt, iLe, iGt, iGe, Sw.intD, intG, lenG, pureF, pureR, noRefs, D.noRef, noRefs_ints, isiR, tyD, isiT, bAndR, bNotR, bOrR, chR, chT, truR, D.tru, tNotR, tAndR, tOrR, negD, seqR, wipeT, gN, gT, gConsT, gNilT, integer_ok (v := v) [] (by omega) (by omega)]
  by_cases ha : a ≤ v <;> simp [ha]

theorem bools_const {α : Type} : ∀ (l : List α), boolsD (l.map fun _ => D.bl true) = some (l.map fun _ => true)
  | [] => rfl
  | x :: l => by rw [List.map_cons, boolsD, bools_const l]; rfl
theorem desc_zip : ∀ {l : List Int}, l.Pairwise (· ≥ ·) → ∀ p ∈ l.zip (l.drop 1), p.1 ≥ p.2
  | [], _, p, m => by cases m
  | [x], _, p, m => by simp at m
  | x :: y :: r, h, p, m => by
    rw [List.drop_one, List.tail_cons, List.zip_cons_cons] at m
    rcases List.mem_cons.mp m with rfl | m
    · exact (List.pairwise_cons.mp h).1 y List.mem_cons_self
    · exact desc_zip (List.pairwise_cons.mp h).2 p (by rw [List.drop_one, List.tail_cons]; exact m)
theorem zip_ints (a b : List Int) : zipD (a.map .int) (b.map .int) = (a.zip b).map fun p => .tup [.int p.1, .int p.2] := by
  unfold zipD
  rw [List.zip_map, List.map_map]
  rfl
theorem cut_one (l : List Int) : Sw.cutD (l.map D.int) (some 1) none = (l.drop 1).map .int := by
  unfold Sw.cutD
  rw [show HT.sIx (l.map D.int).length 0 (some 1) = min 1 (l.map D.int).length from HT.sIx_nat _ 0 1, HT.sIx_none]
  cases l with
  | nil => rfl
  | cons x r =>
    rw [show min 1 ((x :: r).map D.int).length = 1 by rw [List.length_map, List.length_cons]; omega]
    rw [← List.map_drop]
    refine List.take_of_length_le ?_
    simp
theorem is_lot_ok {l : List Int} {n : Int} (hl : Lot l n) (hn : n ≤ 24) (h : HS) : d_is_lot [.tup (l.map .int)] h = .ok (.bl true) h := by
  obtain ⟨q1, q2⟩ := lotLe hl.pos hl.sum
  have f1 : fits l.length = true := fits_of (by omega)
  have f2 : fits (min l.length (l.length - 1)) = true := fits_of (by omega)
  have w : ∀ x ∈ l, d_is_within [.int x, .int 1, .int 24] [] = .ok (.bl true) [] := fun x m => by
    have h1 := hl.pos x m
    have h2 := q1 x m
    rw [within_ok 1 24 [] (by omega) (by omega)]
    simp [h1, show x ≤ 24 by omega]
  have e1 : lcL (gN 1) tY (callR 3 d_is_within (consR (nS 1) (consR (kD (.int 1)) (consR (kD (.int 24)) aN)))) [.val (.tup (l.map .int)), .un, .un, .un] (l.map .int) [] = .ok (l.map fun _ => .bl true) [] := by
    refine lcL_all _ _ l fun x m => ⟨_, rfl, ?_⟩
    simp [ifR, nS, nB, kD, aN, tY, oN, oS, rT, xS, bkS, ctS, noS, rN, frS, mN, shR, mulOk, fnR, seqS, iteS, cmpT, setS, setN, nilS, RS.ofR, Res.bind, Res.nox, res1, res2, toRes, refIxR, rputS, atRef, L2.atI, L2.ixN, getS, getB, consR, callR, biR, addD, mulD, iAdd, iSub, iMul, iDiv, iMod, iPow, iLt, iLe, iGt, iGe, Sw.intD, intG, lenG, w x m]
  have e2 : lcL (gT (gConsT (gN 2) (gConsT (gN 3) gNilT))) tY (res2 iGe (nS 2) (nS 3)) [.val (.tup (l.map .int)), .un, .un, .un] ((l.zip (l.drop 1)).map fun p => .tup [.int p.1, .int p.2]) [] = .ok ((l.zip (l.drop 1)).map fun p => .bl true) [] := by
    refine lcL_all _ _ _ fun p m => ⟨_, rfl, ?_⟩
    have := desc_zip hl.desc p m
    simp [ifR, nS, nB, kD, aN, tY, oN, oS, rT, xS, bkS, ctS, noS, rN, frS, mN, shR, mulOk, fnR, seqS, iteS, cmpT, setS, setN, nilS, RS.ofR, Res.bind, Res.nox, res1, res2, toRes, refIxR, rputS, atRef, L2.atI, L2.ixN, getS, getB, consR, callR, biR, addD, mulD, iAdd, iSub, iMul, iDiv, iMod, iPow, iLt, iLe, iGt, iGe, Sw.intD, intG, lenG, this]
  have a1 : lcR (seqR (nS 0)) [1] (gN 1) tY (callR 3 d_is_within (consR (nS 1) (consR (kD (.int 1)) (consR (kD (.int 24)) aN)))) [.val (.tup (l.map .int)), .un, .un, .un] [] = .ok (.lst (l.map fun _ => .bl true)) [] := by
    simp [ap_lcR, ap_iSub, ap_addD, ap_mulD, ap_iLt, ap_iLe, ap_iGt, ap_iGe, ap_iMod, ap_iDiv, ap_ifR, ap_nS, ap_nB, ap_kD, ap_aN, ap_tY, ap_oN, ap_oS, ap_rT, ap_xS, ap_bkS, ap_ctS, ap_noS, ap_rN, ap_frS, ap_mN, ap_shR, ap_seqS, ap_iteS, ap_cmpT, ap_setS, ap_setN, ap_nilS, ap_res1, ap_res2, ap_refIxR, ap_rputS, ap_consR, ap_callR, ap_biR, ap_isiR, ap_bAndR, ap_bNotR, ap_bOrR, ap_chR, ap_chT, ap_truR, ap_tNotR, ap_tAndR, ap_tOrR, ap_seqR, ap_rngR1, ap_rngR2, ap_enumR, ap_zipR, ap_sliceR, ap_tupR, ap_lstR, ap_starR, ap_augS, ap_asgS, ap_par2, ap_ownM, ap_valM, ap_appS, ap_extS, ap_putS, ap_revR, rb_ok, rn_ok, ro_ok, tr_some, getS, getB, toRes, f1, wipeT, e1]
  have a2 : lcR (zipR (nS 0) (sliceR (nS 0) (oS (kD (.int 1))) oN)) [2, 3] (gT (gConsT (gN 2) (gConsT (gN 3) gNilT))) tY (res2 iGe (nS 2) (nS 3)) [.val (.tup (l.map .int)), .un, .un, .un] [] = .ok (.lst ((l.zip (l.drop 1)).map fun p => .bl true)) [] := by
    rw [ap_lcR]
    have z : zipR (nS 0) (sliceR (nS 0) (oS (kD (.int 1))) oN) [.val (.tup (l.map .int)), .un, .un, .un] [] = .ok (zipD (l.map .int) ((l.drop 1).map .int)) [] := by
      simp [ap_iSub, ap_addD, ap_mulD, ap_iLt, ap_iLe, ap_iGt, ap_iGe, ap_iMod, ap_iDiv, ap_ifR, ap_nS, ap_nB, ap_kD, ap_aN, ap_tY, ap_oN, ap_oS, ap_rT, ap_xS, ap_bkS, ap_ctS, ap_noS, ap_rN, ap_frS, ap_mN, ap_shR, ap_seqS, ap_iteS, ap_cmpT, ap_setS, ap_setN, ap_nilS, ap_res1, ap_res2, ap_refIxR, ap_rputS, ap_consR, ap_callR, ap_biR, ap_isiR, ap_bAndR, ap_bNotR, ap_bOrR, ap_chR, ap_chT, ap_truR, ap_tNotR, ap_tAndR, ap_tOrR, ap_seqR, ap_rngR1, ap_rngR2, ap_enumR, ap_zipR, ap_sliceR, ap_tupR, ap_lstR, ap_starR, ap_augS, ap_asgS, ap_par2, ap_ownM, ap_valM, ap_appS, ap_extS, ap_putS, ap_revR, rb_ok, rn_ok, ro_ok, tr_some, getS, getB, toRes, sliceD, cut_one, List.map_drop]
    rw [z, zip_ints, rb_ok, if_pos (by simpa using f2)]
    simp only [wipeT, List.set]
    rw [e2]
    rfl
  have s24 : l.sum ≤ 24 := by rw [hl.sum]; exact hn
  have r : fnR 4 b_is_lot [.tup (l.map .int)] [] = .ok (.bl true) [] := by
    simp only [fnR, b_is_lot, List.map_cons, List.map_nil, List.length_cons, List.length_nil, List.replicate, List.cons_append, List.nil_append]
    simp [ap_iSub, ap_addD, ap_mulD, ap_iLt, ap_iLe, ap_iGt, ap_iGe, ap_iMod, ap_iDiv, ap_ifR, ap_nS, ap_nB, ap_kD, ap_aN, ap_tY, ap_oN, ap_oS, ap_rT, ap_xS, ap_bkS, ap_ctS, ap_noS, ap_rN, ap_frS, ap_mN, ap_shR, ap_seqS, ap_iteS, ap_cmpT, ap_setS, ap_setN, ap_nilS, ap_res1, ap_res2, ap_refIxR, ap_rputS, ap_consR, ap_callR, ap_biR, ap_isiR, ap_bAndR, ap_bNotR, ap_bOrR, ap_chR, ap_chT, ap_truR, ap_tNotR, ap_tAndR, ap_tOrR, ap_seqR, ap_rngR1, ap_rngR2, ap_enumR, ap_zipR, ap_sliceR, ap_tupR, ap_lstR, ap_starR, ap_augS, ap_asgS, ap_par2, ap_ownM, ap_valM, ap_appS, ap_extS, ap_putS, ap_revR, rb_ok, rn_ok, ro_ok, tr_some, getS, getB, toRes, a1, a2, allG, bools_const, D.tru, tyD, isiT, sumTG, sumsG, sumG, Sw.ints_map, iLe, Sw.intD, s24]
  rw [d_is_lot, pureF_ok (by simp [noRefs, D.noRef, noRefs_ints]) r]
theorem require_ok {l : List Int} {n : Int} (hl : Lot l n) (hn : n ≤ 24) (h : HS) : d_require_lot [.tup (l.map .int)] h = .ok .non h := by
  have r : fnR 1 b_require_lot [.tup (l.map .int)] [] = .ok .non [] := by
    rw [ap_fnR, b_require_lot]
    simp [ap_iSub, ap_addD, ap_mulD, ap_iLt, ap_iLe, ap_iGt, ap_iGe, ap_iMod, ap_iDiv, ap_ifR, ap_nS, ap_nB, ap_kD, ap_aN, ap_tY, ap_oN, ap_oS, ap_rT, ap_xS, ap_bkS, ap_ctS, ap_noS, ap_rN, ap_frS, ap_mN, ap_shR, ap_seqS, ap_iteS, ap_cmpT, ap_setS, ap_setN, ap_nilS, ap_res1, ap_res2, ap_refIxR, ap_rputS, ap_consR, ap_callR, ap_biR, ap_isiR, ap_bAndR, ap_bNotR, ap_bOrR, ap_chR, ap_chT, ap_truR, ap_tNotR, ap_tAndR, ap_tOrR, ap_seqR, ap_rngR1, ap_rngR2, ap_enumR, ap_zipR, ap_sliceR, ap_tupR, ap_lstR, ap_starR, ap_augS, ap_asgS, ap_par2, ap_ownM, ap_valM, ap_appS, ap_extS, ap_putS, ap_revR, rb_ok, rn_ok, ro_ok, tr_some, getS, getB, toRes, is_lot_ok hl hn, D.tru]
  rw [d_require_lot, pureF_ok (by simp [noRefs, D.noRef, noRefs_ints]) r]

theorem roll_eq : d__law_roll = dRoll := by kernel_rfl
theorem dice_eq : d__law_dice = dDice := by kernel_rfl

theorem pick_eq : d__law_pick = dPick := by kernel_rfl
theorem drawn_eq : d__law_lot_drawn = dLotDrawn := by kernel_rfl
theorem S_is {n : Nat} {s : Ch.Sh} (h : s ∈ Ch.S n) : (∀ y ∈ s, 1 ≤ y) ∧ s.Pairwise (· ≥ ·) ∧ s.sum = n := by
  obtain ⟨h1, _, h2, h3⟩ := Ch.pn_is _ _ _ _ h
  exact ⟨h1, h2, h3⟩
theorem lot_of_S {n : Nat} {s : Ch.Sh} (h : s ∈ Ch.S n) : Lot (ni s) n := by
  obtain ⟨h1, h2, h3⟩ := S_is h
  refine ⟨fun y m => ?_, ?_, ?_⟩
  · obtain ⟨x, hx, rfl⟩ := List.mem_map.mp m
    have := h1 x hx
    omega
  · rw [ni, List.pairwise_map]
    exact h2.imp fun h => by omega
  · rw [← h3]
    clear h1 h2 h3 h
    induction s with
    | nil => rfl
    | cons x s ih =>
      show ((x : Int) :: ni s).sum = _
      rw [List.sum_cons, List.sum_cons, ih]; omega
theorem S_of_lot {n : Nat} {l : List Int} (hl : Lot l n) (hn : n ≤ 14) : ∃ s, l = ni s ∧ s ∈ Ch.S n := by
  refine ⟨l.map Int.toNat, ?_, ?_⟩
  · rw [ni, List.map_map]
    conv => lhs; rw [← List.map_id l]
    apply List.map_congr_left
    intro x m
    have := hl.pos x m
    show x = ((x.toNat : Nat) : Int)
    omega
  · have e : (l.map Int.toNat).sum = n := by
      have key : ∀ l : List Int, (∀ y ∈ l, 1 ≤ y) → ((l.map Int.toNat).sum : Int) = l.sum := by
        intro l
        induction l with
        | nil => intro _; rfl
        | cons x l ih =>
          intro h
          have := ih fun y m => h y (List.mem_cons_of_mem _ m)
          have := h x List.mem_cons_self
          rw [List.map_cons, List.sum_cons, List.sum_cons]
          omega
      have := key l hl.pos
      rw [hl.sum] at this
      omega
    rw [← e]
    refine Ch.S_mem (by omega) (fun y m => ?_) ?_
    · obtain ⟨x, hx, rfl⟩ := List.mem_map.mp m
      have := hl.pos x hx
      omega
    · rw [List.pairwise_map]
      exact hl.desc.imp fun h => by omega

theorem lots_ok {h : HS} {k : Nat} (hd : IsDice h k) : ∃ h', d__law_lots_right [.ref k] h = .ok (.bl true) h' ∧ IsDice h' k := by
  obtain ⟨v, h1, e, d1, m⟩ := pick_nx (i := 1) (τ := [.val (.ref k), .un, .un, .un, .un]) (xs := opt__law_lots_right_0) rfl hd (leok__law_lots_right_0 _ _) (List.cons_ne_nil _ _) (by decide)
  refine ⟨h1, fn_rt (τ := [.val (.ref k), .un, .un, .un, .un]) rfl ?_, d1⟩
  have e0 : t__law_lots_right_0 [.val (.ref k), .un, .un, .un, .un] h = .nx [.val (.ref k), .val v, .un, .un, .un] h1 := by
    rw [t__law_lots_right_0, pick_eq]; exact e
  rw [b__law_lots_right, seq_nx e0]
  simp only [opt__law_lots_right_0, List.mem_cons, List.not_mem_nil, or_false] at m
  rcases m with rfl | rfl | rfl | rfl | rfl | rfl | rfl | rfl | rfl | rfl | rfl | rfl | rfl <;> kernel_rfl
/-! ### the others -/
def shp : List (List Nat) := (List.range 9).flatMap fun n => Ch.S (n + 1)
def lD (s : List Nat) : D := .tup ((ni s).map .int)
def optSq (s : List Nat) : List D := [.non, .tup [.int 0], .tup [.int (s.length : Nat), .int 0], .tup [.int 0, .int ((s.headD 0 : Nat))], .tup [.int (-1), .int 0], .lst [.int 0, .int 0], .tup [.int 0, .str "0"], .int 0, .tup [.int 0, .bl true], .tup [.int 0, .int 0, .int 0]]
def optRo (s : List Nat) : List D := [.non, .int ((s.length : Nat) - 1), .int 41, .int (-1), .bl true, .str "9", .tup [.int 9], .int (1000000000000000000000000000000000000000000000000000000000000)]
theorem k_hook : (shp.all fun s => (optSq s).all fun v => chkW cl__law_met fin__law_met "refused" d_hook "operation" [lD s, v]) = true := by decide +kernel
theorem k_beads : (shp.all fun s => (optRo s).all fun v => chkC cl__law_met fin__law_met "refused" "count " d_beads v [lD s, v]) = true := by decide +kernel
theorem k_rims : (shp.all fun s => opt__law_others_right_5.all fun v => chkC cl__law_met fin__law_met "refused" "count " d_rims v [lD s, v]) = true := by decide +kernel
theorem k_filled : (shp.all fun s => opt__law_others_right_6.all fun v => chkC cl__law_met fin__law_met "refused" "count " d_filled_number v [lD s, v]) = true := by decide +kernel
theorem k_above : (shp.all fun s => chkW cl__law_met fin__law_met "refused" d_is_above "operation" [lD s, .tup ((ni s).map .int ++ [.int 1])]) = true := by decide +kernel
theorem k_lots : (opt__law_others_right_1.all fun v => chkC cl__law_met fin__law_met "refused" "count " d_lots v [v]) = true := by decide +kernel
theorem k_lob : (opt__law_others_right_4.all fun v => chkW cl__law_met fin__law_met "refused" d_lot_of_beads "operation" [v]) = true := by decide +kernel
theorem le2_ok {k : Nat} {s : List Nat} (hs : s ≠ []) (r : List Sl) (h : HS) : le__law_others_right_2 (.val (.ref k) :: .val (lD s) :: r) h = .ok (.lst (optSq s)) h := by
  cases s with
  | nil => exact absurd rfl hs
  | cons a s =>
    have f1 : fits 1 = true := fits_of (by decide)
    have f2 : fits 2 = true := fits_of (by decide)
    have f3 : fits 3 = true := fits_of (by decide)
    have f10 : fits 10 = true := fits_of (by decide)
    simp [le__law_others_right_2, ap_iSub, ap_addD, ap_mulD, ap_iLt, ap_iLe, ap_iGt, ap_iGe, ap_iMod, ap_iDiv, ap_ifR, ap_nS, ap_nB, ap_kD, ap_aN, ap_tY, ap_oN, ap_oS, ap_rT, ap_xS, ap_bkS, ap_ctS, ap_noS, ap_rN, ap_frS, ap_mN, ap_shR, ap_seqS, ap_iteS, ap_cmpT, ap_setS, ap_setN, ap_nilS, ap_res1, ap_res2, ap_refIxR, ap_rputS, ap_consR, ap_callR, ap_biR, ap_isiR, ap_bAndR, ap_bNotR, ap_bOrR, ap_chR, ap_chT, ap_truR, ap_tNotR, ap_tAndR, ap_tOrR, ap_seqR, ap_rngR1, ap_rngR2, ap_enumR, ap_zipR, ap_sliceR, ap_tupR, ap_lstR, ap_starR, ap_augS, ap_asgS, ap_par2, ap_ownM, ap_valM, ap_appS, ap_extS, ap_putS, ap_revR, rb_ok, rn_ok, ro_ok, tr_some, getS, getB, toRes, lD, optSq, lenG, atD, L2.atI, L2.ixN, ni, f1, f2, f3, f10, negD]
theorem le3_ok {k : Nat} {s : List Nat} (r : List Sl) (h : HS) : le__law_others_right_3 (.val (.ref k) :: .val (lD s) :: r) h = .ok (.lst (optRo s)) h := by
  have f1 : fits 1 = true := fits_of (by decide)
  have f8 : fits 8 = true := fits_of (by decide)
  have ep : iPow (.int 10) (.int 60) = some (.int (1000000000000000000000000000000000000000000000000000000000000)) := by kernel_rfl
  simp [le__law_others_right_3, ap_iSub, ap_addD, ap_mulD, ap_iLt, ap_iLe, ap_iGt, ap_iGe, ap_iMod, ap_iDiv, ap_ifR, ap_nS, ap_nB, ap_kD, ap_aN, ap_tY, ap_oN, ap_oS, ap_rT, ap_xS, ap_bkS, ap_ctS, ap_noS, ap_rN, ap_frS, ap_mN, ap_shR, ap_seqS, ap_iteS, ap_cmpT, ap_setS, ap_setN, ap_nilS, ap_res1, ap_res2, ap_refIxR, ap_rputS, ap_consR, ap_callR, ap_biR, ap_isiR, ap_bAndR, ap_bNotR, ap_bOrR, ap_chR, ap_chT, ap_truR, ap_tNotR, ap_tAndR, ap_tOrR, ap_seqR, ap_rngR1, ap_rngR2, ap_enumR, ap_zipR, ap_sliceR, ap_tupR, ap_lstR, ap_starR, ap_augS, ap_asgS, ap_par2, ap_ownM, ap_valM, ap_appS, ap_extS, ap_putS, ap_revR, rb_ok, rn_ok, ro_ok, tr_some, getS, getB, toRes, lD, optRo, lenG, ni, f1, f8, negD, ep]
theorem sums_T (T : List Int) : sumsG [.tup (T.map .int)] = some (.int T.sum) := by
  simp only [sumsG, sumG, sumTG, Sw.ints_map, Option.none_or, Option.map_some]
theorem more_24 {l : List Int} (hl : Lot l 24) (h : HS) : metR cl__law_met fin__law_met (callR 1 d_more_square (fun _ h => .ok [.tup (l.map .int)] h)) [] h = .ok (wd "refused" "operation") h := by
  refine met_pure (φ := fnR 4 b_more_square) (ds := [.tup (l.map .int)]) rfl rfl (by simp [noRefs, D.noRef, noRefs_ints]) ?_
  have r : fnR 4 b_more_square [.tup (l.map .int)] [] = .exc ⟨"InvalidOperation", none⟩ [] := by
    have eq24 : eqD (.int 24) (.int 24) = some (.bl true) := eq_same (cmp_int _) (by decide)
    rw [ap_fnR, b_more_square]
    simp [ap_iSub, ap_addD, ap_mulD, ap_iLt, ap_iLe, ap_iGt, ap_iGe, ap_iMod, ap_iDiv, ap_ifR, ap_nS, ap_nB, ap_kD, ap_aN, ap_tY, ap_oN, ap_oS, ap_rT, ap_xS, ap_bkS, ap_ctS, ap_noS, ap_rN, ap_frS, ap_mN, ap_shR, ap_seqS, ap_iteS, ap_cmpT, ap_setS, ap_setN, ap_nilS, ap_res1, ap_res2, ap_refIxR, ap_rputS, ap_consR, ap_callR, ap_biR, ap_isiR, ap_bAndR, ap_bNotR, ap_bOrR, ap_chR, ap_chT, ap_truR, ap_tNotR, ap_tAndR, ap_tOrR, ap_seqR, ap_rngR1, ap_rngR2, ap_enumR, ap_zipR, ap_sliceR, ap_tupR, ap_lstR, ap_starR, ap_augS, ap_asgS, ap_par2, ap_ownM, ap_valM, ap_appS, ap_extS, ap_putS, ap_revR, rb_ok, rn_ok, ro_ok, tr_some, getS, getB, toRes, require_ok hl (by decide), sums_T, hl.sum, eq24, raiseS]
  have e : pureF (fnR 4 b_more_square) [.tup (l.map .int)] [] = .exc ⟨"InvalidOperation", none⟩ [] := by
    unfold pureF
    rw [if_pos (by simp [noRefs, D.noRef, noRefs_ints]), r]; rfl
  unfold metV
  rw [e]
  rfl
theorem fin_16 {k : Nat} {s : List Nat} {v1 v2 v3 v4 v5 v6 : D} {w7 w9 w11 w12 : Str} (h9 : HS) (c12 : cwR "count " v6 = some (.str w12)) (g7 : PyData.strOk w7 = true) (g9 : PyData.strOk w9 = true) (g11 : PyData.strOk w11 = true) (g12 : PyData.strOk w12 = true) : t__law_others_right_16 [.val (.ref k), .val (lD s), .val v1, .val v2, .val v3, .val v4, .val v5, .val v6, .own [wd "refused" w7, wd "refused" "operation", wd "refused" w9, wd "refused" "operation", wd "refused" w11, wd "refused" w12, wd "refused" "operation", wd "refused" "operation"], .val (.lst [.str w7, .str "operation", .str w9, .str "operation", .str w11]), .un] h9 = .rt (.bl true) h9 := by
    have x12 := cwR_ok (fe := consR (nS 7) aN) (τ := [.val (.ref k), .val (lD s), .val v1, .val v2, .val v3, .val v4, .val v5, .val v6, .own [wd "refused" w7, wd "refused" "operation", wd "refused" w9, wd "refused" "operation", wd "refused" w11, wd "refused" w12, wd "refused" "operation", wd "refused" "operation"], .val (.lst [.str w7, .str "operation", .str w9, .str "operation", .str w11]), .un]) (h := h9) rfl c12
    have f3 : fits 3 = true := fits_of (by decide)
    have f8 : fits 8 = true := fits_of (by decide)
    have ct : ∀ x ∈ [wd "refused" w7, wd "refused" "operation", wd "refused" w9, wd "refused" "operation", wd "refused" w11, wd "refused" w12, wd "refused" "operation", wd "refused" "operation"], Cmp 1 x := by
      intro x m
      simp only [List.mem_cons, List.not_mem_nil, or_false] at m
      rcases m with rfl | rfl | rfl | rfl | rfl | rfl | rfl | rfl
      all_goals exact cmp_wd (by decide +kernel) (by first | assumption | decide +kernel)
    have b1 : seqR (res2 addD (nS 9) (lstR (consR (res2 addD (kD (.str "count ")) (biR reprLG (consR (nS 7) aN))) (consR (kD (.str "operation")) (consR (kD (.str "operation")) aN))))) [.val (.ref k), .val (lD s), .val v1, .val v2, .val v3, .val v4, .val v5, .val v6, .own [wd "refused" w7, wd "refused" "operation", wd "refused" w9, wd "refused" "operation", wd "refused" w11, wd "refused" w12, wd "refused" "operation", wd "refused" "operation"], .val (.lst [.str w7, .str "operation", .str w9, .str "operation", .str w11]), .un] h9 = .ok [.str w7, .str "operation", .str w9, .str "operation", .str w11, .str w12, .str "operation", .str "operation"] h9 := by
      have x : lstR (consR (res2 addD (kD (.str "count ")) (biR reprLG (consR (nS 7) aN))) (consR (kD (.str "operation")) (consR (kD (.str "operation")) aN))) [.val (.ref k), .val (lD s), .val v1, .val v2, .val v3, .val v4, .val v5, .val v6, .own [wd "refused" w7, wd "refused" "operation", wd "refused" w9, wd "refused" "operation", wd "refused" w11, wd "refused" w12, wd "refused" "operation", wd "refused" "operation"], .val (.lst [.str w7, .str "operation", .str w9, .str "operation", .str w11]), .un] h9 = .ok (.lst [.str w12, .str "operation", .str "operation"]) h9 := by
        simp only [ap_lstR, ap_consR, x12, ap_kD, ap_aN, rb_ok, List.length_cons, List.length_nil, f3, if_true]
      rw [ap_seqR, ap_res2, show nS 9 [.val (.ref k), .val (lD s), .val v1, .val v2, .val v3, .val v4, .val v5, .val v6, .own [wd "refused" w7, wd "refused" "operation", wd "refused" w9, wd "refused" "operation", wd "refused" w11, wd "refused" w12, wd "refused" "operation", wd "refused" "operation"], .val (.lst [.str w7, .str "operation", .str w9, .str "operation", .str w11]), .un] h9 = .ok (.lst [.str w7, .str "operation", .str w9, .str "operation", .str w11]) h9 from rfl, rb_ok, x]
      rfl
    have b2 : lcR (seqR (res2 addD (nS 9) (lstR (consR (res2 addD (kD (.str "count ")) (biR reprLG (consR (nS 7) aN))) (consR (kD (.str "operation")) (consR (kD (.str "operation")) aN)))))) [10] (gN 10) tY (tupR (consR (kD (.str "refused")) (consR (nS 10) aN))) [.val (.ref k), .val (lD s), .val v1, .val v2, .val v3, .val v4, .val v5, .val v6, .own [wd "refused" w7, wd "refused" "operation", wd "refused" w9, wd "refused" "operation", wd "refused" w11, wd "refused" w12, wd "refused" "operation", wd "refused" "operation"], .val (.lst [.str w7, .str "operation", .str w9, .str "operation", .str w11]), .un] h9 = .ok (.lst [wd "refused" w7, wd "refused" "operation", wd "refused" w9, wd "refused" "operation", wd "refused" w11, wd "refused" w12, wd "refused" "operation", wd "refused" "operation"]) h9 := by
      rw [ap_lcR, b1]
      rfl
    rw [t__law_others_right_16, ap_rT, ap_res2, show nB 8 [.val (.ref k), .val (lD s), .val v1, .val v2, .val v3, .val v4, .val v5, .val v6, .own [wd "refused" w7, wd "refused" "operation", wd "refused" w9, wd "refused" "operation", wd "refused" w11, wd "refused" w12, wd "refused" "operation", wd "refused" "operation"], .val (.lst [.str w7, .str "operation", .str w9, .str "operation", .str w11]), .un] h9 = .ok (.lst [wd "refused" w7, wd "refused" "operation", wd "refused" w9, wd "refused" "operation", wd "refused" w11, wd "refused" w12, wd "refused" "operation", wd "refused" "operation"]) h9 from rfl, rb_ok, b2, rb_ok, eq_lst_same ct]
    rfl
theorem above_fs {s : List Nat} (hl : (ni s).length ≤ 1000) (a : Sl) (r : List Sl) (h : HS) : consR (nS 1) (consR (res2 addD (nS 1) (tupR (consR (kD (.int 1)) aN))) aN) (a :: .val (lD s) :: r) h = .ok [lD s, .tup ((ni s).map .int ++ [.int 1])] h := by
  have f1 : fits 1 = true := fits_of (by decide)
  have fl : fits ((ni s).length + 1) = true := fits_of (by omega)
  have e : addD (lD s) (.tup [.int 1]) = some (.tup ((ni s).map .int ++ [.int 1])) := by
    simp [addD, catT, lD, fl]
  simp only [ap_iSub, ap_addD, ap_mulD, ap_iLt, ap_iLe, ap_iGt, ap_iGe, ap_iMod, ap_iDiv, ap_ifR, ap_nS, ap_nB, ap_kD, ap_aN, ap_tY, ap_oN, ap_oS, ap_rT, ap_xS, ap_bkS, ap_ctS, ap_noS, ap_rN, ap_frS, ap_mN, ap_shR, ap_seqS, ap_iteS, ap_cmpT, ap_setS, ap_setN, ap_nilS, ap_res1, ap_res2, ap_refIxR, ap_rputS, ap_consR, ap_callR, ap_biR, ap_isiR, ap_bAndR, ap_bNotR, ap_bOrR, ap_chR, ap_chT, ap_truR, ap_tNotR, ap_tAndR, ap_tOrR, ap_seqR, ap_rngR1, ap_rngR2, ap_enumR, ap_zipR, ap_sliceR, ap_tupR, ap_lstR, ap_starR, ap_augS, ap_asgS, ap_par2, ap_ownM, ap_valM, ap_appS, ap_extS, ap_putS, ap_revR, rb_ok, rn_ok, ro_ok, tr_some, getS, getB, toRes, List.getElem?_cons_succ, List.getElem?_cons_zero, List.length_cons, List.length_nil, rb_ok, f1, if_true]
  rw [e]
  rfl
theorem others_ok {h : HS} {k : Nat} (hd : IsDice h k) : ∃ h', d__law_others_right [.ref k] h = .ok (.bl true) h' ∧ IsDice h' k := by
  obtain ⟨r, h1, e1, d1, r0, r1⟩ := roll_ok (m := 9) hd (by decide) (by decide)
  obtain ⟨l, h2, e2, d2, hl⟩ := lotDrawn_ok (m := 1 + r) d1 (by omega) (by omega)
  obtain ⟨n, hn⟩ : ∃ n : Nat, 1 + r = (n : Nat) := ⟨(1 + r).toNat, by omega⟩
  rw [hn] at hl
  obtain ⟨s, rfl, hs⟩ := S_of_lot hl (by omega)
  have ms : s ∈ shp := List.mem_flatMap.mpr ⟨n - 1, List.mem_range.mpr (by omega), by rw [show n - 1 + 1 = n by omega]; exact hs⟩
  have ne : s ≠ [] := by rintro rfl; have := (S_is hs).2.2; simp at this; omega
  have s0 : t__law_others_right_0 [.val (.ref k), .un, .un, .un, .un, .un, .un, .un, .un, .un, .un] h = .nx [.val (.ref k), .val (lD s), .un, .un, .un, .un, .un, .un, .un, .un, .un] h2 := by
    rw [t__law_others_right_0, roll_eq, drawn_eq]
    refine setS_nx ?_
    simp only [ap_iSub, ap_addD, ap_mulD, ap_iLt, ap_iLe, ap_iGt, ap_iGe, ap_iMod, ap_iDiv, ap_ifR, ap_nS, ap_nB, ap_kD, ap_aN, ap_tY, ap_oN, ap_oS, ap_rT, ap_xS, ap_bkS, ap_ctS, ap_noS, ap_rN, ap_frS, ap_mN, ap_shR, ap_seqS, ap_iteS, ap_cmpT, ap_setS, ap_setN, ap_nilS, ap_res1, ap_res2, ap_refIxR, ap_rputS, ap_consR, ap_callR, ap_biR, ap_isiR, ap_bAndR, ap_bNotR, ap_bOrR, ap_chR, ap_chT, ap_truR, ap_tNotR, ap_tAndR, ap_tOrR, ap_seqR, ap_rngR1, ap_rngR2, ap_enumR, ap_zipR, ap_sliceR, ap_tupR, ap_lstR, ap_starR, ap_augS, ap_asgS, ap_par2, ap_ownM, ap_valM, ap_appS, ap_extS, ap_putS, ap_revR, rb_ok, rn_ok, ro_ok, tr_some, getS, getB, toRes, List.getElem?_cons_succ, List.getElem?_cons_zero, List.length_cons, List.length_nil, if_true, e1, e2, lD]
  obtain ⟨v1, h3, e3, d3, m1⟩ := pick_nx (i := 2) (τ := [.val (.ref k), .val (lD s), .un, .un, .un, .un, .un, .un, .un, .un, .un]) (xs := opt__law_others_right_1) rfl d2 (leok__law_others_right_1 _ _) (List.cons_ne_nil _ _) (by simp [opt__law_others_right_1])
  have s1 : t__law_others_right_1 [.val (.ref k), .val (lD s), .un, .un, .un, .un, .un, .un, .un, .un, .un] h2 = .nx [.val (.ref k), .val (lD s), .val v1, .un, .un, .un, .un, .un, .un, .un, .un] h3 := by rw [t__law_others_right_1, pick_eq]; exact e3
  obtain ⟨v2, h4, e4, d4, m2⟩ := pick_nx (i := 3) (τ := [.val (.ref k), .val (lD s), .val v1, .un, .un, .un, .un, .un, .un, .un, .un]) (xs := optSq s) rfl d3 (le2_ok ne _ _) (List.cons_ne_nil _ _) (by simp [optSq])
  have s2 : t__law_others_right_2 [.val (.ref k), .val (lD s), .val v1, .un, .un, .un, .un, .un, .un, .un, .un] h3 = .nx [.val (.ref k), .val (lD s), .val v1, .val v2, .un, .un, .un, .un, .un, .un, .un] h4 := by rw [t__law_others_right_2, pick_eq]; exact e4
  obtain ⟨v3, h5, e5, d5, m3⟩ := pick_nx (i := 4) (τ := [.val (.ref k), .val (lD s), .val v1, .val v2, .un, .un, .un, .un, .un, .un, .un]) (xs := optRo s) rfl d4 (le3_ok _ _) (List.cons_ne_nil _ _) (by simp [optRo])
  have s3 : t__law_others_right_3 [.val (.ref k), .val (lD s), .val v1, .val v2, .un, .un, .un, .un, .un, .un, .un] h4 = .nx [.val (.ref k), .val (lD s), .val v1, .val v2, .val v3, .un, .un, .un, .un, .un, .un] h5 := by rw [t__law_others_right_3, pick_eq]; exact e5
  obtain ⟨v4, h6, e6, d6, m4⟩ := pick_nx (i := 5) (τ := [.val (.ref k), .val (lD s), .val v1, .val v2, .val v3, .un, .un, .un, .un, .un, .un]) (xs := opt__law_others_right_4) rfl d5 (leok__law_others_right_4 _ _) (List.cons_ne_nil _ _) (by simp [opt__law_others_right_4])
  have s4 : t__law_others_right_4 [.val (.ref k), .val (lD s), .val v1, .val v2, .val v3, .un, .un, .un, .un, .un, .un] h5 = .nx [.val (.ref k), .val (lD s), .val v1, .val v2, .val v3, .val v4, .un, .un, .un, .un, .un] h6 := by rw [t__law_others_right_4, pick_eq]; exact e6
  obtain ⟨v5, h7, e7, d7, m5⟩ := pick_nx (i := 6) (τ := [.val (.ref k), .val (lD s), .val v1, .val v2, .val v3, .val v4, .un, .un, .un, .un, .un]) (xs := opt__law_others_right_5) rfl d6 (leok__law_others_right_5 _ _) (List.cons_ne_nil _ _) (by simp [opt__law_others_right_5])
  have s5 : t__law_others_right_5 [.val (.ref k), .val (lD s), .val v1, .val v2, .val v3, .val v4, .un, .un, .un, .un, .un] h6 = .nx [.val (.ref k), .val (lD s), .val v1, .val v2, .val v3, .val v4, .val v5, .un, .un, .un, .un] h7 := by rw [t__law_others_right_5, pick_eq]; exact e7
  obtain ⟨v6, h8, e8, d8, m6⟩ := pick_nx (i := 7) (τ := [.val (.ref k), .val (lD s), .val v1, .val v2, .val v3, .val v4, .val v5, .un, .un, .un, .un]) (xs := opt__law_others_right_6) rfl d7 (leok__law_others_right_6 _ _) (List.cons_ne_nil _ _) (by simp [opt__law_others_right_6])
  have s6 : t__law_others_right_6 [.val (.ref k), .val (lD s), .val v1, .val v2, .val v3, .val v4, .val v5, .un, .un, .un, .un] h7 = .nx [.val (.ref k), .val (lD s), .val v1, .val v2, .val v3, .val v4, .val v5, .val v6, .un, .un, .un] h8 := by rw [t__law_others_right_6, pick_eq]; exact e8
  obtain ⟨w7, f7, c7, g7⟩ := met_C (fs := (consR (nS 2) aN)) (τ := [.val (.ref k), .val (lD s), .val v1, .val v2, .val v3, .val v4, .val v5, .val v6, .un, .un, .un]) (h := h8) (ds := [v1]) (n := 1) (all_mem k_lots m1) rfl rfl
  have s7 : t__law_others_right_7 [.val (.ref k), .val (lD s), .val v1, .val v2, .val v3, .val v4, .val v5, .val v6, .un, .un, .un] h8 = .nx [.val (.ref k), .val (lD s), .val v1, .val v2, .val v3, .val v4, .val v5, .val v6, .own [wd "refused" w7], .un, .un] h8 := by rw [t__law_others_right_7]; exact setN1_nx f7
  have f8 := met_W (fs := (consR (nS 1) (consR (nS 3) aN))) (τ := [.val (.ref k), .val (lD s), .val v1, .val v2, .val v3, .val v4, .val v5, .val v6, .own [wd "refused" w7], .un, .un]) (h := h8) (ds := [lD s, v2]) (n := 2) (all_mem (all_mem k_hook ms) m2) rfl rfl
  have s8 : t__law_others_right_8 [.val (.ref k), .val (lD s), .val v1, .val v2, .val v3, .val v4, .val v5, .val v6, .own [wd "refused" w7], .un, .un] h8 = .nx [.val (.ref k), .val (lD s), .val v1, .val v2, .val v3, .val v4, .val v5, .val v6, .own [wd "refused" w7, wd "refused" "operation"], .un, .un] h8 := by rw [t__law_others_right_8]; exact app_nx (i := 8) (xs := [wd "refused" w7]) rfl (by simp) f8
  obtain ⟨w9, f9, c9, g9⟩ := met_C (fs := (consR (nS 1) (consR (nS 4) aN))) (τ := [.val (.ref k), .val (lD s), .val v1, .val v2, .val v3, .val v4, .val v5, .val v6, .own [wd "refused" w7, wd "refused" "operation"], .un, .un]) (h := h8) (ds := [lD s, v3]) (n := 2) (all_mem (all_mem k_beads ms) m3) rfl rfl
  have s9 : t__law_others_right_9 [.val (.ref k), .val (lD s), .val v1, .val v2, .val v3, .val v4, .val v5, .val v6, .own [wd "refused" w7, wd "refused" "operation"], .un, .un] h8 = .nx [.val (.ref k), .val (lD s), .val v1, .val v2, .val v3, .val v4, .val v5, .val v6, .own [wd "refused" w7, wd "refused" "operation", wd "refused" w9], .un, .un] h8 := by rw [t__law_others_right_9]; exact app_nx (i := 8) (xs := [wd "refused" w7, wd "refused" "operation"]) rfl (by simp) f9
  have f10 := met_W (fs := (consR (nS 5) aN)) (τ := [.val (.ref k), .val (lD s), .val v1, .val v2, .val v3, .val v4, .val v5, .val v6, .own [wd "refused" w7, wd "refused" "operation", wd "refused" w9], .un, .un]) (h := h8) (ds := [v4]) (n := 1) (all_mem k_lob m4) rfl rfl
  have s10 : t__law_others_right_10 [.val (.ref k), .val (lD s), .val v1, .val v2, .val v3, .val v4, .val v5, .val v6, .own [wd "refused" w7, wd "refused" "operation", wd "refused" w9], .un, .un] h8 = .nx [.val (.ref k), .val (lD s), .val v1, .val v2, .val v3, .val v4, .val v5, .val v6, .own [wd "refused" w7, wd "refused" "operation", wd "refused" w9, wd "refused" "operation"], .un, .un] h8 := by rw [t__law_others_right_10]; exact app_nx (i := 8) (xs := [wd "refused" w7, wd "refused" "operation", wd "refused" w9]) rfl (by simp) f10
  obtain ⟨w11, f11, c11, g11⟩ := met_C (fs := (consR (nS 1) (consR (nS 6) aN))) (τ := [.val (.ref k), .val (lD s), .val v1, .val v2, .val v3, .val v4, .val v5, .val v6, .own [wd "refused" w7, wd "refused" "operation", wd "refused" w9, wd "refused" "operation"], .un, .un]) (h := h8) (ds := [lD s, v5]) (n := 2) (all_mem (all_mem k_rims ms) m5) rfl rfl
  have s11 : t__law_others_right_11 [.val (.ref k), .val (lD s), .val v1, .val v2, .val v3, .val v4, .val v5, .val v6, .own [wd "refused" w7, wd "refused" "operation", wd "refused" w9, wd "refused" "operation"], .un, .un] h8 = .nx [.val (.ref k), .val (lD s), .val v1, .val v2, .val v3, .val v4, .val v5, .val v6, .own [wd "refused" w7, wd "refused" "operation", wd "refused" w9, wd "refused" "operation", wd "refused" w11], .un, .un] h8 := by rw [t__law_others_right_11]; exact app_nx (i := 8) (xs := [wd "refused" w7, wd "refused" "operation", wd "refused" w9, wd "refused" "operation"]) rfl (by simp) f11
  obtain ⟨w12, f12, c12, g12⟩ := met_C (fs := (consR (nS 1) (consR (nS 7) aN))) (τ := [.val (.ref k), .val (lD s), .val v1, .val v2, .val v3, .val v4, .val v5, .val v6, .own [wd "refused" w7, wd "refused" "operation", wd "refused" w9, wd "refused" "operation", wd "refused" w11], .un, .un]) (h := h8) (ds := [lD s, v6]) (n := 2) (all_mem (all_mem k_filled ms) m6) rfl rfl
  have s12 : t__law_others_right_12 [.val (.ref k), .val (lD s), .val v1, .val v2, .val v3, .val v4, .val v5, .val v6, .own [wd "refused" w7, wd "refused" "operation", wd "refused" w9, wd "refused" "operation", wd "refused" w11], .un, .un] h8 = .nx [.val (.ref k), .val (lD s), .val v1, .val v2, .val v3, .val v4, .val v5, .val v6, .own [wd "refused" w7, wd "refused" "operation", wd "refused" w9, wd "refused" "operation", wd "refused" w11, wd "refused" w12], .un, .un] h8 := by rw [t__law_others_right_12]; exact app_nx (i := 8) (xs := [wd "refused" w7, wd "refused" "operation", wd "refused" w9, wd "refused" "operation", wd "refused" w11]) rfl (by simp) f12
  have sl : (ni s).length ≤ 1000 := by
    have := (lotLe hl.pos hl.sum).2
    omega
  have f13 := met_W (fs := (consR (nS 1) (consR (res2 addD (nS 1) (tupR (consR (kD (.int 1)) aN))) aN))) (τ := [.val (.ref k), .val (lD s), .val v1, .val v2, .val v3, .val v4, .val v5, .val v6, .own [wd "refused" w7, wd "refused" "operation", wd "refused" w9, wd "refused" "operation", wd "refused" w11, wd "refused" w12], .un, .un]) (h := h8) (ds := [lD s, .tup ((ni s).map .int ++ [.int 1])]) (n := 2) (all_mem k_above ms) (above_fs sl _ _ _) rfl
  have s13 : t__law_others_right_13 [.val (.ref k), .val (lD s), .val v1, .val v2, .val v3, .val v4, .val v5, .val v6, .own [wd "refused" w7, wd "refused" "operation", wd "refused" w9, wd "refused" "operation", wd "refused" w11, wd "refused" w12], .un, .un] h8 = .nx [.val (.ref k), .val (lD s), .val v1, .val v2, .val v3, .val v4, .val v5, .val v6, .own [wd "refused" w7, wd "refused" "operation", wd "refused" w9, wd "refused" "operation", wd "refused" w11, wd "refused" w12, wd "refused" "operation"], .un, .un] h8 := by rw [t__law_others_right_13]; exact app_nx (i := 8) (xs := [wd "refused" w7, wd "refused" "operation", wd "refused" w9, wd "refused" "operation", wd "refused" w11, wd "refused" w12]) rfl (by simp) f13
  obtain ⟨l24, h9, e9, d9, hl24⟩ := lotDrawn_ok (m := 24) d8 (by omega) (by omega)
  have f14 : metR cl__law_met fin__law_met (callR 1 d_more_square (consR (callR 2 d__law_lot_drawn (consR (nS 0) (consR (kD (.int 24)) aN))) aN)) [.val (.ref k), .val (lD s), .val v1, .val v2, .val v3, .val v4, .val v5, .val v6, .own [wd "refused" w7, wd "refused" "operation", wd "refused" w9, wd "refused" "operation", wd "refused" w11, wd "refused" w12, wd "refused" "operation"], .un, .un] h8 = .ok (wd "refused" "operation") h9 := by
    have a1 : consR (callR 2 d__law_lot_drawn (consR (nS 0) (consR (kD (.int 24)) aN))) aN [.val (.ref k), .val (lD s), .val v1, .val v2, .val v3, .val v4, .val v5, .val v6, .own [wd "refused" w7, wd "refused" "operation", wd "refused" w9, wd "refused" "operation", wd "refused" w11, wd "refused" w12, wd "refused" "operation"], .un, .un] h8 = .ok [.tup (l24.map .int)] h9 := by
      rw [drawn_eq]
      simp only [ap_iSub, ap_addD, ap_mulD, ap_iLt, ap_iLe, ap_iGt, ap_iGe, ap_iMod, ap_iDiv, ap_ifR, ap_nS, ap_nB, ap_kD, ap_aN, ap_tY, ap_oN, ap_oS, ap_rT, ap_xS, ap_bkS, ap_ctS, ap_noS, ap_rN, ap_frS, ap_mN, ap_shR, ap_seqS, ap_iteS, ap_cmpT, ap_setS, ap_setN, ap_nilS, ap_res1, ap_res2, ap_refIxR, ap_rputS, ap_consR, ap_callR, ap_biR, ap_isiR, ap_bAndR, ap_bNotR, ap_bOrR, ap_chR, ap_chT, ap_truR, ap_tNotR, ap_tAndR, ap_tOrR, ap_seqR, ap_rngR1, ap_rngR2, ap_enumR, ap_zipR, ap_sliceR, ap_tupR, ap_lstR, ap_starR, ap_augS, ap_asgS, ap_par2, ap_ownM, ap_valM, ap_appS, ap_extS, ap_putS, ap_revR, rb_ok, rn_ok, ro_ok, tr_some, getS, getB, toRes, List.getElem?_cons_succ, List.getElem?_cons_zero, List.length_cons, List.length_nil, if_true, e9]
    have := more_24 hl24 h9
    unfold metR at this ⊢
    rw [ap_callR, a1]
    exact this
  have s14 : t__law_others_right_14 [.val (.ref k), .val (lD s), .val v1, .val v2, .val v3, .val v4, .val v5, .val v6, .own [wd "refused" w7, wd "refused" "operation", wd "refused" w9, wd "refused" "operation", wd "refused" w11, wd "refused" w12, wd "refused" "operation"], .un, .un] h8 = .nx [.val (.ref k), .val (lD s), .val v1, .val v2, .val v3, .val v4, .val v5, .val v6, .own [wd "refused" w7, wd "refused" "operation", wd "refused" w9, wd "refused" "operation", wd "refused" w11, wd "refused" w12, wd "refused" "operation", wd "refused" "operation"], .un, .un] h9 := by rw [t__law_others_right_14]; exact app_nx (i := 8) (xs := [wd "refused" w7, wd "refused" "operation", wd "refused" w9, wd "refused" "operation", wd "refused" w11, wd "refused" w12, wd "refused" "operation"]) rfl (by simp) f14
  have s15 : t__law_others_right_15 [.val (.ref k), .val (lD s), .val v1, .val v2, .val v3, .val v4, .val v5, .val v6, .own [wd "refused" w7, wd "refused" "operation", wd "refused" w9, wd "refused" "operation", wd "refused" w11, wd "refused" w12, wd "refused" "operation", wd "refused" "operation"], .un, .un] h9 = .nx [.val (.ref k), .val (lD s), .val v1, .val v2, .val v3, .val v4, .val v5, .val v6, .own [wd "refused" w7, wd "refused" "operation", wd "refused" w9, wd "refused" "operation", wd "refused" w11, wd "refused" w12, wd "refused" "operation", wd "refused" "operation"], .val (.lst [.str w7, .str "operation", .str w9, .str "operation", .str w11]), .un] h9 := by
    have x7 := cwR_ok (fe := consR (nS 2) aN) (τ := [.val (.ref k), .val (lD s), .val v1, .val v2, .val v3, .val v4, .val v5, .val v6, .own [wd "refused" w7, wd "refused" "operation", wd "refused" w9, wd "refused" "operation", wd "refused" w11, wd "refused" w12, wd "refused" "operation", wd "refused" "operation"], .un, .un]) (h := h9) rfl c7
    have x9 := cwR_ok (fe := consR (nS 4) aN) (τ := [.val (.ref k), .val (lD s), .val v1, .val v2, .val v3, .val v4, .val v5, .val v6, .own [wd "refused" w7, wd "refused" "operation", wd "refused" w9, wd "refused" "operation", wd "refused" w11, wd "refused" w12, wd "refused" "operation", wd "refused" "operation"], .un, .un]) (h := h9) rfl c9
    have x11 := cwR_ok (fe := consR (nS 6) aN) (τ := [.val (.ref k), .val (lD s), .val v1, .val v2, .val v3, .val v4, .val v5, .val v6, .own [wd "refused" w7, wd "refused" "operation", wd "refused" w9, wd "refused" "operation", wd "refused" w11, wd "refused" w12, wd "refused" "operation", wd "refused" "operation"], .un, .un]) (h := h9) rfl c11
    have f5 : fits 5 = true := fits_of (by decide)
    rw [t__law_others_right_15]
    refine setS_nx ?_
    simp only [ap_lstR, ap_consR, x7, x9, x11, ap_kD, ap_aN, rb_ok, List.length_cons, List.length_nil, f5, if_true]
  have s16 := fin_16 (k := k) (s := s) (v1 := v1) (v2 := v2) (v3 := v3) (v4 := v4) (v5 := v5) (v6 := v6) h9 c12 g7 g9 g11 g12
  refine ⟨h9, fn_rt (τ := [.val (.ref k), .un, .un, .un, .un, .un, .un, .un, .un, .un, .un]) rfl ?_, d9⟩
  rw [b__law_others_right, seq_nx s0, seq_nx s1, seq_nx s2, seq_nx s3, seq_nx s4, seq_nx s5, seq_nx s6, seq_nx s7, seq_nx s8, seq_nx s9, seq_nx s10, seq_nx s11, seq_nx s12, seq_nx s13, seq_nx s14, seq_nx s15]
  exact s16
theorem tail_ok (S u1 u2 : Sl) (h : HS) : seqS t_law_1 (seqS t_law_2 (seqS t_law_3 (seqS t_law_4 (seqS t_law_5 (seqS t_law_6 t_law_7))))) [S, u1, u2, .un] h = .rt (.bl true) h := by kernel_rfl
theorem math (ns : List Int) (hl : ns.length ≤ 63) : ∃ h, fnR 4 b_law [.frl (ns.map .int)] [] = .ok (.bl true) h := by
  obtain ⟨u1, u2, h', e⟩ := law_loop (COND := tOrR (tNotR (truR (callR 1 d__law_lots_right (consR (nS 2) aN)))) (tNotR (truR (callR 1 d__law_others_right (consR (nS 2) aN))))) (K0 := 4) (by decide) (by decide) (rest := [.un]) (ns := ns) (fun h k x hd => by
    obtain ⟨ha, ea, da⟩ := lots_ok hd
    obtain ⟨hb, eb, db⟩ := others_ok da
    exact ⟨hb, cond_or (h1 := ha) ea eb⟩) []
  refine ⟨h', fn_rt (τ := [.val (.frl (ns.map .int)), .un, .un, .un]) rfl ?_⟩
  have e0 : t_law_0 [.val (.frl (ns.map .int)), .un, .un, .un] [] = .nx [.val (.frl (ns.map .int)), u1, u2, .un] h' := by
    rw [t_law_0, dice_eq]; exact e
  rw [b_law, seq_nx e0]
  exact tail_ok _ _ _ _
end G_k13

open PySem PySem.W PySem.Calls PyProof.Rows Sw
theorem PySem.Challenge.cw_swapsheets_k13_errors_of_lots_holds : PySem.Challenge.rw_swapsheets_k13_errors_of_lots.Holds := by
  w_on; o_law
  refine HandSHeadRun.head_any (r := PySem.W.OpenLaw.row PySem.Challenge.rw_swapsheets_k13_errors_of_lots) (q := PySem.W.view (PySem.W.OpenLaw.row PySem.Challenge.rw_swapsheets_k13_errors_of_lots).prog [64]) (H := G_k13.hk) (ob := G_k13.ob) (M := 6000) (loose := G_k13.loose) (d := HandSHeadRun.topDef (PySem.W.OpenLaw.row PySem.Challenge.rw_swapsheets_k13_errors_of_lots).prog 64) (kwd := []) G_k13.ob_eq
    (by kernel_rfl) (fun s => by kernel_rfl) G_k13.run (by kernel_rfl) (by kernel_rfl) (by kernel_rfl) (by rfl) (by first | assumption | decide +kernel) (by decide +kernel) ⟨rfl, rfl, rfl, rfl, rfl, by decide +kernel⟩ ?hw ?hc
  case hw => w_witness2
  case hc =>
    refine Sw.walk_endL (l := PySem.Challenge.rw_swapsheets_k13_errors_of_lots) (n := 63) (k := 11) (x := "_law_script") rfl (by decide) (by kernel_rfl) ⟨rfl, by decide, by decide⟩ ?F
    intro w mg fa h Y G hmg0
    obtain ⟨K, KX, c⟩ := Y
    have hmg : mg ("law" : PySem.Str) = some (.ref fa) := by
      have e : (HandSHeadRun.topDef (PySem.W.OpenLaw.row PySem.Challenge.rw_swapsheets_k13_errors_of_lots).prog 64).name = ("law" : PySem.Str) := by kernel_rfl
      rw [← e]
      exact hmg0
    exact law_factsL (P := PySem.Challenge.rw_swapsheets_k13_errors_of_lots.prog) (w := w) KX G c (by kernel_rfl) (by kernel_rfl) hmg 52 86 (st := G_k13.s_law) (fb := G_k13.b_law) rfl rfl (by decide) G_k13.sc_law (fun _ _ _ _ _ _ us hl => match us, hl with | [_], _ => rfl) (fun i g T => G_k13.body_law i g T) (fun ns hl => by letI : Sw.Tbs := ⟨[]⟩; exact G_k13.math ns hl)
