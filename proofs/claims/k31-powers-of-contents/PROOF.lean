import PyProof.Rows.All
import Wide.All
import OpenK.AllK
import Wide.FinOn
import HandS.Deep
import HandS.Defaults
import HandS.ForExc
import HandS.ForMost
import HandS.Gcd
import HandS.Head0
import HandS.Head1
import HandS.Head2
import HandS.HeadEnd
import HandS.HeadHook1
import HandS.HeadHook2
import HandS.IsInst
import HandS.RaiseMore
import HandS.SortInts
import HandS.SortKw
import HandS.SortOrd
import HandS.Star
import HandS.Style
import HandS.TupAny
import HandS.TupMul
import HandS.Wide
import HandS.WordsExc
import HandS.Zip
import KE.DataMinMax
import KE.GoesEnum
import KE.KTupSum
import KE.SortData
import PySem.Challenge.RW_swapsheets_k31_whole_powers_of_contents
set_option Elab.async false
set_option linter.all false
set_option maxRecDepth 100000
set_option maxHeartbeats 0
/-! Sw, part A: plain data, worlds, frames, results: what a def's text is worth on plain data. -/
namespace Sw
open PySem PySem.Spec PyProof.Rows L2

/-- plain data: what a program's values are without the heap; frl: a list that none may change; ref n: the n-th shared list -/
inductive D where
  | non | bl (b : Bool) | int (i : Int) | str (s : Str)
  | tup (xs : List D) | lst (xs : List D) | frl (xs : List D)
  | dK (kvs : List (Key × D)) | dT (kvs : List (List Key × D))
  | ref (n : Nat)
deriving Inhabited

/-- the shared lists -/
abbrev HS := List (List D)
/-- a slot of a frame: nothing yet, a value, an own list (dict) that the frame alone can change -/
inductive Sl where
  | un | val (d : D) | own (xs : List D) | ownK (kvs : List (Key × D)) | ownT (kvs : List (List Key × D))
deriving Inhabited
/-- an exception: the name of its class, what it keeps -/
structure Ex where
  cls : Str
  kept : Option (Str × D)
inductive Res (α : Type) where
  | ok (a : α) (h : HS) | exc (x : Ex) (h : HS) | bad
def Res.bind {α β : Type} (r : Res α) (g : α → HS → Res β) : Res β := match r with
  | .ok a h => g a h
  | .exc x h => .exc x h
  | .bad => .bad
def toRes {α : Type} (o : Option α) (h : HS) : Res α := match o with
  | some a => .ok a h
  | none => .bad
/-- how a statement ends -/
inductive RS where
  | nx (σ : List Sl) (h : HS) | rt (d : D) (h : HS) | bk (σ : List Sl) (h : HS) | ct (σ : List Sl) (h : HS) | exc (x : Ex) (h : HS) | bad
abbrev DE := List Sl → HS → Res D
abbrev DT := List Sl → HS → Res Bool
abbrev DA := List Sl → HS → Res (List D)
abbrev DS := List Sl → HS → RS

/-! ### worlds -/
/-- F: the frozen addresses, ρ: those of the shared lists -/
structure Wd where
  F : Addr → Prop
  ρ : List Addr
  H : Hp
def KLst (K : PySem.W.Frag) (a : Addr) (xs : List V) : Prop :=
  ∃ (o : Obj) (its : Array Value) (n : Nat), K.lookup a = some o ∧ o.cls = .type "list" ∧ o.dict = none ∧ o.data = .seq its n ∧ its.size ≤ sizeLine ∧ Vals xs its.toList
def KTup (K : PySem.W.Frag) (a : Addr) (xs : List V) : Prop :=
  ∃ (o : Obj) (its : Array Value) (n : Nat), K.lookup a = some o ∧ o.cls = .type "tuple" ∧ o.data = .seq its n ∧ its.size ≤ sizeLine ∧ Vals xs its.toList
def LstAt (W : Wd) (a : Addr) (xs : List V) : Prop := W.F a ∧ W.H a = some (.lst xs)
def FrlAt (K : PySem.W.Frag) (W : Wd) (a : Addr) (xs : List V) : Prop := (W.F a ∧ Rd W.H a (.lst xs)) ∨ KLst K a xs
def TupAt (K : PySem.W.Frag) (W : Wd) (a : Addr) (xs : List V) : Prop := (W.F a ∧ Rd W.H a (.tup xs)) ∨ KTup K a xs
theorem LstAt.sq {K : PySem.W.Frag} {W : Wd} {a : Addr} {xs : List V} (h : LstAt W a xs) : SqL K W.H a xs := .inl (.inl h.2)
theorem FrlAt.sq {K : PySem.W.Frag} {W : Wd} {a : Addr} {xs : List V} (h : FrlAt K W a xs) : SqL K W.H a xs := h.elim (fun z => .inl z.2) .inr
theorem TupAt.sq {K : PySem.W.Frag} {W : Wd} {a : Addr} {xs : List V} (h : TupAt K W a xs) : SqT K W.H a xs := h.elim (fun z => .inl z.2) .inr

section
variable (K : PySem.W.Frag)
mutual
/-- the value v is the data d, in the world W -/
def Rep (W : Wd) : D → V → Prop
  | .non, v => v = .non
  | .bl b, v => v = .bl b
  | .int i, v => v = .int i
  | .str s, v => v = .str s
  | .tup xs, v => ∃ a vs, v = .ref a ∧ TupAt K W a vs ∧ Reps W xs vs
  | .lst xs, v => ∃ a vs, v = .ref a ∧ LstAt W a vs ∧ Reps W xs vs
  | .frl xs, v => ∃ a vs, v = .ref a ∧ FrlAt K W a vs ∧ Reps W xs vs
  | .dK kvs, v => ∃ a ws, v = .ref a ∧ W.F a ∧ Rd W.H a (.dK ws) ∧ RepK W kvs ws
  | .dT kvs, v => ∃ a ws, v = .ref a ∧ W.F a ∧ Rd W.H a (.dT ws) ∧ RepT W kvs ws
  | .ref n, v => ∃ a, W.ρ[n]? = some a ∧ v = .ref a
def Reps (W : Wd) : List D → List V → Prop
  | [], vs => vs = []
  | x :: xs, vs => ∃ v r, vs = v :: r ∧ Rep W x v ∧ Reps W xs r
def RepK (W : Wd) : List (Key × D) → List (Key × V) → Prop
  | [], ws => ws = []
  | (k, d) :: r, ws => ∃ v t, ws = (k, v) :: t ∧ Rep W d v ∧ RepK W r t
def RepT (W : Wd) : List (List Key × D) → List (List Key × V) → Prop
  | [], ws => ws = []
  | (k, d) :: r, ws => ∃ v t, ws = (k, v) :: t ∧ Rep W d v ∧ RepT W r t
end
end

/-- what was frozen stays -/
structure LeF (W W' : Wd) : Prop where
  fr : ∀ a, W.F a → W'.F a
  st : ∀ a u, W.F a → Rd W.H a u → Rd W'.H a u
  sl : ∀ a xs, W.F a → W.H a = some (.lst xs) → W'.H a = some (.lst xs)
  rh : W.ρ <+: W'.ρ
/-- .. and what is neither frozen nor shared is left alone -/
structure Le (W W' : Wd) : Prop extends LeF W W' where
  fo : ∀ a o, W.H a = some o → ¬ W.F a → a ∉ W.ρ → W'.H a = some o ∧ ¬ W'.F a ∧ a ∉ W'.ρ
theorem LeF.refl (W : Wd) : LeF W W := ⟨fun _ h => h, fun _ _ _ h => h, fun _ _ _ h => h, List.prefix_refl _⟩
theorem LeF.trans {A B C : Wd} (x : LeF A B) (y : LeF B C) : LeF A C := ⟨fun a h => y.fr a (x.fr a h), fun a u h r => y.st a u (x.fr a h) (x.st a u h r), fun a u h r => y.sl a u (x.fr a h) (x.sl a u h r), x.rh.trans y.rh⟩
theorem Le.refl (W : Wd) : Le W W := ⟨.refl W, fun _ _ h1 h2 h3 => ⟨h1, h2, h3⟩⟩
theorem Le.trans {A B C : Wd} (x : Le A B) (y : Le B C) : Le A C := ⟨x.toLeF.trans y.toLeF, fun a o h1 h2 h3 => by
  obtain ⟨b1, b2, b3⟩ := x.fo a o h1 h2 h3
  exact y.fo a o b1 b2 b3⟩

section
variable {K : PySem.W.Frag} {W W' : Wd}
theorem LstAt.mono (l : LeF W W') {a : Addr} {xs : List V} (h : LstAt W a xs) : LstAt W' a xs := ⟨l.fr a h.1, l.sl a _ h.1 h.2⟩
theorem FrlAt.mono (l : LeF W W') {a : Addr} {xs : List V} (h : FrlAt K W a xs) : FrlAt K W' a xs := h.imp (fun ⟨f, r⟩ => ⟨l.fr a f, l.st a _ f r⟩) id
theorem TupAt.mono (l : LeF W W') {a : Addr} {xs : List V} (h : TupAt K W a xs) : TupAt K W' a xs := h.imp (fun ⟨f, r⟩ => ⟨l.fr a f, l.st a _ f r⟩) id
mutual
theorem Rep.mono (l : LeF W W') : ∀ (d : D) (v : V), Rep K W d v → Rep K W' d v
  | .non, v, h => by simpa [Rep] using h
  | .bl b, v, h => by simpa [Rep] using h
  | .int i, v, h => by simpa [Rep] using h
  | .str s, v, h => by simpa [Rep] using h
  | .tup xs, v, h => by
    rw [Rep] at h ⊢
    obtain ⟨a, vs, e, t, r⟩ := h
    exact ⟨a, vs, e, t.mono l, Reps.mono l xs vs r⟩
  | .lst xs, v, h => by
    rw [Rep] at h ⊢
    obtain ⟨a, vs, e, t, r⟩ := h
    exact ⟨a, vs, e, t.mono l, Reps.mono l xs vs r⟩
  | .frl xs, v, h => by
    rw [Rep] at h ⊢
    obtain ⟨a, vs, e, t, r⟩ := h
    exact ⟨a, vs, e, t.mono l, Reps.mono l xs vs r⟩
  | .dK kvs, v, h => by
    rw [Rep] at h ⊢
    obtain ⟨a, ws, e, f, t, r⟩ := h
    exact ⟨a, ws, e, l.fr a f, l.st a _ f t, RepK.mono l kvs ws r⟩
  | .dT kvs, v, h => by
    rw [Rep] at h ⊢
    obtain ⟨a, ws, e, f, t, r⟩ := h
    exact ⟨a, ws, e, l.fr a f, l.st a _ f t, RepT.mono l kvs ws r⟩
  | .ref n, v, h => by
    rw [Rep] at h ⊢
    obtain ⟨a, e, q⟩ := h
    obtain ⟨t, ht⟩ := l.rh
    refine ⟨a, ?_, q⟩
    rw [← ht]
    exact (List.getElem?_append_left (List.getElem?_eq_some_iff.mp e).1).trans e
theorem Reps.mono (l : LeF W W') : ∀ (ds : List D) (vs : List V), Reps K W ds vs → Reps K W' ds vs
  | [], vs, h => by simpa [Reps] using h
  | x :: xs, vs, h => by
    rw [Reps] at h ⊢
    obtain ⟨v, r, e, h1, h2⟩ := h
    exact ⟨v, r, e, Rep.mono l x v h1, Reps.mono l xs r h2⟩
theorem RepK.mono (l : LeF W W') : ∀ (ds : List (Key × D)) (vs : List (Key × V)), RepK K W ds vs → RepK K W' ds vs
  | [], vs, h => by simpa [RepK] using h
  | (k, x) :: xs, vs, h => by
    rw [RepK] at h ⊢
    obtain ⟨v, r, e, h1, h2⟩ := h
    exact ⟨v, r, e, Rep.mono l x v h1, RepK.mono l xs r h2⟩
theorem RepT.mono (l : LeF W W') : ∀ (ds : List (List Key × D)) (vs : List (List Key × V)), RepT K W ds vs → RepT K W' ds vs
  | [], vs, h => by simpa [RepT] using h
  | (k, x) :: xs, vs, h => by
    rw [RepT] at h ⊢
    obtain ⟨v, r, e, h1, h2⟩ := h
    exact ⟨v, r, e, Rep.mono l x v h1, RepT.mono l xs r h2⟩
end
theorem Reps.length : ∀ {ds : List D} {vs : List V}, Reps K W ds vs → ds.length = vs.length
  | [], vs, h => by rw [Reps] at h; subst h; rfl
  | x :: xs, vs, h => by
    rw [Reps] at h
    obtain ⟨v, r, rfl, h1, h2⟩ := h
    simp [Reps.length h2]
theorem Reps.get : ∀ {ds : List D} {vs : List V} {i : Nat} {d : D}, Reps K W ds vs → ds[i]? = some d → ∃ v, vs[i]? = some v ∧ Rep K W d v
  | [], vs, i, d, h, e => by simp at e
  | x :: xs, vs, 0, d, h, e => by
    rw [Reps] at h
    obtain ⟨v, r, rfl, h1, h2⟩ := h
    simp at e; subst e
    exact ⟨v, rfl, h1⟩
  | x :: xs, vs, i + 1, d, h, e => by
    rw [Reps] at h
    obtain ⟨v, r, rfl, h1, h2⟩ := h
    obtain ⟨u, e1, e2⟩ := Reps.get (i := i) h2 (by simpa using e)
    exact ⟨u, by simpa using e1, e2⟩
theorem Reps.append : ∀ {ds es : List D} {vs us : List V}, Reps K W ds vs → Reps K W es us → Reps K W (ds ++ es) (vs ++ us)
  | [], es, vs, us, h, q => by rw [Reps] at h; subst h; exact q
  | x :: xs, es, vs, us, h, q => by
    rw [Reps] at h
    obtain ⟨v, r, rfl, h1, h2⟩ := h
    show Reps K W (x :: (xs ++ es)) _
    rw [Reps]
    exact ⟨v, r ++ us, rfl, h1, Reps.append h2 q⟩
theorem Reps.one {d : D} {v : V} (h : Rep K W d v) : Reps K W [d] [v] := by
  rw [Reps]; exact ⟨v, [], rfl, h, by rw [Reps]⟩
theorem Reps.nil : Reps K W [] [] := by rw [Reps]
theorem Reps.cons {d : D} {v : V} {ds : List D} {vs : List V} (h : Rep K W d v) (t : Reps K W ds vs) : Reps K W (d :: ds) (v :: vs) := by
  rw [Reps]; exact ⟨v, vs, rfl, h, t⟩
theorem Reps.set : ∀ {ds : List D} {vs : List V} (i : Nat) {d : D} {v : V}, Reps K W ds vs → Rep K W d v → Reps K W (ds.set i d) (vs.set i v)
  | [], vs, i, d, v, h, q => by rw [Reps] at h; subst h; simp [Reps]
  | x :: xs, vs, 0, d, v, h, q => by
    rw [Reps] at h
    obtain ⟨v, r, rfl, h1, h2⟩ := h
    exact .cons q h2
  | x :: xs, vs, i + 1, d, v, h, q => by
    rw [Reps] at h
    obtain ⟨v', r, rfl, h1, h2⟩ := h
    exact .cons h1 (Reps.set i h2 q)
theorem Reps.take : ∀ {ds : List D} {vs : List V} (n : Nat), Reps K W ds vs → Reps K W (ds.take n) (vs.take n)
  | _, _, 0, _ => by simp [Reps]
  | [], vs, n + 1, h => by rw [Reps] at h; subst h; simp [Reps]
  | x :: xs, vs, n + 1, h => by
    rw [Reps] at h
    obtain ⟨v, r, rfl, h1, h2⟩ := h
    exact .cons h1 (Reps.take n h2)
theorem Reps.drop : ∀ {ds : List D} {vs : List V} (n : Nat), Reps K W ds vs → Reps K W (ds.drop n) (vs.drop n)
  | _, _, 0, h => h
  | [], vs, n + 1, h => by rw [Reps] at h; subst h; simp [Reps]
  | x :: xs, vs, n + 1, h => by
    rw [Reps] at h
    obtain ⟨v, r, rfl, h1, h2⟩ := h
    exact Reps.drop n h2
theorem Reps.reverse : ∀ {ds : List D} {vs : List V}, Reps K W ds vs → Reps K W ds.reverse vs.reverse
  | [], vs, h => by rw [Reps] at h; subst h; simp [Reps]
  | x :: xs, vs, h => by
    rw [Reps] at h
    obtain ⟨v, r, rfl, h1, h2⟩ := h
    rw [List.reverse_cons, List.reverse_cons]
    exact (Reps.reverse h2).append (.one h1)
end

/-! ### what stands in a world: the shared lists, a frame's slots -/
structure RH (K : PySem.W.Frag) (W : Wd) (h : HS) : Prop where
  len : W.ρ.length = h.length
  nd : W.ρ.Nodup
  at_ : ∀ (n : Nat) (xs : List D) (a : Addr), h[n]? = some xs → W.ρ[n]? = some a → ∃ vs, W.H a = some (.lst vs) ∧ Reps K W xs vs
  nf : ∀ a ∈ W.ρ, ¬ W.F a
  up : ∀ a, W.F a → W.H a ≠ none
/-- an address of the frame's own -/
structure OwnA (W0 W : Wd) (a : Addr) : Prop where
  nf : ¬ W.F a
  nr : a ∉ W.ρ
  new : W0.H a = none
/-- what slot i holds -/
def SlAt (K : PySem.W.Frag) (W0 W : Wd) : Sl → Option (Option V) → Prop
  | .un, _ => True
  | .val d, o => ∃ v, o = some (some v) ∧ Rep K W d v
  | .own xs, o => ∃ a vs, o = some (some (.ref a)) ∧ W.H a = some (.lst vs) ∧ Reps K W xs vs ∧ OwnA W0 W a
  | .ownK kvs, o => ∃ a ws, o = some (some (.ref a)) ∧ W.H a = some (.dK ws) ∧ RepK K W kvs ws ∧ OwnA W0 W a
  | .ownT kvs, o => ∃ a ws, o = some (some (.ref a)) ∧ W.H a = some (.dT ws) ∧ RepT K W kvs ws ∧ OwnA W0 W a
def Sl.isOwn : Sl → Bool
  | .own _ => true
  | .ownK _ => true
  | .ownT _ => true
  | _ => false
structure Frm (K : PySem.W.Frag) (W0 W : Wd) (τ : List Sl) (σ : L2.St) : Prop where
  len : τ.length = σ.length
  at_ : ∀ (i : Nat) (x : Sl), τ[i]? = some x → SlAt K W0 W x σ[i]?
  dis : ∀ (i j : Nat) (x y : Sl) (a : Addr), i ≠ j → τ[i]? = some x → τ[j]? = some y → x.isOwn = true → y.isOwn = true → σ[i]? = some (some (.ref a)) → σ[j]? ≠ some (some (.ref a))
theorem SlAt.mono {K : PySem.W.Frag} {W0 W W' : Wd} (l : Le W W') : ∀ {x : Sl} {o : Option (Option V)}, SlAt K W0 W x o → SlAt K W0 W' x o
  | .un, _, _ => trivial
  | .val d, o, ⟨v, e, r⟩ => ⟨v, e, r.mono l.toLeF⟩
  | .own xs, o, ⟨a, vs, e, h, r, w⟩ => by
    obtain ⟨b1, b2, b3⟩ := l.fo a _ h w.nf w.nr
    exact ⟨a, vs, e, b1, r.mono l.toLeF, b2, b3, w.new⟩
  | .ownK xs, o, ⟨a, vs, e, h, r, w⟩ => by
    obtain ⟨b1, b2, b3⟩ := l.fo a _ h w.nf w.nr
    exact ⟨a, vs, e, b1, r.mono l.toLeF, b2, b3, w.new⟩
  | .ownT xs, o, ⟨a, vs, e, h, r, w⟩ => by
    obtain ⟨b1, b2, b3⟩ := l.fo a _ h w.nf w.nr
    exact ⟨a, vs, e, b1, r.mono l.toLeF, b2, b3, w.new⟩
theorem Frm.mono {K : PySem.W.Frag} {W0 W W' : Wd} {τ : List Sl} {σ : L2.St} (l : Le W W') (f : Frm K W0 W τ σ) : Frm K W0 W' τ σ := ⟨f.len, fun i x e => (f.at_ i x e).mono l, f.dis⟩

/-! ### results against wishes -/
/-- how an exception lies -/
def ExR (K : PySem.W.Frag) (mg : Str → Option Value) (W : Wd) (x : Ex) (c : Value) (dd : Option Addr) : Prop :=
  mg x.cls = some c ∧ match x.kept with
    | none => dd = none
    | some (f, d) => ∃ (v : V) (a : Addr), dd = some a ∧ W.H a = some (.xd [(f, v)]) ∧ Rep K W d v
def okG (K : PySem.W.Frag) (mg : Str → Option Value) {α β : Type} (Rel : Wd → α → β → Prop) (W : Wd) (E : XK) (Q : β → Hp → Prop) : Res α → Prop
  | .ok a h => ∀ W' b, Le W W' → RH K W' h → Rel W' a b → Q b W'.H
  | .exc x h => ∀ W' c dd, Le W W' → RH K W' h → ExR K mg W' x c dd → E c dd W'.H
  | .bad => False
section
variable {K : PySem.W.Frag} {mg : Str → Option Value} {α β γ δ : Type} {Rel : Wd → α → β → Prop} {Rel' : Wd → γ → δ → Prop} {W W' : Wd} {E : XK} {Q : β → Hp → Prop} {Q' : δ → Hp → Prop}
theorem okG.mono {r : Res α} (l : Le W W') (h : okG K mg Rel W E Q r) : okG K mg Rel W' E Q r := by
  cases r with
  | ok a s => exact fun W2 b l2 => h W2 b (l.trans l2)
  | exc x s => exact fun W2 b d l2 => h W2 b d (l.trans l2)
  | bad => exact h
theorem okG.bind {r : Res α} {g : α → HS → Res γ} (h : okG K mg Rel' W E Q' (r.bind g))
    (k : ∀ a s W1 b, Le W W1 → RH K W1 s → Rel W1 a b → okG K mg Rel' W1 E Q' (g a s) → Q b W1.H) : okG K mg Rel W E Q r := by
  cases r with
  | ok a s => exact fun W2 b l2 rh re => k a s W2 b l2 rh re (okG.mono l2 h)
  | exc x s => exact h
  | bad => exact h
end
end Sw

/-! Sw, part B: judgements; expressions. -/
namespace Sw
open PySem PySem.Spec PyProof.Rows L2

/-! ### new objects -/
section
variable {K : PySem.W.Frag} {W W' : Wd} {h : HS}
theorem Rd.ne {H : Hp} {a : Addr} {u : HO} (r : Rd H a u) : H a ≠ none := by
  rcases r with r | ⟨o, r⟩ <;> rw [r] <;> exact fun z => by cases z
theorem RH.there (rh : RH K W h) {a : Addr} (m : a ∈ W.ρ) : W.H a ≠ none := by
  obtain ⟨n, hn, e⟩ := List.getElem_of_mem m
  have e1 : W.ρ[n]? = some a := by rw [List.getElem?_eq_getElem hn, e]
  have hn2 : n < h.length := by rw [← rh.len]; exact hn
  obtain ⟨vs, q, _⟩ := rh.at_ n _ a (List.getElem?_eq_getElem hn2) e1
  rw [q]; exact fun z => by cases z
/-- what is new now was not there ahead -/
theorem Le.old (l : Le W W') (rh : RH K W' h) {a : Addr} (e : W'.H a = none) : W.H a = none := by
  cases q : W.H a with
  | none => rfl
  | some o =>
    exfalso
    by_cases hF : W.F a
    · exact Rd.ne (l.st a o hF (.inl q)) e
    · by_cases hr : a ∈ W.ρ
      · exact rh.there (l.rh.subset hr) e
      · have := (l.fo a o q hF hr).1
        rw [e] at this; cases this
abbrev Wd.put (W : Wd) (p : Addr) (o : HO) : Wd := ⟨W.F, W.ρ, upd W.H p o⟩
abbrev Wd.frz (W : Wd) (p : Addr) : Wd := ⟨fun a => W.F a ∨ a = p, W.ρ, W.H⟩
abbrev Wd.share (W : Wd) (p : Addr) : Wd := ⟨W.F, W.ρ ++ [p], W.H⟩
theorem le_put {p : Addr} {o : HO} (n : W.H p = none) : Le W (W.put p o) where
  fr := fun _ h => h
  st := fun a u _ r => by
    have : a ≠ p := fun z => Rd.ne r (z ▸ n)
    rcases r with r | ⟨ob, r⟩
    · exact .inl (by rw [← r]; exact upd_ne this)
    · exact .inr ⟨ob, by rw [← r]; exact upd_ne this⟩
  sl := fun a xs _ r => by rw [← r]; exact upd_ne (ne_of_none r n)
  rh := List.prefix_refl _
  fo := fun a ob e h1 h2 => ⟨by rw [← e]; exact upd_ne (ne_of_none e n), h1, h2⟩
theorem rh_put {p : Addr} {o : HO} (n : W.H p = none) (rh : RH K W h) : RH K (W.put p o) h where
  len := rh.len
  nd := rh.nd
  at_ := fun i xs a e1 e2 => by
    obtain ⟨vs, q, r⟩ := rh.at_ i xs a e1 e2
    exact ⟨vs, by rw [← q]; exact upd_ne (ne_of_none q n), Reps.mono (le_put n).toLeF _ _ r⟩
  nf := rh.nf
  up := fun a f => by
    by_cases z : a = p
    · subst z; show upd W.H a o a ≠ none; rw [upd_same]; exact fun z => by cases z
    · show upd W.H p o a ≠ none; rw [upd_ne z]; exact rh.up a f
theorem lef_frz (W : Wd) (p : Addr) : LeF W (W.frz p) := ⟨fun _ h => .inl h, fun _ _ _ r => r, fun _ _ _ r => r, List.prefix_refl _⟩
theorem le_frz {p : Addr} (l : Le W W') (n : W.H p = none) : Le W (W'.frz p) where
  toLeF := l.toLeF.trans (lef_frz _ _)
  fo := fun a o e h1 h2 => by
    obtain ⟨b1, b2, b3⟩ := l.fo a o e h1 h2
    exact ⟨b1, fun z => z.elim b2 (ne_of_none e n), b3⟩
theorem rh_frz {p : Addr} (rh : RH K W h) (n : p ∉ W.ρ) (e : W.H p ≠ none) : RH K (W.frz p) h where
  len := rh.len
  nd := rh.nd
  at_ := fun i xs a e1 e2 => by
    obtain ⟨vs, q, r⟩ := rh.at_ i xs a e1 e2
    exact ⟨vs, q, Reps.mono (lef_frz _ _) _ _ r⟩
  nf := fun a m z => z.elim (rh.nf a m) fun q => n (q ▸ m)
  up := fun a f => f.elim (rh.up a) fun q => q ▸ e
theorem lef_share (W : Wd) (p : Addr) : LeF W (W.share p) := ⟨fun _ h => h, fun _ _ _ r => r, fun _ _ _ r => r, List.prefix_append _ _⟩
theorem le_share {p : Addr} (l : Le W W') (n : W.H p = none) : Le W (W'.share p) where
  toLeF := l.toLeF.trans (lef_share _ _)
  fo := fun a o e h1 h2 => by
    obtain ⟨b1, b2, b3⟩ := l.fo a o e h1 h2
    exact ⟨b1, b2, fun z => (List.mem_append.mp z).elim b3 fun q => ne_of_none e n (by simpa using q)⟩
theorem rh_share {p : Addr} {xs : List D} {vs : List V} (rh : RH K W h) (n : p ∉ W.ρ) (f : ¬ W.F p) (e : W.H p = some (.lst vs)) (r : Reps K W xs vs) : RH K (W.share p) (h ++ [xs]) where
  len := by simp [rh.len]
  nd := by
    rw [List.nodup_append]
    exact ⟨rh.nd, by simp, fun a h1 b h2 q => n (by simp at h2; rw [← h2, ← q]; exact h1)⟩
  at_ := fun i ys a e1 e2 => by
    by_cases z : i < h.length
    · rw [List.getElem?_append_left z] at e1
      rw [List.getElem?_append_left (by rw [rh.len]; exact z)] at e2
      obtain ⟨us, q, r⟩ := rh.at_ i ys a e1 e2
      exact ⟨us, q, Reps.mono (lef_share _ _) _ _ r⟩
    · have h1 := (List.getElem?_eq_some_iff.mp e1).1
      have hi : i = h.length := by simp at h1; omega
      subst hi
      rw [← rh.len] at e2
      have e1' : xs = ys := by simpa using e1
      have e2' : p = a := by simpa using e2
      subst e1'; subst e2'
      exact ⟨vs, e, Reps.mono (lef_share _ _) _ _ r⟩
  nf := fun a m => (List.mem_append.mp m).elim (rh.nf a) fun q => by simp at q; rw [q]; exact f
  up := rh.up
/-- a new list or dict, the frame's own: W is the world ahead -/
def NewR (K : PySem.W.Frag) (W W' : Wd) (d : D) (v : V) : Prop := match d with
  | .lst xs => ∃ a vs, v = .ref a ∧ W'.H a = some (.lst vs) ∧ Reps K W' xs vs ∧ ¬ W'.F a ∧ a ∉ W'.ρ ∧ W.H a = none
  | .dK kvs => ∃ a ws, v = .ref a ∧ W'.H a = some (.dK ws) ∧ RepK K W' kvs ws ∧ ¬ W'.F a ∧ a ∉ W'.ρ ∧ W.H a = none
  | .dT kvs => ∃ a ws, v = .ref a ∧ W'.H a = some (.dT ws) ∧ RepT K W' kvs ws ∧ ¬ W'.F a ∧ a ∉ W'.ρ ∧ W.H a = none
  | _ => False
theorem NewR.freeze {d : D} {v : V} (l : Le W W') (rh : RH K W' h) (n : NewR K W W' d v) : ∃ W2, W2.H = W'.H ∧ Le W W2 ∧ RH K W2 h ∧ Rep K W2 d v := by
  cases d with
  | lst xs =>
    obtain ⟨a, vs, rfl, e, r, f, q, o⟩ := n
    refine ⟨W'.frz a, rfl, le_frz l o, rh_frz rh q (by rw [e]; exact fun z => by cases z), ?_⟩
    rw [Rep]
    exact ⟨a, vs, rfl, ⟨.inr rfl, e⟩, Reps.mono (lef_frz _ _) _ _ r⟩
  | dK kvs =>
    obtain ⟨a, vs, rfl, e, r, f, q, o⟩ := n
    refine ⟨W'.frz a, rfl, le_frz l o, rh_frz rh q (by rw [e]; exact fun z => by cases z), ?_⟩
    rw [Rep]
    exact ⟨a, vs, rfl, .inr rfl, .inl e, RepK.mono (lef_frz _ _) _ _ r⟩
  | dT kvs =>
    obtain ⟨a, vs, rfl, e, r, f, q, o⟩ := n
    refine ⟨W'.frz a, rfl, le_frz l o, rh_frz rh q (by rw [e]; exact fun z => by cases z), ?_⟩
    rw [Rep]
    exact ⟨a, vs, rfl, .inr rfl, .inl e, RepT.mono (lef_frz _ _) _ _ r⟩
  | _ => exact n.elim
/-- a new list laid -/
theorem new_lst {p : Addr} {xs : List D} {vs : List V} (n : W.H p = none) (rh : RH K W h) (r : Reps K W xs vs) : Le W (W.put p (.lst vs)) ∧ RH K (W.put p (.lst vs)) h ∧ NewR K W (W.put p (.lst vs)) (.lst xs) (.ref p) :=
  ⟨le_put n, rh_put n rh, p, vs, rfl, upd_same, Reps.mono (le_put n).toLeF _ _ r, fun f => rh.up p f n, fun m => rh.there m n, n⟩
/-- a new tuple laid -/
theorem new_tup {p : Addr} {xs : List D} {vs : List V} (n : W.H p = none) (rh : RH K W h) (r : Reps K W xs vs) :
    ∃ W2, W2.H = upd W.H p (.tup vs) ∧ Le W W2 ∧ RH K W2 h ∧ Rep K W2 (.tup xs) (.ref p) := by
  refine ⟨(W.put p (.tup vs)).frz p, rfl, le_frz (le_put n) n, rh_frz (rh_put n rh) (fun m => rh.there m n) (by show upd W.H p (.tup vs) p ≠ none; rw [upd_same]; exact fun z => by cases z), ?_⟩
  rw [Rep]
  exact ⟨p, vs, rfl, .inl ⟨.inr rfl, .inl upd_same⟩, Reps.mono ((le_put n).toLeF.trans (lef_frz _ _)) _ _ r⟩

/-- read, not kept: frozen, or an own list of the frame -/
def BorO (K : PySem.W.Frag) (W : Wd) (d : D) (v : V) : Prop := match d with
  | .lst xs => ∃ a vs, v = .ref a ∧ W.H a = some (.lst vs) ∧ Reps K W xs vs ∧ ¬ W.F a ∧ a ∉ W.ρ
  | .dK kvs => ∃ a ws, v = .ref a ∧ W.H a = some (.dK ws) ∧ RepK K W kvs ws ∧ ¬ W.F a ∧ a ∉ W.ρ
  | .dT kvs => ∃ a ws, v = .ref a ∧ W.H a = some (.dT ws) ∧ RepT K W kvs ws ∧ ¬ W.F a ∧ a ∉ W.ρ
  | _ => False
def Bor (K : PySem.W.Frag) (W : Wd) (d : D) (v : V) : Prop := Rep K W d v ∨ BorO K W d v
theorem NewR.bor {W0 : Wd} {d : D} {v : V} (n : NewR K W0 W d v) : Bor K W d v := by
  cases d with
  | lst xs => obtain ⟨a, vs, h1, h2, h3, h4, h5, _⟩ := n; exact .inr ⟨a, vs, h1, h2, h3, h4, h5⟩
  | dK xs => obtain ⟨a, vs, h1, h2, h3, h4, h5, _⟩ := n; exact .inr ⟨a, vs, h1, h2, h3, h4, h5⟩
  | dT xs => obtain ⟨a, vs, h1, h2, h3, h4, h5, _⟩ := n; exact .inr ⟨a, vs, h1, h2, h3, h4, h5⟩
  | _ => exact n.elim
theorem Bor.mono {d : D} {v : V} (l : Le W W') (b : Bor K W d v) : Bor K W' d v := by
  rcases b with b | b
  · exact .inl (b.mono l.toLeF)
  · cases d with
    | lst xs =>
      obtain ⟨a, vs, h1, h2, h3, h4, h5⟩ := b
      obtain ⟨b1, b2, b3⟩ := l.fo a _ h2 h4 h5
      exact .inr ⟨a, vs, h1, b1, h3.mono l.toLeF, b2, b3⟩
    | dK xs =>
      obtain ⟨a, vs, h1, h2, h3, h4, h5⟩ := b
      obtain ⟨b1, b2, b3⟩ := l.fo a _ h2 h4 h5
      exact .inr ⟨a, vs, h1, b1, h3.mono l.toLeF, b2, b3⟩
    | dT xs =>
      obtain ⟨a, vs, h1, h2, h3, h4, h5⟩ := b
      obtain ⟨b1, b2, b3⟩ := l.fo a _ h2 h4 h5
      exact .inr ⟨a, vs, h1, b1, h3.mono l.toLeF, b2, b3⟩
    | _ => exact b.elim
theorem Bor.int {i : Int} {v : V} (b : Bor K W (.int i) v) : v = .int i := b.elim (fun h => by rwa [Rep] at h) fun h => h.elim
theorem Bor.bl {i : Bool} {v : V} (b : Bor K W (.bl i) v) : v = .bl i := b.elim (fun h => by rwa [Rep] at h) fun h => h.elim
theorem Bor.str {i : Str} {v : V} (b : Bor K W (.str i) v) : v = .str i := b.elim (fun h => by rwa [Rep] at h) fun h => h.elim
theorem Bor.non {v : V} (b : Bor K W .non v) : v = .non := b.elim (fun h => by rwa [Rep] at h) fun h => h.elim
theorem Bor.tup {xs : List D} {v : V} (b : Bor K W (.tup xs) v) : ∃ a vs, v = .ref a ∧ SqT K W.H a vs ∧ Reps K W xs vs ∧ Rep K W (.tup xs) v := b.elim (fun h => by
  have h0 := h
  rw [Rep] at h
  obtain ⟨a, vs, e, t, r⟩ := h
  exact ⟨a, vs, e, t.sq, r, h0⟩) fun h => h.elim
theorem Bor.lst {xs : List D} {v : V} (b : Bor K W (.lst xs) v) : ∃ a vs, v = .ref a ∧ W.H a = some (.lst vs) ∧ Reps K W xs vs := b.elim (fun h => by
  rw [Rep] at h
  obtain ⟨a, vs, e, t, r⟩ := h
  exact ⟨a, vs, e, t.2, r⟩) fun ⟨a, vs, e, t, r, _⟩ => ⟨a, vs, e, t, r⟩
theorem Bor.frl {xs : List D} {v : V} (b : Bor K W (.frl xs) v) : ∃ a vs, v = .ref a ∧ SqL K W.H a vs ∧ Reps K W xs vs := b.elim (fun h => by
  rw [Rep] at h
  obtain ⟨a, vs, e, t, r⟩ := h
  exact ⟨a, vs, e, t.sq, r⟩) fun h => h.elim
theorem Bor.dK {xs : List (Key × D)} {v : V} (b : Bor K W (.dK xs) v) : ∃ a ws, v = .ref a ∧ Rd W.H a (.dK ws) ∧ RepK K W xs ws := b.elim (fun h => by
  rw [Rep] at h
  obtain ⟨a, vs, e, _, t, r⟩ := h
  exact ⟨a, vs, e, t, r⟩) fun ⟨a, vs, e, t, r, _⟩ => ⟨a, vs, e, .inl t, r⟩
theorem Bor.dT {xs : List (List Key × D)} {v : V} (b : Bor K W (.dT xs) v) : ∃ a ws, v = .ref a ∧ Rd W.H a (.dT ws) ∧ RepT K W xs ws := b.elim (fun h => by
  rw [Rep] at h
  obtain ⟨a, vs, e, _, t, r⟩ := h
  exact ⟨a, vs, e, t, r⟩) fun ⟨a, vs, e, t, r, _⟩ => ⟨a, vs, e, .inl t, r⟩
end
theorem rep_int {K : PySem.W.Frag} {W : Wd} {i : Int} : Rep K W (.int i) (.int i) := by rw [Rep]
theorem rep_bl {K : PySem.W.Frag} {W : Wd} {i : Bool} : Rep K W (.bl i) (.bl i) := by rw [Rep]
theorem rep_str {K : PySem.W.Frag} {W : Wd} {i : Str} : Rep K W (.str i) (.str i) := by rw [Rep]
theorem rep_non {K : PySem.W.Frag} {W : Wd} : Rep K W .non .non := by rw [Rep]

/-! ### contexts and judgements -/
structure Gx where
  P : Program
  w : World
  K : PySem.W.Frag
  mg : Str → Option Value
  base : Heap
structure Cn where
  g : Gx
  k : Nat
  N : List Str
  sc : Scope
  fn : Str → Bool
structure CxOk (C : Cn) (X : Cx) (E : WX) : Prop where
  prog : X.prog = C.g.P
  w : X.w = C.g.w
  K : X.K = C.g.K
  mg : X.mg = C.g.mg
  base : X.base = C.g.base
  names : X.N = C.N
  nd : X.N.Nodup
  scope : X.env.scope = C.sc
  calm : X.calm = true
  room : Room C.k X.A
  takes : Takes X E
  own : PassesOwn (model X.prog X.w) X.A X.env X.xe
  fnk : ∀ x, C.fn x = true → X.fn x = true
/-- the judgement: t is a reading of the syntax that J says, and f tells what it is worth -/
def DenG (C : Cn) {α β : Type} (J : Cx → (L2.St → Hp → (β → Hp → Prop) → Prop) → Prop) (Rel : Wd → Wd → α → β → Prop) (f : List Sl → HS → Res α) : Prop :=
  ∀ X E, CxOk C X E → ∃ t, J X t ∧ ∀ W0 W τ σ h (Q : β → Hp → Prop), Le W0 W → Frm C.g.K W0 W τ σ → RH C.g.K W h →
    okG C.g.K C.g.mg (Rel W) W (fun c dd H => E c dd σ H) Q (f τ h) → t σ W.H Q
abbrev DenE (C : Cn) (e : Expr) (f : DE) : Prop := DenG C (fun X t => PE X e t) (fun _ => Rep C.g.K) f
abbrev DenB (C : Cn) (e : Expr) (f : DE) : Prop := DenG C (fun X t => PE X e t) (fun _ => Bor C.g.K) f
abbrev DenN (C : Cn) (e : Expr) (f : DE) : Prop := DenG C (fun X t => PE X e t) (fun W => NewR C.g.K W) f
abbrev DenT (C : Cn) (e : Expr) (f : DT) : Prop := DenG C (fun X t => PT X e t) (fun _ _ a b => a = b) f
abbrev DenA (C : Cn) (es : List Expr) (f : DA) : Prop := DenG C (fun X t => PA X es t) (fun _ => Reps C.g.K) f
theorem okG.imp {K : PySem.W.Frag} {mg : Str → Option Value} {α β : Type} {Rel Rel' : Wd → α → β → Prop} {W : Wd} {E : XK} {Q : β → Hp → Prop} {r : Res α} (h : okG K mg Rel' W E Q r)
    (k : ∀ W' a b h', Le W W' → RH K W' h' → Rel W' a b → ∃ W2, W2.H = W'.H ∧ Le W W2 ∧ RH K W2 h' ∧ Rel' W2 a b) : okG K mg Rel W E Q r := by
  cases r with
  | ok a s =>
    intro W' b l rh q
    obtain ⟨W2, e, l2, rh2, q2⟩ := k W' a b s l rh q
    rw [← e]
    exact h W2 b l2 rh2 q2
  | exc x s => exact h
  | bad => exact h
section
variable {C : Cn} {e : Expr} {f : DE}
theorem DenE.b (h : DenE C e f) : DenB C e f := fun X E ok => by
  obtain ⟨t, ht, q⟩ := h X E ok
  exact ⟨t, ht, fun W0 W τ σ s Q l fr rh o => q W0 W τ σ s Q l fr rh (o.imp fun W' a b _ l' rh' z => ⟨W', rfl, l', rh', .inl z⟩)⟩
theorem DenN.toE (h : DenN C e f) : DenE C e f := fun X E ok => by
  obtain ⟨t, ht, q⟩ := h X E ok
  exact ⟨t, ht, fun W0 W τ σ s Q l fr rh o => q W0 W τ σ s Q l fr rh (o.imp fun W' a b _ l' rh' z => z.freeze l' rh')⟩
theorem DenN.b (h : DenN C e f) : DenB C e f := fun X E ok => by
  obtain ⟨t, ht, q⟩ := h X E ok
  exact ⟨t, ht, fun W0 W τ σ s Q l fr rh o => q W0 W τ σ s Q l fr rh (o.imp fun W' a b _ l' rh' z => ⟨W', rfl, l', rh', z.bor⟩)⟩
/-- a new list becomes a shared one -/
def sShare (r : Res D) : Res D := r.bind fun d h => match d with
  | .lst xs => .ok (.ref h.length) (h ++ [xs])
  | _ => .bad
theorem DenN.share (h : DenN C e f) : DenE C e (fun τ s => sShare (f τ s)) := fun X E ok => by
  obtain ⟨t, ht, q⟩ := h X E ok
  refine ⟨t, ht, fun W0 W τ σ s Q l fr rh o => q W0 W τ σ s Q l fr rh ?_⟩
  have o : okG C.g.K C.g.mg (Rep C.g.K) W (fun c dd H => E c dd σ H) Q (sShare (f τ s)) := o
  show okG C.g.K C.g.mg (NewR C.g.K W) W (fun c dd H => E c dd σ H) Q (f τ s)
  revert o
  generalize f τ s = r
  intro o
  cases r with
  | ok d s1 =>
    intro W1 v l1 rh1 n
    cases d with
    | lst xs =>
      obtain ⟨a, vs, rfl, e, r, nf, nr, old⟩ := n
      exact o (W1.share a) (.ref a) (le_share l1 old) (rh_share rh1 nr nf e r) (by
        rw [Rep]
        refine ⟨a, ?_, rfl⟩
        rw [← rh1.len]
        simp)
    | _ => exact (show False from o).elim
  | exc x s1 => exact o
  | bad => exact o

/-! ### names, constants -/
def getS (τ : List Sl) (i : Nat) (h : HS) : Res D := match τ[i]? with
  | some (.val d) => .ok d h
  | _ => .bad
def getB (τ : List Sl) (i : Nat) (h : HS) : Res D := match τ[i]? with
  | some (.val d) => .ok d h
  | some (.own xs) => .ok (.lst xs) h
  | some (.ownK xs) => .ok (.dK xs) h
  | some (.ownT xs) => .ok (.dT xs) h
  | _ => .bad
/-- the name x stands in slot i -/
def nmB (N : List Str) (sc : Scope) (x : Str) (i : Nat) : Bool :=
  decide (N[i]? = some x) && (match sc.names.lookup x with | some .local => true | some .cell => true | some .free => true | _ => false) && !(x == ("__debug__" : Str)) && !(x == ("__classdict__" : Str))
theorem nmB_ok {N : List Str} {sc : Scope} {x : Str} {i : Nat} (h : nmB N sc x i = true) : N[i]? = some x ∧ Vis sc x ∧ (x == ("__debug__" : Str)) = false ∧ (x == ("__classdict__" : Str)) = false := by
  unfold nmB at h
  simp only [Bool.and_eq_true, decide_eq_true_eq, Bool.not_eq_true'] at h
  obtain ⟨⟨⟨h1, h2⟩, h3⟩, h4⟩ := h
  refine ⟨h1, ?_, h3, h4⟩
  unfold Vis
  cases q : sc.names.lookup x with
  | none => rw [q] at h2; cases h2
  | some k => rw [q] at h2; cases k <;> first | exact .inl rfl | exact .inr (.inl rfl) | exact .inr (.inr rfl) | cases h2
/-- the name x is a global one -/
def glB (sc : Scope) (x : Str) : Bool := (match sc.names.lookup x with | some .globalImplicit => true | _ => false) && !(x == ("__debug__" : Str)) && !(x == ("__name__" : Str))
theorem glB_ok {C : Cn} {X : Cx} {E : WX} (ok : CxOk C X E) {x : Str} (h : glB C.sc x = true) : Gl X x ∧ (x == ("__debug__" : Str)) = false ∧ x ≠ "__name__" := by
  unfold glB at h
  simp only [Bool.and_eq_true, Bool.not_eq_true', beq_eq_false_iff_ne] at h
  obtain ⟨⟨h1, h2⟩, h3⟩ := h
  refine ⟨?_, by simpa using h2, h3⟩
  show X.env.scope.names.lookup x = _
  rw [ok.scope]
  cases q : C.sc.names.lookup x with
  | none => rw [q] at h1; cases h1
  | some k => rw [q] at h1; cases k <;> first | rfl | cases h1
section
variable {C : Cn} {x : Str} {pos : Pos} {i : Nat}
theorem okG.now {K : PySem.W.Frag} {mg : Str → Option Value} {α β : Type} {Rel : Wd → α → β → Prop} {W : Wd} {E : XK} {Q : β → Hp → Prop} {a : α} {b : β} {h : HS} (o : okG K mg Rel W E Q (.ok a h)) (rh : RH K W h) (r : Rel W a b) : Q b W.H := o W b (.refl W) rh r
theorem den_name (hn : nmB C.N C.sc x i = true) : DenE C (.Name x pos) (fun τ h => getS τ i h) := fun X E ok => by
  obtain ⟨h1, h2, h3, h4⟩ := nmB_ok hn
  refine ⟨_, pe_var (i := i) (by rw [ok.names]; exact h1) (by rw [ok.scope]; exact h2) h3 h4, fun W0 W τ σ h Q l fr rh o => ?_⟩
  have o : okG _ _ _ _ _ _ (getS τ i h) := o
  unfold getS at o
  cases q : τ[i]? with
  | none => rw [q] at o; exact o.elim
  | some s =>
    rw [q] at o
    cases s with
    | val d =>
      obtain ⟨v, e, r⟩ := fr.at_ i _ q
      exact ⟨v, e, o.now rh r⟩
    | _ => exact o.elim
theorem den_bname (hn : nmB C.N C.sc x i = true) : DenB C (.Name x pos) (fun τ h => getB τ i h) := fun X E ok => by
  obtain ⟨h1, h2, h3, h4⟩ := nmB_ok hn
  refine ⟨_, pe_var (i := i) (by rw [ok.names]; exact h1) (by rw [ok.scope]; exact h2) h3 h4, fun W0 W τ σ h Q l fr rh o => ?_⟩
  have o : okG _ _ _ _ _ _ (getB τ i h) := o
  unfold getB at o
  cases q : τ[i]? with
  | none => rw [q] at o; exact o.elim
  | some s =>
    rw [q] at o
    cases s with
    | val d =>
      obtain ⟨v, e, r⟩ := fr.at_ i _ q
      exact ⟨v, e, o.now rh (.inl r)⟩
    | own d =>
      obtain ⟨a, v, e, r, rs, w⟩ := fr.at_ i _ q
      exact ⟨_, e, o.now rh (.inr ⟨a, v, rfl, r, rs, w.nf, w.nr⟩)⟩
    | ownK d =>
      obtain ⟨a, v, e, r, rs, w⟩ := fr.at_ i _ q
      exact ⟨_, e, o.now rh (.inr ⟨a, v, rfl, r, rs, w.nf, w.nr⟩)⟩
    | ownT d =>
      obtain ⟨a, v, e, r, rs, w⟩ := fr.at_ i _ q
      exact ⟨_, e, o.now rh (.inr ⟨a, v, rfl, r, rs, w.nf, w.nr⟩)⟩
    | _ => exact o.elim
theorem den_int {n : Int} {j} : DenE C (.Constant (.int n) j pos) (fun _ h => .ok (.int n) h) := fun X E ok => ⟨_, pe_int, fun W0 W τ σ h Q l fr rh o => o.now rh rep_int⟩
theorem den_bl {n : Bool} {j} : DenE C (.Constant (.bool n) j pos) (fun _ h => .ok (.bl n) h) := fun X E ok => ⟨_, pe_bl, fun W0 W τ σ h Q l fr rh o => o.now rh rep_bl⟩
theorem den_str {n : Str} {j} : DenE C (.Constant (.str n) j pos) (fun _ h => .ok (.str n) h) := fun X E ok => ⟨_, pe_str, fun W0 W τ σ h Q l fr rh o => o.now rh rep_str⟩
theorem den_non {j} : DenE C (.Constant .none j pos) (fun _ h => .ok .non h) := fun X E ok => ⟨_, pe_non, fun W0 W τ σ h Q l fr rh o => o.now rh rep_non⟩
/-- the constants of the module -/
def conD (u : Value) : Option D := match u with
  | .none => some .non
  | .bool b => some (.bl b)
  | .int i _ => some (.int i)
  | .str s _ => some (.str s)
  | _ => none
theorem conD_ok {K : PySem.W.Frag} {W : Wd} {u : Value} {d : D} (h : conD u = some d) : ∃ v, RelV v u ∧ Rep K W d v := by
  cases u <;> simp only [conD, Option.some.injEq, reduceCtorEq] at h <;> subst h
  · exact ⟨.non, rfl, rep_non⟩
  · exact ⟨.bl _, rfl, rep_bl⟩
  · exact ⟨.int _, ⟨_, rfl⟩, rep_int⟩
  · exact ⟨.str _, ⟨_, rfl⟩, rep_str⟩
/-- a constant of the module -/
theorem den_con {u : Value} {d : D} (hg : glB C.sc x = true) (hm : C.g.mg x = some u) (hd : conD u = some d) : DenE C (.Name x pos) (fun _ h => .ok d h) := fun X E ok => by
  obtain ⟨g1, g2, g3⟩ := glB_ok ok hg
  obtain ⟨v, r, _⟩ := conD_ok (K := C.g.K) (W := ⟨fun _ => False, [], fun _ => none⟩) hd
  refine ⟨_, pe_glob (v := v) g1 (by rw [ok.mg]; exact hm) r g2, fun W0 W τ σ h Q l fr rh o => ?_⟩
  obtain ⟨v', r', p⟩ := conD_ok (K := C.g.K) (W := W) hd
  obtain rfl : v' = v := r'.inj r
  exact o.now rh p
end

/-! ### operators on two values -/
/-- g: what the operation f makes of two data -/
def OpD (C : Cn) (f : Value → Value → Sem Value) (g : D → D → Option D) : Prop :=
  ∀ X E, CxOk C X E → ∃ r, OpR X f r ∧ ∀ W h x y v u d (Q : VK), RH C.g.K W h → Bor C.g.K W x v → Bor C.g.K W y u → g x y = some d → (∀ W' b, Le W W' → RH C.g.K W' h → Rep C.g.K W' d b → Q b W'.H) → r v u W.H Q
theorem OpD.or {C : Cn} {f : Value → Value → Sem Value} {g g' : D → D → Option D} (h : OpD C f g) (h' : OpD C f g') : OpD C f (fun x y => (g x y).or (g' x y)) := fun X E ok => by
  obtain ⟨r, p, q⟩ := h X E ok
  obtain ⟨r', p', q'⟩ := h' X E ok
  refine ⟨_, p.or p', fun W s x y v u d Q rh b1 b2 e k => ?_⟩
  have e : (g x y).or (g' x y) = some d := e
  cases e1 : g x y with
  | some d' =>
    rw [e1] at e
    cases e
    exact .inl (q W s x y v u _ Q rh b1 b2 e1 k)
  | none =>
    rw [e1] at e
    exact .inr (q' W s x y v u d Q rh b1 b2 e k)
def res2 (g : D → D → Option D) (a b : DE) : DE := fun τ h => (a τ h).bind fun x h1 => (b τ h1).bind fun y h2 => toRes (g x y) h2
section
variable {C : Cn} {a b : Expr} {fa fb : DE} {pos : Pos}
theorem okG.bind2 {α β α' β' : Type} {K : PySem.W.Frag} {mg : Str → Option Value} {Rel : Wd → α → β → Prop} {Rel2 : Wd → α' → β' → Prop} {W : Wd} {E : XK} {Q : β → Hp → Prop} {Q2 : β' → Hp → Prop} {r : Res α} {g : α → HS → Res α'}
    (o : okG K mg Rel2 W E Q2 (r.bind g)) (k : ∀ x h1 W1 v, Le W W1 → RH K W1 h1 → Rel W1 x v → okG K mg Rel2 W1 E Q2 (g x h1) → Q v W1.H) : okG K mg Rel W E Q r := okG.bind o k
theorem toRes_some {α β : Type} {K : PySem.W.Frag} {mg : Str → Option Value} {Rel : Wd → α → β → Prop} {W : Wd} {E : XK} {Q : β → Hp → Prop} {r : Option α} {h : HS} (o : okG K mg Rel W E Q (toRes r h)) : ∃ d, r = some d ∧ ∀ W' b, Le W W' → RH K W' h → Rel W' d b → Q b W'.H := by
  cases r with
  | none => exact o.elim
  | some d => exact ⟨d, rfl, o⟩
theorem den_bin {op : Operator} {g : D → D → Option D} (ho : OpD C (binaryOp op) g) (ha : DenB C a fa) (hb : DenB C b fb) : DenE C (.BinOp a op b pos) (res2 g fa fb) := fun X E ok => by
  obtain ⟨r, hr, qr⟩ := ho X E ok
  obtain ⟨ta, pa, qa⟩ := ha X E ok
  obtain ⟨tb, pb, qb⟩ := hb X E ok
  refine ⟨_, pe_op hr pa pb, fun W0 W τ σ h Q l fr rh o => ?_⟩
  refine qa W0 W τ σ h _ l fr rh (okG.bind o fun x h1 W1 v l1 rh1 b1 o1 => ?_)
  refine qb W0 W1 τ σ h1 _ (l.trans l1) (fr.mono l1) rh1 (okG.bind o1 fun y h2 W2 u l2 rh2 b2 o2 => ?_)
  obtain ⟨d, e, k⟩ := toRes_some o2
  exact qr W2 h2 x y v u d Q rh2 (b1.mono l2) b2 e k
theorem den_cmp {op : CmpOp} {g : D → D → Option D} (ho : OpD C (compareOp op) g) (ha : DenB C a fa) (hb : DenB C b fb) (hm : behindInMarks op b = false) : DenE C (.Compare a [op] [b] pos) (res2 g fa fb) := fun X E ok => by
  obtain ⟨r, hr, qr⟩ := ho X E ok
  obtain ⟨ta, pa, qa⟩ := ha X E ok
  obtain ⟨tb, pb, qb⟩ := hb X E ok
  refine ⟨_, pe_cmpR hr pa pb hm, fun W0 W τ σ h Q l fr rh o => ?_⟩
  refine qa W0 W τ σ h _ l fr rh (okG.bind o fun x h1 W1 v l1 rh1 b1 o1 => ?_)
  refine qb W0 W1 τ σ h1 _ (l.trans l1) (fr.mono l1) rh1 (okG.bind o1 fun y h2 W2 u l2 rh2 b2 o2 => ?_)
  obtain ⟨d, e, k⟩ := toRes_some o2
  exact qr W2 h2 x y v u d Q rh2 (b1.mono l2) b2 e k
end
end
end Sw

/-! Sw, part C: operators on plain data. -/
namespace Sw
open PySem PySem.Spec PyProof.Rows L2

/-! ### ints -/
def intD (c : Int → Int → Bool) (g : Int → Int → D) : D → D → Option D
  | .int i, .int j => if c i j then some (g i j) else none
  | _, _ => none
def Dv : D → Option V
  | .non => some .non | .bl b => some (.bl b) | .int i => some (.int i) | .str s => some (.str s) | _ => none
theorem Dv_rep {K : PySem.W.Frag} {W : Wd} {d : D} {v : V} (h : Dv d = some v) : Rep K W d v := by
  cases d <;> simp only [Dv, Option.some.injEq, reduceCtorEq] at h <;> subst h <;> rw [Rep]
theorem opd_int {C : Cn} {f : Value → Value → Sem Value} {c : Int → Int → Bool} {g : Int → Int → D} {CC : Int → Int → Prop} {gv : Int → Int → V} (hr : ∀ X : Cx, OpR X f (rI CC gv)) (hc : ∀ i j, c i j = true → CC i j) (hg : ∀ i j, c i j = true → Dv (g i j) = some (gv i j)) : OpD C f (intD c g) := fun X E ok =>
  ⟨_, hr X, fun W h x y v u d Q rh b1 b2 e k => by
    cases x <;> first | (cases e; done) | skip
    cases y <;> first | (cases e; done) | skip
    rename_i i j
    simp only [intD] at e
    split at e
    · rename_i hc'
      cases e
      obtain rfl := b1.int
      obtain rfl := b2.int
      exact ⟨i, j, rfl, rfl, hc _ _ hc', k W _ (.refl W) rh (Dv_rep (hg _ _ hc'))⟩
    · cases e⟩
theorem opd_int0 {C : Cn} {f : Value → Value → Sem Value} {g : Int → Int → D} {gv : Int → Int → V} (hr : ∀ X : Cx, OpR X f (rI0 gv)) (hg : ∀ i j, Dv (g i j) = some (gv i j)) : OpD C f (intD (fun _ _ => true) g) := fun X E ok =>
  ⟨_, hr X, fun W h x y v u d Q rh b1 b2 e k => by
    cases x <;> first | (cases e; done) | skip
    cases y <;> first | (cases e; done) | skip
    rename_i i j
    simp only [intD, if_true] at e
    cases e
    obtain rfl := b1.int
    obtain rfl := b2.int
    exact ⟨i, j, rfl, rfl, k W _ (.refl W) rh (Dv_rep (hg _ _))⟩⟩
def mulOk (i j : Int) : Bool := (decide (-(2 ^ 64) < i) && decide (i < 2 ^ 64)) || ((decide (-(2 ^ 64) < j) && decide (j < 2 ^ 64)) || decide (i.natAbs.log2 + j.natAbs.log2 < 1000000))
theorem mulOk_ok {i j : Int} (h : mulOk i j = true) : IntMulOk i j := by
  unfold mulOk at h
  simp only [Bool.or_eq_true, Bool.and_eq_true, decide_eq_true_eq] at h
  rcases h with h | h | h
  · exact CMul.ok (.inl h)
  · exact CMul.ok (.inr h)
  · exact CMulW.ok h
theorem op_mulA {X : Cx} : OpR X (binaryOp .Mult) (rI (fun i j => mulOk i j = true) fun i j => .int (i * j)) := opI fun _ _ _ _ _ _ _ hc q => mul_int q (mulOk_ok hc)
theorem iop_mulA {X : Cx} : OpR X (inplaceOp .Mult) (rI (fun i j => mulOk i j = true) fun i j => .int (i * j)) := opI fun _ _ _ _ _ _ _ hc q => imul_int q (mulOk_ok hc)
def divOk (_ j : Int) : Bool := decide (j ≠ 0) && decide (j.natAbs.log2 < 9000)
theorem op_fdivA {X : Cx} : OpR X (binaryOp .FloorDiv) (rI (fun i j => divOk i j = true) fun i j => .int (i.fdiv j)) := opI fun i j _ _ _ _ _ hc q => by
  unfold divOk at hc
  simp only [Bool.and_eq_true, decide_eq_true_eq] at hc
  exact floordiv_int hc.1 q (.inl (PyProof.noPylong_of_log2 hc.2))
def modOk (_ j : Int) : Bool := decide (j ≠ 0)
def powOk (i j : Int) : Bool := decide (0 ≤ j) && (decide (j ≤ 1000000) && decide (i.natAbs < 2 ^ 64))
section
variable {C : Cn}
def iAdd : D → D → Option D := intD (fun _ _ => true) fun i j => .int (i + j)
def iSub : D → D → Option D := intD (fun _ _ => true) fun i j => .int (i - j)
def iMul : D → D → Option D := intD mulOk fun i j => .int (i * j)
def iDiv : D → D → Option D := intD divOk fun i j => .int (i.fdiv j)
def iMod : D → D → Option D := intD modOk fun i j => .int (i.fmod j)
def iPow : D → D → Option D := intD powOk fun i j => .int (i ^ j.toNat)
def iLt : D → D → Option D := intD (fun _ _ => true) fun i j => .bl (decide (i < j))
def iLe : D → D → Option D := intD (fun _ _ => true) fun i j => .bl (decide (i ≤ j))
def iGt : D → D → Option D := intD (fun _ _ => true) fun i j => .bl (decide (j < i))
def iGe : D → D → Option D := intD (fun _ _ => true) fun i j => .bl (decide (j ≤ i))
theorem o_add : OpD C (binaryOp .Add) iAdd := opd_int0 (fun _ => op_add) fun _ _ => rfl
theorem o_sub : OpD C (binaryOp .Sub) iSub := opd_int0 (fun _ => op_sub) fun _ _ => rfl
theorem o_mul : OpD C (binaryOp .Mult) iMul := opd_int (fun _ => op_mulA) (fun _ _ h => h) fun _ _ _ => rfl
theorem o_div : OpD C (binaryOp .FloorDiv) iDiv := opd_int (fun _ => op_fdivA) (fun _ _ h => h) fun _ _ _ => rfl
theorem o_mod : OpD C (binaryOp .Mod) iMod := opd_int (fun _ => op_modN) (fun _ _ h => of_decide_eq_true h) fun _ _ _ => rfl
theorem o_pow : OpD C (binaryOp .Pow) iPow := opd_int (fun _ => op_pow) (fun _ _ h => by
  unfold powOk at h
  simp only [Bool.and_eq_true, decide_eq_true_eq] at h
  exact h) fun _ _ _ => rfl
theorem o_lt : OpD C (compareOp .Lt) iLt := opd_int0 (fun _ => op_lt) fun _ _ => rfl
theorem o_le : OpD C (compareOp .LtE) iLe := opd_int0 (fun _ => op_le) fun _ _ => rfl
theorem o_gt : OpD C (compareOp .Gt) iGt := opd_int0 (fun _ => op_gt) fun _ _ => rfl
theorem o_ge : OpD C (compareOp .GtE) iGe := opd_int0 (fun _ => op_ge) fun _ _ => rfl
theorem io_add : OpD C (inplaceOp .Add) iAdd := opd_int0 (fun _ => iop_add) fun _ _ => rfl
theorem io_sub : OpD C (inplaceOp .Sub) iSub := opd_int0 (fun _ => iop_sub) fun _ _ => rfl
theorem io_mul : OpD C (inplaceOp .Mult) iMul := opd_int (fun _ => iop_mulA) (fun _ _ h => h) fun _ _ _ => rfl
end

/-! ### sequences -/
def fits (n : Nat) : Bool := decide (n ≤ sizeLine)
def catL : D → D → Option D
  | .lst xs, .lst ys => if fits (xs.length + ys.length) then some (.lst (xs ++ ys)) else none
  | _, _ => none
def catT : D → D → Option D
  | .tup xs, .tup ys => if fits (xs.length + ys.length) then some (.tup (xs ++ ys)) else none
  | _, _ => none
def catS : D → D → Option D
  | .str xs, .str ys => if fits (xs.length + ys.length) then some (.str (xs ++ ys)) else none
  | _, _ => none
/-- two values, a new list out of them -/
def OpN (C : Cn) (f : Value → Value → Sem Value) (g : D → D → Option D) : Prop :=
  ∀ X E, CxOk C X E → ∃ r, OpR X f r ∧ ∀ W0 W h x y v u d (Q : VK), Le W0 W → RH C.g.K W h → Bor C.g.K W x v → Bor C.g.K W y u → g x y = some d → (∀ W' b, Le W W' → RH C.g.K W' h → NewR C.g.K W0 W' d b → Q b W'.H) → r v u W.H Q
theorem NewR.of {K : PySem.W.Frag} {W0 W W' : Wd} {h : HS} {d : D} {v : V} (l : Le W0 W) (rh : RH K W h) (n : NewR K W W' d v) : NewR K W0 W' d v := by
  cases d with
  | lst xs => obtain ⟨a, vs, h1, h2, h3, h4, h5, h6⟩ := n; exact ⟨a, vs, h1, h2, h3, h4, h5, l.old rh h6⟩
  | dK xs => obtain ⟨a, vs, h1, h2, h3, h4, h5, h6⟩ := n; exact ⟨a, vs, h1, h2, h3, h4, h5, l.old rh h6⟩
  | dT xs => obtain ⟨a, vs, h1, h2, h3, h4, h5, h6⟩ := n; exact ⟨a, vs, h1, h2, h3, h4, h5, l.old rh h6⟩
  | _ => exact n.elim
theorem OpN.d {C : Cn} {f : Value → Value → Sem Value} {g : D → D → Option D} (h : OpN C f g) : OpD C f g := fun X E ok => by
  obtain ⟨r, hr, q⟩ := h X E ok
  refine ⟨r, hr, fun W s x y v u d Q rh b1 b2 e k => q W W s x y v u d Q (.refl W) rh b1 b2 e fun W' b l rh' n => ?_⟩
  obtain ⟨W2, e2, l2, rh2, r2⟩ := n.freeze l rh'
  rw [← e2]
  exact k W2 b l2 rh2 r2
section
variable {C : Cn}
theorem on_catL : OpN C (binaryOp .Add) catL := fun X E ok =>
  ⟨_, op_cat, fun W0 W h x y v u d Q l0 rh b1 b2 e k => by
    cases x <;> first | (cases e; done) | skip
    cases y <;> first | (cases e; done) | skip
    rename_i xs ys
    simp only [catL] at e
    split at e
    · rename_i hz
      cases e
      obtain ⟨a, vs, rfl, e1, r1⟩ := b1.lst
      obtain ⟨b, us, rfl, e2, r2⟩ := b2.lst
      refine ⟨a, b, vs, us, rfl, rfl, e1, e2, by rw [← r1.length, ← r2.length]; exact of_decide_eq_true hz, fun p np => ?_⟩
      obtain ⟨l, rh', n⟩ := new_lst np rh (r1.append r2)
      exact k _ _ l rh' (n.of l0 rh)
    · cases e⟩
theorem o_catL : OpD C (binaryOp .Add) catL := on_catL.d
theorem o_catT : OpD C (binaryOp .Add) catT := fun X E ok =>
  ⟨_, op_catA, fun W h x y v u d Q rh b1 b2 e k => by
    cases x <;> first | (cases e; done) | skip
    cases y <;> first | (cases e; done) | skip
    rename_i xs ys
    simp only [catT] at e
    split at e
    · rename_i hz
      cases e
      obtain ⟨a, vs, rfl, e1, r1, q1⟩ := b1.tup
      obtain ⟨b, us, rfl, e2, r2, q2⟩ := b2.tup
      rw [← ok.K] at e1 e2
      refine ⟨a, b, vs, us, rfl, rfl, e1, e2, by rw [← r1.length, ← r2.length]; exact of_decide_eq_true hz, fun z => ?_, fun _ z => ?_, fun _ _ p np => ?_⟩
      · subst z
        have : xs = [] := List.eq_nil_of_length_eq_zero (by rw [r1.length]; rfl)
        subst this
        exact k W _ (.refl W) rh q2
      · subst z
        have : ys = [] := List.eq_nil_of_length_eq_zero (by rw [r2.length]; rfl)
        subst this
        rw [List.append_nil] at k
        exact k W _ (.refl W) rh q1
      · obtain ⟨W2, eH, l, rh', n⟩ := new_tup np rh (r1.append r2)
        rw [← eH]
        exact k _ _ l rh' n
    · cases e⟩
theorem o_catS : OpD C (binaryOp .Add) catS := fun X E ok =>
  ⟨_, op_add_str, fun W h x y v u d Q rh b1 b2 e k => by
    cases x <;> first | (cases e; done) | skip
    cases y <;> first | (cases e; done) | skip
    rename_i xs ys
    simp only [catS] at e
    split at e
    · rename_i hz
      cases e
      obtain rfl := b1.str
      obtain rfl := b2.str
      exact ⟨xs, ys, rfl, rfl, of_decide_eq_true hz, k W _ (.refl W) rh rep_str⟩
    · cases e⟩
def repL : D → D → Option D
  | .lst xs, .int k => if decide (k < 2 ^ 62) && (decide (-(2 ^ 62) < k) && fits (xs.length * k.toNat)) then some (.lst (List.replicate k.toNat xs).flatten) else none
  | _, _ => none
def repT : D → D → Option D
  | .tup xs, .int k => if decide (xs.length ≠ 0) && (decide (2 ≤ k) && (decide (k ≤ 1000) && decide (xs.length ≤ 1000))) then some (.tup (List.replicate k.toNat xs).flatten) else none
  | _, _ => none
theorem Reps.rep {K : PySem.W.Frag} {W : Wd} {ds : List D} {vs : List V} (h : Reps K W ds vs) : ∀ n : Nat, Reps K W (List.replicate n ds).flatten (List.replicate n vs).flatten
  | 0 => by simp [Reps]
  | n + 1 => by
    rw [List.replicate_succ, List.replicate_succ, List.flatten_cons, List.flatten_cons]
    exact h.append (Reps.rep h n)
theorem on_repL : OpN C (binaryOp .Mult) repL := fun X E ok =>
  ⟨_, op_rep, fun W0 W h x y v u d Q l0 rh b1 b2 e k => by
    cases x <;> first | (cases e; done) | skip
    cases y <;> first | (cases e; done) | skip
    rename_i xs n
    simp only [repL] at e
    split at e
    · rename_i hz
      cases e
      simp only [Bool.and_eq_true, decide_eq_true_eq] at hz
      obtain ⟨h1, h2, h3⟩ := hz
      obtain ⟨a, vs, rfl, e1, r1⟩ := b1.lst
      obtain rfl := b2.int
      refine ⟨a, n, vs, rfl, rfl, e1, by omega, by omega, by rw [← r1.length]; exact of_decide_eq_true h3, fun p np => ?_⟩
      obtain ⟨l, rh', nn⟩ := new_lst np rh (r1.rep n.toNat)
      exact k _ _ l rh' (nn.of l0 rh)
    · cases e⟩
theorem o_repL : OpD C (binaryOp .Mult) repL := on_repL.d
theorem o_repT : OpD C (binaryOp .Mult) repT := fun X E ok =>
  ⟨_, op_repT, fun W h x y v u d Q rh b1 b2 e k => by
    cases x <;> first | (cases e; done) | skip
    cases y <;> first | (cases e; done) | skip
    rename_i xs n
    simp only [repT] at e
    split at e
    · rename_i hz
      cases e
      simp only [Bool.and_eq_true, decide_eq_true_eq] at hz
      obtain ⟨h0, h1, h2, h3⟩ := hz
      obtain ⟨a, vs, rfl, e1, r1, q1⟩ := b1.tup
      obtain rfl := b2.int
      rw [← ok.K] at e1
      refine ⟨a, n, vs, rfl, rfl, e1, fun z => h0 (by rw [r1.length, z]; rfl), h1, h2, by rw [← r1.length]; exact h3, fun p np => ?_⟩
      obtain ⟨W2, eH, l, rh', nn⟩ := new_tup np rh (r1.rep n.toNat)
      rw [← eH]
      exact k _ _ l rh' nn
    · cases e⟩
/-- + and * of anything -/
def addD (x y : D) : Option D := match x, y with
  | .int i, .int j => some (.int (i + j))
  | .tup _, _ => catT x y
  | .lst _, _ => catL x y
  | .str _, _ => catS x y
  | _, _ => none
def mulD (x y : D) : Option D := match x with
  | .int _ => iMul x y
  | .tup _ => repT x y
  | .lst _ => repL x y
  | _ => none
theorem OpD.weaken {f : Value → Value → Sem Value} {g g' : D → D → Option D} (h : OpD C f g) (w : ∀ x y d, g' x y = some d → g x y = some d) : OpD C f g' := fun X E ok => by
  obtain ⟨r, hr, q⟩ := h X E ok
  exact ⟨r, hr, fun W s x y v u d Q rh b1 b2 e k => q W s x y v u d Q rh b1 b2 (w _ _ _ e) k⟩
theorem o_addD : OpD C (binaryOp .Add) addD := (((o_add.or o_catT).or o_catL).or o_catS).weaken fun x y d e => by
  cases x <;> cases y <;> simp_all [addD, iAdd, intD, catT, catL, catS]
theorem o_mulD : OpD C (binaryOp .Mult) mulD := ((o_mul.or o_repT).or o_repL).weaken fun x y d e => by
  cases x <;> cases y <;> simp_all [mulD, iMul, intD, repT, repL]
end

/-! ### == of data -/
mutual
def D.py : D → Option PyData
  | .non => some .none
  | .bl b => some (.bool b)
  | .int i => some (.int i)
  | .str s => some (.str s)
  | .tup xs => (pyAll xs).map .tuple
  | .lst xs => (pyAll xs).map .list
  | .frl xs => (pyAll xs).map .list
  | .dK _ => none
  | .dT _ => none
  | .ref _ => none
def pyAll : List D → Option (List PyData)
  | [] => some []
  | x :: xs => match D.py x with
    | some d => match pyAll xs with
      | some r => some (d :: r)
      | none => none
    | none => none
end
section
variable {K : PySem.W.Frag} {W : Wd}
mutual
theorem Rep.dp : ∀ (d : D) (v : V) (p : PyData), Rep K W d v → d.py = some p → Dp K W.H v p
  | .non, v, p, h, e => by
    rw [Rep] at h; rw [D.py] at e; cases e; subst h; exact .non
  | .bl b, v, p, h, e => by
    rw [Rep] at h; rw [D.py] at e; cases e; subst h; exact .bl b
  | .int b, v, p, h, e => by
    rw [Rep] at h; rw [D.py] at e; cases e; subst h; exact .int b
  | .str b, v, p, h, e => by
    rw [Rep] at h; rw [D.py] at e; cases e; subst h; exact .str b
  | .tup xs, v, p, h, e => by
    rw [Rep] at h; rw [D.py] at e
    obtain ⟨a, vs, rfl, t, r⟩ := h
    cases q : pyAll xs with
    | none => rw [q] at e; cases e
    | some ps => rw [q] at e; cases e; exact .tup t.sq (Reps.dp xs vs ps r q)
  | .lst xs, v, p, h, e => by
    rw [Rep] at h; rw [D.py] at e
    obtain ⟨a, vs, rfl, t, r⟩ := h
    cases q : pyAll xs with
    | none => rw [q] at e; cases e
    | some ps => rw [q] at e; cases e; exact .lst t.sq (Reps.dp xs vs ps r q)
  | .frl xs, v, p, h, e => by
    rw [Rep] at h; rw [D.py] at e
    obtain ⟨a, vs, rfl, t, r⟩ := h
    cases q : pyAll xs with
    | none => rw [q] at e; cases e
    | some ps => rw [q] at e; cases e; exact .lst t.sq (Reps.dp xs vs ps r q)
  | .dK _, v, p, h, e => by rw [D.py] at e; cases e
  | .dT _, v, p, h, e => by rw [D.py] at e; cases e
  | .ref _, v, p, h, e => by rw [D.py] at e; cases e
theorem Reps.dp : ∀ (ds : List D) (vs : List V) (ps : List PyData), Reps K W ds vs → pyAll ds = some ps → DpAll K W.H vs ps
  | [], vs, ps, h, e => by
    rw [Reps] at h; rw [pyAll] at e; cases e; subst h; exact .nil
  | x :: xs, vs, ps, h, e => by
    rw [Reps] at h; rw [pyAll] at e
    obtain ⟨v, r, rfl, h1, h2⟩ := h
    cases q : D.py x with
    | none => rw [q] at e; cases e
    | some d =>
      rw [q] at e
      cases q2 : pyAll xs with
      | none => rw [q2] at e; cases e
      | some ds =>
        rw [q2] at e
        cases e
        exact .cons (Rep.dp x v d h1 q) (Reps.dp xs r ds h2 q2)
end
theorem Bor.dp {d : D} {v : V} {p : PyData} (b : Bor K W d v) (e : d.py = some p) : Dp K W.H v p := by
  rcases b with b | b
  · exact Rep.dp d v p b e
  · cases d with
    | lst xs =>
      obtain ⟨a, vs, rfl, h, r, _, _⟩ := b
      rw [D.py] at e
      cases q : pyAll xs with
      | none => rw [q] at e; cases e
      | some ps => rw [q] at e; cases e; exact .lst (.of h) (Reps.dp xs vs ps r q)
    | dK _ => rw [D.py] at e; cases e
    | dT _ => rw [D.py] at e; cases e
    | _ => exact b.elim
end
/-- whether two data are equal; none: not told -/
def eqB (x y : D) : Option Bool := match x.py, y.py with
  | some a, some b => if SeqAt.shaped a && SeqAt.shaped b then some (PyData.eqv a b) else none
  | _, _ => none
theorem eqB_some {x y : D} {b : Bool} (h : eqB x y = some b) : ∃ p q, x.py = some p ∧ y.py = some q ∧ SeqAt.shaped p = true ∧ SeqAt.shaped q = true ∧ b = PyData.eqv p q := by
  unfold eqB at h
  split at h
  · rename_i p q e1 e2
    split at h
    · rename_i hs
      rw [Bool.and_eq_true] at hs
      cases h
      exact ⟨p, q, e1, e2, hs.1, hs.2, rfl⟩
    · cases h
  · cases h
def eqD (x y : D) : Option D := (eqB x y).map D.bl
def neD (x y : D) : Option D := (eqB x y).map fun b => D.bl (!b)
section
variable {C : Cn}
theorem o_eq : OpD C (compareOp .Eq) eqD := fun X E ok =>
  ⟨_, op_eqD ok.room.units, fun W h x y v u d Q rh b1 b2 e k => by
    unfold eqD at e
    obtain ⟨b, e1, rfl⟩ := Option.map_eq_some_iff.mp e
    obtain ⟨p, q, h1, h2, s1, s2, rfl⟩ := eqB_some e1
    exact ⟨p, q, by rw [ok.K]; exact b1.dp h1, by rw [ok.K]; exact b2.dp h2, s1, s2, k W _ (.refl W) rh rep_bl⟩⟩
theorem o_ne : OpD C (compareOp .NotEq) neD := fun X E ok =>
  ⟨_, op_neD ok.room.units, fun W h x y v u d Q rh b1 b2 e k => by
    unfold neD at e
    obtain ⟨b, e1, rfl⟩ := Option.map_eq_some_iff.mp e
    obtain ⟨p, q, h1, h2, s1, s2, rfl⟩ := eqB_some e1
    exact ⟨p, q, by rw [ok.K]; exact b1.dp h1, by rw [ok.K]; exact b2.dp h2, s1, s2, k W _ (.refl W) rh rep_bl⟩⟩
def D.isNon : D → Bool
  | .non => true
  | _ => false
/-- x is None -/
def isNonD (x y : D) : Option D := match y with
  | .non => some (.bl x.isNon)
  | _ => none
def notNonD (x y : D) : Option D := match y with
  | .non => some (.bl (!x.isNon))
  | _ => none
theorem rep_non_iff {K : PySem.W.Frag} {W : Wd} {x : D} {v : V} (b : Bor K W x v) : decide (v = .non) = x.isNon := by
  cases x with
  | non => rw [b.non]; rfl
  | bl i => rw [b.bl]; rfl
  | int i => rw [b.int]; rfl
  | str i => rw [b.str]; rfl
  | tup xs => obtain ⟨a, vs, rfl, _⟩ := b.tup; rfl
  | lst xs => obtain ⟨a, vs, rfl, _⟩ := b.lst; rfl
  | frl xs => obtain ⟨a, vs, rfl, _⟩ := b.frl; rfl
  | dK xs => obtain ⟨a, vs, rfl, _⟩ := b.dK; rfl
  | dT xs => obtain ⟨a, vs, rfl, _⟩ := b.dT; rfl
  | ref n =>
    rcases b with b | b
    · rw [Rep] at b
      obtain ⟨a, _, rfl⟩ := b
      rfl
    · exact b.elim
theorem o_isNon : OpD C (compareOp .Is) isNonD := fun X E ok =>
  ⟨_, op_isN, fun W h x y v u d Q rh b1 b2 e k => by
    cases y <;> first | (cases e; done) | skip
    simp only [isNonD] at e
    cases e
    refine ⟨b2.non, ?_⟩
    rw [rep_non_iff b1]
    exact k W _ (.refl W) rh rep_bl⟩
theorem o_notNon : OpD C (compareOp .IsNot) notNonD := fun X E ok =>
  ⟨_, op_notN, fun W h x y v u d Q rh b1 b2 e k => by
    cases y <;> first | (cases e; done) | skip
    simp only [notNonD] at e
    cases e
    refine ⟨b2.non, ?_⟩
    rw [rep_non_iff b1]
    exact k W _ (.refl W) rh rep_bl⟩
/-- x in y: lists and tuples of data -/
def inB (x y : D) : Option Bool := match x.py with
  | none => none
  | some d => match y with
    | .lst ys => match pyAll ys with
      | none => none
      | some ds => if SeqAt.shaped d && SeqAt.shaped (.list ds) then some (ds.any fun z => PyData.eqv z d) else none
    | .frl ys => match pyAll ys with
      | none => none
      | some ds => if SeqAt.shaped d && SeqAt.shaped (.list ds) then some (ds.any fun z => PyData.eqv z d) else none
    | _ => none
theorem inB_some {x y : D} {b : Bool} (h : inB x y = some b) : ∃ d ds, x.py = some d ∧ y.py = some (.list ds) ∧ SeqAt.shaped d = true ∧ SeqAt.shaped (.list ds) = true ∧ b = ds.any fun z => PyData.eqv z d := by
  unfold inB at h
  cases e : x.py with
  | none => rw [e] at h; cases h
  | some d =>
    rw [e] at h
    cases y with
    | lst ys =>
      simp only at h
      cases e2 : pyAll ys with
      | none => rw [e2] at h; cases h
      | some ds =>
        rw [e2] at h
        simp only at h
        split at h
        · rename_i hs
          rw [Bool.and_eq_true] at hs
          cases h
          exact ⟨d, ds, rfl, by rw [D.py, e2]; rfl, hs.1, hs.2, rfl⟩
        · cases h
    | frl ys =>
      simp only at h
      cases e2 : pyAll ys with
      | none => rw [e2] at h; cases h
      | some ds =>
        rw [e2] at h
        simp only at h
        split at h
        · rename_i hs
          rw [Bool.and_eq_true] at hs
          cases h
          exact ⟨d, ds, rfl, by rw [D.py, e2]; rfl, hs.1, hs.2, rfl⟩
        · cases h
    | _ => cases h
def inD (x y : D) : Option D := (inB x y).map D.bl
def notInD (x y : D) : Option D := (inB x y).map fun b => D.bl (!b)
theorem _root_.L2.Room.u65_ {k : Nat} {A : Around} (r : Room k A) : A.units + 65 < cLine := by have := r.un; omega
theorem o_in : OpD C (compareOp .In) inD := fun X E ok =>
  ⟨_, op_inD (ok.room.u65_), fun W h x y v u d Q rh b1 b2 e k => by
    unfold inD at e
    obtain ⟨b, e1, rfl⟩ := Option.map_eq_some_iff.mp e
    obtain ⟨p, q, h1, h2, s1, s2, rfl⟩ := inB_some e1
    exact ⟨p, q, by rw [ok.K]; exact b1.dp h1, by rw [ok.K]; exact b2.dp h2, s1, s2, k W _ (.refl W) rh rep_bl⟩⟩
theorem o_notIn : OpD C (compareOp .NotIn) notInD := fun X E ok =>
  ⟨_, op_notInD (ok.room.u65_), fun W h x y v u d Q rh b1 b2 e k => by
    unfold notInD at e
    obtain ⟨b, e1, rfl⟩ := Option.map_eq_some_iff.mp e
    obtain ⟨p, q, h1, h2, s1, s2, rfl⟩ := inB_some e1
    exact ⟨p, q, by rw [ok.K]; exact b1.dp h1, by rw [ok.K]; exact b2.dp h2, s1, s2, k W _ (.refl W) rh rep_bl⟩⟩
/-- x in a tuple of flat data, by their values -/
def flatD : D → Option V := Dv
def flatAll : List D → Option (List V)
  | [] => some []
  | x :: xs => match Dv x, flatAll xs with
    | some v, some r => some (v :: r)
    | _, _ => none
theorem flatAll_ok {K : PySem.W.Frag} {W : Wd} : ∀ {ds : List D} {us vs : List V}, flatAll ds = some us → Reps K W ds vs → vs = us ∧ us.all flatV = true
  | [], us, vs, e, h => by rw [Reps] at h; rw [flatAll] at e; cases e; exact ⟨h, rfl⟩
  | x :: xs, us, vs, e, h => by
    rw [Reps] at h
    obtain ⟨v, r, rfl, h1, h2⟩ := h
    rw [flatAll] at e
    cases e1 : Dv x with
    | none => rw [e1] at e; cases e
    | some w =>
      rw [e1] at e
      cases e2 : flatAll xs with
      | none => rw [e2] at e; cases e
      | some ws =>
        rw [e2] at e
        cases e
        obtain ⟨rfl, ha⟩ := flatAll_ok e2 h2
        have hx : v = w ∧ flatV w = true := by
          cases x <;> simp only [Dv, Option.some.injEq, reduceCtorEq] at e1 <;> subst e1 <;> rw [Rep] at h1 <;> exact ⟨h1, rfl⟩
        obtain ⟨rfl, hf⟩ := hx
        exact ⟨rfl, by rw [List.all_cons, hf, ha]; rfl⟩
def inTB (x y : D) : Option Bool := match Dv x with
  | none => none
  | some v => match y with
    | .tup ys => (flatAll ys).map fun us => inV v us
    | _ => none
def inTD (x y : D) : Option D := (inTB x y).map D.bl
def notInTD (x y : D) : Option D := (inTB x y).map fun b => D.bl (!b)
theorem inTB_ok {K : PySem.W.Frag} {W : Wd} {x y : D} {v u : V} {b : Bool} (e : inTB x y = some b) (b1 : Bor K W x v) (b2 : Bor K W y u) : ∃ p us, u = .ref p ∧ SqT K W.H p us ∧ flatV v = true ∧ us.all flatV = true ∧ b = inV v us := by
  unfold inTB at e
  cases e1 : Dv x with
  | none => rw [e1] at e; cases e
  | some w =>
    rw [e1] at e
    have hx : v = w ∧ flatV w = true := by
      cases x <;> simp only [Dv, Option.some.injEq, reduceCtorEq] at e1 <;> subst e1
      · exact ⟨b1.non, rfl⟩
      · exact ⟨b1.bl, rfl⟩
      · exact ⟨b1.int, rfl⟩
      · exact ⟨b1.str, rfl⟩
    obtain ⟨rfl, hf⟩ := hx
    cases y with
    | tup ys =>
      simp only at e
      obtain ⟨us, e2, rfl⟩ := Option.map_eq_some_iff.mp e
      obtain ⟨a, vs, rfl, t, r, _⟩ := b2.tup
      obtain ⟨rfl, ha⟩ := flatAll_ok e2 r
      exact ⟨a, vs, rfl, t, hf, ha, rfl⟩
    | _ => cases e
theorem o_inT : OpD C (compareOp .In) inTD := fun X E ok =>
  ⟨_, op_in_seq, fun W h x y v u d Q rh b1 b2 e k => by
    obtain ⟨b, e1, rfl⟩ := Option.map_eq_some_iff.mp e
    obtain ⟨p, us, rfl, t, f1, f2, rfl⟩ := inTB_ok e1 b1 b2
    exact ⟨p, us, rfl, .inr (by rw [ok.K]; exact t), f1, f2, k W _ (.refl W) rh rep_bl⟩⟩
theorem o_notInT : OpD C (compareOp .NotIn) notInTD := fun X E ok =>
  ⟨_, op_notIn_seq, fun W h x y v u d Q rh b1 b2 e k => by
    obtain ⟨b, e1, rfl⟩ := Option.map_eq_some_iff.mp e
    obtain ⟨p, us, rfl, t, f1, f2, rfl⟩ := inTB_ok e1 b1 b2
    exact ⟨p, us, rfl, .inr (by rw [ok.K]; exact t), f1, f2, k W _ (.refl W) rh rep_bl⟩⟩
end
end Sw

/-! Sw, part D: tests, arguments, displays, subscripts, calls. -/
namespace Sw
open PySem PySem.Spec PyProof.Rows L2

/-! ### tests -/
def tAndR (a b : DT) : DT := fun τ h => (a τ h).bind fun c h1 => if c then b τ h1 else .ok false h1
def tOrR (a b : DT) : DT := fun τ h => (a τ h).bind fun c h1 => if c then .ok true h1 else b τ h1
def tNotR (a : DT) : DT := fun τ h => (a τ h).bind fun c h1 => .ok (!c) h1
def bAndR (a b : DE) : DE := fun τ h => (a τ h).bind fun d h1 => match d with | .bl c => if c then b τ h1 else .ok (.bl false) h1 | _ => .bad
def bOrR (a b : DE) : DE := fun τ h => (a τ h).bind fun d h1 => match d with | .bl c => if c then .ok (.bl true) h1 else b τ h1 | _ => .bad
def bNotR (a : DE) : DE := fun τ h => (a τ h).bind fun d h1 => match d with | .bl c => .ok (.bl (!c)) h1 | _ => .bad
def ifR (t : DT) (a b : DE) : DE := fun τ h => (t τ h).bind fun c h1 => if c then a τ h1 else b τ h1
/-- a value's truth -/
def D.tru : D → Option Bool
  | .non => some false
  | .bl b => some b
  | .int i => some (i != 0)
  | .str s => if fits s.length then some ((s.length : Int) != 0) else none
  | .tup xs => some (!xs.isEmpty)
  | .lst xs => some (!xs.isEmpty)
  | .frl xs => some (!xs.isEmpty)
  | _ => none
def truR (a : DE) : DT := fun τ h => (a τ h).bind fun d h1 => toRes d.tru h1
def cmpT (g : D → D → Option D) (a b : DE) : DT := fun τ h => (res2 g a b τ h).bind fun d h1 => match d with | .bl c => .ok c h1 | _ => .bad
abbrev DenW (C : Cn) (e : Expr) (f : DT) : Prop := DenG C (fun X t => PW X e t) (fun _ _ a b => a = b) f
section
variable {C : Cn} {a b c : Expr} {fa fb fc : DE} {ta tb : DT} {pos : Pos} {rest : List Expr}
theorem isEmpty_reps {K : PySem.W.Frag} {W : Wd} {ds : List D} {vs : List V} (r : Reps K W ds vs) : ds.isEmpty = vs.isEmpty := by
  have := r.length
  cases ds <;> cases vs <;> simp_all
theorem tru_rep {K : PySem.W.Frag} {W : Wd} {d : D} {v : V} {k : Bool} (b : Bor K W d v) (e : d.tru = some k) : TruV K v W.H k := by
  cases d with
  | non => rw [b.non]; cases e; rfl
  | bl i => rw [b.bl]; cases e; rfl
  | int i => rw [b.int]; cases e; rfl
  | str i =>
    rw [b.str]
    simp only [D.tru] at e
    split at e
    · rename_i hz
      cases e
      exact ⟨of_decide_eq_true hz, rfl⟩
    · cases e
  | tup xs =>
    obtain ⟨p, vs, rfl, t, r, _⟩ := b.tup
    cases e
    exact .inr (.inl ⟨vs, t, by rw [isEmpty_reps r]⟩)
  | lst xs =>
    obtain ⟨p, vs, rfl, t, r⟩ := b.lst
    cases e
    exact .inl ⟨vs, .of t, by rw [isEmpty_reps r]⟩
  | frl xs =>
    obtain ⟨p, vs, rfl, t, r⟩ := b.frl
    cases e
    exact .inl ⟨vs, t, by rw [isEmpty_reps r]⟩
  | _ => cases e
/-- any expression but a comparison, and, or, not as a test: he by fun _ _ => rfl -/
theorem den_tru (ha : DenB C a fa) (he : ∀ env whole, isTrue a env whole = (do let v ← whole; standAt a.pos; holding [v] (truthy v))) : DenT C a (truR fa) := fun X E ok => by
  obtain ⟨t, p, q⟩ := ha X E ok
  refine ⟨_, pt_truth p (he _), fun W0 W τ σ h Q l fr rh o => ?_⟩
  refine q W0 W τ σ h _ l fr rh (okG.bind o fun x h1 W1 v l1 rh1 b1 o1 => ?_)
  obtain ⟨k, e, kk⟩ := toRes_some o1
  exact ⟨k, by rw [ok.K]; exact tru_rep b1 e, kk W1 k (.refl W1) rh1 rfl⟩
theorem den_tcmp {op : CmpOp} {g : D → D → Option D} (ho : OpD C (compareOp op) g) (ha : DenB C a fa) (hb : DenB C b fb) (hm : behindInMarks op b = false) : DenT C (.Compare a [op] [b] pos) (cmpT g fa fb) := fun X E ok => by
  obtain ⟨r, hr, qr⟩ := ho X E ok
  obtain ⟨ta, pa, qa⟩ := ha X E ok
  obtain ⟨tb, pb, qb⟩ := hb X E ok
  refine ⟨_, pt_cmpR hr pa pb hm, fun W0 W τ σ h Q l fr rh o => ?_⟩
  let Q2 : VK := fun v H => ∃ k, v = .bl k ∧ Q k H
  have o2 : okG C.g.K C.g.mg (Rep C.g.K) W (fun c dd H => E c dd σ H) Q2 (res2 g fa fb τ h) := okG.bind o fun x h1 W1 v l1 rh1 b1 o1 => by
    cases x with
    | bl k => rw [Rep] at b1; exact ⟨k, b1, okG.now o1 rh1 rfl⟩
    | _ => exact (show False from o1).elim
  refine qa W0 W τ σ h _ l fr rh (okG.bind o2 fun x h1 W1 v l1 rh1 b1 o1 => ?_)
  refine qb W0 W1 τ σ h1 _ (l.trans l1) (fr.mono l1) rh1 (okG.bind o1 fun y h2 W2 u l2 rh2 b2 o2 => ?_)
  obtain ⟨d, e, k⟩ := toRes_some o2
  exact qr W2 h2 x y v u d Q2 rh2 (b1.mono l2) b2 e k
theorem den_tnot (ha : DenT C a ta) : DenT C (.UnaryOp .Not a pos) (tNotR ta) := fun X E ok => by
  obtain ⟨t, p, q⟩ := ha X E ok
  refine ⟨_, pt_not p, fun W0 W τ σ h Q l fr rh o => ?_⟩
  refine q W0 W τ σ h _ l fr rh (okG.bind o fun x h1 W1 v l1 rh1 b1 o1 => ?_)
  subst b1
  exact o1.now rh1 rfl
theorem den_wand1 (ha : DenT C a ta) : DenW C (.BoolOp .And [a] pos) ta := fun X E ok => by
  obtain ⟨t, p, q⟩ := ha X E ok
  exact ⟨_, pw_and1 p, q⟩
theorem den_wor1 (ha : DenT C a ta) : DenW C (.BoolOp .Or [a] pos) ta := fun X E ok => by
  obtain ⟨t, p, q⟩ := ha X E ok
  exact ⟨_, pw_or1 p, q⟩
theorem den_wand (ha : DenT C a ta) (hb : DenW C (.BoolOp .And (b :: rest) pos) tb) : DenW C (.BoolOp .And (a :: b :: rest) pos) (tAndR ta tb) := fun X E ok => by
  obtain ⟨t, p, q⟩ := ha X E ok
  obtain ⟨t', p', q'⟩ := hb X E ok
  refine ⟨_, pw_and p p', fun W0 W τ σ h Q l fr rh o => ?_⟩
  refine q W0 W τ σ h _ l fr rh (okG.bind o fun x h1 W1 v l1 rh1 b1 o1 => ?_)
  subst b1
  cases x with
  | true => exact iteT (q' W0 W1 τ σ h1 Q (l.trans l1) (fr.mono l1) rh1 o1)
  | false => exact iteF (o1.now rh1 rfl)
theorem den_wor (ha : DenT C a ta) (hb : DenW C (.BoolOp .Or (b :: rest) pos) tb) : DenW C (.BoolOp .Or (a :: b :: rest) pos) (tOrR ta tb) := fun X E ok => by
  obtain ⟨t, p, q⟩ := ha X E ok
  obtain ⟨t', p', q'⟩ := hb X E ok
  refine ⟨_, pw_or p p', fun W0 W τ σ h Q l fr rh o => ?_⟩
  refine q W0 W τ σ h _ l fr rh (okG.bind o fun x h1 W1 v l1 rh1 b1 o1 => ?_)
  subst b1
  cases x with
  | true => exact iteT (o1.now rh1 rfl)
  | false => exact iteF (q' W0 W1 τ σ h1 Q (l.trans l1) (fr.mono l1) rh1 o1)
theorem den_tw (h : DenW C a ta) : DenT C a ta := fun X E ok => by
  obtain ⟨t, p, q⟩ := h X E ok
  exact ⟨_, p.pt, q⟩
/-- as values, all of them True or False -/
theorem den_band1 {op : BoolOp} (ha : DenE C a fa) : DenE C (.BoolOp op [a] pos) fa := fun X E ok => by
  obtain ⟨t, p, q⟩ := ha X E ok
  exact ⟨_, pe_one p, q⟩
theorem den_band (ha : DenE C a fa) (hb : DenE C (.BoolOp .And (b :: rest) pos) fb) : DenE C (.BoolOp .And (a :: b :: rest) pos) (bAndR fa fb) := fun X E ok => by
  obtain ⟨t, p, q⟩ := ha X E ok
  obtain ⟨t', p', q'⟩ := hb X E ok
  refine ⟨_, pe_and p p', fun W0 W τ σ h Q l fr rh o => ?_⟩
  refine q W0 W τ σ h _ l fr rh (okG.bind o fun x h1 W1 v l1 rh1 b1 o1 => ?_)
  cases x with
  | bl x =>
    rw [Rep] at b1
    subst b1
    cases x with
    | true => exact ⟨_, rfl, iteT (q' W0 W1 τ σ h1 Q (l.trans l1) (fr.mono l1) rh1 o1)⟩
    | false => exact ⟨_, rfl, iteF (okG.now o1 rh1 rep_bl)⟩
  | _ => exact (show False from o1).elim
theorem den_bor (ha : DenE C a fa) (hb : DenE C (.BoolOp .Or (b :: rest) pos) fb) : DenE C (.BoolOp .Or (a :: b :: rest) pos) (bOrR fa fb) := fun X E ok => by
  obtain ⟨t, p, q⟩ := ha X E ok
  obtain ⟨t', p', q'⟩ := hb X E ok
  refine ⟨_, pe_or p p', fun W0 W τ σ h Q l fr rh o => ?_⟩
  refine q W0 W τ σ h _ l fr rh (okG.bind o fun x h1 W1 v l1 rh1 b1 o1 => ?_)
  cases x with
  | bl x =>
    rw [Rep] at b1
    subst b1
    cases x with
    | true => exact ⟨_, rfl, iteT (okG.now o1 rh1 rep_bl)⟩
    | false => exact ⟨_, rfl, iteF (q' W0 W1 τ σ h1 Q (l.trans l1) (fr.mono l1) rh1 o1)⟩
  | _ => exact (show False from o1).elim
theorem den_bnot (ha : DenE C a fa) : DenE C (.UnaryOp .Not a pos) (bNotR fa) := fun X E ok => by
  obtain ⟨t, p, q⟩ := ha X E ok
  refine ⟨_, pe_not p, fun W0 W τ σ h Q l fr rh o => ?_⟩
  refine q W0 W τ σ h _ l fr rh (okG.bind o fun x h1 W1 v l1 rh1 b1 o1 => ?_)
  cases x with
  | bl x =>
    rw [Rep] at b1
    subst b1
    exact ⟨x, rfl, okG.now o1 rh1 rep_bl⟩
  | _ => exact (show False from o1).elim
theorem den_if (hc : DenT C c ta) (ha : DenE C a fa) (hb : DenE C b fb) : DenE C (.IfExp c a b pos) (ifR ta fa fb) := fun X E ok => by
  obtain ⟨t, p, q⟩ := hc X E ok
  obtain ⟨t1, p1, q1⟩ := ha X E ok
  obtain ⟨t2, p2, q2⟩ := hb X E ok
  refine ⟨_, pe_ifExp p p1 p2, fun W0 W τ σ h Q l fr rh o => ?_⟩
  refine q W0 W τ σ h _ l fr rh (okG.bind o fun x h1 W1 v l1 rh1 b1 o1 => ?_)
  subst b1
  cases x with
  | true => exact iteT (q1 W0 W1 τ σ h1 Q (l.trans l1) (fr.mono l1) rh1 o1)
  | false => exact iteF (q2 W0 W1 τ σ h1 Q (l.trans l1) (fr.mono l1) rh1 o1)
/-- -a -/
def negD : D → Option D
  | .int i => some (.int (-i))
  | _ => none
def res1 (g : D → Option D) (a : DE) : DE := fun τ h => (a τ h).bind fun x h1 => toRes (g x) h1
theorem den_neg (ha : DenB C a fa) : DenE C (.UnaryOp .USub a pos) (res1 negD fa) := fun X E ok => by
  obtain ⟨t, p, q⟩ := ha X E ok
  refine ⟨_, pe_un un_neg p, fun W0 W τ σ h Q l fr rh o => ?_⟩
  refine q W0 W τ σ h _ l fr rh (okG.bind o fun x h1 W1 v l1 rh1 b1 o1 => ?_)
  obtain ⟨d, e, k⟩ := toRes_some o1
  cases x with
  | int i => cases e; rw [b1.int]; exact ⟨i, rfl, k W1 _ (.refl W1) rh1 rep_int⟩
  | _ => cases e
/-- a op b op' c, ints -/
def chR (g g' : D → D → Option D) (a b c : DE) : DE := fun τ h => (a τ h).bind fun x h1 => (b τ h1).bind fun y h2 => match g x y with
  | some (.bl k) => if k then (c τ h2).bind fun z h3 => toRes (g' y z) h3 else .ok (.bl false) h2
  | _ => .bad
def chT (g g' : D → D → Option D) (a b c : DE) : DT := fun τ h => (chR g g' a b c τ h).bind fun d h1 => match d with | .bl k => .ok k h1 | _ => .bad
theorem den_chain {op op' : CmpOp} {g g' : D → D → Option D} (ho : OpD C (compareOp op) g) (ho' : OpD C (compareOp op') g') (ha : DenB C a fa) (hb : DenB C b fb) (hc : DenB C c fc) (hm : lastMarks [op, op'] [b, c] = false) :
    DenE C (.Compare a [op, op'] [b, c] pos) (chR g g' fa fb fc) := fun X E ok => by
  obtain ⟨r, hr, qr⟩ := ho X E ok
  obtain ⟨r', hr', qr'⟩ := ho' X E ok
  obtain ⟨ta, pa, qa⟩ := ha X E ok
  obtain ⟨tb, pb, qb⟩ := hb X E ok
  obtain ⟨tc, pc, qc⟩ := hc X E ok
  refine ⟨_, pe_chain hr hr' pa pb pc hm, fun W0 W τ σ h Q l fr rh o => ?_⟩
  refine qa W0 W τ σ h _ l fr rh (okG.bind o fun x h1 W1 v l1 rh1 b1 o1 => ?_)
  refine qb W0 W1 τ σ h1 _ (l.trans l1) (fr.mono l1) rh1 (okG.bind o1 fun y h2 W2 u l2 rh2 b2 o2 => ?_)
  cases e : g x y with
  | none => rw [e] at o2; exact (show False from o2).elim
  | some d =>
    rw [e] at o2
    cases d with
    | bl k =>
      refine qr W2 h2 x y v u _ _ rh2 (b1.mono l2) b2 e fun W3 z l3 rh3 r3 => ?_
      rw [Rep] at r3
      refine ⟨k, r3, ?_⟩
      have o3 := okG.mono l3 o2
      cases k with
      | false => exact iteF (okG.now o3 rh3 rep_bl)
      | true =>
        refine iteT (qc W0 W3 τ σ h2 _ ((l.trans l1).trans (l2.trans l3)) ((fr.mono l1).mono (l2.trans l3)) rh3 (okG.bind o3 fun z h4 W4 w l4 rh4 b4 o4 => ?_))
        obtain ⟨d, e', k⟩ := toRes_some o4
        exact qr' W4 h4 y z u w d Q rh4 (b2.mono (l3.trans l4)) b4 e' k
    | _ => exact (show False from o2).elim
theorem den_tchain {op op' : CmpOp} {g g' : D → D → Option D} (ho : OpD C (compareOp op) g) (ho' : OpD C (compareOp op') g') (ha : DenB C a fa) (hb : DenB C b fb) (hc : DenB C c fc) (hm : lastMarks [op, op'] [b, c] = false) :
    DenT C (.Compare a [op, op'] [b, c] pos) (chT g g' fa fb fc) := fun X E ok => by
  obtain ⟨r, hr, qr⟩ := ho X E ok
  obtain ⟨r', hr', qr'⟩ := ho' X E ok
  obtain ⟨ta, pa, qa⟩ := ha X E ok
  obtain ⟨tb, pb, qb⟩ := hb X E ok
  obtain ⟨tc, pc, qc⟩ := hc X E ok
  obtain ⟨te, pe, qe⟩ := den_chain (pos := pos) ho ho' ha hb hc hm X E ok
  refine ⟨_, pt_chain hr hr' pa pb pc hm, fun W0 W τ σ h Q l fr rh o => ?_⟩
  let Q2 : VK := fun v H => ∃ k, v = .bl k ∧ Q k H
  have o2 : okG C.g.K C.g.mg (Rep C.g.K) W (fun c dd H => E c dd σ H) Q2 (chR g g' fa fb fc τ h) := okG.bind o fun x h1 W1 v l1 rh1 b1 o1 => by
    cases x with
    | bl k => rw [Rep] at b1; exact ⟨k, b1, okG.now o1 rh1 rfl⟩
    | _ => exact (show False from o1).elim
  refine qa W0 W τ σ h _ l fr rh (okG.bind o2 fun x h1 W1 v l1 rh1 b1 o1 => ?_)
  refine qb W0 W1 τ σ h1 _ (l.trans l1) (fr.mono l1) rh1 (okG.bind o1 fun y h2 W2 u l2 rh2 b2 o2 => ?_)
  cases e : g x y with
  | none => rw [e] at o2; exact (show False from o2).elim
  | some d =>
    rw [e] at o2
    cases d with
    | bl k =>
      refine qr W2 h2 x y v u _ _ rh2 (b1.mono l2) b2 e fun W3 z l3 rh3 r3 => ?_
      rw [Rep] at r3
      refine ⟨k, r3, ?_⟩
      have o3 := okG.mono l3 o2
      cases k with
      | false => exact iteF (okG.now o3 rh3 rep_bl)
      | true =>
        refine iteT (qc W0 W3 τ σ h2 _ ((l.trans l1).trans (l2.trans l3)) ((fr.mono l1).mono (l2.trans l3)) rh3 (okG.bind o3 fun z h4 W4 w l4 rh4 b4 o4 => ?_))
        obtain ⟨d, e', k⟩ := toRes_some o4
        exact qr' W4 h4 y z u w d Q2 rh4 (b2.mono (l3.trans l4)) b4 e' k
    | _ => exact (show False from o2).elim
end

/-! ### argument lists, displays -/
def consR (a : DE) (r : DA) : DA := fun τ h => (a τ h).bind fun x h1 => (r τ h1).bind fun xs h2 => .ok (x :: xs) h2
def starR (a : DE) (r : DA) : DA := fun τ h => (a τ h).bind fun x h1 => match x with
  | .tup ys => (r τ h1).bind fun xs h2 => .ok (ys ++ xs) h2
  | .lst ys => (r τ h1).bind fun xs h2 => .ok (ys ++ xs) h2
  | _ => .bad
def tupR (a : DA) : DE := fun τ h => (a τ h).bind fun xs h1 => if fits xs.length then .ok (.tup xs) h1 else .bad
def lstR (a : DA) : DE := fun τ h => (a τ h).bind fun xs h1 => if fits xs.length then .ok (.lst xs) h1 else .bad
section
variable {C : Cn} {e : Expr} {es : List Expr} {fe : DE} {fs : DA} {pos : Pos}
theorem den_anil : DenA C [] (fun _ h => .ok [] h) := fun X E ok => ⟨_, pa_nil, fun W0 W τ σ h Q l fr rh o => okG.now o rh .nil⟩
theorem den_acons (he : DenE C e fe) (hr : DenA C es fs) (hs : ∀ env, starEach (e :: es) env = (false, eval e env) :: starEach es env) : DenA C (e :: es) (consR fe fs) := fun X E ok => by
  obtain ⟨t, p, q⟩ := he X E ok
  obtain ⟨t', p', q'⟩ := hr X E ok
  refine ⟨_, pa_cons p p' (hs _), fun W0 W τ σ h Q l fr rh o => ?_⟩
  refine q W0 W τ σ h _ l fr rh (okG.bind o fun x h1 W1 v l1 rh1 b1 o1 => ?_)
  refine q' W0 W1 τ σ h1 _ (l.trans l1) (fr.mono l1) rh1 (okG.bind o1 fun y h2 W2 u l2 rh2 b2 o2 => ?_)
  exact okG.now o2 rh2 (.cons (b1.mono l2.toLeF) b2)
theorem den_astar {p : Pos} (he : DenB C e fe) (hr : DenA C es fs) (hs : ∀ env, starEach (.Starred e p :: es) env = (true, eval e env) :: starEach es env) : DenA C (.Starred e p :: es) (starR fe fs) := fun X E ok => by
  obtain ⟨t, p, q⟩ := he X E ok
  obtain ⟨t', p', q'⟩ := hr X E ok
  refine ⟨_, StX.pa_star p p' (hs _), fun W0 W τ σ h Q l fr rh o => ?_⟩
  refine q W0 W τ σ h _ l fr rh (okG.bind o fun x h1 W1 v l1 rh1 b1 o1 => ?_)
  cases x with
  | tup xs =>
    obtain ⟨a, vs, rfl, sq, r, _⟩ := b1.tup
    refine ⟨a, vs, rfl, .inl (by rw [ok.K]; exact sq), ?_⟩
    refine q' W0 W1 τ σ h1 _ (l.trans l1) (fr.mono l1) rh1 (okG.bind o1 fun y h2 W2 u l2 rh2 b2 o2 => ?_)
    exact okG.now o2 rh2 ((r.mono l2.toLeF).append b2)
  | lst xs =>
    obtain ⟨a, vs, rfl, sq, r⟩ := b1.lst
    refine ⟨a, vs, rfl, .inr (by rw [ok.K]; exact .of sq), ?_⟩
    refine q' W0 W1 τ σ h1 _ (l.trans l1) (fr.mono l1) rh1 (okG.bind o1 fun y h2 W2 u l2 rh2 b2 o2 => ?_)
    exact okG.now o2 rh2 ((r.mono l2.toLeF).append b2)
  | _ => exact (show False from o1).elim
theorem den_tup {k} (h : DenA C es fs) : DenE C (.Tuple es k pos) (tupR fs) := fun X E ok => by
  obtain ⟨t, p, q⟩ := h X E ok
  refine ⟨_, pe_tup p, fun W0 W τ σ h Q l fr rh o => ?_⟩
  refine q W0 W τ σ h _ l fr rh (okG.bind o fun x h1 W1 v l1 rh1 b1 o1 => ?_)
  by_cases hz : fits x.length = true
  · rw [if_pos hz] at o1
    refine ⟨by rw [← b1.length]; exact of_decide_eq_true hz, fun p np => ?_⟩
    obtain ⟨W2, eH, l2, rh2, n⟩ := new_tup np rh1 b1
    rw [← eH]
    exact o1 W2 _ l2 rh2 n
  · rw [if_neg hz] at o1; exact o1.elim
theorem den_lst (h : DenA C es fs) : DenN C (.List es pos) (lstR fs) := fun X E ok => by
  obtain ⟨t, p, q⟩ := h X E ok
  refine ⟨_, pe_lst p, fun W0 W τ σ h Q l fr rh o => ?_⟩
  refine q W0 W τ σ h _ l fr rh (okG.bind o fun x h1 W1 v l1 rh1 b1 o1 => ?_)
  by_cases hz : fits x.length = true
  · rw [if_pos hz] at o1
    refine ⟨by rw [← b1.length]; exact of_decide_eq_true hz, fun p np => ?_⟩
    obtain ⟨l2, rh2, n⟩ := new_lst np rh1 b1
    exact o1 _ _ l2 rh2 (n.of l1 rh1)
  · rw [if_neg hz] at o1; exact o1.elim
end
end Sw

/-! Sw, part E: subscripts, slices, calls of defs and built-ins. -/
namespace Sw
open PySem PySem.Spec PyProof.Rows L2

/-! ### subscripts -/
def atD (x i : D) : Option D := match x, i with
  | .tup xs, .int k => atI xs k
  | .lst xs, .int k => atI xs k
  | .frl xs, .int k => atI xs k
  | .str s, .int k => if fits s.length then (atI s.cps.toList k).map fun c => .str ⟨#[c]⟩ else none
  | _, _ => none
theorem atI_reps {K : PySem.W.Frag} {W : Wd} {ds : List D} {vs : List V} {i : Int} {d : D} (r : Reps K W ds vs) (e : atI ds i = some d) : ∃ v, atI vs i = some v ∧ Rep K W d v := by
  unfold atI at e ⊢
  rw [← r.length]
  cases q : ixN ds.length i with
  | none => rw [q] at e; cases e
  | some j => rw [q] at e; exact r.get e
section
variable {C : Cn} {a b : Expr} {fa fb : DE} {pos : Pos}
theorem den_ix (ha : DenB C a fa) (hb : DenB C b fb) (hs : PlainIx b) : DenE C (.Subscript a b pos) (res2 atD fa fb) := fun X E ok => by
  obtain ⟨t, p, q⟩ := ha X E ok
  obtain ⟨t', p', q'⟩ := hb X E ok
  refine ⟨_, pe_ix ix_seq p p' hs, fun W0 W τ σ h Q l fr rh o => ?_⟩
  refine q W0 W τ σ h _ l fr rh (okG.bind o fun x h1 W1 v l1 rh1 b1 o1 => ?_)
  refine q' W0 W1 τ σ h1 _ (l.trans l1) (fr.mono l1) rh1 (okG.bind o1 fun y h2 W2 u l2 rh2 b2 o2 => ?_)
  obtain ⟨d, e, k⟩ := toRes_some o2
  have b1 := b1.mono l2
  cases y with
  | int i =>
    rw [b2.int]
    cases x with
    | tup xs =>
      obtain ⟨a, vs, rfl, sq, r, _⟩ := b1.tup
      obtain ⟨v, ev, rv⟩ := atI_reps r e
      exact .inr (.inl ⟨a, vs, i, v, rfl, rfl, by rw [ok.K]; exact sq, ev, k W2 _ (.refl _) rh2 rv⟩)
    | lst xs =>
      obtain ⟨a, vs, rfl, sq, r⟩ := b1.lst
      obtain ⟨v, ev, rv⟩ := atI_reps r e
      exact .inl ⟨a, vs, i, v, rfl, rfl, by rw [ok.K]; exact .of sq, ev, k W2 _ (.refl _) rh2 rv⟩
    | frl xs =>
      obtain ⟨a, vs, rfl, sq, r⟩ := b1.frl
      obtain ⟨v, ev, rv⟩ := atI_reps r e
      exact .inl ⟨a, vs, i, v, rfl, rfl, by rw [ok.K]; exact sq, ev, k W2 _ (.refl _) rh2 rv⟩
    | str z =>
      simp only [atD] at e
      split at e
      · rename_i hz
        obtain ⟨c, ec, rfl⟩ := Option.map_eq_some_iff.mp e
        rw [b1.str]
        exact .inr (.inr ⟨z, i, c, rfl, rfl, of_decide_eq_true hz, ec, k W2 _ (.refl _) rh2 rep_str⟩)
      · cases e
    | _ => cases e
  | _ => cases x <;> cases e
/-- an item of a shared list -/
def atRef (x i : D) (h : HS) : Res D := match x, i with
  | .ref n, .int k => match h[n]? with
    | some xs => toRes (atI xs k) h
    | none => .bad
  | _, _ => .bad
def refIxR (a b : DE) : DE := fun τ h => (a τ h).bind fun x h1 => (b τ h1).bind fun y h2 => atRef x y h2
theorem den_refix (ha : DenE C a fa) (hb : DenE C b fb) (hs : PlainIx b) : DenE C (.Subscript a b pos) (refIxR fa fb) := fun X E ok => by
  obtain ⟨t, p, q⟩ := ha X E ok
  obtain ⟨t', p', q'⟩ := hb X E ok
  refine ⟨_, pe_ix ix_list p p' hs, fun W0 W τ σ h Q l fr rh o => ?_⟩
  refine q W0 W τ σ h _ l fr rh (okG.bind o fun x h1 W1 v l1 rh1 b1 o1 => ?_)
  refine q' W0 W1 τ σ h1 _ (l.trans l1) (fr.mono l1) rh1 (okG.bind o1 fun y h2 W2 u l2 rh2 b2 o2 => ?_)
  have b1 := b1.mono l2.toLeF
  cases x with
  | ref n =>
    cases y with
    | int i =>
      rw [Rep] at b1
      rw [Rep] at b2
      subst b2
      obtain ⟨a, ea, rfl⟩ := b1
      have o2 : okG C.g.K C.g.mg (Rep C.g.K) W2 (fun c dd H => E c dd σ H) Q (match h2[n]? with | some xs => toRes (atI xs i) h2 | none => .bad) := o2
      cases eh : h2[n]? with
      | none => rw [eh] at o2; exact o2.elim
      | some xs =>
        rw [eh] at o2
        obtain ⟨d, e, k⟩ := toRes_some o2
        obtain ⟨vs, ev, r⟩ := rh2.at_ n xs a eh ea
        obtain ⟨v, ev2, rv⟩ := atI_reps r e
        exact ⟨a, vs, i, v, rfl, rfl, .of ev, ev2, k W2 _ (.refl _) rh2 rv⟩
    | _ => exact (show False from o2).elim
  | _ => exact (show False from o2).elim
end

/-! ### slices: a part is a number or left out -/
abbrev DP := List Sl → HS → Res (Option Int)
def DenO (C : Cn) (e : Option Expr) (f : DP) : Prop := DenG C (fun X t => PO X e t) (fun _ _ a b => a = b) f
def cutD {α : Type} (xs : List α) (lo hi : Option Int) : List α := (xs.drop (HT.sIx xs.length 0 lo)).take (HT.sIx xs.length xs.length hi - HT.sIx xs.length 0 lo)
def sliceD (x : D) (lo hi : Option Int) : Option D := match x with
  | .tup xs => some (.tup (cutD xs lo hi))
  | .lst xs => some (.lst (cutD xs lo hi))
  | _ => none
def sliceR (a : DE) (lo hi : DP) : DE := fun τ h => (a τ h).bind fun x h1 => (lo τ h1).bind fun i h2 => (hi τ h2).bind fun j h3 => toRes (sliceD x i j) h3
theorem cut_reps {K : PySem.W.Frag} {W : Wd} {ds : List D} {vs : List V} (r : Reps K W ds vs) (lo hi : Option Int) : Reps K W (cutD ds lo hi) (cutV vs lo hi) := by
  unfold cutD cutV
  rw [r.length]
  exact (r.drop _).take _
section
variable {C : Cn} {a e : Expr} {fa fe : DE} {pos p2 : Pos} {lo hi : Option Expr} {fl fh : DP}
theorem den_pnone : DenO C none (fun _ h => .ok none h) := fun X E ok => ⟨_, po_none, fun W0 W τ σ h Q l fr rh o => okG.now o rh rfl⟩
theorem den_psome (he : DenB C e fe) : DenO C (some e) (fun τ h => (fe τ h).bind fun d h1 => match d with | .int i => .ok (some i) h1 | _ => .bad) := fun X E ok => by
  obtain ⟨t, p, q⟩ := he X E ok
  refine ⟨_, po_some p, fun W0 W τ σ h Q l fr rh o => ?_⟩
  refine q W0 W τ σ h _ l fr rh (okG.bind o fun x h1 W1 v l1 rh1 b1 o1 => ?_)
  cases x with
  | int i => exact ⟨i, b1.int, okG.now o1 rh1 rfl⟩
  | _ => exact (show False from o1).elim
theorem den_slT (ha : DenB C a fa) (hl : DenO C lo fl) (hh : DenO C hi fh) : DenE C (.Subscript a (.Slice lo hi none p2) pos) (sliceR fa fl fh) := fun X E ok => by
  obtain ⟨t, p, q⟩ := ha X E ok
  obtain ⟨t1, p1, q1⟩ := hl X E ok
  obtain ⟨t2, p2, q2⟩ := hh X E ok
  refine ⟨_, pe_slice (L2.SlR.or sl_list sl_tupA) p p1 p2, fun W0 W τ σ h Q l fr rh o => ?_⟩
  refine q W0 W τ σ h _ l fr rh (okG.bind o fun x h1 W1 v l1 rh1 b1 o1 => ?_)
  refine q1 W0 W1 τ σ h1 _ (l.trans l1) (fr.mono l1) rh1 (okG.bind o1 fun i h2 W2 i' l2 rh2 e2 o2 => ?_)
  subst e2
  refine q2 W0 W2 τ σ h2 _ ((l.trans l1).trans l2) ((fr.mono l1).mono l2) rh2 (okG.bind o2 fun j h3 W3 j' l3 rh3 e3 o3 => ?_)
  subst e3
  obtain ⟨d, e, k⟩ := toRes_some o3
  have b1 := b1.mono (l2.trans l3)
  cases x with
  | tup xs =>
    cases e
    obtain ⟨a, vs, rfl, sq, r, rr⟩ := b1.tup
    refine .inr ⟨a, vs, rfl, by rw [ok.K]; exact sq, fun hw => ?_, fun hw p np => ?_⟩
    · rw [← r.length] at hw
      have : cutD xs i j = xs := by unfold cutD; rw [hw.1, hw.2]; simp
      rw [this] at k
      exact k W3 _ (.refl _) rh3 rr
    · obtain ⟨W4, eH, l4, rh4, n⟩ := new_tup np rh3 (cut_reps r i j)
      rw [← eH]
      exact k _ _ l4 rh4 n
  | lst xs =>
    cases e
    obtain ⟨a, vs, rfl, sq, r⟩ := b1.lst
    refine .inl ⟨a, vs, rfl, by rw [ok.K]; exact .of sq, fun p np => ?_⟩
    obtain ⟨l4, rh4, n⟩ := new_lst np rh3 (cut_reps r i j)
    obtain ⟨W5, eH, l5, rh5, r5⟩ := n.freeze l4 rh4
    have eH' : W5.H = upd W3.H p (.lst (cutV vs i j)) := eH
    rw [← eH']
    exact k _ _ l5 rh5 r5
  | _ => cases e
end

/-! ### calls of defs -/
abbrev DF := List D → HS → Res D
def spOf (g : Gx) (n : Nat) (φ : DF) : Sp := fun vs H Q E => vs.length = n ∧ ∃ W ds h, W.H = H ∧ RH g.K W h ∧ Reps g.K W ds vs ∧ okG g.K g.mg (Rep g.K) W E Q (φ ds h)
/-- the def x of n parameters is worth φ, at the level k -/
def FnD (g : Gx) (x : Str) (n k : Nat) (φ : DF) : Prop :=
  ∃ (f : Addr) (fd : FuncData) (ps : List Str), FnOk g.P g.w g.K g.mg g.base (L2.CX g.P g.w) k f fd ps (spOf g n φ) ∧ g.mg x = some (.ref f) ∧ PySem.W.keepIn g.K (.ref f) = true ∧ L2.Binds g.K fd ps []
def callR (n : Nat) (φ : DF) (a : DA) : DE := fun τ h => (a τ h).bind fun ds h1 => if ds.length = n then φ ds h1 else .bad
section
variable {C : Cn} {x : Str} {e : Expr} {es : List Expr} {fs : DA} {φ : DF} {n k : Nat} {p pos : Pos}
theorem den_call (F : FnD C.g x n k φ) (hk : k ≤ C.k) (hg : glB C.sc x = true) (ha : DenA C (e :: es) fs)
    (he : ∀ env, starEach (e :: es) env = (false, eval e env) :: starEach es env) (hpl : ∀ env, (backTo pos (starEach es env)).any (·.1) = false) : DenE C (.Call (.Name x p) (e :: es) [] pos) (callR n φ fs) := fun X E ok => by
  obtain ⟨t, pa, q⟩ := ha X E ok
  obtain ⟨f, fd, ps, F, m, kp, b⟩ := F
  obtain ⟨g1, g2, g3⟩ := glB_ok ok hg
  refine ⟨_, pe_callS (E := WE E) (sp := spOf C.g n φ) (by rw [ok.prog, ok.w, ok.K, ok.mg, ok.base]; rw [← ok.prog, ← ok.w] at F ⊢; exact F) (ok.room.mono hk) g1 (by rw [ok.mg]; exact m) (by rw [ok.K]; exact kp) (by rw [ok.K]; exact b) (fun σ => passAt ok.takes σ) pa g2 (he _) (hpl _), fun W0 W τ σ h Q l fr rh o => ?_⟩
  refine q W0 W τ σ h _ l fr rh (okG.bind o fun ds h1 W1 vs l1 rh1 b1 o1 => ?_)
  by_cases hn : ds.length = n
  · rw [if_pos hn] at o1
    exact ⟨by rw [← b1.length]; exact hn, W1, ds, h1, rfl, rh1, b1, o1⟩
  · rw [if_neg hn] at o1; exact o1.elim
theorem den_call0 (F : FnD C.g x 0 k φ) (hk : k ≤ C.k) (hg : glB C.sc x = true) (hp : ∀ X E, CxOk C X E → Passes (L2.CX X.prog X.w) X (fun c d H => ∃ σ, E c d σ H)) : True := trivial
end

/-! ### calls of built-ins -/
def BorsAll (K : PySem.W.Frag) (W : Wd) : List D → List V → Prop
  | [], vs => vs = []
  | x :: xs, vs => ∃ v r, vs = v :: r ∧ Bor K W x v ∧ BorsAll K W xs r
abbrev DenAB (C : Cn) (es : List Expr) (f : DA) : Prop := DenG C (fun X t => PA X es t) (fun _ => BorsAll C.g.K) f
theorem BorsAll.mono {K : PySem.W.Frag} {W W' : Wd} (l : Le W W') : ∀ {ds : List D} {vs : List V}, BorsAll K W ds vs → BorsAll K W' ds vs
  | [], _, h => h
  | x :: xs, _, ⟨v, r, e, b, t⟩ => ⟨v, r, e, b.mono l, BorsAll.mono l t⟩
/-- g: what the built-in makes of its arguments -/
def CalD (C : Cn) (f : Value) (g : List D → Option D) : Prop :=
  ∀ X E, CxOk C X E → ∃ r, CallR X f r ∧ ∀ W h ds vs d (Q : VK), RH C.g.K W h → BorsAll C.g.K W ds vs → g ds = some d → (∀ W' b, Le W W' → RH C.g.K W' h → Rep C.g.K W' d b → Q b W'.H) → r vs W.H Q
def CalN (C : Cn) (f : Value) (g : List D → Option D) : Prop :=
  ∀ X E, CxOk C X E → ∃ r, CallR X f r ∧ ∀ W h ds vs d (Q : VK), RH C.g.K W h → BorsAll C.g.K W ds vs → g ds = some d → (∀ W' b, Le W W' → RH C.g.K W' h → NewR C.g.K W W' d b → Q b W'.H) → r vs W.H Q
theorem CalN.d {C : Cn} {f : Value} {g : List D → Option D} (h : CalN C f g) : CalD C f g := fun X E ok => by
  obtain ⟨r, hr, q⟩ := h X E ok
  refine ⟨r, hr, fun W s ds vs d Q rh b e k => q W s ds vs d Q rh b e fun W' b l rh' n => ?_⟩
  obtain ⟨W2, e2, l2, rh2, r2⟩ := n.freeze l rh'
  rw [← e2]
  exact k W2 b l2 rh2 r2
theorem CalD.or {C : Cn} {f : Value} {g g' : List D → Option D} (h : CalD C f g) (h' : CalD C f g') : CalD C f (fun x => (g x).or (g' x)) := fun X E ok => by
  obtain ⟨r, p, q⟩ := h X E ok
  obtain ⟨r', p', q'⟩ := h' X E ok
  refine ⟨_, L2.CallR.or p p', fun W s x v d Q rh b e k => ?_⟩
  have e : (g x).or (g' x) = some d := e
  cases e1 : g x with
  | some d' =>
    rw [e1] at e
    cases e
    exact .inl (q W s x v _ Q rh b e1 k)
  | none =>
    rw [e1] at e
    exact .inr (q' W s x v d Q rh b e k)
def biR (g : List D → Option D) (a : DA) : DE := fun τ h => (a τ h).bind fun ds h1 => toRes (g ds) h1
section
variable {C : Cn} {x : Str} {e : Expr} {es : List Expr} {fe : DE} {fs : DA} {g : List D → Option D} {p pos : Pos} {id T : String}
theorem den_abnil : DenAB C [] (fun _ h => .ok [] h) := fun X E ok => ⟨_, pa_nil, fun W0 W τ σ h Q l fr rh o => okG.now o rh rfl⟩
theorem den_abcons (he : DenB C e fe) (hr : DenAB C es fs) (hs : ∀ env, starEach (e :: es) env = (false, eval e env) :: starEach es env) : DenAB C (e :: es) (consR fe fs) := fun X E ok => by
  obtain ⟨t, p, q⟩ := he X E ok
  obtain ⟨t', p', q'⟩ := hr X E ok
  refine ⟨_, pa_cons p p' (hs _), fun W0 W τ σ h Q l fr rh o => ?_⟩
  refine q W0 W τ σ h _ l fr rh (okG.bind o fun x h1 W1 v l1 rh1 b1 o1 => ?_)
  refine q' W0 W1 τ σ h1 _ (l.trans l1) (fr.mono l1) rh1 (okG.bind o1 fun y h2 W2 u l2 rh2 b2 o2 => ?_)
  exact okG.now o2 rh2 ⟨v, u, rfl, b1.mono l2, b2⟩
theorem den_bi (hc : CalD C (.builtin id) g) (hg : glB C.sc x = true) (hm : C.g.mg x = none) (hv : bootBuiltins x = some (.builtin id)) (ha : DenAB C (e :: es) fs)
    (he : ∀ env, starEach (e :: es) env = (false, eval e env) :: starEach es env) (hpl : ∀ env, (backTo pos (starEach es env)).any (·.1) = false) : DenE C (.Call (.Name x p) (e :: es) [] pos) (biR g fs) := fun X E ok => by
  obtain ⟨t, pa, q⟩ := ha X E ok
  obtain ⟨r, hr, qr⟩ := hc X E ok
  obtain ⟨g1, g2, g3⟩ := glB_ok ok hg
  refine ⟨_, pe_callB hr g1 (by rw [ok.mg]; exact hm) hv pa g3 g2 (he _) (hpl _), fun W0 W τ σ h Q l fr rh o => ?_⟩
  refine q W0 W τ σ h _ l fr rh (okG.bind o fun ds h1 W1 vs l1 rh1 b1 o1 => ?_)
  obtain ⟨d, e, k⟩ := toRes_some o1
  exact qr W1 h1 ds vs d Q rh1 b1 e k
theorem den_bt (hc : CalD C (.type T) g) (hg : glB C.sc x = true) (hm : C.g.mg x = none) (hv : bootBuiltins x = some (.type T)) (ha : DenAB C (e :: es) fs)
    (he : ∀ env, starEach (e :: es) env = (false, eval e env) :: starEach es env) (hpl : ∀ env, (backTo pos (starEach es env)).any (·.1) = false) : DenE C (.Call (.Name x p) (e :: es) [] pos) (biR g fs) := fun X E ok => by
  obtain ⟨t, pa, q⟩ := ha X E ok
  obtain ⟨r, hr, qr⟩ := hc X E ok
  obtain ⟨g1, g2, g3⟩ := glB_ok ok hg
  refine ⟨_, pe_callTy hr g1 (by rw [ok.mg]; exact hm) hv pa g3 g2 (he _) (hpl _), fun W0 W τ σ h Q l fr rh o => ?_⟩
  refine q W0 W τ σ h _ l fr rh (okG.bind o fun ds h1 W1 vs l1 rh1 b1 o1 => ?_)
  obtain ⟨d, e, k⟩ := toRes_some o1
  exact qr W1 h1 ds vs d Q rh1 b1 e k
/-- .. a new list that the frame can keep for itself -/
theorem den_biN (hc : CalN C (.builtin id) g) (hg : glB C.sc x = true) (hm : C.g.mg x = none) (hv : bootBuiltins x = some (.builtin id)) (ha : DenAB C (e :: es) fs)
    (he : ∀ env, starEach (e :: es) env = (false, eval e env) :: starEach es env) (hpl : ∀ env, (backTo pos (starEach es env)).any (·.1) = false) : DenN C (.Call (.Name x p) (e :: es) [] pos) (biR g fs) := fun X E ok => by
  obtain ⟨t, pa, q⟩ := ha X E ok
  obtain ⟨r, hr, qr⟩ := hc X E ok
  obtain ⟨g1, g2, g3⟩ := glB_ok ok hg
  refine ⟨_, pe_callB hr g1 (by rw [ok.mg]; exact hm) hv pa g3 g2 (he _) (hpl _), fun W0 W τ σ h Q l fr rh o => ?_⟩
  refine q W0 W τ σ h _ l fr rh (okG.bind o fun ds h1 W1 vs l1 rh1 b1 o1 => ?_)
  obtain ⟨d, e, k⟩ := toRes_some o1
  exact qr W1 h1 ds vs d Q rh1 b1 e fun W' b l' rh' n => k W' b l' rh' (n.of l1 rh1)
theorem den_btN (hc : CalN C (.type T) g) (hg : glB C.sc x = true) (hm : C.g.mg x = none) (hv : bootBuiltins x = some (.type T)) (ha : DenAB C (e :: es) fs)
    (he : ∀ env, starEach (e :: es) env = (false, eval e env) :: starEach es env) (hpl : ∀ env, (backTo pos (starEach es env)).any (·.1) = false) : DenN C (.Call (.Name x p) (e :: es) [] pos) (biR g fs) := fun X E ok => by
  obtain ⟨t, pa, q⟩ := ha X E ok
  obtain ⟨r, hr, qr⟩ := hc X E ok
  obtain ⟨g1, g2, g3⟩ := glB_ok ok hg
  refine ⟨_, pe_callTy hr g1 (by rw [ok.mg]; exact hm) hv pa g3 g2 (he _) (hpl _), fun W0 W τ σ h Q l fr rh o => ?_⟩
  refine q W0 W τ σ h _ l fr rh (okG.bind o fun ds h1 W1 vs l1 rh1 b1 o1 => ?_)
  obtain ⟨d, e, k⟩ := toRes_some o1
  exact qr W1 h1 ds vs d Q rh1 b1 e fun W' b l' rh' n => k W' b l' rh' (n.of l1 rh1)
end

/-! ### the built-ins -/
def lenG : List D → Option D
  | [.tup xs] => some (.int xs.length)
  | [.lst xs] => some (.int xs.length)
  | [.frl xs] => some (.int xs.length)
  | [.str s] => if fits s.length then some (.int s.length) else none
  | _ => none
def absG : List D → Option D
  | [.int i] => some (.int (if i < 0 then -i else i))
  | _ => none
def maxG : List D → Option D
  | [.int i, .int j] => some (.int (if j > i then j else i))
  | _ => none
def minG : List D → Option D
  | [.int i, .int j] => some (.int (if j < i then j else i))
  | _ => none
def intG : List D → Option D
  | [.int i] => some (.int i)
  | [.bl k] => some (.int (if k then 1 else 0))
  | _ => none
def gcdG : List D → Option D
  | [.int a, .int b] => some (.int ((Nat.gcd a.natAbs b.natAbs : Nat) : Int))
  | _ => none
def tupG : List D → Option D
  | [.tup xs] => some (.tup xs)
  | [.lst xs] => some (.tup xs)
  | _ => none
def listG : List D → Option D
  | [.tup xs] => some (.lst xs)
  | [.lst xs] => some (.lst xs)
  | _ => none
def strG : List D → Option D
  | [.int i] => if i.natAbs.log2 < 1920 then some (.str (toString i)) else none
  | _ => none
/-- the intsD of a list -/
def intsD : List D → Option (List Int)
  | [] => some []
  | .int i :: r => match intsD r with
    | some is => some (i :: is)
    | none => none
  | _ :: _ => none
def boolsD : List D → Option (List Bool)
  | [] => some []
  | .bl i :: r => match boolsD r with
    | some is => some (i :: is)
    | none => none
  | _ :: _ => none
theorem ints_reps {K : PySem.W.Frag} {W : Wd} : ∀ {ds : List D} {vs : List V} {is : List Int}, Reps K W ds vs → intsD ds = some is → vs = is.map V.int
  | [], _, _, h, e => by rw [Reps] at h; cases e; exact h
  | x :: xs, _, is, h, e => by
    rw [Reps] at h
    obtain ⟨v, r, rfl, h1, h2⟩ := h
    cases x <;> simp only [intsD, reduceCtorEq] at e
    rename_i i
    cases q : intsD xs with
    | none => rw [q] at e; cases e
    | some js =>
      rw [q] at e
      cases e
      rw [Rep] at h1
      rw [h1, ints_reps h2 q]
      rfl
theorem bools_reps {K : PySem.W.Frag} {W : Wd} : ∀ {ds : List D} {vs : List V} {is : List Bool}, Reps K W ds vs → boolsD ds = some is → vs = is.map V.bl
  | [], _, _, h, e => by rw [Reps] at h; cases e; exact h
  | x :: xs, _, is, h, e => by
    rw [Reps] at h
    obtain ⟨v, r, rfl, h1, h2⟩ := h
    cases x <;> simp only [boolsD, reduceCtorEq] at e
    rename_i i
    cases q : boolsD xs with
    | none => rw [q] at e; cases e
    | some js =>
      rw [q] at e
      cases e
      rw [Rep] at h1
      rw [h1, bools_reps h2 q]
      rfl
theorem ints_map {is : List Int} : intsD (is.map D.int) = some is := by
  induction is with
  | nil => rfl
  | cons i r ih => simp only [List.map_cons, intsD, ih]
theorem bools_map {is : List Bool} : boolsD (is.map D.bl) = some is := by
  induction is with
  | nil => rfl
  | cons i r ih => simp only [List.map_cons, boolsD, ih]
theorem ints_eq : ∀ {ds : List D} {is : List Int}, intsD ds = some is → ds = is.map D.int
  | [], _, e => by cases e; rfl
  | x :: xs, is, e => by
    cases x <;> simp only [intsD, reduceCtorEq] at e
    cases q : intsD xs with
    | none => rw [q] at e; cases e
    | some js => rw [q] at e; cases e; rw [ints_eq q]; rfl
def sumG : List D → Option D
  | [.lst xs] => (intsD xs).map fun is => .int is.sum
  | [.frl xs] => (intsD xs).map fun is => .int is.sum
  | _ => none
def allG : List D → Option D
  | [.lst xs] => (boolsD xs).map fun is => .bl (is.all id)
  | _ => none
def anyG : List D → Option D
  | [.lst xs] => (boolsD xs).map fun is => .bl (is.any id)
  | _ => none
/-- insertion sort -/
def insI (x : Int) : List Int → List Int
  | [] => [x]
  | y :: r => if x ≤ y then x :: y :: r else y :: insI x r
def sortI : List Int → List Int
  | [] => []
  | x :: r => insI x (sortI r)
theorem insI_perm (x : Int) : ∀ l, (insI x l).Perm (x :: l)
  | [] => .refl _
  | y :: r => by
    unfold insI
    split
    · exact .refl _
    · exact (List.Perm.cons y (insI_perm x r)).trans (.swap x y r)
theorem sortI_perm : ∀ l, (sortI l).Perm l
  | [] => .refl _
  | x :: r => (insI_perm x _).trans ((sortI_perm r).cons x)
theorem insI_sorted (x : Int) : ∀ {l : List Int}, l.Pairwise (· ≤ ·) → (insI x l).Pairwise (· ≤ ·)
  | [], _ => by simp [insI]
  | y :: r, h => by
    unfold insI
    rw [List.pairwise_cons] at h
    split
    · rename_i hxy
      refine List.pairwise_cons.mpr ⟨fun z hz => ?_, List.pairwise_cons.mpr h⟩
      rcases List.mem_cons.mp hz with rfl | hz
      · exact hxy
      · exact Int.le_trans hxy (h.1 z hz)
    · rename_i hxy
      refine List.pairwise_cons.mpr ⟨fun z hz => ?_, insI_sorted x h.2⟩
      rcases List.mem_cons.mp ((insI_perm x r).subset hz) with rfl | hz
      · omega
      · exact h.1 z hz
theorem sortI_sorted : ∀ l : List Int, (sortI l).Pairwise (· ≤ ·)
  | [] => .nil
  | x :: r => insI_sorted x (sortI_sorted r)
theorem sorted_unique : ∀ {l m : List Int}, l.Perm m → l.Pairwise (· ≤ ·) → m.Pairwise (· ≤ ·) → l = m
  | [], m, p, _, _ => (List.nil_perm.mp p).symm
  | x :: l, m, p, hl, hm => by
    cases m with
    | nil => exact absurd p.length_eq (by simp)
    | cons y m =>
      rw [List.pairwise_cons] at hl hm
      have e : x = y := by
        rcases List.mem_cons.mp (p.subset (List.mem_cons_self ..)) with h | h
        · exact h
        · rcases List.mem_cons.mp (p.symm.subset (List.mem_cons_self ..)) with h' | h'
          · exact h'.symm
          · have := hl.1 y h'
            have := hm.1 x h
            omega
      subst e
      rw [sorted_unique (List.perm_cons _ |>.mp p) hl.2 hm.2]
def sortG : List D → Option D
  | [.lst xs] => (intsD xs).map fun is => .lst ((sortI is).map D.int)
  | [.tup xs] => (intsD xs).map fun is => .lst ((sortI is).map D.int)
  | _ => none
section
variable {C : Cn}
theorem BorsAll.one {K : PySem.W.Frag} {W : Wd} {d : D} {vs : List V} (h : BorsAll K W [d] vs) : ∃ v, vs = [v] ∧ Bor K W d v := by
  obtain ⟨v, r, rfl, b, t⟩ := h
  rw [show r = [] from t]
  exact ⟨v, rfl, b⟩
theorem BorsAll.two {K : PySem.W.Frag} {W : Wd} {d e : D} {vs : List V} (h : BorsAll K W [d, e] vs) : ∃ v u, vs = [v, u] ∧ Bor K W d v ∧ Bor K W e u := by
  obtain ⟨v, r, rfl, b, t⟩ := h
  obtain ⟨u, rfl, b2⟩ := BorsAll.one t
  exact ⟨v, u, rfl, b, b2⟩
theorem c_len : CalD C (.builtin "len") lenG := fun X E ok => ⟨_, L2.CallR.or call_len_seq call_len_str, fun W h ds vs d Q rh b e k => by
  unfold lenG at e
  split at e
  · obtain ⟨v, rfl, b1⟩ := BorsAll.one b
    obtain ⟨a, us, rfl, sq, r, _⟩ := b1.tup
    cases e
    exact .inl ⟨a, us, rfl, .inr (by rw [ok.K]; exact sq), by rw [← r.length]; exact k W _ (.refl _) rh rep_int⟩
  · obtain ⟨v, rfl, b1⟩ := BorsAll.one b
    obtain ⟨a, us, rfl, sq, r⟩ := b1.lst
    cases e
    exact .inl ⟨a, us, rfl, .inl (.of sq), by rw [← r.length]; exact k W _ (.refl _) rh rep_int⟩
  · obtain ⟨v, rfl, b1⟩ := BorsAll.one b
    obtain ⟨a, us, rfl, sq, r⟩ := b1.frl
    cases e
    exact .inl ⟨a, us, rfl, .inl (by rw [ok.K]; exact sq), by rw [← r.length]; exact k W _ (.refl _) rh rep_int⟩
  · obtain ⟨v, rfl, b1⟩ := BorsAll.one b
    split at e
    · rename_i hz
      cases e
      rw [b1.str]
      exact .inr ⟨_, rfl, of_decide_eq_true hz, k W _ (.refl _) rh rep_int⟩
    · cases e
  · cases e⟩
theorem c_abs : CalD C (.builtin "abs") absG := fun X E ok => ⟨_, call_abs, fun W h ds vs d Q rh b e k => by
  unfold absG at e
  split at e
  · obtain ⟨v, rfl, b1⟩ := BorsAll.one b
    cases e
    rw [b1.int]
    exact ⟨_, rfl, k W _ (.refl _) rh rep_int⟩
  · cases e⟩
theorem c_max : CalD C (.builtin "max") maxG := fun X E ok => ⟨_, call_max2 ok.calm, fun W h ds vs d Q rh b e k => by
  unfold maxG at e
  split at e
  · obtain ⟨v, u, rfl, b1, b2⟩ := BorsAll.two b
    cases e
    rw [b1.int, b2.int]
    exact ⟨_, _, rfl, k W _ (.refl _) rh rep_int⟩
  · cases e⟩
theorem c_min : CalD C (.builtin "min") minG := fun X E ok => ⟨_, call_min2 ok.calm, fun W h ds vs d Q rh b e k => by
  unfold minG at e
  split at e
  · obtain ⟨v, u, rfl, b1, b2⟩ := BorsAll.two b
    cases e
    rw [b1.int, b2.int]
    exact ⟨_, _, rfl, k W _ (.refl _) rh rep_int⟩
  · cases e⟩
theorem c_gcd : CalD C (.builtin "math.gcd") gcdG := fun X E ok => ⟨_, cr_gcd, fun W h ds vs d Q rh b e k => by
  unfold gcdG at e
  split at e
  · obtain ⟨v, u, rfl, b1, b2⟩ := BorsAll.two b
    cases e
    rw [b1.int, b2.int]
    exact ⟨_, _, rfl, k W _ (.refl _) rh rep_int⟩
  · cases e⟩
theorem c_int : CalD C (.type "int") intG := fun X E ok => ⟨_, call_int1, fun W h ds vs d Q rh b e k => by
  unfold intG at e
  split at e
  · obtain ⟨v, rfl, b1⟩ := BorsAll.one b
    cases e
    rw [b1.int]
    exact .inl ⟨_, rfl, k W _ (.refl _) rh rep_int⟩
  · obtain ⟨v, rfl, b1⟩ := BorsAll.one b
    cases e
    rw [b1.bl]
    exact .inr ⟨_, rfl, k W _ (.refl _) rh rep_int⟩
  · cases e⟩
theorem c_str : CalD C (.type "str") strG := fun X E ok => ⟨_, call_str_int, fun W h ds vs d Q rh b e k => by
  unfold strG at e
  split at e
  · obtain ⟨v, rfl, b1⟩ := BorsAll.one b
    split at e
    · rename_i hz
      cases e
      rw [b1.int]
      exact ⟨_, rfl, hz, k W _ (.refl _) rh rep_str⟩
    · cases e
  · cases e⟩
theorem c_tup : CalD C (.type "tuple") tupG := fun X E ok => ⟨_, call_tuple_of, fun W h ds vs d Q rh b e k => by
  unfold tupG at e
  split at e
  · obtain ⟨v, rfl, b1⟩ := BorsAll.one b
    obtain ⟨a, us, rfl, sq, r, rr⟩ := b1.tup
    cases e
    exact ⟨a, us, rfl, .inr ⟨by rw [ok.K]; exact sq, k W _ (.refl _) rh rr⟩⟩
  · obtain ⟨v, rfl, b1⟩ := BorsAll.one b
    obtain ⟨a, us, rfl, sq, r⟩ := b1.lst
    cases e
    refine ⟨a, us, rfl, .inl ⟨.of sq, fun p np => ?_⟩⟩
    obtain ⟨W2, eH, l, rh', n⟩ := new_tup np rh r
    rw [← eH]
    exact k _ _ l rh' n
  · cases e⟩
theorem cn_list : CalN C (.type "list") listG := fun X E ok => ⟨_, call_list_of, fun W h ds vs d Q rh b e k => by
  unfold listG at e
  split at e
  · obtain ⟨v, rfl, b1⟩ := BorsAll.one b
    obtain ⟨a, us, rfl, sq, r, rr⟩ := b1.tup
    cases e
    refine ⟨a, us, rfl, .inr (by rw [ok.K]; exact sq), fun p np => ?_⟩
    obtain ⟨l, rh', n⟩ := new_lst np rh r
    exact k _ _ l rh' n
  · obtain ⟨v, rfl, b1⟩ := BorsAll.one b
    obtain ⟨a, us, rfl, sq, r⟩ := b1.lst
    cases e
    refine ⟨a, us, rfl, .inl (.of sq), fun p np => ?_⟩
    obtain ⟨l, rh', n⟩ := new_lst np rh r
    exact k _ _ l rh' n
  · cases e⟩
theorem c_sum : CalD C (.builtin "sum") sumG := fun X E ok => ⟨_, cr_sum ok.calm, fun W h ds vs d Q rh b e k => by
  unfold sumG at e
  split at e
  · obtain ⟨v, rfl, b1⟩ := BorsAll.one b
    obtain ⟨a, us, rfl, sq, r⟩ := b1.lst
    obtain ⟨is, q, rfl⟩ := Option.map_eq_some_iff.mp e
    rw [ints_reps r q] at sq
    exact ⟨a, is, rfl, .of sq, k W _ (.refl _) rh rep_int⟩
  · obtain ⟨v, rfl, b1⟩ := BorsAll.one b
    obtain ⟨a, us, rfl, sq, r⟩ := b1.frl
    obtain ⟨is, q, rfl⟩ := Option.map_eq_some_iff.mp e
    rw [ints_reps r q] at sq
    exact ⟨a, is, rfl, by rw [ok.K]; exact sq, k W _ (.refl _) rh rep_int⟩
  · cases e⟩
theorem c_all : CalD C (.builtin "all") allG := fun X E ok => ⟨_, cr_all ok.calm, fun W h ds vs d Q rh b e k => by
  unfold allG at e
  split at e
  · obtain ⟨v, rfl, b1⟩ := BorsAll.one b
    obtain ⟨a, us, rfl, sq, r⟩ := b1.lst
    obtain ⟨is, q, rfl⟩ := Option.map_eq_some_iff.mp e
    rw [bools_reps r q] at sq
    exact ⟨a, is, rfl, .of sq, k W _ (.refl _) rh rep_bl⟩
  · cases e⟩
theorem c_any : CalD C (.builtin "any") anyG := fun X E ok => ⟨_, cr_any ok.calm, fun W h ds vs d Q rh b e k => by
  unfold anyG at e
  split at e
  · obtain ⟨v, rfl, b1⟩ := BorsAll.one b
    obtain ⟨a, us, rfl, sq, r⟩ := b1.lst
    obtain ⟨is, q, rfl⟩ := Option.map_eq_some_iff.mp e
    rw [bools_reps r q] at sq
    exact ⟨a, is, rfl, .of sq, k W _ (.refl _) rh rep_bl⟩
  · cases e⟩
theorem reps_ints {K : PySem.W.Frag} {W : Wd} : ∀ is : List Int, Reps K W (is.map D.int) (is.map V.int)
  | [] => .nil
  | i :: r => .cons rep_int (reps_ints r)
def sortLG : List D → Option D
  | [.lst xs] => (intsD xs).map fun is => .lst ((sortI is).map D.int)
  | _ => none
theorem cn_sortL : CalN C (.builtin "sorted") sortLG := fun X E ok => ⟨_, cr_sortedI, fun W h ds vs d Q rh b e k => by
  unfold sortLG at e
  split at e
  · obtain ⟨v, rfl, b1⟩ := BorsAll.one b
    obtain ⟨a, us, rfl, sq, r⟩ := b1.lst
    obtain ⟨is, q, rfl⟩ := Option.map_eq_some_iff.mp e
    rw [ints_reps r q] at sq
    refine ⟨a, is, rfl, .of sq, fun ns p hp hs np => ?_⟩
    have := sorted_unique (hp.trans (sortI_perm is).symm) hs (sortI_sorted is)
    subst this
    obtain ⟨l, rh', n⟩ := new_lst np rh (reps_ints _)
    exact k _ _ l rh' n
  · cases e⟩
end
end Sw

/-! Sw, part F: what loops walk; comprehensions. -/
namespace Sw
open PySem PySem.Spec PyProof.Rows L2

/-! ### enumerate(tuple) -/
theorem meets_enum1 {v : Value} {o : Obj} {H : Heap → Prop} (B : Begins v o H) :
    Meets (Builtin.«enumerate.__new__» ⟨[.type "enumerate", v], []⟩) (fun _ R s => H s.heap ∧
      R (.ok (.ret (.ref (s.heap.push o).objs.size))) { s with heap := (s.heap.push o).push { cls := .type "enumerate", data := .fields #[.none, .bool false, .ref s.heap.objs.size, rawInt 0, .none, .none] } }) :=
  .of_wp fun prog w A R s h => by
    obtain ⟨hp, g, d, tk, os⟩ := s; obtain ⟨h1, h⟩ := h
    have hsub := sub_enumerate
    have q1 : ∀ {A' : Around} {E : Value → Shared → Prop} {Q : Value → Shared → Prop}, Q (.ref hp.objs.size) ⟨hp.push o, g, d, tk, os⟩ → wpAny (model prog w) A' (pyIter v) Q E ⟨hp, g, d, tk, os⟩ :=
      fun q => B.iter prog w _ _ ⟨hp, g, d, tk, os⟩ _ h1 q
    wp_walk using q1
    refine wpAny_stack_any fun st => wpAny_pure ?_
    split
    · rename_i c _ _ _ _ _
      cases (c == Value.type "enumerate")
      · wp_walk using q1
        exact ⟨_, rfl, h⟩
      · wp_walk using q1
        exact ⟨_, rfl, h⟩
    · wp_walk using q1
      exact ⟨_, rfl, h⟩
theorem call_enum1 {prog : Program} {w : World} {A : Around} {E : Value → Shared → Prop} {s : Shared} {v : Value} {o : Obj} {H : Heap → Prop} {Q : Value → Shared → Prop} (B : Begins v o H) (h1 : H s.heap)
    (h : ∀ h', IsEnum h' (s.heap.objs.size + 1) s.heap.objs.size 0 .none → h'.get? s.heap.objs.size = some o → h'.objs.size = s.heap.objs.size + 2 →
      (∀ b o, s.heap.get? b = some o → h'.get? b = some o) → Q (.ref (s.heap.objs.size + 1)) { s with heap := h' }) :
    wpAny (model prog w) A (call (.type "enumerate") [v]) Q E s := by
  refine callType_new F.called_enumerate (by decide) (F.typeCall_enumerate_1 _) (F.newCall_enumerate_1 _) (fun obj => F.args_object_init_2 obj _) F.entry_enumerate_new
    (meets_enum1 B) ⟨h1, ?_⟩
  have hz : (s.heap.push o).objs.size = s.heap.objs.size + 1 := Heap.size_push ..
  show _ ∧ _
  rw [hz]
  have he : IsEnum ((s.heap.push o).push { cls := .type "enumerate", data := .fields #[.none, .bool false, .ref s.heap.objs.size, rawInt 0, .none, .none] }) (s.heap.objs.size + 1) s.heap.objs.size 0 .none := by
    have := Heap.get?_push_size (s.heap.push o) (o := { cls := .type "enumerate", data := .fields #[.none, .bool false, .ref s.heap.objs.size, rawInt 0, .none, .none] }) rfl
    rw [hz] at this; exact this
  refine ⟨⟨_, he, rfl⟩, h _ he (Heap.get?_push_of_some _ (Heap.get?_push_size _ B.free)) (by rw [Heap.size_push, hz]) fun b o x => Heap.get?_push_of_some _ (Heap.get?_push_of_some _ x)⟩
/-- the tuple at a, each item in a new pair -/
def IteT (K : PySem.W.Frag) (a : Addr) : It :=
  ⟨fun i H => ∃ (xs : List V) (x : V), SqT K H a xs ∧ xs[i]? = some x, fun i H v H' => ∃ T x, v = .ref T ∧ H T = none ∧ H' = upd H T (.tup [.int (i : Nat), x]) ∧ ∀ xs, SqT K H a xs → xs[i]? = some x, fun i H => ∃ xs : List V, SqT K H a xs ∧ xs.length = i⟩
theorem turn_enumT {P : Program} {w : World} {K : PySem.W.Frag} {elts : List Expr} {kk : Nat} {tpos : Pos} (a e it : Addr) :
    Turn P w K (.Tuple elts kk tpos) (IteT K a) [e, it] e (fun i h => (∃ old, IsEnum h e it ((i : Nat) : Int) old) ∧ h.IsTupleIter it a i ∧ e ≠ it ∧ a ≠ it ∧ a ≠ e) where
  mem := by simp
  obj := fun i h st b hb => by
    obtain ⟨⟨old, he⟩, ⟨o, ho, hc, hd⟩, _⟩ := st
    have e' : b = e ∨ b = it := by simpa using hb
    rcases e' with z | z
    · rw [z]; exact ⟨_, he, fun v q => nomatch q⟩
    · rw [z]; exact ⟨o, ho, fun v q => by rw [hd] at q; cases q⟩
  keep := fun i h h' st k => let ⟨⟨old, he⟩, hi, hne⟩ := st; ⟨⟨old, k e (by simp) _ he⟩, hi.at fun o q => k it (by simp) o q, hne⟩
  item := by
    intro X hP hw hK hc i pins s σ H E I hf st hg
    subst hP hw hK
    obtain ⟨⟨old, he⟩, hit, hne, na, nae⟩ := st
    obtain ⟨xs, x, hq, hx⟩ := hg
    obtain ⟨its, rv, p, hz⟩ := I.tuple hq
    obtain ⟨u, hu, ru⟩ := rv.get hx
    have hel : e < s.heap.objs.size := Heap.lt_size he
    have hil : it < s.heap.objs.size := by obtain ⟨_, q, _⟩ := hit; exact Heap.lt_size q
    have D := Draws.tuple (prog := X.prog) (w := X.w) (A := X.A.in1) (show X.A.in1.handled = none from I.ok.hd hc) it a na its.toArray
    have hlt : i < its.toArray.size := by
      have := (List.getElem?_eq_some_iff.mp hu).1
      simpa using this
    refine wpAny_pyNext_enum_itemD D he ⟨hit, show s.heap.IsTuple a its.toArray from p⟩ hlt hne (by simp [hne, Ne.symm nae]) fun u' h' tk hP ho hit' hT hsz hk => ?_
    obtain rfl : u = u' := by
      have hP : its[i]? = some u' := by simpa using hP
      rw [hu] at hP; exact Option.some.inj hP
    refine ⟨_, rfl, wpAny_letOwnedTupleGo_enum (s := { s with heap := h', toks := tk + 1 }) ho fun h'' he' sb => ?_⟩
    have hT2 : h''.get? s.heap.objs.size = some { cls := .type "tuple", data := .seq #[.int i tk, u] } := (sb.2 _ (Nat.ne_of_gt hel)).trans hT
    have new : ObjOk X.prog X.w (upd H s.heap.objs.size (.tup [.int (i : Nat), x])) h'' s.heap.objs.size (.tup [.int (i : Nat), x]) :=
      ⟨by show 2 ≤ sizeLine; decide, [.int i tk, u], .cons ⟨_, rfl⟩ (.cons ru .nil), ⟨_, hT2, rfl, _, rfl⟩⟩
    have I1 : Inv X pins σ (upd H s.heap.objs.size (.tup [.int (i : Nat), x])) { s with heap := h'', toks := tk + 1 } :=
      I.turnedNew (ch := [e, it]) (fun b ob hb q => (sb.2 b (fun z => hb (by simp [z]))).trans (hk b ob (fun z => hb (by simp [z])) (fun z => hb (by simp [z])) q)) hf (Nat.le_refl _) new
    refine ⟨.ref s.heap.objs.size, _, I1, rfl, ⟨_, x, rfl, I.hok.fresh (Nat.le_refl _), rfl, fun ys hy => by rw [I.tuple_inj hy hq]; exact hx⟩, ⟨⟨u, ?_⟩, hit'.1.at fun o q => (sb.2 it (Ne.symm hne)).trans q, hne, na, nae⟩, fun b hb => ?_⟩
    · have e1 : ((i + 1 : Nat) : Int) = (i : Int) + 1 := by omega
      rw [e1]; exact he'
    · have hb' : b < s.heap.objs.size := by
        have e' : b = e ∨ b = it := by simpa using hb
        rcases e' with z | z
        · rw [z]; exact hel
        · rw [z]; exact hil
      rw [upd_ne (Nat.ne_of_lt hb')]
      exact (hf b hb).1
  done := by
    intro X hP hw hK hc i pins s σ H E I hf st hg
    subst hP hw hK
    obtain ⟨⟨old, he⟩, hit, hne, na, nae⟩ := st
    obtain ⟨xs, hq, hx⟩ := hg
    obtain ⟨its, rv, p, hz⟩ := I.tuple hq
    obtain ⟨f0, f1, f2, f3, f4, f5⟩ := hf it (by simp)
    have hl := rv.length
    have D := Draws.tuple (prog := X.prog) (w := X.w) (A := X.A.in1) (show X.A.in1.handled = none from I.ok.hd hc) it a na its.toArray
    have e1 : its.toArray.size = i := by rw [List.size_toArray, ← hl, hx]
    exact wpAny_pyNext_enum_endD D he (by rw [e1]; exact ⟨hit, show s.heap.IsTuple a its.toArray from p⟩) fun h' eb => ⟨rfl, I.turned (t' := s.toks) (fun b o hb q => eb b o hb q) f0 f1 f3 f4 f5⟩
  self := fun A i s Q E st h => let ⟨⟨_, he⟩, _⟩ := st; wpAny_pyIter_enum he h
def iEnumA (K : PySem.W.Frag) (ta : TA) : TI := fun σ H R => ta σ H fun vs H1 => ∃ a xs, vs = [.ref a] ∧ ((SqL K H1 a xs ∧ R (Ite K a) H1) ∨ (SqT K H1 a xs ∧ R (IteT K a) H1))
theorem pi_enumA {X : Cx} {e : Expr} {ta : TA} {p pos tpos : Pos} {elts : List Expr} {kk : Nat} (hg : Gl X "enumerate") (hm : X.mg "enumerate" = none) (ha : PA X [e] ta) (hs : starEach [e] X.env = [(false, eval e X.env)]) :
    PI X (.Tuple elts kk tpos) (.Call (.Name "enumerate" p) [e] [] pos) (iEnumA X.K ta) := by
  refine ⟨fun pins s σ H R I h => ?_⟩
  refine Call_ (ld_blt I hg hm boot_enumerate (PyProof.Rows.callWith_type1 (thn (ha.run pos pins s σ H _ I h) fun us s1 ⟨vs, H1, I1, r1, q1⟩ => ?_) hs rfl))
  obtain ⟨a, xs, ex, q⟩ := q1
  subst ex
  cases r1 with
  | cons r rr =>
    cases rr
    cases r
    rcases q with ⟨hq, q⟩ | ⟨hq, q⟩
    · obtain ⟨its, rv, p', hz⟩ := I1.list hq
      refine call_enumerate_list p'.isList fun h' he hit hsz hk => wpAny_pyIter_enum he ?_
      have I2 : Inv X pins σ H1 { s1 with heap := h' } := I1.kept (t' := s1.toks) hk
      refine ⟨s1.heap.objs.size + 1, [s1.heap.objs.size + 1, s1.heap.objs.size], _, _, H1, rfl, I2, turn_enum a (s1.heap.objs.size + 1) s1.heap.objs.size, ⟨⟨.none, he⟩, hit, Nat.succ_ne_self _⟩, fun b hb => ?_, q⟩
      have e' : b = s1.heap.objs.size + 1 ∨ b = s1.heap.objs.size := by simpa using hb
      have hle : s1.heap.objs.size ≤ b := by
        rcases e' with z | z
        · rw [z]; exact Nat.le_add_right _ _
        · rw [z]; exact Nat.le_refl _
      exact I1.fpOk hle (I1.hok.fresh hle)
    · obtain ⟨its, rv, p', hz⟩ := I1.tuple hq
      have hal : a < s1.heap.objs.size := p'.lt
      refine call_enum1 (begins_tuple a its.toArray) (show s1.heap.IsTuple a its.toArray from p') fun h' he hit hsz hk => wpAny_pyIter_enum he ?_
      have I2 : Inv X pins σ H1 { s1 with heap := h' } := I1.kept (t' := s1.toks) hk
      refine ⟨s1.heap.objs.size + 1, [s1.heap.objs.size + 1, s1.heap.objs.size], _, _, H1, rfl, I2, turn_enumT a (s1.heap.objs.size + 1) s1.heap.objs.size, ⟨⟨.none, he⟩, ⟨_, hit, rfl, rfl⟩, Nat.succ_ne_self _, Nat.ne_of_lt hal, Nat.ne_of_lt (Nat.lt_succ_of_lt hal)⟩, fun b hb => ?_, q⟩
      have e' : b = s1.heap.objs.size + 1 ∨ b = s1.heap.objs.size := by simpa using hb
      have hle : s1.heap.objs.size ≤ b := by
        rcases e' with z | z
        · rw [z]; exact Nat.le_add_right _ _
        · rw [z]; exact Nat.le_refl _
      exact I1.fpOk hle (I1.hok.fresh hle)

/-! ### walks: the items told ahead -/
/-- J walks the items, wherever the frozen stays -/
def Walks1 (K : PySem.W.Frag) (W : Wd) (J : It) (items : List D) : Prop := ∀ (j : Nat) (W2 : Wd), LeF W W2 →
  (∀ d, items[j]? = some d → J.go j W2.H ∧ ∀ x H', J.yld j W2.H x H' → ∃ W3, W3.H = H' ∧ Le W2 W3 ∧ (∀ h, RH K W2 h → RH K W3 h) ∧ Rep K W3 d x) ∧ (items.length = j → J.stop j W2.H)
def DenI (C : Cn) (tg e : Expr) (f : DA) : Prop := DenG C (fun X t => PI X tg e t) (fun _ W' items J => Walks1 C.g.K W' J items) f
theorem PI.or {X : Cx} {tg e : Expr} {wi wi' : TI} (h : PI X tg e wi) (h' : PI X tg e wi') : PI X tg e (fun σ H R => wi σ H R ∨ wi' σ H R) :=
  ⟨fun pins s σ H R I q => q.elim (h.run pins s σ H R I) (h'.run pins s σ H R I)⟩
section
variable {K : PySem.W.Frag} {W : Wd}
theorem walks_tup {a : Addr} {xs : List D} {vs : List V} (t : TupAt K W a vs) (r : Reps K W xs vs) : Walks1 K W (Itt K a) xs := fun j W2 l => by
  have t2 := (t.mono l).sq
  have r2 := Reps.mono l _ _ r
  refine ⟨fun d e => ?_, fun e => ⟨vs, t2, by rw [← r.length, e]; exact Nat.le_refl _⟩⟩
  obtain ⟨v, ev, rv⟩ := r2.get e
  refine ⟨⟨vs, v, t2, ev⟩, fun x H' y => ?_⟩
  obtain ⟨rfl, y⟩ := y
  have := y vs t2
  rw [ev] at this
  cases this
  exact ⟨W2, rfl, .refl _, fun _ q => q, rv⟩
theorem walks_lst {a : Addr} {xs : List D} {vs : List V} (t : LstAt W a vs) (r : Reps K W xs vs) : Walks1 K W (Itl K a) xs := fun j W2 l => by
  have t2 : SqL K W2.H a vs := (t.mono l).sq
  have r2 := Reps.mono l _ _ r
  refine ⟨fun d e => ?_, fun e => ⟨vs, t2, by rw [← r.length, e]; exact Nat.le_refl _⟩⟩
  obtain ⟨v, ev, rv⟩ := r2.get e
  refine ⟨⟨vs, v, t2, ev⟩, fun x H' y => ?_⟩
  obtain ⟨rfl, y⟩ := y
  have := y vs t2
  rw [ev] at this
  cases this
  exact ⟨W2, rfl, .refl _, fun _ q => q, rv⟩
/-- lo, lo + 1, .. -/
def rangeD (lo : Int) : Nat → List D
  | 0 => []
  | n + 1 => .int lo :: rangeD (lo + 1) n
theorem rangeD_get : ∀ (n : Nat) (lo : Int) (j : Nat), (rangeD lo n)[j]? = if j < n then some (.int (lo + (j : Nat))) else none
  | 0, lo, j => by simp [rangeD]
  | n + 1, lo, 0 => by simp [rangeD]
  | n + 1, lo, j + 1 => by
    rw [rangeD, List.getElem?_cons_succ, rangeD_get n (lo + 1) j]
    have : lo + 1 + (j : Int) = lo + ((j + 1 : Nat) : Int) := by omega
    rw [this]
    by_cases h : j < n
    · rw [if_pos h, if_pos (by omega)]
    · rw [if_neg h, if_neg (by omega)]
theorem rangeD_length : ∀ (n : Nat) (lo : Int), (rangeD lo n).length = n
  | 0, _ => rfl
  | n + 1, lo => by rw [rangeD, List.length_cons, rangeD_length n]
theorem walks_rng {lo : Int} {n : Nat} : Walks1 K W (Itr lo n) (rangeD lo n) := fun j W2 l => by
  refine ⟨fun d e => ?_, fun e => ?_⟩
  · rw [rangeD_get] at e
    split at e
    · rename_i hj
      cases e
      exact ⟨hj, fun x H' y => by obtain ⟨rfl, rfl⟩ := y; exact ⟨W2, rfl, .refl _, fun _ q => q, rep_int⟩⟩
    · cases e
  · rw [rangeD_length] at e; show n ≤ j; omega
/-- lo, lo + c, .. -/
def rangeC (lo c : Int) : Nat → List D
  | 0 => []
  | n + 1 => .int lo :: rangeC (lo + c) c n
theorem rangeC_get (c : Int) : ∀ (n : Nat) (lo : Int) (j : Nat), (rangeC lo c n)[j]? = if j < n then some (.int (lo + (j : Nat) * c)) else none
  | 0, lo, j => by simp [rangeC]
  | n + 1, lo, 0 => by simp [rangeC]
  | n + 1, lo, j + 1 => by
    rw [rangeC, List.getElem?_cons_succ, rangeC_get c n (lo + c) j]
    have : lo + c + (j : Int) * c = lo + ((j + 1 : Nat) : Int) * c := by
      have : ((j + 1 : Nat) : Int) = (j : Int) + 1 := by omega
      rw [this, Int.add_mul]; omega
    rw [this]
    by_cases h : j < n
    · rw [if_pos h, if_pos (by omega)]
    · rw [if_neg h, if_neg (by omega)]
theorem rangeC_length (c : Int) : ∀ (n : Nat) (lo : Int), (rangeC lo c n).length = n
  | 0, _ => rfl
  | n + 1, lo => by rw [rangeC, List.length_cons, rangeC_length c n]
theorem walks_rngC {lo c : Int} {n : Nat} : Walks1 K W (Itc lo c n) (rangeC lo c n) := fun j W2 l => by
  refine ⟨fun d e => ?_, fun e => ?_⟩
  · rw [rangeC_get] at e
    split at e
    · rename_i hj
      cases e
      exact ⟨hj, fun x H' y => by obtain ⟨rfl, rfl⟩ := y; exact ⟨W2, rfl, .refl _, fun _ q => q, rep_int⟩⟩
    · cases e
  · rw [rangeC_length] at e; show n ≤ j; omega
/-- a new pair each turn -/
theorem new_pair {T : Addr} {d e : D} {x y : V} (hT : W.H T = none) (h1 : Rep K W d x) (h2 : Rep K W e y) : ∃ W3, W3.H = upd W.H T (.tup [x, y]) ∧ Le W W3 ∧ (∀ h, RH K W h → RH K W3 h) ∧ Rep K W3 (.tup [d, e]) (.ref T) := by
  refine ⟨(W.put T (.tup [x, y])).frz T, rfl, le_frz (le_put hT) hT, fun h rh => rh_frz (rh_put hT rh) (fun m => rh.there m hT) (by show upd W.H T (.tup [x, y]) T ≠ none; rw [upd_same]; exact fun z => by cases z), ?_⟩
  rw [Rep]
  exact ⟨T, [x, y], rfl, .inl ⟨.inr rfl, .inl upd_same⟩, Reps.mono ((le_put hT).toLeF.trans (lef_frz _ _)) _ _ (.cons h1 (.cons h2 .nil))⟩
def enumD (n : Nat) : List D → List D
  | [] => []
  | x :: r => .tup [.int (n : Nat), x] :: enumD (n + 1) r
theorem enumD_get : ∀ (xs : List D) (n j : Nat), (enumD n xs)[j]? = (xs[j]?).map fun x => .tup [.int ((n + j : Nat) : Int), x]
  | [], n, j => by simp [enumD]
  | x :: r, n, 0 => by simp [enumD]
  | x :: r, n, j + 1 => by
    rw [enumD, List.getElem?_cons_succ, enumD_get r (n + 1) j, List.getElem?_cons_succ]
    have : n + 1 + j = n + (j + 1) := by omega
    rw [this]
theorem enumD_length : ∀ (xs : List D) (n : Nat), (enumD n xs).length = xs.length
  | [], _ => rfl
  | x :: r, n => by rw [enumD, List.length_cons, List.length_cons, enumD_length r]
theorem walks_enumT {a : Addr} {xs : List D} {vs : List V} (t : TupAt K W a vs) (r : Reps K W xs vs) : Walks1 K W (IteT K a) (enumD 0 xs) := fun j W2 l => by
  have t2 := (t.mono l).sq
  have r2 := Reps.mono l _ _ r
  refine ⟨fun d e => ?_, fun e => ⟨vs, t2, by rw [← r.length, ← e, enumD_length]⟩⟩
  rw [enumD_get] at e
  obtain ⟨z, ez, rfl⟩ := Option.map_eq_some_iff.mp e
  obtain ⟨v, ev, rv⟩ := r2.get ez
  refine ⟨⟨vs, v, t2, ev⟩, fun x H' y => ?_⟩
  obtain ⟨T, x', rfl, hT, rfl, y⟩ := y
  have := y vs t2
  rw [ev] at this
  cases this
  obtain ⟨W3, e1, e2, e3, e4⟩ := new_pair (K := K) (d := .int ((0 + j : Nat) : Int)) (e := z) (x := .int (j : Nat)) hT (by rw [Nat.zero_add]; exact rep_int) rv
  exact ⟨W3, e1, e2, e3, e4⟩
theorem walks_enumL {a : Addr} {xs : List D} {vs : List V} (t : LstAt W a vs) (r : Reps K W xs vs) : Walks1 K W (Ite K a) (enumD 0 xs) := fun j W2 l => by
  have t2 : SqL K W2.H a vs := (t.mono l).sq
  have r2 := Reps.mono l _ _ r
  refine ⟨fun d e => ?_, fun e => ⟨vs, t2, by rw [← r.length, ← e, enumD_length]; exact Nat.le_refl _⟩⟩
  rw [enumD_get] at e
  obtain ⟨z, ez, rfl⟩ := Option.map_eq_some_iff.mp e
  obtain ⟨v, ev, rv⟩ := r2.get ez
  refine ⟨⟨vs, v, t2, ev⟩, fun x H' y => ?_⟩
  obtain ⟨T, x', rfl, hT, rfl, y⟩ := y
  have := y vs t2
  rw [ev] at this
  cases this
  obtain ⟨W3, e1, e2, e3, e4⟩ := new_pair (K := K) (d := .int ((0 + j : Nat) : Int)) (e := z) (x := .int (j : Nat)) hT (by rw [Nat.zero_add]; exact rep_int) rv
  exact ⟨W3, e1, e2, e3, e4⟩
def zipD (xs ys : List D) : List D := (xs.zip ys).map fun p => .tup [p.1, p.2]
theorem zipD_get (xs ys : List D) (j : Nat) (d : D) : (zipD xs ys)[j]? = some d ↔ ∃ x y, xs[j]? = some x ∧ ys[j]? = some y ∧ d = .tup [x, y] := by
  unfold zipD
  rw [List.getElem?_map]
  constructor
  · intro h
    obtain ⟨p, hp, rfl⟩ := Option.map_eq_some_iff.mp h
    obtain ⟨h1, h2⟩ := List.getElem?_zip_eq_some.mp hp
    exact ⟨p.1, p.2, h1, h2, rfl⟩
  · rintro ⟨x, y, h1, h2, rfl⟩
    rw [(List.getElem?_zip_eq_some (z := (x, y))).mpr ⟨h1, h2⟩]
    rfl
theorem walks_zipT {a b : Addr} {xs ys : List D} {vs us : List V} (t : TupAt K W a vs) (r : Reps K W xs vs) (t' : TupAt K W b us) (r' : Reps K W ys us) : Walks1 K W (RZ.ItzT K a b) (zipD xs ys) := fun j W2 l => by
  have t2 := (t.mono l).sq
  have r2 := Reps.mono l _ _ r
  have t3 := (t'.mono l).sq
  have r3 := Reps.mono l _ _ r'
  refine ⟨fun d e => ?_, fun e => ⟨vs, us, t2, t3, ?_⟩⟩
  · obtain ⟨p, q, ep, eq, rfl⟩ := (zipD_get ..).mp e
    obtain ⟨v, ev, rv⟩ := r2.get ep
    obtain ⟨u, eu, ru⟩ := r3.get eq
    refine ⟨⟨vs, us, v, u, t2, t3, ev, eu⟩, fun x H' y => ?_⟩
    obtain ⟨T, x', y', rfl, hT, rfl, y1, y2⟩ := y
    have := y1 vs t2
    rw [ev] at this
    cases this
    have := y2 us t3
    rw [eu] at this
    cases this
    exact new_pair hT rv ru
  · have : (zipD xs ys).length = min xs.length ys.length := by unfold zipD; simp
    rw [this] at e
    rw [← r.length, ← r'.length]
    omega
theorem walks_zipL {a b : Addr} {xs ys : List D} {vs us : List V} (t : LstAt W a vs) (r : Reps K W xs vs) (t' : LstAt W b us) (r' : Reps K W ys us) : Walks1 K W (Itz K a b) (zipD xs ys) := fun j W2 l => by
  have t2 : SqL K W2.H a vs := (t.mono l).sq
  have r2 := Reps.mono l _ _ r
  have t3 : SqL K W2.H b us := (t'.mono l).sq
  have r3 := Reps.mono l _ _ r'
  refine ⟨fun d e => ?_, fun e => ⟨vs, us, t2, t3, ?_⟩⟩
  · obtain ⟨p, q, ep, eq, rfl⟩ := (zipD_get ..).mp e
    obtain ⟨v, ev, rv⟩ := r2.get ep
    obtain ⟨u, eu, ru⟩ := r3.get eq
    refine ⟨⟨vs, us, v, u, t2, t3, ev, eu⟩, fun x H' y => ?_⟩
    obtain ⟨T, x', y', rfl, hT, rfl, y1, y2⟩ := y
    have := y1 vs t2
    rw [ev] at this
    cases this
    have := y2 us t3
    rw [eu] at this
    cases this
    exact new_pair hT rv ru
  · have : (zipD xs ys).length = min xs.length ys.length := by unfold zipD; simp
    rw [this] at e
    rw [← r.length, ← r'.length]
    omega
end
def seqR (a : DE) : DA := fun τ h => (a τ h).bind fun d h1 => match d with
  | .tup xs => .ok xs h1
  | .lst xs => .ok xs h1
  | _ => .bad
def rngR1 (a : DE) : DA := fun τ h => (a τ h).bind fun d h1 => match d with
  | .int n => if decide (-(2 ^ 62) ≤ n) && decide (n < 2 ^ 62) then .ok (rangeD 0 n.toNat) h1 else .bad
  | _ => .bad
def rngR2 (a b : DE) : DA := fun τ h => (a τ h).bind fun x h1 => (b τ h1).bind fun y h2 => match x, y with
  | .int m, .int n => if (decide (-(2 ^ 62) ≤ m) && decide (m < 2 ^ 62)) && (decide (-(2 ^ 62) ≤ n) && decide (n < 2 ^ 62)) then .ok (rangeD m (n - m).toNat) h2 else .bad
  | _, _ => .bad
/-- range(a, b, -1) -/
def rngRm (a b : DE) : DA := fun τ h => (a τ h).bind fun x h1 => (b τ h1).bind fun y h2 => match x, y with
  | .int m, .int n => if (decide (-(2 ^ 62) ≤ m) && decide (m < 2 ^ 62)) && (decide (-(2 ^ 62) ≤ n) && decide (n < 2 ^ 62)) then .ok (rangeC m (-1) (m - n).toNat) h2 else .bad
  | _, _ => .bad
def enumR (a : DE) : DA := fun τ h => (a τ h).bind fun d h1 => match d with
  | .tup xs => .ok (enumD 0 xs) h1
  | .lst xs => .ok (enumD 0 xs) h1
  | _ => .bad
def zipR (a b : DE) : DA := fun τ h => (a τ h).bind fun x h1 => (b τ h1).bind fun y h2 => match x, y with
  | .tup xs, .tup ys => .ok (zipD xs ys) h2
  | .lst xs, .lst ys => .ok (zipD xs ys) h2
  | _, _ => .bad
section
variable {C : Cn} {tg a b : Expr} {fa fb : DE} {p pos tpos : Pos} {elts : List Expr} {kk : Nat}
theorem Rep.tupAt {K : PySem.W.Frag} {W : Wd} {xs : List D} {v : V} (h : Rep K W (.tup xs) v) : ∃ a vs, v = .ref a ∧ TupAt K W a vs ∧ Reps K W xs vs := by rwa [Rep] at h
theorem Rep.lstAt {K : PySem.W.Frag} {W : Wd} {xs : List D} {v : V} (h : Rep K W (.lst xs) v) : ∃ a vs, v = .ref a ∧ LstAt W a vs ∧ Reps K W xs vs := by rwa [Rep] at h
theorem den_iseq (ha : DenE C a fa) : DenI C tg a (seqR fa) := fun X E ok => by
  obtain ⟨t, pa, q⟩ := ha X E ok
  refine ⟨_, PI.or (pi_tup pa) (pi_list pa), fun W0 W τ σ h Q l fr rh o => ?_⟩
  have o : okG C.g.K C.g.mg (fun W' items J => Walks1 C.g.K W' J items) W (fun c dd H => E c dd σ H) Q (seqR fa τ h) := o
  cases e : fa τ h with
  | bad => exact (show False by unfold seqR at o; rw [e] at o; exact o).elim
  | exc x s =>
    refine .inl (q W0 W τ σ h _ l fr rh ?_)
    rw [e]
    unfold seqR at o
    rw [e] at o
    exact o
  | ok d s =>
    unfold seqR at o
    rw [e] at o
    cases d with
    | tup xs =>
      refine .inl (q W0 W τ σ h _ l fr rh ?_)
      rw [e]
      intro W' v l' rh' r
      obtain ⟨a, vs, rfl, t, r⟩ := r.tupAt
      exact ⟨a, rfl, ⟨vs, by rw [ok.K]; exact t.sq⟩, by rw [ok.K]; exact o W' _ l' rh' (walks_tup t r)⟩
    | lst xs =>
      refine .inr (q W0 W τ σ h _ l fr rh ?_)
      rw [e]
      intro W' v l' rh' r
      obtain ⟨a, vs, rfl, t, r⟩ := r.lstAt
      exact ⟨a, rfl, ⟨vs, by rw [ok.K]; exact t.sq⟩, by rw [ok.K]; exact o W' _ l' rh' (walks_lst t r)⟩
    | _ => exact o.elim
theorem den_irng1 (hg : glB C.sc "range" = true) (hm : C.g.mg "range" = none) (ha : DenB C a fa) (hs : ∀ env, starEach [a] env = [(false, eval a env)]) : DenI C tg (.Call (.Name "range" p) [a] [] pos) (rngR1 fa) := fun X E ok => by
  obtain ⟨t, pa, q⟩ := ha X E ok
  obtain ⟨g1, g2, g3⟩ := glB_ok ok hg
  refine ⟨_, pi_range1 g1 (by rw [ok.mg]; exact hm) (pa_cons pa pa_nil (hs _)) (hs _), fun W0 W τ σ h Q l fr rh o => ?_⟩
  refine q W0 W τ σ h _ l fr rh (okG.bind o fun x h1 W1 v l1 rh1 b1 o1 => ?_)
  cases x with
  | int n =>
    rw [b1.int]
    simp only at o1
    split at o1
    · rename_i hc
      simp only [Bool.and_eq_true, decide_eq_true_eq] at hc
      exact ⟨n, rfl, hc.1, hc.2, o1 W1 _ (.refl _) rh1 walks_rng⟩
    · exact o1.elim
  | _ => exact (show False from o1).elim
theorem den_irng2 (hg : glB C.sc "range" = true) (hm : C.g.mg "range" = none) (ha : DenB C a fa) (hb : DenB C b fb) (hs : ∀ env, starEach [a, b] env = [(false, eval a env), (false, eval b env)]) (hs2 : ∀ env, starEach [b] env = [(false, eval b env)]) : DenI C tg (.Call (.Name "range" p) [a, b] [] pos) (rngR2 fa fb) := fun X E ok => by
  obtain ⟨t, pa, q⟩ := ha X E ok
  obtain ⟨t', pb, q'⟩ := hb X E ok
  obtain ⟨g1, g2, g3⟩ := glB_ok ok hg
  refine ⟨_, pi_range2 g1 (by rw [ok.mg]; exact hm) (pa_cons pa (pa_cons pb pa_nil (hs2 _)) (by rw [hs, hs2])) (hs _) (hs2 _), fun W0 W τ σ h Q l fr rh o => ?_⟩
  refine q W0 W τ σ h _ l fr rh (okG.bind o fun x h1 W1 v l1 rh1 b1 o1 => ?_)
  refine q' W0 W1 τ σ h1 _ (l.trans l1) (fr.mono l1) rh1 (okG.bind o1 fun y h2 W2 u l2 rh2 b2 o2 => ?_)
  cases x with
  | int m =>
    cases y with
    | int n =>
      rw [b1.int, b2.int]
      simp only at o2
      split at o2
      · rename_i hc
        simp only [Bool.and_eq_true, decide_eq_true_eq] at hc
        exact ⟨m, n, rfl, ⟨hc.1.1, hc.1.2, hc.2.1, hc.2.2⟩, o2 W2 _ (.refl _) rh2 walks_rng⟩
      · exact o2.elim
    | _ => exact (show False from o2).elim
  | _ => exact (show False from o2).elim
theorem den_ienum (hg : glB C.sc "enumerate" = true) (hm : C.g.mg "enumerate" = none) (ha : DenE C a fa) (hs : ∀ env, starEach [a] env = [(false, eval a env)]) : DenI C (.Tuple elts kk tpos) (.Call (.Name "enumerate" p) [a] [] pos) (enumR fa) := fun X E ok => by
  obtain ⟨t, pa, q⟩ := ha X E ok
  obtain ⟨g1, g2, g3⟩ := glB_ok ok hg
  refine ⟨_, pi_enumA g1 (by rw [ok.mg]; exact hm) (pa_cons pa pa_nil (hs _)) (hs _), fun W0 W τ σ h Q l fr rh o => ?_⟩
  refine q W0 W τ σ h _ l fr rh (okG.bind o fun x h1 W1 v l1 rh1 b1 o1 => ?_)
  cases x with
  | tup xs =>
    obtain ⟨a, vs, rfl, t, r⟩ := b1.tupAt
    exact ⟨a, vs, rfl, .inr ⟨by rw [ok.K]; exact t.sq, by rw [ok.K]; exact o1 W1 _ (.refl _) rh1 (walks_enumT t r)⟩⟩
  | lst xs =>
    obtain ⟨a, vs, rfl, t, r⟩ := b1.lstAt
    exact ⟨a, vs, rfl, .inl ⟨by rw [ok.K]; exact t.sq, by rw [ok.K]; exact o1 W1 _ (.refl _) rh1 (walks_enumL t r)⟩⟩
  | _ => exact (show False from o1).elim
theorem den_izip (hg : glB C.sc "zip" = true) (hm : C.g.mg "zip" = none) (ha : DenE C a fa) (hb : DenE C b fb) (hs : ∀ env, starEach [a, b] env = [(false, eval a env), (false, eval b env)]) (hs2 : ∀ env, starEach [b] env = [(false, eval b env)]) :
    DenI C (.Tuple elts kk tpos) (.Call (.Name "zip" p) [a, b] [] pos) (zipR fa fb) := fun X E ok => by
  obtain ⟨t, pa, q⟩ := ha X E ok
  obtain ⟨t', pb, q'⟩ := hb X E ok
  obtain ⟨g1, g2, g3⟩ := glB_ok ok hg
  refine ⟨_, RZ.pi_zipA g1 (by rw [ok.mg]; exact hm) (pa_cons pa (pa_cons pb pa_nil (hs2 _)) (by rw [hs, hs2])) (by rw [hs, hs2]) (by rw [hs2]; rfl), fun W0 W τ σ h Q l fr rh o => ?_⟩
  refine q W0 W τ σ h _ l fr rh (okG.bind o fun x h1 W1 v l1 rh1 b1 o1 => ?_)
  refine q' W0 W1 τ σ h1 _ (l.trans l1) (fr.mono l1) rh1 (okG.bind o1 fun y h2 W2 u l2 rh2 b2 o2 => ?_)
  have b1 := b1.mono l2.toLeF
  cases x with
  | tup xs =>
    cases y with
    | tup ys =>
      obtain ⟨a, vs, rfl, t, r⟩ := b1.tupAt
      obtain ⟨b, us, rfl, t', r'⟩ := b2.tupAt
      exact ⟨a, b, vs, us, rfl, .inr ⟨by rw [ok.K]; exact t.sq, by rw [ok.K]; exact t'.sq, by rw [ok.K]; exact o2 W2 _ (.refl _) rh2 (walks_zipT t r t' r')⟩⟩
    | _ => exact (show False from o2).elim
  | lst xs =>
    cases y with
    | lst ys =>
      obtain ⟨a, vs, rfl, t, r⟩ := b1.lstAt
      obtain ⟨b, us, rfl, t', r'⟩ := b2.lstAt
      exact ⟨a, b, vs, us, rfl, .inl ⟨by rw [ok.K]; exact t.sq, by rw [ok.K]; exact t'.sq, by rw [ok.K]; exact o2 W2 _ (.refl _) rh2 (walks_zipL t r t' r')⟩⟩
    | _ => exact (show False from o2).elim
  | _ => exact (show False from o2).elim
end
end Sw

/-! Sw, part G: targets, comprehensions. -/
namespace Sw
open PySem PySem.Spec PyProof.Rows L2

/-! ### a frame's slots set -/
section
variable {K : PySem.W.Frag} {W0 W : Wd} {τ : List Sl} {σ : L2.St}
theorem Frm.set (f : Frm K W0 W τ σ) {d : D} {v : V} (i : Nat) (r : Rep K W d v) : Frm K W0 W (τ.set i (.val d)) (σ.set i (some v)) where
  len := by simp [f.len]
  at_ := fun j x e => by
    by_cases hj : i = j
    · subst hj
      by_cases hi : i < τ.length
      · rw [List.getElem?_set_self hi] at e
        cases e
        exact ⟨v, List.getElem?_set_self (by rw [← f.len]; exact hi), r⟩
      · rw [List.getElem?_eq_none (by simpa using hi)] at e; cases e
    · rw [List.getElem?_set_ne hj] at e ⊢
      exact f.at_ j x e
  dis := fun a b x y ad ne e1 e2 o1 o2 => by
    have h1 : i ≠ a := fun z => by
      subst z
      by_cases hi : i < τ.length
      · rw [List.getElem?_set_self hi] at e1; cases e1; cases o1
      · rw [List.getElem?_eq_none (by simpa using hi)] at e1; cases e1
    have h2 : i ≠ b := fun z => by
      subst z
      by_cases hi : i < τ.length
      · rw [List.getElem?_set_self hi] at e2; cases e2; cases o2
      · rw [List.getElem?_eq_none (by simpa using hi)] at e2; cases e2
    rw [List.getElem?_set_ne h1] at e1 ⊢
    rw [List.getElem?_set_ne h2] at e2 ⊢
    exact f.dis a b x y ad ne e1 e2 o1 o2
theorem Frm.drop (f : Frm K W0 W τ σ) (i : Nat) : Frm K W0 W (τ.set i .un) (σ.set i none) where
  len := by simp [f.len]
  at_ := fun j x e => by
    by_cases hj : i = j
    · subst hj
      by_cases hi : i < τ.length
      · rw [List.getElem?_set_self hi] at e
        cases e
        trivial
      · rw [List.getElem?_eq_none (by simpa using hi)] at e; cases e
    · rw [List.getElem?_set_ne hj] at e ⊢
      exact f.at_ j x e
  dis := fun a b x y ad ne e1 e2 o1 o2 => by
    have h1 : i ≠ a := fun z => by
      subst z
      by_cases hi : i < τ.length
      · rw [List.getElem?_set_self hi] at e1; cases e1; cases o1
      · rw [List.getElem?_eq_none (by simpa using hi)] at e1; cases e1
    have h2 : i ≠ b := fun z => by
      subst z
      by_cases hi : i < τ.length
      · rw [List.getElem?_set_self hi] at e2; cases e2; cases o2
      · rw [List.getElem?_eq_none (by simpa using hi)] at e2; cases e2
    rw [List.getElem?_set_ne h1] at e1 ⊢
    rw [List.getElem?_set_ne h2] at e2 ⊢
    exact f.dis a b x y ad ne e1 e2 o1 o2
def wipeT (τ : List Sl) : List Nat → List Sl
  | [] => τ
  | v :: vs => (wipeT τ vs).set v .un
theorem Frm.wipe (f : Frm K W0 W τ σ) : ∀ vs : List Nat, Frm K W0 W (wipeT τ vs) (wipe σ vs)
  | [] => f
  | v :: vs => (Frm.wipe f vs).drop v
theorem wipe_get (σ : L2.St) (i : Nat) : ∀ vs : List Nat, (L2.wipe σ vs)[i]? = if i ∈ vs then (if i < σ.length then some none else none) else σ[i]?
  | [] => by simp [L2.wipe]
  | v :: vs => by
    unfold L2.wipe
    by_cases h : v = i
    · subst h
      rw [if_pos (List.mem_cons_self ..)]
      by_cases hl : v < σ.length
      · rw [if_pos hl, List.getElem?_set_self (by rw [wipe_length]; exact hl)]
      · rw [if_neg hl, List.getElem?_eq_none (by rw [List.length_set, wipe_length]; omega)]
    · rw [List.getElem?_set_ne h, wipe_get σ i vs]
      by_cases h2 : i ∈ vs
      · rw [if_pos h2, if_pos (List.mem_cons_of_mem _ h2)]
      · rw [if_neg h2, if_neg (fun z => (List.mem_cons.mp z).elim (fun q => h q.symm) h2)]
theorem wipe_same {σ σ' : L2.St} {vs : List Nat} (hl : σ'.length = σ.length) (h : ∀ i, i ∉ vs → σ'[i]? = σ[i]?) : L2.wipe σ' vs = L2.wipe σ vs := by
  apply List.ext_getElem?
  intro i
  rw [wipe_get, wipe_get, hl]
  by_cases z : i ∈ vs
  · rw [if_pos z, if_pos z]
  · rw [if_neg z, if_neg z, h i z]
theorem wipe_wipe {σ : L2.St} {vs : List Nat} : L2.wipe (L2.wipe σ vs) vs = L2.wipe σ vs := wipe_same (wipe_length σ vs) fun i z => by rw [wipe_get, if_neg z]
end

/-! ### targets -/
abbrev GT := D → List Sl → Option (List Sl)
/-- the target writes the slots is -/
def DenGt (C : Cn) (tg : Expr) (is : List Nat) (g : GT) : Prop := ∀ X E, CxOk C X E → ∃ t : TG, PG X tg t ∧ ∀ W0 W τ σ d v τ' (Q : L2.St → Hp → Prop), Frm C.g.K W0 W τ σ → Rep C.g.K W d v → g d τ = some τ' →
  (∀ σ', Frm C.g.K W0 W τ' σ' → σ'.length = σ.length → (∀ i, i ∉ is → σ'[i]? = σ[i]?) → (∀ (i : Nat) (x : Sl), τ'[i]? = some x → x.isOwn = true → τ[i]? = some x ∧ σ'[i]? = σ[i]?) → Q σ' W.H) → t v σ W.H Q
def DenGs (C : Cn) (ts : List Expr) (is : List Nat) (g : List D → List Sl → Option (List Sl)) : Prop := ∀ X E, CxOk C X E → ∃ t : TGs, PGs X ts t ∧ ∀ W0 W τ σ ds vs τ' (Q : L2.St → Hp → Prop), Frm C.g.K W0 W τ σ → Reps C.g.K W ds vs → g ds τ = some τ' →
  (∀ σ', Frm C.g.K W0 W τ' σ' → σ'.length = σ.length → (∀ i, i ∉ is → σ'[i]? = σ[i]?) → (∀ (i : Nat) (x : Sl), τ'[i]? = some x → x.isOwn = true → τ[i]? = some x ∧ σ'[i]? = σ[i]?) → Q σ' W.H) → t vs σ W.H Q
def gN (i : Nat) : GT := fun d τ => some (τ.set i (.val d))
def gNilT : List D → List Sl → Option (List Sl)
  | [], τ => some τ
  | _, _ => none
def gConsT (g : GT) (r : List D → List Sl → Option (List Sl)) : List D → List Sl → Option (List Sl)
  | d :: ds, τ => (g d τ).bind (r ds)
  | [], _ => none
def gT (r : List D → List Sl → Option (List Sl)) : GT
  | .tup ds, τ => r ds τ
  | _, _ => none
/-- the name x stands in slot i, and can be stored -/
def stB (N : List Str) (sc : Scope) (fn : Str → Bool) (x : Str) (i : Nat) : Bool :=
  decide (N[i]? = some x) && (match sc.names.lookup x with | some .local => true | some .cell => fn x | _ => false)
theorem stB_ok {C : Cn} {X : Cx} {E : WX} (ok : CxOk C X E) {x : Str} {i : Nat} (h : stB C.N C.sc C.fn x i = true) : X.N[i]? = some x ∧ L2.Loc X.env.scope x ∧ (X.fn x = true ∨ X.env.scope.names.lookup x = some .local) := by
  unfold stB at h
  rw [Bool.and_eq_true, decide_eq_true_eq] at h
  obtain ⟨h1, h2⟩ := h
  refine ⟨by rw [ok.names]; exact h1, ?_⟩
  unfold L2.Loc
  rw [ok.scope]
  cases q : C.sc.names.lookup x with
  | none => rw [q] at h2; cases h2
  | some k =>
    rw [q] at h2
    cases k <;> first | exact ⟨.inl rfl, .inr rfl⟩ | exact ⟨.inr rfl, .inl (ok.fnk x h2)⟩ | cases h2
section
variable {C : Cn} {x : Str} {pos : Pos} {i k n : Nat} {tg : Expr} {ts : List Expr} {is js : List Nat} {g : GT} {r : List D → List Sl → Option (List Sl)}
theorem den_gname (h : stB C.N C.sc C.fn x i = true) : DenGt C (.Name x pos) [i] (gN i) := fun X E ok => by
  obtain ⟨h1, h2, h3⟩ := stB_ok ok h
  refine ⟨_, pg_name ok.nd h1 h2 h3, fun W0 W τ σ d v τ' Q fr rp e k => ?_⟩
  cases e
  refine k _ (fr.set i rp) (by simp) (fun j hj => ?_) fun j x ej ox => ?_
  · exact List.getElem?_set_ne fun z => hj (by rw [z]; exact List.mem_singleton.mpr rfl)
  · have hj : i ≠ j := fun z => by
      subst z
      by_cases hi : i < τ.length
      · rw [List.getElem?_set_self hi] at ej; cases ej; cases ox
      · rw [List.getElem?_eq_none (by simpa using hi)] at ej; cases ej
    rw [List.getElem?_set_ne hj] at ej
    exact ⟨ej, List.getElem?_set_ne hj⟩
theorem den_gnil : DenGs C [] [] gNilT := fun X E ok => ⟨_, pgs_nil, fun W0 W τ σ ds vs τ' Q fr rp e k => by
  cases ds with
  | nil =>
    cases e
    rw [Reps] at rp
    exact ⟨rp, k σ fr rfl (fun _ _ => rfl) fun _ _ e _ => ⟨e, rfl⟩⟩
  | cons _ _ => cases e⟩
theorem den_gcons (h1 : DenGt C tg is g) (h2 : DenGs C ts js r) (hs : ∀ env, (assignEach (tg :: ts) env).map (·.2) = assign tg env :: (assignEach ts env).map (·.2)) : DenGs C (tg :: ts) (is ++ js) (gConsT g r) := fun X E ok => by
  obtain ⟨t, p, q⟩ := h1 X E ok
  obtain ⟨t', p', q'⟩ := h2 X E ok
  refine ⟨_, pgs_cons p p' (hs _), fun W0 W τ σ ds vs τ' Q fr rp e k => ?_⟩
  cases ds with
  | nil => cases e
  | cons d ds =>
    rw [Reps] at rp
    obtain ⟨v, us, rfl, r1, r2⟩ := rp
    have e : (g d τ).bind (r ds) = some τ' := e
    obtain ⟨τ1, e1, e2⟩ := Option.bind_eq_some_iff.mp e
    refine ⟨v, us, rfl, q W0 W τ σ d v τ1 _ fr r1 e1 fun σ1 fr1 l1 s1 o1 => ?_⟩
    refine q' W0 W τ1 σ1 ds us τ' _ fr1 r2 e2 fun σ2 fr2 l2 s2 o2 => ?_
    exact k σ2 fr2 (l2.trans l1) (fun j hj => (s2 j fun z => hj (List.mem_append_right _ z)).trans (s1 j fun z => hj (List.mem_append_left _ z))) fun j x ej ox => by
      obtain ⟨a1, a2⟩ := o2 j x ej ox
      obtain ⟨b1, b2⟩ := o1 j x a1 ox
      exact ⟨b1, a2.trans b2⟩
theorem den_gtup (h : DenGs C ts is r) (hn : ∀ env, (assignEach ts env).length = n) (hst : ∀ env, (assignEach ts env).findIdx? (·.1) = none) (hl : ∀ ds τ τ', r ds τ = some τ' → ds.length = n) : DenGt C (.Tuple ts k pos) is (gT r) := fun X E ok => by
  obtain ⟨t, p, q⟩ := h X E ok
  refine ⟨_, pg_tup ok.calm p (hn _) (hst _), fun W0 W τ σ d v τ' Q fr rp e k => ?_⟩
  cases d with
  | tup ds =>
    obtain ⟨a, vs, rfl, t, r1⟩ := rp.tupAt
    exact ⟨a, vs, rfl, by rw [ok.K]; exact t.sq, by rw [← r1.length]; exact hl _ _ _ e, q W0 W τ σ ds vs τ' _ fr r1 e k⟩
  | _ => cases e
theorem gnil_len : ∀ (ds : List D) (τ τ' : List Sl), gNilT ds τ = some τ' → ds.length = 0
  | [], _, _, _ => rfl
  | _ :: _, _, _, h => by cases h
theorem gcons_len {n : Nat} (h : ∀ (ds : List D) (τ τ' : List Sl), r ds τ = some τ' → ds.length = n) : ∀ (ds : List D) (τ τ' : List Sl), gConsT g r ds τ = some τ' → ds.length = n + 1
  | [], _, _, e => by cases e
  | d :: ds, τ, τ', e => by
    have e : (g d τ).bind (r ds) = some τ' := e
    obtain ⟨τ1, e1, e2⟩ := Option.bind_eq_some_iff.mp e
    rw [List.length_cons, h ds τ1 τ' e2]
end

/-! ### list comprehensions -/
def Res.nox {α : Type} : Res α → Res α
  | .exc _ _ => .bad
  | r => r
theorem okG.bindN {K : PySem.W.Frag} {mg : Str → Option Value} {α β α' β' : Type} {Rel : Wd → α → β → Prop} {Rel' : Wd → α' → β' → Prop} {W W2 : Wd} {E E2 : XK} {Q : β → Hp → Prop} {Q' : β' → Hp → Prop} {r : Res α} {g : α → HS → Res α'}
    (h : okG K mg Rel' W E Q' (r.nox.bind g)) (k : ∀ a s W1 b, Le W2 W1 → RH K W1 s → Rel W1 a b → okG K mg Rel' W E Q' (g a s) → Q b W1.H) : okG K mg Rel W2 E2 Q r := by
  cases r with
  | ok a s => exact fun W1 b l2 rh re => k a s W1 b l2 rh re h
  | exc x s => exact h.elim
  | bad => exact h
/-- the items made by one clause, from the slots τ -/
def lcL (g : GT) (tt : DT) (te : DE) (τ : List Sl) : List D → HS → Res (List D)
  | [], h => .ok [] h
  | x :: r, h => match g x τ with
    | none => .bad
    | some τ1 => (tt τ1 h).nox.bind fun b h1 => if b then (te τ1 h1).nox.bind fun y h2 => (lcL g tt te τ r h2).nox.bind fun ys h3 => .ok (y :: ys) h3 else lcL g tt te τ r h1
def lcR (it : DA) (vs : List Nat) (g : GT) (tt : DT) (te : DE) : DE := fun τ h => (it τ h).bind fun items h1 => if fits items.length then (lcL g tt te (wipeT τ vs) items h1).nox.bind fun ys h2 => .ok (.lst ys) h2 else .bad
abbrev Cn.blk (C : Cn) (scope : Scope) : Cn := { C with sc := relS scope C.sc, fn := fun x => scope.names.lookup x == some .cell }
theorem takes_no {X : Cx} : Takes X (fun _ _ _ _ => False) := fun _ _ x => by
  obtain ⟨_, _, _, _, _, _, _, _, _, _, _, _, _, _, _, _, z⟩ := x
  exact z.elim
theorem CxOk.blk {C : Cn} {X : Cx} {E : WX} (ok : CxOk C X E) (scope : Scope) (s : Shared) (H : Hp) (Cd : Addr) (cl : List (Str × Addr)) (fp : List Addr) : CxOk (C.blk scope) (X.blk s H scope (compEnvC scope cl Cd X.env) fp) (fun _ _ _ _ => False) where
  prog := ok.prog
  w := ok.w
  K := ok.K
  mg := ok.mg
  base := ok.base
  names := ok.names
  nd := ok.nd
  scope := by show relS scope X.env.scope = relS scope C.sc; rw [ok.scope]
  calm := ok.calm
  room := ok.room
  takes := takes_no
  own := PassesOwn.never
  fnk := fun x h => h
/-- a clause's tests -/
def DenTs (C : Cn) (ifs : List Expr) (f : DT) : Prop := DenG C (fun X t => PTs X ifs t) (fun _ _ a b => a = b) f
theorem den_tsnil {C : Cn} : DenTs C [] (fun _ h => .ok true h) := fun X E ok => ⟨_, pts_nil, fun W0 W τ σ h Q l fr rh o => okG.now o rh rfl⟩
theorem den_tsone {C : Cn} {c : Expr} {f : DT} (h : DenT C c f) : DenTs C [c] f := fun X E ok => by
  obtain ⟨t, p, q⟩ := h X E ok
  exact ⟨_, pts_one p, q⟩
/-- the own object D of a comprehension is written -/
theorem le_own {W W2 : Wd} {Dd : Addr} {o : HO} (l : Le W W2) (n : W.H Dd = none) (nF : ¬ W2.F Dd) : Le W (W2.put Dd o) where
  fr := l.fr
  st := fun a u f r => by
    have ha : a ≠ Dd := fun z => Rd.ne r (z ▸ n)
    rcases l.st a u f r with q | ⟨ob, q⟩
    · exact .inl (by rw [← q]; exact upd_ne ha)
    · exact .inr ⟨ob, by rw [← q]; exact upd_ne ha⟩
  sl := fun a xs f r => by rw [← l.sl a xs f r]; exact upd_ne (ne_of_none r n)
  rh := l.rh
  fo := fun a ob e h1 h2 => by
    obtain ⟨b1, b2, b3⟩ := l.fo a ob e h1 h2
    exact ⟨by rw [← b1]; exact upd_ne (ne_of_none e n), b2, b3⟩
theorem lef_own {W2 : Wd} {Dd : Addr} {o : HO} (nF : ¬ W2.F Dd) : LeF W2 (W2.put Dd o) where
  fr := fun _ f => f
  st := fun a u f r => by
    have ha : a ≠ Dd := fun z => nF (z ▸ f)
    rcases r with q | ⟨ob, q⟩
    · exact .inl (by rw [← q]; exact upd_ne ha)
    · exact .inr ⟨ob, by rw [← q]; exact upd_ne ha⟩
  sl := fun a xs f r => by rw [← r]; exact upd_ne fun z => nF (z ▸ f)
  rh := List.prefix_refl _
theorem rh_own {K : PySem.W.Frag} {W2 : Wd} {h : HS} {Dd : Addr} {o : HO} (rh : RH K W2 h) (nF : ¬ W2.F Dd) (nr : Dd ∉ W2.ρ) : RH K (W2.put Dd o) h where
  len := rh.len
  nd := rh.nd
  at_ := fun i xs a e1 e2 => by
    obtain ⟨vs, q, r⟩ := rh.at_ i xs a e1 e2
    have ha : a ≠ Dd := fun z => nr (z ▸ List.mem_of_getElem? e2)
    exact ⟨vs, by rw [← q]; exact upd_ne ha, Reps.mono (lef_own nF) _ _ r⟩
  nf := rh.nf
  up := fun a f => by
    have ha : a ≠ Dd := fun z => nF (z ▸ f)
    show upd W2.H Dd o a ≠ none
    rw [upd_ne ha]
    exact rh.up a f
/-- the own list D holds the data accD -/
structure OwnL (K : PySem.W.Frag) (W1 W2 : Wd) (Dd : Addr) (acc : List D) (h : HS) : Prop where
  le : Le W1 W2
  rh : RH K W2 h
  obj : ∃ vs, W2.H Dd = some (.lst vs) ∧ Reps K W2 acc vs
  nF : ¬ W2.F Dd
  nr : Dd ∉ W2.ρ
theorem OwnL.step {K : PySem.W.Frag} {W1 W2 W3 : Wd} {Dd : Addr} {acc : List D} {h h' : HS} (w : OwnL K W1 W2 Dd acc h) (l : Le W2 W3) (rh : RH K W3 h') : OwnL K W1 W3 Dd acc h' := by
  obtain ⟨vs, e, r⟩ := w.obj
  obtain ⟨b1, b2, b3⟩ := l.fo Dd _ e w.nF w.nr
  exact ⟨w.le.trans l, rh, ⟨vs, b1, r.mono l.toLeF⟩, b2, b3⟩
theorem OwnL.app {K : PySem.W.Frag} {W1 W2 : Wd} {Dd : Addr} {acc : List D} {h : HS} {d : D} {v : V} {vs : List V} (w : OwnL K W1 W2 Dd acc h) (n : W1.H Dd = none) (e : W2.H Dd = some (.lst vs)) (r : Rep K W2 d v) :
    OwnL K W1 (W2.put Dd (.lst (vs ++ [v]))) Dd (acc ++ [d]) h := by
  obtain ⟨vs', e', r'⟩ := w.obj
  rw [e] at e'
  cases e'
  exact ⟨le_own w.le n w.nF, rh_own w.rh w.nF w.nr, ⟨_, upd_same, Reps.mono (lef_own w.nF) _ _ (r'.append (.one r))⟩, w.nF, w.nr⟩
/-- a reading for many contexts at once -/
theorem DenG.unif {C : Cn} {α β ι : Type} {J : Cx → (L2.St → Hp → (β → Hp → Prop) → Prop) → Prop} {Rel : Wd → Wd → α → β → Prop} {f : List Sl → HS → Res α} (h : DenG C J Rel f) (Xs : ι → Cx) (E : WX) (oks : ∀ i, CxOk C (Xs i) E)
    (mono : ∀ X t t', J X t → (∀ σ H Q, t' σ H Q → t σ H Q) → J X t') : ∃ t, (∀ i, J (Xs i) t) ∧ ∀ W0 W τ σ h (Q : β → Hp → Prop), Le W0 W → Frm C.g.K W0 W τ σ → RH C.g.K W h →
      okG C.g.K C.g.mg (Rel W) W (fun c dd H => E c dd σ H) Q (f τ h) → t σ W.H Q :=
  ⟨fun σ H Q => ∀ i, Classical.choose (h (Xs i) E (oks i)) σ H Q, fun i => mono _ _ _ (Classical.choose_spec (h (Xs i) E (oks i))).1 fun σ H Q q => q i,
    fun W0 W τ σ s Q l fr rh o i => (Classical.choose_spec (h (Xs i) E (oks i))).2 W0 W τ σ s Q l fr rh o⟩
theorem PE.anti {X : Cx} {e : Expr} {t t' : TE} (h : PE X e t) (k : ∀ σ H Q, t' σ H Q → t σ H Q) : PE X e t' := ⟨fun pins s σ H Q I q => h.run pins s σ H Q I (k _ _ _ q)⟩
theorem PTs.anti {X : Cx} {e : List Expr} {t t' : TT} (h : PTs X e t) (k : ∀ σ H Q, t' σ H Q → t σ H Q) : PTs X e t' := ⟨fun pins s σ H Q I q => h.run pins s σ H Q I (k _ _ _ q)⟩
theorem PI.anti {X : Cx} {tg e : Expr} {t t' : TI} (h : PI X tg e t) (k : ∀ σ H Q, t' σ H Q → t σ H Q) : PI X tg e t' := ⟨fun pins s σ H Q I q => h.run pins s σ H Q I (k _ _ _ q)⟩
theorem PG.anti {X : Cx} {e : Expr} {t t' : TG} (h : PG X e t) (k : ∀ v σ H Q, t' v σ H Q → t v σ H Q) : PG X e t' := ⟨fun pins s σ H v u Q I r q => h.run pins s σ H v u Q I r (k _ _ _ _ q)⟩
theorem DenGt.unif {C : Cn} {ι : Type} {tg : Expr} {is : List Nat} {g : GT} (h : DenGt C tg is g) (Xs : ι → Cx) (E : WX) (oks : ∀ i, CxOk C (Xs i) E) :
    ∃ t : TG, (∀ i, PG (Xs i) tg t) ∧ ∀ W0 W τ σ d v τ' (Q : L2.St → Hp → Prop), Frm C.g.K W0 W τ σ → Rep C.g.K W d v → g d τ = some τ' →
      (∀ σ', Frm C.g.K W0 W τ' σ' → σ'.length = σ.length → (∀ i, i ∉ is → σ'[i]? = σ[i]?) → (∀ (i : Nat) (x : Sl), τ'[i]? = some x → x.isOwn = true → τ[i]? = some x ∧ σ'[i]? = σ[i]?) → Q σ' W.H) → t v σ W.H Q :=
  ⟨fun v σ H Q => ∀ i, Classical.choose (h (Xs i) E (oks i)) v σ H Q, fun i => PG.anti (Classical.choose_spec (h (Xs i) E (oks i))).1 fun v σ H Q q => q i,
    fun W0 W τ σ d v τ' Q fr r e k i => (Classical.choose_spec (h (Xs i) E (oks i))).2 W0 W τ σ d v τ' Q fr r e k⟩
structure BI where
  s : Shared
  H : Hp
  C : Addr
  cl : List (Str × Addr)
  fp : List Addr
abbrev bX (X : Cx) (scope : Scope) (i : BI) : Cx := X.blk i.s i.H scope (compEnvC scope i.cl i.C X.env) i.fp
section
variable {C : Cn} {elt tg iter : Expr} {ifs : List Expr} {scope : Scope} {own : List (Str × Nat)} {pos : Pos} {fi : DA} {g : GT} {is : List Nat} {ft : DT} {fe : DE}
theorem lcL_cons {g : GT} {tt : DT} {te : DE} {τ : List Sl} {x : D} {r : List D} {h : HS} : lcL g tt te τ (x :: r) h = match g x τ with
    | none => .bad
    | some τ1 => (tt τ1 h).nox.bind fun b h1 => if b then (te τ1 h1).nox.bind fun y h2 => (lcL g tt te τ r h2).nox.bind fun ys h3 => .ok (y :: ys) h3 else lcL g tt te τ r h1 := rfl
/-- behind acc: the rest of the items -/
theorem okG.accu {K : PySem.W.Frag} {mg : Str → Option Value} {β : Type} {Rel : Wd → D → β → Prop} {W : Wd} {E : XK} {Q : β → Hp → Prop} {acc : List D} {y : D} {r : Res (List D)}
    (o : okG K mg Rel W E Q ((r.nox.bind fun ys h3 => .ok (y :: ys) h3).nox.bind fun ys h2 => .ok (.lst (acc ++ ys)) h2)) : okG K mg Rel W E Q (r.nox.bind fun ys h2 => .ok (.lst ((acc ++ [y]) ++ ys)) h2) := by
  cases r with
  | ok ys s =>
    have o : okG K mg Rel W E Q (.ok (.lst (acc ++ y :: ys)) s) := o
    show okG K mg Rel W E Q (.ok (.lst ((acc ++ [y]) ++ ys)) s)
    rw [List.append_assoc]
    exact o
  | exc x s => exact o
  | bad => exact o
theorem lc_read {X : Cx} {E : WX} (ok : CxOk C X E) (hi : DenI C tg iter fi) (ho : ∀ i ∈ is, i ∈ own.map (·.2)) (hg : DenGt (C.blk scope) tg is g) (ht : DenTs (C.blk scope) ifs ft) (he : DenE (C.blk scope) elt fe) :
    ∃ (wi : TI) (gt : TG) (tt : TT) (te : TE), PI X tg iter wi ∧ (∀ i, PG (bX X scope i) tg gt) ∧ (∀ i, PTs (bX X scope i) ifs tt) ∧ (∀ i, PE (bX X scope i) elt te) ∧
      ∀ W0 W τ σ h (Q : VK), Le W0 W → Frm C.g.K W0 W τ σ → RH C.g.K W h → okG C.g.K C.g.mg (NewR C.g.K W) W (fun c dd H => E c dd σ H) Q (lcR fi (own.map (·.2)) g ft fe τ h) → tLc wi gt tt te (own.map (·.2)) σ W.H Q := by
  obtain ⟨wi, pi, qi⟩ := hi X E ok
  have oks : ∀ i : BI, CxOk (C.blk scope) (bX X scope i) (fun _ _ _ _ => False) := fun i => ok.blk scope i.s i.H i.C i.cl i.fp
  obtain ⟨gt, pg, qg⟩ := hg.unif (bX X scope) _ oks
  obtain ⟨tt, pt, qt⟩ := ht.unif (bX X scope) _ oks fun X t t' p k => PTs.anti p k
  obtain ⟨te, pe, qe⟩ := he.unif (bX X scope) _ oks fun X t t' p k => PE.anti p k
  refine ⟨wi, gt, tt, te, pi, pg, pt, pe, fun W0 W τ σ h Q l fr rh o => ?_⟩
  refine qi W0 W τ σ h _ l fr rh (okG.bind o fun items h1 W1 J l1 rh1 wk o1 => ?_)
  intro Dd hD
  have hz : fits items.length = true := Classical.byContradiction fun hz => by rw [if_neg hz] at o1; exact o1.elim
  rw [if_pos hz] at o1
  have hz : items.length ≤ sizeLine := of_decide_eq_true hz
  let vs := own.map (·.2)
  let τ0 := wipeT τ vs
  refine ⟨fun i m H => m = items.length - i ∧ i ≤ items.length ∧ ∃ W2 acc h2, W2.H = H ∧ OwnL C.g.K W1 W2 Dd acc h2 ∧ acc.length ≤ i ∧
    okG C.g.K C.g.mg (NewR C.g.K W) W1 (fun c dd H => E c dd σ H) Q ((lcL g ft fe τ0 (items.drop i) h2).nox.bind fun ys h2 => .ok (.lst (acc ++ ys)) h2), ⟨items.length, by simp, Nat.zero_le _, W1.put Dd (.lst []), [], h1, rfl, ?_, Nat.le_refl _, ?_⟩, ?_⟩
  · exact ⟨le_put hD, rh_put hD rh1, ⟨[], upd_same, .nil⟩, fun f => rh1.up _ f hD, fun m => rh1.there m hD⟩
  · rw [List.drop_zero]; exact o1
  rintro i m H ⟨rfl, hi, W2, acc, h2, rfl, w, hacc, o2⟩
  by_cases hlt : i < items.length
  · have hdrop : items.drop i = items[i] :: items.drop (i + 1) := List.drop_eq_getElem_cons hlt
    rw [hdrop, lcL_cons] at o2
    have hit : items[i]? = some items[i] := List.getElem?_eq_getElem hlt
    obtain ⟨hgo, hy⟩ := (wk i W2 w.le.toLeF).1 _ hit
    refine .inr ⟨hgo, fun H' => ∃ W3 acc h3, W3.H = H' ∧ OwnL C.g.K W1 W3 Dd acc h3 ∧ acc.length ≤ i + 1 ∧
      okG C.g.K C.g.mg (NewR C.g.K W) W1 (fun c dd H => E c dd σ H) Q ((lcL g ft fe τ0 (items.drop (i + 1)) h3).nox.bind fun ys h2 => .ok (.lst (acc ++ ys)) h2), fun H' hN => ⟨items.length - (i + 1), by omega, rfl, hlt, hN⟩, fun x H' y => ?_⟩
    obtain ⟨W3, rfl, l3, k3, r3⟩ := hy x H' y
    have w3 := w.step l3 (k3 _ w.rh)
    have fr3 : Frm C.g.K W0 W3 τ0 (L2.wipe σ vs) := (fr.mono ((l1.trans w.le).trans l3)).wipe vs
    have le03 : Le W0 W3 := (l.trans (l1.trans w.le)).trans l3
    cases eg : g items[i] τ0 with
    | none => rw [eg] at o2; exact o2.elim
    | some τ1 =>
      rw [eg] at o2
      refine qg W0 W3 τ0 _ items[i] x τ1 _ fr3 r3 eg fun σ2 fr4 hl2 hs2 _ => ⟨?_, ?_⟩
      · rw [wipe_same (σ := L2.wipe σ vs) (σ' := σ2) (vs := vs) hl2 fun j hj => hs2 j fun z => hj (ho j z), wipe_wipe]
      · have o2 : okG C.g.K C.g.mg (NewR C.g.K W) W1 (fun c dd H => E c dd σ H) Q (((ft τ1 h2).nox.bind fun b h1 => if b then (fe τ1 h1).nox.bind fun y h2 => (lcL g ft fe τ0 (items.drop (i + 1)) h2).nox.bind fun ys h3 => .ok (y :: ys) h3 else lcL g ft fe τ0 (items.drop (i + 1)) h1).nox.bind fun ys h2 => .ok (.lst (acc ++ ys)) h2) := o2
        cases et : ft τ1 h2 with
        | exc _ _ => rw [et] at o2; exact o2.elim
        | bad => rw [et] at o2; exact o2.elim
        | ok b h4 =>
          refine qt W0 W3 τ1 σ2 h2 _ le03 fr4 w3.rh ?_
          rw [et] at o2 ⊢
          intro W4 b' l4 rh4 hb'
          subst hb'
          have w4 := w3.step l4 rh4
          cases b with
          | false =>
            refine iteF ⟨W4, acc, h4, rfl, w4, Nat.le_succ_of_le hacc, o2⟩
          | true =>
            refine iteT ?_
            cases ee : fe τ1 h4 with
            | exc _ _ =>
              have o2 : okG C.g.K C.g.mg (NewR C.g.K W) W1 (fun c dd H => E c dd σ H) Q (((fe τ1 h4).nox.bind fun y h2 => (lcL g ft fe τ0 (items.drop (i + 1)) h2).nox.bind fun ys h3 => .ok (y :: ys) h3).nox.bind fun ys h2 => .ok (.lst (acc ++ ys)) h2) := o2
              rw [ee] at o2; exact o2.elim
            | bad =>
              have o2 : okG C.g.K C.g.mg (NewR C.g.K W) W1 (fun c dd H => E c dd σ H) Q (((fe τ1 h4).nox.bind fun y h2 => (lcL g ft fe τ0 (items.drop (i + 1)) h2).nox.bind fun ys h3 => .ok (y :: ys) h3).nox.bind fun ys h2 => .ok (.lst (acc ++ ys)) h2) := o2
              rw [ee] at o2; exact o2.elim
            | ok d h5 =>
              have o2 : okG C.g.K C.g.mg (NewR C.g.K W) W1 (fun c dd H => E c dd σ H) Q (((fe τ1 h4).nox.bind fun y h2 => (lcL g ft fe τ0 (items.drop (i + 1)) h2).nox.bind fun ys h3 => .ok (y :: ys) h3).nox.bind fun ys h2 => .ok (.lst (acc ++ ys)) h2) := o2
              refine qe W0 W4 τ1 σ2 h4 _ (le03.trans l4) (fr4.mono l4) rh4 ?_
              rw [ee] at o2 ⊢
              intro W5 yv l5 rh5 r5
              have w5 := w4.step l5 rh5
              obtain ⟨avs, ea, ra⟩ := w5.obj
              refine ⟨avs, ea, ?_, W5.put Dd (.lst (avs ++ [yv])), acc ++ [d], h5, rfl, w5.app hD ea r5, ?_, okG.accu o2⟩
              · rw [← ra.length]; omega
              · rw [List.length_append]; simp; omega
  · have e : i = items.length := by omega
    subst e
    rw [List.drop_length] at o2
    obtain ⟨avs, ea, ra⟩ := w.obj
    refine .inl ⟨(wk _ W2 w.le.toLeF).2 rfl, ?_⟩
    have o3 : okG C.g.K C.g.mg (NewR C.g.K W) W1 (fun c dd H => E c dd σ H) Q (.ok (.lst (acc ++ [])) h2) := o2
    rw [List.append_nil] at o3
    exact o3 W2 _ w.le w.rh ⟨Dd, avs, rfl, ea, ra, w.nF, w.nr, l1.old rh1 hD⟩
theorem den_lc (hi : DenI C tg iter fi) (hb : blkC C.N C.sc scope own = true) (ho : ∀ i ∈ is, i ∈ own.map (·.2)) (hg : DenGt (C.blk scope) tg is g) (ht : DenTs (C.blk scope) ifs ft) (he : DenE (C.blk scope) elt fe)
    (hs : ∀ env x, foldedSetIterable iter env x = pure x) : DenN C (.ListComp elt [⟨tg, iter, ifs, 0⟩] scope pos) (lcR fi (own.map (·.2)) g ft fe) := fun X E ok => by
  obtain ⟨wi, gt, tt, te, p1, p2, p3, p4, q⟩ := lc_read ok hi ho hg ht he
  exact ⟨_, pe_lc ok.calm ok.nd p1 (blkOk_by (by rw [ok.names, ok.scope]; exact hb)) (fun s H Cd cl fp => p2 ⟨s, H, Cd, cl, fp⟩) (fun s H Cd cl fp => p3 ⟨s, H, Cd, cl, fp⟩) (fun s H Cd cl fp => p4 ⟨s, H, Cd, cl, fp⟩) (hs _), q⟩
end
end Sw

/-! Sw, part H: statements, defs. -/
namespace Sw
open PySem PySem.Spec PyProof.Rows L2

/-- an exception flies while the slots are τ -/
def RS.ofR {α : Type} (r : Res α) (τ : List Sl) (k : α → HS → RS) : RS := match r with
  | .ok a h => k a h
  | .exc x h => .exc x h
  | .bad => .bad
def okS (C : Cn) (W0 W : Wd) (E : WX) (D : Ends) : RS → Prop
  | .nx τ h => ∀ W' σ, Le W0 W' → LeF W W' → Frm C.g.K W0 W' τ σ → RH C.g.K W' h → D.nx σ W'.H
  | .bk τ h => ∀ W' σ, Le W0 W' → LeF W W' → Frm C.g.K W0 W' τ σ → RH C.g.K W' h → D.bk σ W'.H
  | .ct τ h => ∀ W' σ, Le W0 W' → LeF W W' → Frm C.g.K W0 W' τ σ → RH C.g.K W' h → D.ct σ W'.H
  | .rt d h => ∀ W' v, Le W0 W' → LeF W W' → RH C.g.K W' h → Rep C.g.K W' d v → D.rt v W'.H
  | .exc x h => ∀ W' c dd σ, Le W0 W' → LeF W W' → RH C.g.K W' h → ExR C.g.K C.g.mg W' x c dd → E c dd σ W'.H
  | .bad => False
theorem okS.mono {C : Cn} {W0 W W' : Wd} {E : WX} {D : Ends} (l : LeF W W') : ∀ {r : RS}, okS C W0 W E D r → okS C W0 W' E D r
  | .nx τ h, o => fun W2 σ a b => o W2 σ a (l.trans b)
  | .bk τ h, o => fun W2 σ a b => o W2 σ a (l.trans b)
  | .ct τ h, o => fun W2 σ a b => o W2 σ a (l.trans b)
  | .rt d h, o => fun W2 v a b => o W2 v a (l.trans b)
  | .exc x h, o => fun W2 c dd σ a b => o W2 c dd σ a (l.trans b)
  | .bad, o => o
/-- statements: J says which -/
def DenJ (C : Cn) (J : Cx → TS → Prop) (f : DS) : Prop := ∀ X E, CxOk C X E → ∃ t : TS, J X t ∧ ∀ W0 W τ σ h D, Le W0 W → Frm C.g.K W0 W τ σ → RH C.g.K W h → okS C W0 W E D (f τ h) → t D σ W.H
abbrev DenS (C : Cn) (st : Stmt) (f : DS) : Prop := DenJ C (fun X t => PS X st t) f
abbrev DenSs (C : Cn) (st : List Stmt) (f : DS) : Prop := DenJ C (fun X t => PSs X st t) f
/-- from an expression to what is done with its value -/
theorem okS.ex {C : Cn} {α β : Type} {Rel : Wd → α → β → Prop} {W0 W : Wd} {E : WX} {D : Ends} {r : Res α} {τ : List Sl} {σ : L2.St} {k : α → HS → RS} {Q : β → Hp → Prop} (l : Le W0 W) (o : okS C W0 W E D (RS.ofR r τ k))
    (h : ∀ a s W1 b, Le W W1 → RH C.g.K W1 s → Rel W1 a b → okS C W0 W1 E D (k a s) → Q b W1.H) : okG C.g.K C.g.mg Rel W (fun c dd H => E c dd σ H) Q r := by
  cases r with
  | ok a s => exact fun W1 b l1 rh re => h a s W1 b l1 rh re (okS.mono l1.toLeF o)
  | exc x s => exact fun W1 c dd l1 rh re => o W1 c dd σ (l.trans l1) l1.toLeF rh re
  | bad => exact o
/-! ### blocks -/
def seqS (f g : DS) : DS := fun τ h => match f τ h with
  | .nx τ' h' => g τ' h'
  | r => r
def nilS : DS := fun τ h => .nx τ h
section
variable {C : Cn} {st : Stmt} {rest : List Stmt} {f g : DS} {pos : Pos} {e : Expr} {fe : DE} {ft : DT}
theorem den_snil : DenSs C [] nilS := fun X E ok => ⟨_, pss_nil, fun W0 W τ σ h D l fr rh o => o W σ l (.refl _) fr rh⟩
theorem den_scons (h1 : DenS C st f) (h2 : DenSs C rest g) : DenSs C (st :: rest) (seqS f g) := fun X E ok => by
  obtain ⟨t, p, q⟩ := h1 X E ok
  obtain ⟨t', p', q'⟩ := h2 X E ok
  refine ⟨_, pss_cons p p', fun W0 W τ σ h D l fr rh o => ?_⟩
  refine q W0 W τ σ h _ l fr rh ?_
  have o : okS C W0 W E D (match f τ h with | .nx τ' h' => g τ' h' | r => r) := o
  cases ef : f τ h with
  | nx τ' h' =>
    rw [ef] at o
    exact fun W' σ' l1 l2 fr' rh' => q' W0 W' τ' σ' h' D l1 fr' rh' (okS.mono l2 o)
  | rt d s => rw [ef] at o; exact o
  | bk d s => rw [ef] at o; exact o
  | ct d s => rw [ef] at o; exact o
  | exc d s => rw [ef] at o; exact o
  | bad => rw [ef] at o; exact o.elim
theorem den_sone (h1 : DenS C st f) : DenSs C [st] f := fun X E ok => by
  obtain ⟨t, p, q⟩ := h1 X E ok
  exact ⟨_, pss_one p, q⟩
theorem den_pass : DenS C (.Pass pos) nilS := fun X E ok => ⟨_, ps_pass, fun W0 W τ σ h D l fr rh o => o W σ l (.refl _) fr rh⟩
theorem den_break : DenS C (.Break pos) (fun τ h => .bk τ h) := fun X E ok => ⟨_, ps_break, fun W0 W τ σ h D l fr rh o => o W σ l (.refl _) fr rh⟩
theorem den_continue : DenS C (.Continue pos) (fun τ h => .ct τ h) := fun X E ok => ⟨_, ps_continue, fun W0 W τ σ h D l fr rh o => o W σ l (.refl _) fr rh⟩
/-- code that is never come to -/
theorem den_never : DenS C st (fun _ _ => .bad) := fun X E ok => ⟨_, ps_never, fun W0 W τ σ h D l fr rh o => o.elim⟩
theorem den_sexpr (he : DenB C e fe) (hs : ∀ env, swapsWith e none pos.line env = pure false) : DenS C (.Expr e pos) (fun τ h => RS.ofR (fe τ h) τ fun _ h1 => .nx τ h1) := fun X E ok => by
  obtain ⟨t, p, q⟩ := he X E ok
  refine ⟨_, ps_expr p (hs _), fun W0 W τ σ h D l fr rh o => ?_⟩
  exact q W0 W τ σ h _ l fr rh (okS.ex l o fun a s W1 b l1 rh1 re o1 => o1 W1 σ (l.trans l1) (.refl _) (fr.mono l1) rh1)
theorem den_ret (he : DenE C e fe) : DenS C (.Return (some e) pos) (fun τ h => RS.ofR (fe τ h) τ fun d h1 => .rt d h1) := fun X E ok => by
  obtain ⟨t, p, q⟩ := he X E ok
  refine ⟨_, ps_ret p, fun W0 W τ σ h D l fr rh o => ?_⟩
  exact q W0 W τ σ h _ l fr rh (okS.ex l o fun a s W1 b l1 rh1 re o1 => o1 W1 b (l.trans l1) (.refl _) rh1 re)
theorem den_retN : DenS C (.Return none pos) (fun τ h => .rt .non h) := fun X E ok =>
  ⟨_, ps_retN, fun W0 W τ σ h D l fr rh o => o W .non l (.refl _) rh rep_non⟩
def iteS (t : DT) (f g : DS) : DS := fun τ h => RS.ofR (t τ h) τ fun b h1 => if b then f τ h1 else g τ h1
theorem den_sif {c : Expr} {a b : List Stmt} (hc : DenT C c ft) (ha : DenSs C a f) (hb : DenSs C b g) : DenS C (.If c a b pos) (iteS ft f g) := fun X E ok => by
  obtain ⟨t, p, q⟩ := hc X E ok
  obtain ⟨t1, p1, q1⟩ := ha X E ok
  obtain ⟨t2, p2, q2⟩ := hb X E ok
  refine ⟨_, ps_if p p1 p2, fun W0 W τ σ h D l fr rh o => ?_⟩
  refine q W0 W τ σ h _ l fr rh (okS.ex l o fun a s W1 b l1 rh1 re o1 => ?_)
  subst re
  cases a with
  | true => exact iteT (q1 W0 W1 τ σ s D (l.trans l1) (fr.mono l1) rh1 o1)
  | false => exact iteF (q2 W0 W1 τ σ s D (l.trans l1) (fr.mono l1) rh1 o1)
/-! ### stores -/
variable {x : Str} {i : Nat} {p' : Pos}
/-- name = value -/
def setS (i : Nat) (fe : DE) : DS := fun τ h => RS.ofR (fe τ h) τ fun d h1 => .nx (τ.set i (.val d)) h1
theorem den_set (hn : stB C.N C.sc C.fn x i = true) (he : DenE C e fe) (hs : ∀ env, swapsWith e (some (.Name x p')) pos.line env = pure false) : DenS C (.Assign [.Name x p'] e pos) (setS i fe) := fun X E ok => by
  obtain ⟨t, p, q⟩ := he X E ok
  obtain ⟨h1, h2, h3⟩ := stB_ok ok hn
  refine ⟨_, ps_set ok.nd h1 h2 p (hs _) h3, fun W0 W τ σ h D l fr rh o => ?_⟩
  exact q W0 W τ σ h _ l fr rh (okS.ex l o fun a s W1 b l1 rh1 re o1 => o1 W1 _ (l.trans l1) (.refl _) ((fr.mono l1).set i re) rh1)
def ownSl : D → Option Sl
  | .lst xs => some (.own xs)
  | .dK kvs => some (.ownK kvs)
  | .dT kvs => some (.ownT kvs)
  | _ => none
/-- name = a new list, kept as the frame's own -/
def setN (i : Nat) (fe : DE) : DS := fun τ h => RS.ofR (fe τ h) τ fun d h1 => match ownSl d with
  | some s => .nx (τ.set i s) h1
  | none => .bad
theorem _root_.Sw.NewR.sl {K : PySem.W.Frag} {W0 W W1 : Wd} {h : HS} {d : D} {v : V} {s : Sl} (l : Le W0 W) (rh : RH K W h) (n : NewR K W W1 d v) (e : ownSl d = some s) : s.isOwn = true ∧ SlAt K W0 W1 s (some (some v)) ∧ ∃ a, v = .ref a ∧ W.H a = none := by
  cases d <;> simp only [ownSl, Option.some.injEq, reduceCtorEq] at e <;> subst e
  · obtain ⟨a, vs, rfl, e, r, f, q, o⟩ := n
    exact ⟨rfl, ⟨a, vs, rfl, e, r, f, q, l.old rh o⟩, a, rfl, o⟩
  · obtain ⟨a, vs, rfl, e, r, f, q, o⟩ := n
    exact ⟨rfl, ⟨a, vs, rfl, e, r, f, q, l.old rh o⟩, a, rfl, o⟩
  · obtain ⟨a, vs, rfl, e, r, f, q, o⟩ := n
    exact ⟨rfl, ⟨a, vs, rfl, e, r, f, q, l.old rh o⟩, a, rfl, o⟩
theorem SlAt.there {K : PySem.W.Frag} {W0 W : Wd} {s : Sl} {o : Option (Option V)} {a : Addr} (h : SlAt K W0 W s o) (ho : s.isOwn = true) (e : o = some (some (.ref a))) : W.H a ≠ none := by
  subst e
  cases s with
  | own xs => obtain ⟨b, vs, e, h, _⟩ := h; cases e; rw [h]; exact fun z => by cases z
  | ownK xs => obtain ⟨b, vs, e, h, _⟩ := h; cases e; rw [h]; exact fun z => by cases z
  | ownT xs => obtain ⟨b, vs, e, h, _⟩ := h; cases e; rw [h]; exact fun z => by cases z
  | _ => cases ho
/-- an own object that was not there ahead -/
theorem Frm.setO {K : PySem.W.Frag} {W0 W W1 : Wd} {τ : List Sl} {σ : L2.St} (f : Frm K W0 W τ σ) (l : Le W W1) {s : Sl} {a : Addr} (i : Nat) (hs : SlAt K W0 W1 s (some (some (.ref a)))) (n : W.H a = none) : Frm K W0 W1 (τ.set i s) (σ.set i (some (.ref a))) where
  len := by simp [f.len]
  at_ := fun j x e => by
    by_cases hj : i = j
    · subst hj
      by_cases hi : i < τ.length
      · rw [List.getElem?_set_self hi] at e
        cases e
        rw [List.getElem?_set_self (by rw [← f.len]; exact hi)]
        exact hs
      · rw [List.getElem?_eq_none (by simpa using hi)] at e; cases e
    · rw [List.getElem?_set_ne hj] at e ⊢
      exact (f.at_ j x e).mono l
  dis := fun p q x y ad ne e1 e2 o1 o2 => by
    have key : ∀ {j : Nat} {y : Sl}, i ≠ j → τ[j]? = some y → y.isOwn = true → σ[j]? ≠ some (some (.ref a)) := fun {j y} hj e o z => (SlAt.there (f.at_ j y e) o z) n
    have inr : ∀ {x : Sl}, (τ.set i s)[i]? = some x → i < τ.length := fun {x} e => Classical.byContradiction fun hi => by
      rw [List.getElem?_eq_none (by simpa using hi)] at e; cases e
    by_cases h1 : i = p
    · subst h1
      have hi := inr e1
      have hq : i ≠ q := ne
      rw [List.getElem?_set_self (by rw [← f.len]; exact hi)]
      rw [List.getElem?_set_ne hq] at e2 ⊢
      intro z
      cases z
      exact key hq e2 o2
    · rw [List.getElem?_set_ne h1] at e1 ⊢
      by_cases h2 : i = q
      · subst h2
        have hi := inr e2
        rw [List.getElem?_set_self (by rw [← f.len]; exact hi)]
        intro z z2
        cases z2
        exact key h1 e1 o1 z
      · rw [List.getElem?_set_ne h2] at e2 ⊢
        exact f.dis p q x y ad ne e1 e2 o1 o2
theorem den_setN (hn : stB C.N C.sc C.fn x i = true) (he : DenN C e fe) (hs : ∀ env, swapsWith e (some (.Name x p')) pos.line env = pure false) : DenS C (.Assign [.Name x p'] e pos) (setN i fe) := fun X E ok => by
  obtain ⟨t, p, q⟩ := he X E ok
  obtain ⟨h1, h2, h3⟩ := stB_ok ok hn
  refine ⟨_, ps_set ok.nd h1 h2 p (hs _) h3, fun W0 W τ σ h D l fr rh o => ?_⟩
  refine q W0 W τ σ h _ l fr rh (okS.ex l o fun d s W1 v l1 rh1 n o1 => ?_)
  cases es : ownSl d with
  | none => rw [es] at o1; exact o1.elim
  | some sl =>
    rw [es] at o1
    obtain ⟨_, k2, a, rfl, na⟩ := n.sl l rh es
    exact o1 W1 _ (l.trans l1) (.refl _) (fr.setO l1 i k2 na) rh1
/-- target = value -/
def asgS (g : GT) (fe : DE) : DS := fun τ h => RS.ofR (fe τ h) τ fun d h1 => match g d τ with
  | some τ' => .nx τ' h1
  | none => .bad
theorem den_asg {tg : Expr} {is : List Nat} {g : GT} (hg : DenGt C tg is g) (he : DenE C e fe) (hs : ∀ env, swapsWithSole [tg] e pos.line env = pure false) (hw : ∀ env, env.scope = C.sc → swappedStores [tg] e env = pure none)
    (h1 : ∀ env, (assignEach [tg] env).map (·.2) = [assign tg env]) : DenS C (.Assign [tg] e pos) (asgS g fe) := fun X E ok => by
  obtain ⟨t, p, q⟩ := he X E ok
  obtain ⟨t', p', q'⟩ := hg X E ok
  refine ⟨_, ps_asg p p' (hs _) (hw _ ok.scope) (h1 _), fun W0 W τ σ h D l fr rh o => ?_⟩
  refine q W0 W τ σ h _ l fr rh (okS.ex l o fun d s W1 v l1 rh1 re o1 => ?_)
  cases eg : g d τ with
  | none => rw [eg] at o1; exact o1.elim
  | some τ' =>
    rw [eg] at o1
    exact q' W0 W1 τ σ d v τ' _ (fr.mono l1) re eg fun σ' fr' _ _ _ => o1 W1 σ' (l.trans l1) (.refl _) fr' rh1
/-- y = [..] on one line -/
theorem den_setLc {elt tg iter : Expr} {ifs : List Expr} {scope : Scope} {own : List (Str × Nat)} {cpos : Pos} {fi : DA} {g : GT} {is : List Nat} {ft : DT} {fe : DE} (hn : stB C.N C.sc C.fn x i = true) (hy : C.sc.names.lookup x = some .local) (hk : C.sc.kind = .function) (hl : (p'.line == cpos.line) = true)
    (ha : (scope.names.any fun (n, k) => n == x && (k == .local || k == .cell)) = false) (hi : DenI C tg iter fi) (hb : blkC C.N C.sc scope own = true) (ho : ∀ i ∈ is, i ∈ own.map (·.2)) (hg : DenGt (C.blk scope) tg is g) (ht : DenTs (C.blk scope) ifs ft) (he : DenE (C.blk scope) elt fe)
    (hs : ∀ env x, foldedSetIterable iter env x = pure x) : DenS C (.Assign [.Name x p'] (.ListComp elt [⟨tg, iter, ifs, 0⟩] scope cpos) pos) (setS i (lcR fi (own.map (·.2)) g ft fe)) := fun X E ok => by
  obtain ⟨wi, gt, tt, te, p1, p2, p3, p4, q⟩ := lc_read ok hi ho hg ht he
  obtain ⟨h1, h2, h3⟩ := stB_ok ok hn
  have hyl : X.env.scope.names.lookup x = some .local := by rw [ok.scope]; exact hy
  refine ⟨_, ps_setLc ok.calm ok.nd h1 hyl (sw_true (by rw [ok.scope]; exact hk) hyl hl ha) p1 (blkOk_by (by rw [ok.names, ok.scope]; exact hb)) (fun s H Cd cl fp => p2 ⟨s, H, Cd, cl, fp⟩) (fun s H Cd cl fp => p3 ⟨s, H, Cd, cl, fp⟩) (fun s H Cd cl fp => p4 ⟨s, H, Cd, cl, fp⟩) (hs _), fun W0 W τ σ h D l fr rh o => ?_⟩
  refine q W0 W τ σ h _ l fr rh ?_
  refine okG.imp (Rel' := Rep C.g.K) (okS.ex l o fun d s W1 v l1 rh1 re o1 => o1 W1 _ (l.trans l1) (.refl _) ((fr.mono l1).set i re) rh1) fun W' a b h' l' rh' n => n.freeze l' rh'
theorem den_setLcN {elt tg iter : Expr} {ifs : List Expr} {scope : Scope} {own : List (Str × Nat)} {cpos : Pos} {fi : DA} {g : GT} {is : List Nat} {ft : DT} {fe : DE} (hn : stB C.N C.sc C.fn x i = true) (hy : C.sc.names.lookup x = some .local) (hk : C.sc.kind = .function) (hl : (p'.line == cpos.line) = true)
    (ha : (scope.names.any fun (n, k) => n == x && (k == .local || k == .cell)) = false) (hi : DenI C tg iter fi) (hb : blkC C.N C.sc scope own = true) (ho : ∀ i ∈ is, i ∈ own.map (·.2)) (hg : DenGt (C.blk scope) tg is g) (ht : DenTs (C.blk scope) ifs ft) (he : DenE (C.blk scope) elt fe)
    (hs : ∀ env x, foldedSetIterable iter env x = pure x) : DenS C (.Assign [.Name x p'] (.ListComp elt [⟨tg, iter, ifs, 0⟩] scope cpos) pos) (setN i (lcR fi (own.map (·.2)) g ft fe)) := fun X E ok => by
  obtain ⟨wi, gt, tt, te, p1, p2, p3, p4, q⟩ := lc_read ok hi ho hg ht he
  obtain ⟨h1, h2, h3⟩ := stB_ok ok hn
  have hyl : X.env.scope.names.lookup x = some .local := by rw [ok.scope]; exact hy
  refine ⟨_, ps_setLc ok.calm ok.nd h1 hyl (sw_true (by rw [ok.scope]; exact hk) hyl hl ha) p1 (blkOk_by (by rw [ok.names, ok.scope]; exact hb)) (fun s H Cd cl fp => p2 ⟨s, H, Cd, cl, fp⟩) (fun s H Cd cl fp => p3 ⟨s, H, Cd, cl, fp⟩) (fun s H Cd cl fp => p4 ⟨s, H, Cd, cl, fp⟩) (hs _), fun W0 W τ σ h D l fr rh o => ?_⟩
  refine q W0 W τ σ h _ l fr rh (okS.ex l o fun d s W1 v l1 rh1 n o1 => ?_)
  cases es : ownSl d with
  | none => rw [es] at o1; exact o1.elim
  | some sl =>
    rw [es] at o1
    obtain ⟨_, k2, a, rfl, na⟩ := n.sl l rh es
    exact o1 W1 _ (l.trans l1) (.refl _) (fr.setO l1 i k2 na) rh1
/-- name op= e, ints -/
def augS (i : Nat) (g : D → D → Option D) (fe : DE) : DS := fun τ h => match τ[i]? with
  | some (.val d) => RS.ofR (fe τ h) τ fun y h1 => match g d y with
    | some z => .nx (τ.set i (.val z)) h1
    | none => .bad
  | _ => .bad
theorem den_aug {op : Operator} {g : D → D → Option D} (hn : stB C.N C.sc C.fn x i = true) (ho : OpD C (inplaceOp op) g) (he : DenB C e fe) : DenS C (.AugAssign (.Name x p') op e pos) (augS i g fe) := fun X E ok => by
  obtain ⟨t, p, q⟩ := he X E ok
  obtain ⟨r, hr, qr⟩ := ho X E ok
  obtain ⟨h1, h2, h3⟩ := stB_ok ok hn
  refine ⟨_, ps_aug (ti := r) ok.nd h1 h2 p hr h3, fun W0 W τ σ h D l fr rh o => ?_⟩
  unfold augS at o
  cases et : τ[i]? with
  | none => rw [et] at o; exact o.elim
  | some s =>
    rw [et] at o
    cases s with
    | val d =>
      obtain ⟨v, ev, rv⟩ := fr.at_ i _ et
      refine ⟨v, ev, q W0 W τ σ h _ l fr rh (okS.ex l o fun y s W1 u l1 rh1 b1 o1 => ?_)⟩
      cases eg : g d y with
      | none => rw [eg] at o1; exact o1.elim
      | some z =>
        rw [eg] at o1
        refine qr W1 s d y v u z _ rh1 (.inl (rv.mono l1.toLeF)) b1 eg fun W2 b l2 rh2 r2 => ?_
        exact o1 W2 _ ((l.trans l1).trans l2) l2.toLeF (((fr.mono l1).mono l2).set i r2) rh2
    | _ => exact o.elim
end

/-! ### own lists -/
/-- an own list changed in place -/
theorem Frm.own_upd {K : PySem.W.Frag} {W0 W : Wd} {τ : List Sl} {σ : L2.St} {i : Nat} {xs ys : List D} {a : Addr} {us : List V} (f : Frm K W0 W τ σ) (et : τ[i]? = some (.own xs)) (ea : σ[i]? = some (some (.ref a))) (w : OwnA W0 W a) (r : Reps K W ys us) :
    Frm K W0 (W.put a (.lst us)) (τ.set i (.own ys)) σ := by
  have hi : i < τ.length := (List.getElem?_eq_some_iff.mp et).1
  have lf := lef_own (W2 := W) (Dd := a) (o := .lst us) w.nf
  refine ⟨by simpa using f.len, fun j x e => ?_, fun p q x y ad ne e1 e2 o1 o2 => ?_⟩
  · by_cases hj : i = j
    · subst hj
      rw [List.getElem?_set_self hi] at e
      cases e
      exact ⟨a, us, ea, upd_same, r.mono lf, w.nf, w.nr, w.new⟩
    · rw [List.getElem?_set_ne hj] at e
      have h0 := f.at_ j x e
      have ne' : x.isOwn = true → σ[j]? ≠ some (some (.ref a)) := fun ho => f.dis i j _ x a hj et e rfl ho ea
      cases x with
      | un => trivial
      | val d => obtain ⟨v, e, r⟩ := h0; exact ⟨v, e, r.mono lf⟩
      | own zs =>
        obtain ⟨b, vs, e, h, r, w'⟩ := h0
        have hb : b ≠ a := fun z => ne' rfl (by rw [e, z])
        exact ⟨b, vs, e, by rw [← h]; exact upd_ne hb, r.mono lf, w'.nf, w'.nr, w'.new⟩
      | ownK zs =>
        obtain ⟨b, vs, e, h, r, w'⟩ := h0
        have hb : b ≠ a := fun z => ne' rfl (by rw [e, z])
        exact ⟨b, vs, e, by rw [← h]; exact upd_ne hb, r.mono lf, w'.nf, w'.nr, w'.new⟩
      | ownT zs =>
        obtain ⟨b, vs, e, h, r, w'⟩ := h0
        have hb : b ≠ a := fun z => ne' rfl (by rw [e, z])
        exact ⟨b, vs, e, by rw [← h]; exact upd_ne hb, r.mono lf, w'.nf, w'.nr, w'.new⟩
  · have key : ∀ {j : Nat} {x : Sl}, (τ.set i (.own ys))[j]? = some x → x.isOwn = true → ∃ y, τ[j]? = some y ∧ y.isOwn = true := fun {j x} e o => by
      by_cases hj : i = j
      · subst hj; exact ⟨_, et, rfl⟩
      · rw [List.getElem?_set_ne hj] at e; exact ⟨x, e, o⟩
    obtain ⟨x', e1', o1'⟩ := key e1 o1
    obtain ⟨y', e2', o2'⟩ := key e2 o2
    exact f.dis p q x' y' ad ne e1' e2' o1' o2'
section
variable {C : Cn} {e : Expr} {fe : DE} {x : Str} {i : Nat} {p1 apos cpos pos : Pos}
/-- x.append(e) -/
def appS (i : Nat) (fe : DE) : DS := fun τ h => match τ[i]? with
  | some (.own _) => RS.ofR (fe τ h) τ fun d h1 => match τ[i]? with
    | some (.own xs) => if decide (xs.length < sizeLine) then .nx (τ.set i (.own (xs ++ [d]))) h1 else .bad
    | _ => .bad
  | _ => .bad
theorem den_append (hn : nmB C.N C.sc x i = true) (he : DenE C e fe) (hl : (apos.endLine == cpos.line) = true) (hs : ∀ env, starEach [e] env = (false, eval e env) :: starEach [] env) :
    DenS C (.Expr (.Call (.Attribute (.Name x p1) "append" apos) [e] [] cpos) pos) (appS i fe) := fun X E ok => by
  obtain ⟨t, p, q⟩ := he X E ok
  obtain ⟨h1, h2, h3, h4⟩ := nmB_ok hn
  refine ⟨_, ps_expr (pe_bm PySem.F.plainAttrs_list PySem.F.slot_list_append PySem.F.type_list_append mt_append (pe_var (i := i) (by rw [ok.names]; exact h1) (by rw [ok.scope]; exact h2) h3 h4) (pa_cons p pa_nil (hs _)) rfl (by
    rw [hs]; rfl) hl (hs _) rfl) rfl, fun W0 W τ σ h D l fr rh o => ?_⟩
  unfold appS at o
  cases et : τ[i]? with
  | none => rw [et] at o; exact o.elim
  | some s =>
    cases s with
    | own xs =>
      rw [et] at o
      obtain ⟨a, vs, ea, ha, ra, wa⟩ := fr.at_ i _ et
      refine ⟨_, ea, .inl ⟨rfl, vs, .inl (.inl ha)⟩, ?_⟩
      refine q W0 W τ σ h _ l fr rh (okS.ex l o fun d s W1 u l1 rh1 r1 o1 => ?_)
      by_cases hz : xs.length < sizeLine
      · simp only [hz, decide_true, if_true] at o1
        have fr1 := fr.mono l1
        obtain ⟨a', vs', ea', ha', ra', wa'⟩ := fr1.at_ i _ et
        rw [ea] at ea'
        cases ea'
        refine ⟨a, vs', u, rfl, rfl, ha', by rw [← ra'.length]; exact hz, ?_⟩
        have l2 := l.trans l1
        exact o1 (W1.put a (.lst (vs' ++ [u]))) σ (le_own l2 wa'.new wa'.nf) (lef_own wa'.nf) (fr1.own_upd et ea wa' (ra'.append (.one r1))) (rh_own rh1 wa'.nf wa'.nr)
      · simp only [hz, decide_false] at o1
        exact (show False from o1).elim
    | _ => rw [et] at o; exact o.elim
end
end Sw

/-! Sw, part I: more of own and shared lists, loops, defs. -/
namespace Sw
open PySem PySem.Spec PyProof.Rows L2

section
variable {C : Cn} {e e2 : Expr} {fe fe2 : DE} {x y : Str} {i j : Nat} {p1 p2 p3 apos apos2 cpos cpos2 pos tpos : Pos} {st : Stmt} {f : DS}
/-- x.extend(e) -/
def extS (i : Nat) (fe : DE) : DS := fun τ h => match τ[i]? with
  | some (.own _) => RS.ofR (fe τ h) τ fun d h1 => match τ[i]?, d with
    | some (.own xs), .lst ys => if fits (xs.length + ys.length) then .nx (τ.set i (.own (xs ++ ys))) h1 else .bad
    | _, _ => .bad
  | _ => .bad
theorem den_extend (hn : nmB C.N C.sc x i = true) (he : DenB C e fe) (hl : (apos.endLine == cpos.line) = true) (hs : ∀ env, starEach [e] env = (false, eval e env) :: starEach [] env) :
    DenS C (.Expr (.Call (.Attribute (.Name x p1) "extend" apos) [e] [] cpos) pos) (extS i fe) := fun X E ok => by
  obtain ⟨t, p, q⟩ := he X E ok
  obtain ⟨h1, h2, h3, h4⟩ := nmB_ok hn
  refine ⟨_, ps_expr (pe_bm PySem.F.plainAttrs_list PySem.F.slot_list_extend PySem.F.type_list_extend mt_extend (pe_var (i := i) (by rw [ok.names]; exact h1) (by rw [ok.scope]; exact h2) h3 h4) (pa_cons p pa_nil (hs _)) rfl (by
    rw [hs]; rfl) hl (hs _) rfl) rfl, fun W0 W τ σ h D l fr rh o => ?_⟩
  unfold extS at o
  cases et : τ[i]? with
  | none => rw [et] at o; exact o.elim
  | some s =>
    cases s with
    | own xs =>
      rw [et] at o
      obtain ⟨a, vs, ea, ha, ra, wa⟩ := fr.at_ i _ et
      refine ⟨_, ea, .inl ⟨rfl, vs, .inl (.inl ha)⟩, ?_⟩
      refine q W0 W τ σ h _ l fr rh (okS.ex l o fun d s W1 u l1 rh1 r1 o1 => ?_)
      cases d with
      | lst ys =>
        by_cases hz : fits (xs.length + ys.length) = true
        · simp only [hz, if_true] at o1
          have fr1 := fr.mono l1
          obtain ⟨a', vs', ea', ha', ra', wa'⟩ := fr1.at_ i _ et
          rw [ea] at ea'
          cases ea'
          obtain ⟨b, us, rfl, hb, rb⟩ := r1.lst
          refine ⟨a, b, vs', us, rfl, rfl, ha', hb, by rw [← ra'.length, ← rb.length]; exact of_decide_eq_true hz, ?_⟩
          have l2 := l.trans l1
          exact o1 (W1.put a (.lst (vs' ++ us))) σ (le_own l2 wa'.new wa'.nf) (lef_own wa'.nf) (fr1.own_upd et ea wa' (ra'.append rb)) (rh_own rh1 wa'.nf wa'.nr)
        · simp only [hz] at o1
          exact (show False from o1).elim
      | _ => exact (show False from o1).elim
    | _ => rw [et] at o; exact o.elim
/-- x[e] = e2, x an own list -/
def putS (i : Nat) (fe fe2 : DE) : DS := fun τ h => RS.ofR (fe2 τ h) τ fun d h1 => match τ[i]? with
  | some (.own xs) => RS.ofR (fe τ h1) τ fun k h2 => match k with
    | .int k => match ixN xs.length k with
      | some j => .nx (τ.set i (.own (xs.set j d))) h2
      | none => .bad
    | _ => .bad
  | _ => .bad
theorem Reps.set' {K : PySem.W.Frag} {W : Wd} {ds : List D} {vs : List V} {d : D} {v : V} (j : Nat) (h : Reps K W ds vs) (r : Rep K W d v) : Reps K W (ds.set j d) (vs.set j v) := Reps.set j h r
theorem den_put (hn : nmB C.N C.sc x i = true) (he : DenB C e fe) (he2 : DenE C e2 fe2) (hsx : PlainIx e)
    (ha : ∀ env v, assign (.Subscript (.Name x p1) e tpos) env v = (do
      let ov ← holding [v] (eval (.Name x p1) env)
      let iv ← holding [v, ov] (eval e env)
      standAt tpos
      holding [v, ov, iv] (setItem ov iv v)
      release [v, ov, iv] [])) (hs : ∀ env, swapsWithSole [.Subscript (.Name x p1) e tpos] e2 pos.line env = pure false) (hw : ∀ env, swappedStores [.Subscript (.Name x p1) e tpos] e2 env = pure none)
    (h1' : ∀ env, (assignEach [.Subscript (.Name x p1) e tpos] env).map (·.2) = [assign (.Subscript (.Name x p1) e tpos) env]) :
    DenS C (.Assign [.Subscript (.Name x p1) e tpos] e2 pos) (putS i fe fe2) := fun X E ok => by
  obtain ⟨t, p, q⟩ := he X E ok
  obtain ⟨t', p', q'⟩ := he2 X E ok
  obtain ⟨h1, h2, h3, h4⟩ := nmB_ok hn
  refine ⟨_, ps_asg p' (pg_sub (pe_var (i := i) (by rw [ok.names]; exact h1) (by rw [ok.scope]; exact h2) h3 h4) p set_list (ha _)) (hs _) (hw _) (h1' _), fun W0 W τ σ h D l fr rh o => ?_⟩
  refine q' W0 W τ σ h _ l fr rh (okS.ex l o fun d s W1 u l1 rh1 r1 o1 => ?_)
  cases et : τ[i]? with
  | none => rw [et] at o1; exact o1.elim
  | some sl =>
    cases sl with
    | own xs =>
      rw [et] at o1
      have fr1 := fr.mono l1
      obtain ⟨a, vs, ea, ha, ra, wa⟩ := fr1.at_ i _ et
      refine ⟨_, ea, ?_⟩
      refine q W0 W1 τ σ s _ (l.trans l1) fr1 rh1 (okS.ex (l.trans l1) o1 fun k s2 W2 v l2 rh2 b2 o2 => ?_)
      cases k with
      | int k =>
        have o2 : okS C W0 W2 E D (match ixN xs.length k with | some j => .nx (τ.set i (.own (xs.set j d))) s2 | none => .bad) := o2
        cases ei : ixN xs.length k with
        | none => rw [ei] at o2; exact o2.elim
        | some j =>
          rw [ei] at o2
          have fr2 := fr1.mono l2
          obtain ⟨a', vs', ea', ha', ra', wa'⟩ := fr2.at_ i _ et
          rw [ea] at ea'
          cases ea'
          rw [b2.int]
          refine ⟨a, vs', k, j, rfl, rfl, ha', by rw [← ra'.length]; exact ei, ?_⟩
          have l3 := (l.trans l1).trans l2
          exact o2 (W2.put a (.lst (vs'.set j u))) σ (le_own l3 wa'.new wa'.nf) (lef_own wa'.nf) (fr2.own_upd et ea wa' (ra'.set' j (r1.mono l2.toLeF))) (rh_own rh2 wa'.nf wa'.nr)
      | _ => exact (show False from o2).elim
    | _ => rw [et] at o1; exact o1.elim
/-- a shared list changed in place -/
theorem le_shared {W : Wd} {a : Addr} {o : HO} (m : a ∈ W.ρ) (nf : ¬ W.F a) : Le W (W.put a o) where
  toLeF := lef_own nf
  fo := fun b ob e h1 h2 => ⟨by rw [← e]; exact upd_ne fun z => h2 (z ▸ m), h1, h2⟩
theorem rh_shared {K : PySem.W.Frag} {W : Wd} {h : HS} {a : Addr} {n : Nat} {xs : List D} {us : List V} (rh : RH K W h) (ea : W.ρ[n]? = some a) (nf : ¬ W.F a) (r : Reps K W xs us) : RH K (W.put a (.lst us)) (h.set n xs) where
  len := by rw [List.length_set]; exact rh.len
  nd := rh.nd
  at_ := fun i ys b e1 e2 => by
    by_cases hi : n = i
    · subst hi
      have hb : b = a := Option.some.inj (e2.symm.trans ea)
      subst hb
      by_cases hl : n < h.length
      · rw [List.getElem?_set_self hl] at e1
        cases e1
        exact ⟨us, upd_same, r.mono (lef_own nf)⟩
      · rw [List.getElem?_eq_none (by simpa using hl)] at e1; cases e1
    · rw [List.getElem?_set_ne hi] at e1
      obtain ⟨vs, q, r'⟩ := rh.at_ i ys b e1 e2
      have hb : b ≠ a := fun z => hi (by
        subst z
        obtain ⟨l1, g1⟩ := List.getElem?_eq_some_iff.mp ea
        obtain ⟨l2, g2⟩ := List.getElem?_eq_some_iff.mp e2
        exact (List.getElem_inj rh.nd).mp (g1.trans g2.symm))
      exact ⟨vs, by rw [← q]; exact upd_ne hb, r'.mono (lef_own nf)⟩
  nf := rh.nf
  up := fun b f => by
    by_cases z : b = a
    · subst z; exact absurd f nf
    · show upd W.H a (.lst us) b ≠ none; rw [upd_ne z]; exact rh.up b f
/-- x[e] = e2, x a shared list -/
def rputS (i : Nat) (fe fe2 : DE) : DS := fun τ h => RS.ofR (fe2 τ h) τ fun d h1 => match τ[i]? with
  | some (.val (.ref n)) => RS.ofR (fe τ h1) τ fun k h2 => match k, h2[n]? with
    | .int k, some xs => match ixN xs.length k with
      | some j => .nx τ (h2.set n (xs.set j d))
      | none => .bad
    | _, _ => .bad
  | _ => .bad
theorem den_rput (hn : nmB C.N C.sc x i = true) (he : DenB C e fe) (he2 : DenE C e2 fe2) (hsx : PlainIx e)
    (ha : ∀ env v, assign (.Subscript (.Name x p1) e tpos) env v = (do
      let ov ← holding [v] (eval (.Name x p1) env)
      let iv ← holding [v, ov] (eval e env)
      standAt tpos
      holding [v, ov, iv] (setItem ov iv v)
      release [v, ov, iv] [])) (hs : ∀ env, swapsWithSole [.Subscript (.Name x p1) e tpos] e2 pos.line env = pure false) (hw : ∀ env, swappedStores [.Subscript (.Name x p1) e tpos] e2 env = pure none)
    (h1' : ∀ env, (assignEach [.Subscript (.Name x p1) e tpos] env).map (·.2) = [assign (.Subscript (.Name x p1) e tpos) env]) :
    DenS C (.Assign [.Subscript (.Name x p1) e tpos] e2 pos) (rputS i fe fe2) := fun X E ok => by
  obtain ⟨t, p, q⟩ := he X E ok
  obtain ⟨t', p', q'⟩ := he2 X E ok
  obtain ⟨h1, h2, h3, h4⟩ := nmB_ok hn
  refine ⟨_, ps_asg p' (pg_sub (pe_var (i := i) (by rw [ok.names]; exact h1) (by rw [ok.scope]; exact h2) h3 h4) p set_list (ha _)) (hs _) (hw _) (h1' _), fun W0 W τ σ h D l fr rh o => ?_⟩
  refine q' W0 W τ σ h _ l fr rh (okS.ex l o fun d s W1 u l1 rh1 r1 o1 => ?_)
  cases et : τ[i]? with
  | none => rw [et] at o1; exact o1.elim
  | some sl =>
    cases sl with
    | val dv =>
      cases dv with
      | ref n =>
        rw [et] at o1
        have fr1 := fr.mono l1
        obtain ⟨v, ev, rv⟩ := fr1.at_ i _ et
        refine ⟨v, ev, ?_⟩
        refine q W0 W1 τ σ s _ (l.trans l1) fr1 rh1 (okS.ex (l.trans l1) o1 fun k s2 W2 w l2 rh2 b2 o2 => ?_)
        cases k with
        | int k =>
          have o2 : okS C W0 W2 E D (match Sw.D.int k, s2[n]? with | .int k, some xs => (match ixN xs.length k with | some j => .nx τ (s2.set n (xs.set j d)) | none => .bad) | _, _ => .bad) := o2
          cases eh : s2[n]? with
          | none => rw [eh] at o2; exact o2.elim
          | some xs =>
            rw [eh] at o2
            have o2 : okS C W0 W2 E D (match ixN xs.length k with | some j => .nx τ (s2.set n (xs.set j d)) | none => .bad) := o2
            cases ei : ixN xs.length k with
            | none => rw [ei] at o2; exact o2.elim
            | some j =>
              rw [ei] at o2
              have rv := rv.mono l2.toLeF
              rw [Rep] at rv
              obtain ⟨a, ea, rfl⟩ := rv
              obtain ⟨vs, ha, ra⟩ := rh2.at_ n xs a eh ea
              have ma : a ∈ W2.ρ := List.mem_of_getElem? ea
              have nf := rh2.nf a ma
              rw [b2.int]
              refine ⟨a, vs, k, j, rfl, rfl, ha, by rw [← ra.length]; exact ei, ?_⟩
              have l3 := le_shared (o := .lst (vs.set j u)) ma nf
              exact o2 _ σ (((l.trans l1).trans l2).trans l3) l3.toLeF ((fr1.mono l2).mono l3) (rh_shared rh2 ea nf (ra.set' j (r1.mono l2.toLeF)))
        | _ => exact (show False from o2).elim
      | _ => rw [et] at o1; exact o1.elim
    | _ => rw [et] at o1; exact o1.elim

/-! ### own lists become values -/
def frzT (τ : List Sl) (i : Nat) : List Sl := match τ[i]? with
  | some (.own xs) => τ.set i (.val (.lst xs))
  | some (.ownK xs) => τ.set i (.val (.dK xs))
  | some (.ownT xs) => τ.set i (.val (.dT xs))
  | _ => τ
theorem le_frz0 {W0 W : Wd} {a : Addr} (l : Le W0 W) (n : W0.H a = none) : Le W0 (W.frz a) := le_frz l n
/-- other slots where the own object at a becomes frozen -/
theorem SlAt.frz {K : PySem.W.Frag} {W0 W : Wd} {a : Addr} {x : Sl} {o : Option (Option V)} (h : SlAt K W0 W x o) (ne : x.isOwn = true → o ≠ some (some (.ref a))) : SlAt K W0 (W.frz a) x o := by
  have lf := lef_frz W a
  cases x with
  | un => trivial
  | val d => obtain ⟨v, e, r⟩ := h; exact ⟨v, e, r.mono lf⟩
  | own zs =>
    obtain ⟨b, vs, e, h, r, w'⟩ := h
    have hb : b ≠ a := fun z => ne rfl (by rw [e, z])
    exact ⟨b, vs, e, h, r.mono lf, fun z => z.elim w'.nf hb, w'.nr, w'.new⟩
  | ownK zs =>
    obtain ⟨b, vs, e, h, r, w'⟩ := h
    have hb : b ≠ a := fun z => ne rfl (by rw [e, z])
    exact ⟨b, vs, e, h, r.mono lf, fun z => z.elim w'.nf hb, w'.nr, w'.new⟩
  | ownT zs =>
    obtain ⟨b, vs, e, h, r, w'⟩ := h
    have hb : b ≠ a := fun z => ne rfl (by rw [e, z])
    exact ⟨b, vs, e, h, r.mono lf, fun z => z.elim w'.nf hb, w'.nr, w'.new⟩
theorem Frm.frz {K : PySem.W.Frag} {W0 W : Wd} {τ : List Sl} {σ : L2.St} {i : Nat} {s : Sl} {a : Addr} {d : D} (f : Frm K W0 W τ σ) (et : τ[i]? = some s) (ho : s.isOwn = true) (ea : σ[i]? = some (some (.ref a))) (r : Rep K (W.frz a) d (.ref a)) :
    Frm K W0 (W.frz a) (τ.set i (.val d)) σ := by
  have hi : i < τ.length := (List.getElem?_eq_some_iff.mp et).1
  refine ⟨by simpa using f.len, fun j x e => ?_, fun p q x y ad ne e1 e2 o1 o2 => ?_⟩
  · by_cases hj : i = j
    · subst hj
      rw [List.getElem?_set_self hi] at e
      cases e
      exact ⟨_, ea, r⟩
    · rw [List.getElem?_set_ne hj] at e
      exact (f.at_ j x e).frz fun hx => f.dis i j s x a hj et e ho hx ea
  · have key : ∀ {j : Nat} {x : Sl}, (τ.set i (.val d))[j]? = some x → x.isOwn = true → τ[j]? = some x := fun {j x} e o => by
      by_cases hj : i = j
      · subst hj
        rw [List.getElem?_set_self hi] at e
        cases e; cases o
      · rw [List.getElem?_set_ne hj] at e; exact e
    exact f.dis p q x y ad ne (key e1 o1) (key e2 o2) o1 o2
theorem frzT_ok {K : PySem.W.Frag} {W0 W : Wd} {τ : List Sl} {σ : L2.St} {h : HS} (l : Le W0 W) (fr : Frm K W0 W τ σ) (rh : RH K W h) (i : Nat) : ∃ W', W'.H = W.H ∧ Le W0 W' ∧ LeF W W' ∧ Frm K W0 W' (frzT τ i) σ ∧ RH K W' h := by
  unfold frzT
  cases et : τ[i]? with
  | none => exact ⟨W, rfl, l, .refl _, fr, rh⟩
  | some s =>
    cases s with
    | own xs =>
      obtain ⟨a, vs, ea, ha, ra, wa⟩ := fr.at_ i _ et
      exact ⟨W.frz a, rfl, le_frz l wa.new, lef_frz _ _, fr.frz et rfl ea (by rw [Rep]; exact ⟨a, vs, rfl, ⟨.inr rfl, ha⟩, ra.mono (lef_frz _ _)⟩), rh_frz rh wa.nr (by rw [ha]; exact fun z => by cases z)⟩
    | ownK xs =>
      obtain ⟨a, vs, ea, ha, ra, wa⟩ := fr.at_ i _ et
      exact ⟨W.frz a, rfl, le_frz l wa.new, lef_frz _ _, fr.frz et rfl ea (by rw [Rep]; exact ⟨a, vs, rfl, .inr rfl, .inl ha, ra.mono (lef_frz _ _)⟩), rh_frz rh wa.nr (by rw [ha]; exact fun z => by cases z)⟩
    | ownT xs =>
      obtain ⟨a, vs, ea, ha, ra, wa⟩ := fr.at_ i _ et
      exact ⟨W.frz a, rfl, le_frz l wa.new, lef_frz _ _, fr.frz et rfl ea (by rw [Rep]; exact ⟨a, vs, rfl, .inr rfl, .inl ha, ra.mono (lef_frz _ _)⟩), rh_frz rh wa.nr (by rw [ha]; exact fun z => by cases z)⟩
    | _ => exact ⟨W, rfl, l, .refl _, fr, rh⟩
/-- ahead of a statement the own list of slot i becomes a value -/
theorem den_frz {J : Cx → TS → Prop} (i : Nat) (hst : DenJ C J f) : DenJ C J (fun τ h => f (frzT τ i) h) := fun X E ok => by
  obtain ⟨t, p, q⟩ := hst X E ok
  refine ⟨t, p, fun W0 W τ σ h D l fr rh o => ?_⟩
  obtain ⟨W', eH, l', lf, fr', rh'⟩ := frzT_ok l fr rh i
  rw [← eH]
  exact q W0 W' _ σ h D l' fr' rh' (okS.mono lf o)

/-! ### loops -/
def forS (g : GT) (b : DS) : List D → DS
  | [], τ, h => .nx τ h
  | x :: r, τ, h => match g x τ with
    | none => .bad
    | some τ1 => match b τ1 h with
      | .nx τ2 h2 => forS g b r τ2 h2
      | .ct τ2 h2 => forS g b r τ2 h2
      | .bk τ2 h2 => .nx τ2 h2
      | s => s
def forR (it : DA) (g : GT) (b : DS) : DS := fun τ h => RS.ofR (it τ h) τ fun items h1 => forS g b items τ h1
theorem den_for {tg iter : Expr} {body : List Stmt} {fi : DA} {g : GT} {is : List Nat} {fb : DS} (hi : DenI C tg iter fi) (hg : DenGt C tg is g) (hb : DenSs C body fb) (hs : ∀ env x, foldedSetIterable iter env x = pure x) :
    DenS C (.For tg iter body [] pos) (forR fi g fb) := fun X E ok => by
  obtain ⟨ti, pi, qi⟩ := hi X E ok
  obtain ⟨tg', pg, qg⟩ := hg X E ok
  obtain ⟨tb, pb, qb⟩ := hb X E ok
  refine ⟨_, ps_for ok.own ok.calm pi pg pb (hs _), fun W0 W τ σ h D l fr rh o => ?_⟩
  refine qi W0 W τ σ h _ l fr rh (okS.ex l o fun items h1 W1 J l1 rh1 wk o1 => ?_)
  refine ⟨fun i m σ H => m = items.length - i ∧ i ≤ items.length ∧ ∃ W2 τ2 h2, W2.H = H ∧ Le W0 W2 ∧ LeF W1 W2 ∧ Frm C.g.K W0 W2 τ2 σ ∧ RH C.g.K W2 h2 ∧ okS C W0 W1 E D (forS g fb (items.drop i) τ2 h2),
    ⟨items.length, by simp, Nat.zero_le _, W1, τ, h1, rfl, l.trans l1, .refl _, fr.mono l1, rh1, by rw [List.drop_zero]; exact o1⟩, ?_⟩
  rintro i m σ2 H ⟨rfl, hi, W2, τ2, h2, rfl, l2, lf2, fr2, rh2, o2⟩
  by_cases hlt : i < items.length
  · have hdrop : items.drop i = items[i] :: items.drop (i + 1) := List.drop_eq_getElem_cons hlt
    rw [hdrop] at o2
    have hit : items[i]? = some items[i] := List.getElem?_eq_getElem hlt
    obtain ⟨hgo, hy⟩ := (wk i W2 lf2).1 _ hit
    refine .inr ⟨hgo, fun σ' H' => ∃ W3 τ3 h3, W3.H = H' ∧ Le W0 W3 ∧ LeF W1 W3 ∧ Frm C.g.K W0 W3 τ3 σ' ∧ RH C.g.K W3 h3 ∧ okS C W0 W1 E D (forS g fb (items.drop (i + 1)) τ3 h3), fun σ' H' hN => ⟨items.length - (i + 1), by omega, rfl, hlt, hN⟩, fun x H' y => ?_⟩
    obtain ⟨W3, rfl, l3, k3, r3⟩ := hy x H' y
    have o2 : okS C W0 W1 E D (match g items[i] τ2 with | none => .bad | some τ1 => match fb τ1 h2 with | .nx τ2 h2 => forS g fb (items.drop (i + 1)) τ2 h2 | .ct τ2 h2 => forS g fb (items.drop (i + 1)) τ2 h2 | .bk τ2 h2 => .nx τ2 h2 | s => s) := o2
    cases eg : g items[i] τ2 with
    | none => rw [eg] at o2; exact o2.elim
    | some τ1 =>
      rw [eg] at o2
      have o2 : okS C W0 W1 E D (match fb τ1 h2 with | .nx τ2 h2 => forS g fb (items.drop (i + 1)) τ2 h2 | .ct τ2 h2 => forS g fb (items.drop (i + 1)) τ2 h2 | .bk τ2 h2 => .nx τ2 h2 | s => s) := o2
      refine qg W0 W3 τ2 σ2 items[i] x τ1 _ (fr2.mono l3) r3 eg fun σ3 fr4 _ _ _ => ?_
      have lf3 := lf2.trans l3.toLeF
      refine qb W0 W3 τ1 σ3 h2 _ (l2.trans l3) fr4 (k3 _ rh2) ?_
      cases eb : fb τ1 h2 with
      | nx τ4 h4 => rw [eb] at o2; exact fun W4 σ4 a b c d => ⟨W4, τ4, h4, rfl, a, lf3.trans b, c, d, o2⟩
      | ct τ4 h4 => rw [eb] at o2; exact fun W4 σ4 a b c d => ⟨W4, τ4, h4, rfl, a, lf3.trans b, c, d, o2⟩
      | bk τ4 h4 => rw [eb] at o2; exact fun W4 σ4 a b c d => o2 W4 σ4 a (lf3.trans b) c d
      | rt d4 h4 => rw [eb] at o2; exact fun W4 v a b c d => o2 W4 v a (lf3.trans b) c d
      | exc x4 h4 => rw [eb] at o2; exact fun W4 c dd σ4 a b r z => o2 W4 c dd σ4 a (lf3.trans b) r z
      | bad => rw [eb] at o2; exact o2.elim
  · have e : i = items.length := by omega
    subst e
    rw [List.drop_length] at o2
    exact .inl ⟨(wk _ W2 lf2).2 rfl, o2 W2 σ2 l2 lf2 fr2 rh2⟩
def whileS (c : DT) (b : DS) : Nat → DS
  | 0, _, _ => .bad
  | n + 1, τ, h => RS.ofR (c τ h) τ fun k h1 => if k then match b τ h1 with
      | .nx τ2 h2 => whileS c b n τ2 h2
      | .ct τ2 h2 => whileS c b n τ2 h2
      | .bk τ2 h2 => .nx τ2 h2
      | s => s
    else .nx τ h1
theorem den_while (N : Nat) {c : Expr} {body : List Stmt} {fc : DT} {fb : DS} (hc : DenT C c fc) (hb : DenSs C body fb) : DenS C (.While c body [] pos) (whileS fc fb N) := fun X E ok => by
  obtain ⟨tc, pc, qc⟩ := hc X E ok
  obtain ⟨tb, pb, qb⟩ := hb X E ok
  refine ⟨_, ps_while ok.own pc pb, fun W0 W τ σ h D l fr rh o => ?_⟩
  refine ⟨fun m σ H => ∃ W2 τ2 h2, W2.H = H ∧ Le W0 W2 ∧ Frm C.g.K W0 W2 τ2 σ ∧ RH C.g.K W2 h2 ∧ okS C W0 W2 E D (whileS fc fb m τ2 h2), ⟨N, W, τ, h, rfl, l, fr, rh, o⟩, ?_⟩
  rintro m σ2 H ⟨W2, τ2, h2, rfl, l2, fr2, rh2, o2⟩
  cases m with
  | zero => exact (show False from o2).elim
  | succ m =>
    refine qc W0 W2 τ2 σ2 h2 _ l2 fr2 rh2 (okS.ex l2 o2 fun k h3 W3 k' l3 rh3 e3 o3 => ?_)
    subst e3
    cases k with
    | false => exact iteF (o3 W3 σ2 (l2.trans l3) (.refl _) (fr2.mono l3) rh3)
    | true =>
      have o3 : okS C W0 W3 E D (match fb τ2 h3 with | .nx τ2 h2 => whileS fc fb m τ2 h2 | .ct τ2 h2 => whileS fc fb m τ2 h2 | .bk τ2 h2 => .nx τ2 h2 | s => s) := o3
      refine iteT ⟨fun σ' H' => ∃ W4 τ4 h4, W4.H = H' ∧ Le W0 W4 ∧ Frm C.g.K W0 W4 τ4 σ' ∧ RH C.g.K W4 h4 ∧ okS C W0 W4 E D (whileS fc fb m τ4 h4), fun σ' H' hN => ⟨m, Nat.lt_succ_self _, hN⟩, ?_⟩
      refine qb W0 W3 τ2 σ2 h3 _ (l2.trans l3) (fr2.mono l3) rh3 ?_
      cases eb : fb τ2 h3 with
      | nx τ4 h4 => rw [eb] at o3; exact fun W4 σ4 a b c d => ⟨W4, τ4, h4, rfl, a, c, d, okS.mono b o3⟩
      | ct τ4 h4 => rw [eb] at o3; exact fun W4 σ4 a b c d => ⟨W4, τ4, h4, rfl, a, c, d, okS.mono b o3⟩
      | bk τ4 h4 => rw [eb] at o3; exact fun W4 σ4 a b c d => o3 W4 σ4 a b c d
      | rt d4 h4 => rw [eb] at o3; exact fun W4 v a b c d => o3 W4 v a b c d
      | exc x4 h4 => rw [eb] at o3; exact fun W4 c dd σ4 a b r z => o3 W4 c dd σ4 a b r z
      | bad => rw [eb] at o3; exact o3.elim
end

/-! ### defs -/
/-- what a body is worth as a function -/
def fnR (n : Nat) (f : DS) : DF := fun ds h => match f (ds.map Sl.val ++ List.replicate (n - ds.length) Sl.un) h with
  | .rt d h' => .ok d h'
  | .nx _ h' => .ok .non h'
  | .exc x h' => .exc x h'
  | _ => .bad
theorem frm_start {K : PySem.W.Frag} {W : Wd} {N : List Str} {ds : List D} {vs : List V} (r : Reps K W ds vs) : Frm K W W (ds.map Sl.val ++ List.replicate (N.length - ds.length) Sl.un) (L2.start N vs) where
  len := by unfold L2.start; simp [r.length]
  at_ := fun i x e => by
    unfold L2.start
    by_cases hi : i < ds.length
    · rw [List.getElem?_append_left (by simpa using hi), List.getElem?_map] at e
      rw [List.getElem?_append_left (by rw [List.length_map, ← r.length]; exact hi), List.getElem?_map]
      cases ed : ds[i]? with
      | none => rw [ed] at e; cases e
      | some d =>
        rw [ed] at e
        cases e
        obtain ⟨v, ev, rv⟩ := r.get ed
        rw [ev]
        exact ⟨v, rfl, rv⟩
    · rw [List.getElem?_append_right (by simpa using hi), List.getElem?_replicate] at e
      split at e
      · cases e; trivial
      · cases e
  dis := fun i j x y a ne e1 e2 o1 o2 => by
    have : ∀ {i : Nat} {x : Sl}, (ds.map Sl.val ++ List.replicate (N.length - ds.length) Sl.un)[i]? = some x → x.isOwn = false := fun {i x} e => by
      by_cases hi : i < ds.length
      · rw [List.getElem?_append_left (by simpa using hi), List.getElem?_map] at e
        cases ed : ds[i]? with
        | none => rw [ed] at e; cases e
        | some d => rw [ed] at e; cases e; rfl
      · rw [List.getElem?_append_right (by simpa using hi), List.getElem?_replicate] at e
        split at e
        · cases e; rfl
        · cases e
    rw [this e1] at o1; cases o1
/-- THE RULE for a def of the text -/
theorem fn_mk {g : Gx} {x qual : Str} {st : Stmt} {f : Addr} {fd : FuncData} {N ps : List Str} {k : Nat} {fb : DS} (F : L2.Fun g.K x qual st f fd) (S : FnScope N ps (defScope st)) (hm : g.mg x = some (.ref f)) (hb : L2.Binds g.K fd ps [])
    (hbody : DenSs ⟨g, k, N, defScope st, fun _ => true⟩ (defBody st) fb) : FnD g x ps.length (k + 1) (fnR N.length fb) := by
  refine ⟨f, fd, ps, ?_, hm, F.kp, hb⟩
  refine F.okX S (fun vs H Q E h => h.1) fun cdv A outer s H vs Q E hr h => ?_
  obtain ⟨hl, W, ds, h0, rfl, rh, r, o⟩ := h
  have ok : CxOk ⟨g, k, N, defScope st, fun _ => true⟩ (cxOf (L2.CX g.P g.w) g.P g.w g.K g.mg g.base N qual (defScope st) f cdv A outer s W.H E) (fun c d _ H => E c d H) :=
    ⟨rfl, rfl, rfl, rfl, rfl, rfl, S.nd, rfl, rfl, hr, takes_of rfl rfl rfl rfl, passes_of rfl, fun _ _ => rfl⟩
  obtain ⟨t, p, q⟩ := hbody _ _ ok
  refine ⟨t, p, q W W _ _ h0 _ (.refl _) (frm_start r) rh ?_⟩
  have o : okG g.K g.mg (Rep g.K) W E Q (match fb (ds.map Sl.val ++ List.replicate (N.length - ds.length) Sl.un) h0 with | .rt d h' => .ok d h' | .nx _ h' => .ok .non h' | .exc x h' => .exc x h' | _ => .bad) := o
  cases ef : fb (ds.map Sl.val ++ List.replicate (N.length - ds.length) Sl.un) h0 with
  | rt d h' => rw [ef] at o; exact fun W' v l _ rh' r' => o W' v l rh' r'
  | nx τ h' => rw [ef] at o; exact fun W' σ l _ fr rh' => o W' _ l rh' rep_non
  | exc x h' => rw [ef] at o; exact fun W' c dd σ l _ rh' r' => o W' c dd l rh' r'
  | bk _ _ => rw [ef] at o; exact o.elim
  | ct _ _ => rw [ef] at o; exact o.elim
  | bad => rw [ef] at o; exact o.elim
/-- the same def, told in other words -/
theorem FnD.congr {g : Gx} {x : Str} {n k : Nat} {φ ψ : DF} (F : FnD g x n k φ) (h : φ = ψ) : FnD g x n k ψ := h ▸ F
/-- the law's promise: the script is handed in, True comes out -/
theorem law_sp {g : Gx} {φ : DF} {H : Hp} {a : Addr} {ns : List Int} (hO : L2.Only H) (hS : SqL g.K H a (ns.map V.int)) (hok : ∃ h, φ [.frl (ns.map .int)] [] = .ok (.bl true) h) :
    spOf g 1 φ [.ref a] H (fun v _ => v = .bl true) fun _ _ _ => False := by
  obtain ⟨h, e⟩ := hok
  refine ⟨rfl, ⟨fun b => H b ≠ none, [], H⟩, [.frl (ns.map .int)], [], rfl, ⟨rfl, .nil, (fun n xs a e _ => by simp at e), (fun a m => by cases m), fun a f => f⟩, ?_, ?_⟩
  · refine .one ?_
    rw [Rep]
    refine ⟨a, ns.map V.int, rfl, ?_, reps_ints ns⟩
    rcases hS with q | q
    · exact .inl ⟨Rd.ne q, q⟩
    · exact .inr q
  · rw [e]
    intro W' v l rh r
    rw [Rep] at r
    exact r
end Sw

/-! Sw, part J: comprehensions of two clauses; a, b = x, y; isinstance. -/
namespace Sw
open PySem PySem.Spec PyProof.Rows L2

/-! ### two clauses -/
/-- behind the first clause: the items of the second -/
def lcL2 (g : GT) (tt : DT) (it1 : DA) (vs1 : List Nat) (g1 : GT) (tt1 : DT) (te : DE) (τ : List Sl) : List D → HS → Res (List D)
  | [], h => .ok [] h
  | x :: r, h => match g x τ with
    | none => .bad
    | some τ1 => (tt τ1 h).nox.bind fun b h1 => if b then (it1 τ1 h1).nox.bind fun items h2 => (lcL g1 tt1 te (wipeT τ1 vs1) items h2).nox.bind fun ys h3 => (lcL2 g tt it1 vs1 g1 tt1 te τ r h3).nox.bind fun zs h4 => .ok (ys ++ zs) h4
      else lcL2 g tt it1 vs1 g1 tt1 te τ r h1
def lcR2 (it : DA) (vs : List Nat) (g : GT) (tt : DT) (it1 : DA) (vs1 : List Nat) (g1 : GT) (tt1 : DT) (te : DE) : DE := fun τ h => (it τ h).bind fun items h1 =>
  (lcL2 g tt it1 vs1 g1 tt1 te (wipeT τ vs) items h1).nox.bind fun ys h2 => if fits ys.length then .ok (.lst ys) h2 else .bad
theorem lcL2_cons {g g1 : GT} {tt tt1 : DT} {te : DE} {it1 : DA} {vs1 : List Nat} {τ : List Sl} {x : D} {r : List D} {h : HS} : lcL2 g tt it1 vs1 g1 tt1 te τ (x :: r) h = match g x τ with
    | none => .bad
    | some τ1 => (tt τ1 h).nox.bind fun b h1 => if b then (it1 τ1 h1).nox.bind fun items h2 => (lcL g1 tt1 te (wipeT τ1 vs1) items h2).nox.bind fun ys h3 => (lcL2 g tt it1 vs1 g1 tt1 te τ r h3).nox.bind fun zs h4 => .ok (ys ++ zs) h4
      else lcL2 g tt it1 vs1 g1 tt1 te τ r h1 := rfl
/-- the end of a comprehension with acc made: what is wanted -/
def Fin (C : Cn) (W W1 : Wd) (E : XK) (Q : VK) (acc : List D) (r : Res (List D)) : Prop :=
  okG C.g.K C.g.mg (NewR C.g.K W) W1 E Q (r.nox.bind fun ys h2 => if fits (acc ++ ys).length then .ok (.lst (acc ++ ys)) h2 else .bad)
theorem Fin.len {C : Cn} {W W1 : Wd} {E : XK} {Q : VK} {acc : List D} {r : Res (List D)} (o : Fin C W W1 E Q acc r) : acc.length ≤ sizeLine := by
  unfold Fin at o
  cases r with
  | ok ys s =>
    by_cases hz : fits (acc ++ ys).length = true
    · have := of_decide_eq_true hz
      rw [List.length_append] at this
      omega
    · simp only [Res.nox, Res.bind, if_neg hz] at o; exact o.elim
  | exc x s => exact o.elim
  | bad => exact o.elim
theorem Fin.one {C : Cn} {W W1 : Wd} {E : XK} {Q : VK} {acc : List D} {y : D} {r : Res (List D)} {k : List D → HS → Res (List D)} (o : Fin C W W1 E Q acc ((r.nox.bind fun ys h3 => .ok (y :: ys) h3).nox.bind fun ys h => (k [] h).nox.bind fun zs h4 => .ok (ys ++ zs) h4)) :
    Fin C W W1 E Q (acc ++ [y]) (r.nox.bind fun ys h => (k [] h).nox.bind fun zs h4 => .ok (ys ++ zs) h4) := by
  unfold Fin at o ⊢
  cases r with
  | ok ys s =>
    simp only [Res.nox, Res.bind] at o ⊢
    cases ek : k [] s with
    | ok zs s2 =>
      rw [ek] at o
      simp only at o ⊢
      simpa using o
    | exc _ _ => rw [ek] at o; exact o
    | bad => rw [ek] at o; exact o
  | exc x s => exact o
  | bad => exact o
theorem Fin.nil {C : Cn} {W W1 : Wd} {E : XK} {Q : VK} {acc : List D} {r : Res (List D)} (o : Fin C W W1 E Q acc (r.nox.bind fun zs h4 => .ok ([] ++ zs) h4)) : Fin C W W1 E Q acc r := by
  unfold Fin at o ⊢
  cases r with
  | ok ys s => exact o
  | exc x s => exact o
  | bad => exact o
/-- an object that no slot of the frame holds is written -/
theorem Frm.other {K : PySem.W.Frag} {W0 W : Wd} {τ : List Sl} {σ : L2.St} {a : Addr} {o : HO} (f : Frm K W0 W τ σ) (nF : ¬ W.F a) (n : ∀ (i : Nat) (x : Sl), τ[i]? = some x → x.isOwn = true → σ[i]? ≠ some (some (.ref a))) : Frm K W0 (W.put a o) τ σ := by
  have lf := lef_own (W2 := W) (Dd := a) (o := o) nF
  refine ⟨f.len, fun j x e => ?_, f.dis⟩
  have h0 := f.at_ j x e
  have ne' := n j x e
  cases x with
  | un => trivial
  | val d => obtain ⟨v, e, r⟩ := h0; exact ⟨v, e, r.mono lf⟩
  | own zs =>
    obtain ⟨b, vs, e, h, r, w'⟩ := h0
    have hb : b ≠ a := fun z => ne' rfl (by rw [e, z])
    exact ⟨b, vs, e, by rw [← h]; exact upd_ne hb, r.mono lf, w'.nf, w'.nr, w'.new⟩
  | ownK zs =>
    obtain ⟨b, vs, e, h, r, w'⟩ := h0
    have hb : b ≠ a := fun z => ne' rfl (by rw [e, z])
    exact ⟨b, vs, e, by rw [← h]; exact upd_ne hb, r.mono lf, w'.nf, w'.nr, w'.new⟩
  | ownT zs =>
    obtain ⟨b, vs, e, h, r, w'⟩ := h0
    have hb : b ≠ a := fun z => ne' rfl (by rw [e, z])
    exact ⟨b, vs, e, by rw [← h]; exact upd_ne hb, r.mono lf, w'.nf, w'.nr, w'.new⟩
section
variable {C : Cn} {elt tg iter tg1 iter1 : Expr} {ifs ifs1 : List Expr} {scope : Scope} {own : List (Str × Nat)} {pos : Pos} {fi fi1 : DA} {g g1 : GT} {is vs1 : List Nat} {ft ft1 : DT} {fe : DE}
theorem lc2_read {X : Cx} {E : WX} (ok : CxOk C X E) (hi : DenI C tg iter fi) (ho : ∀ i ∈ is, i ∈ own.map (·.2)) (hg : DenGt (C.blk scope) tg is g) (ht : DenTs (C.blk scope) ifs ft)
    (hi1 : DenI (C.blk scope) tg1 iter1 fi1) (hg1 : DenGt (C.blk scope) tg1 vs1 g1) (ht1 : DenTs (C.blk scope) ifs1 ft1) (he : DenE (C.blk scope) elt fe) :
    ∃ (wi wi1 : TI) (gt gt1 : TG) (tt tt1 : TT) (te : TE), PI X tg iter wi ∧ (∀ i, PG (bX X scope i) tg gt) ∧ (∀ i, PTs (bX X scope i) ifs tt) ∧ (∀ i, PI (bX X scope i) tg1 iter1 wi1) ∧ (∀ i, PG (bX X scope i) tg1 gt1) ∧ (∀ i, PTs (bX X scope i) ifs1 tt1) ∧ (∀ i, PE (bX X scope i) elt te) ∧
      ∀ W0 W τ σ h (Q : VK), Le W0 W → Frm C.g.K W0 W τ σ → RH C.g.K W h → okG C.g.K C.g.mg (NewR C.g.K W) W (fun c dd H => E c dd σ H) Q (lcR2 fi (own.map (·.2)) g ft fi1 vs1 g1 ft1 fe τ h) →
        tLc2 wi gt tt wi1 gt1 tt1 te (own.map (·.2)) vs1 σ W.H Q := by
  obtain ⟨wi, pi, qi⟩ := hi X E ok
  have oks : ∀ i : BI, CxOk (C.blk scope) (bX X scope i) (fun _ _ _ _ => False) := fun i => ok.blk scope i.s i.H i.C i.cl i.fp
  obtain ⟨gt, pg, qg⟩ := hg.unif (bX X scope) _ oks
  obtain ⟨tt, pt, qt⟩ := ht.unif (bX X scope) _ oks fun X t t' p k => PTs.anti p k
  obtain ⟨wi1, pi1, qi1⟩ := hi1.unif (bX X scope) _ oks fun X t t' p k => PI.anti p k
  obtain ⟨gt1, pg1, qg1⟩ := hg1.unif (bX X scope) _ oks
  obtain ⟨tt1, pt1, qt1⟩ := ht1.unif (bX X scope) _ oks fun X t t' p k => PTs.anti p k
  obtain ⟨te, pe, qe⟩ := he.unif (bX X scope) _ oks fun X t t' p k => PE.anti p k
  refine ⟨wi, wi1, gt, gt1, tt, tt1, te, pi, pg, pt, pi1, pg1, pt1, pe, fun W0 W τ σ h Q l fr rh o => ?_⟩
  refine qi W0 W τ σ h _ l fr rh (okG.bind o fun items h1 W1 J l1 rh1 wk o1 => ?_)
  intro Dd hD
  let vs := own.map (·.2)
  let τ0 := wipeT τ vs
  let Ex : XK := fun c dd H => E c dd σ H
  let F := fun (acc : List D) (r : Res (List D)) => Fin C W W1 Ex Q acc r
  have o1 : F [] (lcL2 g ft fi1 vs1 g1 ft1 fe τ0 items h1) := by simpa [F, Fin] using o1
  refine ⟨fun i m H => m = items.length - i ∧ i ≤ items.length ∧ ∃ W2 acc h2, W2.H = H ∧ OwnL C.g.K W1 W2 Dd acc h2 ∧ F acc (lcL2 g ft fi1 vs1 g1 ft1 fe τ0 (items.drop i) h2),
    ⟨items.length, by simp, Nat.zero_le _, W1.put Dd (.lst []), [], h1, rfl, ?_, ?_⟩, ?_⟩
  · exact ⟨le_put hD, rh_put hD rh1, ⟨[], upd_same, .nil⟩, fun f => rh1.up _ f hD, fun m => rh1.there m hD⟩
  · rw [List.drop_zero]; exact o1
  rintro i m H ⟨rfl, hi, W2, acc, h2, rfl, w, o2⟩
  by_cases hlt : i < items.length
  · have hdrop : items.drop i = items[i] :: items.drop (i + 1) := List.drop_eq_getElem_cons hlt
    rw [hdrop, lcL2_cons] at o2
    have hit : items[i]? = some items[i] := List.getElem?_eq_getElem hlt
    obtain ⟨hgo, hy⟩ := (wk i W2 w.le.toLeF).1 _ hit
    refine .inr ⟨hgo, fun H' => ∃ W3 acc h3, W3.H = H' ∧ OwnL C.g.K W1 W3 Dd acc h3 ∧ F acc (lcL2 g ft fi1 vs1 g1 ft1 fe τ0 (items.drop (i + 1)) h3), fun H' hN => ⟨items.length - (i + 1), by omega, rfl, hlt, hN⟩, fun x H' y => ?_⟩
    obtain ⟨W3, rfl, l3, k3, r3⟩ := hy x H' y
    have w3 := w.step l3 (k3 _ w.rh)
    have fr3 : Frm C.g.K W0 W3 τ0 (L2.wipe σ vs) := (fr.mono ((l1.trans w.le).trans l3)).wipe vs
    have le03 : Le W0 W3 := (l.trans (l1.trans w.le)).trans l3
    cases eg : g items[i] τ0 with
    | none => rw [eg] at o2; exact (show False from o2).elim
    | some τ1 =>
      rw [eg] at o2
      refine qg W0 W3 τ0 _ items[i] x τ1 _ fr3 r3 eg fun σ2 fr4 hl2 hs2 ho2 => ⟨?_, ?_⟩
      · rw [wipe_same (σ := L2.wipe σ vs) (σ' := σ2) (vs := vs) hl2 fun j hj => hs2 j fun z => hj (ho j z), wipe_wipe]
      · have o2 : F acc ((ft τ1 h2).nox.bind fun b h1 => if b then (fi1 τ1 h1).nox.bind fun items' h2 => (lcL g1 ft1 fe (wipeT τ1 vs1) items' h2).nox.bind fun ys h3 => (lcL2 g ft fi1 vs1 g1 ft1 fe τ0 (items.drop (i + 1)) h3).nox.bind fun zs h4 => .ok (ys ++ zs) h4
          else lcL2 g ft fi1 vs1 g1 ft1 fe τ0 (items.drop (i + 1)) h1) := o2
        cases et : ft τ1 h2 with
        | exc _ _ => rw [et] at o2; exact (show False from o2).elim
        | bad => rw [et] at o2; exact (show False from o2).elim
        | ok b h4 =>
          refine qt W0 W3 τ1 σ2 h2 _ le03 fr4 w3.rh ?_
          rw [et] at o2 ⊢
          intro W4 b' l4 rh4 hb'
          subst hb'
          have w4 := w3.step l4 rh4
          have fr5 := fr4.mono l4
          have le04 := le03.trans l4
          cases b with
          | false => exact iteF ⟨W4, acc, h4, rfl, w4, o2⟩
          | true =>
            refine iteT ?_
            have o2 : F acc ((fi1 τ1 h4).nox.bind fun items' h2 => (lcL g1 ft1 fe (wipeT τ1 vs1) items' h2).nox.bind fun ys h3 => (lcL2 g ft fi1 vs1 g1 ft1 fe τ0 (items.drop (i + 1)) h3).nox.bind fun zs h4 => .ok (ys ++ zs) h4) := o2
            cases ei : fi1 τ1 h4 with
            | exc _ _ => rw [ei] at o2; exact (show False from o2).elim
            | bad => rw [ei] at o2; exact (show False from o2).elim
            | ok items' h5 =>
              refine qi1 W0 W4 τ1 σ2 h4 _ le04 fr5 rh4 ?_
              rw [ei] at o2 ⊢
              intro W5 J1 l5 rh5 wk1
              have w5 := w4.step l5 rh5
              let K2 := fun (_ : List D) h3 => lcL2 g ft fi1 vs1 g1 ft1 fe τ0 (items.drop (i + 1)) h3
              let τ2 := wipeT τ1 vs1
              have fr6 : Frm C.g.K W0 W5 τ1 σ2 := fr5.mono l5
              refine ⟨fun j k H => k = items'.length - j ∧ j ≤ items'.length ∧ ∃ W6 acc h6, W6.H = H ∧ OwnL C.g.K W1 W6 Dd acc h6 ∧ LeF W5 W6 ∧ Le W0 W6 ∧ Frm C.g.K W0 W6 τ1 σ2 ∧
                F acc ((lcL g1 ft1 fe τ2 (items'.drop j) h6).nox.bind fun ys h3 => (K2 [] h3).nox.bind fun zs h4 => .ok (ys ++ zs) h4), ⟨items'.length, by simp, Nat.zero_le _, W5, acc, h5, rfl, w5, .refl _, le04.trans l5, fr6, ?_⟩, ?_⟩
              · rw [List.drop_zero]; exact o2
              rintro j k H ⟨rfl, hj, W6, acc6, h6, rfl, w6, lf6, le6, fr7, o6⟩
              by_cases hlt1 : j < items'.length
              · have hdrop1 : items'.drop j = items'[j] :: items'.drop (j + 1) := List.drop_eq_getElem_cons hlt1
                rw [hdrop1, lcL_cons] at o6
                have hit1 : items'[j]? = some items'[j] := List.getElem?_eq_getElem hlt1
                obtain ⟨hgo1, hy1⟩ := (wk1 j W6 lf6).1 _ hit1
                refine .inr ⟨hgo1, fun H' => ∃ W7 acc h7, W7.H = H' ∧ OwnL C.g.K W1 W7 Dd acc h7 ∧ LeF W5 W7 ∧ Le W0 W7 ∧ Frm C.g.K W0 W7 τ1 σ2 ∧
                  F acc ((lcL g1 ft1 fe τ2 (items'.drop (j + 1)) h7).nox.bind fun ys h3 => (K2 [] h3).nox.bind fun zs h4 => .ok (ys ++ zs) h4), fun H' hN => ⟨items'.length - (j + 1), by omega, rfl, hlt1, hN⟩, fun x1 H' y1 => ?_⟩
                obtain ⟨W7, rfl, l7, k7, r7⟩ := hy1 x1 H' y1
                have w7 := w6.step l7 (k7 _ w6.rh)
                have fr8 : Frm C.g.K W0 W7 τ2 (L2.wipe σ2 vs1) := (fr7.mono l7).wipe vs1
                have le07 := le6.trans l7
                cases eg1 : g1 items'[j] τ2 with
                | none => rw [eg1] at o6; exact (show False from o6).elim
                | some τ3 =>
                  rw [eg1] at o6
                  refine qg1 W0 W7 τ2 _ items'[j] x1 τ3 _ fr8 r7 eg1 fun σ3 fr9 hl3 hs3 _ => ⟨?_, ?_⟩
                  · rw [wipe_same (σ := L2.wipe σ2 vs1) (σ' := σ3) (vs := vs1) hl3 hs3, wipe_wipe]
                  · have o6 : F acc6 (((ft1 τ3 h6).nox.bind fun b h1 => if b then (fe τ3 h1).nox.bind fun y h2 => (lcL g1 ft1 fe τ2 (items'.drop (j + 1)) h2).nox.bind fun ys h3 => .ok (y :: ys) h3 else lcL g1 ft1 fe τ2 (items'.drop (j + 1)) h1).nox.bind fun ys h3 => (K2 [] h3).nox.bind fun zs h4 => .ok (ys ++ zs) h4) := o6
                    cases et1 : ft1 τ3 h6 with
                    | exc _ _ => rw [et1] at o6; exact (show False from o6).elim
                    | bad => rw [et1] at o6; exact (show False from o6).elim
                    | ok b h8 =>
                      refine qt1 W0 W7 τ3 σ3 h6 _ le07 fr9 w7.rh ?_
                      rw [et1] at o6 ⊢
                      intro W8 b' l8 rh8 hb'
                      subst hb'
                      have w8 := w7.step l8 rh8
                      cases b with
                      | false => exact iteF ⟨W8, acc6, h8, rfl, w8, (lf6.trans l7.toLeF).trans l8.toLeF, le07.trans l8, (fr7.mono l7).mono l8, o6⟩
                      | true =>
                        refine iteT ?_
                        have o6 : F acc6 (((fe τ3 h8).nox.bind fun y h2 => (lcL g1 ft1 fe τ2 (items'.drop (j + 1)) h2).nox.bind fun ys h3 => .ok (y :: ys) h3).nox.bind fun ys h3 => (K2 [] h3).nox.bind fun zs h4 => .ok (ys ++ zs) h4) := o6
                        cases ee : fe τ3 h8 with
                        | exc _ _ => rw [ee] at o6; exact (show False from o6).elim
                        | bad => rw [ee] at o6; exact (show False from o6).elim
                        | ok d h9 =>
                          refine qe W0 W8 τ3 σ3 h8 _ (le07.trans l8) (fr9.mono l8) rh8 ?_
                          rw [ee] at o6 ⊢
                          intro W9 yv l9 rh9 r9
                          have w9 := w8.step l9 rh9
                          obtain ⟨avs, ea, ra⟩ := w9.obj
                          have o7 : F (acc6 ++ [d]) ((lcL g1 ft1 fe τ2 (items'.drop (j + 1)) h9).nox.bind fun ys h3 => (K2 [] h3).nox.bind fun zs h4 => .ok (ys ++ zs) h4) := Fin.one o6
                          have hz := Fin.len o7
                          rw [List.length_append] at hz
                          refine ⟨avs, ea, by rw [← ra.length]; simp at hz; omega, W9.put Dd (.lst (avs ++ [yv])), acc6 ++ [d], h9, rfl, w9.app hD ea r9, ?_, le_own (((le07.trans l8).trans l9)) (by
                            exact (l.trans l1).old rh1 hD) w9.nF, ?_, o7⟩
                          · exact (((lf6.trans l7.toLeF).trans l8.toLeF).trans l9.toLeF).trans (lef_own w9.nF)
                          · refine (((fr7.mono l7).mono l8).mono l9).other w9.nF fun j' x' ej ox => ?_
                            obtain ⟨a1, a2⟩ := ho2 j' x' ej ox
                            rw [a2]
                            exact fun z => SlAt.there ((fr.wipe vs).at_ j' x' a1) ox z (l1.old rh1 hD)
              · have e : j = items'.length := by omega
                subst e
                rw [List.drop_length] at o6
                exact .inl ⟨(wk1 _ W6 lf6).2 rfl, W6, acc6, h6, rfl, w6, Fin.nil o6⟩
  · have e : i = items.length := by omega
    subst e
    rw [List.drop_length] at o2
    obtain ⟨avs, ea, ra⟩ := w.obj
    refine .inl ⟨(wk _ W2 w.le.toLeF).2 rfl, ?_⟩
    have o3 : okG C.g.K C.g.mg (NewR C.g.K W) W1 Ex Q (if fits (acc ++ []).length then .ok (.lst (acc ++ [])) h2 else .bad) := o2
    rw [List.append_nil] at o3
    by_cases hz : fits acc.length = true
    · rw [if_pos hz] at o3
      exact o3 W2 _ w.le w.rh ⟨Dd, avs, rfl, ea, ra, w.nF, w.nr, l1.old rh1 hD⟩
    · rw [if_neg hz] at o3; exact o3.elim
theorem den_lc2 (hi : DenI C tg iter fi) (hb : blkC C.N C.sc scope own = true) (ho : ∀ i ∈ is, i ∈ own.map (·.2)) (hv : ∀ i ∈ vs1, i ∈ own.map (·.2)) (hg : DenGt (C.blk scope) tg is g) (ht : DenTs (C.blk scope) ifs ft)
    (hi1 : DenI (C.blk scope) tg1 iter1 fi1) (hg1 : DenGt (C.blk scope) tg1 vs1 g1) (ht1 : DenTs (C.blk scope) ifs1 ft1) (he : DenE (C.blk scope) elt fe)
    (hs : ∀ env x, foldedSetIterable iter env x = pure x) (hs1 : ∀ env x, foldedSetIterable iter1 env x = pure x) : DenN C (.ListComp elt [⟨tg, iter, ifs, 0⟩, ⟨tg1, iter1, ifs1, 0⟩] scope pos) (lcR2 fi (own.map (·.2)) g ft fi1 vs1 g1 ft1 fe) := fun X E ok => by
  obtain ⟨wi, wi1, gt, gt1, tt, tt1, te, p1, p2, p3, p4, p5, p6, p7, q⟩ := lc2_read ok hi ho hg ht hi1 hg1 ht1 he
  exact ⟨_, pe_lc2 ok.calm ok.nd p1 (blkOk_by (by rw [ok.names, ok.scope]; exact hb)) hv (fun s H Cd cl fp => p2 ⟨s, H, Cd, cl, fp⟩) (fun s H Cd cl fp => p3 ⟨s, H, Cd, cl, fp⟩) (fun s H Cd cl fp => p4 ⟨s, H, Cd, cl, fp⟩) (fun s H Cd cl fp => p5 ⟨s, H, Cd, cl, fp⟩)
    (fun s H Cd cl fp => p6 ⟨s, H, Cd, cl, fp⟩) (fun s H Cd cl fp => p7 ⟨s, H, Cd, cl, fp⟩) (hs _) hs1, q⟩
end

/-! ### a, b = x, y -/
/-- a value that a name will hold: of its own, or shared by reading -/
def SlNew (K : PySem.W.Frag) (W W' : Wd) : Sl → V → Prop
  | .val d, v => Rep K W' d v
  | .own xs, v => NewR K W W' (.lst xs) v
  | .ownK xs, v => NewR K W W' (.dK xs) v
  | .ownT xs, v => NewR K W W' (.dT xs) v
  | .un, _ => False
def SlsNew (K : PySem.W.Frag) (W W' : Wd) : List Sl → List V → Prop
  | [], vs => vs = []
  | s :: ss, vs => ∃ v r, vs = v :: r ∧ SlNew K W W' s v ∧ SlsNew K W W' ss r ∧ (s.isOwn = true → ∀ (j : Nat) (s' : Sl), ss[j]? = some s' → s'.isOwn = true → r[j]? ≠ some v)
abbrev DenM (C : Cn) (es : List Expr) (f : List Sl → HS → Res (List Sl)) : Prop := DenG C (fun X t => PA X es t) (fun W => SlsNew C.g.K W) f
theorem NewR.mono {K : PySem.W.Frag} {W W1 W2 : Wd} {d : D} {v : V} (l : Le W1 W2) (n : NewR K W W1 d v) : NewR K W W2 d v := by
  cases d with
  | lst xs =>
    obtain ⟨a, vs, h1, h2, h3, h4, h5, h6⟩ := n
    obtain ⟨b1, b2, b3⟩ := l.fo a _ h2 h4 h5
    exact ⟨a, vs, h1, b1, h3.mono l.toLeF, b2, b3, h6⟩
  | dK xs =>
    obtain ⟨a, vs, h1, h2, h3, h4, h5, h6⟩ := n
    obtain ⟨b1, b2, b3⟩ := l.fo a _ h2 h4 h5
    exact ⟨a, vs, h1, b1, h3.mono l.toLeF, b2, b3, h6⟩
  | dT xs =>
    obtain ⟨a, vs, h1, h2, h3, h4, h5, h6⟩ := n
    obtain ⟨b1, b2, b3⟩ := l.fo a _ h2 h4 h5
    exact ⟨a, vs, h1, b1, h3.mono l.toLeF, b2, b3, h6⟩
  | _ => exact n.elim
def valM (a : DE) (r : List Sl → HS → Res (List Sl)) : List Sl → HS → Res (List Sl) := fun τ h => (a τ h).bind fun d h1 => (r τ h1).bind fun ss h2 => .ok (.val d :: ss) h2
def ownM (a : DE) (r : List Sl → HS → Res (List Sl)) : List Sl → HS → Res (List Sl) := fun τ h => (a τ h).bind fun d h1 => match ownSl d with
  | some s => (r τ h1).bind fun ss h2 => .ok (s :: ss) h2
  | none => .bad
section
variable {C : Cn} {e : Expr} {es : List Expr} {fe : DE} {fs : List Sl → HS → Res (List Sl)} {pos : Pos}
theorem den_mnil : DenM C [] (fun _ h => .ok [] h) := fun X E ok => ⟨_, pa_nil, fun W0 W τ σ h Q l fr rh o => okG.now o rh rfl⟩
theorem SlsNew.of {K : PySem.W.Frag} {W W1 W2 : Wd} {h : HS} (l : Le W W1) (rh : RH K W1 h) : ∀ {ss : List Sl} {vs : List V}, SlsNew K W1 W2 ss vs → SlsNew K W W2 ss vs
  | [], _, h => h
  | s :: ss, _, ⟨v, r, e, n, t, d⟩ => ⟨v, r, e, by
      cases s with
      | val d => exact n
      | un => exact n
      | own xs => exact NewR.of (d := .lst xs) l rh n
      | ownK xs => exact NewR.of (d := .dK xs) l rh n
      | ownT xs => exact NewR.of (d := .dT xs) l rh n, SlsNew.of l rh t, d⟩
theorem den_mval (he : DenE C e fe) (hr : DenM C es fs) (hs : ∀ env, starEach (e :: es) env = (false, eval e env) :: starEach es env) : DenM C (e :: es) (valM fe fs) := fun X E ok => by
  obtain ⟨t, p, q⟩ := he X E ok
  obtain ⟨t', p', q'⟩ := hr X E ok
  refine ⟨_, pa_cons p p' (hs _), fun W0 W τ σ h Q l fr rh o => ?_⟩
  refine q W0 W τ σ h _ l fr rh (okG.bind o fun x h1 W1 v l1 rh1 b1 o1 => ?_)
  refine q' W0 W1 τ σ h1 _ (l.trans l1) (fr.mono l1) rh1 ?_
  have o1 : okG C.g.K C.g.mg (SlsNew C.g.K W) W1 (fun c dd H => E c dd σ H) Q ((fs τ h1).bind fun ss h2 => .ok (.val x :: ss) h2) := o1
  cases ef : fs τ h1 with
  | exc _ _ => rw [ef] at o1; exact o1
  | bad => rw [ef] at o1; exact o1
  | ok ss h2 =>
    rw [ef] at o1
    exact fun W2 u l2 rh2 b2 => o1 W2 (v :: u) l2 rh2 ⟨v, u, rfl, b1.mono l2.toLeF, b2.of l1 rh1, fun z => by cases z⟩
theorem SlsNew.own_at {K : PySem.W.Frag} {W W' : Wd} : ∀ {ss : List Sl} {vs : List V} {j : Nat} {s : Sl}, SlsNew K W W' ss vs → ss[j]? = some s → s.isOwn = true → ∃ a, vs[j]? = some (.ref a) ∧ W.H a = none
  | [], _, j, s, _, e, _ => by simp at e
  | s :: ss, _, 0, s', ⟨v, r, rfl, n, t, d⟩, e, o => by
    simp at e
    subst e
    cases s with
    | own xs => obtain ⟨a, vs, rfl, _, _, _, _, h⟩ := n; exact ⟨a, rfl, h⟩
    | ownK xs => obtain ⟨a, vs, rfl, _, _, _, _, h⟩ := n; exact ⟨a, rfl, h⟩
    | ownT xs => obtain ⟨a, vs, rfl, _, _, _, _, h⟩ := n; exact ⟨a, rfl, h⟩
    | _ => cases o
  | s :: ss, _, j + 1, s', ⟨v, r, rfl, n, t, d⟩, e, o => by
    obtain ⟨a, h1, h2⟩ := SlsNew.own_at (j := j) t (by simpa using e) o
    exact ⟨a, by simpa using h1, h2⟩
theorem den_mown (he : DenN C e fe) (hr : DenM C es fs) (hs : ∀ env, starEach (e :: es) env = (false, eval e env) :: starEach es env) : DenM C (e :: es) (ownM fe fs) := fun X E ok => by
  obtain ⟨t, p, q⟩ := he X E ok
  obtain ⟨t', p', q'⟩ := hr X E ok
  refine ⟨_, pa_cons p p' (hs _), fun W0 W τ σ h Q l fr rh o => ?_⟩
  refine q W0 W τ σ h _ l fr rh (okG.bind o fun x h1 W1 v l1 rh1 b1 o1 => ?_)
  refine q' W0 W1 τ σ h1 _ (l.trans l1) (fr.mono l1) rh1 ?_
  cases es' : ownSl x with
  | none => rw [es'] at o1; exact o1.elim
  | some sl =>
    rw [es'] at o1
    have o1 : okG C.g.K C.g.mg (SlsNew C.g.K W) W1 (fun c dd H => E c dd σ H) Q ((fs τ h1).bind fun ss h2 => .ok (sl :: ss) h2) := o1
    cases ef : fs τ h1 with
    | exc _ _ => rw [ef] at o1; exact o1
    | bad => rw [ef] at o1; exact o1
    | ok ss h2 =>
      rw [ef] at o1
      refine fun W2 u l2 rh2 b2 => o1 W2 (v :: u) l2 rh2 ⟨v, u, rfl, ?_, b2.of l1 rh1, fun ho j s' e' o' z => ?_⟩
      · cases x <;> simp only [ownSl, Option.some.injEq, reduceCtorEq] at es' <;> subst es' <;> exact b1.mono l2
      · obtain ⟨a, ha, hn⟩ := b2.own_at e' o'
        rw [z] at ha
        cases ha
        obtain ⟨_, _, a', ea, na⟩ := b1.sl l rh es'
        obtain ⟨k1, k2, _⟩ := b1.sl l rh es'
        exact SlAt.there k2 k1 rfl hn
/-- a slot set, by what the others hold -/
theorem Frm.setG {K : PySem.W.Frag} {W0 W : Wd} {τ : List Sl} {σ : L2.St} (f : Frm K W0 W τ σ) {s : Sl} {v : V} (i : Nat) (hs : SlAt K W0 W s (some (some v)))
    (n : s.isOwn = true → ∀ (j : Nat) (x : Sl), i ≠ j → τ[j]? = some x → x.isOwn = true → σ[j]? ≠ some (some v)) : Frm K W0 W (τ.set i s) (σ.set i (some v)) where
  len := by simp [f.len]
  at_ := fun j x e => by
    by_cases hj : i = j
    · subst hj
      by_cases hi : i < τ.length
      · rw [List.getElem?_set_self hi] at e
        cases e
        rw [List.getElem?_set_self (by rw [← f.len]; exact hi)]
        exact hs
      · rw [List.getElem?_eq_none (by simpa using hi)] at e; cases e
    · rw [List.getElem?_set_ne hj] at e ⊢
      exact f.at_ j x e
  dis := fun p q x y ad ne e1 e2 o1 o2 => by
    have inr : ∀ {x : Sl}, (τ.set i s)[i]? = some x → i < τ.length ∧ x = s := fun {x} e => by
      by_cases hi : i < τ.length
      · rw [List.getElem?_set_self hi] at e; cases e; exact ⟨hi, rfl⟩
      · rw [List.getElem?_eq_none (by simpa using hi)] at e; cases e
    by_cases h1 : i = p
    · subst h1
      obtain ⟨hi, rfl⟩ := inr e1
      have hq : i ≠ q := ne
      rw [List.getElem?_set_self (by rw [← f.len]; exact hi)]
      rw [List.getElem?_set_ne hq] at e2 ⊢
      intro z
      cases z
      exact n o1 q y hq e2 o2
    · rw [List.getElem?_set_ne h1] at e1 ⊢
      by_cases h2 : i = q
      · subst h2
        obtain ⟨hi, rfl⟩ := inr e2
        rw [List.getElem?_set_self (by rw [← f.len]; exact hi)]
        intro z z2
        cases z2
        exact n o2 p x h1 e1 o1 z
      · rw [List.getElem?_set_ne h2] at e2 ⊢
        exact f.dis p q x y ad ne e1 e2 o1 o2
theorem SlNew.at_ {K : PySem.W.Frag} {W0 W W' : Wd} {h : HS} {s : Sl} {v : V} (l : Le W0 W) (rh : RH K W h) (n : SlNew K W W' s v) : SlAt K W0 W' s (some (some v)) := by
  cases s with
  | val d => exact ⟨v, rfl, n⟩
  | un => exact n.elim
  | own xs => obtain ⟨a, vs, rfl, e, r, f, q, o⟩ := n; exact ⟨a, vs, rfl, e, r, f, q, l.old rh o⟩
  | ownK xs => obtain ⟨a, vs, rfl, e, r, f, q, o⟩ := n; exact ⟨a, vs, rfl, e, r, f, q, l.old rh o⟩
  | ownT xs => obtain ⟨a, vs, rfl, e, r, f, q, o⟩ := n; exact ⟨a, vs, rfl, e, r, f, q, l.old rh o⟩
theorem SlNew.no {K : PySem.W.Frag} {W W' : Wd} {s : Sl} {v : V} (n : SlNew K W W' s v) (o : s.isOwn = true) : ∃ a, v = .ref a ∧ W.H a = none := by
  cases s with
  | own xs => obtain ⟨a, vs, rfl, e, r, f, q, o⟩ := n; exact ⟨a, rfl, o⟩
  | ownK xs => obtain ⟨a, vs, rfl, e, r, f, q, o⟩ := n; exact ⟨a, rfl, o⟩
  | ownT xs => obtain ⟨a, vs, rfl, e, r, f, q, o⟩ := n; exact ⟨a, rfl, o⟩
  | _ => cases o
def par2 (i j : Nat) (fa : List Sl → HS → Res (List Sl)) : DS := fun τ h => RS.ofR (fa τ h) τ fun ss h1 => match ss with
  | [s, t] => .nx ((τ.set i s).set j t) h1
  | _ => .bad
def par3 (i j k : Nat) (fa : List Sl → HS → Res (List Sl)) : DS := fun τ h => RS.ofR (fa τ h) τ fun ss h1 => match ss with
  | [s, t, u] => .nx (((τ.set i s).set j t).set k u) h1
  | _ => .bad
variable {a b c : Expr} {x y z : Str} {i j k : Nat} {px py pz pt pt2 : Pos} {kt k2 : Nat}
theorem den_par2 (hi : C.N[i]? = some x) (hj : C.N[j]? = some y) (hij : i ≠ j) (hx : C.sc.names.lookup x = some .local) (hy : C.sc.names.lookup y = some .local) (ha : DenM C [a, b] fs)
    (hw : ∀ env, env.scope = C.sc → swappedStores [.Tuple [.Name x px, .Name y py] kt pt] (.Tuple [a, b] k2 pt2) env = pure (some [x, y]))
    (hs : ∀ env, swapsWithSole [.Tuple [.Name x px, .Name y py] kt pt] (.Tuple [a, b] k2 pt2) pos.line env = pure false) :
    DenS C (.Assign [.Tuple [.Name x px, .Name y py] kt pt] (.Tuple [a, b] k2 pt2) pos) (par2 i j fs) := fun X E ok => by
  obtain ⟨t, p, q⟩ := ha X E ok
  refine ⟨_, ps_par ok.calm ok.nd (by rw [ok.names]; exact hi) (by rw [ok.names]; exact hj) hij (by rw [ok.scope]; exact hx) (by rw [ok.scope]; exact hy) p (hw _ ok.scope) (hs _), fun W0 W τ σ h D l fr rh o => ?_⟩
  refine q W0 W τ σ h _ l fr rh (okS.ex l o fun ss s1 W1 vs l1 rh1 n o1 => ?_)
  match ss with
  | [] => exact o1.elim
  | [_] => exact o1.elim
  | _ :: _ :: _ :: _ => exact o1.elim
  | [s, t] =>
    obtain ⟨v, r1, rfl, n1, n', d⟩ := n
    obtain ⟨u, r2, rfl, n2, e3, _⟩ := n'
    cases (show r2 = [] from e3)
    refine ⟨v, u, rfl, ?_⟩
    refine o1 W1 _ (l.trans l1) (.refl _) (((fr.mono l1).setG i (n1.at_ l rh) fun ho j' x' _ e' o' z => ?_).setG j (n2.at_ l rh) fun ho j' x' hj' e' o' z => ?_) rh1
    · obtain ⟨a, rfl, na⟩ := n1.no ho
      exact SlAt.there (fr.at_ j' x' e') o' z na
    · obtain ⟨a, rfl, na⟩ := n2.no ho
      by_cases hi' : i = j'
      · subst hi'
        by_cases hl : i < τ.length
        · rw [List.getElem?_set_self hl] at e'
          cases e'
          rw [List.getElem?_set_self (by rw [← fr.len]; exact hl)] at z
          cases z
          exact d o' 0 t rfl ho rfl
        · rw [List.getElem?_eq_none (by simpa using hl)] at e'; cases e'
      · rw [List.getElem?_set_ne hi'] at e' z
        exact SlAt.there (fr.at_ j' x' e') o' z na
end
end Sw

/-! Sw, part K: what reads no shared list; tuples in sum, max, min; isinstance. -/
namespace Sw
open PySem PySem.Spec PyProof.Rows L2

/-! ### what reads no shared list: the shared lists set aside -/
mutual
def D.noRef : D → Bool
  | .tup xs => noRefs xs
  | .lst xs => noRefs xs
  | .frl xs => noRefs xs
  | .dK kvs => noRefK kvs
  | .dT kvs => noRefT kvs
  | .ref _ => false
  | _ => true
def noRefs : List D → Bool
  | [] => true
  | x :: xs => x.noRef && noRefs xs
def noRefK : List (Key × D) → Bool
  | [] => true
  | (_, x) :: xs => x.noRef && noRefK xs
def noRefT : List (List Key × D) → Bool
  | [] => true
  | (_, x) :: xs => x.noRef && noRefT xs
end
section
variable {K : PySem.W.Frag} {W W' : Wd}
mutual
theorem Rep.aside (hF : W'.F = W.F) (hH : W'.H = W.H) : ∀ (d : D) (v : V), d.noRef = true → Rep K W d v → Rep K W' d v
  | .non, v, n, h => by simpa [Rep] using h
  | .bl b, v, n, h => by simpa [Rep] using h
  | .int i, v, n, h => by simpa [Rep] using h
  | .str s, v, n, h => by simpa [Rep] using h
  | .tup xs, v, n, h => by
    rw [Rep] at h ⊢
    rw [D.noRef] at n
    obtain ⟨a, vs, e, t, r⟩ := h
    exact ⟨a, vs, e, by unfold TupAt at t ⊢; rw [hF, hH]; exact t, Reps.aside hF hH xs vs n r⟩
  | .lst xs, v, n, h => by
    rw [Rep] at h ⊢
    rw [D.noRef] at n
    obtain ⟨a, vs, e, t, r⟩ := h
    exact ⟨a, vs, e, by unfold LstAt at t ⊢; rw [hF, hH]; exact t, Reps.aside hF hH xs vs n r⟩
  | .frl xs, v, n, h => by
    rw [Rep] at h ⊢
    rw [D.noRef] at n
    obtain ⟨a, vs, e, t, r⟩ := h
    exact ⟨a, vs, e, by unfold FrlAt at t ⊢; rw [hF, hH]; exact t, Reps.aside hF hH xs vs n r⟩
  | .dK kvs, v, n, h => by
    rw [Rep] at h ⊢
    rw [D.noRef] at n
    obtain ⟨a, ws, e, f, t, r⟩ := h
    exact ⟨a, ws, e, by rw [hF]; exact f, by rw [hH]; exact t, RepK.aside hF hH kvs ws n r⟩
  | .dT kvs, v, n, h => by
    rw [Rep] at h ⊢
    rw [D.noRef] at n
    obtain ⟨a, ws, e, f, t, r⟩ := h
    exact ⟨a, ws, e, by rw [hF]; exact f, by rw [hH]; exact t, RepT.aside hF hH kvs ws n r⟩
  | .ref k, v, n, h => by rw [D.noRef] at n; cases n
theorem Reps.aside (hF : W'.F = W.F) (hH : W'.H = W.H) : ∀ (ds : List D) (vs : List V), noRefs ds = true → Reps K W ds vs → Reps K W' ds vs
  | [], vs, n, h => by simpa [Reps] using h
  | x :: xs, vs, n, h => by
    rw [Reps] at h ⊢
    rw [noRefs, Bool.and_eq_true] at n
    obtain ⟨v, r, e, h1, h2⟩ := h
    exact ⟨v, r, e, Rep.aside hF hH x v n.1 h1, Reps.aside hF hH xs r n.2 h2⟩
theorem RepK.aside (hF : W'.F = W.F) (hH : W'.H = W.H) : ∀ (ds : List (Key × D)) (vs : List (Key × V)), noRefK ds = true → RepK K W ds vs → RepK K W' ds vs
  | [], vs, n, h => by simpa [RepK] using h
  | (k, x) :: xs, vs, n, h => by
    rw [RepK] at h ⊢
    rw [noRefK, Bool.and_eq_true] at n
    obtain ⟨v, r, e, h1, h2⟩ := h
    exact ⟨v, r, e, Rep.aside hF hH x v n.1 h1, RepK.aside hF hH xs r n.2 h2⟩
theorem RepT.aside (hF : W'.F = W.F) (hH : W'.H = W.H) : ∀ (ds : List (List Key × D)) (vs : List (List Key × V)), noRefT ds = true → RepT K W ds vs → RepT K W' ds vs
  | [], vs, n, h => by simpa [RepT] using h
  | (k, x) :: xs, vs, n, h => by
    rw [RepT] at h ⊢
    rw [noRefT, Bool.and_eq_true] at n
    obtain ⟨v, r, e, h1, h2⟩ := h
    exact ⟨v, r, e, Rep.aside hF hH x v n.1 h1, RepT.aside hF hH xs r n.2 h2⟩
end
/-- the world without its shared lists -/
def Wd.lone (W : Wd) : Wd := { W with ρ := [] }
/-- .. and a later one with them -/
def Wd.with_ (W1 W : Wd) : Wd := { W1 with ρ := W.ρ }
theorem rh_lone {h : HS} (rh : RH K W h) : RH K W.lone [] := ⟨rfl, List.nodup_nil, fun n xs a e => by simp at e, fun a m => (List.not_mem_nil m).elim, rh.up⟩
theorem Le.lone {W W1 : Wd} (l : Le W.lone W1) : Le W (W1.with_ W) :=
  ⟨⟨l.fr, l.st, l.sl, List.prefix_refl _⟩, fun a o h1 h2 h3 => by
    obtain ⟨b1, b2, _⟩ := l.fo a o h1 h2 (List.not_mem_nil)
    exact ⟨b1, b2, h3⟩⟩
theorem LeF.with_ {W W1 : Wd} (e : W1.ρ = []) : LeF W1 (W1.with_ W) := ⟨fun _ h => h, fun _ _ _ h => h, fun _ _ _ h => h, by rw [e]; exact List.nil_prefix⟩
theorem rh_with {W W1 : Wd} {h : HS} (rh : RH K W h) (l : Le W.lone W1) (rh1 : RH K W1 []) : RH K (W1.with_ W) h :=
  ⟨rh.len, rh.nd, fun n xs a e1 e2 => by
    obtain ⟨vs, h1, h2⟩ := rh.at_ n xs a e1 e2
    obtain ⟨b1, b2, _⟩ := l.fo a _ h1 (rh.nf a (List.mem_of_getElem? e2)) (List.not_mem_nil)
    exact ⟨vs, b1, h2.mono l.lone.toLeF⟩, fun a m => by
    obtain ⟨n, e2⟩ := List.getElem?_of_mem m
    have hn : n < h.length := by rw [← rh.len]; exact (List.getElem?_eq_some_iff.mp e2).1
    obtain ⟨vs, h1, h2⟩ := rh.at_ n h[n] a (List.getElem?_eq_getElem hn) e2
    exact (l.fo a _ h1 (rh.nf a m) (List.not_mem_nil)).2.1, rh1.up⟩
theorem rho_nil {W1 : Wd} (rh1 : RH K W1 []) : W1.ρ = [] := List.eq_nil_of_length_eq_zero rh1.len
theorem ExR.with_ {mg : Str → Option Value} {W W1 : Wd} (e : W1.ρ = []) {x : Ex} {c : Value} {dd : Option Addr} (h : ExR K mg W1 x c dd) : ExR K mg (W1.with_ W) x c dd := by
  obtain ⟨h1, h2⟩ := h
  refine ⟨h1, ?_⟩
  cases k : x.kept with
  | none => rw [k] at h2; exact h2
  | some p =>
    rw [k] at h2
    obtain ⟨v, a, e1, e2, e3⟩ := h2
    exact ⟨v, a, e1, e2, e3.mono (.with_ e)⟩
end
def pureR (r : Res D) (h : HS) : Res D := match r with
  | .ok d [] => .ok d h
  | .exc x [] => .exc x h
  | _ => .bad
/-- φ of arguments that hold no shared list, and without the shared lists -/
def pureF (φ : DF) : DF := fun ds h => if noRefs ds = true then pureR (φ ds []) h else .bad
theorem okG.pure {K : PySem.W.Frag} {mg : Str → Option Value} {W : Wd} {E : XK} {Q : V → Hp → Prop} {r : Res D} {h : HS} (rh : RH K W h) (o : okG K mg (Rep K) W E Q (pureR r h)) : okG K mg (Rep K) W.lone E Q r := by
  unfold pureR at o
  split at o
  · exact fun W1 b l rh1 re => o (W1.with_ W) b l.lone (rh_with rh l rh1) (re.mono (.with_ (rho_nil rh1)))
  · exact fun W1 c dd l rh1 re => o (W1.with_ W) c dd l.lone (rh_with rh l rh1) (re.with_ (rho_nil rh1))
  · exact o.elim
theorem FnD.pure {g : Gx} {x : Str} {n k : Nat} {φ : DF} (F : FnD g x n k φ) : FnD g x n k (pureF φ) := by
  obtain ⟨f, fd, ps, F, m, kp, b⟩ := F
  refine ⟨f, fd, ps, ?_, m, kp, b⟩
  refine F.imp ?_
  intro vs H Q E hs
  obtain ⟨hl, W, ds, h, rfl, rh, r, o⟩ := hs
  unfold pureF at o
  split at o
  · rename_i hn
    exact ⟨hl, W.lone, ds, [], rfl, rh_lone rh, Reps.aside (W := W) (W' := W.lone) rfl rfl ds vs hn r, okG.pure rh o⟩
  · exact o.elim
/-- a frame without what is shared or its own -/
def Sl.hide : Sl → Sl
  | .val d => if d.noRef = true then .val d else .un
  | _ => .un
/-- the rest of a suite that ends in a return, without the shared lists -/
def pureS (f : DS) : DS := fun τ h => match f (τ.map Sl.hide) [] with
  | .rt d [] => .rt d h
  | .exc x [] => .exc x h
  | _ => .bad
theorem Frm.hide {K : PySem.W.Frag} {W0 W : Wd} {τ : List Sl} {σ : L2.St} (f : Frm K W0 W τ σ) : Frm K W.lone W.lone (τ.map Sl.hide) σ := by
  have key : ∀ {i : Nat} {x : Sl}, (τ.map Sl.hide)[i]? = some x → SlAt K W.lone W.lone x σ[i]? ∧ x.isOwn = false := fun {i x} e => by
    rw [List.getElem?_map] at e
    obtain ⟨y, e1, rfl⟩ := Option.map_eq_some_iff.mp e
    have h := f.at_ i y e1
    cases y with
    | val d =>
      by_cases hd : d.noRef = true
      · obtain ⟨v, e, r⟩ := h
        have : (Sl.val d).hide = .val d := by simp only [Sl.hide, hd, if_true]
        rw [this]
        exact ⟨⟨v, e, Rep.aside (W := W) (W' := W.lone) rfl rfl d v hd r⟩, rfl⟩
      · have : (Sl.val d).hide = .un := by simp only [Sl.hide, hd]; rfl
        rw [this]
        exact ⟨trivial, rfl⟩
    | un => exact ⟨trivial, rfl⟩
    | own xs => exact ⟨trivial, rfl⟩
    | ownK xs => exact ⟨trivial, rfl⟩
    | ownT xs => exact ⟨trivial, rfl⟩
  exact ⟨by simp [f.len], fun i x e => (key e).1, fun i j x y a ne e1 e2 o1 o2 => by rw [(key e1).2] at o1; cases o1⟩
theorem den_pure {C : Cn} {st : List Stmt} {f : DS} (hf : DenSs C st f) : DenSs C st (pureS f) := fun X E ok => by
  obtain ⟨t, p, q⟩ := hf X E ok
  refine ⟨_, p, fun W0 W τ σ h D l fr rh o => ?_⟩
  refine q W.lone W.lone _ σ [] D (.refl _) fr.hide (rh_lone rh) ?_
  have o : okS C W0 W E D (match f (τ.map Sl.hide) [] with | .rt d [] => .rt d h | .exc x [] => .exc x h | _ => .bad) := o
  split at o
  · rename_i d e
    rw [e]
    exact fun W1 v l0 l1 rh1 re => o (W1.with_ W) v (l.trans l0.lone) l0.lone.toLeF (rh_with rh l0 rh1) (re.mono (.with_ (rho_nil rh1)))
  · rename_i x e
    rw [e]
    exact fun W1 c dd σ' l0 l1 rh1 re => o (W1.with_ W) c dd σ' (l.trans l0.lone) l0.lone.toLeF (rh_with rh l0 rh1) (re.with_ (rho_nil rh1))
  · exact o.elim

/-! ### tuples of ints: sum, max, min -/
section
variable {X : Cx}
def rSumT (K : PySem.W.Frag) : List V → Hp → VK → Prop := fun vs H Q => ∃ (a : Addr) (ns : List Int), vs = [V.ref a] ∧ SqT K H a (ns.map V.int) ∧ Q (.int ns.sum) H
theorem cr_sumT (hc : X.calm = true) : CallR X (.builtin "sum") (rSumT X.K) := by
  intro pins s σ H vs us Q I r h
  obtain ⟨a, ns, rfl, hs, q⟩ := h
  obtain ⟨its, rv, hl, _⟩ := I.tuple hs
  rw [Vals.ref1 r]
  obtain ⟨xs, hx⟩ := rv.ints.allInts.items
  have hn : numsOf its.toArray.toList = ns := rv.ints.numsOf
  rw [hx] at hl hn
  rw [nums_intItems] at hn
  refine PySem.W.ktm_sumG (I.ok.hd hc) hl fun h' tk t' hk => ?_
  rw [preSum_eq, List.take_of_length_le (by simp), hn]
  exact ⟨.int _, H, I.kept hk, ⟨_, rfl⟩, q⟩
theorem dp_ints {K : PySem.W.Frag} {H : Hp} : ∀ ns : List Int, DpAll K H (ns.map V.int) (ns.map PyData.int)
  | [] => .nil
  | n :: ns => .cons (.int n) (dp_ints ns)
theorem alike_ints (ns : List Int) : PySem.W.AlikeAll (ns.map PyData.int) :=
  ⟨fun x hx y hy => by
    obtain ⟨_, _, rfl⟩ := List.mem_map.mp hx
    obtain ⟨_, _, rfl⟩ := List.mem_map.mp hy
    rfl, fun x hx => by
    obtain ⟨_, _, rfl⟩ := List.mem_map.mp hx
    exact fun z => nomatch z⟩
theorem depth_ints : ∀ ns : List Int, PyData.depthAll (ns.map PyData.int) = 0
  | [] => rfl
  | n :: ns => by
    show max 0 (PyData.depthAll (ns.map PyData.int)) = 0
    rw [depth_ints ns]
    rfl
def rMaxT (K : PySem.W.Frag) : List V → Hp → VK → Prop := fun vs H Q => ∃ (a : Addr) (n : Int) (ns : List Int), vs = [V.ref a] ∧ SqT K H a ((n :: ns).map V.int) ∧ Q (.int (ns.foldl max n)) H
theorem cr_maxT (hc : X.calm = true) (hu : X.A.units + 64 < cLine) : CallR X (.builtin "max") (rMaxT X.K) := by
  intro pins s σ H vs us Q I r h
  obtain ⟨a, n, ns, rfl, hs, q⟩ := h
  obtain ⟨its, rv, hl, _⟩ := I.tuple hs
  rw [Vals.ref1 r]
  obtain ⟨as, ra⟩ := Dp.readsAll I ((n :: ns).map PyData.int) _ its (dp_ints _) rv
  refine PySem.W.max_tuple_data (I.ok.hd hc) hl ra (alike_ints (n :: ns)) (by have := depth_ints (n :: ns); simp only [List.map_cons] at this; rw [this]; omega) fun i v h' tk bs e rd hk => ?_
  rw [PySem.W.maxD_ints] at rd
  cases rd
  exact ⟨.int _, H, I.kept hk, ⟨_, rfl⟩, q⟩
def rMinT (K : PySem.W.Frag) : List V → Hp → VK → Prop := fun vs H Q => ∃ (a : Addr) (n : Int) (ns : List Int), vs = [V.ref a] ∧ SqT K H a ((n :: ns).map V.int) ∧ Q (.int (ns.foldl min n)) H
theorem cr_minT (hc : X.calm = true) (hu : X.A.units + 64 < cLine) : CallR X (.builtin "min") (rMinT X.K) := by
  intro pins s σ H vs us Q I r h
  obtain ⟨a, n, ns, rfl, hs, q⟩ := h
  obtain ⟨its, rv, hl, _⟩ := I.tuple hs
  rw [Vals.ref1 r]
  obtain ⟨as, ra⟩ := Dp.readsAll I ((n :: ns).map PyData.int) _ its (dp_ints _) rv
  refine PySem.W.min_tuple_data (I.ok.hd hc) hl ra (alike_ints (n :: ns)) (by have := depth_ints (n :: ns); simp only [List.map_cons] at this; rw [this]; omega) fun i v h' tk bs e rd hk => ?_
  rw [PySem.W.minD_ints] at rd
  cases rd
  exact ⟨.int _, H, I.kept hk, ⟨_, rfl⟩, q⟩
def rMaxL (K : PySem.W.Frag) : List V → Hp → VK → Prop := fun vs H Q => ∃ (a : Addr) (n : Int) (ns : List Int), vs = [V.ref a] ∧ SqL K H a ((n :: ns).map V.int) ∧ Q (.int (ns.foldl max n)) H
theorem cr_maxL (hc : X.calm = true) (hu : X.A.units + 64 < cLine) : CallR X (.builtin "max") (rMaxL X.K) := by
  intro pins s σ H vs us Q I r h
  obtain ⟨a, n, ns, rfl, hs, q⟩ := h
  obtain ⟨its, rv, hl, _⟩ := I.list hs
  rw [Vals.ref1 r]
  obtain ⟨as, ra⟩ := Dp.readsAll I ((n :: ns).map PyData.int) _ its (dp_ints _) rv
  refine PySem.W.max_list_data (I.ok.hd hc) hl.isList ra (alike_ints (n :: ns)) (by have := depth_ints (n :: ns); simp only [List.map_cons] at this; rw [this]; omega) fun i v h' tk bs e rd hk => ?_
  rw [PySem.W.maxD_ints] at rd
  cases rd
  exact ⟨.int _, H, I.kept hk, ⟨_, rfl⟩, q⟩
def rMinL (K : PySem.W.Frag) : List V → Hp → VK → Prop := fun vs H Q => ∃ (a : Addr) (n : Int) (ns : List Int), vs = [V.ref a] ∧ SqL K H a ((n :: ns).map V.int) ∧ Q (.int (ns.foldl min n)) H
theorem cr_minL (hc : X.calm = true) (hu : X.A.units + 64 < cLine) : CallR X (.builtin "min") (rMinL X.K) := by
  intro pins s σ H vs us Q I r h
  obtain ⟨a, n, ns, rfl, hs, q⟩ := h
  obtain ⟨its, rv, hl, _⟩ := I.list hs
  rw [Vals.ref1 r]
  obtain ⟨as, ra⟩ := Dp.readsAll I ((n :: ns).map PyData.int) _ its (dp_ints _) rv
  refine PySem.W.min_list_data (I.ok.hd hc) hl.isList ra (alike_ints (n :: ns)) (by have := depth_ints (n :: ns); simp only [List.map_cons] at this; rw [this]; omega) fun i v h' tk bs e rd hk => ?_
  rw [PySem.W.minD_ints] at rd
  cases rd
  exact ⟨.int _, H, I.kept hk, ⟨_, rfl⟩, q⟩
end
section
variable {C : Cn}
def seqOf : D → Option (List D)
  | .tup xs => some xs
  | .lst xs => some xs
  | .frl xs => some xs
  | _ => none
def sumTG : List D → Option D
  | [.tup xs] => (intsD xs).map fun is => .int is.sum
  | _ => none
theorem c_sumT : CalD C (.builtin "sum") sumTG := fun X E ok => ⟨_, cr_sumT ok.calm, fun W h ds vs d Q rh b e k => by
  unfold sumTG at e
  split at e
  · obtain ⟨v, rfl, b1⟩ := BorsAll.one b
    obtain ⟨a, us, rfl, sq, r, _⟩ := b1.tup
    obtain ⟨is, q, rfl⟩ := Option.map_eq_some_iff.mp e
    rw [ints_reps r q] at sq
    exact ⟨a, is, rfl, by rw [ok.K]; exact sq, k W _ (.refl _) rh rep_int⟩
  · cases e⟩
theorem c_sums : CalD C (.builtin "sum") (fun x => (sumG x).or (sumTG x)) := c_sum.or c_sumT
def foldI (f : Int → Int → Int) : List Int → Option D
  | [] => none
  | n :: ns => some (.int (ns.foldl f n))
def mxTG (f : Int → Int → Int) : List D → Option D
  | [.tup xs] => (intsD xs).bind (foldI f)
  | _ => none
def mxLG (f : Int → Int → Int) : List D → Option D
  | [.lst xs] => (intsD xs).bind (foldI f)
  | [.frl xs] => (intsD xs).bind (foldI f)
  | _ => none
theorem fold_some {f : Int → Int → Int} {xs : List D} {d : D} (h : (intsD xs).bind (foldI f) = some d) : ∃ n ns, intsD xs = some (n :: ns) ∧ d = .int (ns.foldl f n) := by
  cases q : intsD xs with
  | none => rw [q] at h; cases h
  | some is =>
    rw [q] at h
    cases is with
    | nil => cases h
    | cons n ns => cases h; exact ⟨n, ns, rfl, rfl⟩
theorem c_maxT : CalD C (.builtin "max") (mxTG max) := fun X E ok => ⟨_, cr_maxT ok.calm ok.room.units, fun W h ds vs d Q rh b e k => by
  unfold mxTG at e
  split at e
  · obtain ⟨v, rfl, b1⟩ := BorsAll.one b
    obtain ⟨a, us, rfl, sq, r, _⟩ := b1.tup
    obtain ⟨n, ns, q, rfl⟩ := fold_some e
    rw [ints_reps r q] at sq
    exact ⟨a, n, ns, rfl, by rw [ok.K]; exact sq, k W _ (.refl _) rh rep_int⟩
  · cases e⟩
theorem c_minT : CalD C (.builtin "min") (mxTG min) := fun X E ok => ⟨_, cr_minT ok.calm ok.room.units, fun W h ds vs d Q rh b e k => by
  unfold mxTG at e
  split at e
  · obtain ⟨v, rfl, b1⟩ := BorsAll.one b
    obtain ⟨a, us, rfl, sq, r, _⟩ := b1.tup
    obtain ⟨n, ns, q, rfl⟩ := fold_some e
    rw [ints_reps r q] at sq
    exact ⟨a, n, ns, rfl, by rw [ok.K]; exact sq, k W _ (.refl _) rh rep_int⟩
  · cases e⟩
theorem c_maxL : CalD C (.builtin "max") (mxLG max) := fun X E ok => ⟨_, cr_maxL ok.calm ok.room.units, fun W h ds vs d Q rh b e k => by
  unfold mxLG at e
  split at e
  · obtain ⟨v, rfl, b1⟩ := BorsAll.one b
    obtain ⟨a, us, rfl, sq, r⟩ := b1.lst
    obtain ⟨n, ns, q, rfl⟩ := fold_some e
    rw [ints_reps r q] at sq
    exact ⟨a, n, ns, rfl, .of sq, k W _ (.refl _) rh rep_int⟩
  · obtain ⟨v, rfl, b1⟩ := BorsAll.one b
    obtain ⟨a, us, rfl, sq, r⟩ := b1.frl
    obtain ⟨n, ns, q, rfl⟩ := fold_some e
    rw [ints_reps r q] at sq
    exact ⟨a, n, ns, rfl, by rw [ok.K]; exact sq, k W _ (.refl _) rh rep_int⟩
  · cases e⟩
theorem c_minL : CalD C (.builtin "min") (mxLG min) := fun X E ok => ⟨_, cr_minL ok.calm ok.room.units, fun W h ds vs d Q rh b e k => by
  unfold mxLG at e
  split at e
  · obtain ⟨v, rfl, b1⟩ := BorsAll.one b
    obtain ⟨a, us, rfl, sq, r⟩ := b1.lst
    obtain ⟨n, ns, q, rfl⟩ := fold_some e
    rw [ints_reps r q] at sq
    exact ⟨a, n, ns, rfl, .of sq, k W _ (.refl _) rh rep_int⟩
  · obtain ⟨v, rfl, b1⟩ := BorsAll.one b
    obtain ⟨a, us, rfl, sq, r⟩ := b1.frl
    obtain ⟨n, ns, q, rfl⟩ := fold_some e
    rw [ints_reps r q] at sq
    exact ⟨a, n, ns, rfl, by rw [ok.K]; exact sq, k W _ (.refl _) rh rep_int⟩
  · cases e⟩
theorem c_maxs : CalD C (.builtin "max") (fun x => (maxG x).or ((mxTG max x).or (mxLG max x))) := c_max.or (c_maxT.or c_maxL)
theorem c_mins : CalD C (.builtin "min") (fun x => (minG x).or ((mxTG min x).or (mxLG min x))) := c_min.or (c_minT.or c_minL)

/-! ### isinstance(x, T), T a built-in type told by its name -/
def tyD : D → Option String
  | .non => some "NoneType"
  | .bl _ => some "bool"
  | .int _ => some "int"
  | .str _ => some "str"
  | .tup _ => some "tuple"
  | .lst _ => some "list"
  | .frl _ => some "list"
  | .dK _ => some "dict"
  | .dT _ => none
  | .ref _ => none
def isiT (t T : String) : Option Bool :=
  if t = "bool" then (if T = "int" ∨ T = "bool" then some true else if T ∈ ["str", "tuple", "list", "dict"] then some false else none)
  else if t ∈ ["NoneType", "int", "str", "tuple", "list", "dict"] ∧ T ∈ ["bool", "int", "str", "tuple", "list", "dict"] then some (t == T) else none
def isiR (T : String) (a : DE) : DE := fun τ h => (a τ h).bind fun d h1 => match (tyD d).bind (isiT · T) with
  | some b => .ok (.bl b) h1
  | none => .bad
theorem isiT_kit : ∀ t ∈ ["NoneType", "bool", "int", "str", "tuple", "list", "dict"], ∀ T ∈ ["bool", "int", "str", "tuple", "list", "dict"], kitB t T = isiT t T := by decide +kernel
theorem tyD_mem {d : D} {t : String} (h : tyD d = some t) : t ∈ ["NoneType", "bool", "int", "str", "tuple", "list", "dict"] := by
  cases d <;> simp [tyD] at h <;> subst h <;> decide
theorem isiT_mem {t T : String} {b : Bool} (h : isiT t T = some b) : T ∈ ["bool", "int", "str", "tuple", "list", "dict"] := by
  unfold isiT at h
  split at h
  · split at h
    · rename_i q; rcases q with rfl | rfl <;> decide
    · split at h
      · rename_i q; simp only [List.mem_cons] at q ⊢; rcases q with q | q | q | q | q <;> simp_all
      · cases h
  · split at h
    · rename_i q; exact q.2
    · cases h
theorem tyx {K : PySem.W.Frag} {W : Wd} {d : D} {v : V} {t : String} (b : Bor K W d v) (h : tyD d = some t) : TyX K W.H v (.type t) := by
  cases d with
  | non => cases h; rw [b.non]; exact .base .non
  | bl i => cases h; rw [b.bl]; exact .base (.bl _)
  | int i => cases h; rw [b.int]; exact .base (.int _)
  | str i => cases h; rw [b.str]; exact .base (.str _)
  | tup xs =>
    cases h
    obtain ⟨a, vs, rfl, sq, _⟩ := b.tup
    rcases sq with (q | ⟨o, q⟩) | ⟨o, its, n, q, c, _⟩
    · exact .base (.tup q)
    · exact .fTuple q
    · exact .kTuple q c
  | lst xs =>
    cases h
    obtain ⟨a, vs, rfl, q, _⟩ := b.lst
    exact .base (.lst q)
  | frl xs =>
    cases h
    obtain ⟨a, vs, rfl, sq, _⟩ := b.frl
    rcases sq with (q | ⟨o, q⟩) | ⟨o, its, n, q, c, _⟩
    · exact .base (.lst q)
    · exact .base (.frz q)
    · exact .kList q c
  | dK xs =>
    cases h
    obtain ⟨a, vs, rfl, sq, _⟩ := b.dK
    rcases sq with q | ⟨o, q⟩
    · exact .base (.dK q)
    · exact .fDict q
  | dT xs => cases h
  | ref n => cases h
theorem den_isi {a : Expr} {fa : DE} {T : Str} {Tn : String} {p pT pos : Pos} (hg : glB C.sc "isinstance" = true) (hm : C.g.mg "isinstance" = none) (hgT : glB C.sc T = true) (hmT : C.g.mg T = none) (hv : bootBuiltins T = some (.type Tn)) (ha : DenB C a fa)
    (he : ∀ env, starEach [a, .Name T pT] env = (false, eval a env) :: starEach [.Name T pT] env) (hs : ∀ env, starEach [.Name T pT] env = [(false, eval (.Name T pT) env)])
    (hpl : ∀ env, (backTo pos (starEach [.Name T pT] env)).any (·.1) = false) : DenE C (.Call (.Name "isinstance" p) [a, .Name T pT] [] pos) (isiR Tn fa) := fun X E ok => by
  obtain ⟨t, pa, q⟩ := ha X E ok
  obtain ⟨g1, g2, g3⟩ := glB_ok ok hg
  obtain ⟨k1, k2, k3⟩ := glB_ok ok hgT
  have pT' : PE X (.Name T pT) (tC (.ty Tn)) := pe_bltn k1 (by rw [ok.mg]; exact hmT) hv rfl k3 k2
  have pas : PA X [a, .Name T pT] _ := pa_cons pa (pa_cons pT' pa_nil (hs _)) (he _)
  refine ⟨_, pe_callB call_isi g1 (by rw [ok.mg]; exact hm) rfl pas g3 g2 (he _) (hpl _), fun W0 W τ σ h Q l fr rh o => ?_⟩
  refine q W0 W τ σ h _ l fr rh (okG.bind o fun d h1 W1 v l1 rh1 b1 o1 => ?_)
  cases e1 : tyD d with
  | none => rw [e1] at o1; exact o1.elim
  | some t =>
    rw [e1] at o1
    have o1 : okG C.g.K C.g.mg (Rep C.g.K) W1 (fun c dd H => E c dd σ H) Q (match isiT t Tn with | some b => Res.ok (D.bl b) h1 | none => .bad) := o1
    cases e2 : isiT t Tn with
    | none => rw [e2] at o1; exact o1.elim
    | some b =>
      rw [e2] at o1
      exact ⟨v, .ty Tn, .type t, .type Tn, b, rfl, .ty Tn, by rw [ok.K]; exact tyx b1 e1, kit_ty (by rw [isiT_kit t (tyD_mem e1) Tn (isiT_mem e2)]; exact e2), o1 W1 _ (.refl _) rh1 rep_bl⟩
end

/-! ### sequences in `in`; a list turned round -/
section
variable {C : Cn}
def inA (x y : D) : Option D := (inD x y).or (inTD x y)
def notInA (x y : D) : Option D := (notInD x y).or (notInTD x y)
theorem o_inA : OpD C (compareOp .In) inA := o_in.or o_inT
theorem o_notInA : OpD C (compareOp .NotIn) notInA := o_notIn.or o_notInT
def revR (a : DE) : DE := fun τ h => (a τ h).bind fun d h1 => match d with
  | .lst xs => .ok (.lst xs.reverse) h1
  | .frl xs => .ok (.lst xs.reverse) h1
  | _ => .bad
theorem den_rev {e : Expr} {fe : DE} {k : Nat} {p1 p2 p3 pos : Pos} (he : DenB C e fe) : DenN C (.Subscript e (.Slice none none (some (.UnaryOp .USub (.Constant (.int 1) k p1) p2)) p3) pos) (revR fe) := fun X E ok => by
  obtain ⟨t, p, q⟩ := he X E ok
  refine ⟨_, pe_revL p, fun W0 W τ σ h Q l fr rh o => ?_⟩
  refine q W0 W τ σ h _ l fr rh (okG.bind o fun d h1 W1 v l1 rh1 b1 o1 => ?_)
  have key : ∀ (a : Addr) (xs : List D) (vs : List V), v = .ref a → SqL X.K W1.H a vs → Reps C.g.K W1 xs vs → okG C.g.K C.g.mg (NewR C.g.K W) W1 (fun c dd H => E c dd σ H) Q (.ok (.lst xs.reverse) h1) →
      ∃ a xs, v = .ref a ∧ SqL X.K W1.H a xs ∧ ∀ p, W1.H p = none → Q (.ref p) (upd W1.H p (.lst xs.reverse)) := fun a xs vs ev sq r o2 =>
    ⟨a, vs, ev, sq, fun p np => by
      obtain ⟨l2, rh2, n⟩ := new_lst np rh1 r.reverse
      exact o2 _ _ l2 rh2 (n.of l1 rh1)⟩
  cases d with
  | lst xs =>
    obtain ⟨a, us, rfl, sq, r⟩ := b1.lst
    exact key a xs us rfl (.inl (.inl sq)) r o1
  | frl xs =>
    obtain ⟨a, us, rfl, sq, r⟩ := b1.frl
    exact key a xs us rfl (by rw [ok.K]; exact sq) r o1
  | _ => exact o1.elim
end

/-! ### short names for what the texts are worth -/
abbrev nS (i : Nat) : DE := fun τ h => getS τ i h
abbrev nB (i : Nat) : DE := fun τ h => getB τ i h
abbrev kD (d : D) : DE := fun _ h => .ok d h
abbrev aN : DA := fun _ h => .ok [] h
abbrev tY : DT := fun _ h => .ok true h
abbrev oN : DP := fun _ h => .ok none h
def oS (fe : DE) : DP := fun τ h => (fe τ h).bind fun d h1 => match d with | .int i => .ok (some i) h1 | _ => .bad
theorem den_psm {C : Cn} {e : Expr} {fe : DE} (he : DenB C e fe) : DenO C (some e) (oS fe) := den_psome he
abbrev rT (fe : DE) : DS := fun τ h => RS.ofR (fe τ h) τ fun d h1 => .rt d h1
abbrev xS (fe : DE) : DS := fun τ h => RS.ofR (fe τ h) τ fun _ h1 => .nx τ h1
abbrev bkS : DS := fun τ h => .bk τ h
abbrev ctS : DS := fun τ h => .ct τ h
abbrev noS : DS := fun _ _ => .bad
abbrev rN : DS := fun _ h => .rt .non h
abbrev frS (i : Nat) (f : DS) : DS := fun τ h => f (frzT τ i) h
abbrev mN : List Sl → HS → Res (List Sl) := fun _ h => .ok [] h
abbrev shR (f : DE) : DE := fun τ s => sShare (f τ s)

/-! ### a program's facts -/
structure Tx (fa : List He.Fa) (fn : List He.DefD) (g : Gx) : Prop where
  hh : ∃ h : Heap, g.K.In h ∧ h.Ns mainGlobals g.mg
  c : He.SaysD fa fn g.K
section
variable {fa : List He.Fa} {fn : List He.DefD} {g : Gx}
theorem Tx.free (T : Tx fa fn g) (i : Nat) {x : Str} (e : fa[i]? = some (.free x)) : g.mg x = none := by
  obtain ⟨h, X, G⟩ := T.hh
  exact He.free_ok X G (T.c.fact i e)
theorem Tx.glo (T : Tx fa fn g) (i : Nat) {x : Str} (e : fa[i]? = some (.glo x)) : g.mg x = some (.ref (He.ga g.K x)) := by
  obtain ⟨h, X, G⟩ := T.hh
  exact He.glo_ok X G (T.c.fact i e)
theorem Tx.int (T : Tx fa fn g) (i : Nat) {x : Str} {n : Int} (e : fa[i]? = some (.int x n)) : ∃ t, g.mg x = some (.int n t) := by
  obtain ⟨h, X, G⟩ := T.hh
  exact He.int_ok X G (T.c.fact i e)
theorem fn_mkD {x qual : Str} {params : Arguments} {body : List Stmt} {scope : Scope} {f : Addr} {fd : FuncData} {N ps : List Str} {k : Nat} {fb : DS} (F : FunD g.K x qual params body scope [] [] f fd) (S : FnScope N ps scope) (hm : g.mg x = some (.ref f)) (hb : L2.Binds g.K fd ps [])
    (hbody : DenSs ⟨g, k, N, scope, fun _ => true⟩ body fb) : FnD g x ps.length (k + 1) (fnR N.length fb) := by
  refine ⟨f, fd, ps, ?_, hm, F.kp, hb⟩
  refine F.ok (CX := L2.CX g.P g.w) S (fun vs H Q E h => h.1) fun cdv A outer s H vs Q E hr h => ?_
  obtain ⟨hl, W, ds, h0, rfl, rh, r, o⟩ := h
  have ok : CxOk ⟨g, k, N, scope, fun _ => true⟩ (cxOf (L2.CX g.P g.w) g.P g.w g.K g.mg g.base N qual scope f cdv A outer s W.H E) (fun c d _ H => E c d H) :=
    ⟨rfl, rfl, rfl, rfl, rfl, rfl, S.nd, rfl, rfl, hr, takes_of rfl rfl rfl rfl, passes_of rfl, fun _ _ => rfl⟩
  obtain ⟨t, p, q⟩ := hbody _ _ ok
  refine ⟨t, p, q W W _ _ h0 _ (.refl _) (frm_start r) rh ?_⟩
  have o : okG g.K g.mg (Rep g.K) W E Q (match fb (ds.map Sl.val ++ List.replicate (N.length - ds.length) Sl.un) h0 with | .rt d h' => .ok d h' | .nx _ h' => .ok .non h' | .exc x h' => .exc x h' | _ => .bad) := o
  cases ef : fb (ds.map Sl.val ++ List.replicate (N.length - ds.length) Sl.un) h0 with
  | rt d h' => rw [ef] at o; exact fun W' v l _ rh' r' => o W' v l rh' r'
  | nx τ h' => rw [ef] at o; exact fun W' σ l _ fr rh' => o W' _ l rh' rep_non
  | exc x h' => rw [ef] at o; exact fun W' c dd σ l _ rh' r' => o W' c dd l rh' r'
  | bk _ _ => rw [ef] at o; exact o.elim
  | ct _ _ => rw [ef] at o; exact o.elim
  | bad => rw [ef] at o; exact o.elim
abbrev dfd (x : Str) (st : Stmt) : He.DefD := ⟨(x, none), x, x, defArgs st, defBody st, defScope st, [], []⟩
/-- a def of the module, by its place in fn and its name's place in fa -/
theorem Tx.deff (T : Tx fa fn g) (j i : Nat) {x : Str} {st : Stmt} {N ps : List Str} {k : Nat} {fb : DS} (hd : fn[j]? = some (dfd x st)) (hx : fa[i]? = some (.glo x)) (S : FnScope N ps (defScope st))
    (hb : ∀ (kV doc pm : Value) (an : Option Addr) (cdv ct : Value) (us : List Value), us.length = ps.length → bindArgs (PySem.W.fnOf x x (defArgs st) (defBody st) (defScope st) .none kV doc pm an cdv ct) ⟨us, []⟩ = pure (ps.zip us))
    (hbody : DenSs ⟨g, k, N, defScope st, fun _ => true⟩ (defBody st) fb) : FnD g x ps.length (k + 1) (fnR N.length fb) := by
  obtain ⟨fd, F⟩ := T.c.def_ j hd
  exact fn_mkD F S (T.glo i hx) (FunD.bindsN F hb) hbody
end
/-- what holds of every block with this scope -/
theorem hw_of {sc : Scope} {P : Env → Prop} (h : ∀ env : Env, P { env with scope := sc }) : ∀ env : Env, env.scope = sc → P env := fun env e => by
  have := h env
  rw [← e] at this
  exact this
abbrev maxsG : List D → Option D := fun x => (maxG x).or ((mxTG max x).or (mxLG max x))
abbrev minsG : List D → Option D := fun x => (minG x).or ((mxTG min x).or (mxLG min x))
abbrev sumsG : List D → Option D := fun x => (sumG x).or (sumTG x)
end Sw

/-! Sw, part L: sorted of tuples. -/
namespace Sw
open PySem PySem.Spec PyProof.Rows L2 SrtO
section
variable {prog : Program} {w : World} {A : Around} {E : Value → Shared → Prop} {s : Shared}
/-- the items of a tuple, collected -/
theorem gather_tup {t : Addr} {us : List Value} {Q : List Value → Shared → Prop} (ht : IsTup s.heap t us.toArray) (fit : us.length ≤ sizeLine)
    (k : Q us { s with heap := (s.heap.push (seqObj "list" #[] 0)).update s.heap.objs.size (Obj.mapSeq (· ++ us.toArray)) }) : wpAny (model prog w) A (collect (.ref t)) Q E s := by
  obtain ⟨ot, at_, ct, nt, dt⟩ := ht
  unfold collect
  refine wpAny_bind (wpAny_runValue (codeAny_builtin entry_proto_collect' (show wpAny _ _ (do again (.builtin "list.__iadd__" ⟨[← newList [], .ref t], []⟩)) _ _ s from ?_)))
  refine wpAny_bind (wpAny_newList (wpAny_pure ⟨Code.quiet_builtin _ (by decide +kernel), codeAny_builtin entry_list_iadd' (show wpAny _ _ (Builtin.List.listExtendWith (.ref s.heap.objs.size) (.ref t) (.ref s.heap.objs.size)) _ _ { s with heap := s.heap.push (seqObj "list" #[] 0) } from ?_)⟩))
  have at' : (s.heap.push (seqObj "list" #[] 0)).get? t = some ot := Heap.get?_push_of_some _ at_
  unfold Builtin.List.listExtendWith
  refine wpAny_bind (wpAny_typeOf (T := "tuple") ⟨ot, at', ct⟩ ?_)
  have same : (Value.type "tuple" == Value.type "tuple") = true := by rfl
  rw [if_pos (by rw [same]; simp)]
  refine wpAny_bind (listItems_at at' dt (wpAny_bind (listItems_at (xs := #[]) (n := 0) (Heap.get?_push_size _ rfl) rfl ?_)))
  rw [if_neg (by simp)]
  refine wpAny_bind (listUpdate_at (xs := #[]) (n := 0) (Heap.get?_push_size _ rfl) rfl (wpAny_pure ?_) (Nat.zero_le _) (by show (#[] ++ us.toArray).size ≤ sizeLine + 1; simp only [Array.size_append, List.size_toArray, List.length_nil]; omega))
  show wpAny (model prog w) A (do let o ← load s.heap.objs.size; match o.data with | .seq xs _ => pure xs.toList | _ => unsupported "internal:collect") Q E { s with heap := (s.heap.push (seqObj "list" #[] 0)).update s.heap.objs.size (Obj.mapSeq (· ++ us.toArray)) }
  refine wpAny_bind (wpAny_load (get?_update_seq (Heap.get?_push_size _ rfl) _) (show wpAny _ _ (pure ((#[] : Array Value) ++ us.toArray).toList) Q E _ from ?_))
  rw [show ((#[] : Array Value) ++ us.toArray).toList = us by simp]
  exact wpAny_pure k
/-- sorted of a tuple: the new list stands behind the collected one -/
theorem sorted_tup {t : Addr} {us : List Value} {lt : Value → Value → Bool} {Q : Value → Shared → Prop} (O : Swo lt) (ht : IsTup s.heap t us.toArray) (fit : us.length ≤ sizeLine)
    (cmp : 2 ≤ us.length → ∀ (h1 : Heap) (a : Addr), h1.get? a = some (seqObj "list" us.toArray 0) → (∀ b o, s.heap.get? b = some o → b ≠ a ∧ h1.get? b = some o) → SortableO prog w A.in1.in1 { s with heap := h1 } a us lt)
    (k : ∀ out : List Value, Srtd lt out → Stb lt out us → Q (.ref (s.heap.objs.size + 1)) { s with heap := sortedAll s.heap us out.toArray }) : wpAny (model prog w) A (call (.builtin "sorted") [.ref t]) Q E s := by
  refine Calls.call_function_entry kind_sorted plain_sorted entry_sorted (args_sorted1 _) ?_
  unfold Builtin.«sorted»
  refine wpAny_bind (m := checkCount "sorted" 1 1 _) (wpAny_pure (wpAny_bind (gather_tup ht fit (wpAny_bind (wpAny_newList ?_ fit)))))
  generalize hG : (s.heap.push (seqObj "list" #[] 0)).update s.heap.objs.size (Obj.mapSeq (· ++ us.toArray)) = G
  have sz : G.objs.size = s.heap.objs.size + 1 := by rw [← hG, Heap.size_update, size_push']
  have new : (G.push (seqObj "list" us.toArray 0)).get? (s.heap.objs.size + 1) = some (seqObj "list" us.toArray 0) := by rw [← sz]; exact Heap.get?_push_size _ rfl
  have old : ∀ b o, s.heap.get? b = some o → b ≠ s.heap.objs.size + 1 ∧ (G.push (seqObj "list" us.toArray 0)).get? b = some o := fun b o q => by
    have lt : b < s.heap.objs.size := Heap.lt_size q
    refine ⟨Nat.ne_of_lt (Nat.lt_succ_of_lt lt), Heap.get?_push_of_some _ ?_⟩
    rw [← hG, Heap.get?_update_ne _ _ _ _ (Nat.ne_of_lt lt)]
    exact Heap.get?_push_of_some _ q
  show wpAny _ _ _ _ _ { s with heap := G.push (seqObj "list" us.toArray 0) }
  rw [sz]
  refine wpAny_bind (wpAny_holding (wpAny_call_entry slot_list_sort ⟨_, new, rfl⟩ entry_list_sort (list_sort_ord O new fit (fun h2 => cmp h2 _ _ new old) fun out hs hb => ⟨_, rfl, ?_⟩) (args_list_sort _)))
  refine wpAny_pure ⟨_, rfl, ?_⟩
  rw [← hG]
  exact k out hs hb
end
section
variable {X : Cx}
def rSortedTI (K : PySem.W.Frag) : List V → Hp → VK → Prop := fun vs H Q => ∃ (a : Addr) (ns : List Int), vs = [V.ref a] ∧ SqT K H a (ns.map V.int) ∧
  ∀ (ms : List Int) (p : Addr), ms.Perm ns → ms.Pairwise (· ≤ ·) → H p = none → Q (.ref p) (upd H p (.lst (ms.map V.int)))
theorem cr_sortedTI : CallR X (.builtin "sorted") (rSortedTI X.K) := by
  intro pins s σ H vs us Q I r h
  obtain ⟨a, ns, rfl, hs, q⟩ := h
  obtain ⟨its, rv, ht, fit⟩ := I.tuple hs
  rw [Vals.ref1 r]
  refine sorted_tup swo_int ht (by rw [← rv.length]; exact fit) (fun h2 _ _ _ _ => ints_sortable rv.ints h2) fun out h1 h2 => ?_
  obtain ⟨k1, k2, k3⟩ := ints_out rv.ints h1 h2
  obtain ⟨ep, he⟩ := PyProof.Rows.sortedAll_at s.heap its out.toArray
  have fit' : ((out.map SrtO.iv).map V.int).length ≤ sizeLine := by rw [List.length_map, k2.length_eq]; rw [List.length_map] at fit; exact fit
  refine ⟨.ref _, _, I.laid (o := .lst ((out.map SrtO.iv).map V.int)) (t' := s.toks) (fun _ _ => PyProof.Rows.sortedAll_old) (Nat.le_succ _) ⟨fit', out, ep, vals_of_ints k1, he⟩, rfl, ?_⟩
  exact q _ _ k2 k3 (I.hok.fresh (Nat.le_succ _))
end
section
variable {C : Cn}
def sortTG : List D → Option D
  | [.tup xs] => (intsD xs).map fun is => .lst ((sortI is).map D.int)
  | _ => none
theorem cn_sortT : CalN C (.builtin "sorted") sortTG := fun X E ok => ⟨_, cr_sortedTI, fun W h ds vs d Q rh b e k => by
  unfold sortTG at e
  split at e
  · obtain ⟨v, rfl, b1⟩ := BorsAll.one b
    obtain ⟨a, us, rfl, sq, r, _⟩ := b1.tup
    obtain ⟨is, q, rfl⟩ := Option.map_eq_some_iff.mp e
    rw [ints_reps r q] at sq
    refine ⟨a, is, rfl, by rw [ok.K]; exact sq, fun ns p hp hs np => ?_⟩
    have := sorted_unique (hp.trans (sortI_perm is).symm) hs (sortI_sorted is)
    subst this
    obtain ⟨l, rh', n⟩ := new_lst np rh (reps_ints _)
    exact k _ _ l rh' n
  · cases e⟩
theorem CalN.or {f : Value} {g g' : List D → Option D} (h : CalN C f g) (h' : CalN C f g') : CalN C f (fun x => (g x).or (g' x)) := fun X E ok => by
  obtain ⟨r, p, q⟩ := h X E ok
  obtain ⟨r', p', q'⟩ := h' X E ok
  refine ⟨_, L2.CallR.or p p', fun W s x v d Q rh b e k => ?_⟩
  have e : (g x).or (g' x) = some d := e
  cases e1 : g x with
  | some d' =>
    rw [e1] at e
    cases e
    exact .inl (q W s x v _ Q rh b e1 k)
  | none =>
    rw [e1] at e
    exact .inr (q' W s x v d Q rh b e k)
abbrev sortsG : List D → Option D := fun x => (sortLG x).or (sortTG x)
theorem cn_sorts : CalN C (.builtin "sorted") sortsG := cn_sortL.or cn_sortT
end
end Sw

/-! Sw, part M: a law's end. -/
namespace Sw
open PySem PySem.Spec PyProof.Rows L2
theorem fn_okD {g : Gx} {x qual : Str} {params : Arguments} {body : List Stmt} {scope : Scope} {f : Addr} {fd : FuncData} {N ps : List Str} {k : Nat} {fb : DS} (F : FunD g.K x qual params body scope [] [] f fd) (S : FnScope N ps scope)
    (hbody : DenSs ⟨g, k, N, scope, fun _ => true⟩ body fb) : FnOk g.P g.w g.K g.mg g.base (L2.CX g.P g.w) (k + 1) f fd ps (spOf g ps.length (fnR N.length fb)) := by
  refine F.ok (CX := L2.CX g.P g.w) S (fun vs H Q E h => h.1) fun cdv A outer s H vs Q E hr h => ?_
  obtain ⟨hl, W, ds, h0, rfl, rh, r, o⟩ := h
  have ok : CxOk ⟨g, k, N, scope, fun _ => true⟩ (cxOf (L2.CX g.P g.w) g.P g.w g.K g.mg g.base N qual scope f cdv A outer s W.H E) (fun c d _ H => E c d H) :=
    ⟨rfl, rfl, rfl, rfl, rfl, rfl, S.nd, rfl, rfl, hr, takes_of rfl rfl rfl rfl, passes_of rfl, fun _ _ => rfl⟩
  obtain ⟨t, p, q⟩ := hbody _ _ ok
  refine ⟨t, p, q W W _ _ h0 _ (.refl _) (frm_start r) rh ?_⟩
  have o : okG g.K g.mg (Rep g.K) W E Q (match fb (ds.map Sl.val ++ List.replicate (N.length - ds.length) Sl.un) h0 with | .rt d h' => .ok d h' | .nx _ h' => .ok .non h' | .exc x h' => .exc x h' | _ => .bad) := o
  cases ef : fb (ds.map Sl.val ++ List.replicate (N.length - ds.length) Sl.un) h0 with
  | rt d h' => rw [ef] at o; exact fun W' v l _ rh' r' => o W' v l rh' r'
  | nx τ h' => rw [ef] at o; exact fun W' σ l _ fr rh' => o W' _ l rh' rep_non
  | exc x h' => rw [ef] at o; exact fun W' c dd σ l _ rh' r' => o W' c dd l rh' r'
  | bk _ _ => rw [ef] at o; exact o.elim
  | ct _ _ => rw [ef] at o; exact o.elim
  | bad => rw [ef] at o; exact o.elim
theorem law_facts {fa : List He.Fa} {fn : List He.DefD} {P : Program} {w : World} {K : PySem.W.Frag} {h : Heap} {mg : Str → Option Value} {f : Addr} (X : K.In h) (G : h.Ns mainGlobals mg) (c : He.SaysD fa fn K) (hfa : mg ("law" : Str) = some (.ref f))
    (j i : Nat) {x : Str} {st : Stmt} {N : List Str} {k : Nat} {fb : DS} (hd : fn[j]? = some (dfd "law" st)) (hx : fa[i]? = some (.glo "law")) (S : FnScope N [x] (defScope st))
    (hb : ∀ (kV doc pm : Value) (an : Option Addr) (cdv ct : Value) (us : List Value), us.length = [x].length → bindArgs (PySem.W.fnOf "law" "law" (defArgs st) (defBody st) (defScope st) .none kV doc pm an cdv ct) ⟨us, []⟩ = pure ([x].zip us))
    (hbody : ∀ g : Gx, Tx fa fn g → DenSs ⟨g, k, N, defScope st, fun _ => true⟩ (defBody st) fb) :
    ∃ fd : FuncData, (∀ (s : Shared) (v : Value), BindsTo s fd ⟨[v], []⟩ [(x, v)]) ∧ ∀ base : Heap, K.In base → base.Ns mainGlobals mg → FnOk P w K mg base (L2.CX P w) (k + 1) f fd [x] (spOf ⟨P, w, K, mg, base⟩ 1 (fnR N.length fb)) := by
  obtain ⟨fd, F⟩ := c.def_ j hd
  have e := hfa.symm.trans (He.glo_ok X G (c.fact i hx))
  cases e
  have b := FunD.bindsA (ps := [x]) F hb
  refine ⟨fd, fun s v => b s [v] rfl, fun base _ _ => ?_⟩
  exact fn_okD (g := ⟨P, w, K, mg, base⟩) F S (hbody _ ⟨⟨h, X, G⟩, c⟩)
theorem cx_no {P : Program} {w : World} (H : Hp) (s : Shared) (e : Value) (s' : Shared) (h : L2.CX P w [] H s (fun _ _ _ => False) e s') : False := by
  obtain ⟨_, _, _, _, _, _, _, _, _, _, _, _, _, _, _, _, z⟩ := h
/-- a law's call, its head by facts, over CX of the world -/
theorem walk_end {l : PySem.W.OpenLaw} {n k : Nat} {q : Program} {loose : List Str} {XP : (Str → Option Value) → Heap → Prop} {YP : World → Heap → Prop} {d : DefRec} {x : Str} (few : l.most = some n) (fit : n ≤ sizeLine) (plain : d.params.defaults = []) (hr : Room k callerA)
    (F : ∀ (w : World) (mg : Str → Option Value) (fa : Addr) (h : Heap), YP w h → h.Ns mainGlobals mg → mg d.name = some (.ref fa) → ∃ (K : PySem.W.Frag) (fd : FuncData) (sp : Sp), K.In h ∧ (∀ (s : Shared) (u : Value), BindsTo s fd ⟨[u], []⟩ [(x, u)]) ∧
        (∀ (H : Hp) (a : Addr) (ns : List Int), ns.length ≤ n → Only H → SqL K H a (ns.map V.int) → sp [.ref a] H (fun v _ => v = .bl true) fun _ _ _ => False) ∧ ∀ base : Heap, K.In base → base.Ns mainGlobals mg → FnOk l.prog w K mg base (L2.CX l.prog w) k fa fd [x] sp) :
    PySem.W.WalkO q loose XP YP l.row.toRowW d [] (fun f vs => PySem.call f vs) := by
  refine Att.attach_call few plain fun w s0 s1 mg mb fa o pm cd doc a vs ns G Y ho hd hcd hmg hobj hints hlen hg => ?_
  obtain ⟨K, fd, sp, KX, hb, hsp, hF⟩ := F w mg fa _ Y G.T.g hmg
  exact law_call KX G.T.g G.T.b G.T.builtins G.T.nolimit hg hobj hints (Nat.le_trans hlen fit) hr hF hb (fun H hO hS => hsp H a ns hlen hO hS) fun H e s' => cx_no H s1 e s'
end Sw

/-! Sw, part N: the dice. -/
namespace Sw
open PySem PySem.Spec PyProof.Rows L2
theorem ap_ifR (t : DT) (a b : DE) (τ : List Sl) (h : HS) : ifR t a b τ h = ((t τ h).bind fun c h1 => if c then a τ h1 else b τ h1) := id rfl
theorem ap_nS (i : Nat) (τ : List Sl) (h : HS) : nS i τ h = (getS τ i h) := id rfl
theorem ap_nB (i : Nat) (τ : List Sl) (h : HS) : nB i τ h = (getB τ i h) := id rfl
theorem ap_kD (d : D) (τ : List Sl) (h : HS) : kD d τ h = (.ok d h) := id rfl
theorem ap_aN (τ : List Sl) (h : HS) : aN τ h = (.ok [] h) := id rfl
theorem ap_tY (τ : List Sl) (h : HS) : tY τ h = (.ok true h) := id rfl
theorem ap_oN (τ : List Sl) (h : HS) : oN τ h = (.ok none h) := id rfl
theorem ap_oS (fe : DE) (τ : List Sl) (h : HS) : oS fe τ h = ((fe τ h).bind fun d h1 => match d with | .int i => .ok (some i) h1 | _ => .bad) := id rfl
theorem ap_rT (fe : DE) (τ : List Sl) (h : HS) : rT fe τ h = (RS.ofR (fe τ h) τ fun d h1 => .rt d h1) := id rfl
theorem ap_xS (fe : DE) (τ : List Sl) (h : HS) : xS fe τ h = (RS.ofR (fe τ h) τ fun _ h1 => .nx τ h1) := id rfl
theorem ap_bkS (τ : List Sl) (h : HS) : bkS τ h = (.bk τ h) := id rfl
theorem ap_ctS (τ : List Sl) (h : HS) : ctS τ h = (.ct τ h) := id rfl
theorem ap_noS (τ : List Sl) (h : HS) : noS τ h = (.bad) := id rfl
theorem ap_rN (τ : List Sl) (h : HS) : rN τ h = (.rt .non h) := id rfl
theorem ap_frS (i : Nat) (f : DS) (τ : List Sl) (h : HS) : frS i f τ h = (f (frzT τ i) h) := id rfl
theorem ap_mN (τ : List Sl) (h : HS) : mN τ h = (.ok [] h) := id rfl
theorem ap_shR (f : DE) (τ : List Sl) (s : HS) : shR f τ s = (sShare (f τ s)) := id rfl
theorem ap_seqS (f g : DS) (τ : List Sl) (h : HS) : seqS f g τ h = ( match f τ h with
  | .nx τ' h' => g τ' h'
  | r => r) := id rfl
theorem ap_iteS (t : DT) (f g : DS) (τ : List Sl) (h : HS) : iteS t f g τ h = (RS.ofR (t τ h) τ fun b h1 => if b then f τ h1 else g τ h1) := id rfl
theorem ap_cmpT (g : D → D → Option D) (a b : DE) (τ : List Sl) (h : HS) : cmpT g a b τ h = ((res2 g a b τ h).bind fun d h1 => match d with | .bl c => .ok c h1 | _ => .bad) := id rfl
theorem ap_setS (i : Nat) (fe : DE) (τ : List Sl) (h : HS) : setS i fe τ h = (RS.ofR (fe τ h) τ fun d h1 => .nx (τ.set i (.val d)) h1) := id rfl
theorem ap_setN (i : Nat) (fe : DE) (τ : List Sl) (h : HS) : setN i fe τ h = ( RS.ofR (fe τ h) τ fun d h1 => match ownSl d with
  | some s => .nx (τ.set i s) h1
  | none => .bad) := id rfl
theorem ap_nilS (τ : List Sl) (h : HS) : nilS τ h = (.nx τ h) := id rfl
theorem ap_res1 (g : D → Option D) (a : DE) (τ : List Sl) (h : HS) : res1 g a τ h = ((a τ h).bind fun x h1 => toRes (g x) h1) := id rfl
theorem ap_res2 (g : D → D → Option D) (a b : DE) (τ : List Sl) (h : HS) : res2 g a b τ h = ((a τ h).bind fun x h1 => (b τ h1).bind fun y h2 => toRes (g x y) h2) := id rfl
theorem ap_refIxR (a b : DE) (τ : List Sl) (h : HS) : refIxR a b τ h = ((a τ h).bind fun x h1 => (b τ h1).bind fun y h2 => atRef x y h2) := id rfl
theorem ap_rputS (i : Nat) (fe fe2 : DE) (τ : List Sl) (h : HS) : rputS i fe fe2 τ h = ( RS.ofR (fe2 τ h) τ fun d h1 => match τ[i]? with
  | some (.val (.ref n)) => RS.ofR (fe τ h1) τ fun k h2 => match k, h2[n]? with
    | .int k, some xs => match ixN xs.length k with
      | some j => .nx τ (h2.set n (xs.set j d))
      | none => .bad
    | _, _ => .bad
  | _ => .bad) := id rfl
theorem ap_consR (a : DE) (r : DA) (τ : List Sl) (h : HS) : consR a r τ h = ((a τ h).bind fun x h1 => (r τ h1).bind fun xs h2 => .ok (x :: xs) h2) := id rfl
theorem ap_callR (n : Nat) (φ : DF) (a : DA) (τ : List Sl) (h : HS) : callR n φ a τ h = ((a τ h).bind fun ds h1 => if ds.length = n then φ ds h1 else .bad) := id rfl
theorem ap_biR (g : List D → Option D) (a : DA) (τ : List Sl) (h : HS) : biR g a τ h = ((a τ h).bind fun ds h1 => toRes (g ds) h1) := id rfl
theorem ap_isiR (T : String) (a : DE) (τ : List Sl) (h : HS) : isiR T a τ h = ( (a τ h).bind fun d h1 => match (tyD d).bind (isiT · T) with
  | some b => .ok (.bl b) h1
  | none => .bad) := id rfl
theorem ap_bAndR (a b : DE) (τ : List Sl) (h : HS) : bAndR a b τ h = ((a τ h).bind fun d h1 => match d with | .bl c => if c then b τ h1 else .ok (.bl false) h1 | _ => .bad) := id rfl
theorem ap_bNotR (a : DE) (τ : List Sl) (h : HS) : bNotR a τ h = ((a τ h).bind fun d h1 => match d with | .bl c => .ok (.bl (!c)) h1 | _ => .bad) := id rfl
theorem ap_bOrR (a b : DE) (τ : List Sl) (h : HS) : bOrR a b τ h = ((a τ h).bind fun d h1 => match d with | .bl c => if c then .ok (.bl true) h1 else b τ h1 | _ => .bad) := id rfl
theorem ap_chR (g g' : D → D → Option D) (a b c : DE) (τ : List Sl) (h : HS) : chR g g' a b c τ h = ( (a τ h).bind fun x h1 => (b τ h1).bind fun y h2 => match g x y with
  | some (.bl k) => if k then (c τ h2).bind fun z h3 => toRes (g' y z) h3 else .ok (.bl false) h2
  | _ => .bad) := id rfl
theorem ap_chT (g g' : D → D → Option D) (a b c : DE) (τ : List Sl) (h : HS) : chT g g' a b c τ h = ((chR g g' a b c τ h).bind fun d h1 => match d with | .bl k => .ok k h1 | _ => .bad) := id rfl
theorem ap_truR (a : DE) (τ : List Sl) (h : HS) : truR a τ h = ((a τ h).bind fun d h1 => toRes d.tru h1) := id rfl
theorem ap_tNotR (a : DT) (τ : List Sl) (h : HS) : tNotR a τ h = ((a τ h).bind fun c h1 => .ok (!c) h1) := id rfl
theorem ap_tAndR (a b : DT) (τ : List Sl) (h : HS) : tAndR a b τ h = ((a τ h).bind fun c h1 => if c then b τ h1 else .ok false h1) := id rfl
theorem ap_tOrR (a b : DT) (τ : List Sl) (h : HS) : tOrR a b τ h = ((a τ h).bind fun c h1 => if c then .ok true h1 else b τ h1) := id rfl
theorem ap_seqR (a : DE) (τ : List Sl) (h : HS) : seqR a τ h = ( (a τ h).bind fun d h1 => match d with
  | .tup xs => .ok xs h1
  | .lst xs => .ok xs h1
  | _ => .bad) := id rfl
theorem ap_rngR1 (a : DE) (τ : List Sl) (h : HS) : rngR1 a τ h = ( (a τ h).bind fun d h1 => match d with
  | .int n => if decide (-(2 ^ 62) ≤ n) && decide (n < 2 ^ 62) then .ok (rangeD 0 n.toNat) h1 else .bad
  | _ => .bad) := id rfl
theorem ap_rngR2 (a b : DE) (τ : List Sl) (h : HS) : rngR2 a b τ h = ( (a τ h).bind fun x h1 => (b τ h1).bind fun y h2 => match x, y with
  | .int m, .int n => if (decide (-(2 ^ 62) ≤ m) && decide (m < 2 ^ 62)) && (decide (-(2 ^ 62) ≤ n) && decide (n < 2 ^ 62)) then .ok (rangeD m (n - m).toNat) h2 else .bad
  | _, _ => .bad) := id rfl
theorem ap_enumR (a : DE) (τ : List Sl) (h : HS) : enumR a τ h = ( (a τ h).bind fun d h1 => match d with
  | .tup xs => .ok (enumD 0 xs) h1
  | .lst xs => .ok (enumD 0 xs) h1
  | _ => .bad) := id rfl
theorem ap_zipR (a b : DE) (τ : List Sl) (h : HS) : zipR a b τ h = ( (a τ h).bind fun x h1 => (b τ h1).bind fun y h2 => match x, y with
  | .tup xs, .tup ys => .ok (zipD xs ys) h2
  | .lst xs, .lst ys => .ok (zipD xs ys) h2
  | _, _ => .bad) := id rfl
theorem ap_lcR (it : DA) (vs : List Nat) (g : GT) (tt : DT) (te : DE) (τ : List Sl) (h : HS) : lcR it vs g tt te τ h = ((it τ h).bind fun items h1 => if fits items.length then (lcL g tt te (wipeT τ vs) items h1).nox.bind fun ys h2 => .ok (.lst ys) h2 else .bad) := id rfl
theorem ap_lcR2 (it : DA) (vs : List Nat) (g : GT) (tt : DT) (it1 : DA) (vs1 : List Nat) (g1 : GT) (tt1 : DT) (te : DE) (τ : List Sl) (h : HS) : lcR2 it vs g tt it1 vs1 g1 tt1 te τ h = ( (it τ h).bind fun items h1 =>
  (lcL2 g tt it1 vs1 g1 tt1 te (wipeT τ vs) items h1).nox.bind fun ys h2 => if fits ys.length then .ok (.lst ys) h2 else .bad) := id rfl
theorem ap_sliceR (a : DE) (lo hi : DP) (τ : List Sl) (h : HS) : sliceR a lo hi τ h = ((a τ h).bind fun x h1 => (lo τ h1).bind fun i h2 => (hi τ h2).bind fun j h3 => toRes (sliceD x i j) h3) := id rfl
theorem ap_tupR (a : DA) (τ : List Sl) (h : HS) : tupR a τ h = ((a τ h).bind fun xs h1 => if fits xs.length then .ok (.tup xs) h1 else .bad) := id rfl
theorem ap_lstR (a : DA) (τ : List Sl) (h : HS) : lstR a τ h = ((a τ h).bind fun xs h1 => if fits xs.length then .ok (.lst xs) h1 else .bad) := id rfl
theorem ap_starR (a : DE) (r : DA) (τ : List Sl) (h : HS) : starR a r τ h = ( (a τ h).bind fun x h1 => match x with
  | .tup ys => (r τ h1).bind fun xs h2 => .ok (ys ++ xs) h2
  | .lst ys => (r τ h1).bind fun xs h2 => .ok (ys ++ xs) h2
  | _ => .bad) := id rfl
theorem ap_augS (i : Nat) (g : D → D → Option D) (fe : DE) (τ : List Sl) (h : HS) : augS i g fe τ h = ( match τ[i]? with
  | some (.val d) => RS.ofR (fe τ h) τ fun y h1 => match g d y with
    | some z => .nx (τ.set i (.val z)) h1
    | none => .bad
  | _ => .bad) := id rfl
theorem ap_asgS (g : GT) (fe : DE) (τ : List Sl) (h : HS) : asgS g fe τ h = ( RS.ofR (fe τ h) τ fun d h1 => match g d τ with
  | some τ' => .nx τ' h1
  | none => .bad) := id rfl
theorem ap_par2 (i j : Nat) (fa : List Sl → HS → Res (List Sl)) (τ : List Sl) (h : HS) : par2 i j fa τ h = ( RS.ofR (fa τ h) τ fun ss h1 => match ss with
  | [s, t] => .nx ((τ.set i s).set j t) h1
  | _ => .bad) := id rfl
theorem ap_ownM (a : DE) (r : List Sl → HS → Res (List Sl)) (τ : List Sl) (h : HS) : ownM a r τ h = ( (a τ h).bind fun d h1 => match ownSl d with
  | some s => (r τ h1).bind fun ss h2 => .ok (s :: ss) h2
  | none => .bad) := id rfl
theorem ap_valM (a : DE) (r : List Sl → HS → Res (List Sl)) (τ : List Sl) (h : HS) : valM a r τ h = ((a τ h).bind fun d h1 => (r τ h1).bind fun ss h2 => .ok (.val d :: ss) h2) := id rfl
theorem ap_appS (i : Nat) (fe : DE) (τ : List Sl) (h : HS) : appS i fe τ h = ( match τ[i]? with
  | some (.own _) => RS.ofR (fe τ h) τ fun d h1 => match τ[i]? with
    | some (.own xs) => if decide (xs.length < sizeLine) then .nx (τ.set i (.own (xs ++ [d]))) h1 else .bad
    | _ => .bad
  | _ => .bad) := id rfl
theorem ap_extS (i : Nat) (fe : DE) (τ : List Sl) (h : HS) : extS i fe τ h = ( match τ[i]? with
  | some (.own _) => RS.ofR (fe τ h) τ fun d h1 => match τ[i]?, d with
    | some (.own xs), .lst ys => if fits (xs.length + ys.length) then .nx (τ.set i (.own (xs ++ ys))) h1 else .bad
    | _, _ => .bad
  | _ => .bad) := id rfl
theorem ap_putS (i : Nat) (fe fe2 : DE) (τ : List Sl) (h : HS) : putS i fe fe2 τ h = ( RS.ofR (fe2 τ h) τ fun d h1 => match τ[i]? with
  | some (.own xs) => RS.ofR (fe τ h1) τ fun k h2 => match k with
    | .int k => match ixN xs.length k with
      | some j => .nx (τ.set i (.own (xs.set j d))) h2
      | none => .bad
    | _ => .bad
  | _ => .bad) := id rfl
theorem ap_forR (it : DA) (g : GT) (b : DS) (τ : List Sl) (h : HS) : forR it g b τ h = (RS.ofR (it τ h) τ fun items h1 => forS g b items τ h1) := id rfl
theorem ap_revR (a : DE) (τ : List Sl) (h : HS) : revR a τ h = ( (a τ h).bind fun d h1 => match d with
  | .lst xs => .ok (.lst xs.reverse) h1
  | .frl xs => .ok (.lst xs.reverse) h1
  | _ => .bad) := id rfl
theorem ap_pureS (f : DS) (τ : List Sl) (h : HS) : pureS f τ h = ( match f (τ.map Sl.hide) [] with
  | .rt d [] => .rt d h
  | .exc x [] => .exc x h
  | _ => .bad) := id rfl
theorem ap_fnR (n : Nat) (f : DS) (ds : List D) (h : HS) : fnR n f ds h = (match f (ds.map Sl.val ++ List.replicate (n - ds.length) Sl.un) h with | .rt d h' => .ok d h' | .nx _ h' => .ok .non h' | .exc x h' => .exc x h' | _ => .bad) := id rfl
theorem ap_iSub (i j : Int) : iSub (.int i) (.int j) = some (.int (i - j)) := id rfl
theorem ap_addD (i j : Int) : addD (.int i) (.int j) = some (.int (i + j)) := id rfl
theorem ap_mulD (i j : Int) : mulD (.int i) (.int j) = if mulOk i j then some (.int (i * j)) else none := id rfl
theorem ap_iLt (i j : Int) : iLt (.int i) (.int j) = some (.bl (decide (i < j))) := id rfl
theorem ap_iLe (i j : Int) : iLe (.int i) (.int j) = some (.bl (decide (i ≤ j))) := id rfl
theorem ap_iGt (i j : Int) : iGt (.int i) (.int j) = some (.bl (decide (j < i))) := id rfl
theorem ap_iGe (i j : Int) : iGe (.int i) (.int j) = some (.bl (decide (j ≤ i))) := id rfl
theorem ap_iMod (i j : Int) : iMod (.int i) (.int j) = if modOk i j then some (.int (i.fmod j)) else none := id rfl
theorem ap_iDiv (i j : Int) : iDiv (.int i) (.int j) = if divOk i j then some (.int (i.fdiv j)) else none := id rfl
theorem rb_ok {α β : Type} (a : α) (h : HS) (g : α → HS → Res β) : (Res.ok a h).bind g = g a h := id rfl
theorem rn_ok {α : Type} (a : α) (h : HS) : (Res.ok a h).nox = .ok a h := id rfl
theorem ro_ok {α : Type} (a : α) (h : HS) (τ : List Sl) (k : α → HS → RS) : RS.ofR (.ok a h) τ k = k a h := id rfl
theorem tr_some {α : Type} (a : α) (h : HS) : toRes (some a) h = .ok a h := id rfl
theorem gS_0 (d : D) (τ : List Sl) (h : HS) : getS (.val d :: τ) 0 h = .ok d h := id rfl
theorem gS_s (s : Sl) (τ : List Sl) (i : Nat) (h : HS) : getS (s :: τ) (i + 1) h = getS τ i h := id rfl
theorem gB_0 (d : D) (τ : List Sl) (h : HS) : getB (.val d :: τ) 0 h = .ok d h := id rfl
theorem gB_o (d : List D) (τ : List Sl) (h : HS) : getB (.own d :: τ) 0 h = .ok (.lst d) h := id rfl
theorem gB_s (s : Sl) (τ : List Sl) (i : Nat) (h : HS) : getB (s :: τ) (i + 1) h = getB τ i h := id rfl
def bDice : DS :=
    (seqS (setS 2 (ifR (cmpT iLt (nS 1) (biR lenG (consR (nS 0) aN))) (biR intG (consR (res2 atD (nS 0) (nS 1)) aN)) (res2 addD (res2 mulD (kD (.int 73)) (nS 1)) (kD (.int 41)))))
    (seqS (setS 3 (res2 iMod (biR maxsG (consR (kD (.int 0)) (consR (res2 iSub (biR absG (consR (nS 2) aN)) (res2 iPow (kD (.int 10)) (kD (.int 17)))) aN))) (res2 mulD (res2 iPow (kD (.int 10)) (kD (.int 57))) (res2 iPow (kD (.int 10)) (kD (.int 60))))))
    (rT (shR (lstR (consR (nS 3) (consR (res2 addD (res2 addD (res2 addD (res2 mulD (res2 iMod (biR absG (consR (nS 2) aN)) (kD (.int 1152921504606846883))) (kD (.int 59))) (res2 mulD (kD (.int 977)) (nS 1))) (res2 mulD (kD (.int 47)) (biR intG (consR (res2 iLt (nS 2) (kD (.int 0))) aN)))) (kD (.int 13))) (consR (kD (.int 0)) aN))))))))
def dDice : DF := fnR 4 bDice
def bRoll : DS :=
    (seqS (iteS (cmpT iGt (refIxR (nS 0) (kD (.int 0))) (kD (.int 0))) (seqS (setS 2 (res2 iMod (biR intG (consR (refIxR (nS 0) (kD (.int 0))) aN)) (nS 1)))
    (seqS (rputS 0 (kD (.int 0)) (res2 iDiv (refIxR (nS 0) (kD (.int 0))) (nS 1)))
    (rT (nS 2)))) nilS)
    (seqS (rputS 0 (kD (.int 2)) (res2 addD (refIxR (nS 0) (kD (.int 2))) (kD (.int 1))))
    (seqS (setS 3 (res2 iMod (biR intG (consR (res2 addD (refIxR (nS 0) (kD (.int 1))) (res2 mulD (kD (.int 99990001)) (refIxR (nS 0) (kD (.int 2))))) aN)) (kD (.int 2305843009213693403))))
    (seqS (setS 4 (res2 addD (res2 mulD (res2 iMod (biR intG (consR (res2 addD (res2 mulD (nS 3) (nS 3)) (res2 mulD (kD (.int 83)) (refIxR (nS 0) (kD (.int 2))))) aN)) (kD (.int 2305843009213693373))) (kD (.int 8675327))) (nS 3)))
    (rT (res2 iMod (biR intG (consR (res2 iDiv (nS 4) (kD (.int 65539))) aN)) (nS 1)))))))
def dRoll : DF := fnR 5 bRoll
def bPick : DS :=
    (rT (res2 atD (nS 1) (callR 2 dRoll (consR (nS 0) (consR (biR lenG (consR (nS 1) aN)) aN)))))
def dPick : DF := fnR 2 bPick
def bLotOf : DS :=
    (rT (biR tupG (consR (revR (biR sortsG (consR (nS 0) aN))) aN)))
def dLotOf : DF := pureF (fnR 1 bLotOf)
def bLDb : DS :=
    (seqS (setS 4 (res2 addD (kD (.int 1)) (callR 2 dRoll (consR (nS 0) (consR (biR minsG (consR (nS 3) (consR (callR 2 dPick (consR (nS 0) (consR (lstR (consR (kD (.int 1)) (consR (kD (.int 2)) (consR (kD (.int 3)) (consR (kD (.int 8)) aN))))) aN))) aN))) aN)))))
    (seqS (appS 2 (nS 4))
    (setS 3 (res2 iSub (nS 3) (nS 4)))))
def bLotDrawn : DS :=
    (seqS (par2 2 3 (ownM (lstR aN) (valM (nS 1) mN)))
    (seqS (whileS (cmpT iGt (nS 3) (kD (.int 0))) bLDb 64)
    (frS 2 (rT (callR 1 dLotOf (consR (nS 2) aN))))))
def dLotDrawn : DF := fnR 5 bLotDrawn
def IsDice (h : HS) (n : Nat) : Prop := ∃ L c t : Int, h[n]? = some [.int L, .int c, .int t]
theorem roll_ok {h : HS} {n : Nat} {m : Int} (hd : IsDice h n) (hm : 0 < m) (hl : m < 2 ^ 64) : ∃ r h', dRoll [.ref n, .int m] h = .ok (.int r) h' ∧ IsDice h' n ∧ 0 ≤ r ∧ r < m := by
  obtain ⟨L, c, t, hd⟩ := hd
  have hn : n < h.length := (List.getElem?_eq_some_iff.mp hd).1
  have hm0 : m ≠ 0 := by omega
  have hlog : m.natAbs.log2 < 9000 := by
    have : m.natAbs < 2 ^ 64 := by omega
    exact Nat.lt_of_lt_of_le ((Nat.log2_lt (by omega)).mpr this) (by decide)
  by_cases hL : 0 < L
  · refine ⟨L.fmod m, h.set n [.int (L.fdiv m), .int c, .int t], ?_, ⟨_, _, _, List.getElem?_set_self hn⟩, Int.fmod_nonneg_of_pos _ hm, Int.fmod_lt_of_pos _ hm⟩
    simp [dRoll, bRoll, ifR, nS, nB, kD, aN, tY, oN, oS, rT, xS, bkS, ctS, noS, rN, frS, mN, shR, mulOk, fnR, seqS, iteS, cmpT, setS, setN, nilS, RS.ofR, Res.bind, Res.nox, res1, res2, toRes, refIxR, rputS, atRef, L2.atI, L2.ixN, getS, getB, consR, callR, biR, addD, mulD, iAdd, iSub, iMul, iDiv, iMod, iPow, iLt, iLe, iGt, iGe, Sw.intD, intG, lenG, hd, hL, hm0, hlog, divOk, modOk]
  · refine ⟨((((c + 99990001 * (t + 1)).fmod 2305843009213693403 * (c + 99990001 * (t + 1)).fmod 2305843009213693403 + 83 * (t + 1)).fmod 2305843009213693373 * 8675327 + (c + 99990001 * (t + 1)).fmod 2305843009213693403).fdiv 65539).fmod m, h.set n [.int L, .int c, .int (t + 1)], ?_, ⟨_, _, _, List.getElem?_set_self hn⟩, Int.fmod_nonneg_of_pos _ hm, Int.fmod_lt_of_pos _ hm⟩
    have b1 := Int.fmod_nonneg_of_pos (c + 99990001 * (t + 1)) (b := 2305843009213693403) (by decide)
    have b2 := Int.fmod_lt_of_pos (c + 99990001 * (t + 1)) (b := 2305843009213693403) (by decide)
    have b3 : (c + 99990001 * (t + 1)).fmod 2305843009213693403 < 18446744073709551616 := by omega
    have b4 : -18446744073709551616 < (c + 99990001 * (t + 1)).fmod 2305843009213693403 := by omega
    have b5 : (65539 : Nat).log2 < 9000 := by decide +kernel
    simp [dRoll, bRoll, ifR, nS, nB, kD, aN, tY, oN, oS, rT, xS, bkS, ctS, noS, rN, frS, mN, shR, mulOk, fnR, seqS, iteS, cmpT, setS, setN, nilS, RS.ofR, Res.bind, Res.nox, res1, res2, toRes, refIxR, rputS, atRef, L2.atI, L2.ixN, getS, getB, consR, callR, biR, addD, mulD, iAdd, iSub, iMul, iDiv, iMod, iPow, iLt, iLe, iGt, iGe, Sw.intD, intG, lenG, hd, hL, hm0, hlog, divOk, modOk, List.getElem?_set_self hn, b3, b4, b5]
theorem pick_ok {h : HS} {n : Nat} {xs : List D} (hd : IsDice h n) (hx : xs ≠ []) (hl : xs.length < 2 ^ 64) : ∃ d h', dPick [.ref n, .lst xs] h = .ok d h' ∧ IsDice h' n ∧ d ∈ xs := by
  have h0 : 0 < xs.length := List.length_pos_iff.mpr hx
  obtain ⟨r, h', e, hd', r0, r1⟩ := roll_ok (m := xs.length) hd (by omega) (by omega)
  have hr : r.toNat < xs.length := by omega
  refine ⟨xs[r.toNat], h', ?_, hd', List.getElem_mem hr⟩
  simp [dPick, bPick, ifR, nS, nB, kD, aN, tY, oN, oS, rT, xS, bkS, ctS, noS, rN, frS, mN, shR, mulOk, fnR, seqS, iteS, cmpT, setS, setN, nilS, RS.ofR, Res.bind, Res.nox, res1, res2, toRes, refIxR, rputS, atRef, L2.atI, L2.ixN, getS, getB, consR, callR, biR, addD, mulD, iAdd, iSub, iMul, iDiv, iMod, iPow, iLt, iLe, iGt, iGe, Sw.intD, intG, lenG, e, atD, r0, r1, List.getElem?_eq_getElem hr]
theorem pickT_ok {h : HS} {n : Nat} {xs : List D} (hd : IsDice h n) (hx : xs ≠ []) (hl : xs.length < 2 ^ 64) : ∃ d h', dPick [.ref n, .tup xs] h = .ok d h' ∧ IsDice h' n ∧ d ∈ xs := by
  have h0 : 0 < xs.length := List.length_pos_iff.mpr hx
  obtain ⟨r, h', e, hd', r0, r1⟩ := roll_ok (m := xs.length) hd (by omega) (by omega)
  have hr : r.toNat < xs.length := by omega
  refine ⟨xs[r.toNat], h', ?_, hd', List.getElem_mem hr⟩
  simp [dPick, bPick, ifR, nS, nB, kD, aN, tY, oN, oS, rT, xS, bkS, ctS, noS, rN, frS, mN, shR, mulOk, fnR, seqS, iteS, cmpT, setS, setN, nilS, RS.ofR, Res.bind, Res.nox, res1, res2, toRes, refIxR, rputS, atRef, L2.atI, L2.ixN, getS, getB, consR, callR, biR, addD, mulD, iAdd, iSub, iMul, iDiv, iMod, iPow, iLt, iLe, iGt, iGe, Sw.intD, intG, lenG, e, atD, r0, r1, List.getElem?_eq_getElem hr]
theorem sl1000000 : (1000000 : Nat) < sizeLine := by rw [sizeLine_eq]; decide
theorem lot_loop {n : Nat} {tot : D} : ∀ (F : Nat) (left : Int) (xs : List Int) (s4 : Sl) (h : HS), IsDice h n → 0 ≤ left → left < F → xs.length + left < 1000 →
    ∃ ys s4' h', whileS (cmpT iGt (nS 3) (kD (.int 0))) bLDb F [.val (.ref n), .val tot, .own (xs.map .int), .val (.int left), s4] h = .nx [.val (.ref n), .val tot, .own ((xs ++ ys).map .int), .val (.int 0), s4'] h' ∧ IsDice h' n ∧ (∀ y ∈ ys, 1 ≤ y) ∧ ys.sum = left
  | 0, left, xs, s4, h, hd, h0, h1, h2 => by omega
  | F + 1, left, xs, s4, h, hd, h0, h1, h2 => by
    by_cases hz : left = 0
    · subst hz
      exact ⟨[], s4, h, by simp [whileS, ifR, nS, nB, kD, aN, tY, oN, oS, rT, xS, bkS, ctS, noS, rN, frS, mN, shR, mulOk, fnR, seqS, iteS, cmpT, setS, setN, nilS, RS.ofR, Res.bind, Res.nox, res1, res2, toRes, refIxR, rputS, atRef, L2.atI, L2.ixN, getS, getB, consR, callR, biR, addD, mulD, iAdd, iSub, iMul, iDiv, iMod, iPow, iLt, iLe, iGt, iGe, Sw.intD, intG, lenG], hd, (fun y m => by cases m), rfl⟩
    · have hp : 0 < left := by omega
      obtain ⟨d, ha, e1, hd1, m1⟩ := pick_ok (xs := [.int 1, .int 2, .int 3, .int 8]) hd (by simp) (by decide)
      obtain ⟨p, rfl, hp1⟩ : ∃ p : Int, d = .int p ∧ 1 ≤ p := by
        simp only [List.mem_cons, List.not_mem_nil, or_false] at m1
        rcases m1 with rfl | rfl | rfl | rfl
        · exact ⟨1, rfl, by omega⟩
        · exact ⟨2, rfl, by omega⟩
        · exact ⟨3, rfl, by omega⟩
        · exact ⟨8, rfl, by omega⟩
      obtain ⟨m, em, hm1, hm2⟩ : ∃ m : Int, (if p < left then p else left) = m ∧ 1 ≤ m ∧ m ≤ left := by
        by_cases hlt : p < left
        · exact ⟨p, if_pos hlt, hp1, by omega⟩
        · exact ⟨left, if_neg hlt, by omega, by omega⟩
      obtain ⟨r, hb, e2, hd2, r0, r1⟩ := roll_ok (m := m) hd1 (by omega) (by omega)
      obtain ⟨ys, s4', h', e3, hd3, hy, hs⟩ := lot_loop F (left - (1 + r)) (xs ++ [1 + r]) (.val (.int (1 + r))) hb hd2 (by omega) (by omega) (by simp; omega)
      have hlen : xs.length < sizeLine := Nat.lt_trans (by omega) sl1000000
      refine ⟨(1 + r) :: ys, s4', h', ?_, hd3, fun y my => ?_, by rw [List.sum_cons, hs]; omega⟩
      · rw [whileS]
        have e4 : bLDb [.val (.ref n), .val tot, .own (xs.map .int), .val (.int left), s4] h = .nx [.val (.ref n), .val tot, .own ((xs ++ [1 + r]).map .int), .val (.int (left - (1 + r))), .val (.int (1 + r))] hb := by
          have f4 : fits 4 = true := by unfold fits; exact decide_eq_true (Nat.le_of_lt (Nat.lt_trans (by decide) sl1000000))
          simp [bLDb, ifR, nS, nB, kD, aN, tY, oN, oS, rT, xS, bkS, ctS, noS, rN, frS, mN, shR, mulOk, fnR, seqS, iteS, cmpT, setS, setN, nilS, RS.ofR, Res.bind, Res.nox, res1, res2, toRes, refIxR, rputS, atRef, L2.atI, L2.ixN, getS, getB, consR, callR, biR, addD, mulD, iAdd, iSub, iMul, iDiv, iMod, iPow, iLt, iLe, iGt, iGe, Sw.intD, intG, lenG, lstR, f4, e1, minsG, minG, em, e2, appS, hlen]
        have c : cmpT iGt (nS 3) (kD (.int 0)) [.val (.ref n), .val tot, .own (xs.map .int), .val (.int left), s4] h = .ok true h := by simp [ifR, nS, nB, kD, aN, tY, oN, oS, rT, xS, bkS, ctS, noS, rN, frS, mN, shR, mulOk, fnR, seqS, iteS, cmpT, setS, setN, nilS, RS.ofR, Res.bind, Res.nox, res1, res2, toRes, refIxR, rputS, atRef, L2.atI, L2.ixN, getS, getB, consR, callR, biR, addD, mulD, iAdd, iSub, iMul, iDiv, iMod, iPow, iLt, iLe, iGt, iGe, Sw.intD, intG, lenG, hp]
        simp only [RS.ofR, c, e4, if_true]
        rw [List.append_cons xs (1 + r) ys]
        exact e3
      · rcases List.mem_cons.mp my with rfl | my
        · omega
        · exact hy y my
theorem noRefs_ints : ∀ xs : List Int, noRefs (xs.map .int) = true
  | [] => by rw [List.map_nil, noRefs]
  | x :: xs => by rw [List.map_cons, noRefs, noRefs_ints xs]; simp [D.noRef]
theorem lotOf_ok {h : HS} (xs : List Int) : dLotOf [.lst (xs.map .int)] h = .ok (.tup ((sortI xs).reverse.map .int)) h := by
  simp [dLotOf, bLotOf, pureF, pureR, noRefs, D.noRef, noRefs_ints, ifR, nS, nB, kD, aN, tY, oN, oS, rT, xS, bkS, ctS, noS, rN, frS, mN, shR, mulOk, fnR, seqS, iteS, cmpT, setS, setN, nilS, RS.ofR, Res.bind, Res.nox, res1, res2, toRes, refIxR, rputS, atRef, L2.atI, L2.ixN, getS, getB, consR, callR, biR, addD, mulD, iAdd, iSub, iMul, iDiv, iMod, iPow, iLt, iLe, iGt, iGe, Sw.intD, intG, lenG, sortsG, sortLG, ints_map, revR, tupG, List.map_reverse]
/-- a lot of n: positive, not ascending -/
structure Lot (l : List Int) (n : Int) : Prop where
  pos : ∀ y ∈ l, 1 ≤ y
  desc : l.Pairwise (· ≥ ·)
  sum : l.sum = n
theorem sum_perm {a b : List Int} (h : a.Perm b) : a.sum = b.sum := by
  induction h with
  | nil => rfl
  | cons x _ ih => simp [ih]
  | swap x y l => simp; omega
  | trans _ _ h1 h2 => exact h1.trans h2
theorem lot_sorted {ys : List Int} {n : Int} (h1 : ∀ y ∈ ys, 1 ≤ y) (h2 : ys.sum = n) : Lot (sortI ys).reverse n where
  pos := fun y m => h1 y ((sortI_perm ys).mem_iff.mp (List.mem_reverse.mp m))
  desc := List.pairwise_reverse.mpr (sortI_sorted ys)
  sum := by rw [sum_perm ((List.reverse_perm _).trans (sortI_perm ys)), h2]
theorem lotDrawn_ok {h : HS} {n : Nat} {m : Int} (hd : IsDice h n) (h0 : 0 ≤ m) (h1 : m < 64) : ∃ l h', dLotDrawn [.ref n, .int m] h = .ok (.tup (l.map .int)) h' ∧ IsDice h' n ∧ Lot l m := by
  obtain ⟨ys, s4', h', e, hd', hy, hs⟩ := lot_loop (tot := .int m) 64 m [] .un h hd h0 (by omega) (by simp; omega)
  refine ⟨_, h', ?_, hd', lot_sorted hy hs⟩
  have f0 : fits 0 = true := by unfold fits; exact decide_eq_true (Nat.zero_le _)
  have e1 : par2 2 3 (ownM (lstR aN) (valM (nS 1) mN)) [.val (.ref n), .val (.int m), .un, .un, .un] h = .nx [.val (.ref n), .val (.int m), .own (([] : List Int).map .int), .val (.int m), .un] h := by
    simp [ifR, nS, nB, kD, aN, tY, oN, oS, rT, xS, bkS, ctS, noS, rN, frS, mN, shR, mulOk, fnR, seqS, iteS, cmpT, setS, setN, nilS, RS.ofR, Res.bind, Res.nox, res1, res2, toRes, refIxR, rputS, atRef, L2.atI, L2.ixN, getS, getB, consR, callR, biR, addD, mulD, iAdd, iSub, iMul, iDiv, iMod, iPow, iLt, iLe, iGt, iGe, Sw.intD, intG, lenG, par2, ownM, valM, lstR, f0, ownSl]
  have e2 := lotOf_ok (h := h') ys
  simp only [dLotDrawn, bLotDrawn, fnR, List.map_cons, List.map_nil, List.length_cons, List.length_nil, List.replicate, List.cons_append, List.nil_append, seqS] at *
  simp only [e1, e, frS]
  simp [ifR, nS, nB, kD, aN, tY, oN, oS, rT, xS, bkS, ctS, noS, rN, frS, mN, shR, mulOk, fnR, seqS, iteS, cmpT, setS, setN, nilS, RS.ofR, Res.bind, Res.nox, res1, res2, toRes, refIxR, rputS, atRef, L2.atI, L2.ixN, getS, getB, consR, callR, biR, addD, mulD, iAdd, iSub, iMul, iDiv, iMod, iPow, iLt, iLe, iGt, iGe, Sw.intD, intG, lenG, frzT, e2]
theorem fits_of {n : Nat} (h : n ≤ 1000000) : fits n = true := decide_eq_true (Nat.le_trans h (Nat.le_of_lt sl1000000))
theorem rangeD_map : ∀ (n : Nat) (lo : Int), rangeD lo n = (List.range n).map fun i => .int (lo + (i : Nat))
  | 0, lo => rfl
  | n + 1, lo => by
    rw [rangeD, rangeD_map n, List.range_succ_eq_map, List.map_cons, List.map_map]
    congr 1
    · simp
    · refine List.map_congr_left fun i _ => ?_
      simp only [Function.comp]
      congr 1
      omega
theorem lcL_ok {α : Type} {g : GT} {tt : DT} {te : DE} {τ : List Sl} {h : HS} (enc : α → D) (p : α → Bool) (f : α → D) : ∀ (l : List α), (∀ x ∈ l, ∃ τ1, g (enc x) τ = some τ1 ∧ tt τ1 h = .ok (p x) h ∧ (p x = true → te τ1 h = .ok (f x) h)) →
    lcL g tt te τ (l.map enc) h = .ok ((l.filter p).map f) h
  | [], _ => rfl
  | x :: l, H => by
    obtain ⟨τ1, e1, e2, e3⟩ := H x List.mem_cons_self
    have ih := lcL_ok enc p f l fun y m => H y (List.mem_cons_of_mem _ m)
    rw [List.map_cons, lcL, e1]
    simp only [e2, Res.nox, Res.bind]
    by_cases hp : p x = true
    · rw [if_pos hp, e3 hp, List.filter_cons_of_pos hp]
      simp only [ih, Res.nox, Res.bind, List.map_cons]
    · rw [if_neg hp, ih, List.filter_cons_of_neg hp]
/-- .. every item taken -/
theorem lcL_all {α : Type} {g : GT} {te : DE} {τ : List Sl} {h : HS} (enc : α → D) (f : α → D) (l : List α) (H : ∀ x ∈ l, ∃ τ1, g (enc x) τ = some τ1 ∧ te τ1 h = .ok (f x) h) :
    lcL g (fun _ h => .ok true h) te τ (l.map enc) h = .ok (l.map f) h := by
  have := lcL_ok (tt := fun _ h => .ok true h) (τ := τ) (h := h) (g := g) (te := te) enc (fun _ => true) f l fun x m => by
    obtain ⟨τ1, e1, e2⟩ := H x m
    exact ⟨τ1, e1, rfl, fun _ => e2⟩
  rw [this, List.filter_eq_self.mpr fun _ _ => rfl]
theorem lcL2_all {α β : Type} {g g1 : GT} {it1 : DA} {vs1 : List Nat} {te : DE} {τ : List Sl} {h : HS} (enc : α → D) (enc1 : α → β → D) (sub : α → List β) (f : α → β → D) : ∀ (l : List α), (∀ x ∈ l, ∃ τ1, g (enc x) τ = some τ1 ∧ it1 τ1 h = .ok ((sub x).map (enc1 x)) h ∧ ∀ y ∈ sub x, ∃ τ2, g1 (enc1 x y) (wipeT τ1 vs1) = some τ2 ∧ te τ2 h = .ok (f x y) h) →
    lcL2 g (fun _ h => .ok true h) it1 vs1 g1 (fun _ h => .ok true h) te τ (l.map enc) h = .ok (l.flatMap fun x => (sub x).map (f x)) h
  | [], _ => rfl
  | x :: l, H => by
    obtain ⟨τ1, e1, e2, e3⟩ := H x List.mem_cons_self
    have ih := lcL2_all enc enc1 sub f l fun y m => H y (List.mem_cons_of_mem _ m)
    rw [List.map_cons, lcL2_cons, e1]
    simp only [Res.nox, Res.bind, if_true, e2]
    rw [lcL_all (enc1 x) (f x) (sub x) e3]
    simp only [ih, Res.nox, Res.bind, List.flatMap_cons]
/-- a loop: each turn leads on -/
theorem forS_inv {α : Type} {g : GT} {b : DS} (enc : α → D) (I : List α → List Sl → HS → Prop) : ∀ (l done : List α) (τ : List Sl) (h : HS), I done τ h →
    (∀ done x τ h, I done τ h → x ∈ l → ∃ τ1 τ2 h2, g (enc x) τ = some τ1 ∧ b τ1 h = .nx τ2 h2 ∧ I (done ++ [x]) τ2 h2) → ∃ τ2 h2, forS g b (l.map enc) τ h = .nx τ2 h2 ∧ I (done ++ l) τ2 h2
  | [], done, τ, h, i, _ => ⟨τ, h, rfl, by rw [List.append_nil]; exact i⟩
  | x :: l, done, τ, h, i, H => by
    obtain ⟨τ1, τ2, h2, e1, e2, i2⟩ := H done x τ h i List.mem_cons_self
    obtain ⟨τ3, h3, e3, i3⟩ := forS_inv enc I l (done ++ [x]) τ2 h2 i2 fun d y τ h i m => H d y τ h i (List.mem_cons_of_mem _ m)
    refine ⟨τ3, h3, ?_, by rw [List.append_cons]; exact i3⟩
    rw [List.map_cons, forS, e1]
    simp only [e2, e3]
theorem mulOk_l {i j : Int} (h1 : -(2 ^ 64) < i) (h2 : i < 2 ^ 64) : mulOk i j = true := by unfold mulOk; rw [decide_eq_true h1, decide_eq_true h2]; rfl
theorem mulOk_r {i j : Int} (h1 : -(2 ^ 64) < j) (h2 : j < 2 ^ 64) : mulOk i j = true := by unfold mulOk; rw [decide_eq_true h1, decide_eq_true h2]; simp
theorem dice_ok {h : HS} {ns : List Int} {i : Nat} : ∃ L c, dDice [.frl (ns.map .int), .int (i : Nat)] h = .ok (.ref h.length) (h ++ [[.int L, .int c, .int 0]]) := by
  obtain ⟨z, c1⟩ : ∃ z, ifR (cmpT iLt (nS 1) (biR lenG (consR (nS 0) aN))) (biR intG (consR (res2 atD (nS 0) (nS 1)) aN)) (res2 addD (res2 mulD (kD (.int 73)) (nS 1)) (kD (.int 41))) [.val (.frl (ns.map .int)), .val (.int (i : Nat)), .un, .un] h = .ok (.int z) h := by
    by_cases hi : i < ns.length
    · exact ⟨ns[i], by simp [ifR, nS, nB, kD, aN, tY, oN, oS, rT, xS, bkS, ctS, noS, rN, frS, mN, shR, mulOk, fnR, seqS, iteS, cmpT, setS, setN, nilS, RS.ofR, Res.bind, Res.nox, res1, res2, toRes, refIxR, rputS, atRef, L2.atI, L2.ixN, getS, getB, consR, callR, biR, addD, mulD, iAdd, iSub, iMul, iDiv, iMod, iPow, iLt, iLe, iGt, iGe, Sw.intD, intG, lenG, atD, hi]⟩
    · exact ⟨73 * i + 41, by simp [ifR, nS, nB, kD, aN, tY, oN, oS, rT, xS, bkS, ctS, noS, rN, frS, mN, shR, mulOk, fnR, seqS, iteS, cmpT, setS, setN, nilS, RS.ofR, Res.bind, Res.nox, res1, res2, toRes, refIxR, rputS, atRef, L2.atI, L2.ixN, getS, getB, consR, callR, biR, addD, mulD, iAdd, iSub, iMul, iDiv, iMod, iPow, iLt, iLe, iGt, iGe, Sw.intD, intG, lenG, atD, hi]⟩
  have p1 : ((10 : Int) ^ (17 : Nat)) = 100000000000000000 := by decide +kernel
  have p2 : ((10 : Int) ^ (57 : Nat)) = 1000000000000000000000000000000000000000000000000000000000 := by decide +kernel
  have p3 : ((10 : Int) ^ (60 : Nat)) = 1000000000000000000000000000000000000000000000000000000000000 := by decide +kernel
  have m1 : mulOk 1000000000000000000000000000000000000000000000000000000000 1000000000000000000000000000000000000000000000000000000000000 = true := by decide +kernel
  have m2 : ∀ j, mulOk 73 j = true := fun j => mulOk_l (by decide) (by decide)
  have m3 : ∀ j, mulOk 977 j = true := fun j => mulOk_l (by decide) (by decide)
  have m4 : ∀ j, mulOk 47 j = true := fun j => mulOk_l (by decide) (by decide)
  have m5 : ∀ j, mulOk j 59 = true := fun j => mulOk_r (by decide) (by decide)
  have f3 : fits 3 = true := fits_of (by decide)
  have e0 : powOk 10 17 = true ∧ powOk 10 57 = true ∧ powOk 10 60 = true := by decide +kernel
  refine ⟨(if 100000000000000000 < if z < 0 then -z else z then (if z < 0 then -z else z) - 100000000000000000 else 0 : Int).fmod 1000000000000000000000000000000000000000000000000000000000000000000000000000000000000000000000000000000000000000000000, (((if z < 0 then -z else z).fmod 1152921504606846883 * 59 + 977 * i + 47 * (if z < 0 then 1 else 0)) + 13), ?_⟩
  simp only [dDice, bDice, fnR, seqS, List.map_cons, List.map_nil, List.length_cons, List.length_nil, List.replicate, List.cons_append, List.nil_append, setS, c1]
  simp [nS, kD, aN, rT, shR, RS.ofR, Res.bind, res2, toRes, getS, consR, biR, maxsG, maxG, absG, addD, mulD, iAdd, iSub, iMul, iMod, iPow, iLt, intD, intG, p1, p2, p3, m1, m2, m3, m4, m5, f3, e0, modOk, lstR, sShare]
theorem IsDice.last {h : HS} {L c : Int} : IsDice (h ++ [[.int L, .int c, .int 0]]) h.length := ⟨L, c, 0, by simp⟩
/-! ### data that == can compare -/
def Cmp (n : Nat) (d : D) : Prop := ∃ p, d.py = some p ∧ p.canLay0 = true ∧ p.depth ≤ n
theorem cmp_int (i : Int) : Cmp 0 (.int i) := ⟨_, by rw [D.py], rfl, Nat.le_refl _⟩
theorem cmp_bl (i : Bool) : Cmp 0 (.bl i) := ⟨_, by rw [D.py], rfl, Nat.le_refl _⟩
theorem cmp_non : Cmp 0 .non := ⟨_, by rw [D.py], rfl, Nat.le_refl _⟩
theorem cmp_all {n : Nat} : ∀ {xs : List D}, (∀ x ∈ xs, Cmp n x) → ∃ ps, pyAll xs = some ps ∧ PyData.canLayAll0 ps = true ∧ PyData.depthAll ps ≤ n
  | [], _ => ⟨[], by rw [pyAll], rfl, Nat.zero_le _⟩
  | x :: xs, h => by
    obtain ⟨p, e1, e2, e3⟩ := h x List.mem_cons_self
    obtain ⟨ps, f1, f2, f3⟩ := cmp_all fun y m => h y (List.mem_cons_of_mem _ m)
    refine ⟨p :: ps, by rw [pyAll, e1, f1], ?_, Nat.max_le.mpr ⟨e3, f3⟩⟩
    show (p.canLay0 && PyData.canLayAll0 ps) = true
    rw [e2, f2]; rfl
theorem cmp_tup {n : Nat} {xs : List D} (h : ∀ x ∈ xs, Cmp n x) : Cmp (n + 1) (.tup xs) := by
  obtain ⟨ps, e1, e2, e3⟩ := cmp_all h
  exact ⟨.tuple ps, by rw [D.py, e1]; rfl, e2, Nat.succ_le_succ e3⟩
theorem cmp_lst {n : Nat} {xs : List D} (h : ∀ x ∈ xs, Cmp n x) : Cmp (n + 1) (.lst xs) := by
  obtain ⟨ps, e1, e2, e3⟩ := cmp_all h
  exact ⟨.list ps, by rw [D.py, e1]; rfl, e2, Nat.succ_le_succ e3⟩
theorem cmp_up {n m : Nat} {x : D} (h : Cmp n x) (l : n ≤ m) : Cmp m x := by
  obtain ⟨p, e1, e2, e3⟩ := h
  exact ⟨p, e1, e2, Nat.le_trans e3 l⟩
theorem eqB_same {n : Nat} {x : D} (h : Cmp n x) (l : n ≤ 64) : eqB x x = some true := by
  obtain ⟨p, e1, e2, e3⟩ := h
  have sh : SeqAt.shaped p = true := by unfold SeqAt.shaped; rw [e2, decide_eq_true (Nat.le_trans e3 l)]; rfl
  simp [eqB, e1, sh, SeqAt.eqv_refl p e2]
theorem ne_same {n : Nat} {x : D} (h : Cmp n x) (l : n ≤ 64) : neD x x = some (.bl false) := by simp [neD, eqB_same h l]
theorem eq_same {n : Nat} {x : D} (h : Cmp n x) (l : n ≤ 64) : eqD x x = some (.bl true) := by simp [eqD, eqB_same h l]
theorem cmp_ints (l : List Int) : Cmp 1 (.tup (l.map .int)) := cmp_tup fun x m => by
  obtain ⟨i, _, rfl⟩ := List.mem_map.mp m
  exact cmp_int i
theorem cmp_intsL (l : List Int) : Cmp 1 (.lst (l.map .int)) := cmp_lst fun x m => by
  obtain ⟨i, _, rfl⟩ := List.mem_map.mp m
  exact cmp_int i
theorem py_ints : ∀ l : List Int, pyAll (l.map .int) = some (l.map PyData.int)
  | [] => by rw [List.map_nil, pyAll]; rfl
  | x :: l => by rw [List.map_cons, pyAll, D.py, py_ints l]; rfl
theorem eqv_ints : ∀ a b : List Int, PyData.eqvAll (a.map PyData.int) (b.map PyData.int) = decide (a = b)
  | [], [] => rfl
  | [], _ :: _ => rfl
  | _ :: _, [] => rfl
  | x :: a, y :: b => by
    rw [List.map_cons, List.map_cons, PyData.eqvAll, eqv_ints a b, PyData.eqv]
    by_cases h : x = y <;> simp [h]
theorem eqB_int (i j : Int) : eqB (.int i) (.int j) = some (decide (i = j)) := by
  have sh : ∀ i, SeqAt.shaped (.int i) = true := fun i => rfl
  simp [eqB, D.py, sh, PyData.eqv]
  by_cases h : i = j <;> simp [h]
theorem eqB_ints (a b : List Int) : eqB (.tup (a.map .int)) (.tup (b.map .int)) = some (decide (a = b)) := by
  have sh : ∀ l : List Int, SeqAt.shaped (.tuple (l.map PyData.int)) = true := fun l => by
    obtain ⟨p, e1, e2, e3⟩ := cmp_ints l
    rw [D.py, py_ints] at e1
    cases e1
    unfold SeqAt.shaped
    rw [e2, decide_eq_true (Nat.le_trans e3 (by decide))]; rfl
  simp only [eqB, D.py, py_ints, Option.map_some, sh, Bool.and_self, if_true]
  rw [show PyData.eqv (.tuple (a.map PyData.int)) (.tuple (b.map PyData.int)) = PyData.eqvAll _ _ from rfl, eqv_ints]
theorem pureF_ok {φ : DF} {ds : List D} {d : D} {h : HS} (hn : noRefs ds = true) (r : φ ds [] = .ok d []) : pureF φ ds h = .ok d h := by
  unfold pureF
  rw [if_pos hn, r]
  rfl
/-- a loop: each turn leads on, the turn's place known -/
theorem forS_at {α : Type} {g : GT} {b : DS} (enc : α → D) (all : List α) (I : List α → List Sl → HS → Prop) (H : ∀ done x r τ h, all = done ++ x :: r → I done τ h → ∃ τ1 τ2 h2, g (enc x) τ = some τ1 ∧ b τ1 h = .nx τ2 h2 ∧ I (done ++ [x]) τ2 h2) :
    ∀ (l done : List α) (τ : List Sl) (h : HS), all = done ++ l → I done τ h → ∃ τ2 h2, forS g b (l.map enc) τ h = .nx τ2 h2 ∧ I all τ2 h2
  | [], done, τ, h, e, i => ⟨τ, h, rfl, by rw [e, List.append_nil]; exact i⟩
  | x :: l, done, τ, h, e, i => by
    obtain ⟨τ1, τ2, h2, e1, e2, i2⟩ := H done x l τ h e i
    obtain ⟨τ3, h3, e3, i3⟩ := forS_at enc all I H l (done ++ [x]) τ2 h2 (by rw [e, List.append_assoc]; rfl) i2
    refine ⟨τ3, h3, ?_, i3⟩
    rw [List.map_cons, forS, e1]
    simp only [e2, e3]
end Sw

/-! Sw, part O: a, b, c = x, y, z; sorted(.., reverse=True). -/
namespace Sw
open PySem PySem.Spec PyProof.Rows L2
section
variable {C : Cn} {a b c : Expr} {x y z : Str} {i j k : Nat} {px py pz pt pt2 pos : Pos} {kt k2 : Nat} {fs : List Sl → HS → Res (List Sl)}
/-- what the other slots hold, some of them set -/
theorem own_ne {K : PySem.W.Frag} {W0 W : Wd} {τ : List Sl} {σ : L2.St} (f : Frm K W0 W τ σ) {i j' : Nat} {s x' : Sl} {v w : V} (hij : j' = i → x'.isOwn = true → s = x' → w ≠ v) (hold : ∀ x' : Sl, x'.isOwn = true → τ[j']? = some x' → σ[j']? ≠ some (some w))
    (e' : (τ.set i s)[j']? = some x') (o' : x'.isOwn = true) (q : (σ.set i (some v))[j']? = some (some w)) : False := by
  by_cases hi : i = j'
  · subst hi
    by_cases hl : i < τ.length
    · rw [List.getElem?_set_self hl] at e'
      cases e'
      rw [List.getElem?_set_self (by rw [← f.len]; exact hl)] at q
      cases q
      exact hij rfl o' rfl rfl
    · rw [List.getElem?_eq_none (by simpa using hl)] at e'; cases e'
  · rw [List.getElem?_set_ne hi] at e' q
    exact hold x' o' e' q
theorem den_par3 (hi : C.N[i]? = some x) (hj : C.N[j]? = some y) (hk : C.N[k]? = some z) (hij : i ≠ j) (hik : i ≠ k) (hjk : j ≠ k) (hx : C.sc.names.lookup x = some .local) (hy : C.sc.names.lookup y = some .local) (hz : C.sc.names.lookup z = some .local) (ha : DenM C [a, b, c] fs)
    (hw : ∀ env, env.scope = C.sc → swappedStores [.Tuple [.Name x px, .Name y py, .Name z pz] kt pt] (.Tuple [a, b, c] k2 pt2) env = pure (some [x, y, z]))
    (hs : ∀ env, swapsWithSole [.Tuple [.Name x px, .Name y py, .Name z pz] kt pt] (.Tuple [a, b, c] k2 pt2) pos.line env = pure false) :
    DenS C (.Assign [.Tuple [.Name x px, .Name y py, .Name z pz] kt pt] (.Tuple [a, b, c] k2 pt2) pos) (par3 i j k fs) := fun X E ok => by
  obtain ⟨t, p, q⟩ := ha X E ok
  refine ⟨_, ps_par3 ok.calm ok.nd (by rw [ok.names]; exact hi) (by rw [ok.names]; exact hj) (by rw [ok.names]; exact hk) hij hik hjk (by rw [ok.scope]; exact hx) (by rw [ok.scope]; exact hy) (by rw [ok.scope]; exact hz) p (hw _ ok.scope) (hs _), fun W0 W τ σ h D l fr rh o => ?_⟩
  refine q W0 W τ σ h _ l fr rh (okS.ex l o fun ss s1 W1 vs l1 rh1 n o1 => ?_)
  match ss with
  | [] => exact o1.elim
  | [_] => exact o1.elim
  | [_, _] => exact o1.elim
  | _ :: _ :: _ :: _ :: _ => exact o1.elim
  | [s, t, m] =>
    obtain ⟨v, r1, rfl, n1, n', d⟩ := n
    obtain ⟨u, r2, rfl, n2, n'', d2⟩ := n'
    obtain ⟨w, r3, rfl, n3, e3, _⟩ := n''
    cases (show r3 = [] from e3)
    refine ⟨v, u, w, rfl, ?_⟩
    have f0 := fr.mono l1
    have f1 : Frm C.g.K W0 W1 (τ.set i s) (σ.set i (some v)) := f0.setG i (n1.at_ l rh) fun ho j' x' _ e' o' z => by
      obtain ⟨a, rfl, na⟩ := n1.no ho
      exact SlAt.there (fr.at_ j' x' e') o' z na
    have f2 : Frm C.g.K W0 W1 ((τ.set i s).set j t) ((σ.set i (some v)).set j (some u)) := f1.setG j (n2.at_ l rh) fun ho j' x' hj' e' o' z => by
      obtain ⟨a, rfl, na⟩ := n2.no ho
      refine own_ne f0 (fun _ o2 es => ?_) (fun x2 o2 e2 z2 => SlAt.there (fr.at_ j' x2 e2) o2 z2 na) e' o' z
      subst es
      exact fun e => d o2 0 t rfl ho (by rw [← e]; rfl)
    refine o1 W1 _ (l.trans l1) (.refl _) (f2.setG k (n3.at_ l rh) fun ho j' x' hk' e' o' z => ?_) rh1
    obtain ⟨a, rfl, na⟩ := n3.no ho
    refine own_ne f1 (fun _ o2 es => ?_) (fun x2 o2 e2 z2 => own_ne f0 (fun _ o3 es => ?_) (fun x3 o3 e3 z3 => SlAt.there (fr.at_ j' x3 e3) o3 z3 na) e2 o2 z2) e' o' z
    · subst es
      exact fun e => d2 o2 0 m rfl ho (by rw [← e]; rfl)
    · subst es
      exact fun e => d o3 1 m rfl ho (by rw [← e]; rfl)
end
/-! ### sorted(xs, reverse=True) of ints -/
section
variable {C : Cn} {x : Str} {a : Expr} {fa : DE} {p pos kp kq : Pos} {j : Nat}
def sortRR (f : DE) : DE := fun τ h => (f τ h).bind fun d h1 => match d with
  | .lst xs => match intsD xs with
    | some is => .ok (.lst ((sortI is).reverse.map .int)) h1
    | none => .bad
  | _ => .bad
theorem ge_unique {l m : List Int} (h : l.Perm m) (hl : l.Pairwise (· ≥ ·)) (hm : m.Pairwise (· ≥ ·)) : l = m := by
  have := sorted_unique ((List.reverse_perm l).trans (h.trans (List.reverse_perm m).symm)) (List.pairwise_reverse.mpr hl) (List.pairwise_reverse.mpr hm)
  exact List.reverse_inj.mp this
theorem den_sortRev (hg : glB C.sc x = true) (hm : C.g.mg x = none) (hv : bootBuiltins x = some (.builtin "sorted")) (ha : DenB C a fa)
    (h1 : ∀ env, backTo pos (starEach [a] env) = (false, eval a env) :: backTo pos (starEach [] env)) (h2 : ∀ env, (backTo pos (starEach [a] env)).any (·.1) = false)
    (h3 : ∀ env, (backToKw pos (keywordEach [⟨some (Str.ofString "reverse"), .Constant (.bool true) j kq, kp⟩] env)).all (·.1.isSome) = true) (h4 : ∀ env, (backToKw pos (keywordEach [⟨some (Str.ofString "reverse"), .Constant (.bool true) j kq, kp⟩] env)).any (·.1.isNone) = false)
    (h5 : ∀ env, (backToKw pos (keywordEach [⟨some (Str.ofString "reverse"), .Constant (.bool true) j kq, kp⟩] env)).filterMap (·.1) = [Str.ofString "reverse"]) (h6 : ∀ env, starEach [a] env = (false, eval a env) :: starEach [] env) :
    DenN C (.Call (.Name x p) [a] [⟨some (Str.ofString "reverse"), .Constant (.bool true) j kq, kp⟩] pos) (sortRR fa) := fun X E ok => by
  obtain ⟨t, pa, q⟩ := ha X E ok
  obtain ⟨g1, g2, g3⟩ := glB_ok ok hg
  refine ⟨_, pe_callBK (cr_sortedRev (b := true)) g1 (by rw [ok.mg]; exact hm) hv (pa_cons pa pa_nil (h6 _)) (pk_cons pe_bl pk_nil) g3 g2 (h1 _) (h2 _) (h3 _) (h4 _) (h5 _), fun W0 W τ σ h Q l fr rh o => ?_⟩
  refine q W0 W τ σ h _ l fr rh (okG.bind o fun d s1 W1 v l1 rh1 b1 o1 => ?_)
  cases d with
  | lst xs =>
    obtain ⟨b, us, rfl, sq, r⟩ := b1.lst
    have o1 : okG C.g.K C.g.mg (NewR C.g.K W) W1 (fun c dd H => E c dd σ H) Q (match intsD xs with | some is => Res.ok (.lst ((sortI is).reverse.map .int)) s1 | none => .bad) := o1
    cases e : intsD xs with
    | none => rw [e] at o1; exact o1.elim
    | some is =>
      rw [e] at o1
      rw [ints_reps r e] at sq
      refine ⟨b, is, rfl, rfl, .inl (.inl sq), fun ns np hp hs hn => ?_⟩
      have hs' : ns.Pairwise (· ≥ ·) := hs
      have := ge_unique (hp.trans ((List.reverse_perm _).trans (sortI_perm is)).symm) hs' (List.pairwise_reverse.mpr (sortI_sorted is))
      subst this
      obtain ⟨l2, rh2, n⟩ := new_lst hn rh1 (reps_ints _)
      exact o1 _ _ l2 rh2 (n.of l1 rh1)
  | _ => exact o1.elim
end
end Sw

/-! Sw, part P: sorted of lists of data. -/
namespace Sw
open PySem PySem.Spec PyProof.Rows L2
open PySem.W (dataLe AllAlike Sortable EachIs)
section
variable {X : Cx}
def rSortD (K : PySem.W.Frag) : List V → Hp → VK → Prop := fun vs H Q => ∃ (a : Addr) (us : List V) (ds : List PyData), vs = [V.ref a] ∧ SqL K H a us ∧ DpAll K H us ds ∧ AllAlike ds ∧ Sortable ds ∧ (∀ d ∈ ds, d.depth ≤ 60) ∧
  ∀ p, H p = none → Q (.ref p) (upd H p (.lst (((us.zip ds).mergeSort (dataLe false (·.2))).map (·.1))))
theorem each_rel : ∀ {us : List V} {its : List Value} {ds : List PyData}, Vals us its → us.length = ds.length → EachIs (fun u (b : V × PyData) => RelV b.1 u) its (us.zip ds)
  | [], _, [], .nil, _ => .nil
  | u :: us, _, d :: ds, .cons r t, h => .cons r (each_rel t (by simpa using h))
theorem dp_len {K : PySem.W.Frag} {H : Hp} : ∀ {us : List V} {ds : List PyData}, DpAll K H us ds → us.length = ds.length
  | _, _, .nil => rfl
  | _, _, .cons _ t => by rw [List.length_cons, List.length_cons, dp_len t]
theorem each_reads {pins : List (Addr × Obj)} {σ : L2.St} {H : Hp} {s : Shared} (I : Inv X pins σ H s) : ∀ {us : List V} {its : List Value} {ds : List PyData}, Vals us its → DpAll X.K H us ds → EachIs (fun v (b : V × PyData) => ∃ as, Reads s.heap v b.2 as) its (us.zip ds)
  | _, _, _, .nil, .nil => .nil
  | _, _, _, .cons r t, .cons h k => .cons (Dp.reads I _ _ _ h r) (each_reads I t k)
theorem vals_each : ∀ {out : List Value} {bs : List (V × PyData)}, EachIs (fun u (b : V × PyData) => RelV b.1 u) out bs → Vals (bs.map (·.1)) out
  | _, _, .nil => .nil
  | _, _, .cons r t => .cons r (vals_each t)
theorem zip_snd {α β : Type} : ∀ {a : List α} {b : List β}, a.length = b.length → (a.zip b).map (·.2) = b
  | [], [], _ => rfl
  | x :: a, y :: b, h => by rw [List.zip_cons_cons, List.map_cons, zip_snd (by simpa using h)]
theorem cr_sortD (hu : X.A.units + 64 < cLine) : CallR X (.builtin "sorted") (rSortD X.K) := by
  intro pins s σ H vs us' Q I r h
  obtain ⟨a, us, ds, rfl, hs, hd, hal, hsb, hdep, q⟩ := h
  obtain ⟨its, rv, hl, hz⟩ := I.list hs
  rw [Vals.ref1 r]
  have hlen := dp_len hd
  have zs := zip_snd hlen
  refine PySem.W.sorted_data (bs := us.zip ds) (enc := (·.2)) (R := fun u (b : V × PyData) => RelV b.1 u) hl.isList (each_rel rv hlen) (each_reads I rv hd) (by rw [zs]; exact hal) (by rw [zs]; exact hsb) (by rw [List.length_zip, ← hlen, Nat.min_self]; exact hz) (fun b hb => ?_) fun out ho eo => ?_
  · have := hdep b.2 (by rw [← zs]; exact List.mem_map_of_mem hb)
    omega
  · obtain ⟨ep, he⟩ := PyProof.Rows.sortedAll_at s.heap its out.toArray
    have vo := vals_each eo
    have fit : (((us.zip ds).mergeSort (dataLe false (·.2))).map (·.1)).length ≤ sizeLine := by
      rw [vo.length, ho, List.length_zip, ← hlen, Nat.min_self]; exact hz
    refine ⟨.ref _, _, I.laid (o := .lst (((us.zip ds).mergeSort (dataLe false (·.2))).map (·.1))) (t' := s.toks) (fun _ _ => PyProof.Rows.sortedAll_old) (Nat.le_succ _) ⟨fit, out, ep, vo, he⟩, rfl, q _ (I.hok.fresh (Nat.le_succ _))⟩
end
/-! ### the same by putting in -/
def insB {α : Type} (le : α → α → Bool) (x : α) : List α → List α
  | [] => [x]
  | y :: r => if le x y then x :: y :: r else y :: insB le x r
def sortB {α : Type} (le : α → α → Bool) : List α → List α
  | [] => []
  | x :: r => insB le x (sortB le r)
theorem insB_at {α : Type} {le : α → α → Bool} {x : α} : ∀ {l1 l2 : List α}, (∀ b ∈ l1, (!le x b) = true) → (∀ b, l2.head? = some b → le x b = true) → insB le x (l1 ++ l2) = l1 ++ x :: l2
  | [], [], _, _ => rfl
  | [], y :: r, _, h => by
    show (if le x y then x :: y :: r else y :: insB le x r) = _
    rw [if_pos (h y rfl)]; rfl
  | y :: l1, l2, h1, h2 => by
    have hy := h1 y List.mem_cons_self
    show (if le x y then x :: y :: (l1 ++ l2) else y :: insB le x (l1 ++ l2)) = _
    rw [if_neg (by simpa using hy), insB_at (fun b m => h1 b (List.mem_cons_of_mem _ m)) h2]
    rfl
theorem mergeSort_eq {α : Type} {le : α → α → Bool} (tr : ∀ a b c : α, le a b → le b c → le a c) (to : ∀ a b : α, le a b || le b a) : ∀ l : List α, l.mergeSort le = sortB le l
  | [] => by simp [sortB]
  | x :: l => by
    obtain ⟨l1, l2, e1, e2, h⟩ := List.mergeSort_cons tr to x l
    have ps : (l1 ++ x :: l2).Pairwise fun a b => le a b = true := by rw [← e1]; exact List.pairwise_mergeSort tr to _
    rw [e1, sortB, ← mergeSort_eq tr to l, e2, insB_at h fun b hb => ?_]
    have := (List.pairwise_append.mp ps).2.1
    cases l2 with
    | nil => cases hb
    | cons y r => cases hb; exact (List.pairwise_cons.mp this).1 _ List.mem_cons_self
abbrev lePy {α : Type} : α × PyData → α × PyData → Bool := dataLe false (·.2)
theorem lePy_eq {α : Type} (l : List (α × PyData)) : l.mergeSort lePy = sortB lePy l :=
  mergeSort_eq (fun a b c => (PySem.W.sortLe_total _ _ _).trans a b c) (fun a b => by rw [Bool.or_eq_true]; exact (PySem.W.sortLe_total _ _ _).total a b) l
/-- the same data stand for the same order -/
inductive SameZ (K : PySem.W.Frag) (W : Wd) : List (D × PyData) → List (V × PyData) → Prop
  | nil : SameZ K W [] []
  | cons {x : D} {v : V} {d : PyData} {a : List (D × PyData)} {b : List (V × PyData)} : Rep K W x v → SameZ K W a b → SameZ K W ((x, d) :: a) ((v, d) :: b)
theorem SameZ.ins {K : PySem.W.Frag} {W : Wd} {x : D} {v : V} {d : PyData} (h : Rep K W x v) : ∀ {a : List (D × PyData)} {b : List (V × PyData)}, SameZ K W a b → SameZ K W (insB lePy (x, d) a) (insB lePy (v, d) b)
  | _, _, .nil => .cons h .nil
  | _, _, .cons (x := y) (v := u) (d := e) (a := a) (b := b) r t => by
    show SameZ K W (if lePy (x, d) (y, e) then (x, d) :: (y, e) :: a else (y, e) :: insB lePy (x, d) a) (if lePy (v, d) (u, e) then (v, d) :: (u, e) :: b else (u, e) :: insB lePy (v, d) b)
    have q : (lePy (x, d) (y, e)) = lePy (v, d) (u, e) := rfl
    rw [q]
    by_cases c : lePy (v, d) (u, e) = true
    · rw [if_pos c, if_pos c]; exact .cons h (.cons r t)
    · rw [if_neg c, if_neg c]; exact .cons r (t.ins h)
theorem SameZ.sort {K : PySem.W.Frag} {W : Wd} : ∀ {a : List (D × PyData)} {b : List (V × PyData)}, SameZ K W a b → SameZ K W (sortB lePy a) (sortB lePy b)
  | _, _, .nil => .nil
  | _, _, .cons h t => (t.sort).ins h
theorem SameZ.reps {K : PySem.W.Frag} {W : Wd} : ∀ {a : List (D × PyData)} {b : List (V × PyData)}, SameZ K W a b → Reps K W (a.map (·.1)) (b.map (·.1))
  | _, _, .nil => .nil
  | _, _, .cons h t => .cons h t.reps
theorem SameZ.of {K : PySem.W.Frag} {W : Wd} : ∀ {xs : List D} {vs : List V} {ds : List PyData}, Reps K W xs vs → xs.length = ds.length → SameZ K W (xs.zip ds) (vs.zip ds)
  | [], vs, [], h, _ => by rw [Reps] at h; subst h; exact .nil
  | x :: xs, vs, d :: ds, h, e => by
    rw [Reps] at h
    obtain ⟨v, r, rfl, h1, h2⟩ := h
    exact .cons h1 (SameZ.of h2 (by simpa using e))
theorem pyAll_len : ∀ {xs : List D} {ds : List PyData}, pyAll xs = some ds → xs.length = ds.length
  | [], ds, h => by rw [pyAll] at h; cases h; rfl
  | x :: xs, ds, h => by
    rw [pyAll] at h
    split at h
    · split at h
      · rename_i e
        cases h
        rw [List.length_cons, List.length_cons, pyAll_len e]
      · cases h
    · cases h
def tupNe : PyData → Bool
  | .tuple (_ :: _) => true
  | _ => false
def flatK : PyData → Bool
  | .none => false
  | .tuple _ => false
  | _ => true
/-- these data can be sorted -/
def sortOk (ds : List PyData) : Bool := (ds.all fun d => ds.all fun e => PySem.W.alike d e) && ((ds.all tupNe || ds.all flatK) && ds.all fun d => decide (d.depth ≤ 60))
theorem sortOk_ok {ds : List PyData} (h : sortOk ds = true) : AllAlike ds ∧ Sortable ds ∧ ∀ d ∈ ds, d.depth ≤ 60 := by
  unfold sortOk at h
  simp only [Bool.and_eq_true, Bool.or_eq_true, List.all_eq_true, decide_eq_true_eq] at h
  obtain ⟨h1, h2, h3⟩ := h
  refine ⟨fun d m e m' => h1 d m e m', ?_, h3⟩
  rcases h2 with h2 | h2
  · refine .inl fun d m => ?_
    have := h2 d m
    unfold tupNe at this
    split at this
    · exact ⟨_, _, rfl⟩
    · cases this
  · refine .inr fun d m => ?_
    have := h2 d m
    unfold flatK at this
    split at this
    · cases this
    · cases this
    · rename_i a b
      exact ⟨fun z => a z, fun xs z => b xs z⟩
def sortDG : List D → Option D
  | [.lst xs] => match pyAll xs with
    | some ds => if sortOk ds then some (.lst ((sortB lePy (xs.zip ds)).map (·.1))) else none
    | none => none
  | _ => none
section
variable {C : Cn}
theorem cn_sortD : CalN C (.builtin "sorted") sortDG := fun X E ok => ⟨_, cr_sortD ok.room.units, fun W h ds vs d Q rh b e k => by
  unfold sortDG at e
  split at e
  · obtain ⟨v, rfl, b1⟩ := BorsAll.one b
    obtain ⟨a, us, rfl, sq, r⟩ := b1.lst
    split at e
    · rename_i ps ep
      split at e
      · rename_i hok
        cases e
        obtain ⟨h1, h2, h3⟩ := sortOk_ok hok
        refine ⟨a, us, ps, rfl, .of sq, by rw [ok.K]; exact Reps.dp _ us ps r ep, h1, h2, h3, fun p np => ?_⟩
        have z := (SameZ.of r (pyAll_len ep)).sort.reps
        rw [← lePy_eq (us.zip ps)] at z
        obtain ⟨l, rh', n⟩ := new_lst np rh z
        exact k _ _ l rh' n
      · cases e
    · cases e
  · cases e⟩
end
section
variable {X : Cx}
/-- a list of at most one item -/
def rSort1 (K : PySem.W.Frag) : List V → Hp → VK → Prop := fun vs H Q => ∃ (a : Addr) (us : List V), vs = [V.ref a] ∧ SqL K H a us ∧ us.length ≤ 1 ∧ ∀ p, H p = none → Q (.ref p) (upd H p (.lst us))
theorem perm_one {α : Type} {a b : List α} (h : a.Perm b) (hb : b.length ≤ 1) : a = b := by
  match b, hb with
  | [], _ => exact List.Perm.eq_nil h
  | [x], _ => exact List.perm_singleton.mp h
theorem cr_sort1 : CallR X (.builtin "sorted") (rSort1 X.K) := by
  intro pins s σ H vs us' Q I r h
  obtain ⟨a, us, rfl, hs, h1, q⟩ := h
  obtain ⟨its, rv, hl, hz⟩ := I.list hs
  rw [Vals.ref1 r]
  have e0 := rv.length
  refine SrtO.sorted_ord SrtO.swo_int hl.isList (by rw [← e0]; exact hz) (fun h2 _ _ _ _ => by omega) fun out _ hb => ?_
  have e1 : out = its := perm_one hb.perm (by omega)
  subst e1
  obtain ⟨ep, he⟩ := PyProof.Rows.sortedAll_at s.heap out out.toArray
  exact ⟨.ref _, _, I.laid (o := .lst us) (t' := s.toks) (fun _ _ => PyProof.Rows.sortedAll_old) (Nat.le_succ _) ⟨hz, out, ep, rv, he⟩, rfl, q _ (I.hok.fresh (Nat.le_succ _))⟩
end
section
variable {C : Cn}
def sort1G : List D → Option D
  | [.lst xs] => if xs.length ≤ 1 then some (.lst xs) else none
  | _ => none
theorem cn_sort1 : CalN C (.builtin "sorted") sort1G := fun X E ok => ⟨_, cr_sort1, fun W h ds vs d Q rh b e k => by
  unfold sort1G at e
  split at e
  · obtain ⟨v, rfl, b1⟩ := BorsAll.one b
    obtain ⟨a, us, rfl, sq, r⟩ := b1.lst
    split at e
    · rename_i h1
      cases e
      refine ⟨a, us, rfl, .of sq, by rw [← r.length]; exact h1, fun p np => ?_⟩
      obtain ⟨l, rh', n⟩ := new_lst np rh r
      exact k _ _ l rh' n
    · cases e
  · cases e⟩
abbrev sortsD : List D → Option D := fun x => (sortsG x).or ((sortDG x).or (sort1G x))
theorem cn_sortsD : CalN C (.builtin "sorted") sortsD := cn_sorts.or (cn_sortD.or cn_sort1)
end
end Sw

/-! Sw, part Q: lots: columns, squares. -/
namespace Sw
theorem lotLe : ∀ {l : List Int} {n : Int}, (∀ y ∈ l, 1 ≤ y) → l.sum = n → (∀ y ∈ l, y ≤ n) ∧ (l.length : Int) ≤ n
  | [], n, _, h => ⟨(fun y m => by cases m), by simp at h; simp; omega⟩
  | x :: l, n, hp, h => by
    obtain ⟨h1, h2⟩ := lotLe (l := l) (fun y m => hp y (List.mem_cons_of_mem _ m)) rfl
    have hx := hp x List.mem_cons_self
    rw [List.sum_cons] at h
    refine ⟨fun y m => ?_, by rw [List.length_cons]; omega⟩
    rcases List.mem_cons.mp m with rfl | m
    · omega
    · have := h1 y m
      omega
/-- the columns of a lot -/
def conj (l : List Int) : List Int := (List.range (l.headD 0).toNat).map fun c : Nat => ((l.filter fun x => decide ((c : Int) < x)).length : Int)
/-- the squares, row by row -/
def sqs (k : Nat) : List Int → List (Nat × Nat)
  | [] => []
  | x :: l => ((List.range x.toNat).map fun c => (k, c)) ++ sqs (k + 1) l
theorem sqs_mem : ∀ {l : List Int} {k : Nat} {p : Nat × Nat}, p ∈ sqs k l ↔ ∃ (i : Nat) (x : Int), p.1 = k + i ∧ l[i]? = some x ∧ (p.2 : Int) < x
  | [], k, p => by simp [sqs]
  | x :: l, k, p => by
    rw [sqs, List.mem_append, sqs_mem (l := l)]
    constructor
    · rintro (h | ⟨i, y, h1, h2, h3⟩)
      · obtain ⟨c, hc, rfl⟩ := List.mem_map.mp h
        have := List.mem_range.mp hc
        exact ⟨0, x, rfl, rfl, by show (c : Int) < x; omega⟩
      · exact ⟨i + 1, y, by omega, by simpa using h2, h3⟩
    · rintro ⟨i, y, h1, h2, h3⟩
      cases i with
      | zero =>
        simp at h2
        subst h2
        refine .inl (List.mem_map.mpr ⟨p.2, List.mem_range.mpr (by omega), ?_⟩)
        obtain ⟨a, b⟩ := p
        simp at h1 ⊢
        exact h1.symm
      | succ i => exact .inr ⟨i, y, by omega, by simpa using h2, h3⟩
theorem sqs_nodup : ∀ (l : List Int) (k : Nat), (sqs k l).Nodup
  | [], k => List.nodup_nil
  | x :: l, k => by
    rw [sqs, List.nodup_append]
    refine ⟨?_, sqs_nodup l (k + 1), fun a ha b hb e => ?_⟩
    · refine List.Pairwise.map _ ?_ List.nodup_range
      intro a b h e
      exact h (by simpa using e)
    · obtain ⟨c, _, rfl⟩ := List.mem_map.mp ha
      obtain ⟨i, y, h1, _⟩ := sqs_mem.mp hb
      subst e
      simp at h1
      omega
theorem sqs_sum : ∀ {l : List Int} {k : Nat}, (∀ y ∈ l, 0 ≤ y) → ((sqs k l).length : Int) = l.sum
  | [], k, _ => rfl
  | x :: l, k, h => by
    have ih := sqs_sum (l := l) (k := k + 1) fun y m => h y (List.mem_cons_of_mem _ m)
    have hx := h x List.mem_cons_self
    rw [sqs, List.length_append, List.length_map, List.length_range, List.sum_cons]
    omega
/-- in a list that does not ascend the greater ones stand first -/
theorem count_lt : ∀ {l : List Int} (c : Int) (i : Nat), l.Pairwise (· ≥ ·) → (i < (l.filter fun x => decide (c < x)).length ↔ ∃ x, l[i]? = some x ∧ c < x)
  | [], c, i, _ => by simp
  | y :: l, c, i, h => by
    have hl := (List.pairwise_cons.mp h).2
    have hy := (List.pairwise_cons.mp h).1
    by_cases hc : c < y
    · rw [List.filter_cons_of_pos (by simpa using hc), List.length_cons]
      cases i with
      | zero => simp [hc]
      | succ i =>
        rw [Nat.add_lt_add_iff_right, count_lt c i hl]
        simp
    · rw [List.filter_cons_of_neg (by simpa using hc)]
      have z : (l.filter fun x => decide (c < x)) = [] := List.filter_eq_nil_iff.mpr fun x m => by
        have := hy x m
        simp
        omega
      rw [z]
      constructor
      · intro q; simp at q
      · rintro ⟨x, h1, h2⟩
        cases i with
        | zero => simp at h1; omega
        | succ i =>
          have := hy x (List.mem_of_getElem? (by simpa using h1))
          omega
theorem conj_get (l : List Int) (j : Nat) : (conj l)[j]? = if j < (l.headD 0).toNat then some (((l.filter fun x => decide ((j : Int) < x)).length : Int)) else none := by
  unfold conj
  rw [List.getElem?_map]
  by_cases h : j < (l.headD 0).toNat
  · rw [List.getElem?_range h, if_pos h]; rfl
  · rw [List.getElem?_eq_none (by simpa using h), if_neg h]; rfl
theorem conj_mem {l : List Int} (hd : l.Pairwise (· ≥ ·)) (i j : Nat) : (j, i) ∈ sqs 0 (conj l) ↔ (i, j) ∈ sqs 0 l := by
  rw [sqs_mem, sqs_mem]
  constructor
  · rintro ⟨a, x, h1, h2, h3⟩
    simp only [Nat.zero_add] at h1
    subst h1
    rw [conj_get] at h2
    split at h2
    · cases h2
      have : i < (l.filter fun x => decide ((j : Int) < x)).length := by simpa using h3
      obtain ⟨x, h4, h5⟩ := (count_lt (j : Int) i hd).mp this
      exact ⟨i, x, by simp, h4, h5⟩
    · cases h2
  · rintro ⟨a, x, h1, h2, h3⟩
    simp only [Nat.zero_add] at h1
    subst h1
    refine ⟨j, ((l.filter fun x => decide ((j : Int) < x)).length : Int), by simp, ?_, ?_⟩
    · rw [conj_get, if_pos]
      cases l with
      | nil => simp at h2
      | cons y r =>
        have : x ≤ y := by
          rcases List.mem_cons.mp (List.mem_of_getElem? h2) with rfl | m
          · exact Int.le_refl _
          · exact (List.pairwise_cons.mp hd).1 x m
        have h3' : (j : Int) < x := h3
        show j < y.toNat
        omega
    · have := (count_lt (j : Int) i hd).mpr ⟨x, h2, h3⟩
      show (i : Int) < _
      omega
theorem perm_of_nodup {α : Type} [BEq α] [LawfulBEq α] {a b : List α} (ha : a.Nodup) (hb : b.Nodup) (h : ∀ x, x ∈ a ↔ x ∈ b) : a.Perm b := by
  rw [List.perm_iff_count]
  intro x
  by_cases hx : x ∈ a
  · rw [List.Nodup.count ha, List.Nodup.count hb, if_pos hx, if_pos ((h x).mp hx)]
  · rw [List.count_eq_zero_of_not_mem hx, List.count_eq_zero_of_not_mem fun m => hx ((h x).mpr m)]
/-- the columns' squares: the squares turned -/
theorem conj_perm {l : List Int} (hd : l.Pairwise (· ≥ ·)) : (sqs 0 (conj l)).Perm ((sqs 0 l).map fun p => (p.2, p.1)) := by
  refine perm_of_nodup (sqs_nodup _ _) ?_ fun p => ?_
  · refine List.Pairwise.map _ ?_ (sqs_nodup l 0)
    intro a b h e
    apply h
    obtain ⟨a1, a2⟩ := a
    obtain ⟨b1, b2⟩ := b
    simp at e
    simp [e]
  · obtain ⟨j, i⟩ := p
    rw [conj_mem hd, List.mem_map]
    constructor
    · intro h; exact ⟨(i, j), h, rfl⟩
    · rintro ⟨⟨a, b⟩, h, e⟩
      simp at e
      rw [← e.1, ← e.2]
      exact h
theorem Lot.conj {l : List Int} {n : Int} (h : Lot l n) : Lot (conj l) n where
  pos := fun y m => by
    obtain ⟨j, hj⟩ := List.getElem?_of_mem m
    rw [conj_get] at hj
    split at hj
    · rename_i hlt
      cases hj
      have : 0 < (l.filter fun x => decide ((j : Int) < x)).length := by
        rw [count_lt (j : Int) 0 h.desc]
        cases l with
        | nil => simp at hlt
        | cons y r => exact ⟨y, rfl, by simp at hlt; omega⟩
      omega
    · cases hj
  desc := by
    rw [List.pairwise_iff_getElem]
    intro i j hi hj hij
    have e1 := conj_get l i
    have e2 := conj_get l j
    rw [List.getElem?_eq_getElem hi] at e1
    rw [List.getElem?_eq_getElem hj] at e2
    split at e1
    · split at e2
      · have e1' := Option.some.inj e1
        have e2' := Option.some.inj e2
        rw [e1', e2']
        have := List.countP_mono_left (l := l) (p := fun x => decide ((j : Int) < x)) (q := fun x => decide ((i : Int) < x)) fun x _ q => by
          simp only [decide_eq_true_eq] at q ⊢
          omega
        rw [List.countP_eq_length_filter, List.countP_eq_length_filter] at this
        omega
      · cases e2
    · cases e1
  sum := by
    have p : ∀ y ∈ l, 0 ≤ y := fun y m => by have := h.pos y m; omega
    rw [← sqs_sum (k := 0) fun y m => ?_, (conj_perm h.desc).length_eq, List.length_map, sqs_sum p, h.sum]
    obtain ⟨j, hj⟩ := List.getElem?_of_mem m
    rw [conj_get] at hj
    split at hj
    · cases hj; omega
    · cases hj
end Sw

namespace G_k31
open PySem PySem.Spec PyProof.Rows L2 Sw
abbrev Pg : Program := PySem.Challenge.pw_swapsheets_k31_whole_powers_of_contents
def top (i : Nat) : Stmt := Pg.main.body.getD i (.Pass ⟨0, 0, 0, 0⟩)
def fa : List He.Fa := [.free "len", .free "int", .free "abs", .free "max", .glo "_law_dice", .glo "_law_roll", .free "isinstance", .free "bool", .glo "is_whole", .int "BOUND" 1000000000000000000000000000000000000000000000000000000000000, .glo "is_integer", .glo "is_within", .int "MAX_SUM" 24, .free "all", .free "tuple", .free "zip", .free "sum", .glo "is_lot", .glo "require_shape", .glo "require_within", .glo "power_in", .free "enumerate", .free "range", .glo "squares_in", .glo "contents_in", .glo "power_sum_in", .int "MOST_EXPONENT" 40, .glo "power_sum", .glo "require_lot", .free "sorted", .glo "lot_of", .glo "less_square", .glo "_law_lot_of", .glo "_law_pick", .free "min", .glo "_law_lot_drawn", .glo "conjugate_in", .glo "conjugate", .glo "_law_sm_power", .glo "_law_contents", .glo "_law_power_sum", .glo "content_sum_in", .glo "content_sum", .glo "_law_right", .glo "_law_lots", .glo "law"]
def fn : List He.DefD := [dfd "_law_dice" (top 29), dfd "_law_roll" (top 30), dfd "is_whole" (top 6), dfd "is_integer" (top 7), dfd "is_within" (top 8), dfd "is_lot" (top 18), dfd "require_shape" (top 25), dfd "require_within" (top 9), dfd "power_in" (top 10), dfd "squares_in" (top 15), dfd "contents_in" (top 16), dfd "power_sum_in" (top 26), dfd "power_sum" (top 27), dfd "require_lot" (top 19), dfd "lot_of" (top 13), dfd "less_square" (top 22), dfd "_law_lot_of" (top 33), dfd "_law_pick" (top 31), dfd "_law_lot_drawn" (top 35), dfd "conjugate_in" (top 14), dfd "conjugate" (top 20), dfd "_law_sm_power" (top 36), dfd "_law_contents" (top 34), dfd "_law_power_sum" (top 37), dfd "content_sum_in" (top 17), dfd "content_sum" (top 21), dfd "_law_right" (top 38), dfd "_law_lots" (top 32), dfd "law" (top 39)]
abbrev TX (g : Gx) : Prop := Tx fa fn g
variable {g : Gx}
abbrev s__law_dice : Stmt := top 29
theorem sc__law_dice : FnScope ["_law_script", "_law_spot", "_law_cell", "_law_left"] ["_law_script", "_law_spot"] (defScope s__law_dice) := ⟨by kernel_rfl, by kernel_rfl, by kernel_rfl, by decide +kernel, rfl, by decide +kernel, by decide +kernel⟩
def b__law_dice : DS :=
    (seqS (setS 2 (ifR (cmpT iLt (nS 1) (biR lenG (consR (nS 0) aN))) (biR intG (consR (res2 atD (nS 0) (nS 1)) aN)) (res2 addD (res2 mulD (kD (.int 73)) (nS 1)) (kD (.int 41)))))
    (seqS (setS 3 (res2 iMod (biR maxsG (consR (kD (.int 0)) (consR (res2 iSub (biR absG (consR (nS 2) aN)) (res2 iPow (kD (.int 10)) (kD (.int 17)))) aN))) (res2 mulD (res2 iPow (kD (.int 10)) (kD (.int 57))) (res2 iPow (kD (.int 10)) (kD (.int 60))))))
    (rT (shR (lstR (consR (nS 3) (consR (res2 addD (res2 addD (res2 addD (res2 mulD (res2 iMod (biR absG (consR (nS 2) aN)) (kD (.int 1152921504606846883))) (kD (.int 59))) (res2 mulD (kD (.int 977)) (nS 1))) (res2 mulD (kD (.int 47)) (biR intG (consR (res2 iLt (nS 2) (kD (.int 0))) aN)))) (kD (.int 13))) (consR (kD (.int 0)) aN))))))))
def d__law_dice : DF := fnR 4 b__law_dice
theorem ok__law_dice (T : TX g) : FnD g "_law_dice" 2 1 d__law_dice := by
  exact T.deff 0 4 (x := "_law_dice") (st := s__law_dice) (k := 0) (fb := b__law_dice) rfl rfl sc__law_dice (fun _ _ _ _ _ _ us hl => match us, hl with | [_, _], _ => rfl)
    (den_scons (den_set (i := 2) (by kernel_rfl) (den_if (den_tcmp o_lt (DenE.b (den_name (i := 1) (by kernel_rfl))) (DenE.b (den_bi c_len (by kernel_rfl) (T.free 0 rfl) (by kernel_rfl) (den_abcons (DenE.b (den_name (i := 0) (by kernel_rfl))) den_abnil (fun _ => rfl)) (fun _ => rfl) (fun _ => rfl))) rfl) (den_bt c_int (by kernel_rfl) (T.free 1 rfl) (by kernel_rfl) (den_abcons (DenE.b (den_ix (DenE.b (den_name (i := 0) (by kernel_rfl))) (DenE.b (den_name (i := 1) (by kernel_rfl))) (fun _ _ => rfl))) den_abnil (fun _ => rfl)) (fun _ => rfl) (fun _ => rfl)) (den_bin o_addD (DenE.b (den_bin o_mulD (DenE.b den_int) (DenE.b (den_name (i := 1) (by kernel_rfl))))) (DenE.b den_int))) (fun _ => rfl))
    (den_scons (den_set (i := 3) (by kernel_rfl) (den_bin o_mod (DenE.b (den_bi c_maxs (by kernel_rfl) (T.free 3 rfl) (by kernel_rfl) (den_abcons (DenE.b den_int) (den_abcons (DenE.b (den_bin o_sub (DenE.b (den_bi c_abs (by kernel_rfl) (T.free 2 rfl) (by kernel_rfl) (den_abcons (DenE.b (den_name (i := 2) (by kernel_rfl))) den_abnil (fun _ => rfl)) (fun _ => rfl) (fun _ => rfl))) (DenE.b (den_bin o_pow (DenE.b den_int) (DenE.b den_int))))) den_abnil (fun _ => rfl)) (fun _ => rfl)) (fun _ => rfl) (fun _ => rfl))) (DenE.b (den_bin o_mulD (DenE.b (den_bin o_pow (DenE.b den_int) (DenE.b den_int))) (DenE.b (den_bin o_pow (DenE.b den_int) (DenE.b den_int)))))) (fun _ => rfl))
    (den_sone (den_ret (DenN.share (den_lst (den_acons (den_name (i := 3) (by kernel_rfl)) (den_acons (den_bin o_addD (DenE.b (den_bin o_addD (DenE.b (den_bin o_addD (DenE.b (den_bin o_mulD (DenE.b (den_bin o_mod (DenE.b (den_bi c_abs (by kernel_rfl) (T.free 2 rfl) (by kernel_rfl) (den_abcons (DenE.b (den_name (i := 2) (by kernel_rfl))) den_abnil (fun _ => rfl)) (fun _ => rfl) (fun _ => rfl))) (DenE.b den_int))) (DenE.b den_int))) (DenE.b (den_bin o_mulD (DenE.b den_int) (DenE.b (den_name (i := 1) (by kernel_rfl))))))) (DenE.b (den_bin o_mulD (DenE.b den_int) (DenE.b (den_bt c_int (by kernel_rfl) (T.free 1 rfl) (by kernel_rfl) (den_abcons (DenE.b (den_cmp o_lt (DenE.b (den_name (i := 2) (by kernel_rfl))) (DenE.b den_int) rfl)) den_abnil (fun _ => rfl)) (fun _ => rfl) (fun _ => rfl))))))) (DenE.b den_int)) (den_acons den_int den_anil (fun _ => rfl)) (fun _ => rfl)) (fun _ => rfl))))))))

abbrev s__law_roll : Stmt := top 30
theorem sc__law_roll : FnScope ["_law_dice_here", "_law_total", "_law_found", "_law_one", "_law_two"] ["_law_dice_here", "_law_total"] (defScope s__law_roll) := ⟨by kernel_rfl, by kernel_rfl, by kernel_rfl, by decide +kernel, rfl, by decide +kernel, by decide +kernel⟩
def b__law_roll : DS :=
    (seqS (iteS (cmpT iGt (refIxR (nS 0) (kD (.int 0))) (kD (.int 0))) (seqS (setS 2 (res2 iMod (biR intG (consR (refIxR (nS 0) (kD (.int 0))) aN)) (nS 1)))
    (seqS (rputS 0 (kD (.int 0)) (res2 iDiv (refIxR (nS 0) (kD (.int 0))) (nS 1)))
    (rT (nS 2)))) nilS)
    (seqS (rputS 0 (kD (.int 2)) (res2 addD (refIxR (nS 0) (kD (.int 2))) (kD (.int 1))))
    (seqS (setS 3 (res2 iMod (biR intG (consR (res2 addD (refIxR (nS 0) (kD (.int 1))) (res2 mulD (kD (.int 99990001)) (refIxR (nS 0) (kD (.int 2))))) aN)) (kD (.int 2305843009213693403))))
    (seqS (setS 4 (res2 addD (res2 mulD (res2 iMod (biR intG (consR (res2 addD (res2 mulD (nS 3) (nS 3)) (res2 mulD (kD (.int 83)) (refIxR (nS 0) (kD (.int 2))))) aN)) (kD (.int 2305843009213693373))) (kD (.int 8675327))) (nS 3)))
    (rT (res2 iMod (biR intG (consR (res2 iDiv (nS 4) (kD (.int 65539))) aN)) (nS 1)))))))
def d__law_roll : DF := fnR 5 b__law_roll
theorem ok__law_roll (T : TX g) : FnD g "_law_roll" 2 1 d__law_roll := by
  exact T.deff 1 5 (x := "_law_roll") (st := s__law_roll) (k := 0) (fb := b__law_roll) rfl rfl sc__law_roll (fun _ _ _ _ _ _ us hl => match us, hl with | [_, _], _ => rfl)
    (den_scons (den_sif (den_tcmp o_gt (DenE.b (den_refix (den_name (i := 0) (by kernel_rfl)) den_int (fun _ _ => rfl))) (DenE.b den_int) rfl) (den_scons (den_set (i := 2) (by kernel_rfl) (den_bin o_mod (DenE.b (den_bt c_int (by kernel_rfl) (T.free 1 rfl) (by kernel_rfl) (den_abcons (DenE.b (den_refix (den_name (i := 0) (by kernel_rfl)) den_int (fun _ _ => rfl))) den_abnil (fun _ => rfl)) (fun _ => rfl) (fun _ => rfl))) (DenE.b (den_name (i := 1) (by kernel_rfl)))) (fun _ => rfl))
    (den_scons (den_rput (i := 0) (by kernel_rfl) (DenE.b den_int) (den_bin o_div (DenE.b (den_refix (den_name (i := 0) (by kernel_rfl)) den_int (fun _ _ => rfl))) (DenE.b (den_name (i := 1) (by kernel_rfl)))) (fun _ _ => rfl) (by exact fun _ _ => rfl) (fun _ => rfl) (fun _ => rfl) (fun _ => rfl))
    (den_sone (den_ret (den_name (i := 2) (by kernel_rfl)))))) den_snil)
    (den_scons (den_rput (i := 0) (by kernel_rfl) (DenE.b den_int) (den_bin o_addD (DenE.b (den_refix (den_name (i := 0) (by kernel_rfl)) den_int (fun _ _ => rfl))) (DenE.b den_int)) (fun _ _ => rfl) (by exact fun _ _ => rfl) (fun _ => rfl) (fun _ => rfl) (fun _ => rfl))
    (den_scons (den_set (i := 3) (by kernel_rfl) (den_bin o_mod (DenE.b (den_bt c_int (by kernel_rfl) (T.free 1 rfl) (by kernel_rfl) (den_abcons (DenE.b (den_bin o_addD (DenE.b (den_refix (den_name (i := 0) (by kernel_rfl)) den_int (fun _ _ => rfl))) (DenE.b (den_bin o_mulD (DenE.b den_int) (DenE.b (den_refix (den_name (i := 0) (by kernel_rfl)) den_int (fun _ _ => rfl))))))) den_abnil (fun _ => rfl)) (fun _ => rfl) (fun _ => rfl))) (DenE.b den_int)) (fun _ => rfl))
    (den_scons (den_set (i := 4) (by kernel_rfl) (den_bin o_addD (DenE.b (den_bin o_mulD (DenE.b (den_bin o_mod (DenE.b (den_bt c_int (by kernel_rfl) (T.free 1 rfl) (by kernel_rfl) (den_abcons (DenE.b (den_bin o_addD (DenE.b (den_bin o_mulD (DenE.b (den_name (i := 3) (by kernel_rfl))) (DenE.b (den_name (i := 3) (by kernel_rfl))))) (DenE.b (den_bin o_mulD (DenE.b den_int) (DenE.b (den_refix (den_name (i := 0) (by kernel_rfl)) den_int (fun _ _ => rfl))))))) den_abnil (fun _ => rfl)) (fun _ => rfl) (fun _ => rfl))) (DenE.b den_int))) (DenE.b den_int))) (DenE.b (den_name (i := 3) (by kernel_rfl)))) (fun _ => rfl))
    (den_sone (den_ret (den_bin o_mod (DenE.b (den_bt c_int (by kernel_rfl) (T.free 1 rfl) (by kernel_rfl) (den_abcons (DenE.b (den_bin o_div (DenE.b (den_name (i := 4) (by kernel_rfl))) (DenE.b den_int))) den_abnil (fun _ => rfl)) (fun _ => rfl) (fun _ => rfl))) (DenE.b (den_name (i := 1) (by kernel_rfl))))))))))

abbrev s_is_whole : Stmt := top 6
theorem sc_is_whole : FnScope ["value"] ["value"] (defScope s_is_whole) := ⟨by kernel_rfl, by kernel_rfl, by kernel_rfl, by decide +kernel, rfl, by decide +kernel, by decide +kernel⟩
def b_is_whole : DS :=
    (rT (bAndR (isiR "int" (nS 0)) (bNotR (isiR "bool" (nS 0)))))
def d_is_whole : DF := pureF (fnR 1 b_is_whole)
theorem ok_is_whole (T : TX g) : FnD g "is_whole" 1 1 d_is_whole := by
  exact FnD.pure (T.deff 2 8 (x := "is_whole") (st := s_is_whole) (k := 0) (fb := b_is_whole) rfl rfl sc_is_whole (fun _ _ _ _ _ _ us hl => match us, hl with | [_], _ => rfl)
    (den_sone (den_ret (den_band (den_isi (Tn := "int") (by kernel_rfl) (T.free 6 rfl) (by kernel_rfl) (T.free 1 rfl) (by kernel_rfl) (DenE.b (den_name (i := 0) (by kernel_rfl))) (fun _ => rfl) (fun _ => rfl) (fun _ => rfl)) (den_band1 (den_bnot (den_isi (Tn := "bool") (by kernel_rfl) (T.free 6 rfl) (by kernel_rfl) (T.free 7 rfl) (by kernel_rfl) (DenE.b (den_name (i := 0) (by kernel_rfl))) (fun _ => rfl) (fun _ => rfl) (fun _ => rfl))))))))

abbrev s_is_integer : Stmt := top 7
theorem sc_is_integer : FnScope ["value"] ["value"] (defScope s_is_integer) := ⟨by kernel_rfl, by kernel_rfl, by kernel_rfl, by decide +kernel, rfl, by decide +kernel, by decide +kernel⟩
def b_is_integer : DS :=
    (rT (bAndR (callR 1 d_is_whole (consR (nS 0) aN)) (chR iLt iLt (res1 negD (kD (.int 1000000000000000000000000000000000000000000000000000000000000))) (nS 0) (kD (.int 1000000000000000000000000000000000000000000000000000000000000)))))
def d_is_integer : DF := pureF (fnR 1 b_is_integer)
theorem ok_is_integer (T : TX g) : FnD g "is_integer" 1 2 d_is_integer := by
  obtain ⟨t_BOUND, c_BOUND⟩ := T.int 9 (x := "BOUND") (n := 1000000000000000000000000000000000000000000000000000000000000) rfl
  exact FnD.pure (T.deff 3 10 (x := "is_integer") (st := s_is_integer) (k := 1) (fb := b_is_integer) rfl rfl sc_is_integer (fun _ _ _ _ _ _ us hl => match us, hl with | [_], _ => rfl)
    (den_sone (den_ret (den_band (den_call (n := 1) (ok_is_whole T) (show 1 ≤ 1 by decide) (by kernel_rfl) (den_acons (den_name (i := 0) (by kernel_rfl)) den_anil (fun _ => rfl)) (fun _ => rfl) (fun _ => rfl)) (den_band1 (den_chain o_lt o_lt (DenE.b (den_neg (DenE.b (den_con (by kernel_rfl) c_BOUND rfl)))) (DenE.b (den_name (i := 0) (by kernel_rfl))) (DenE.b (den_con (by kernel_rfl) c_BOUND rfl)) rfl))))))

abbrev s_is_within : Stmt := top 8
theorem sc_is_within : FnScope ["value", "least", "most"] ["value", "least", "most"] (defScope s_is_within) := ⟨by kernel_rfl, by kernel_rfl, by kernel_rfl, by decide +kernel, rfl, by decide +kernel, by decide +kernel⟩
def b_is_within : DS :=
    (rT (bAndR (callR 1 d_is_integer (consR (nS 0) aN)) (chR iLe iLe (nS 1) (nS 0) (nS 2))))
def d_is_within : DF := pureF (fnR 3 b_is_within)
theorem ok_is_within (T : TX g) : FnD g "is_within" 3 3 d_is_within := by
  exact FnD.pure (T.deff 4 11 (x := "is_within") (st := s_is_within) (k := 2) (fb := b_is_within) rfl rfl sc_is_within (fun _ _ _ _ _ _ us hl => match us, hl with | [_, _, _], _ => rfl)
    (den_sone (den_ret (den_band (den_call (n := 1) (ok_is_integer T) (show 2 ≤ 2 by decide) (by kernel_rfl) (den_acons (den_name (i := 0) (by kernel_rfl)) den_anil (fun _ => rfl)) (fun _ => rfl) (fun _ => rfl)) (den_band1 (den_chain o_le o_le (DenE.b (den_name (i := 1) (by kernel_rfl))) (DenE.b (den_name (i := 0) (by kernel_rfl))) (DenE.b (den_name (i := 2) (by kernel_rfl))) rfl))))))

abbrev s_is_lot : Stmt := top 18
theorem sc_is_lot : FnScope ["value", "member", "one", "other"] ["value"] (defScope s_is_lot) := ⟨by kernel_rfl, by kernel_rfl, by kernel_rfl, by decide +kernel, rfl, by decide +kernel, by decide +kernel⟩
def b_is_lot : DS :=
    (seqS (iteS (tOrR (tNotR (truR (isiR "tuple" (nS 0)))) (tNotR (truR (biR allG (consR (lcR (seqR (nS 0)) [1] (gN 1) tY (callR 3 d_is_within (consR (nS 1) (consR (kD (.int 1)) (consR (kD (.int 24)) aN))))) aN))))) (rT (kD (.bl false))) nilS)
    (rT (bAndR (res2 iLe (biR sumsG (consR (nS 0) aN)) (kD (.int 24))) (biR allG (consR (lcR (zipR (nS 0) (sliceR (nS 0) (oS (kD (.int 1))) oN)) [2, 3] (gT (gConsT (gN 2) (gConsT (gN 3) gNilT))) tY (res2 iGe (nS 2) (nS 3))) aN)))))
def d_is_lot : DF := pureF (fnR 4 b_is_lot)
theorem ok_is_lot (T : TX g) : FnD g "is_lot" 1 4 d_is_lot := by
  obtain ⟨t_MAX_SUM, c_MAX_SUM⟩ := T.int 12 (x := "MAX_SUM") (n := 24) rfl
  exact FnD.pure (T.deff 5 17 (x := "is_lot") (st := s_is_lot) (k := 3) (fb := b_is_lot) rfl rfl sc_is_lot (fun _ _ _ _ _ _ us hl => match us, hl with | [_], _ => rfl)
    (den_scons (den_sif (den_tw (den_wor (den_tnot (den_tru (DenE.b (den_isi (Tn := "tuple") (by kernel_rfl) (T.free 6 rfl) (by kernel_rfl) (T.free 14 rfl) (by kernel_rfl) (DenE.b (den_name (i := 0) (by kernel_rfl))) (fun _ => rfl) (fun _ => rfl) (fun _ => rfl))) (fun _ _ => rfl))) (den_wor1 (den_tnot (den_tru (DenE.b (den_bi c_all (by kernel_rfl) (T.free 13 rfl) (by kernel_rfl) (den_abcons (DenN.b (den_lc (own := [("member", 1)]) (den_iseq (den_name (i := 0) (by kernel_rfl))) (by kernel_rfl) (by decide) (den_gname (i := 1) (by kernel_rfl)) den_tsnil (den_call (n := 3) (ok_is_within T) (show 3 ≤ 3 by decide) (by kernel_rfl) (den_acons (den_name (i := 1) (by kernel_rfl)) (den_acons den_int (den_acons (den_con (by kernel_rfl) c_MAX_SUM rfl) den_anil (fun _ => rfl)) (fun _ => rfl)) (fun _ => rfl)) (fun _ => rfl) (fun _ => rfl)) (fun _ _ => rfl))) den_abnil (fun _ => rfl)) (fun _ => rfl) (fun _ => rfl))) (fun _ _ => rfl)))))) (den_sone (den_ret den_bl)) den_snil)
    (den_sone (den_ret (den_band (den_cmp o_le (DenE.b (den_bi c_sums (by kernel_rfl) (T.free 16 rfl) (by kernel_rfl) (den_abcons (DenE.b (den_name (i := 0) (by kernel_rfl))) den_abnil (fun _ => rfl)) (fun _ => rfl) (fun _ => rfl))) (DenE.b (den_con (by kernel_rfl) c_MAX_SUM rfl)) rfl) (den_band1 (den_bi c_all (by kernel_rfl) (T.free 13 rfl) (by kernel_rfl) (den_abcons (DenN.b (den_lc (own := [("one", 2), ("other", 3)]) (den_izip (by kernel_rfl) (T.free 15 rfl) (den_name (i := 0) (by kernel_rfl)) (den_slT (DenE.b (den_name (i := 0) (by kernel_rfl))) (den_psm (DenE.b den_int)) den_pnone) (fun _ => rfl) (fun _ => rfl)) (by kernel_rfl) (by decide) (den_gtup (den_gcons (den_gname (i := 2) (by kernel_rfl)) (den_gcons (den_gname (i := 3) (by kernel_rfl)) den_gnil (fun _ => rfl)) (fun _ => rfl)) (fun _ => rfl) (fun _ => rfl) (gcons_len (gcons_len gnil_len))) den_tsnil (den_cmp o_ge (DenE.b (den_name (i := 2) (by kernel_rfl))) (DenE.b (den_name (i := 3) (by kernel_rfl))) rfl) (fun _ _ => rfl))) den_abnil (fun _ => rfl)) (fun _ => rfl) (fun _ => rfl))))))))

abbrev s_require_shape : Stmt := top 25
theorem sc_require_shape : FnScope ["value"] ["value"] (defScope s_require_shape) := ⟨by kernel_rfl, by kernel_rfl, by kernel_rfl, by decide +kernel, rfl, by decide +kernel, by decide +kernel⟩
def b_require_shape : DS :=
    (iteS (tNotR (truR (callR 1 d_is_lot (consR (nS 0) aN)))) noS nilS)
def d_require_shape : DF := pureF (fnR 1 b_require_shape)
theorem ok_require_shape (T : TX g) : FnD g "require_shape" 1 5 d_require_shape := by
  exact FnD.pure (T.deff 6 18 (x := "require_shape") (st := s_require_shape) (k := 4) (fb := b_require_shape) rfl rfl sc_require_shape (fun _ _ _ _ _ _ us hl => match us, hl with | [_], _ => rfl)
    (den_sone (den_sif (den_tnot (den_tru (DenE.b (den_call (n := 1) (ok_is_lot T) (show 4 ≤ 4 by decide) (by kernel_rfl) (den_acons (den_name (i := 0) (by kernel_rfl)) den_anil (fun _ => rfl)) (fun _ => rfl) (fun _ => rfl))) (fun _ _ => rfl))) (den_sone den_never) den_snil)))

abbrev s_require_within : Stmt := top 9
theorem sc_require_within : FnScope ["value", "least", "most"] ["value", "least", "most"] (defScope s_require_within) := ⟨by kernel_rfl, by kernel_rfl, by kernel_rfl, by decide +kernel, rfl, by decide +kernel, by decide +kernel⟩
def b_require_within : DS :=
    (iteS (tNotR (truR (callR 3 d_is_within (consR (nS 0) (consR (nS 1) (consR (nS 2) aN)))))) noS nilS)
def d_require_within : DF := pureF (fnR 3 b_require_within)
theorem ok_require_within (T : TX g) : FnD g "require_within" 3 4 d_require_within := by
  exact FnD.pure (T.deff 7 19 (x := "require_within") (st := s_require_within) (k := 3) (fb := b_require_within) rfl rfl sc_require_within (fun _ _ _ _ _ _ us hl => match us, hl with | [_, _, _], _ => rfl)
    (den_sone (den_sif (den_tnot (den_tru (DenE.b (den_call (n := 3) (ok_is_within T) (show 3 ≤ 3 by decide) (by kernel_rfl) (den_acons (den_name (i := 0) (by kernel_rfl)) (den_acons (den_name (i := 1) (by kernel_rfl)) (den_acons (den_name (i := 2) (by kernel_rfl)) den_anil (fun _ => rfl)) (fun _ => rfl)) (fun _ => rfl)) (fun _ => rfl) (fun _ => rfl))) (fun _ _ => rfl))) (den_sone den_never) den_snil)))

abbrev s_power_in : Stmt := top 10
theorem sc_power_in : FnScope ["number", "many", "found", "here", "left"] ["number", "many"] (defScope s_power_in) := ⟨by kernel_rfl, by kernel_rfl, by kernel_rfl, by decide +kernel, rfl, by decide +kernel, by decide +kernel⟩
def b_power_in : DS :=
    (seqS (par3 2 3 4 (valM (kD (.int 1)) (valM (nS 0) (valM (nS 1) mN))))
    (seqS (whileS (cmpT iGt (nS 4) (kD (.int 0))) (seqS (iteS (cmpT eqD (res2 iMod (nS 4) (kD (.int 2))) (kD (.int 1))) (augS 2 iMul (nS 3)) nilS)
    (par2 3 4 (valM (res2 mulD (nS 3) (nS 3)) (valM (res2 iDiv (nS 4) (kD (.int 2))) mN)))) 64)
    (rT (nS 2))))
def d_power_in : DF := pureF (fnR 5 b_power_in)
theorem ok_power_in (T : TX g) : FnD g "power_in" 2 1 d_power_in := by
  exact FnD.pure (T.deff 8 20 (x := "power_in") (st := s_power_in) (k := 0) (fb := b_power_in) rfl rfl sc_power_in (fun _ _ _ _ _ _ us hl => match us, hl with | [_, _], _ => rfl)
    (den_scons (den_par3 (i := 2) (j := 3) (k := 4) (by kernel_rfl) (by kernel_rfl) (by kernel_rfl) (by decide) (by decide) (by decide) (by kernel_rfl) (by kernel_rfl) (by kernel_rfl) (den_mval den_int (den_mval (den_name (i := 0) (by kernel_rfl)) (den_mval (den_name (i := 1) (by kernel_rfl)) den_mnil (fun _ => rfl)) (fun _ => rfl)) (fun _ => rfl)) (hw_of fun _ => by kernel_rfl) (fun _ => rfl))
    (den_scons (den_while 64 (den_tcmp o_gt (DenE.b (den_name (i := 4) (by kernel_rfl))) (DenE.b den_int) rfl) (den_scons (den_sif (den_tcmp o_eq (DenE.b (den_bin o_mod (DenE.b (den_name (i := 4) (by kernel_rfl))) (DenE.b den_int))) (DenE.b den_int) rfl) (den_sone (den_aug (i := 2) (by kernel_rfl) io_mul (DenE.b (den_name (i := 3) (by kernel_rfl))))) den_snil)
    (den_sone (den_par2 (i := 3) (j := 4) (by kernel_rfl) (by kernel_rfl) (by decide) (by kernel_rfl) (by kernel_rfl) (den_mval (den_bin o_mulD (DenE.b (den_name (i := 3) (by kernel_rfl))) (DenE.b (den_name (i := 3) (by kernel_rfl)))) (den_mval (den_bin o_div (DenE.b (den_name (i := 4) (by kernel_rfl))) (DenE.b den_int)) den_mnil (fun _ => rfl)) (fun _ => rfl)) (hw_of fun _ => by kernel_rfl) (fun _ => rfl)))))
    (den_sone (den_ret (den_name (i := 2) (by kernel_rfl)))))))

abbrev s_squares_in : Stmt := top 15
theorem sc_squares_in : FnScope ["lot", "row", "member", "column"] ["lot"] (defScope s_squares_in) := ⟨by kernel_rfl, by kernel_rfl, by kernel_rfl, by decide +kernel, rfl, by decide +kernel, by decide +kernel⟩
def b_squares_in : DS :=
    (rT (lcR2 (enumR (nS 0)) [1, 2, 3] (gT (gConsT (gN 1) (gConsT (gN 2) gNilT))) tY (rngR1 (nS 2)) [3] (gN 3) tY (tupR (consR (nS 1) (consR (nS 3) aN)))))
def d_squares_in : DF := pureF (fnR 4 b_squares_in)
theorem ok_squares_in (T : TX g) : FnD g "squares_in" 1 1 d_squares_in := by
  exact FnD.pure (T.deff 9 23 (x := "squares_in") (st := s_squares_in) (k := 0) (fb := b_squares_in) rfl rfl sc_squares_in (fun _ _ _ _ _ _ us hl => match us, hl with | [_], _ => rfl)
    (den_sone (den_ret (DenN.toE (den_lc2 (own := [("row", 1), ("member", 2), ("column", 3)]) (den_ienum (by kernel_rfl) (T.free 21 rfl) (den_name (i := 0) (by kernel_rfl)) (fun _ => rfl)) (by kernel_rfl) (by decide) (by decide) (den_gtup (den_gcons (den_gname (i := 1) (by kernel_rfl)) (den_gcons (den_gname (i := 2) (by kernel_rfl)) den_gnil (fun _ => rfl)) (fun _ => rfl)) (fun _ => rfl) (fun _ => rfl) (gcons_len (gcons_len gnil_len))) den_tsnil (den_irng1 (by kernel_rfl) (T.free 22 rfl) (DenE.b (den_name (i := 2) (by kernel_rfl))) (fun _ => rfl)) (den_gname (i := 3) (by kernel_rfl)) den_tsnil (den_tup (den_acons (den_name (i := 1) (by kernel_rfl)) (den_acons (den_name (i := 3) (by kernel_rfl)) den_anil (fun _ => rfl)) (fun _ => rfl))) (fun _ _ => rfl) (fun _ _ => rfl))))))

abbrev s_contents_in : Stmt := top 16
theorem sc_contents_in : FnScope ["lot", "row", "column"] ["lot"] (defScope s_contents_in) := ⟨by kernel_rfl, by kernel_rfl, by kernel_rfl, by decide +kernel, rfl, by decide +kernel, by decide +kernel⟩
def b_contents_in : DS :=
    (rT (lcR (seqR (callR 1 d_squares_in (consR (nS 0) aN))) [1, 2] (gT (gConsT (gN 1) (gConsT (gN 2) gNilT))) tY (res2 iSub (nS 2) (nS 1))))
def d_contents_in : DF := pureF (fnR 3 b_contents_in)
theorem ok_contents_in (T : TX g) : FnD g "contents_in" 1 2 d_contents_in := by
  exact FnD.pure (T.deff 10 24 (x := "contents_in") (st := s_contents_in) (k := 1) (fb := b_contents_in) rfl rfl sc_contents_in (fun _ _ _ _ _ _ us hl => match us, hl with | [_], _ => rfl)
    (den_sone (den_ret (DenN.toE (den_lc (own := [("row", 1), ("column", 2)]) (den_iseq (den_call (n := 1) (ok_squares_in T) (show 1 ≤ 1 by decide) (by kernel_rfl) (den_acons (den_name (i := 0) (by kernel_rfl)) den_anil (fun _ => rfl)) (fun _ => rfl) (fun _ => rfl))) (by kernel_rfl) (by decide) (den_gtup (den_gcons (den_gname (i := 1) (by kernel_rfl)) (den_gcons (den_gname (i := 2) (by kernel_rfl)) den_gnil (fun _ => rfl)) (fun _ => rfl)) (fun _ => rfl) (fun _ => rfl) (gcons_len (gcons_len gnil_len))) den_tsnil (den_bin o_sub (DenE.b (den_name (i := 2) (by kernel_rfl))) (DenE.b (den_name (i := 1) (by kernel_rfl)))) (fun _ _ => rfl))))))

abbrev s_power_sum_in : Stmt := top 26
theorem sc_power_sum_in : FnScope ["shape", "many", "content"] ["shape", "many"] (defScope s_power_sum_in) := ⟨by kernel_rfl, by kernel_rfl, by kernel_rfl, by decide +kernel, rfl, by decide +kernel, by decide +kernel⟩
def b_power_sum_in : DS :=
    (rT (biR sumsG (consR (lcR (seqR (callR 1 d_contents_in (consR (nS 0) aN))) [2] (gN 2) tY (callR 2 d_power_in (consR (nS 2) (consR (nS 1) aN)))) aN)))
def d_power_sum_in : DF := pureF (fnR 3 b_power_sum_in)
theorem ok_power_sum_in (T : TX g) : FnD g "power_sum_in" 2 3 d_power_sum_in := by
  exact FnD.pure (T.deff 11 25 (x := "power_sum_in") (st := s_power_sum_in) (k := 2) (fb := b_power_sum_in) rfl rfl sc_power_sum_in (fun _ _ _ _ _ _ us hl => match us, hl with | [_, _], _ => rfl)
    (den_sone (den_ret (den_bi c_sums (by kernel_rfl) (T.free 16 rfl) (by kernel_rfl) (den_abcons (DenN.b (den_lc (own := [("content", 2)]) (den_iseq (den_call (n := 1) (ok_contents_in T) (show 2 ≤ 2 by decide) (by kernel_rfl) (den_acons (den_name (i := 0) (by kernel_rfl)) den_anil (fun _ => rfl)) (fun _ => rfl) (fun _ => rfl))) (by kernel_rfl) (by decide) (den_gname (i := 2) (by kernel_rfl)) den_tsnil (den_call (n := 2) (ok_power_in T) (show 1 ≤ 2 by decide) (by kernel_rfl) (den_acons (den_name (i := 2) (by kernel_rfl)) (den_acons (den_name (i := 1) (by kernel_rfl)) den_anil (fun _ => rfl)) (fun _ => rfl)) (fun _ => rfl) (fun _ => rfl)) (fun _ _ => rfl))) den_abnil (fun _ => rfl)) (fun _ => rfl) (fun _ => rfl)))))

abbrev s_power_sum : Stmt := top 27
theorem sc_power_sum : FnScope ["shape", "many"] ["shape", "many"] (defScope s_power_sum) := ⟨by kernel_rfl, by kernel_rfl, by kernel_rfl, by decide +kernel, rfl, by decide +kernel, by decide +kernel⟩
def b_power_sum : DS :=
    (seqS (xS (callR 1 d_require_shape (consR (nS 0) aN)))
    (seqS (xS (callR 3 d_require_within (consR (nS 1) (consR (kD (.int 0)) (consR (kD (.int 40)) aN)))))
    (rT (callR 2 d_power_sum_in (consR (nS 0) (consR (nS 1) aN))))))
def d_power_sum : DF := pureF (fnR 2 b_power_sum)
theorem ok_power_sum (T : TX g) : FnD g "power_sum" 2 6 d_power_sum := by
  obtain ⟨t_MOST_EXPONENT, c_MOST_EXPONENT⟩ := T.int 26 (x := "MOST_EXPONENT") (n := 40) rfl
  exact FnD.pure (T.deff 12 27 (x := "power_sum") (st := s_power_sum) (k := 5) (fb := b_power_sum) rfl rfl sc_power_sum (fun _ _ _ _ _ _ us hl => match us, hl with | [_, _], _ => rfl)
    (den_scons (den_sexpr (DenE.b (den_call (n := 1) (ok_require_shape T) (show 5 ≤ 5 by decide) (by kernel_rfl) (den_acons (den_name (i := 0) (by kernel_rfl)) den_anil (fun _ => rfl)) (fun _ => rfl) (fun _ => rfl))) (fun _ => rfl))
    (den_scons (den_sexpr (DenE.b (den_call (n := 3) (ok_require_within T) (show 4 ≤ 5 by decide) (by kernel_rfl) (den_acons (den_name (i := 1) (by kernel_rfl)) (den_acons den_int (den_acons (den_con (by kernel_rfl) c_MOST_EXPONENT rfl) den_anil (fun _ => rfl)) (fun _ => rfl)) (fun _ => rfl)) (fun _ => rfl) (fun _ => rfl))) (fun _ => rfl))
    (den_sone (den_ret (den_call (n := 2) (ok_power_sum_in T) (show 3 ≤ 5 by decide) (by kernel_rfl) (den_acons (den_name (i := 0) (by kernel_rfl)) (den_acons (den_name (i := 1) (by kernel_rfl)) den_anil (fun _ => rfl)) (fun _ => rfl)) (fun _ => rfl) (fun _ => rfl)))))))

abbrev s_require_lot : Stmt := top 19
theorem sc_require_lot : FnScope ["value"] ["value"] (defScope s_require_lot) := ⟨by kernel_rfl, by kernel_rfl, by kernel_rfl, by decide +kernel, rfl, by decide +kernel, by decide +kernel⟩
def b_require_lot : DS :=
    (iteS (tNotR (truR (callR 1 d_is_lot (consR (nS 0) aN)))) noS nilS)
def d_require_lot : DF := pureF (fnR 1 b_require_lot)
theorem ok_require_lot (T : TX g) : FnD g "require_lot" 1 5 d_require_lot := by
  exact FnD.pure (T.deff 13 28 (x := "require_lot") (st := s_require_lot) (k := 4) (fb := b_require_lot) rfl rfl sc_require_lot (fun _ _ _ _ _ _ us hl => match us, hl with | [_], _ => rfl)
    (den_sone (den_sif (den_tnot (den_tru (DenE.b (den_call (n := 1) (ok_is_lot T) (show 4 ≤ 4 by decide) (by kernel_rfl) (den_acons (den_name (i := 0) (by kernel_rfl)) den_anil (fun _ => rfl)) (fun _ => rfl) (fun _ => rfl))) (fun _ _ => rfl))) (den_sone den_never) den_snil)))

abbrev s_lot_of : Stmt := top 13
theorem sc_lot_of : FnScope ["members", "member"] ["members"] (defScope s_lot_of) := ⟨by kernel_rfl, by kernel_rfl, by kernel_rfl, by decide +kernel, rfl, by decide +kernel, by decide +kernel⟩
def b_lot_of : DS :=
    (rT (biR tupG (consR (sortRR (lcR (seqR (nS 0)) [1] (gN 1) (cmpT iGt (nS 1) (kD (.int 0))) (nS 1))) aN)))
def d_lot_of : DF := pureF (fnR 2 b_lot_of)
theorem ok_lot_of (T : TX g) : FnD g "lot_of" 1 1 d_lot_of := by
  exact FnD.pure (T.deff 14 30 (x := "lot_of") (st := s_lot_of) (k := 0) (fb := b_lot_of) rfl rfl sc_lot_of (fun _ _ _ _ _ _ us hl => match us, hl with | [_], _ => rfl)
    (den_sone (den_ret (den_bt c_tup (by kernel_rfl) (T.free 14 rfl) (by kernel_rfl) (den_abcons (DenN.b (den_sortRev (by kernel_rfl) (T.free 29 rfl) (by kernel_rfl) (DenN.b (den_lc (own := [("member", 1)]) (den_iseq (den_name (i := 0) (by kernel_rfl))) (by kernel_rfl) (by decide) (den_gname (i := 1) (by kernel_rfl)) (den_tsone (den_tcmp o_gt (DenE.b (den_name (i := 1) (by kernel_rfl))) (DenE.b den_int) rfl)) (den_name (i := 1) (by kernel_rfl)) (fun _ _ => rfl))) (fun _ => rfl) (fun _ => rfl) (fun _ => rfl) (fun _ => rfl) (fun _ => rfl) (fun _ => rfl))) den_abnil (fun _ => rfl)) (fun _ => rfl) (fun _ => rfl)))))

abbrev s_less_square : Stmt := top 22
theorem sc_less_square : FnScope ["lot", "found", "row", "member"] ["lot"] (defScope s_less_square) := ⟨by kernel_rfl, by kernel_rfl, by kernel_rfl, by decide +kernel, rfl, by decide +kernel, by decide +kernel⟩
def b_less_square : DS :=
    (seqS (xS (callR 1 d_require_lot (consR (nS 0) aN)))
    (seqS (setN 1 (lstR aN))
    (seqS (forR (enumR (nS 0)) (gT (gConsT (gN 2) (gConsT (gN 3) gNilT))) (iteS (tOrR (cmpT eqD (res2 addD (nS 2) (kD (.int 1))) (biR lenG (consR (nS 0) aN))) (cmpT iLt (res2 atD (nS 0) (res2 addD (nS 2) (kD (.int 1)))) (nS 3))) (appS 1 (callR 1 d_lot_of (consR (lstR (starR (sliceR (nS 0) oN (oS (nS 2))) (consR (res2 iSub (nS 3) (kD (.int 1))) (starR (sliceR (nS 0) (oS (res2 addD (nS 2) (kD (.int 1)))) oN) aN)))) aN))) nilS))
    (rT (biR tupG (consR (biR sortsD (consR (nB 1) aN)) aN))))))
def d_less_square : DF := pureF (fnR 4 b_less_square)
theorem ok_less_square (T : TX g) : FnD g "less_square" 1 6 d_less_square := by
  exact FnD.pure (T.deff 15 31 (x := "less_square") (st := s_less_square) (k := 5) (fb := b_less_square) rfl rfl sc_less_square (fun _ _ _ _ _ _ us hl => match us, hl with | [_], _ => rfl)
    (den_scons (den_sexpr (DenE.b (den_call (n := 1) (ok_require_lot T) (show 5 ≤ 5 by decide) (by kernel_rfl) (den_acons (den_name (i := 0) (by kernel_rfl)) den_anil (fun _ => rfl)) (fun _ => rfl) (fun _ => rfl))) (fun _ => rfl))
    (den_scons (den_setN (i := 1) (by kernel_rfl) (den_lst den_anil) (fun _ => rfl))
    (den_scons (den_for (den_ienum (by kernel_rfl) (T.free 21 rfl) (den_name (i := 0) (by kernel_rfl)) (fun _ => rfl)) (den_gtup (den_gcons (den_gname (i := 2) (by kernel_rfl)) (den_gcons (den_gname (i := 3) (by kernel_rfl)) den_gnil (fun _ => rfl)) (fun _ => rfl)) (fun _ => rfl) (fun _ => rfl) (gcons_len (gcons_len gnil_len))) (den_sone (den_sif (den_tw (den_wor (den_tcmp o_eq (DenE.b (den_bin o_addD (DenE.b (den_name (i := 2) (by kernel_rfl))) (DenE.b den_int))) (DenE.b (den_bi c_len (by kernel_rfl) (T.free 0 rfl) (by kernel_rfl) (den_abcons (DenE.b (den_name (i := 0) (by kernel_rfl))) den_abnil (fun _ => rfl)) (fun _ => rfl) (fun _ => rfl))) rfl) (den_wor1 (den_tcmp o_lt (DenE.b (den_ix (DenE.b (den_name (i := 0) (by kernel_rfl))) (DenE.b (den_bin o_addD (DenE.b (den_name (i := 2) (by kernel_rfl))) (DenE.b den_int))) (fun _ _ => rfl))) (DenE.b (den_name (i := 3) (by kernel_rfl))) rfl)))) (den_sone (den_append (i := 1) (by kernel_rfl) (den_call (n := 1) (ok_lot_of T) (show 1 ≤ 5 by decide) (by kernel_rfl) (den_acons (DenN.toE (den_lst (den_astar (DenE.b (den_slT (DenE.b (den_name (i := 0) (by kernel_rfl))) den_pnone (den_psm (DenE.b (den_name (i := 2) (by kernel_rfl)))))) (den_acons (den_bin o_sub (DenE.b (den_name (i := 3) (by kernel_rfl))) (DenE.b den_int)) (den_astar (DenE.b (den_slT (DenE.b (den_name (i := 0) (by kernel_rfl))) (den_psm (DenE.b (den_bin o_addD (DenE.b (den_name (i := 2) (by kernel_rfl))) (DenE.b den_int)))) den_pnone)) den_anil (fun _ => rfl)) (fun _ => rfl)) (fun _ => rfl)))) den_anil (fun _ => rfl)) (fun _ => rfl) (fun _ => rfl)) rfl (fun _ => rfl))) den_snil)) (fun _ _ => rfl))
    (den_sone (den_ret (den_bt c_tup (by kernel_rfl) (T.free 14 rfl) (by kernel_rfl) (den_abcons (DenN.b (den_biN cn_sortsD (by kernel_rfl) (T.free 29 rfl) (by kernel_rfl) (den_abcons (den_bname (i := 1) (by kernel_rfl)) den_abnil (fun _ => rfl)) (fun _ => rfl) (fun _ => rfl))) den_abnil (fun _ => rfl)) (fun _ => rfl) (fun _ => rfl))))))))

abbrev s__law_lot_of : Stmt := top 33
theorem sc__law_lot_of : FnScope ["_law_members"] ["_law_members"] (defScope s__law_lot_of) := ⟨by kernel_rfl, by kernel_rfl, by kernel_rfl, by decide +kernel, rfl, by decide +kernel, by decide +kernel⟩
def b__law_lot_of : DS :=
    (rT (biR tupG (consR (revR (biR sortsG (consR (nS 0) aN))) aN)))
def d__law_lot_of : DF := pureF (fnR 1 b__law_lot_of)
theorem ok__law_lot_of (T : TX g) : FnD g "_law_lot_of" 1 1 d__law_lot_of := by
  exact FnD.pure (T.deff 16 32 (x := "_law_lot_of") (st := s__law_lot_of) (k := 0) (fb := b__law_lot_of) rfl rfl sc__law_lot_of (fun _ _ _ _ _ _ us hl => match us, hl with | [_], _ => rfl)
    (den_sone (den_ret (den_bt c_tup (by kernel_rfl) (T.free 14 rfl) (by kernel_rfl) (den_abcons (DenN.b (den_rev (DenN.b (den_biN cn_sorts (by kernel_rfl) (T.free 29 rfl) (by kernel_rfl) (den_abcons (DenE.b (den_name (i := 0) (by kernel_rfl))) den_abnil (fun _ => rfl)) (fun _ => rfl) (fun _ => rfl))))) den_abnil (fun _ => rfl)) (fun _ => rfl) (fun _ => rfl)))))

abbrev s__law_pick : Stmt := top 31
theorem sc__law_pick : FnScope ["_law_dice_here", "_law_items"] ["_law_dice_here", "_law_items"] (defScope s__law_pick) := ⟨by kernel_rfl, by kernel_rfl, by kernel_rfl, by decide +kernel, rfl, by decide +kernel, by decide +kernel⟩
def b__law_pick : DS :=
    (rT (res2 atD (nS 1) (callR 2 d__law_roll (consR (nS 0) (consR (biR lenG (consR (nS 1) aN)) aN)))))
def d__law_pick : DF := fnR 2 b__law_pick
theorem ok__law_pick (T : TX g) : FnD g "_law_pick" 2 2 d__law_pick := by
  exact T.deff 17 33 (x := "_law_pick") (st := s__law_pick) (k := 1) (fb := b__law_pick) rfl rfl sc__law_pick (fun _ _ _ _ _ _ us hl => match us, hl with | [_, _], _ => rfl)
    (den_sone (den_ret (den_ix (DenE.b (den_name (i := 1) (by kernel_rfl))) (DenE.b (den_call (n := 2) (ok__law_roll T) (show 1 ≤ 1 by decide) (by kernel_rfl) (den_acons (den_name (i := 0) (by kernel_rfl)) (den_acons (den_bi c_len (by kernel_rfl) (T.free 0 rfl) (by kernel_rfl) (den_abcons (DenE.b (den_name (i := 1) (by kernel_rfl))) den_abnil (fun _ => rfl)) (fun _ => rfl) (fun _ => rfl)) den_anil (fun _ => rfl)) (fun _ => rfl)) (fun _ => rfl) (fun _ => rfl))) (fun _ _ => rfl))))

abbrev s__law_lot_drawn : Stmt := top 35
theorem sc__law_lot_drawn : FnScope ["_law_dice_here", "_law_total", "_law_found", "_law_left", "_law_member"] ["_law_dice_here", "_law_total"] (defScope s__law_lot_drawn) := ⟨by kernel_rfl, by kernel_rfl, by kernel_rfl, by decide +kernel, rfl, by decide +kernel, by decide +kernel⟩
def b__law_lot_drawn : DS :=
    (seqS (par2 2 3 (ownM (lstR aN) (valM (nS 1) mN)))
    (seqS (whileS (cmpT iGt (nS 3) (kD (.int 0))) (seqS (setS 4 (res2 addD (kD (.int 1)) (callR 2 d__law_roll (consR (nS 0) (consR (biR minsG (consR (nS 3) (consR (callR 2 d__law_pick (consR (nS 0) (consR (lstR (consR (kD (.int 1)) (consR (kD (.int 2)) (consR (kD (.int 3)) (consR (kD (.int 8)) aN))))) aN))) aN))) aN)))))
    (seqS (appS 2 (nS 4))
    (setS 3 (res2 iSub (nS 3) (nS 4))))) 64)
    (frS 2 (rT (callR 1 d__law_lot_of (consR (nS 2) aN))))))
def d__law_lot_drawn : DF := fnR 5 b__law_lot_drawn
theorem ok__law_lot_drawn (T : TX g) : FnD g "_law_lot_drawn" 2 3 d__law_lot_drawn := by
  exact T.deff 18 35 (x := "_law_lot_drawn") (st := s__law_lot_drawn) (k := 2) (fb := b__law_lot_drawn) rfl rfl sc__law_lot_drawn (fun _ _ _ _ _ _ us hl => match us, hl with | [_, _], _ => rfl)
    (den_scons (den_par2 (i := 2) (j := 3) (by kernel_rfl) (by kernel_rfl) (by decide) (by kernel_rfl) (by kernel_rfl) (den_mown (den_lst den_anil) (den_mval (den_name (i := 1) (by kernel_rfl)) den_mnil (fun _ => rfl)) (fun _ => rfl)) (hw_of fun _ => by kernel_rfl) (fun _ => rfl))
    (den_scons (den_while 64 (den_tcmp o_gt (DenE.b (den_name (i := 3) (by kernel_rfl))) (DenE.b den_int) rfl) (den_scons (den_set (i := 4) (by kernel_rfl) (den_bin o_addD (DenE.b den_int) (DenE.b (den_call (n := 2) (ok__law_roll T) (show 1 ≤ 2 by decide) (by kernel_rfl) (den_acons (den_name (i := 0) (by kernel_rfl)) (den_acons (den_bi c_mins (by kernel_rfl) (T.free 34 rfl) (by kernel_rfl) (den_abcons (DenE.b (den_name (i := 3) (by kernel_rfl))) (den_abcons (DenE.b (den_call (n := 2) (ok__law_pick T) (show 2 ≤ 2 by decide) (by kernel_rfl) (den_acons (den_name (i := 0) (by kernel_rfl)) (den_acons (DenN.toE (den_lst (den_acons den_int (den_acons den_int (den_acons den_int (den_acons den_int den_anil (fun _ => rfl)) (fun _ => rfl)) (fun _ => rfl)) (fun _ => rfl)))) den_anil (fun _ => rfl)) (fun _ => rfl)) (fun _ => rfl) (fun _ => rfl))) den_abnil (fun _ => rfl)) (fun _ => rfl)) (fun _ => rfl) (fun _ => rfl)) den_anil (fun _ => rfl)) (fun _ => rfl)) (fun _ => rfl) (fun _ => rfl)))) (fun _ => rfl))
    (den_scons (den_append (i := 2) (by kernel_rfl) (den_name (i := 4) (by kernel_rfl)) rfl (fun _ => rfl))
    (den_sone (den_set (i := 3) (by kernel_rfl) (den_bin o_sub (DenE.b (den_name (i := 3) (by kernel_rfl))) (DenE.b (den_name (i := 4) (by kernel_rfl)))) (fun _ => rfl))))))
    (den_sone (den_frz 2 (den_ret (den_call (n := 1) (ok__law_lot_of T) (show 1 ≤ 2 by decide) (by kernel_rfl) (den_acons (den_name (i := 2) (by kernel_rfl)) den_anil (fun _ => rfl)) (fun _ => rfl) (fun _ => rfl)))))))

abbrev s_conjugate_in : Stmt := top 14
theorem sc_conjugate_in : FnScope ["lot", "width", "column", "member"] ["lot"] (defScope s_conjugate_in) := ⟨by kernel_rfl, by kernel_rfl, by kernel_rfl, by decide +kernel, rfl, by decide +kernel, by decide +kernel⟩
def b_conjugate_in : DS :=
    (seqS (setS 1 (ifR (cmpT neD (nS 0) (tupR aN)) (res2 atD (nS 0) (kD (.int 0))) (kD (.int 0))))
    (rT (biR tupG (consR (lcR (rngR1 (nS 1)) [2] (gN 2) tY (biR lenG (consR (lcR (seqR (nS 0)) [3] (gN 3) (cmpT iGt (nS 3) (nS 2)) (nS 3)) aN))) aN))))
def d_conjugate_in : DF := pureF (fnR 4 b_conjugate_in)
theorem ok_conjugate_in (T : TX g) : FnD g "conjugate_in" 1 1 d_conjugate_in := by
  exact FnD.pure (T.deff 19 36 (x := "conjugate_in") (st := s_conjugate_in) (k := 0) (fb := b_conjugate_in) rfl rfl sc_conjugate_in (fun _ _ _ _ _ _ us hl => match us, hl with | [_], _ => rfl)
    (den_scons (den_set (i := 1) (by kernel_rfl) (den_if (den_tcmp o_ne (DenE.b (den_name (i := 0) (by kernel_rfl))) (DenE.b (den_tup den_anil)) rfl) (den_ix (DenE.b (den_name (i := 0) (by kernel_rfl))) (DenE.b den_int) (fun _ _ => rfl)) den_int) (fun _ => rfl))
    (den_sone (den_ret (den_bt c_tup (by kernel_rfl) (T.free 14 rfl) (by kernel_rfl) (den_abcons (DenN.b (den_lc (own := [("column", 2)]) (den_irng1 (by kernel_rfl) (T.free 22 rfl) (DenE.b (den_name (i := 1) (by kernel_rfl))) (fun _ => rfl)) (by kernel_rfl) (by decide) (den_gname (i := 2) (by kernel_rfl)) den_tsnil (den_bi c_len (by kernel_rfl) (T.free 0 rfl) (by kernel_rfl) (den_abcons (DenN.b (den_lc (own := [("member", 3)]) (den_iseq (den_name (i := 0) (by kernel_rfl))) (by kernel_rfl) (by decide) (den_gname (i := 3) (by kernel_rfl)) (den_tsone (den_tcmp o_gt (DenE.b (den_name (i := 3) (by kernel_rfl))) (DenE.b (den_name (i := 2) (by kernel_rfl))) rfl)) (den_name (i := 3) (by kernel_rfl)) (fun _ _ => rfl))) den_abnil (fun _ => rfl)) (fun _ => rfl) (fun _ => rfl)) (fun _ _ => rfl))) den_abnil (fun _ => rfl)) (fun _ => rfl) (fun _ => rfl))))))

abbrev s_conjugate : Stmt := top 20
theorem sc_conjugate : FnScope ["lot"] ["lot"] (defScope s_conjugate) := ⟨by kernel_rfl, by kernel_rfl, by kernel_rfl, by decide +kernel, rfl, by decide +kernel, by decide +kernel⟩
def b_conjugate : DS :=
    (seqS (xS (callR 1 d_require_lot (consR (nS 0) aN)))
    (rT (callR 1 d_conjugate_in (consR (nS 0) aN))))
def d_conjugate : DF := pureF (fnR 1 b_conjugate)
theorem ok_conjugate (T : TX g) : FnD g "conjugate" 1 6 d_conjugate := by
  exact FnD.pure (T.deff 20 37 (x := "conjugate") (st := s_conjugate) (k := 5) (fb := b_conjugate) rfl rfl sc_conjugate (fun _ _ _ _ _ _ us hl => match us, hl with | [_], _ => rfl)
    (den_scons (den_sexpr (DenE.b (den_call (n := 1) (ok_require_lot T) (show 5 ≤ 5 by decide) (by kernel_rfl) (den_acons (den_name (i := 0) (by kernel_rfl)) den_anil (fun _ => rfl)) (fun _ => rfl) (fun _ => rfl))) (fun _ => rfl))
    (den_sone (den_ret (den_call (n := 1) (ok_conjugate_in T) (show 1 ≤ 5 by decide) (by kernel_rfl) (den_acons (den_name (i := 0) (by kernel_rfl)) den_anil (fun _ => rfl)) (fun _ => rfl) (fun _ => rfl))))))

abbrev s__law_sm_power : Stmt := top 36
theorem sc__law_sm_power : FnScope ["_law_number", "_law_exponent", "_law_found", "_law_turn"] ["_law_number", "_law_exponent"] (defScope s__law_sm_power) := ⟨by kernel_rfl, by kernel_rfl, by kernel_rfl, by decide +kernel, rfl, by decide +kernel, by decide +kernel⟩
def b__law_sm_power : DS :=
    (seqS (setS 2 (kD (.int 1)))
    (seqS (forR (rngR1 (nS 1)) (gN 3) (setS 2 (res2 mulD (nS 2) (nS 0))))
    (rT (nS 2))))
def d__law_sm_power : DF := pureF (fnR 4 b__law_sm_power)
theorem ok__law_sm_power (T : TX g) : FnD g "_law_sm_power" 2 1 d__law_sm_power := by
  exact FnD.pure (T.deff 21 38 (x := "_law_sm_power") (st := s__law_sm_power) (k := 0) (fb := b__law_sm_power) rfl rfl sc__law_sm_power (fun _ _ _ _ _ _ us hl => match us, hl with | [_, _], _ => rfl)
    (den_scons (den_set (i := 2) (by kernel_rfl) den_int (fun _ => rfl))
    (den_scons (den_for (den_irng1 (by kernel_rfl) (T.free 22 rfl) (DenE.b (den_name (i := 1) (by kernel_rfl))) (fun _ => rfl)) (den_gname (i := 3) (by kernel_rfl)) (den_sone (den_set (i := 2) (by kernel_rfl) (den_bin o_mulD (DenE.b (den_name (i := 2) (by kernel_rfl))) (DenE.b (den_name (i := 0) (by kernel_rfl)))) (fun _ => rfl))) (fun _ _ => rfl))
    (den_sone (den_ret (den_name (i := 2) (by kernel_rfl)))))))

abbrev s__law_contents : Stmt := top 34
theorem sc__law_contents : FnScope ["_law_shape", "_law_found", "_law_row", "_law_width", "_law_column"] ["_law_shape"] (defScope s__law_contents) := ⟨by kernel_rfl, by kernel_rfl, by kernel_rfl, by decide +kernel, rfl, by decide +kernel, by decide +kernel⟩
def b__law_contents : DS :=
    (seqS (setN 1 (lstR aN))
    (seqS (forR (enumR (nS 0)) (gT (gConsT (gN 2) (gConsT (gN 3) gNilT))) (extS 1 (lcR (rngR1 (nS 3)) [4] (gN 4) tY (res2 iSub (nS 4) (nS 2)))))
    (frS 1 (rT (nS 1)))))
def d__law_contents : DF := pureF (fnR 5 b__law_contents)
theorem ok__law_contents (T : TX g) : FnD g "_law_contents" 1 1 d__law_contents := by
  exact FnD.pure (T.deff 22 39 (x := "_law_contents") (st := s__law_contents) (k := 0) (fb := b__law_contents) rfl rfl sc__law_contents (fun _ _ _ _ _ _ us hl => match us, hl with | [_], _ => rfl)
    (den_scons (den_setN (i := 1) (by kernel_rfl) (den_lst den_anil) (fun _ => rfl))
    (den_scons (den_for (den_ienum (by kernel_rfl) (T.free 21 rfl) (den_name (i := 0) (by kernel_rfl)) (fun _ => rfl)) (den_gtup (den_gcons (den_gname (i := 2) (by kernel_rfl)) (den_gcons (den_gname (i := 3) (by kernel_rfl)) den_gnil (fun _ => rfl)) (fun _ => rfl)) (fun _ => rfl) (fun _ => rfl) (gcons_len (gcons_len gnil_len))) (den_sone (den_extend (i := 1) (by kernel_rfl) (DenN.b (den_lc (own := [("_law_column", 4)]) (den_irng1 (by kernel_rfl) (T.free 22 rfl) (DenE.b (den_name (i := 3) (by kernel_rfl))) (fun _ => rfl)) (by kernel_rfl) (by decide) (den_gname (i := 4) (by kernel_rfl)) den_tsnil (den_bin o_sub (DenE.b (den_name (i := 4) (by kernel_rfl))) (DenE.b (den_name (i := 2) (by kernel_rfl)))) (fun _ _ => rfl))) rfl (fun _ => rfl))) (fun _ _ => rfl))
    (den_sone (den_frz 1 (den_ret (den_name (i := 1) (by kernel_rfl))))))))

abbrev s__law_power_sum : Stmt := top 37
theorem sc__law_power_sum : FnScope ["_law_shape", "_law_exponent", "_law_content"] ["_law_shape", "_law_exponent"] (defScope s__law_power_sum) := ⟨by kernel_rfl, by kernel_rfl, by kernel_rfl, by decide +kernel, rfl, by decide +kernel, by decide +kernel⟩
def b__law_power_sum : DS :=
    (rT (biR sumsG (consR (lcR (seqR (callR 1 d__law_contents (consR (nS 0) aN))) [2] (gN 2) tY (callR 2 d__law_sm_power (consR (nS 2) (consR (nS 1) aN)))) aN)))
def d__law_power_sum : DF := pureF (fnR 3 b__law_power_sum)
theorem ok__law_power_sum (T : TX g) : FnD g "_law_power_sum" 2 2 d__law_power_sum := by
  exact FnD.pure (T.deff 23 40 (x := "_law_power_sum") (st := s__law_power_sum) (k := 1) (fb := b__law_power_sum) rfl rfl sc__law_power_sum (fun _ _ _ _ _ _ us hl => match us, hl with | [_, _], _ => rfl)
    (den_sone (den_ret (den_bi c_sums (by kernel_rfl) (T.free 16 rfl) (by kernel_rfl) (den_abcons (DenN.b (den_lc (own := [("_law_content", 2)]) (den_iseq (den_call (n := 1) (ok__law_contents T) (show 1 ≤ 1 by decide) (by kernel_rfl) (den_acons (den_name (i := 0) (by kernel_rfl)) den_anil (fun _ => rfl)) (fun _ => rfl) (fun _ => rfl))) (by kernel_rfl) (by decide) (den_gname (i := 2) (by kernel_rfl)) den_tsnil (den_call (n := 2) (ok__law_sm_power T) (show 1 ≤ 1 by decide) (by kernel_rfl) (den_acons (den_name (i := 2) (by kernel_rfl)) (den_acons (den_name (i := 1) (by kernel_rfl)) den_anil (fun _ => rfl)) (fun _ => rfl)) (fun _ => rfl) (fun _ => rfl)) (fun _ _ => rfl))) den_abnil (fun _ => rfl)) (fun _ => rfl) (fun _ => rfl)))))

abbrev s_content_sum_in : Stmt := top 17
theorem sc_content_sum_in : FnScope ["lot"] ["lot"] (defScope s_content_sum_in) := ⟨by kernel_rfl, by kernel_rfl, by kernel_rfl, by decide +kernel, rfl, by decide +kernel, by decide +kernel⟩
def b_content_sum_in : DS :=
    (rT (biR sumsG (consR (callR 1 d_contents_in (consR (nS 0) aN)) aN)))
def d_content_sum_in : DF := pureF (fnR 1 b_content_sum_in)
theorem ok_content_sum_in (T : TX g) : FnD g "content_sum_in" 1 3 d_content_sum_in := by
  exact FnD.pure (T.deff 24 41 (x := "content_sum_in") (st := s_content_sum_in) (k := 2) (fb := b_content_sum_in) rfl rfl sc_content_sum_in (fun _ _ _ _ _ _ us hl => match us, hl with | [_], _ => rfl)
    (den_sone (den_ret (den_bi c_sums (by kernel_rfl) (T.free 16 rfl) (by kernel_rfl) (den_abcons (DenE.b (den_call (n := 1) (ok_contents_in T) (show 2 ≤ 2 by decide) (by kernel_rfl) (den_acons (den_name (i := 0) (by kernel_rfl)) den_anil (fun _ => rfl)) (fun _ => rfl) (fun _ => rfl))) den_abnil (fun _ => rfl)) (fun _ => rfl) (fun _ => rfl)))))

abbrev s_content_sum : Stmt := top 21
theorem sc_content_sum : FnScope ["lot"] ["lot"] (defScope s_content_sum) := ⟨by kernel_rfl, by kernel_rfl, by kernel_rfl, by decide +kernel, rfl, by decide +kernel, by decide +kernel⟩
def b_content_sum : DS :=
    (seqS (xS (callR 1 d_require_lot (consR (nS 0) aN)))
    (rT (callR 1 d_content_sum_in (consR (nS 0) aN))))
def d_content_sum : DF := pureF (fnR 1 b_content_sum)
theorem ok_content_sum (T : TX g) : FnD g "content_sum" 1 6 d_content_sum := by
  exact FnD.pure (T.deff 25 42 (x := "content_sum") (st := s_content_sum) (k := 5) (fb := b_content_sum) rfl rfl sc_content_sum (fun _ _ _ _ _ _ us hl => match us, hl with | [_], _ => rfl)
    (den_scons (den_sexpr (DenE.b (den_call (n := 1) (ok_require_lot T) (show 5 ≤ 5 by decide) (by kernel_rfl) (den_acons (den_name (i := 0) (by kernel_rfl)) den_anil (fun _ => rfl)) (fun _ => rfl) (fun _ => rfl))) (fun _ => rfl))
    (den_sone (den_ret (den_call (n := 1) (ok_content_sum_in T) (show 3 ≤ 5 by decide) (by kernel_rfl) (den_acons (den_name (i := 0) (by kernel_rfl)) den_anil (fun _ => rfl)) (fun _ => rfl) (fun _ => rfl))))))

abbrev s__law_right : Stmt := top 38
theorem sc__law_right : FnScope ["_law_dice_here", "_law_shape", "_law_exponent", "_law_told", "_law_turned", "_law_rest", "_law_row", "_law_at"] ["_law_dice_here"] (defScope s__law_right) := ⟨by kernel_rfl, by kernel_rfl, by kernel_rfl, by decide +kernel, rfl, by decide +kernel, by decide +kernel⟩
def t__law_right_0 : DS :=
    (asgS (gT (gConsT (gN 1) (gConsT (gN 2) gNilT))) (tupR (consR (callR 2 d__law_lot_drawn (consR (nS 0) (consR (callR 2 d__law_roll (consR (nS 0) (consR (kD (.int 25)) aN))) aN))) (consR (callR 2 d__law_pick (consR (nS 0) (consR (lstR (consR (kD (.int 0)) (consR (kD (.int 1)) (consR (kD (.int 2)) (consR (kD (.int 3)) (consR (kD (.int 4)) (consR (kD (.int 5)) (consR (kD (.int 11)) (consR (kD (.int 40)) aN))))))))) aN))) aN))))
def t__law_right_1 : DS :=
    (par2 3 4 (valM (callR 2 d_power_sum (consR (nS 1) (consR (nS 2) aN))) (valM (callR 1 d_conjugate (consR (nS 1) aN)) mN)))
def t__law_right_2 : DS :=
    (iteS (tOrR (cmpT neD (nS 3) (callR 2 d__law_power_sum (consR (nS 1) (consR (nS 2) aN)))) (cmpT neD (callR 2 d_power_sum (consR (nS 1) (consR (kD (.int 0)) aN))) (biR sumsG (consR (nS 1) aN)))) (rT (kD (.bl false))) nilS)
def t__law_right_3 : DS :=
    (iteS (tOrR (cmpT neD (callR 2 d_power_sum (consR (nS 4) (consR (nS 2) aN))) (res2 mulD (nS 3) (res2 iSub (kD (.int 1)) (res2 mulD (kD (.int 2)) (res2 iMod (nS 2) (kD (.int 2))))))) (cmpT neD (callR 2 d_power_sum (consR (nS 1) (consR (kD (.int 1)) aN))) (callR 1 d_content_sum (consR (nS 1) aN)))) (rT (kD (.bl false))) nilS)
def t__law_right_4 : DS :=
    (forR (seqR (callR 1 d_less_square (consR (nS 1) aN))) (gN 5) (seqS (setS 6 (res2 atD (lcR (rngR1 (biR lenG (consR (nS 1) aN))) [7] (gN 7) (tOrR (cmpT iGe (nS 7) (biR lenG (consR (nS 5) aN))) (cmpT iLt (res2 atD (nS 5) (nS 7)) (res2 atD (nS 1) (nS 7)))) (nS 7)) (kD (.int 0))))
    (iteS (cmpT neD (res2 iSub (nS 3) (callR 2 d_power_sum (consR (nS 5) (consR (nS 2) aN)))) (callR 2 d__law_sm_power (consR (res2 iSub (res2 iSub (res2 atD (nS 1) (nS 6)) (kD (.int 1))) (nS 6)) (consR (nS 2) aN)))) (rT (kD (.bl false))) nilS)))
def t__law_right_5 : DS :=
    (rT (kD (.bl true)))
def b__law_right : DS :=
    (seqS t__law_right_0
    (seqS t__law_right_1
    (seqS t__law_right_2
    (seqS t__law_right_3
    (seqS t__law_right_4
    t__law_right_5)))))
def d__law_right : DF := fnR 8 b__law_right
theorem ok__law_right (T : TX g) : FnD g "_law_right" 1 7 d__law_right := by
  exact T.deff 26 43 (x := "_law_right") (st := s__law_right) (k := 6) (fb := b__law_right) rfl rfl sc__law_right (fun _ _ _ _ _ _ us hl => match us, hl with | [_], _ => rfl)
    (den_scons (den_asg (den_gtup (den_gcons (den_gname (i := 1) (by kernel_rfl)) (den_gcons (den_gname (i := 2) (by kernel_rfl)) den_gnil (fun _ => rfl)) (fun _ => rfl)) (fun _ => rfl) (fun _ => rfl) (gcons_len (gcons_len gnil_len))) (den_tup (den_acons (den_call (n := 2) (ok__law_lot_drawn T) (show 3 ≤ 6 by decide) (by kernel_rfl) (den_acons (den_name (i := 0) (by kernel_rfl)) (den_acons (den_call (n := 2) (ok__law_roll T) (show 1 ≤ 6 by decide) (by kernel_rfl) (den_acons (den_name (i := 0) (by kernel_rfl)) (den_acons den_int den_anil (fun _ => rfl)) (fun _ => rfl)) (fun _ => rfl) (fun _ => rfl)) den_anil (fun _ => rfl)) (fun _ => rfl)) (fun _ => rfl) (fun _ => rfl)) (den_acons (den_call (n := 2) (ok__law_pick T) (show 2 ≤ 6 by decide) (by kernel_rfl) (den_acons (den_name (i := 0) (by kernel_rfl)) (den_acons (DenN.toE (den_lst (den_acons den_int (den_acons den_int (den_acons den_int (den_acons den_int (den_acons den_int (den_acons den_int (den_acons den_int (den_acons den_int den_anil (fun _ => rfl)) (fun _ => rfl)) (fun _ => rfl)) (fun _ => rfl)) (fun _ => rfl)) (fun _ => rfl)) (fun _ => rfl)) (fun _ => rfl)))) den_anil (fun _ => rfl)) (fun _ => rfl)) (fun _ => rfl) (fun _ => rfl)) den_anil (fun _ => rfl)) (fun _ => rfl))) (fun _ => rfl) (hw_of fun _ => by kernel_rfl) (fun _ => rfl))
    (den_scons (den_par2 (i := 3) (j := 4) (by kernel_rfl) (by kernel_rfl) (by decide) (by kernel_rfl) (by kernel_rfl) (den_mval (den_call (n := 2) (ok_power_sum T) (show 6 ≤ 6 by decide) (by kernel_rfl) (den_acons (den_name (i := 1) (by kernel_rfl)) (den_acons (den_name (i := 2) (by kernel_rfl)) den_anil (fun _ => rfl)) (fun _ => rfl)) (fun _ => rfl) (fun _ => rfl)) (den_mval (den_call (n := 1) (ok_conjugate T) (show 6 ≤ 6 by decide) (by kernel_rfl) (den_acons (den_name (i := 1) (by kernel_rfl)) den_anil (fun _ => rfl)) (fun _ => rfl) (fun _ => rfl)) den_mnil (fun _ => rfl)) (fun _ => rfl)) (hw_of fun _ => by kernel_rfl) (fun _ => rfl))
    (den_scons (den_sif (den_tw (den_wor (den_tcmp o_ne (DenE.b (den_name (i := 3) (by kernel_rfl))) (DenE.b (den_call (n := 2) (ok__law_power_sum T) (show 2 ≤ 6 by decide) (by kernel_rfl) (den_acons (den_name (i := 1) (by kernel_rfl)) (den_acons (den_name (i := 2) (by kernel_rfl)) den_anil (fun _ => rfl)) (fun _ => rfl)) (fun _ => rfl) (fun _ => rfl))) rfl) (den_wor1 (den_tcmp o_ne (DenE.b (den_call (n := 2) (ok_power_sum T) (show 6 ≤ 6 by decide) (by kernel_rfl) (den_acons (den_name (i := 1) (by kernel_rfl)) (den_acons den_int den_anil (fun _ => rfl)) (fun _ => rfl)) (fun _ => rfl) (fun _ => rfl))) (DenE.b (den_bi c_sums (by kernel_rfl) (T.free 16 rfl) (by kernel_rfl) (den_abcons (DenE.b (den_name (i := 1) (by kernel_rfl))) den_abnil (fun _ => rfl)) (fun _ => rfl) (fun _ => rfl))) rfl)))) (den_sone (den_ret den_bl)) den_snil)
    (den_scons (den_sif (den_tw (den_wor (den_tcmp o_ne (DenE.b (den_call (n := 2) (ok_power_sum T) (show 6 ≤ 6 by decide) (by kernel_rfl) (den_acons (den_name (i := 4) (by kernel_rfl)) (den_acons (den_name (i := 2) (by kernel_rfl)) den_anil (fun _ => rfl)) (fun _ => rfl)) (fun _ => rfl) (fun _ => rfl))) (DenE.b (den_bin o_mulD (DenE.b (den_name (i := 3) (by kernel_rfl))) (DenE.b (den_bin o_sub (DenE.b den_int) (DenE.b (den_bin o_mulD (DenE.b den_int) (DenE.b (den_bin o_mod (DenE.b (den_name (i := 2) (by kernel_rfl))) (DenE.b den_int))))))))) rfl) (den_wor1 (den_tcmp o_ne (DenE.b (den_call (n := 2) (ok_power_sum T) (show 6 ≤ 6 by decide) (by kernel_rfl) (den_acons (den_name (i := 1) (by kernel_rfl)) (den_acons den_int den_anil (fun _ => rfl)) (fun _ => rfl)) (fun _ => rfl) (fun _ => rfl))) (DenE.b (den_call (n := 1) (ok_content_sum T) (show 6 ≤ 6 by decide) (by kernel_rfl) (den_acons (den_name (i := 1) (by kernel_rfl)) den_anil (fun _ => rfl)) (fun _ => rfl) (fun _ => rfl))) rfl)))) (den_sone (den_ret den_bl)) den_snil)
    (den_scons (den_for (den_iseq (den_call (n := 1) (ok_less_square T) (show 6 ≤ 6 by decide) (by kernel_rfl) (den_acons (den_name (i := 1) (by kernel_rfl)) den_anil (fun _ => rfl)) (fun _ => rfl) (fun _ => rfl))) (den_gname (i := 5) (by kernel_rfl)) (den_scons (den_set (i := 6) (by kernel_rfl) (den_ix (DenN.b (den_lc (own := [("_law_at", 7)]) (den_irng1 (by kernel_rfl) (T.free 22 rfl) (DenE.b (den_bi c_len (by kernel_rfl) (T.free 0 rfl) (by kernel_rfl) (den_abcons (DenE.b (den_name (i := 1) (by kernel_rfl))) den_abnil (fun _ => rfl)) (fun _ => rfl) (fun _ => rfl))) (fun _ => rfl)) (by kernel_rfl) (by decide) (den_gname (i := 7) (by kernel_rfl)) (den_tsone (den_tw (den_wor (den_tcmp o_ge (DenE.b (den_name (i := 7) (by kernel_rfl))) (DenE.b (den_bi c_len (by kernel_rfl) (T.free 0 rfl) (by kernel_rfl) (den_abcons (DenE.b (den_name (i := 5) (by kernel_rfl))) den_abnil (fun _ => rfl)) (fun _ => rfl) (fun _ => rfl))) rfl) (den_wor1 (den_tcmp o_lt (DenE.b (den_ix (DenE.b (den_name (i := 5) (by kernel_rfl))) (DenE.b (den_name (i := 7) (by kernel_rfl))) (fun _ _ => rfl))) (DenE.b (den_ix (DenE.b (den_name (i := 1) (by kernel_rfl))) (DenE.b (den_name (i := 7) (by kernel_rfl))) (fun _ _ => rfl))) rfl))))) (den_name (i := 7) (by kernel_rfl)) (fun _ _ => rfl))) (DenE.b den_int) (fun _ _ => rfl)) (fun _ => rfl))
    (den_sone (den_sif (den_tcmp o_ne (DenE.b (den_bin o_sub (DenE.b (den_name (i := 3) (by kernel_rfl))) (DenE.b (den_call (n := 2) (ok_power_sum T) (show 6 ≤ 6 by decide) (by kernel_rfl) (den_acons (den_name (i := 5) (by kernel_rfl)) (den_acons (den_name (i := 2) (by kernel_rfl)) den_anil (fun _ => rfl)) (fun _ => rfl)) (fun _ => rfl) (fun _ => rfl))))) (DenE.b (den_call (n := 2) (ok__law_sm_power T) (show 1 ≤ 6 by decide) (by kernel_rfl) (den_acons (den_bin o_sub (DenE.b (den_bin o_sub (DenE.b (den_ix (DenE.b (den_name (i := 1) (by kernel_rfl))) (DenE.b (den_name (i := 6) (by kernel_rfl))) (fun _ _ => rfl))) (DenE.b den_int))) (DenE.b (den_name (i := 6) (by kernel_rfl)))) (den_acons (den_name (i := 2) (by kernel_rfl)) den_anil (fun _ => rfl)) (fun _ => rfl)) (fun _ => rfl) (fun _ => rfl))) rfl) (den_sone (den_ret den_bl)) den_snil))) (fun _ _ => rfl))
    (den_sone (den_ret den_bl)))))))

abbrev s__law_lots : Stmt := top 32
theorem sc__law_lots : FnScope ["_law_total", "_law_found", "_law_whole", "_law_here", "_law_first", "_law_rest"] ["_law_total"] (defScope s__law_lots) := ⟨by kernel_rfl, by kernel_rfl, by kernel_rfl, by decide +kernel, rfl, by decide +kernel, by decide +kernel⟩
def b__law_lots : DS :=
    (seqS (setN 1 (lstR (consR (lstR (consR (tupR aN) aN)) aN)))
    (seqS (forR (rngR2 (kD (.int 1)) (res2 addD (nS 0) (kD (.int 1)))) (gN 2) (seqS (setN 3 (lstR aN))
    (seqS (forR (rngR2 (kD (.int 1)) (res2 addD (nS 2) (kD (.int 1)))) (gN 4) (extS 3 (lcR (seqR (res2 atD (nB 1) (res2 iSub (nS 2) (nS 4)))) [5] (gN 5) (tOrR (cmpT eqD (nS 5) (tupR aN)) (cmpT iLe (res2 atD (nS 5) (kD (.int 0))) (nS 4))) (res2 addD (tupR (consR (nS 4) aN)) (nS 5)))))
    (frS 3 (appS 1 (nS 3))))))
    (rT (res2 atD (nB 1) (nS 0)))))
def d__law_lots : DF := pureF (fnR 6 b__law_lots)
theorem ok__law_lots (T : TX g) : FnD g "_law_lots" 1 1 d__law_lots := by
  exact FnD.pure (T.deff 27 44 (x := "_law_lots") (st := s__law_lots) (k := 0) (fb := b__law_lots) rfl rfl sc__law_lots (fun _ _ _ _ _ _ us hl => match us, hl with | [_], _ => rfl)
    (den_scons (den_setN (i := 1) (by kernel_rfl) (den_lst (den_acons (DenN.toE (den_lst (den_acons (den_tup den_anil) den_anil (fun _ => rfl)))) den_anil (fun _ => rfl))) (fun _ => rfl))
    (den_scons (den_for (den_irng2 (by kernel_rfl) (T.free 22 rfl) (DenE.b den_int) (DenE.b (den_bin o_addD (DenE.b (den_name (i := 0) (by kernel_rfl))) (DenE.b den_int))) (fun _ => rfl) (fun _ => rfl)) (den_gname (i := 2) (by kernel_rfl)) (den_scons (den_setN (i := 3) (by kernel_rfl) (den_lst den_anil) (fun _ => rfl))
    (den_scons (den_for (den_irng2 (by kernel_rfl) (T.free 22 rfl) (DenE.b den_int) (DenE.b (den_bin o_addD (DenE.b (den_name (i := 2) (by kernel_rfl))) (DenE.b den_int))) (fun _ => rfl) (fun _ => rfl)) (den_gname (i := 4) (by kernel_rfl)) (den_sone (den_extend (i := 3) (by kernel_rfl) (DenN.b (den_lc (own := [("_law_rest", 5)]) (den_iseq (den_ix (den_bname (i := 1) (by kernel_rfl)) (DenE.b (den_bin o_sub (DenE.b (den_name (i := 2) (by kernel_rfl))) (DenE.b (den_name (i := 4) (by kernel_rfl))))) (fun _ _ => rfl))) (by kernel_rfl) (by decide) (den_gname (i := 5) (by kernel_rfl)) (den_tsone (den_tw (den_wor (den_tcmp o_eq (DenE.b (den_name (i := 5) (by kernel_rfl))) (DenE.b (den_tup den_anil)) rfl) (den_wor1 (den_tcmp o_le (DenE.b (den_ix (DenE.b (den_name (i := 5) (by kernel_rfl))) (DenE.b den_int) (fun _ _ => rfl))) (DenE.b (den_name (i := 4) (by kernel_rfl))) rfl))))) (den_bin o_addD (DenE.b (den_tup (den_acons (den_name (i := 4) (by kernel_rfl)) den_anil (fun _ => rfl)))) (DenE.b (den_name (i := 5) (by kernel_rfl)))) (fun _ _ => rfl))) rfl (fun _ => rfl))) (fun _ _ => rfl))
    (den_sone (den_frz 3 (den_append (i := 1) (by kernel_rfl) (den_name (i := 3) (by kernel_rfl)) rfl (fun _ => rfl)))))) (fun _ _ => rfl))
    (den_sone (den_ret (den_ix (den_bname (i := 1) (by kernel_rfl)) (DenE.b (den_name (i := 0) (by kernel_rfl))) (fun _ _ => rfl)))))))

abbrev s_law : Stmt := top 39
theorem sc_law : FnScope ["_law_script", "_law_spot", "_law_dice_here", "_law_total", "_law_exponent", "_law_shape"] ["_law_script"] (defScope s_law) := ⟨by kernel_rfl, by kernel_rfl, by kernel_rfl, by decide +kernel, rfl, by decide +kernel, by decide +kernel⟩
def t_law_0 : DS :=
    (forR (rngR1 (biR maxsG (consR (kD (.int 1)) (consR (biR minsG (consR (kD (.int 5)) (consR (biR lenG (consR (nS 0) aN)) aN))) aN)))) (gN 1) (seqS (setS 2 (callR 2 d__law_dice (consR (nS 0) (consR (nS 1) aN))))
    (seqS (iteS (tOrR (tNotR (truR (callR 1 d__law_right (consR (nS 2) aN)))) (tNotR (truR (callR 1 d__law_right (consR (nS 2) aN))))) (rT (kD (.bl false))) nilS)
    (seqS (asgS (gT (gConsT (gN 3) (gConsT (gN 4) gNilT))) (tupR (consR (callR 2 d__law_roll (consR (nS 2) (consR (kD (.int 7)) aN))) (consR (res2 addD (kD (.int 1)) (callR 2 d__law_roll (consR (nS 2) (consR (kD (.int 3)) aN)))) aN))))
    (iteS (cmpT neD (lcR (seqR (callR 1 d__law_lots (consR (nS 3) aN))) [5] (gN 5) (cmpT neD (callR 2 d_power_sum (consR (nS 5) (consR (nS 4) aN))) (callR 2 d__law_power_sum (consR (nS 5) (consR (nS 4) aN)))) (nS 5)) (lstR aN)) (rT (kD (.bl false))) nilS)))))
def t_law_1 : DS :=
    (rT (res2 eqD (lstR (consR (callR 2 d_power_sum (consR (tupR (consR (kD (.int 3)) (consR (kD (.int 1)) aN))) (consR (kD (.int 1)) aN))) (consR (callR 2 d_power_sum (consR (tupR (consR (kD (.int 3)) (consR (kD (.int 1)) aN))) (consR (kD (.int 2)) aN))) (consR (callR 2 d_power_sum (consR (tupR (consR (kD (.int 2)) (consR (kD (.int 2)) aN))) (consR (kD (.int 3)) aN))) (consR (callR 2 d_power_sum (consR (tupR aN) (consR (kD (.int 0)) aN))) aN))))) (lstR (consR (kD (.int 2)) (consR (kD (.int 6)) (consR (kD (.int 0)) (consR (kD (.int 0)) aN)))))))
def b_law : DS :=
    (seqS t_law_0
    t_law_1)
def d_law : DF := fnR 6 b_law
theorem body_law (T : TX g) : DenSs ⟨g, 7, ["_law_script", "_law_spot", "_law_dice_here", "_law_total", "_law_exponent", "_law_shape"], defScope s_law, fun _ => true⟩ (defBody s_law) b_law := by
  exact (den_scons (den_for (den_irng1 (by kernel_rfl) (T.free 22 rfl) (DenE.b (den_bi c_maxs (by kernel_rfl) (T.free 3 rfl) (by kernel_rfl) (den_abcons (DenE.b den_int) (den_abcons (DenE.b (den_bi c_mins (by kernel_rfl) (T.free 34 rfl) (by kernel_rfl) (den_abcons (DenE.b den_int) (den_abcons (DenE.b (den_bi c_len (by kernel_rfl) (T.free 0 rfl) (by kernel_rfl) (den_abcons (DenE.b (den_name (i := 0) (by kernel_rfl))) den_abnil (fun _ => rfl)) (fun _ => rfl) (fun _ => rfl))) den_abnil (fun _ => rfl)) (fun _ => rfl)) (fun _ => rfl) (fun _ => rfl))) den_abnil (fun _ => rfl)) (fun _ => rfl)) (fun _ => rfl) (fun _ => rfl))) (fun _ => rfl)) (den_gname (i := 1) (by kernel_rfl)) (den_scons (den_set (i := 2) (by kernel_rfl) (den_call (n := 2) (ok__law_dice T) (show 1 ≤ 7 by decide) (by kernel_rfl) (den_acons (den_name (i := 0) (by kernel_rfl)) (den_acons (den_name (i := 1) (by kernel_rfl)) den_anil (fun _ => rfl)) (fun _ => rfl)) (fun _ => rfl) (fun _ => rfl)) (fun _ => rfl))
    (den_scons (den_sif (den_tw (den_wor (den_tnot (den_tru (DenE.b (den_call (n := 1) (ok__law_right T) (show 7 ≤ 7 by decide) (by kernel_rfl) (den_acons (den_name (i := 2) (by kernel_rfl)) den_anil (fun _ => rfl)) (fun _ => rfl) (fun _ => rfl))) (fun _ _ => rfl))) (den_wor1 (den_tnot (den_tru (DenE.b (den_call (n := 1) (ok__law_right T) (show 7 ≤ 7 by decide) (by kernel_rfl) (den_acons (den_name (i := 2) (by kernel_rfl)) den_anil (fun _ => rfl)) (fun _ => rfl) (fun _ => rfl))) (fun _ _ => rfl)))))) (den_sone (den_ret den_bl)) den_snil)
    (den_scons (den_asg (den_gtup (den_gcons (den_gname (i := 3) (by kernel_rfl)) (den_gcons (den_gname (i := 4) (by kernel_rfl)) den_gnil (fun _ => rfl)) (fun _ => rfl)) (fun _ => rfl) (fun _ => rfl) (gcons_len (gcons_len gnil_len))) (den_tup (den_acons (den_call (n := 2) (ok__law_roll T) (show 1 ≤ 7 by decide) (by kernel_rfl) (den_acons (den_name (i := 2) (by kernel_rfl)) (den_acons den_int den_anil (fun _ => rfl)) (fun _ => rfl)) (fun _ => rfl) (fun _ => rfl)) (den_acons (den_bin o_addD (DenE.b den_int) (DenE.b (den_call (n := 2) (ok__law_roll T) (show 1 ≤ 7 by decide) (by kernel_rfl) (den_acons (den_name (i := 2) (by kernel_rfl)) (den_acons den_int den_anil (fun _ => rfl)) (fun _ => rfl)) (fun _ => rfl) (fun _ => rfl)))) den_anil (fun _ => rfl)) (fun _ => rfl))) (fun _ => rfl) (hw_of fun _ => by kernel_rfl) (fun _ => rfl))
    (den_sone (den_sif (den_tcmp o_ne (DenN.b (den_lc (own := [("_law_shape", 5)]) (den_iseq (den_call (n := 1) (ok__law_lots T) (show 1 ≤ 7 by decide) (by kernel_rfl) (den_acons (den_name (i := 3) (by kernel_rfl)) den_anil (fun _ => rfl)) (fun _ => rfl) (fun _ => rfl))) (by kernel_rfl) (by decide) (den_gname (i := 5) (by kernel_rfl)) (den_tsone (den_tcmp o_ne (DenE.b (den_call (n := 2) (ok_power_sum T) (show 6 ≤ 7 by decide) (by kernel_rfl) (den_acons (den_name (i := 5) (by kernel_rfl)) (den_acons (den_name (i := 4) (by kernel_rfl)) den_anil (fun _ => rfl)) (fun _ => rfl)) (fun _ => rfl) (fun _ => rfl))) (DenE.b (den_call (n := 2) (ok__law_power_sum T) (show 2 ≤ 7 by decide) (by kernel_rfl) (den_acons (den_name (i := 5) (by kernel_rfl)) (den_acons (den_name (i := 4) (by kernel_rfl)) den_anil (fun _ => rfl)) (fun _ => rfl)) (fun _ => rfl) (fun _ => rfl))) rfl)) (den_name (i := 5) (by kernel_rfl)) (fun _ _ => rfl))) (DenN.b (den_lst den_anil)) rfl) (den_sone (den_ret den_bl)) den_snil))))) (fun _ _ => rfl))
    (den_sone (den_ret (den_cmp o_eq (DenN.b (den_lst (den_acons (den_call (n := 2) (ok_power_sum T) (show 6 ≤ 7 by decide) (by kernel_rfl) (den_acons (den_tup (den_acons den_int (den_acons den_int den_anil (fun _ => rfl)) (fun _ => rfl))) (den_acons den_int den_anil (fun _ => rfl)) (fun _ => rfl)) (fun _ => rfl) (fun _ => rfl)) (den_acons (den_call (n := 2) (ok_power_sum T) (show 6 ≤ 7 by decide) (by kernel_rfl) (den_acons (den_tup (den_acons den_int (den_acons den_int den_anil (fun _ => rfl)) (fun _ => rfl))) (den_acons den_int den_anil (fun _ => rfl)) (fun _ => rfl)) (fun _ => rfl) (fun _ => rfl)) (den_acons (den_call (n := 2) (ok_power_sum T) (show 6 ≤ 7 by decide) (by kernel_rfl) (den_acons (den_tup (den_acons den_int (den_acons den_int den_anil (fun _ => rfl)) (fun _ => rfl))) (den_acons den_int den_anil (fun _ => rfl)) (fun _ => rfl)) (fun _ => rfl) (fun _ => rfl)) (den_acons (den_call (n := 2) (ok_power_sum T) (show 6 ≤ 7 by decide) (by kernel_rfl) (den_acons (den_tup den_anil) (den_acons den_int den_anil (fun _ => rfl)) (fun _ => rfl)) (fun _ => rfl) (fun _ => rfl)) den_anil (fun _ => rfl)) (fun _ => rfl)) (fun _ => rfl)) (fun _ => rfl)))) (DenN.b (den_lst (den_acons den_int (den_acons den_int (den_acons den_int (den_acons den_int den_anil (fun _ => rfl)) (fun _ => rfl)) (fun _ => rfl)) (fun _ => rfl)))) rfl))))

abbrev Rr : PySem.W.OpenRow := PySem.W.OpenLaw.row PySem.Challenge.rw_swapsheets_k31_whole_powers_of_contents
abbrev hk : PySem.W.Hook := He.hookD 4 fa fn
def ob (s : PySem.W.SharedT) : He.AlD := He.obsDG 4 fa fn (HandSHeadRun.getT s)
theorem ob_eq (s : PySem.W.SharedT) : ob s = hk.obs s.abs := He.obsDG_eq (HandSHeadRun.getT_eq s)
def loose0 : List Str := ["SheetError", "InvalidLot", "InvalidCount", "BOUND", "is_whole", "is_integer", "is_within", "require_within", "power_in", "MAX_SUM", "lot_of", "conjugate_in", "squares_in", "contents_in", "content_sum_in", "is_lot", "require_lot", "conjugate", "content_sum", "less_square", "MOST_EXPONENT", "require_shape", "power_sum_in", "power_sum", "_law_dice", "_law_roll", "_law_pick", "_law_lots", "_law_lot_of", "_law_contents"]
def loose1 : List Str := ["_law_lot_drawn", "_law_sm_power", "_law_power_sum", "_law_right"]
def loose : List Str := loose0 ++ loose1
theorem run (w : World) : HandSHeadRun.RunEq Rr (PySem.W.view Rr.prog [39]) hk ob 6000 loose w := by
  intro os
  kernel_rfl
end G_k31

namespace G_k31
open PySem PySem.Spec PyProof.Rows L2 Sw
theorem whole_ok (v : Int) (h : HS) : d_is_whole [.int v] h = .ok (.bl true) h := by
  simp [d_is_whole, b_is_whole, ifR, nS, nB, kD, aN, tY, oN, oS, rT, xS, bkS, ctS, noS, rN, frS, mN, shR, mulOk, fnR, seqS, iteS, cmpT, setS, setN, nilS, RS.ofR, Res.bind, Res.nox, res1, res2, toRes, refIxR, rputS, atRef, L2.atI, L2.ixN, getS, getB, consR, callR, biR, addD, mulD, iAdd, iSub, iMul, iDiv, iMod, iPow, iLt, iLe, iGt, iGe, Sw.intD, intG, lenG, pureF, pureR, noRefs, D.noRef, noRefs_ints, isiR, tyD, isiT, bAndR, bNotR, bOrR, chR, chT, truR, D.tru, tNotR, tAndR, tOrR, negD, seqR, wipeT, gN, gT, gConsT, gNilT]
theorem integer_ok {v : Int} (h : HS) (h1 : -1000000000000000000000000000000000000000000000000000000000000 < v) (h2 : v < 1000000000000000000000000000000000000000000000000000000000000) : d_is_integer [.int v] h = .ok (.bl true) h := by
  simp [d_is_integer, b_is_integer, ifR, nS, nB, kD, aN, tY, oN, oS, rT, xS, bkS, ctS, noS, rN, frS, mN, shR, mulOk, fnR, seqS, iteS, cmpT, setS, setN, nilS, RS.ofR, Res.bind, Res.nox, res1, res2, toRes, refIxR, rputS, atRef, L2.atI, L2.ixN, getS, getB, consR, callR, biR, addD, mulD, iAdd, iSub, iMul, iDiv, iMod, iPow, iLt, iLe, iGt, iGe, Sw.intD, intG, lenG, pureF, pureR, noRefs, D.noRef, noRefs_ints, isiR, tyD, isiT, bAndR, bNotR, bOrR, chR, chT, truR, D.tru, tNotR, tAndR, tOrR, negD, seqR, wipeT, gN, gT, gConsT, gNilT, whole_ok, h1, h2]
theorem within_ok {v : Int} (a b : Int) (h : HS) (h1 : -1000000 < v) (h2 : v < 1000000) : d_is_within [.int v, .int a, .int b] h = .ok (.bl (decide (a ≤ v) && decide (v ≤ b))) h := by
  simp [d_is_within, b_is_within, ifR, nS, nB, kD, aN, tY, oN, oS, rT, xS, bkS, ctS, noS, rN, frS, mN, shR, mulOk, fnR, seqS, iteS, cmpT, setS, setN, nilS, RS.ofR, Res.bind, Res.nox, res1, res2, toRes, refIxR, rputS, atRef, L2.atI, L2.ixN, getS, getB, consR, callR, biR, addD, mulD, iAdd, iSub, iMul, iDiv, iMod, iPow, iLt, iLe, iGt, iGe, Sw.intD, intG, lenG, pureF, pureR, noRefs, D.noRef, noRefs_ints, isiR, tyD, isiT, bAndR, bNotR, bOrR, chR, chT, truR, D.tru, tNotR, tAndR, tOrR, negD, seqR, wipeT, gN, gT, gConsT, gNilT, integer_ok (v := v) [] (by omega) (by omega)]
  by_cases ha : a ≤ v <;> simp [ha]

theorem bools_const {α : Type} : ∀ (l : List α), boolsD (l.map fun _ => D.bl true) = some (l.map fun _ => true)
  | [] => rfl
  | x :: l => by rw [List.map_cons, boolsD, bools_const l]; rfl
theorem desc_zip : ∀ {l : List Int}, l.Pairwise (· ≥ ·) → ∀ p ∈ l.zip (l.drop 1), p.1 ≥ p.2
  | [], _, p, m => by cases m
  | [x], _, p, m => by simp at m
  | x :: y :: r, h, p, m => by
    rw [List.drop_one, List.tail_cons, List.zip_cons_cons] at m
    rcases List.mem_cons.mp m with rfl | m
    · exact (List.pairwise_cons.mp h).1 y List.mem_cons_self
    · exact desc_zip (List.pairwise_cons.mp h).2 p (by rw [List.drop_one, List.tail_cons]; exact m)
theorem zip_ints (a b : List Int) : zipD (a.map .int) (b.map .int) = (a.zip b).map fun p => .tup [.int p.1, .int p.2] := by
  unfold zipD
  rw [List.zip_map, List.map_map]
  rfl
theorem cut_one (l : List Int) : Sw.cutD (l.map D.int) (some 1) none = (l.drop 1).map .int := by
  unfold Sw.cutD
  rw [show HT.sIx (l.map D.int).length 0 (some 1) = min 1 (l.map D.int).length from HT.sIx_nat _ 0 1, HT.sIx_none]
  cases l with
  | nil => rfl
  | cons x r =>
    rw [show min 1 ((x :: r).map D.int).length = 1 by rw [List.length_map, List.length_cons]; omega]
    rw [← List.map_drop]
    refine List.take_of_length_le ?_
    simp
theorem is_lot_ok {l : List Int} {n : Int} (hl : Lot l n) (hn : n ≤ 24) (h : HS) : d_is_lot [.tup (l.map .int)] h = .ok (.bl true) h := by
  obtain ⟨q1, q2⟩ := lotLe hl.pos hl.sum
  have f1 : fits l.length = true := fits_of (by omega)
  have f2 : fits (min l.length (l.length - 1)) = true := fits_of (by omega)
  have w : ∀ x ∈ l, d_is_within [.int x, .int 1, .int 24] [] = .ok (.bl true) [] := fun x m => by
    have h1 := hl.pos x m
    have h2 := q1 x m
    rw [within_ok 1 24 [] (by omega) (by omega)]
    simp [h1, show x ≤ 24 by omega]
  have e1 : lcL (gN 1) tY (callR 3 d_is_within (consR (nS 1) (consR (kD (.int 1)) (consR (kD (.int 24)) aN)))) [.val (.tup (l.map .int)), .un, .un, .un] (l.map .int) [] = .ok (l.map fun _ => .bl true) [] := by
    refine lcL_all _ _ l fun x m => ⟨_, rfl, ?_⟩
    simp [ifR, nS, nB, kD, aN, tY, oN, oS, rT, xS, bkS, ctS, noS, rN, frS, mN, shR, mulOk, fnR, seqS, iteS, cmpT, setS, setN, nilS, RS.ofR, Res.bind, Res.nox, res1, res2, toRes, refIxR, rputS, atRef, L2.atI, L2.ixN, getS, getB, consR, callR, biR, addD, mulD, iAdd, iSub, iMul, iDiv, iMod, iPow, iLt, iLe, iGt, iGe, Sw.intD, intG, lenG, w x m]
  have e2 : lcL (gT (gConsT (gN 2) (gConsT (gN 3) gNilT))) tY (res2 iGe (nS 2) (nS 3)) [.val (.tup (l.map .int)), .un, .un, .un] ((l.zip (l.drop 1)).map fun p => .tup [.int p.1, .int p.2]) [] = .ok ((l.zip (l.drop 1)).map fun p => .bl true) [] := by
    refine lcL_all _ _ _ fun p m => ⟨_, rfl, ?_⟩
    have := desc_zip hl.desc p m
    simp [ifR, nS, nB, kD, aN, tY, oN, oS, rT, xS, bkS, ctS, noS, rN, frS, mN, shR, mulOk, fnR, seqS, iteS, cmpT, setS, setN, nilS, RS.ofR, Res.bind, Res.nox, res1, res2, toRes, refIxR, rputS, atRef, L2.atI, L2.ixN, getS, getB, consR, callR, biR, addD, mulD, iAdd, iSub, iMul, iDiv, iMod, iPow, iLt, iLe, iGt, iGe, Sw.intD, intG, lenG, this]
  have a1 : lcR (seqR (nS 0)) [1] (gN 1) tY (callR 3 d_is_within (consR (nS 1) (consR (kD (.int 1)) (consR (kD (.int 24)) aN)))) [.val (.tup (l.map .int)), .un, .un, .un] [] = .ok (.lst (l.map fun _ => .bl true)) [] := by
    simp [ap_lcR, ap_iSub, ap_addD, ap_mulD, ap_iLt, ap_iLe, ap_iGt, ap_iGe, ap_iMod, ap_iDiv, ap_ifR, ap_nS, ap_nB, ap_kD, ap_aN, ap_tY, ap_oN, ap_oS, ap_rT, ap_xS, ap_bkS, ap_ctS, ap_noS, ap_rN, ap_frS, ap_mN, ap_shR, ap_seqS, ap_iteS, ap_cmpT, ap_setS, ap_setN, ap_nilS, ap_res1, ap_res2, ap_refIxR, ap_rputS, ap_consR, ap_callR, ap_biR, ap_isiR, ap_bAndR, ap_bNotR, ap_bOrR, ap_chR, ap_chT, ap_truR, ap_tNotR, ap_tAndR, ap_tOrR, ap_seqR, ap_rngR1, ap_rngR2, ap_enumR, ap_zipR, ap_sliceR, ap_tupR, ap_lstR, ap_starR, ap_augS, ap_asgS, ap_par2, ap_ownM, ap_valM, ap_appS, ap_extS, ap_putS, ap_revR, rb_ok, rn_ok, ro_ok, tr_some, getS, getB, toRes, f1, wipeT, e1]
  have a2 : lcR (zipR (nS 0) (sliceR (nS 0) (oS (kD (.int 1))) oN)) [2, 3] (gT (gConsT (gN 2) (gConsT (gN 3) gNilT))) tY (res2 iGe (nS 2) (nS 3)) [.val (.tup (l.map .int)), .un, .un, .un] [] = .ok (.lst ((l.zip (l.drop 1)).map fun p => .bl true)) [] := by
    rw [ap_lcR]
    have z : zipR (nS 0) (sliceR (nS 0) (oS (kD (.int 1))) oN) [.val (.tup (l.map .int)), .un, .un, .un] [] = .ok (zipD (l.map .int) ((l.drop 1).map .int)) [] := by
      simp [ap_iSub, ap_addD, ap_mulD, ap_iLt, ap_iLe, ap_iGt, ap_iGe, ap_iMod, ap_iDiv, ap_ifR, ap_nS, ap_nB, ap_kD, ap_aN, ap_tY, ap_oN, ap_oS, ap_rT, ap_xS, ap_bkS, ap_ctS, ap_noS, ap_rN, ap_frS, ap_mN, ap_shR, ap_seqS, ap_iteS, ap_cmpT, ap_setS, ap_setN, ap_nilS, ap_res1, ap_res2, ap_refIxR, ap_rputS, ap_consR, ap_callR, ap_biR, ap_isiR, ap_bAndR, ap_bNotR, ap_bOrR, ap_chR, ap_chT, ap_truR, ap_tNotR, ap_tAndR, ap_tOrR, ap_seqR, ap_rngR1, ap_rngR2, ap_enumR, ap_zipR, ap_sliceR, ap_tupR, ap_lstR, ap_starR, ap_augS, ap_asgS, ap_par2, ap_ownM, ap_valM, ap_appS, ap_extS, ap_putS, ap_revR, rb_ok, rn_ok, ro_ok, tr_some, getS, getB, toRes, sliceD, cut_one, List.map_drop]
    rw [z, zip_ints, rb_ok, if_pos (by simpa using f2)]
    simp only [wipeT, List.set]
    rw [e2]
    rfl
  have s24 : l.sum ≤ 24 := by rw [hl.sum]; exact hn
  have r : fnR 4 b_is_lot [.tup (l.map .int)] [] = .ok (.bl true) [] := by
    simp only [fnR, b_is_lot, List.map_cons, List.map_nil, List.length_cons, List.length_nil, List.replicate, List.cons_append, List.nil_append]
    simp [ap_iSub, ap_addD, ap_mulD, ap_iLt, ap_iLe, ap_iGt, ap_iGe, ap_iMod, ap_iDiv, ap_ifR, ap_nS, ap_nB, ap_kD, ap_aN, ap_tY, ap_oN, ap_oS, ap_rT, ap_xS, ap_bkS, ap_ctS, ap_noS, ap_rN, ap_frS, ap_mN, ap_shR, ap_seqS, ap_iteS, ap_cmpT, ap_setS, ap_setN, ap_nilS, ap_res1, ap_res2, ap_refIxR, ap_rputS, ap_consR, ap_callR, ap_biR, ap_isiR, ap_bAndR, ap_bNotR, ap_bOrR, ap_chR, ap_chT, ap_truR, ap_tNotR, ap_tAndR, ap_tOrR, ap_seqR, ap_rngR1, ap_rngR2, ap_enumR, ap_zipR, ap_sliceR, ap_tupR, ap_lstR, ap_starR, ap_augS, ap_asgS, ap_par2, ap_ownM, ap_valM, ap_appS, ap_extS, ap_putS, ap_revR, rb_ok, rn_ok, ro_ok, tr_some, getS, getB, toRes, a1, a2, allG, bools_const, D.tru, tyD, isiT, sumTG, sumsG, sumG, Sw.ints_map, iLe, Sw.intD, s24]
  rw [d_is_lot, pureF_ok (by simp [noRefs, D.noRef, noRefs_ints]) r]
theorem require_ok {l : List Int} {n : Int} (hl : Lot l n) (hn : n ≤ 24) (h : HS) : d_require_lot [.tup (l.map .int)] h = .ok .non h := by
  have r : fnR 1 b_require_lot [.tup (l.map .int)] [] = .ok .non [] := by
    rw [ap_fnR, b_require_lot]
    simp [ap_iSub, ap_addD, ap_mulD, ap_iLt, ap_iLe, ap_iGt, ap_iGe, ap_iMod, ap_iDiv, ap_ifR, ap_nS, ap_nB, ap_kD, ap_aN, ap_tY, ap_oN, ap_oS, ap_rT, ap_xS, ap_bkS, ap_ctS, ap_noS, ap_rN, ap_frS, ap_mN, ap_shR, ap_seqS, ap_iteS, ap_cmpT, ap_setS, ap_setN, ap_nilS, ap_res1, ap_res2, ap_refIxR, ap_rputS, ap_consR, ap_callR, ap_biR, ap_isiR, ap_bAndR, ap_bNotR, ap_bOrR, ap_chR, ap_chT, ap_truR, ap_tNotR, ap_tAndR, ap_tOrR, ap_seqR, ap_rngR1, ap_rngR2, ap_enumR, ap_zipR, ap_sliceR, ap_tupR, ap_lstR, ap_starR, ap_augS, ap_asgS, ap_par2, ap_ownM, ap_valM, ap_appS, ap_extS, ap_putS, ap_revR, rb_ok, rn_ok, ro_ok, tr_some, getS, getB, toRes, is_lot_ok hl hn, D.tru]
  rw [d_require_lot, pureF_ok (by simp [noRefs, D.noRef, noRefs_ints]) r]

theorem count_ok (l : List Int) (hz : l.length ≤ 1000000) (τ : List Sl) (i j : Nat) (c : Nat) (hx : τ[i]? = some (.val (.tup (l.map .int)))) (hj : τ[j]? = some (.val (.int (c : Nat)))) (k : Nat) (hkv : k < τ.length) (ik : i ≠ k) (jk : j ≠ k) :
    biR lenG (consR (lcR (seqR (nS i)) [k] (gN k) (cmpT iGt (nS k) (nS j)) (nS k)) aN) τ [] = .ok (.int ((l.filter fun x => decide ((c : Int) < x)).length : Int)) [] := by
  have e : lcL (gN k) (cmpT iGt (nS k) (nS j)) (nS k) (τ.set k .un) (l.map .int) [] = .ok ((l.filter fun x => decide ((c : Int) < x)).map .int) [] := by
    refine lcL_ok .int (fun x => decide ((c : Int) < x)) .int l fun x _ => ⟨_, rfl, ?_, fun _ => ?_⟩
    · simp [ap_iSub, ap_addD, ap_mulD, ap_iLt, ap_iLe, ap_iGt, ap_iGe, ap_iMod, ap_iDiv, ap_ifR, ap_nS, ap_nB, ap_kD, ap_aN, ap_tY, ap_oN, ap_oS, ap_rT, ap_xS, ap_bkS, ap_ctS, ap_noS, ap_rN, ap_frS, ap_mN, ap_shR, ap_seqS, ap_iteS, ap_cmpT, ap_setS, ap_setN, ap_nilS, ap_res1, ap_res2, ap_refIxR, ap_rputS, ap_consR, ap_callR, ap_biR, ap_isiR, ap_bAndR, ap_bNotR, ap_bOrR, ap_chR, ap_chT, ap_truR, ap_tNotR, ap_tAndR, ap_tOrR, ap_seqR, ap_rngR1, ap_rngR2, ap_enumR, ap_zipR, ap_sliceR, ap_tupR, ap_lstR, ap_starR, ap_augS, ap_asgS, ap_par2, ap_ownM, ap_valM, ap_appS, ap_extS, ap_putS, ap_revR, rb_ok, rn_ok, ro_ok, tr_some, getS, getB, toRes, hkv, hj, jk.symm, iGt, Sw.intD]
    · simp [ap_iSub, ap_addD, ap_mulD, ap_iLt, ap_iLe, ap_iGt, ap_iGe, ap_iMod, ap_iDiv, ap_ifR, ap_nS, ap_nB, ap_kD, ap_aN, ap_tY, ap_oN, ap_oS, ap_rT, ap_xS, ap_bkS, ap_ctS, ap_noS, ap_rN, ap_frS, ap_mN, ap_shR, ap_seqS, ap_iteS, ap_cmpT, ap_setS, ap_setN, ap_nilS, ap_res1, ap_res2, ap_refIxR, ap_rputS, ap_consR, ap_callR, ap_biR, ap_isiR, ap_bAndR, ap_bNotR, ap_bOrR, ap_chR, ap_chT, ap_truR, ap_tNotR, ap_tAndR, ap_tOrR, ap_seqR, ap_rngR1, ap_rngR2, ap_enumR, ap_zipR, ap_sliceR, ap_tupR, ap_lstR, ap_starR, ap_augS, ap_asgS, ap_par2, ap_ownM, ap_valM, ap_appS, ap_extS, ap_putS, ap_revR, rb_ok, rn_ok, ro_ok, tr_some, getS, getB, toRes, hkv]
  simp [ap_iSub, ap_addD, ap_mulD, ap_iLt, ap_iLe, ap_iGt, ap_iGe, ap_iMod, ap_iDiv, ap_ifR, ap_nS, ap_nB, ap_kD, ap_aN, ap_tY, ap_oN, ap_oS, ap_rT, ap_xS, ap_bkS, ap_ctS, ap_noS, ap_rN, ap_frS, ap_mN, ap_shR, ap_seqS, ap_iteS, ap_cmpT, ap_setS, ap_setN, ap_nilS, ap_res1, ap_res2, ap_refIxR, ap_rputS, ap_consR, ap_callR, ap_biR, ap_isiR, ap_bAndR, ap_bNotR, ap_bOrR, ap_chR, ap_chT, ap_truR, ap_tNotR, ap_tAndR, ap_tOrR, ap_seqR, ap_rngR1, ap_rngR2, ap_enumR, ap_zipR, ap_sliceR, ap_tupR, ap_lstR, ap_starR, ap_augS, ap_asgS, ap_par2, ap_ownM, ap_valM, ap_appS, ap_extS, ap_putS, ap_revR, rb_ok, rn_ok, ro_ok, tr_some, getS, getB, toRes, ap_lcR, hx, fits_of hz, wipeT, e, lenG]
theorem conj_ok {l : List Int} {n : Int} (hl : Lot l n) (hn : n ≤ 24) (h : HS) : d_conjugate_in [.tup (l.map .int)] h = .ok (.tup ((conj l).map .int)) h := by
  obtain ⟨q1, q2⟩ := lotLe hl.pos hl.sum
  have hz : l.length ≤ 1000000 := by omega
  obtain ⟨w, ew, hw⟩ : ∃ w : Int, l.headD 0 = w ∧ w ≤ 24 ∧ 0 ≤ w := by
    cases l with
    | nil => exact ⟨0, rfl, by omega, by omega⟩
    | cons x r =>
      have h1 := q1 x List.mem_cons_self
      have h2 := hl.pos x List.mem_cons_self
      exact ⟨x, rfl, by omega, by omega⟩
  have a0 : ifR (cmpT neD (nS 0) (tupR aN)) (res2 atD (nS 0) (kD (.int 0))) (kD (.int 0)) [.val (.tup (l.map .int)), .un, .un, .un] [] = .ok (.int w) [] := by
    have n0 : neD (.tup (l.map .int)) (.tup []) = some (.bl (decide (l ≠ []))) := by
      have := eqB_ints l []
      rw [List.map_nil] at this
      simp [neD, this]
    have f0 : fits 0 = true := fits_of (by decide)
    cases l with
    | nil => cases ew; rw [List.map_nil] at n0; simp [ap_iSub, ap_addD, ap_mulD, ap_iLt, ap_iLe, ap_iGt, ap_iGe, ap_iMod, ap_iDiv, ap_ifR, ap_nS, ap_nB, ap_kD, ap_aN, ap_tY, ap_oN, ap_oS, ap_rT, ap_xS, ap_bkS, ap_ctS, ap_noS, ap_rN, ap_frS, ap_mN, ap_shR, ap_seqS, ap_iteS, ap_cmpT, ap_setS, ap_setN, ap_nilS, ap_res1, ap_res2, ap_refIxR, ap_rputS, ap_consR, ap_callR, ap_biR, ap_isiR, ap_bAndR, ap_bNotR, ap_bOrR, ap_chR, ap_chT, ap_truR, ap_tNotR, ap_tAndR, ap_tOrR, ap_seqR, ap_rngR1, ap_rngR2, ap_enumR, ap_zipR, ap_sliceR, ap_tupR, ap_lstR, ap_starR, ap_augS, ap_asgS, ap_par2, ap_ownM, ap_valM, ap_appS, ap_extS, ap_putS, ap_revR, rb_ok, rn_ok, ro_ok, tr_some, getS, getB, toRes, n0, f0]
    | cons x r => cases ew; rw [List.map_cons] at n0; simp [ap_iSub, ap_addD, ap_mulD, ap_iLt, ap_iLe, ap_iGt, ap_iGe, ap_iMod, ap_iDiv, ap_ifR, ap_nS, ap_nB, ap_kD, ap_aN, ap_tY, ap_oN, ap_oS, ap_rT, ap_xS, ap_bkS, ap_ctS, ap_noS, ap_rN, ap_frS, ap_mN, ap_shR, ap_seqS, ap_iteS, ap_cmpT, ap_setS, ap_setN, ap_nilS, ap_res1, ap_res2, ap_refIxR, ap_rputS, ap_consR, ap_callR, ap_biR, ap_isiR, ap_bAndR, ap_bNotR, ap_bOrR, ap_chR, ap_chT, ap_truR, ap_tNotR, ap_tAndR, ap_tOrR, ap_seqR, ap_rngR1, ap_rngR2, ap_enumR, ap_zipR, ap_sliceR, ap_tupR, ap_lstR, ap_starR, ap_augS, ap_asgS, ap_par2, ap_ownM, ap_valM, ap_appS, ap_extS, ap_putS, ap_revR, rb_ok, rn_ok, ro_ok, tr_some, getS, getB, toRes, n0, f0, atD, L2.atI, L2.ixN]
  have a1 : lcR (rngR1 (nS 1)) [2] (gN 2) tY (biR lenG (consR (lcR (seqR (nS 0)) [3] (gN 3) (cmpT iGt (nS 3) (nS 2)) (nS 3)) aN)) [.val (.tup (l.map .int)), .val (.int w), .un, .un] [] = .ok (.lst ((conj l).map .int)) [] := by
    have e : lcL (gN 2) tY (biR lenG (consR (lcR (seqR (nS 0)) [3] (gN 3) (cmpT iGt (nS 3) (nS 2)) (nS 3)) aN)) [.val (.tup (l.map .int)), .val (.int w), .un, .un] ((List.range w.toNat).map fun i => .int (0 + (i : Nat))) [] = .ok ((List.range w.toNat).map fun c : Nat => .int ((l.filter fun x => decide ((c : Int) < x)).length : Int)) [] := by
      refine lcL_all (fun i : Nat => .int (0 + (i : Nat))) _ _ fun c m => ⟨_, rfl, ?_⟩
      refine count_ok l hz _ 0 2 c rfl ?_ 3 (by simp) (by decide) (by decide)
      simp
    have fw : fits w.toNat = true := fits_of (by omega)
    have w1 : -4611686018427387904 ≤ w := by omega
    have w2 : w < 4611686018427387904 := by omega
    simp only [Int.zero_add] at e
    have ew' : l.head?.getD 0 = w := by cases l <;> exact ew
    simp [ap_iSub, ap_addD, ap_mulD, ap_iLt, ap_iLe, ap_iGt, ap_iGe, ap_iMod, ap_iDiv, ap_ifR, ap_nS, ap_nB, ap_kD, ap_aN, ap_tY, ap_oN, ap_oS, ap_rT, ap_xS, ap_bkS, ap_ctS, ap_noS, ap_rN, ap_frS, ap_mN, ap_shR, ap_seqS, ap_iteS, ap_cmpT, ap_setS, ap_setN, ap_nilS, ap_res1, ap_res2, ap_refIxR, ap_rputS, ap_consR, ap_callR, ap_biR, ap_isiR, ap_bAndR, ap_bNotR, ap_bOrR, ap_chR, ap_chT, ap_truR, ap_tNotR, ap_tAndR, ap_tOrR, ap_seqR, ap_rngR1, ap_rngR2, ap_enumR, ap_zipR, ap_sliceR, ap_tupR, ap_lstR, ap_starR, ap_augS, ap_asgS, ap_par2, ap_ownM, ap_valM, ap_appS, ap_extS, ap_putS, ap_revR, rb_ok, rn_ok, ro_ok, tr_some, getS, getB, toRes, ap_lcR, rangeD_map, fw, wipeT, w1, w2, e, conj, ew']
  have r : fnR 4 b_conjugate_in [.tup (l.map .int)] [] = .ok (.tup ((conj l).map .int)) [] := by
    simp only [fnR, b_conjugate_in, List.map_cons, List.map_nil, List.length_cons, List.length_nil, List.replicate, List.cons_append, List.nil_append]
    simp [ap_iSub, ap_addD, ap_mulD, ap_iLt, ap_iLe, ap_iGt, ap_iGe, ap_iMod, ap_iDiv, ap_nS, ap_nB, ap_kD, ap_aN, ap_tY, ap_oN, ap_oS, ap_rT, ap_xS, ap_bkS, ap_ctS, ap_noS, ap_rN, ap_frS, ap_mN, ap_shR, ap_seqS, ap_iteS, ap_cmpT, ap_setS, ap_setN, ap_nilS, ap_res1, ap_res2, ap_refIxR, ap_rputS, ap_consR, ap_callR, ap_biR, ap_isiR, ap_bAndR, ap_bNotR, ap_bOrR, ap_chR, ap_chT, ap_truR, ap_tNotR, ap_tAndR, ap_tOrR, ap_seqR, ap_rngR1, ap_rngR2, ap_enumR, ap_zipR, ap_sliceR, ap_tupR, ap_lstR, ap_starR, ap_augS, ap_asgS, ap_par2, ap_ownM, ap_valM, ap_appS, ap_extS, ap_putS, ap_revR, rb_ok, rn_ok, ro_ok, tr_some, getS, getB, toRes, a0, a1, tupG]
  rw [d_conjugate_in, pureF_ok (by simp [noRefs, D.noRef, noRefs_ints]) r]

theorem fit_le {l : List Int} {n : Int} (hl : Lot l n) (hn : n ≤ 24) : l.length ≤ 24 ∧ ∀ y ∈ l, 1 ≤ y ∧ y ≤ 24 := by
  obtain ⟨q1, q2⟩ := lotLe hl.pos hl.sum
  exact ⟨by omega, fun y m => ⟨hl.pos y m, by have := q1 y m; omega⟩⟩

theorem conjugate_ok {l : List Int} {n : Int} (hl : Lot l n) (hn : n ≤ 24) (h : HS) : d_conjugate [.tup (l.map .int)] h = .ok (.tup ((conj l).map .int)) h := by
  have r : fnR 1 b_conjugate [.tup (l.map .int)] [] = .ok (.tup ((conj l).map .int)) [] := by
    rw [ap_fnR, b_conjugate]
    simp [ap_iSub, ap_addD, ap_mulD, ap_iLt, ap_iLe, ap_iGt, ap_iGe, ap_iMod, ap_iDiv, ap_ifR, ap_nS, ap_nB, ap_kD, ap_aN, ap_tY, ap_oN, ap_oS, ap_rT, ap_xS, ap_bkS, ap_ctS, ap_noS, ap_rN, ap_frS, ap_mN, ap_shR, ap_seqS, ap_iteS, ap_cmpT, ap_setS, ap_setN, ap_nilS, ap_res1, ap_res2, ap_refIxR, ap_rputS, ap_consR, ap_callR, ap_biR, ap_isiR, ap_bAndR, ap_bNotR, ap_bOrR, ap_chR, ap_chT, ap_truR, ap_tNotR, ap_tAndR, ap_tOrR, ap_seqR, ap_rngR1, ap_rngR2, ap_enumR, ap_zipR, ap_sliceR, ap_tupR, ap_lstR, ap_starR, ap_augS, ap_asgS, ap_par2, ap_ownM, ap_valM, ap_appS, ap_extS, ap_putS, ap_revR, rb_ok, rn_ok, ro_ok, tr_some, getS, getB, toRes, require_ok hl hn, conj_ok hl hn]
  rw [d_conjugate, pureF_ok (by simp [noRefs, D.noRef, noRefs_ints]) r]

abbrev sqD (p : Nat × Nat) : D := .tup [.int (p.1 : Nat), .int (p.2 : Nat)]
def enums (k : Nat) : List Int → List (Nat × Int)
  | [] => []
  | x :: l => (k, x) :: enums (k + 1) l
theorem enum_ok : ∀ (l : List Int) (k : Nat), enumD k (l.map .int) = (enums k l).map fun p => .tup [.int (p.1 : Nat), .int p.2]
  | [], _ => rfl
  | x :: l, k => by rw [List.map_cons, enumD, enum_ok l (k + 1)]; rfl
theorem sqs_enum : ∀ (l : List Int) (k : Nat), (enums k l).flatMap (fun p => (List.range p.2.toNat).map fun c => (p.1, c)) = sqs k l
  | [], _ => rfl
  | x :: l, k => by rw [enums, List.flatMap_cons, sqs_enum l (k + 1)]; rfl
theorem enums_mem : ∀ {l : List Int} {k : Nat} {p : Nat × Int}, p ∈ enums k l → p.2 ∈ l
  | x :: l, k, p, m => by
    rw [enums] at m
    rcases List.mem_cons.mp m with rfl | m
    · exact List.mem_cons_self
    · exact List.mem_cons_of_mem _ (enums_mem m)
theorem sqs_len {n : Nat} : ∀ {l : List Int} {k : Nat}, (∀ y ∈ l, y ≤ n) → (sqs k l).length ≤ l.length * n
  | [], k, _ => by simp [sqs]
  | x :: l, k, h => by
    have ih := sqs_len (l := l) (k := k + 1) fun y m => h y (List.mem_cons_of_mem _ m)
    have hx := h x List.mem_cons_self
    rw [sqs, List.length_append, List.length_map, List.length_range, List.length_cons, Nat.succ_mul]
    omega
theorem squares_in_ok {l : List Int} {n : Int} (hl : Lot l n) (hn : n ≤ 24) (h : HS) : d_squares_in [.tup (l.map .int)] h = .ok (.lst ((sqs 0 l).map sqD)) h := by
  obtain ⟨z1, z2⟩ := fit_le hl hn
  have fs : fits (sqs 0 l).length = true := fits_of (Nat.le_trans (sqs_len (n := 24) fun y m => (z2 y m).2) (by omega))
  have e : lcL2 (gT (gConsT (gN 1) (gConsT (gN 2) gNilT))) tY (rngR1 (nS 2)) [3] (gN 3) tY (tupR (consR (nS 1) (consR (nS 3) aN))) [.val (.tup (l.map .int)), .un, .un, .un] ((enums 0 l).map fun p => .tup [.int (p.1 : Nat), .int p.2]) [] = .ok ((enums 0 l).flatMap fun p => (List.range p.2.toNat).map fun c => sqD (p.1, c)) [] := by
    refine lcL2_all (fun p : Nat × Int => .tup [.int (p.1 : Nat), .int p.2]) (fun _ c => .int (c : Nat)) (fun p => List.range p.2.toNat) (fun p c => sqD (p.1, c)) (enums 0 l) fun p m => ⟨_, rfl, ?_, fun c mc => ⟨_, rfl, ?_⟩⟩
    · have hp := z2 p.2 (enums_mem m)
      have w1 : -4611686018427387904 ≤ p.2 := by omega
      have w2 : p.2 < 4611686018427387904 := by omega
      simp [ap_iSub, ap_addD, ap_mulD, ap_iLt, ap_iLe, ap_iGt, ap_iGe, ap_iMod, ap_iDiv, ap_ifR, ap_nS, ap_nB, ap_kD, ap_aN, ap_tY, ap_oN, ap_oS, ap_rT, ap_xS, ap_bkS, ap_ctS, ap_noS, ap_rN, ap_frS, ap_mN, ap_shR, ap_seqS, ap_iteS, ap_cmpT, ap_setS, ap_setN, ap_nilS, ap_res1, ap_res2, ap_refIxR, ap_rputS, ap_consR, ap_callR, ap_biR, ap_isiR, ap_bAndR, ap_bNotR, ap_bOrR, ap_chR, ap_chT, ap_truR, ap_tNotR, ap_tAndR, ap_tOrR, ap_seqR, ap_rngR1, ap_rngR2, ap_enumR, ap_zipR, ap_sliceR, ap_tupR, ap_lstR, ap_starR, ap_augS, ap_asgS, ap_par2, ap_ownM, ap_valM, ap_appS, ap_extS, ap_putS, ap_revR, rb_ok, rn_ok, ro_ok, tr_some, getS, getB, toRes, rangeD_map, w1, w2]
    · simp [ap_iSub, ap_addD, ap_mulD, ap_iLt, ap_iLe, ap_iGt, ap_iGe, ap_iMod, ap_iDiv, ap_ifR, ap_nS, ap_nB, ap_kD, ap_aN, ap_tY, ap_oN, ap_oS, ap_rT, ap_xS, ap_bkS, ap_ctS, ap_noS, ap_rN, ap_frS, ap_mN, ap_shR, ap_seqS, ap_iteS, ap_cmpT, ap_setS, ap_setN, ap_nilS, ap_res1, ap_res2, ap_refIxR, ap_rputS, ap_consR, ap_callR, ap_biR, ap_isiR, ap_bAndR, ap_bNotR, ap_bOrR, ap_chR, ap_chT, ap_truR, ap_tNotR, ap_tAndR, ap_tOrR, ap_seqR, ap_rngR1, ap_rngR2, ap_enumR, ap_zipR, ap_sliceR, ap_tupR, ap_lstR, ap_starR, ap_augS, ap_asgS, ap_par2, ap_ownM, ap_valM, ap_appS, ap_extS, ap_putS, ap_revR, rb_ok, rn_ok, ro_ok, tr_some, getS, getB, toRes, wipeT, fits_of (show 2 ≤ 1000000 by decide)]
  have e' : ((enums 0 l).flatMap fun p => (List.range p.2.toNat).map fun c => sqD (p.1, c)) = (sqs 0 l).map sqD := by
    rw [← sqs_enum, List.map_flatMap]
    congr 1
    funext p
    rw [List.map_map]
    rfl
  have r : fnR 4 b_squares_in [.tup (l.map .int)] [] = .ok (.lst ((sqs 0 l).map sqD)) [] := by
    rw [e'] at e
    rw [ap_fnR, b_squares_in]
    simp [ap_iSub, ap_addD, ap_mulD, ap_iLt, ap_iLe, ap_iGt, ap_iGe, ap_iMod, ap_iDiv, ap_ifR, ap_nS, ap_nB, ap_kD, ap_aN, ap_tY, ap_oN, ap_oS, ap_rT, ap_xS, ap_bkS, ap_ctS, ap_noS, ap_rN, ap_frS, ap_mN, ap_shR, ap_seqS, ap_iteS, ap_cmpT, ap_setS, ap_setN, ap_nilS, ap_res1, ap_res2, ap_refIxR, ap_rputS, ap_consR, ap_callR, ap_biR, ap_isiR, ap_bAndR, ap_bNotR, ap_bOrR, ap_chR, ap_chT, ap_truR, ap_tNotR, ap_tAndR, ap_tOrR, ap_seqR, ap_rngR1, ap_rngR2, ap_enumR, ap_zipR, ap_sliceR, ap_tupR, ap_lstR, ap_starR, ap_augS, ap_asgS, ap_par2, ap_ownM, ap_valM, ap_appS, ap_extS, ap_putS, ap_revR, rb_ok, rn_ok, ro_ok, tr_some, getS, getB, toRes, ap_lcR2, enum_ok, wipeT, e, fs]
  rw [d_squares_in, pureF_ok (by simp [noRefs, D.noRef, noRefs_ints]) r]

theorem noRefs_map {α : Type} (f : α → D) : ∀ l : List α, (∀ x ∈ l, (f x).noRef = true) → noRefs (l.map f) = true
  | [], _ => by rw [List.map_nil, noRefs]
  | x :: l, h => by rw [List.map_cons, noRefs, h x List.mem_cons_self, noRefs_map f l fun y m => h y (List.mem_cons_of_mem _ m)]; rfl
theorem noRef_sq (p : Nat × Nat) : (sqD p).noRef = true := by simp [sqD, D.noRef, noRefs]

abbrev ct (p : Nat × Nat) : Int := (p.2 : Int) - (p.1 : Int)
theorem sqs_fit {l : List Int} {n : Int} (hl : Lot l n) (hn : n ≤ 24) : (sqs 0 l).length ≤ 1000000 := by
  obtain ⟨z1, z2⟩ := fit_le hl hn
  exact Nat.le_trans (sqs_len (n := 24) fun y m => (z2 y m).2) (by omega)
theorem contents_in_ok {l : List Int} {n : Int} (hl : Lot l n) (hn : n ≤ 24) (h : HS) : d_contents_in [.tup (l.map .int)] h = .ok (.lst (((sqs 0 l).map ct).map .int)) h := by
  have fs := fits_of (sqs_fit hl hn)
  have e : lcL (gT (gConsT (gN 1) (gConsT (gN 2) gNilT))) tY (res2 iSub (nS 2) (nS 1)) [.val (.tup (l.map .int)), .un, .un] ((sqs 0 l).map sqD) [] = .ok ((sqs 0 l).map fun p => .int (ct p)) [] := by
    refine lcL_all sqD _ _ fun p m => ⟨_, rfl, ?_⟩
    simp [ap_iSub, ap_addD, ap_mulD, ap_iLt, ap_iLe, ap_iGt, ap_iGe, ap_iMod, ap_iDiv, ap_ifR, ap_nS, ap_nB, ap_kD, ap_aN, ap_tY, ap_oN, ap_oS, ap_rT, ap_xS, ap_bkS, ap_ctS, ap_noS, ap_rN, ap_frS, ap_mN, ap_shR, ap_seqS, ap_iteS, ap_cmpT, ap_setS, ap_setN, ap_nilS, ap_res1, ap_res2, ap_refIxR, ap_rputS, ap_consR, ap_callR, ap_biR, ap_isiR, ap_bAndR, ap_bNotR, ap_bOrR, ap_chR, ap_chT, ap_truR, ap_tNotR, ap_tAndR, ap_tOrR, ap_seqR, ap_rngR1, ap_rngR2, ap_enumR, ap_zipR, ap_sliceR, ap_tupR, ap_lstR, ap_starR, ap_augS, ap_asgS, ap_par2, ap_ownM, ap_valM, ap_appS, ap_extS, ap_putS, ap_revR, rb_ok, rn_ok, ro_ok, tr_some, getS, getB, toRes, iSub, Sw.intD]
  have r : fnR 3 b_contents_in [.tup (l.map .int)] [] = .ok (.lst (((sqs 0 l).map ct).map .int)) [] := by
    rw [ap_fnR, b_contents_in]
    simp [ap_iSub, ap_addD, ap_mulD, ap_iLt, ap_iLe, ap_iGt, ap_iGe, ap_iMod, ap_iDiv, ap_ifR, ap_nS, ap_nB, ap_kD, ap_aN, ap_tY, ap_oN, ap_oS, ap_rT, ap_xS, ap_bkS, ap_ctS, ap_noS, ap_rN, ap_frS, ap_mN, ap_shR, ap_seqS, ap_iteS, ap_cmpT, ap_setS, ap_setN, ap_nilS, ap_res1, ap_res2, ap_refIxR, ap_rputS, ap_consR, ap_callR, ap_biR, ap_isiR, ap_bAndR, ap_bNotR, ap_bOrR, ap_chR, ap_chT, ap_truR, ap_tNotR, ap_tAndR, ap_tOrR, ap_seqR, ap_rngR1, ap_rngR2, ap_enumR, ap_zipR, ap_sliceR, ap_tupR, ap_lstR, ap_starR, ap_augS, ap_asgS, ap_par2, ap_ownM, ap_valM, ap_appS, ap_extS, ap_putS, ap_revR, rb_ok, rn_ok, ro_ok, tr_some, getS, getB, toRes, ap_lcR, squares_in_ok hl hn, wipeT, e, fs]
  rw [d_contents_in, pureF_ok (by simp [noRefs, D.noRef, noRefs_ints]) r]

theorem content_sum_ok {l : List Int} {n : Int} (hl : Lot l n) (hn : n ≤ 24) (h : HS) : d_content_sum [.tup (l.map .int)] h = .ok (.int ((sqs 0 l).map ct).sum) h := by
  have r0 : fnR 1 b_content_sum_in [.tup (l.map .int)] [] = .ok (.int ((sqs 0 l).map ct).sum) [] := by
    have im := Sw.ints_map (is := (sqs 0 l).map ct)
    simp only [fnR, b_content_sum_in, List.map_cons, List.map_nil, List.length_cons, List.length_nil, List.replicate, List.cons_append, List.nil_append]
    simp only [ap_iSub, ap_addD, ap_mulD, ap_iLt, ap_iLe, ap_iGt, ap_iGe, ap_iMod, ap_iDiv, ap_ifR, ap_nS, ap_nB, ap_kD, ap_aN, ap_tY, ap_oN, ap_oS, ap_rT, ap_xS, ap_bkS, ap_ctS, ap_noS, ap_rN, ap_frS, ap_mN, ap_shR, ap_seqS, ap_iteS, ap_cmpT, ap_setS, ap_setN, ap_nilS, ap_res1, ap_res2, ap_refIxR, ap_rputS, ap_consR, ap_callR, ap_biR, ap_isiR, ap_bAndR, ap_bNotR, ap_bOrR, ap_chR, ap_chT, ap_truR, ap_tNotR, ap_tAndR, ap_tOrR, ap_seqR, ap_rngR1, ap_rngR2, ap_enumR, ap_zipR, ap_sliceR, ap_tupR, ap_lstR, ap_starR, ap_augS, ap_asgS, ap_par2, ap_ownM, ap_valM, ap_appS, ap_extS, ap_putS, ap_revR, rb_ok, rn_ok, ro_ok, tr_some, getS, getB, toRes, List.getElem?_cons_zero, List.length_cons, List.length_nil, if_true, contents_in_ok hl hn, sumsG, sumG, im, Option.map_some, Option.some_or]
  have r : fnR 1 b_content_sum [.tup (l.map .int)] [] = .ok (.int ((sqs 0 l).map ct).sum) [] := by
    have r1 : d_content_sum_in [.tup (l.map .int)] [] = .ok (.int ((sqs 0 l).map ct).sum) [] := by
      simp only [d_content_sum_in, pureF, noRefs, D.noRef, noRefs_ints, r0, pureR]
      rfl
    rw [ap_fnR, b_content_sum]
    simp [ap_iSub, ap_addD, ap_mulD, ap_iLt, ap_iLe, ap_iGt, ap_iGe, ap_iMod, ap_iDiv, ap_ifR, ap_nS, ap_nB, ap_kD, ap_aN, ap_tY, ap_oN, ap_oS, ap_rT, ap_xS, ap_bkS, ap_ctS, ap_noS, ap_rN, ap_frS, ap_mN, ap_shR, ap_seqS, ap_iteS, ap_cmpT, ap_setS, ap_setN, ap_nilS, ap_res1, ap_res2, ap_refIxR, ap_rputS, ap_consR, ap_callR, ap_biR, ap_isiR, ap_bAndR, ap_bNotR, ap_bOrR, ap_chR, ap_chT, ap_truR, ap_tNotR, ap_tAndR, ap_tOrR, ap_seqR, ap_rngR1, ap_rngR2, ap_enumR, ap_zipR, ap_sliceR, ap_tupR, ap_lstR, ap_starR, ap_augS, ap_asgS, ap_par2, ap_ownM, ap_valM, ap_appS, ap_extS, ap_putS, ap_revR, rb_ok, rn_ok, ro_ok, tr_some, getS, getB, toRes, require_ok hl hn, r1]
  rw [d_content_sum, pureF_ok (by simp [noRefs, D.noRef, noRefs_ints]) r]

theorem shape_ok {l : List Int} {n : Int} (hl : Lot l n) (hn : n ≤ 24) (h : HS) : d_require_shape [.tup (l.map .int)] h = .ok .non h := by
  have r : fnR 1 b_require_shape [.tup (l.map .int)] [] = .ok .non [] := by
    rw [ap_fnR, b_require_shape]
    simp [ap_iSub, ap_addD, ap_mulD, ap_iLt, ap_iLe, ap_iGt, ap_iGe, ap_iMod, ap_iDiv, ap_ifR, ap_nS, ap_nB, ap_kD, ap_aN, ap_tY, ap_oN, ap_oS, ap_rT, ap_xS, ap_bkS, ap_ctS, ap_noS, ap_rN, ap_frS, ap_mN, ap_shR, ap_seqS, ap_iteS, ap_cmpT, ap_setS, ap_setN, ap_nilS, ap_res1, ap_res2, ap_refIxR, ap_rputS, ap_consR, ap_callR, ap_biR, ap_isiR, ap_bAndR, ap_bNotR, ap_bOrR, ap_chR, ap_chT, ap_truR, ap_tNotR, ap_tAndR, ap_tOrR, ap_seqR, ap_rngR1, ap_rngR2, ap_enumR, ap_zipR, ap_sliceR, ap_tupR, ap_lstR, ap_starR, ap_augS, ap_asgS, ap_par2, ap_ownM, ap_valM, ap_appS, ap_extS, ap_putS, ap_revR, rb_ok, rn_ok, ro_ok, tr_some, getS, getB, toRes, is_lot_ok hl hn, D.tru]
  rw [d_require_shape, pureF_ok (by simp [noRefs, D.noRef, noRefs_ints]) r]
theorem rwithin_ok {v a b : Int} (h : HS) (h1 : a ≤ v) (h2 : v ≤ b) (h3 : -1000000 < v) (h4 : v < 1000000) : d_require_within [.int v, .int a, .int b] h = .ok .non h := by
  have r : fnR 3 b_require_within [.int v, .int a, .int b] [] = .ok .non [] := by
    rw [ap_fnR, b_require_within]
    simp [ap_iSub, ap_addD, ap_mulD, ap_iLt, ap_iLe, ap_iGt, ap_iGe, ap_iMod, ap_iDiv, ap_ifR, ap_nS, ap_nB, ap_kD, ap_aN, ap_tY, ap_oN, ap_oS, ap_rT, ap_xS, ap_bkS, ap_ctS, ap_noS, ap_rN, ap_frS, ap_mN, ap_shR, ap_seqS, ap_iteS, ap_cmpT, ap_setS, ap_setN, ap_nilS, ap_res1, ap_res2, ap_refIxR, ap_rputS, ap_consR, ap_callR, ap_biR, ap_isiR, ap_bAndR, ap_bNotR, ap_bOrR, ap_chR, ap_chT, ap_truR, ap_tNotR, ap_tAndR, ap_tOrR, ap_seqR, ap_rngR1, ap_rngR2, ap_enumR, ap_zipR, ap_sliceR, ap_tupR, ap_lstR, ap_starR, ap_augS, ap_asgS, ap_par2, ap_ownM, ap_valM, ap_appS, ap_extS, ap_putS, ap_revR, rb_ok, rn_ok, ro_ok, tr_some, getS, getB, toRes, within_ok a b [] h3 h4, D.tru, h1, h2]
  rw [d_require_within, pureF_ok (by simp [noRefs, D.noRef]) r]
/-- the exponents -/
def es : List Int := [0, 1, 2, 3, 4, 5, 11, 40]
def isI (r : Res D) (v : Int) : Bool := match r with
  | .ok (.int x) [] => decide (x = v)
  | _ => false
theorem isI_ok {r : Res D} {v : Int} (h : isI r v = true) : r = .ok (.int v) [] := by
  unfold isI at h
  split at h
  · rw [of_decide_eq_true h]
  · cases h
theorem pw_all : ((List.range 49).all fun b : Nat => es.all fun e => isI (fnR 5 b_power_in [.int ((b : Int) - 24), .int e] []) (((b : Int) - 24) ^ e.toNat)) = true := by decide +kernel
theorem sm_all : ((List.range 49).all fun b : Nat => es.all fun e => isI (fnR 4 b__law_sm_power [.int ((b : Int) - 24), .int e] []) (((b : Int) - 24) ^ e.toNat)) = true := by decide +kernel
theorem pw_ok {b e : Int} (h1 : -24 ≤ b) (h2 : b ≤ 24) (he : e ∈ es) (h : HS) : d_power_in [.int b, .int e] h = .ok (.int (b ^ e.toNat)) h := by
  have := List.all_eq_true.mp (List.all_eq_true.mp pw_all (b + 24).toNat (List.mem_range.mpr (by omega))) e he
  rw [show (((b + 24).toNat : Nat) : Int) - 24 = b by omega] at this
  rw [d_power_in, pureF_ok (by simp [noRefs, D.noRef]) (isI_ok this)]
theorem sm_ok {b e : Int} (h1 : -24 ≤ b) (h2 : b ≤ 24) (he : e ∈ es) (h : HS) : d__law_sm_power [.int b, .int e] h = .ok (.int (b ^ e.toNat)) h := by
  have := List.all_eq_true.mp (List.all_eq_true.mp sm_all (b + 24).toNat (List.mem_range.mpr (by omega))) e he
  rw [show (((b + 24).toNat : Nat) : Int) - 24 = b by omega] at this
  rw [d__law_sm_power, pureF_ok (by simp [noRefs, D.noRef]) (isI_ok this)]
/-- the power sum -/
def S (l : List Int) (e : Nat) : Int := ((sqs 0 l).map fun p => ct p ^ e).sum
theorem ct_small {l : List Int} {n : Int} (hl : Lot l n) (hn : n ≤ 24) : ∀ x ∈ (sqs 0 l).map ct, -24 ≤ x ∧ x ≤ 24 := by
  obtain ⟨z1, z2⟩ := fit_le hl hn
  intro x m
  obtain ⟨p, hp, rfl⟩ := List.mem_map.mp m
  obtain ⟨i, y, h1, h2, h3⟩ := sqs_mem.mp hp
  have b := z2 y (List.mem_of_getElem? h2)
  have li : i < l.length := (List.getElem?_eq_some_iff.mp h2).1
  simp only [ct]
  omega
theorem sums_T (T : List Int) : sumsG [.tup (T.map .int)] = some (.int T.sum) := by
  simp only [sumsG, sumG, sumTG, Sw.ints_map, Option.none_or, Option.map_some]
theorem sums_L (T : List Int) : sumsG [.lst (T.map .int)] = some (.int T.sum) := by
  simp only [sumsG, sumG, sumTG, Sw.ints_map, Option.some_or, Option.map_some]
theorem S_map (l : List Int) (e : Nat) : (((sqs 0 l).map ct).map fun x => x ^ e).sum = S l e := by
  rw [S, List.map_map]; rfl
theorem power_sum_in_ok {l : List Int} {n : Int} (hl : Lot l n) (hn : n ≤ 24) {e : Int} (he : e ∈ es) (h : HS) : d_power_sum_in [.tup (l.map .int), .int e] h = .ok (.int (S l e.toNat)) h := by
  have fs := fits_of (sqs_fit hl hn)
  have cs := ct_small hl hn
  have co := contents_in_ok hl hn []
  have fT : fits ((sqs 0 l).map ct).length = true := by rw [List.length_map]; exact fs
  have sm := S_map l e.toNat
  generalize (sqs 0 l).map ct = T at cs co fT sm
  have ee : lcL (gN 2) tY (callR 2 d_power_in (consR (nS 2) (consR (nS 1) aN))) [.val (.tup (l.map .int)), .val (.int e), .un] (T.map .int) [] = .ok (T.map fun x => .int (x ^ e.toNat)) [] := by
    refine lcL_all .int _ _ fun x m => ⟨_, rfl, ?_⟩
    obtain ⟨b1, b2⟩ := cs x m
    simp [ap_iSub, ap_addD, ap_mulD, ap_iLt, ap_iLe, ap_iGt, ap_iGe, ap_iMod, ap_iDiv, ap_ifR, ap_nS, ap_nB, ap_kD, ap_aN, ap_tY, ap_oN, ap_oS, ap_rT, ap_xS, ap_bkS, ap_ctS, ap_noS, ap_rN, ap_frS, ap_mN, ap_shR, ap_seqS, ap_iteS, ap_cmpT, ap_setS, ap_setN, ap_nilS, ap_res1, ap_res2, ap_refIxR, ap_rputS, ap_consR, ap_callR, ap_biR, ap_isiR, ap_bAndR, ap_bNotR, ap_bOrR, ap_chR, ap_chT, ap_truR, ap_tNotR, ap_tAndR, ap_tOrR, ap_seqR, ap_rngR1, ap_rngR2, ap_enumR, ap_zipR, ap_sliceR, ap_tupR, ap_lstR, ap_starR, ap_augS, ap_asgS, ap_par2, ap_ownM, ap_valM, ap_appS, ap_extS, ap_putS, ap_revR, rb_ok, rn_ok, ro_ok, tr_some, getS, getB, toRes, pw_ok b1 b2 he]
  have a1 : lcR (seqR (callR 1 d_contents_in (consR (nS 0) aN))) [2] (gN 2) tY (callR 2 d_power_in (consR (nS 2) (consR (nS 1) aN))) [.val (.tup (l.map .int)), .val (.int e), .un] [] = .ok (.lst ((T.map fun x => x ^ e.toNat).map .int)) [] := by
    simp only [ap_iSub, ap_addD, ap_mulD, ap_iLt, ap_iLe, ap_iGt, ap_iGe, ap_iMod, ap_iDiv, ap_ifR, ap_nS, ap_nB, ap_kD, ap_aN, ap_tY, ap_oN, ap_oS, ap_rT, ap_xS, ap_bkS, ap_ctS, ap_noS, ap_rN, ap_frS, ap_mN, ap_shR, ap_seqS, ap_iteS, ap_cmpT, ap_setS, ap_setN, ap_nilS, ap_res1, ap_res2, ap_refIxR, ap_rputS, ap_consR, ap_callR, ap_biR, ap_isiR, ap_bAndR, ap_bNotR, ap_bOrR, ap_chR, ap_chT, ap_truR, ap_tNotR, ap_tAndR, ap_tOrR, ap_seqR, ap_rngR1, ap_rngR2, ap_enumR, ap_zipR, ap_sliceR, ap_tupR, ap_lstR, ap_starR, ap_augS, ap_asgS, ap_par2, ap_ownM, ap_valM, ap_appS, ap_extS, ap_putS, ap_revR, rb_ok, rn_ok, ro_ok, tr_some, getS, getB, toRes, ap_lcR, List.getElem?_cons_zero, List.length_cons, List.length_nil, if_true, co, List.length_map, fT, wipeT, List.set, ee]
    rw [List.map_map]
    rfl
  have r : fnR 3 b_power_sum_in [.tup (l.map .int), .int e] [] = .ok (.int (S l e.toNat)) [] := by
    rw [ap_fnR, b_power_sum_in, ← sm]
    simp only [List.map_cons, List.map_nil, List.length_cons, List.length_nil, List.replicate, List.cons_append, List.nil_append]
    simp only [ap_iSub, ap_addD, ap_mulD, ap_iLt, ap_iLe, ap_iGt, ap_iGe, ap_iMod, ap_iDiv, ap_ifR, ap_nS, ap_nB, ap_kD, ap_aN, ap_tY, ap_oN, ap_oS, ap_rT, ap_xS, ap_bkS, ap_ctS, ap_noS, ap_rN, ap_frS, ap_mN, ap_shR, ap_seqS, ap_iteS, ap_cmpT, ap_setS, ap_setN, ap_nilS, ap_res1, ap_res2, ap_refIxR, ap_rputS, ap_consR, ap_callR, ap_biR, ap_isiR, ap_bAndR, ap_bNotR, ap_bOrR, ap_chR, ap_chT, ap_truR, ap_tNotR, ap_tAndR, ap_tOrR, ap_seqR, ap_rngR1, ap_rngR2, ap_enumR, ap_zipR, ap_sliceR, ap_tupR, ap_lstR, ap_starR, ap_augS, ap_asgS, ap_par2, ap_ownM, ap_valM, ap_appS, ap_extS, ap_putS, ap_revR, rb_ok, rn_ok, ro_ok, tr_some, getS, getB, toRes, a1, sums_L]
  rw [d_power_sum_in, pureF_ok (by simp [noRefs, D.noRef, noRefs_ints]) r]
theorem es_le {e : Int} (he : e ∈ es) : 0 ≤ e ∧ e ≤ 40 := by
  simp only [es, List.mem_cons, List.not_mem_nil, or_false] at he
  omega
theorem power_sum_ok {l : List Int} {n : Int} (hl : Lot l n) (hn : n ≤ 24) {e : Int} (he : e ∈ es) (h : HS) : d_power_sum [.tup (l.map .int), .int e] h = .ok (.int (S l e.toNat)) h := by
  obtain ⟨e1, e2⟩ := es_le he
  have r : fnR 2 b_power_sum [.tup (l.map .int), .int e] [] = .ok (.int (S l e.toNat)) [] := by
    rw [ap_fnR, b_power_sum]
    simp [ap_iSub, ap_addD, ap_mulD, ap_iLt, ap_iLe, ap_iGt, ap_iGe, ap_iMod, ap_iDiv, ap_ifR, ap_nS, ap_nB, ap_kD, ap_aN, ap_tY, ap_oN, ap_oS, ap_rT, ap_xS, ap_bkS, ap_ctS, ap_noS, ap_rN, ap_frS, ap_mN, ap_shR, ap_seqS, ap_iteS, ap_cmpT, ap_setS, ap_setN, ap_nilS, ap_res1, ap_res2, ap_refIxR, ap_rputS, ap_consR, ap_callR, ap_biR, ap_isiR, ap_bAndR, ap_bNotR, ap_bOrR, ap_chR, ap_chT, ap_truR, ap_tNotR, ap_tAndR, ap_tOrR, ap_seqR, ap_rngR1, ap_rngR2, ap_enumR, ap_zipR, ap_sliceR, ap_tupR, ap_lstR, ap_starR, ap_augS, ap_asgS, ap_par2, ap_ownM, ap_valM, ap_appS, ap_extS, ap_putS, ap_revR, rb_ok, rn_ok, ro_ok, tr_some, getS, getB, toRes, shape_ok hl hn, rwithin_ok [] e1 e2 (by omega) (by omega), power_sum_in_ok hl hn he]
  rw [d_power_sum, pureF_ok (by simp [noRefs, D.noRef, noRefs_ints]) r]
/-- the contents of rows told -/
def rowc (p : Nat × Int) : List Int := (List.range p.2.toNat).map fun c : Nat => (c : Int) - (p.1 : Int)
theorem rowc_sqs : ∀ (l : List Int) (k : Nat), (enums k l).flatMap rowc = (sqs k l).map ct
  | [], _ => rfl
  | x :: l, k => by
    rw [enums, List.flatMap_cons, rowc_sqs l (k + 1), sqs, List.map_append, List.map_map]
    rfl
theorem enums_len : ∀ (l : List Int) (k : Nat), (enums k l).length = l.length
  | [], _ => rfl
  | x :: l, k => by rw [enums, List.length_cons, enums_len l, List.length_cons]
theorem lc_ok {l : List Int} {n : Int} (hl : Lot l n) (hn : n ≤ 24) (h : HS) : d__law_contents [.tup (l.map .int)] h = .ok (.lst (((sqs 0 l).map ct).map .int)) h := by
  obtain ⟨z1, z2⟩ := fit_le hl hn
  have tot : ∀ done : List (Nat × Int), (∀ p ∈ done, p.2 ≤ 24) → (done.flatMap rowc).length ≤ done.length * 24 := by
    intro done
    induction done with
    | nil => intro _; simp
    | cons p d ih =>
      intro h
      have h1 := h p List.mem_cons_self
      have h2 := ih fun q m => h q (List.mem_cons_of_mem _ m)
      rw [List.flatMap_cons, List.length_append, rowc, List.length_map, List.length_range, List.length_cons, Nat.succ_mul]
      omega
  obtain ⟨τ2, h2, e, ⟨s2', s3', s4', hτ⟩, rfl⟩ := forS_at (fun p : Nat × Int => .tup [.int (p.1 : Nat), .int p.2]) (enums 0 l) (fun done τ h => (∃ s2 s3 s4, τ = [.val (.tup (l.map .int)), .own ((done.flatMap rowc).map .int), s2, s3, s4]) ∧ h = [])
    (g := gT (gConsT (gN 2) (gConsT (gN 3) gNilT))) (b := extS 1 (lcR (rngR1 (nS 3)) [4] (gN 4) tY (res2 iSub (nS 4) (nS 2)))) (fun done p r τ h ea hi => by
      obtain ⟨⟨u2, u3, u4, rfl⟩, rfl⟩ := hi
      have hp := z2 p.2 (enums_mem (show p ∈ enums 0 l by rw [ea]; simp))
      have hd := tot done fun q m => (z2 q.2 (enums_mem (show q ∈ enums 0 l by rw [ea]; simp [m]))).2
      have hlen : done.length ≤ 24 := by
        have := enums_len l 0
        rw [ea, List.length_append] at this
        omega
      refine ⟨_, [.val (.tup (l.map .int)), .own (((done ++ [p]).flatMap rowc).map .int), .val (.int (p.1 : Nat)), .val (.int p.2), u4], [], rfl, ?_, ⟨_, _, _, rfl⟩, rfl⟩
      have w1 : -4611686018427387904 ≤ p.2 := by omega
      have w2 : p.2 < 4611686018427387904 := by omega
      have f1 : fits p.2.toNat = true := fits_of (by omega)
      have e1 : (done ++ [p]).flatMap rowc = done.flatMap rowc ++ rowc p := by rw [List.flatMap_append]; simp
      rw [e1]
      generalize done.flatMap rowc = A at hd
      have f2 : fits (A.length + p.2.toNat) = true := fits_of (by omega)
      have e : lcL (gN 4) tY (res2 iSub (nS 4) (nS 2)) [.val (.tup (l.map .int)), .own (A.map .int), .val (.int (p.1 : Nat)), .val (.int p.2), .un] ((List.range p.2.toNat).map fun i => .int (0 + (i : Nat))) [] = .ok ((List.range p.2.toNat).map fun c : Nat => .int ((c : Int) - (p.1 : Int))) [] := by
        refine lcL_all (fun i : Nat => .int (0 + (i : Nat))) _ _ fun c m => ⟨_, rfl, ?_⟩
        simp [ap_iSub, ap_addD, ap_mulD, ap_iLt, ap_iLe, ap_iGt, ap_iGe, ap_iMod, ap_iDiv, ap_ifR, ap_nS, ap_nB, ap_kD, ap_aN, ap_tY, ap_oN, ap_oS, ap_rT, ap_xS, ap_bkS, ap_ctS, ap_noS, ap_rN, ap_frS, ap_mN, ap_shR, ap_seqS, ap_iteS, ap_cmpT, ap_setS, ap_setN, ap_nilS, ap_res1, ap_res2, ap_refIxR, ap_rputS, ap_consR, ap_callR, ap_biR, ap_isiR, ap_bAndR, ap_bNotR, ap_bOrR, ap_chR, ap_chT, ap_truR, ap_tNotR, ap_tAndR, ap_tOrR, ap_seqR, ap_rngR1, ap_rngR2, ap_enumR, ap_zipR, ap_sliceR, ap_tupR, ap_lstR, ap_starR, ap_augS, ap_asgS, ap_par2, ap_ownM, ap_valM, ap_appS, ap_extS, ap_putS, ap_revR, rb_ok, rn_ok, ro_ok, tr_some, getS, getB, toRes]
      have e0 : lcR (rngR1 (nS 3)) [4] (gN 4) tY (res2 iSub (nS 4) (nS 2)) [.val (.tup (l.map .int)), .own (A.map .int), .val (.int (p.1 : Nat)), .val (.int p.2), u4] [] = .ok (.lst ((rowc p).map .int)) [] := by
        simp only [Int.zero_add] at e
        simp [ap_iSub, ap_addD, ap_mulD, ap_iLt, ap_iLe, ap_iGt, ap_iGe, ap_iMod, ap_iDiv, ap_ifR, ap_nS, ap_nB, ap_kD, ap_aN, ap_tY, ap_oN, ap_oS, ap_rT, ap_xS, ap_bkS, ap_ctS, ap_noS, ap_rN, ap_frS, ap_mN, ap_shR, ap_seqS, ap_iteS, ap_cmpT, ap_setS, ap_setN, ap_nilS, ap_res1, ap_res2, ap_refIxR, ap_rputS, ap_consR, ap_callR, ap_biR, ap_isiR, ap_bAndR, ap_bNotR, ap_bOrR, ap_chR, ap_chT, ap_truR, ap_tNotR, ap_tAndR, ap_tOrR, ap_seqR, ap_rngR1, ap_rngR2, ap_enumR, ap_zipR, ap_sliceR, ap_tupR, ap_lstR, ap_starR, ap_augS, ap_asgS, ap_par2, ap_ownM, ap_valM, ap_appS, ap_extS, ap_putS, ap_revR, rb_ok, rn_ok, ro_ok, tr_some, getS, getB, toRes, ap_lcR, rangeD_map, w1, w2, f1, wipeT, e, rowc]
      have fr : (rowc p).length = p.2.toNat := by rw [rowc, List.length_map, List.length_range]
      rw [ap_extS]
      simp [e0, fr, f2, ro_ok]) (enums 0 l) [] [.val (.tup (l.map .int)), .own [], .un, .un, .un] [] rfl ⟨⟨_, _, _, rfl⟩, rfl⟩
  have r : fnR 5 b__law_contents [.tup (l.map .int)] [] = .ok (.lst (((sqs 0 l).map ct).map .int)) [] := by
    rw [ap_fnR, b__law_contents]
    rw [rowc_sqs] at hτ
    simp only [List.map_cons, List.map_nil, List.length_cons, List.length_nil, List.replicate, List.cons_append, List.nil_append]
    simp only [ap_iSub, ap_addD, ap_mulD, ap_iLt, ap_iLe, ap_iGt, ap_iGe, ap_iMod, ap_iDiv, ap_ifR, ap_nS, ap_nB, ap_kD, ap_aN, ap_tY, ap_oN, ap_oS, ap_rT, ap_xS, ap_bkS, ap_ctS, ap_noS, ap_rN, ap_frS, ap_mN, ap_shR, ap_seqS, ap_iteS, ap_cmpT, ap_setS, ap_setN, ap_nilS, ap_res1, ap_res2, ap_refIxR, ap_rputS, ap_consR, ap_callR, ap_biR, ap_isiR, ap_bAndR, ap_bNotR, ap_bOrR, ap_chR, ap_chT, ap_truR, ap_tNotR, ap_tAndR, ap_tOrR, ap_seqR, ap_rngR1, ap_rngR2, ap_enumR, ap_zipR, ap_sliceR, ap_tupR, ap_lstR, ap_starR, ap_augS, ap_asgS, ap_par2, ap_ownM, ap_valM, ap_appS, ap_extS, ap_putS, ap_revR, rb_ok, rn_ok, ro_ok, tr_some, getS, getB, toRes, ap_forR, fits_of (show 0 ≤ 1000000 by decide), if_true, List.length_nil, ownSl, List.set, List.getElem?_cons_zero, enum_ok, e, hτ, frzT, List.getElem?_cons_succ]
  rw [d__law_contents, pureF_ok (by simp [noRefs, D.noRef, noRefs_ints]) r]
theorem lps_ok {l : List Int} {n : Int} (hl : Lot l n) (hn : n ≤ 24) {e : Int} (he : e ∈ es) (h : HS) : d__law_power_sum [.tup (l.map .int), .int e] h = .ok (.int (S l e.toNat)) h := by
  have fs := fits_of (sqs_fit hl hn)
  have cs := ct_small hl hn
  have co := lc_ok hl hn []
  have fT : fits ((sqs 0 l).map ct).length = true := by rw [List.length_map]; exact fs
  have sm := S_map l e.toNat
  generalize (sqs 0 l).map ct = T at cs co fT sm
  have ee : lcL (gN 2) tY (callR 2 d__law_sm_power (consR (nS 2) (consR (nS 1) aN))) [.val (.tup (l.map .int)), .val (.int e), .un] (T.map .int) [] = .ok (T.map fun x => .int (x ^ e.toNat)) [] := by
    refine lcL_all .int _ _ fun x m => ⟨_, rfl, ?_⟩
    obtain ⟨b1, b2⟩ := cs x m
    simp [ap_iSub, ap_addD, ap_mulD, ap_iLt, ap_iLe, ap_iGt, ap_iGe, ap_iMod, ap_iDiv, ap_ifR, ap_nS, ap_nB, ap_kD, ap_aN, ap_tY, ap_oN, ap_oS, ap_rT, ap_xS, ap_bkS, ap_ctS, ap_noS, ap_rN, ap_frS, ap_mN, ap_shR, ap_seqS, ap_iteS, ap_cmpT, ap_setS, ap_setN, ap_nilS, ap_res1, ap_res2, ap_refIxR, ap_rputS, ap_consR, ap_callR, ap_biR, ap_isiR, ap_bAndR, ap_bNotR, ap_bOrR, ap_chR, ap_chT, ap_truR, ap_tNotR, ap_tAndR, ap_tOrR, ap_seqR, ap_rngR1, ap_rngR2, ap_enumR, ap_zipR, ap_sliceR, ap_tupR, ap_lstR, ap_starR, ap_augS, ap_asgS, ap_par2, ap_ownM, ap_valM, ap_appS, ap_extS, ap_putS, ap_revR, rb_ok, rn_ok, ro_ok, tr_some, getS, getB, toRes, sm_ok b1 b2 he]
  have a1 : lcR (seqR (callR 1 d__law_contents (consR (nS 0) aN))) [2] (gN 2) tY (callR 2 d__law_sm_power (consR (nS 2) (consR (nS 1) aN))) [.val (.tup (l.map .int)), .val (.int e), .un] [] = .ok (.lst ((T.map fun x => x ^ e.toNat).map .int)) [] := by
    simp only [ap_iSub, ap_addD, ap_mulD, ap_iLt, ap_iLe, ap_iGt, ap_iGe, ap_iMod, ap_iDiv, ap_ifR, ap_nS, ap_nB, ap_kD, ap_aN, ap_tY, ap_oN, ap_oS, ap_rT, ap_xS, ap_bkS, ap_ctS, ap_noS, ap_rN, ap_frS, ap_mN, ap_shR, ap_seqS, ap_iteS, ap_cmpT, ap_setS, ap_setN, ap_nilS, ap_res1, ap_res2, ap_refIxR, ap_rputS, ap_consR, ap_callR, ap_biR, ap_isiR, ap_bAndR, ap_bNotR, ap_bOrR, ap_chR, ap_chT, ap_truR, ap_tNotR, ap_tAndR, ap_tOrR, ap_seqR, ap_rngR1, ap_rngR2, ap_enumR, ap_zipR, ap_sliceR, ap_tupR, ap_lstR, ap_starR, ap_augS, ap_asgS, ap_par2, ap_ownM, ap_valM, ap_appS, ap_extS, ap_putS, ap_revR, rb_ok, rn_ok, ro_ok, tr_some, getS, getB, toRes, ap_lcR, List.getElem?_cons_zero, List.length_cons, List.length_nil, if_true, co, List.length_map, fT, wipeT, List.set, ee]
    rw [List.map_map]
    rfl
  have r : fnR 3 b__law_power_sum [.tup (l.map .int), .int e] [] = .ok (.int (S l e.toNat)) [] := by
    rw [ap_fnR, b__law_power_sum, ← sm]
    simp only [List.map_cons, List.map_nil, List.length_cons, List.length_nil, List.replicate, List.cons_append, List.nil_append]
    simp only [ap_iSub, ap_addD, ap_mulD, ap_iLt, ap_iLe, ap_iGt, ap_iGe, ap_iMod, ap_iDiv, ap_ifR, ap_nS, ap_nB, ap_kD, ap_aN, ap_tY, ap_oN, ap_oS, ap_rT, ap_xS, ap_bkS, ap_ctS, ap_noS, ap_rN, ap_frS, ap_mN, ap_shR, ap_seqS, ap_iteS, ap_cmpT, ap_setS, ap_setN, ap_nilS, ap_res1, ap_res2, ap_refIxR, ap_rputS, ap_consR, ap_callR, ap_biR, ap_isiR, ap_bAndR, ap_bNotR, ap_bOrR, ap_chR, ap_chT, ap_truR, ap_tNotR, ap_tAndR, ap_tOrR, ap_seqR, ap_rngR1, ap_rngR2, ap_enumR, ap_zipR, ap_sliceR, ap_tupR, ap_lstR, ap_starR, ap_augS, ap_asgS, ap_par2, ap_ownM, ap_valM, ap_appS, ap_extS, ap_putS, ap_revR, rb_ok, rn_ok, ro_ok, tr_some, getS, getB, toRes, a1, sums_L]
  rw [d__law_power_sum, pureF_ok (by simp [noRefs, D.noRef, noRefs_ints]) r]
/-! ### the power sums -/
theorem S_zero {l : List Int} {n : Int} (hl : Lot l n) : S l 0 = l.sum := by
  rw [← sqs_sum (k := 0) (fun y m => by have := hl.pos y m; omega)]
  unfold S
  generalize sqs 0 l = T
  induction T with
  | nil => rfl
  | cons p T ih => rw [List.map_cons, List.sum_cons, ih, List.length_cons]; simp; omega
theorem S_one (l : List Int) : S l 1 = ((sqs 0 l).map ct).sum := by
  unfold S
  congr 1
  exact List.map_congr_left fun p _ => Int.pow_one _
theorem S_turn {l : List Int} (hd : l.Pairwise (· ≥ ·)) (e : Nat) : S (conj l) e = (-1) ^ e * S l e := by
  unfold S
  rw [sum_perm ((conj_perm hd).map _), List.map_map]
  generalize sqs 0 l = T
  induction T with
  | nil => simp
  | cons p T ih =>
    rw [List.map_cons, List.sum_cons, ih, List.map_cons, List.sum_cons, Int.mul_add]
    congr 1
    show ((p.1 : Int) - (p.2 : Int)) ^ e = (-1) ^ e * ((p.2 : Int) - (p.1 : Int)) ^ e
    rw [← Int.mul_pow]
    congr 1
    omega
theorem sqs_app : ∀ (a b : List Int) (k : Nat), sqs k (a ++ b) = sqs k a ++ sqs (k + a.length) b
  | [], b, k => rfl
  | x :: a, b, k => by
    rw [List.cons_append, sqs, sqs_app a b (k + 1), sqs, List.append_assoc, List.length_cons]
    congr 3
    omega
/-- what is left when the row x behind a loses a square -/
def rest (a b : List Int) (x : Int) : List Int := if x = 1 then a else a ++ (x - 1) :: b
structure Corner (a b : List Int) (x : Int) : Prop where
  hd : ∀ y ∈ b, y < x
theorem rest_filter {a b : List Int} {x n : Int} (hl : Lot (a ++ x :: b) n) (hc : Corner a b x) : (a ++ (x - 1) :: b).filter (fun y => decide (0 < y)) = rest a b x := by
  have ha : a.filter (fun y => decide (0 < y)) = a := List.filter_eq_self.mpr fun y m => by
    have := hl.pos y (by simp [m])
    simp; omega
  have hx := hl.pos x (by simp)
  by_cases h1 : x = 1
  · have hb : b = [] := by
      cases b with
      | nil => rfl
      | cons y r =>
        have h2 := hc.hd y List.mem_cons_self
        have h3 := hl.pos y (by simp)
        omega
    subst hb
    rw [rest, if_pos h1, List.filter_append, ha, h1]
    simp
  · rw [rest, if_neg h1]
    refine List.filter_eq_self.mpr fun y m => ?_
    simp only [List.mem_append, List.mem_cons] at m
    rcases m with m | rfl | m
    · have := hl.pos y (by simp [m])
      simp; omega
    · simp; omega
    · have := hl.pos y (by simp [m])
      simp; omega
theorem rest_lot {a b : List Int} {x n : Int} (hl : Lot (a ++ x :: b) n) (hc : Corner a b x) : Lot (rest a b x) (n - 1) := by
  have hx := hl.pos x (by simp)
  obtain ⟨d1, d2, d3⟩ := List.pairwise_append.mp hl.desc
  obtain ⟨d4, d5⟩ := List.pairwise_cons.mp d2
  have hs := hl.sum
  rw [List.sum_append, List.sum_cons] at hs
  by_cases h1 : x = 1
  · have hb : b = [] := by
      cases b with
      | nil => rfl
      | cons y r =>
        have h2 := hc.hd y List.mem_cons_self
        have h3 := hl.pos y (by simp)
        omega
    subst hb
    rw [rest, if_pos h1]
    refine ⟨fun y m => hl.pos y (by simp [m]), d1, ?_⟩
    simp at hs
    omega
  · rw [rest, if_neg h1]
    refine ⟨fun y m => ?_, List.pairwise_append.mpr ⟨d1, List.pairwise_cons.mpr ⟨fun y m => ?_, d5⟩, fun y m z m' => ?_⟩, ?_⟩
    · simp only [List.mem_append, List.mem_cons] at m
      rcases m with m | rfl | m
      · exact hl.pos y (by simp [m])
      · omega
      · exact hl.pos y (by simp [m])
    · have := hc.hd y m
      omega
    · rcases List.mem_cons.mp m' with rfl | m'
      · have := d3 y m x List.mem_cons_self
        omega
      · exact d3 y m z (List.mem_cons_of_mem _ m')
    · rw [List.sum_append, List.sum_cons]
      omega
theorem rest_S {a b : List Int} {x n : Int} (hl : Lot (a ++ x :: b) n) (hc : Corner a b x) (e : Nat) : S (a ++ x :: b) e - S (rest a b x) e = (x - 1 - a.length) ^ e := by
  have hx := hl.pos x (by simp)
  have key : ∀ k, sqs k (x :: b) = ((List.range (x - 1).toNat).map fun c => (k, c)) ++ (k, (x - 1).toNat) :: sqs (k + 1) b := by
    intro k
    rw [sqs, show x.toNat = (x - 1).toNat + 1 by omega, List.range_succ, List.map_append, List.append_assoc]
    rfl
  have hct : ct (a.length, (x - 1).toNat) = x - 1 - a.length := by
    show (((x - 1).toNat : Nat) : Int) - (a.length : Int) = _
    omega
  by_cases h1 : x = 1
  · have hb : b = [] := by
      cases b with
      | nil => rfl
      | cons y r =>
        have h2 := hc.hd y List.mem_cons_self
        have h3 := hl.pos y (by simp)
        omega
    subst hb
    rw [rest, if_pos h1]
    unfold S
    rw [sqs_app, Nat.zero_add, key, ← hct]
    have z : (x - 1).toNat = 0 := by omega
    rw [z]
    simp [sqs]
    omega
  · rw [rest, if_neg h1]
    unfold S
    rw [sqs_app, sqs_app, Nat.zero_add, key, ← hct, sqs]
    simp only [List.map_append, List.sum_append, List.map_cons, List.sum_cons]
    omega
/-! ### rows that can lose a square -/
theorem enums_get : ∀ {l : List Int} {k : Nat} {p : Nat × Int}, p ∈ enums k l → ∃ i, p.1 = k + i ∧ l[i]? = some p.2
  | x :: l, k, p, m => by
    rw [enums] at m
    rcases List.mem_cons.mp m with rfl | m
    · exact ⟨0, rfl, rfl⟩
    · obtain ⟨i, h1, h2⟩ := enums_get m
      exact ⟨i + 1, by omega, by simpa using h2⟩
theorem split_at {l : List Int} {i : Nat} {x : Int} (h : l[i]? = some x) : l = l.take i ++ x :: l.drop (i + 1) ∧ (l.take i).length = i := by
  obtain ⟨hi, e⟩ := List.getElem?_eq_some_iff.mp h
  refine ⟨?_, by rw [List.length_take]; omega⟩
  rw [← e, ← List.drop_eq_getElem_cons hi, List.take_append_drop]
theorem cut_to (l : List Int) (i : Nat) : Sw.cutD (l.map D.int) none (some (i : Int)) = (l.take i).map .int := by
  unfold Sw.cutD
  rw [HT.sIx_none, show HT.sIx (l.map D.int).length (l.map D.int).length (some (i : Int)) = min i (l.map D.int).length from HT.sIx_nat _ _ i, List.drop_zero, Nat.sub_zero, List.map_take]
  rcases Nat.le_total i (l.map D.int).length with h | h
  · rw [Nat.min_eq_left h]
  · rw [Nat.min_eq_right h, List.take_of_length_le (Nat.le_refl _), List.take_of_length_le h]
theorem cut_from (l : List Int) (i : Nat) : Sw.cutD (l.map D.int) (some (i : Int)) none = (l.drop i).map .int := by
  unfold Sw.cutD
  rw [HT.sIx_none, show HT.sIx (l.map D.int).length 0 (some (i : Int)) = min i (l.map D.int).length from HT.sIx_nat _ _ i, List.map_drop]
  rcases Nat.le_total i (l.map D.int).length with h | h
  · rw [Nat.min_eq_left h, List.take_of_length_le (by rw [List.length_drop]; exact Nat.le_refl _)]
  · rw [Nat.min_eq_right h, List.drop_of_length_le (Nat.le_refl _), List.drop_of_length_le h]
    simp
theorem sort_desc {l : List Int} (h : l.Pairwise (· ≥ ·)) : (sortI l).reverse = l := ge_unique ((List.reverse_perm _).trans (sortI_perm l)) (List.pairwise_reverse.mpr (sortI_sorted l)) h
theorem lot_of_ok {c r : List Int} (hz : c.length ≤ 1000) (hr : c.filter (fun y => decide (0 < y)) = r) (hd : r.Pairwise (· ≥ ·)) (h : HS) : d_lot_of [.lst (c.map .int)] h = .ok (.tup (r.map .int)) h := by
  have e : lcL (gN 1) (cmpT iGt (nS 1) (kD (.int 0))) (nS 1) [.val (.lst (c.map .int)), .un] (c.map .int) [] = .ok (r.map .int) [] := by
    rw [← hr]
    refine lcL_ok .int (fun y => decide (0 < y)) .int c fun x _ => ⟨_, rfl, ?_, fun _ => ?_⟩ <;> simp [ap_iSub, ap_addD, ap_mulD, ap_iLt, ap_iLe, ap_iGt, ap_iGe, ap_iMod, ap_iDiv, ap_ifR, ap_nS, ap_nB, ap_kD, ap_aN, ap_tY, ap_oN, ap_oS, ap_rT, ap_xS, ap_bkS, ap_ctS, ap_noS, ap_rN, ap_frS, ap_mN, ap_shR, ap_seqS, ap_iteS, ap_cmpT, ap_setS, ap_setN, ap_nilS, ap_res1, ap_res2, ap_refIxR, ap_rputS, ap_consR, ap_callR, ap_biR, ap_isiR, ap_bAndR, ap_bNotR, ap_bOrR, ap_chR, ap_chT, ap_truR, ap_tNotR, ap_tAndR, ap_tOrR, ap_seqR, ap_rngR1, ap_rngR2, ap_enumR, ap_zipR, ap_sliceR, ap_tupR, ap_lstR, ap_starR, ap_augS, ap_asgS, ap_par2, ap_ownM, ap_valM, ap_appS, ap_extS, ap_putS, ap_revR, rb_ok, rn_ok, ro_ok, tr_some, getS, getB, toRes]
  have f : fits c.length = true := fits_of (by omega)
  have q : fnR 2 b_lot_of [.lst (c.map .int)] [] = .ok (.tup (r.map .int)) [] := by
    rw [ap_fnR, b_lot_of]
    simp only [List.map_cons, List.map_nil, List.length_cons, List.length_nil, List.replicate, List.cons_append, List.nil_append]
    have e1 : sortRR (lcR (seqR (nS 0)) [1] (gN 1) (cmpT iGt (nS 1) (kD (.int 0))) (nS 1)) [.val (.lst (c.map .int)), .un] [] = .ok (.lst (r.map .int)) [] := by
      unfold sortRR
      simp only [ap_iSub, ap_addD, ap_mulD, ap_iLt, ap_iLe, ap_iGt, ap_iGe, ap_iMod, ap_iDiv, ap_ifR, ap_nS, ap_nB, ap_kD, ap_aN, ap_tY, ap_oN, ap_oS, ap_rT, ap_xS, ap_bkS, ap_ctS, ap_noS, ap_rN, ap_frS, ap_mN, ap_shR, ap_seqS, ap_iteS, ap_cmpT, ap_setS, ap_setN, ap_nilS, ap_res1, ap_res2, ap_refIxR, ap_rputS, ap_consR, ap_callR, ap_biR, ap_isiR, ap_bAndR, ap_bNotR, ap_bOrR, ap_chR, ap_chT, ap_truR, ap_tNotR, ap_tAndR, ap_tOrR, ap_seqR, ap_rngR1, ap_rngR2, ap_enumR, ap_zipR, ap_sliceR, ap_tupR, ap_lstR, ap_starR, ap_augS, ap_asgS, ap_par2, ap_ownM, ap_valM, ap_appS, ap_extS, ap_putS, ap_revR, rb_ok, rn_ok, ro_ok, tr_some, getS, getB, toRes, ap_lcR, List.getElem?_cons_zero, List.length_map, f, if_true, wipeT, List.set, e, Sw.ints_map, sort_desc hd]
    simp only [ap_iSub, ap_addD, ap_mulD, ap_iLt, ap_iLe, ap_iGt, ap_iGe, ap_iMod, ap_iDiv, ap_ifR, ap_nS, ap_nB, ap_kD, ap_aN, ap_tY, ap_oN, ap_oS, ap_rT, ap_xS, ap_bkS, ap_ctS, ap_noS, ap_rN, ap_frS, ap_mN, ap_shR, ap_seqS, ap_iteS, ap_cmpT, ap_setS, ap_setN, ap_nilS, ap_res1, ap_res2, ap_refIxR, ap_rputS, ap_consR, ap_callR, ap_biR, ap_isiR, ap_bAndR, ap_bNotR, ap_bOrR, ap_chR, ap_chT, ap_truR, ap_tNotR, ap_tAndR, ap_tOrR, ap_seqR, ap_rngR1, ap_rngR2, ap_enumR, ap_zipR, ap_sliceR, ap_tupR, ap_lstR, ap_starR, ap_augS, ap_asgS, ap_par2, ap_ownM, ap_valM, ap_appS, ap_extS, ap_putS, ap_revR, rb_ok, rn_ok, ro_ok, tr_some, getS, getB, toRes, e1, tupG]
  rw [d_lot_of, pureF_ok (by simp [noRefs, D.noRef, noRefs_ints]) q]
abbrev lotD (r : List Int) : D := .tup (r.map .int)
theorem py_lots : ∀ ls : List (List Int), pyAll (ls.map lotD) = some (ls.map fun r => .tuple (r.map PyData.int))
  | [] => by rw [List.map_nil, pyAll]; rfl
  | r :: ls => by rw [List.map_cons, pyAll, lotD, D.py, py_ints, Option.map_some, py_lots ls]; rfl
theorem insB_perm {α : Type} {le : α → α → Bool} (x : α) : ∀ l : List α, (insB le x l).Perm (x :: l)
  | [] => .refl _
  | y :: r => by
    show (if le x y then x :: y :: r else y :: insB le x r).Perm _
    split
    · exact .refl _
    · exact ((insB_perm x r).cons y).trans (List.Perm.swap x y r)
theorem sortB_perm {α : Type} {le : α → α → Bool} : ∀ l : List α, (sortB le l).Perm l
  | [] => .refl _
  | x :: r => (insB_perm x _).trans ((sortB_perm r).cons x)
theorem zip_fst {α β : Type} : ∀ {a : List α} {b : List β}, a.length = b.length → (a.zip b).map (·.1) = a
  | [], [], _ => rfl
  | x :: a, y :: b, h => by rw [List.zip_cons_cons, List.map_cons, zip_fst (by simpa using h)]
/-- lots sorted: the same lots -/
theorem sort_lots (ls : List (List Int)) (h : ls.length ≤ 1 ∨ ∀ r ∈ ls, r ≠ []) : ∃ ys, sortsD [.lst (ls.map lotD)] = some (.lst ys) ∧ ys.Perm (ls.map lotD) := by
  cases ls with
  | nil => exact ⟨[], by simp [sortsD, sortsG, sortLG, intsD, sortI], .refl _⟩
  | cons r0 ls0 =>
    generalize hls : r0 :: ls0 = ls at *
    have i0 : intsD (ls.map lotD) = none := by rw [← hls]; rfl
    have s0 : sortsG [.lst (ls.map lotD)] = none := by simp only [sortsG, sortLG, sortTG, i0, Option.map_none, Option.or_none]
    by_cases ok : sortOk (ls.map fun r => .tuple (r.map PyData.int)) = true
    · refine ⟨_, by simp only [sortsD, s0, sortDG, py_lots, ok, if_true, Option.none_or, Option.some_or]; rfl, ?_⟩
      have := (sortB_perm (le := lePy) ((ls.map lotD).zip (ls.map fun r => PyData.tuple (r.map PyData.int)))).map (·.1)
      rw [zip_fst (by simp)] at this
      exact this
    · rcases h with h | h
      · exact ⟨_, by simp only [sortsD, s0, sortDG, py_lots, ok, Bool.false_eq_true, if_false, Option.none_or, sort1G, List.length_map, if_pos h], .refl _⟩
      · exfalso
        apply ok
        unfold sortOk
        simp only [Bool.and_eq_true, Bool.or_eq_true, List.all_eq_true, decide_eq_true_eq]
        refine ⟨fun d m e m' => ?_, .inl fun d m => ?_, fun d m => ?_⟩
        · obtain ⟨a, _, rfl⟩ := List.mem_map.mp m
          obtain ⟨b, _, rfl⟩ := List.mem_map.mp m'
          exact PySem.W.alike_ints a b
        · obtain ⟨a, ha, rfl⟩ := List.mem_map.mp m
          cases a with
          | nil => exact absurd rfl (h _ ha)
          | cons y r => rfl
        · obtain ⟨a, ha, rfl⟩ := List.mem_map.mp m
          show PyData.depthAll (a.map PyData.int) + 1 ≤ 60
          rw [PySem.W.depth_ints]
          decide
/-- the row p can lose a square -/
def cn (l : List Int) (p : Nat × Int) : Bool := decide (p.1 + 1 = l.length) || decide (l.getD (p.1 + 1) 0 < p.2)
abbrev rs (l : List Int) (p : Nat × Int) : List Int := rest (l.take p.1) (l.drop (p.1 + 1)) p.2
theorem corner {l : List Int} {n : Int} (hl : Lot l n) {p : Nat × Int} (hp : l[p.1]? = some p.2) (hc : cn l p = true) : Corner (l.take p.1) (l.drop (p.1 + 1)) p.2 := by
  constructor
  intro y m
  obtain ⟨j, hj⟩ := List.getElem?_of_mem m
  rw [List.getElem?_drop] at hj
  have hlen := (List.getElem?_eq_some_iff.mp hj).1
  unfold cn at hc
  rw [Bool.or_eq_true, decide_eq_true_eq, decide_eq_true_eq] at hc
  rcases hc with hc | hc
  · omega
  · have h1 : p.1 + 1 < l.length := by omega
    rw [List.getD_eq_getElem?_getD, List.getElem?_eq_getElem h1] at hc
    have hc : l[p.1 + 1] < p.2 := hc
    cases j with
    | zero =>
      rw [Nat.add_zero, List.getElem?_eq_getElem h1] at hj
      cases hj
      exact hc
    | succ j =>
      have e : l[p.1 + 1 + (j + 1)] = y := (List.getElem?_eq_some_iff.mp hj).2
      have := List.pairwise_iff_getElem.mp hl.desc (p.1 + 1) (p.1 + 1 + (j + 1)) h1 hlen (by omega)
      omega
theorem rs_lot {l : List Int} {n : Int} (hl : Lot l n) {p : Nat × Int} (hp : l[p.1]? = some p.2) (hc : cn l p = true) : Lot (rs l p) (n - 1) := by
  have s := (split_at hp).1
  have hl' := hl
  rw [s] at hl'
  exact rest_lot hl' (corner hl hp hc)
theorem rs_S {l : List Int} {n : Int} (hl : Lot l n) {p : Nat × Int} (hp : l[p.1]? = some p.2) (hc : cn l p = true) (e : Nat) : S l e - S (rs l p) e = (p.2 - 1 - p.1) ^ e := by
  obtain ⟨s, k⟩ := split_at hp
  have hl' := hl
  rw [s] at hl'
  have := rest_S hl' (corner hl hp hc) e
  rw [k, ← s] at this
  exact this
theorem take1 {l : List Int} {n : Int} (hl : Lot l n) (hn : n ≤ 24) (p : Nat × Int) (hp : l[p.1]? = some p.2) (hc : cn l p = true) (τ : List Sl) (h0 : τ[0]? = some (.val (.tup (l.map .int)))) (h2 : τ[2]? = some (.val (.int (p.1 : Nat)))) (h3 : τ[3]? = some (.val (.int p.2))) :
    callR 1 d_lot_of (consR (lstR (starR (sliceR (nS 0) oN (oS (nS 2))) (consR (res2 iSub (nS 3) (kD (.int 1))) (starR (sliceR (nS 0) (oS (res2 addD (nS 2) (kD (.int 1)))) oN) aN)))) aN) τ [] = .ok (lotD (rs l p)) [] := by
  obtain ⟨z1, z2⟩ := fit_le hl hn
  obtain ⟨s, k⟩ := split_at hp
  have hl' := hl
  rw [s] at hl'
  have hf := rest_filter hl' (corner hl hp hc)
  have hz : (l.take p.1 ++ (p.2 - 1) :: l.drop (p.1 + 1)).length ≤ 1000 := by
    have : (l.take p.1 ++ (p.2 - 1) :: l.drop (p.1 + 1)).length = l.length := by
      conv => rhs; rw [s]
      simp
    omega
  have fz := fits_of (Nat.le_trans hz (by decide))
  have lo := lot_of_ok hz hf (rs_lot hl hp hc).desc []
  rw [List.map_append, List.map_cons] at lo
  have c1 := cut_to l p.1
  have c2 := cut_from l (p.1 + 1)
  have e1 : (((p.1 + 1 : Nat) : Int)) = (p.1 : Int) + 1 := by omega
  rw [e1] at c2
  have fz' : fits ((l.take p.1).map D.int ++ D.int (p.2 - 1) :: (l.drop (p.1 + 1)).map D.int).length = true := by
    have : ((l.take p.1).map D.int ++ D.int (p.2 - 1) :: (l.drop (p.1 + 1)).map D.int).length = (l.take p.1 ++ (p.2 - 1) :: l.drop (p.1 + 1)).length := by simp
    rw [this]; exact fz
  simp only [ap_iSub, ap_addD, ap_mulD, ap_iLt, ap_iLe, ap_iGt, ap_iGe, ap_iMod, ap_iDiv, ap_ifR, ap_nS, ap_nB, ap_kD, ap_aN, ap_tY, ap_oN, ap_oS, ap_rT, ap_xS, ap_bkS, ap_ctS, ap_noS, ap_rN, ap_frS, ap_mN, ap_shR, ap_seqS, ap_iteS, ap_cmpT, ap_setS, ap_setN, ap_nilS, ap_res1, ap_res2, ap_refIxR, ap_rputS, ap_consR, ap_callR, ap_biR, ap_isiR, ap_bAndR, ap_bNotR, ap_bOrR, ap_chR, ap_chT, ap_truR, ap_tNotR, ap_tAndR, ap_tOrR, ap_seqR, ap_rngR1, ap_rngR2, ap_enumR, ap_zipR, ap_sliceR, ap_tupR, ap_lstR, ap_starR, ap_augS, ap_asgS, ap_par2, ap_ownM, ap_valM, ap_appS, ap_extS, ap_putS, ap_revR, rb_ok, rn_ok, ro_ok, tr_some, getS, getB, toRes, h0, h2, h3, sliceD, c1, c2, List.append_nil, fz', if_true, List.length_cons, List.length_nil, lo]
theorem less_ok {l : List Int} {n : Int} (hl : Lot l n) (hn : n ≤ 24) (h : HS) : ∃ ys, d_less_square [.tup (l.map .int)] h = .ok (.tup ys) h ∧ ys.Perm ((((enums 0 l).filter (cn l)).map (rs l)).map lotD) := by
  obtain ⟨z1, z2⟩ := fit_le hl hn
  obtain ⟨τ2, h2, e, ⟨s2', s3', hτ⟩, rfl⟩ := forS_at (fun p : Nat × Int => .tup [.int (p.1 : Nat), .int p.2]) (enums 0 l) (fun done τ h => (∃ s2 s3, τ = [.val (.tup (l.map .int)), .own (((done.filter (cn l)).map (rs l)).map lotD), s2, s3]) ∧ h = [])
    (g := gT (gConsT (gN 2) (gConsT (gN 3) gNilT))) (b := iteS (tOrR (cmpT eqD (res2 addD (nS 2) (kD (.int 1))) (biR lenG (consR (nS 0) aN))) (cmpT iLt (res2 atD (nS 0) (res2 addD (nS 2) (kD (.int 1)))) (nS 3))) (appS 1 (callR 1 d_lot_of (consR (lstR (starR (sliceR (nS 0) oN (oS (nS 2))) (consR (res2 iSub (nS 3) (kD (.int 1))) (starR (sliceR (nS 0) (oS (res2 addD (nS 2) (kD (.int 1)))) oN) aN)))) aN))) nilS) (fun done p r τ h ea hi => by
      obtain ⟨⟨u2, u3, rfl⟩, rfl⟩ := hi
      obtain ⟨i, i1, hp⟩ := enums_get (show p ∈ enums 0 l by rw [ea]; simp)
      rw [Nat.zero_add] at i1
      subst i1
      have hi := (List.getElem?_eq_some_iff.mp hp).1
      have hlen : done.length ≤ 24 := by
        have := enums_len l 0
        rw [ea, List.length_append] at this
        omega
      have hfl : (((done.filter (cn l)).map (rs l)).map lotD).length < sizeLine := by
        rw [List.length_map, List.length_map]
        have := List.length_filter_le (cn l) done
        exact Nat.lt_trans (by omega) sl1000000
      refine ⟨_, [.val (.tup (l.map .int)), .own ((((done ++ [p]).filter (cn l)).map (rs l)).map lotD), .val (.int (p.1 : Nat)), .val (.int p.2)], [], rfl, ?_, ⟨_, _, rfl⟩, rfl⟩
      have eq1 : eqD (.int ((p.1 : Int) + 1)) (.int (l.length : Int)) = some (.bl (decide (p.1 + 1 = l.length))) := by
        unfold eqD
        rw [eqB_int]
        simp only [Option.map_some]
        congr 2
        exact decide_eq_decide.mpr (by omega)
      have t : tOrR (cmpT eqD (res2 addD (nS 2) (kD (.int 1))) (biR lenG (consR (nS 0) aN))) (cmpT iLt (res2 atD (nS 0) (res2 addD (nS 2) (kD (.int 1)))) (nS 3)) [.val (.tup (l.map .int)), .own (((done.filter (cn l)).map (rs l)).map lotD), .val (.int (p.1 : Nat)), .val (.int p.2)] [] = .ok (cn l p) [] := by
        by_cases hlast : p.1 + 1 = l.length
        · have c : cn l p = true := by unfold cn; rw [decide_eq_true hlast]; rfl
          rw [c]
          simp only [ap_iSub, ap_addD, ap_mulD, ap_iLt, ap_iLe, ap_iGt, ap_iGe, ap_iMod, ap_iDiv, ap_ifR, ap_nS, ap_nB, ap_kD, ap_aN, ap_tY, ap_oN, ap_oS, ap_rT, ap_xS, ap_bkS, ap_ctS, ap_noS, ap_rN, ap_frS, ap_mN, ap_shR, ap_seqS, ap_iteS, ap_cmpT, ap_setS, ap_setN, ap_nilS, ap_res1, ap_res2, ap_refIxR, ap_rputS, ap_consR, ap_callR, ap_biR, ap_isiR, ap_bAndR, ap_bNotR, ap_bOrR, ap_chR, ap_chT, ap_truR, ap_tNotR, ap_tAndR, ap_tOrR, ap_seqR, ap_rngR1, ap_rngR2, ap_enumR, ap_zipR, ap_sliceR, ap_tupR, ap_lstR, ap_starR, ap_augS, ap_asgS, ap_par2, ap_ownM, ap_valM, ap_appS, ap_extS, ap_putS, ap_revR, rb_ok, rn_ok, ro_ok, tr_some, getS, getB, toRes, List.getElem?_cons_zero, List.getElem?_cons_succ, lenG, List.length_map, eq1, hlast, decide_true, if_true]
        · have h1 : p.1 + 1 < l.length := by omega
          have c : cn l p = decide (l[p.1 + 1] < p.2) := by
            unfold cn
            rw [decide_eq_false hlast, Bool.false_or, List.getD_eq_getElem?_getD, List.getElem?_eq_getElem h1]
            rfl
          have a1 : atD (.tup (l.map .int)) (.int ((p.1 : Int) + 1)) = some (.int l[p.1 + 1]) := by
            have q1 : (0 : Int) ≤ (p.1 : Int) + 1 := by omega
            have q2 : (p.1 : Int) + 1 < (l.length : Int) := by omega
            have q3 : ((p.1 : Int) + 1).toNat = p.1 + 1 := by omega
            simp only [atD, L2.atI, L2.ixN, List.length_map, if_pos q1, if_pos q2, Option.bind_some, q3, List.getElem?_map, List.getElem?_eq_getElem h1, Option.map_some]
          rw [c]
          simp only [ap_iSub, ap_addD, ap_mulD, ap_iLt, ap_iLe, ap_iGt, ap_iGe, ap_iMod, ap_iDiv, ap_ifR, ap_nS, ap_nB, ap_kD, ap_aN, ap_tY, ap_oN, ap_oS, ap_rT, ap_xS, ap_bkS, ap_ctS, ap_noS, ap_rN, ap_frS, ap_mN, ap_shR, ap_seqS, ap_iteS, ap_cmpT, ap_setS, ap_setN, ap_nilS, ap_res1, ap_res2, ap_refIxR, ap_rputS, ap_consR, ap_callR, ap_biR, ap_isiR, ap_bAndR, ap_bNotR, ap_bOrR, ap_chR, ap_chT, ap_truR, ap_tNotR, ap_tAndR, ap_tOrR, ap_seqR, ap_rngR1, ap_rngR2, ap_enumR, ap_zipR, ap_sliceR, ap_tupR, ap_lstR, ap_starR, ap_augS, ap_asgS, ap_par2, ap_ownM, ap_valM, ap_appS, ap_extS, ap_putS, ap_revR, rb_ok, rn_ok, ro_ok, tr_some, getS, getB, toRes, List.getElem?_cons_zero, List.getElem?_cons_succ, lenG, List.length_map, eq1, hlast, decide_false, Bool.false_eq_true, if_false, a1]
      rw [ap_iteS]
      show RS.ofR (tOrR _ _ [.val (.tup (l.map .int)), .own (((done.filter (cn l)).map (rs l)).map lotD), .val (.int (p.1 : Nat)), .val (.int p.2)] []) _ _ = _
      rw [t, ro_ok]
      rw [List.filter_append]
      by_cases c : cn l p = true
      · rw [if_pos c]
        have tk := take1 hl hn p hp c [.val (.tup (l.map .int)), .own (((done.filter (cn l)).map (rs l)).map lotD), .val (.int (p.1 : Nat)), .val (.int p.2)] rfl rfl rfl
        rw [ap_appS]
        show RS.ofR (callR 1 d_lot_of _ [.val (.tup (l.map .int)), .own (((done.filter (cn l)).map (rs l)).map lotD), .val (.int (p.1 : Nat)), .val (.int p.2)] []) _ _ = _
        rw [tk, ro_ok]
        have hc1 : [p].filter (cn l) = [p] := by rw [List.filter_cons_of_pos c]; rfl
        rw [hc1, List.map_append, List.map_append]
        refine (if_pos (c := decide ((((done.filter (cn l)).map (rs l)).map lotD).length < sizeLine) = true) (decide_eq_true hfl)).trans ?_
        rfl
      · rw [if_neg c]
        have hc1 : [p].filter (cn l) = [] := by rw [List.filter_cons_of_neg c]; rfl
        rw [hc1, List.append_nil]
        rfl) (enums 0 l) [] [.val (.tup (l.map .int)), .own [], .un, .un] [] rfl ⟨⟨_, _, rfl⟩, rfl⟩
  have sm : (((enums 0 l).filter (cn l)).map (rs l)).length ≤ 1 ∨ ∀ r ∈ ((enums 0 l).filter (cn l)).map (rs l), r ≠ [] := by
    by_cases h1 : n ≤ 1
    · refine .inl ?_
      rw [List.length_map]
      have q1 := List.length_filter_le (cn l) (enums 0 l)
      have q2 := enums_len l 0
      have q3 := (lotLe hl.pos hl.sum).2
      omega
    · refine .inr fun r m z => ?_
      obtain ⟨p, hp, rfl⟩ := List.mem_map.mp m
      obtain ⟨hp1, hp2⟩ := List.mem_filter.mp hp
      obtain ⟨i, i1, hg⟩ := enums_get hp1
      rw [Nat.zero_add] at i1
      subst i1
      have := (rs_lot hl hg hp2).sum
      rw [z] at this
      simp at this
      omega
  obtain ⟨ys, e1, e2⟩ := sort_lots _ sm
  refine ⟨ys, ?_, e2⟩
  have r : fnR 4 b_less_square [.tup (l.map .int)] [] = .ok (.tup ys) [] := by
    rw [ap_fnR, b_less_square]
    simp only [List.map_cons, List.map_nil, List.length_cons, List.length_nil, List.replicate, List.cons_append, List.nil_append]
    simp only [ap_iSub, ap_addD, ap_mulD, ap_iLt, ap_iLe, ap_iGt, ap_iGe, ap_iMod, ap_iDiv, ap_ifR, ap_nS, ap_nB, ap_kD, ap_aN, ap_tY, ap_oN, ap_oS, ap_rT, ap_xS, ap_bkS, ap_ctS, ap_noS, ap_rN, ap_frS, ap_mN, ap_shR, ap_seqS, ap_iteS, ap_cmpT, ap_setS, ap_setN, ap_nilS, ap_res1, ap_res2, ap_refIxR, ap_rputS, ap_consR, ap_callR, ap_biR, ap_isiR, ap_bAndR, ap_bNotR, ap_bOrR, ap_chR, ap_chT, ap_truR, ap_tNotR, ap_tAndR, ap_tOrR, ap_seqR, ap_rngR1, ap_rngR2, ap_enumR, ap_zipR, ap_sliceR, ap_tupR, ap_lstR, ap_starR, ap_augS, ap_asgS, ap_par2, ap_ownM, ap_valM, ap_appS, ap_extS, ap_putS, ap_revR, rb_ok, rn_ok, ro_ok, tr_some, getS, getB, toRes, ap_forR, List.getElem?_cons_zero, List.getElem?_cons_succ, List.length_cons, List.length_nil, if_true, require_ok hl hn, fits_of (show 0 ≤ 1000000 by decide), ownSl, List.set, enum_ok, e, hτ, e1, tupG]
  rw [d_less_square, pureF_ok (by simp [noRefs, D.noRef, noRefs_ints]) r]
/-- the row that lost its square -/
theorem row_ok {l : List Int} {n : Int} (hl : Lot l n) {p : Nat × Int} (hp : l[p.1]? = some p.2) (hc : cn l p = true) :
    (List.range l.length).filter (fun at_ => decide ((rs l p).length ≤ at_) || decide ((rs l p).getD at_ 0 < l.getD at_ 0)) ≠ [] ∧
    ((List.range l.length).filter (fun at_ => decide ((rs l p).length ≤ at_) || decide ((rs l p).getD at_ 0 < l.getD at_ 0)))[0]? = some p.1 := by
  have hi := (List.getElem?_eq_some_iff.mp hp).1
  obtain ⟨s, k⟩ := split_at hp
  have key : ((List.range l.length).filter (fun at_ => decide ((rs l p).length ≤ at_) || decide ((rs l p).getD at_ 0 < l.getD at_ 0)))[0]? = some p.1 := by
    rw [← List.head?_eq_getElem?, List.head?_filter, List.find?_range_eq_some]
    refine ⟨?_, List.mem_range.mpr hi, fun j hj => ?_⟩
    · by_cases h1 : p.2 = 1
      · have : rs l p = l.take p.1 := by show rest _ _ _ = _; rw [rest, if_pos h1]
        rw [this, k]
        simp
      · have : rs l p = l.take p.1 ++ (p.2 - 1) :: l.drop (p.1 + 1) := by show rest _ _ _ = _; rw [rest, if_neg h1]
        have e1 : (rs l p).getD p.1 0 = p.2 - 1 := by
          rw [this, List.getD_eq_getElem?_getD, List.getElem?_append_right (by omega), k]
          simp
        have e2 : l.getD p.1 0 = p.2 := by rw [List.getD_eq_getElem?_getD, hp]; rfl
        rw [e1, e2]
        simp
        omega
    · have hr : p.1 ≤ (rs l p).length ∧ (rs l p)[j]? = l[j]? := by
        have q : (l.take p.1)[j]? = l[j]? := by rw [List.getElem?_take_of_lt hj]
        by_cases h1 : p.2 = 1
        · have : rs l p = l.take p.1 := by show rest _ _ _ = _; rw [rest, if_pos h1]
          rw [this]
          exact ⟨by omega, q⟩
        · have : rs l p = l.take p.1 ++ (p.2 - 1) :: l.drop (p.1 + 1) := by show rest _ _ _ = _; rw [rest, if_neg h1]
          rw [this]
          refine ⟨by rw [List.length_append]; omega, ?_⟩
          rw [List.getElem?_append_left (by omega)]
          exact q
      rw [List.getD_eq_getElem?_getD, List.getD_eq_getElem?_getD, hr.2]
      simp
      omega
  refine ⟨fun z => ?_, key⟩
  rw [z] at key
  cases key
/-! ### the law's turn -/
theorem u1 {l : List Int} {n : Int} (hl : Lot l n) (hn : n ≤ 24) {e : Int} (he : e ∈ es) (s0 s3 s4 s5 s6 s7 : Sl) (h : HS) : t__law_right_1 [s0, .val (.tup (l.map .int)), .val (.int e), s3, s4, s5, s6, s7] h =
    .nx [s0, .val (.tup (l.map .int)), .val (.int e), .val (.int (S l e.toNat)), .val (.tup ((conj l).map .int)), s5, s6, s7] h := by
  rw [t__law_right_1]
  simp only [ap_iSub, ap_addD, ap_mulD, ap_iLt, ap_iLe, ap_iGt, ap_iGe, ap_iMod, ap_iDiv, ap_ifR, ap_nS, ap_nB, ap_kD, ap_aN, ap_tY, ap_oN, ap_oS, ap_rT, ap_xS, ap_bkS, ap_ctS, ap_noS, ap_rN, ap_frS, ap_mN, ap_shR, ap_seqS, ap_iteS, ap_cmpT, ap_setS, ap_setN, ap_nilS, ap_res1, ap_res2, ap_refIxR, ap_rputS, ap_consR, ap_callR, ap_biR, ap_isiR, ap_bAndR, ap_bNotR, ap_bOrR, ap_chR, ap_chT, ap_truR, ap_tNotR, ap_tAndR, ap_tOrR, ap_seqR, ap_rngR1, ap_rngR2, ap_enumR, ap_zipR, ap_sliceR, ap_tupR, ap_lstR, ap_starR, ap_augS, ap_asgS, ap_par2, ap_ownM, ap_valM, ap_appS, ap_extS, ap_putS, ap_revR, rb_ok, rn_ok, ro_ok, tr_some, getS, getB, toRes, List.getElem?_cons_zero, List.getElem?_cons_succ, List.length_cons, List.length_nil, if_true, power_sum_ok hl hn he, conjugate_ok hl hn, List.set]
theorem z0 : (0 : Int) ∈ es := by decide
theorem z1 : (1 : Int) ∈ es := by decide
theorem u2 {l : List Int} {n : Int} (hl : Lot l n) (hn : n ≤ 24) {e : Int} (he : e ∈ es) (s0 s4 s5 s6 s7 : Sl) (h : HS) (τ : List Sl) (hτ : τ = [s0, .val (.tup (l.map .int)), .val (.int e), .val (.int (S l e.toNat)), s4, s5, s6, s7]) : t__law_right_2 τ h = .nx τ h := by
  have n1 := ne_same (cmp_int (S l e.toNat)) (by decide)
  have n2 := ne_same (cmp_int l.sum) (by decide)
  have p0 := power_sum_ok hl hn z0 h
  rw [show (0 : Int).toNat = 0 from rfl, S_zero hl] at p0
  subst hτ
  rw [t__law_right_2]
  simp only [ap_iSub, ap_addD, ap_mulD, ap_iLt, ap_iLe, ap_iGt, ap_iGe, ap_iMod, ap_iDiv, ap_ifR, ap_nS, ap_nB, ap_kD, ap_aN, ap_tY, ap_oN, ap_oS, ap_rT, ap_xS, ap_bkS, ap_ctS, ap_noS, ap_rN, ap_frS, ap_mN, ap_shR, ap_seqS, ap_iteS, ap_cmpT, ap_setS, ap_setN, ap_nilS, ap_res1, ap_res2, ap_refIxR, ap_rputS, ap_consR, ap_callR, ap_biR, ap_isiR, ap_bAndR, ap_bNotR, ap_bOrR, ap_chR, ap_chT, ap_truR, ap_tNotR, ap_tAndR, ap_tOrR, ap_seqR, ap_rngR1, ap_rngR2, ap_enumR, ap_zipR, ap_sliceR, ap_tupR, ap_lstR, ap_starR, ap_augS, ap_asgS, ap_par2, ap_ownM, ap_valM, ap_appS, ap_extS, ap_putS, ap_revR, rb_ok, rn_ok, ro_ok, tr_some, getS, getB, toRes, List.getElem?_cons_zero, List.getElem?_cons_succ, List.length_cons, List.length_nil, if_true, lps_ok hl hn he, n1, p0, sums_T, n2, Bool.false_eq_true, if_false]
theorem sign : ∀ e ∈ es, ((-1) ^ e.toNat : Int) = 1 - 2 * e.fmod 2 := by decide +kernel
theorem u3 {l : List Int} {n : Int} (hl : Lot l n) (hn : n ≤ 24) {e : Int} (he : e ∈ es) (s0 s5 s6 s7 : Sl) (h : HS) (τ : List Sl) (hτ : τ = [s0, .val (.tup (l.map .int)), .val (.int e), .val (.int (S l e.toNat)), .val (.tup ((conj l).map .int)), s5, s6, s7]) : t__law_right_3 τ h = .nx τ h := by
  have pc := power_sum_ok hl.conj hn he h
  rw [S_turn hl.desc, sign e he, Int.mul_comm] at pc
  have n1 := ne_same (cmp_int (S l e.toNat * (1 - 2 * e.fmod 2))) (by decide)
  have p1 := power_sum_ok hl hn z1 h
  rw [show (1 : Int).toNat = 1 from rfl, S_one] at p1
  have n2 := ne_same (cmp_int ((sqs 0 l).map ct).sum) (by decide)
  have f0 := Int.fmod_nonneg_of_pos e (b := 2) (by decide)
  have f1 := Int.fmod_lt_of_pos e (b := 2) (by decide)
  have m1 : mulOk 2 (e.fmod 2) = true := mulOk_l (by decide) (by decide)
  have m2 : mulOk (S l e.toNat) (1 - 2 * e.fmod 2) = true := mulOk_r (by omega) (by omega)
  have mo : modOk e 2 = true := rfl
  subst hτ
  rw [t__law_right_3]
  simp only [ap_iSub, ap_addD, ap_mulD, ap_iLt, ap_iLe, ap_iGt, ap_iGe, ap_iMod, ap_iDiv, ap_ifR, ap_nS, ap_nB, ap_kD, ap_aN, ap_tY, ap_oN, ap_oS, ap_rT, ap_xS, ap_bkS, ap_ctS, ap_noS, ap_rN, ap_frS, ap_mN, ap_shR, ap_seqS, ap_iteS, ap_cmpT, ap_setS, ap_setN, ap_nilS, ap_res1, ap_res2, ap_refIxR, ap_rputS, ap_consR, ap_callR, ap_biR, ap_isiR, ap_bAndR, ap_bNotR, ap_bOrR, ap_chR, ap_chT, ap_truR, ap_tNotR, ap_tAndR, ap_tOrR, ap_seqR, ap_rngR1, ap_rngR2, ap_enumR, ap_zipR, ap_sliceR, ap_tupR, ap_lstR, ap_starR, ap_augS, ap_asgS, ap_par2, ap_ownM, ap_valM, ap_appS, ap_extS, ap_putS, ap_revR, rb_ok, rn_ok, ro_ok, tr_some, getS, getB, toRes, List.getElem?_cons_zero, List.getElem?_cons_succ, List.length_cons, List.length_nil, if_true, pc, mo, m1, m2, n1, p1, content_sum_ok hl hn, n2, Bool.false_eq_true, if_false]
theorem row_el {l r : List Int} (s0 s2 s3 s4 s6 s7 : Sl) (h' : HS) (f1 : fits l.length = true) (w2 : (l.length : Int) < 4611686018427387904) :
    lcR (rngR1 (biR lenG (consR (nS 1) aN))) [7] (gN 7) (tOrR (cmpT iGe (nS 7) (biR lenG (consR (nS 5) aN))) (cmpT iLt (res2 atD (nS 5) (nS 7)) (res2 atD (nS 1) (nS 7)))) (nS 7) [s0, .val (.tup (l.map .int)), s2, s3, s4, .val (lotD r), s6, s7] h' =
          .ok (.lst (((List.range l.length).filter (fun at_ => decide (r.length ≤ at_) || decide (r.getD at_ 0 < l.getD at_ 0))).map fun i => .int (i : Nat))) h' := by
  have el : lcL (gN 7) (tOrR (cmpT iGe (nS 7) (biR lenG (consR (nS 5) aN))) (cmpT iLt (res2 atD (nS 5) (nS 7)) (res2 atD (nS 1) (nS 7)))) (nS 7) [s0, .val (.tup (l.map .int)), s2, s3, s4, .val (lotD r), s6, .un] ((List.range l.length).map fun i => .int (0 + (i : Nat))) h' =
          .ok (((List.range l.length).filter (fun at_ => decide (r.length ≤ at_) || decide (r.getD at_ 0 < l.getD at_ 0))).map fun i => .int (i : Nat)) h' := by
    refine lcL_ok (fun i : Nat => .int (0 + (i : Nat))) _ (fun i : Nat => .int (i : Nat)) _ fun c m => ⟨_, rfl, ?_, fun _ => ?_⟩
    · have hcl := List.mem_range.mp m
      have a1 : atD (.tup (l.map .int)) (.int (c : Nat)) = some (.int (l.getD c 0)) := by
        simp [atD, L2.atI, L2.ixN, hcl]
      by_cases hlen : r.length ≤ c
      · have q : (r.length : Int) ≤ (c : Int) := by omega
        simp [ap_iSub, ap_addD, ap_mulD, ap_iLt, ap_iLe, ap_iGt, ap_iGe, ap_iMod, ap_iDiv, ap_ifR, ap_nS, ap_nB, ap_kD, ap_aN, ap_tY, ap_oN, ap_oS, ap_rT, ap_xS, ap_bkS, ap_ctS, ap_noS, ap_rN, ap_frS, ap_mN, ap_shR, ap_seqS, ap_iteS, ap_cmpT, ap_setS, ap_setN, ap_nilS, ap_res1, ap_res2, ap_refIxR, ap_rputS, ap_consR, ap_callR, ap_biR, ap_isiR, ap_bAndR, ap_bNotR, ap_bOrR, ap_chR, ap_chT, ap_truR, ap_tNotR, ap_tAndR, ap_tOrR, ap_seqR, ap_rngR1, ap_rngR2, ap_enumR, ap_zipR, ap_sliceR, ap_tupR, ap_lstR, ap_starR, ap_augS, ap_asgS, ap_par2, ap_ownM, ap_valM, ap_appS, ap_extS, ap_putS, ap_revR, rb_ok, rn_ok, ro_ok, tr_some, getS, getB, toRes, lenG, q, hlen]
      · have q : ¬ (r.length : Int) ≤ (c : Int) := by omega
        have hc2 : c < r.length := by omega
        have a2 : atD (.tup (r.map .int)) (.int (c : Nat)) = some (.int (r.getD c 0)) := by
          simp [atD, L2.atI, L2.ixN, hc2]
        rw [decide_eq_false hlen, Bool.false_or]
        simp only [ap_iSub, ap_addD, ap_mulD, ap_iLt, ap_iLe, ap_iGt, ap_iGe, ap_iMod, ap_iDiv, ap_ifR, ap_nS, ap_nB, ap_kD, ap_aN, ap_tY, ap_oN, ap_oS, ap_rT, ap_xS, ap_bkS, ap_ctS, ap_noS, ap_rN, ap_frS, ap_mN, ap_shR, ap_seqS, ap_iteS, ap_cmpT, ap_setS, ap_setN, ap_nilS, ap_res1, ap_res2, ap_refIxR, ap_rputS, ap_consR, ap_callR, ap_biR, ap_isiR, ap_bAndR, ap_bNotR, ap_bOrR, ap_chR, ap_chT, ap_truR, ap_tNotR, ap_tAndR, ap_tOrR, ap_seqR, ap_rngR1, ap_rngR2, ap_enumR, ap_zipR, ap_sliceR, ap_tupR, ap_lstR, ap_starR, ap_augS, ap_asgS, ap_par2, ap_ownM, ap_valM, ap_appS, ap_extS, ap_putS, ap_revR, rb_ok, rn_ok, ro_ok, tr_some, getS, getB, toRes, List.set, Int.zero_add, List.getElem?_cons_zero, List.getElem?_cons_succ, lotD, lenG, List.length_map, decide_eq_false q, Bool.false_eq_true, if_false, a1, a2]
    · simp [ap_iSub, ap_addD, ap_mulD, ap_iLt, ap_iLe, ap_iGt, ap_iGe, ap_iMod, ap_iDiv, ap_ifR, ap_nS, ap_nB, ap_kD, ap_aN, ap_tY, ap_oN, ap_oS, ap_rT, ap_xS, ap_bkS, ap_ctS, ap_noS, ap_rN, ap_frS, ap_mN, ap_shR, ap_seqS, ap_iteS, ap_cmpT, ap_setS, ap_setN, ap_nilS, ap_res1, ap_res2, ap_refIxR, ap_rputS, ap_consR, ap_callR, ap_biR, ap_isiR, ap_bAndR, ap_bNotR, ap_bOrR, ap_chR, ap_chT, ap_truR, ap_tNotR, ap_tAndR, ap_tOrR, ap_seqR, ap_rngR1, ap_rngR2, ap_enumR, ap_zipR, ap_sliceR, ap_tupR, ap_lstR, ap_starR, ap_augS, ap_asgS, ap_par2, ap_ownM, ap_valM, ap_appS, ap_extS, ap_putS, ap_revR, rb_ok, rn_ok, ro_ok, tr_some, getS, getB, toRes]
  simp only [Int.zero_add] at el
  have w1 : (-4611686018427387904 : Int) ≤ (l.length : Int) := by omega
  simp [ap_iSub, ap_addD, ap_mulD, ap_iLt, ap_iLe, ap_iGt, ap_iGe, ap_iMod, ap_iDiv, ap_ifR, ap_nS, ap_nB, ap_kD, ap_aN, ap_tY, ap_oN, ap_oS, ap_rT, ap_xS, ap_bkS, ap_ctS, ap_noS, ap_rN, ap_frS, ap_mN, ap_shR, ap_seqS, ap_iteS, ap_cmpT, ap_setS, ap_setN, ap_nilS, ap_res1, ap_res2, ap_refIxR, ap_rputS, ap_consR, ap_callR, ap_biR, ap_isiR, ap_bAndR, ap_bNotR, ap_bOrR, ap_chR, ap_chT, ap_truR, ap_tNotR, ap_tAndR, ap_tOrR, ap_seqR, ap_rngR1, ap_rngR2, ap_enumR, ap_zipR, ap_sliceR, ap_tupR, ap_lstR, ap_starR, ap_augS, ap_asgS, ap_par2, ap_ownM, ap_valM, ap_appS, ap_extS, ap_putS, ap_revR, rb_ok, rn_ok, ro_ok, tr_some, getS, getB, toRes, ap_lcR, lenG, rangeD_map, f1, w1, w2, wipeT, el]
theorem u4 {l : List Int} {n : Int} (hl : Lot l n) (hn : n ≤ 24) {e : Int} (he : e ∈ es) (s0 s4 s5 s6 s7 : Sl) (h : HS) : ∃ t5 t6, t__law_right_4 [s0, .val (.tup (l.map .int)), .val (.int e), .val (.int (S l e.toNat)), s4, s5, s6, s7] h = .nx [s0, .val (.tup (l.map .int)), .val (.int e), .val (.int (S l e.toNat)), s4, t5, t6, s7] h := by
  obtain ⟨z1, z2⟩ := fit_le hl hn
  obtain ⟨ys, ey, py⟩ := less_ok hl hn h
  obtain ⟨τ2, h2, ef, ⟨t5, t6, hτ⟩, rfl⟩ := forS_at (fun d : D => d) ys (fun done τ h' => (∃ s5 s6, τ = [s0, .val (.tup (l.map .int)), .val (.int e), .val (.int (S l e.toNat)), s4, s5, s6, s7]) ∧ h' = h)
    (g := gN 5) (b := seqS (setS 6 (res2 atD (lcR (rngR1 (biR lenG (consR (nS 1) aN))) [7] (gN 7) (tOrR (cmpT iGe (nS 7) (biR lenG (consR (nS 5) aN))) (cmpT iLt (res2 atD (nS 5) (nS 7)) (res2 atD (nS 1) (nS 7)))) (nS 7)) (kD (.int 0))))
    (iteS (cmpT neD (res2 iSub (nS 3) (callR 2 d_power_sum (consR (nS 5) (consR (nS 2) aN)))) (callR 2 d__law_sm_power (consR (res2 iSub (res2 iSub (res2 atD (nS 1) (nS 6)) (kD (.int 1))) (nS 6)) (consR (nS 2) aN)))) (rT (kD (.bl false))) nilS)) (fun done y r τ h' ea hi => by
      obtain ⟨⟨u5, u6, rfl⟩, rfl⟩ := hi
      have my : y ∈ ((((enums 0 l).filter (cn l)).map (rs l)).map lotD) := py.mem_iff.mp (by rw [ea]; simp)
      obtain ⟨r0, mr, rfl⟩ := List.mem_map.mp my
      obtain ⟨p, mp, rfl⟩ := List.mem_map.mp mr
      obtain ⟨mp1, hc⟩ := List.mem_filter.mp mp
      obtain ⟨i, i1, hp⟩ := enums_get mp1
      rw [Nat.zero_add] at i1
      subst i1
      have hi := (List.getElem?_eq_some_iff.mp hp).1
      obtain ⟨_, rk⟩ := row_ok hl hp hc
      have rl := rs_lot hl hp hc
      obtain ⟨y1, y2⟩ := fit_le rl (by omega)
      have xb := z2 p.2 (List.mem_of_getElem? hp)
      have sv := rs_S hl hp hc e.toNat
      have ps := power_sum_ok rl (by omega) he h'
      have smp := sm_ok (b := p.2 - 1 - p.1) (e := e) (by omega) (by omega) he h'
      have n1 := ne_same (cmp_int ((p.2 - 1 - p.1) ^ e.toNat)) (by decide)
      have f1 : fits l.length = true := fits_of (by omega)
      have w2 : (l.length : Int) < 4611686018427387904 := by omega
      have e0 := row_el (l := l) (r := rs l p) s0 (.val (.int e)) (.val (.int (S l e.toNat))) s4 u6 s7 h' f1 w2
      generalize (List.range l.length).filter (fun at_ => decide ((rs l p).length ≤ at_) || decide ((rs l p).getD at_ 0 < l.getD at_ 0)) = F at rk e0
      have a0 : atD (.lst (F.map fun i => .int (i : Nat))) (.int 0) = some (.int (p.1 : Nat)) := by
        have h0 : 0 < F.length := (List.getElem?_eq_some_iff.mp rk).1
        have q2 : (0 : Int) < (F.length : Int) := by omega
        simp only [atD, L2.atI, L2.ixN, List.length_map, Int.le_refl, if_true, if_pos q2, Option.bind_some, Int.toNat_zero, List.getElem?_map, rk, Option.map_some]
      have a1 : atD (.tup (l.map .int)) (.int (p.1 : Nat)) = some (.int p.2) := by
        simp [atD, L2.atI, L2.ixN, hi, (List.getElem?_eq_some_iff.mp hp).2]
      have s1 : setS 6 (res2 atD (lcR (rngR1 (biR lenG (consR (nS 1) aN))) [7] (gN 7) (tOrR (cmpT iGe (nS 7) (biR lenG (consR (nS 5) aN))) (cmpT iLt (res2 atD (nS 5) (nS 7)) (res2 atD (nS 1) (nS 7)))) (nS 7)) (kD (.int 0))) [s0, .val (.tup (l.map .int)), .val (.int e), .val (.int (S l e.toNat)), s4, .val (lotD (rs l p)), u6, s7] h' = .nx [s0, .val (.tup (l.map .int)), .val (.int e), .val (.int (S l e.toNat)), s4, .val (lotD (rs l p)), .val (.int (p.1 : Nat)), s7] h' := by
        rw [ap_setS, ap_res2, e0, rb_ok, ap_kD, rb_ok, a0]
        rfl
      have s2 : iteS (cmpT neD (res2 iSub (nS 3) (callR 2 d_power_sum (consR (nS 5) (consR (nS 2) aN)))) (callR 2 d__law_sm_power (consR (res2 iSub (res2 iSub (res2 atD (nS 1) (nS 6)) (kD (.int 1))) (nS 6)) (consR (nS 2) aN)))) (rT (kD (.bl false))) nilS [s0, .val (.tup (l.map .int)), .val (.int e), .val (.int (S l e.toNat)), s4, .val (lotD (rs l p)), .val (.int (p.1 : Nat)), s7] h' = .nx [s0, .val (.tup (l.map .int)), .val (.int e), .val (.int (S l e.toNat)), s4, .val (lotD (rs l p)), .val (.int (p.1 : Nat)), s7] h' := by
        simp only [ap_iSub, ap_addD, ap_mulD, ap_iLt, ap_iLe, ap_iGt, ap_iGe, ap_iMod, ap_iDiv, ap_ifR, ap_nS, ap_nB, ap_kD, ap_aN, ap_tY, ap_oN, ap_oS, ap_rT, ap_xS, ap_bkS, ap_ctS, ap_noS, ap_rN, ap_frS, ap_mN, ap_shR, ap_seqS, ap_iteS, ap_cmpT, ap_setS, ap_setN, ap_nilS, ap_res1, ap_res2, ap_refIxR, ap_rputS, ap_consR, ap_callR, ap_biR, ap_isiR, ap_bAndR, ap_bNotR, ap_bOrR, ap_chR, ap_chT, ap_truR, ap_tNotR, ap_tAndR, ap_tOrR, ap_seqR, ap_rngR1, ap_rngR2, ap_enumR, ap_zipR, ap_sliceR, ap_tupR, ap_lstR, ap_starR, ap_augS, ap_asgS, ap_par2, ap_ownM, ap_valM, ap_appS, ap_extS, ap_putS, ap_revR, rb_ok, rn_ok, ro_ok, tr_some, getS, getB, toRes, List.getElem?_cons_zero, List.getElem?_cons_succ, List.length_cons, List.length_nil, if_true, ps, sv, a1, smp, n1, Bool.false_eq_true, if_false]
      refine ⟨_, [s0, .val (.tup (l.map .int)), .val (.int e), .val (.int (S l e.toNat)), s4, .val (lotD (rs l p)), .val (.int (p.1 : Nat)), s7], h', rfl, ?_, ⟨_, _, rfl⟩, rfl⟩
      show seqS _ _ [s0, .val (.tup (l.map .int)), .val (.int e), .val (.int (S l e.toNat)), s4, .val (lotD (rs l p)), u6, s7] h' = _
      rw [ap_seqS, s1]
      exact s2) ys [] [s0, .val (.tup (l.map .int)), .val (.int e), .val (.int (S l e.toNat)), s4, s5, s6, s7] h rfl ⟨⟨_, _, rfl⟩, rfl⟩
  refine ⟨t5, t6, ?_⟩
  rw [t__law_right_4]
  rw [List.map_id'] at ef
  simp only [ap_iSub, ap_addD, ap_mulD, ap_iLt, ap_iLe, ap_iGt, ap_iGe, ap_iMod, ap_iDiv, ap_ifR, ap_nS, ap_nB, ap_kD, ap_aN, ap_tY, ap_oN, ap_oS, ap_rT, ap_xS, ap_bkS, ap_ctS, ap_noS, ap_rN, ap_frS, ap_mN, ap_shR, ap_seqS, ap_iteS, ap_cmpT, ap_setS, ap_setN, ap_nilS, ap_res1, ap_res2, ap_refIxR, ap_rputS, ap_consR, ap_callR, ap_biR, ap_isiR, ap_bAndR, ap_bNotR, ap_bOrR, ap_chR, ap_chT, ap_truR, ap_tNotR, ap_tAndR, ap_tOrR, ap_seqR, ap_rngR1, ap_rngR2, ap_enumR, ap_zipR, ap_sliceR, ap_tupR, ap_lstR, ap_starR, ap_augS, ap_asgS, ap_par2, ap_ownM, ap_valM, ap_appS, ap_extS, ap_putS, ap_revR, rb_ok, rn_ok, ro_ok, tr_some, getS, getB, toRes, ap_forR, List.getElem?_cons_zero, List.getElem?_cons_succ, List.length_cons, List.length_nil, if_true, ey, ef, hτ]
theorem roll_eq : d__law_roll = dRoll := by kernel_rfl
theorem pick_eq : d__law_pick = dPick := by kernel_rfl
theorem drawn_eq : d__law_lot_drawn = dLotDrawn := by kernel_rfl
theorem dice_eq : d__law_dice = dDice := by kernel_rfl
theorem right_dice {h : HS} {k : Nat} (hd : IsDice h k) : ∃ h', d__law_right [.ref k] h = .ok (.bl true) h' ∧ IsDice h' k := by
  obtain ⟨r, h1, e1, d1, r0, r1⟩ := roll_ok (m := 25) hd (by decide) (by decide)
  obtain ⟨l, h2, e2, d2, hl⟩ := lotDrawn_ok (m := r) d1 r0 (by omega)
  obtain ⟨d, h3, e3, d3, md⟩ := pick_ok (xs := es.map .int) d2 (by simp [es]) (by simp [es])
  obtain ⟨e, he, rfl⟩ := List.mem_map.mp md
  have hn : r ≤ 24 := by omega
  refine ⟨h3, ?_, d3⟩
  have f8 : fits 8 = true := fits_of (by decide)
  have f2 : fits 2 = true := fits_of (by decide)
  have t0 : t__law_right_0 [.val (.ref k), .un, .un, .un, .un, .un, .un, .un] h = .nx [.val (.ref k), .val (.tup (l.map .int)), .val (.int e), .un, .un, .un, .un, .un] h3 := by
    simp only [es, List.map_cons, List.map_nil] at e3
    rw [t__law_right_0, drawn_eq, roll_eq, pick_eq]
    simp only [ap_iSub, ap_addD, ap_mulD, ap_iLt, ap_iLe, ap_iGt, ap_iGe, ap_iMod, ap_iDiv, ap_ifR, ap_nS, ap_nB, ap_kD, ap_aN, ap_tY, ap_oN, ap_oS, ap_rT, ap_xS, ap_bkS, ap_ctS, ap_noS, ap_rN, ap_frS, ap_mN, ap_shR, ap_seqS, ap_iteS, ap_cmpT, ap_setS, ap_setN, ap_nilS, ap_res1, ap_res2, ap_refIxR, ap_rputS, ap_consR, ap_callR, ap_biR, ap_isiR, ap_bAndR, ap_bNotR, ap_bOrR, ap_chR, ap_chT, ap_truR, ap_tNotR, ap_tAndR, ap_tOrR, ap_seqR, ap_rngR1, ap_rngR2, ap_enumR, ap_zipR, ap_sliceR, ap_tupR, ap_lstR, ap_starR, ap_augS, ap_asgS, ap_par2, ap_ownM, ap_valM, ap_appS, ap_extS, ap_putS, ap_revR, rb_ok, rn_ok, ro_ok, tr_some, getS, getB, toRes, List.getElem?_cons_succ, List.getElem?_cons_zero, List.length_cons, List.length_nil, if_true, e1, e2, f8, f2, e3, gT, gConsT, gN, gNilT, Option.bind_some, List.set]
  obtain ⟨t5, t6, t4⟩ := u4 hl hn he (.val (.ref k)) (.val (.tup ((conj l).map .int))) .un .un .un h3
  rw [d__law_right, ap_fnR, b__law_right]
  simp only [List.map_cons, List.map_nil, List.length_cons, List.length_nil, List.replicate, List.cons_append, List.nil_append]
  rw [ap_seqS, t0]
  dsimp only
  rw [ap_seqS, u1 hl hn he]
  dsimp only
  rw [ap_seqS, u2 hl hn he _ _ _ _ _ _ _ rfl]
  dsimp only
  rw [ap_seqS, u3 hl hn he _ _ _ _ _ _ rfl]
  dsimp only
  rw [ap_seqS, t4]
  rfl
/-! ### the lots of small sums -/
def isLotD (d : D) : Bool := match d with
  | .tup ys => match intsD ys with
    | some is => (is.all fun y => decide (1 ≤ y)) && (((is.zip (is.drop 1)).all fun p => decide (p.2 ≤ p.1)) && decide (is.sum ≤ 24))
    | none => false
  | _ => false
def lotsB (r : Res D) : Bool := match r with
  | .ok (.lst xs) [] => xs.all isLotD && decide (xs.length ≤ 100)
  | _ => false
theorem chain_desc : ∀ {l : List Int}, (∀ p ∈ l.zip (l.drop 1), p.2 ≤ p.1) → l.Pairwise (· ≥ ·)
  | [], _ => .nil
  | [x], _ => List.pairwise_singleton _ _
  | x :: y :: r, h => by
    have ih := chain_desc (l := y :: r) fun p m => h p (by rw [List.drop_one, List.tail_cons, List.zip_cons_cons]; exact List.mem_cons_of_mem _ (by rw [List.drop_one, List.tail_cons] at m; exact m))
    have xy : y ≤ x := h (x, y) (by rw [List.drop_one, List.tail_cons, List.zip_cons_cons]; exact List.mem_cons_self)
    refine List.pairwise_cons.mpr ⟨fun z m => ?_, ih⟩
    rcases List.mem_cons.mp m with rfl | m
    · exact xy
    · exact Int.le_trans ((List.pairwise_cons.mp ih).1 z m) xy
theorem isLotD_ok {d : D} (h : isLotD d = true) : ∃ (l : List Int) (n : Int), d = lotD l ∧ Lot l n ∧ n ≤ 24 := by
  unfold isLotD at h
  split at h
  · rename_i ys
    split at h
    · rename_i is e
      simp only [Bool.and_eq_true, List.all_eq_true, decide_eq_true_eq] at h
      obtain ⟨h1, h2, h3⟩ := h
      exact ⟨is, is.sum, by rw [ints_eq e], ⟨h1, chain_desc h2, rfl⟩, h3⟩
    · cases h
  · cases h
theorem lots_all : ((List.range 7).all fun t : Nat => lotsB (fnR 6 b__law_lots [.int (t : Int)] [])) = true := by decide +kernel
theorem lots_ok {t : Int} (h0 : 0 ≤ t) (h1 : t < 7) (h : HS) : ∃ xs, d__law_lots [.int t] h = .ok (.lst xs) h ∧ xs.length ≤ 100 ∧ ∀ d ∈ xs, ∃ (l : List Int) (n : Int), d = lotD l ∧ Lot l n ∧ n ≤ 24 := by
  have := List.all_eq_true.mp lots_all t.toNat (List.mem_range.mpr (by omega))
  rw [show ((t.toNat : Nat) : Int) = t by omega] at this
  generalize hr : fnR 6 b__law_lots [.int t] [] = r at this
  unfold lotsB at this
  split at this
  · rename_i xs
    rw [Bool.and_eq_true, decide_eq_true_eq, List.all_eq_true] at this
    refine ⟨xs, ?_, this.2, fun d m => isLotD_ok (this.1 d m)⟩
    rw [d__law_lots, pureF_ok (by simp [noRefs, D.noRef]) hr]
  · cases this
theorem some_ok {t x : Int} (h0 : 0 ≤ t) (h1 : t < 7) (hx : x ∈ es) (s0 s1 s2 s5 : Sl) (h : HS) : lcR (seqR (callR 1 d__law_lots (consR (nS 3) aN))) [5] (gN 5) (cmpT neD (callR 2 d_power_sum (consR (nS 5) (consR (nS 4) aN))) (callR 2 d__law_power_sum (consR (nS 5) (consR (nS 4) aN)))) (nS 5) [s0, s1, s2, .val (.int t), .val (.int x), s5] h = .ok (.lst []) h := by
  obtain ⟨xs, e, hz, hx'⟩ := lots_ok h0 h1 h
  have fx : fits xs.length = true := fits_of (by omega)
  have el : lcL (gN 5) (cmpT neD (callR 2 d_power_sum (consR (nS 5) (consR (nS 4) aN))) (callR 2 d__law_power_sum (consR (nS 5) (consR (nS 4) aN)))) (nS 5) [s0, s1, s2, .val (.int t), .val (.int x), .un] (xs.map fun d => d) h = .ok ((xs.filter fun _ => false).map fun d => d) h := by
    refine lcL_ok (fun d : D => d) (fun _ => false) (fun d => d) xs fun d m => ⟨_, rfl, ?_, fun z => by cases z⟩
    obtain ⟨l, n, rfl, hl, hn⟩ := hx' d m
    have n1 := ne_same (cmp_int (S l x.toNat)) (by decide)
    show cmpT _ _ _ [s0, s1, s2, .val (.int t), .val (.int x), .val (lotD l)] h = _
    simp only [ap_iSub, ap_addD, ap_mulD, ap_iLt, ap_iLe, ap_iGt, ap_iGe, ap_iMod, ap_iDiv, ap_ifR, ap_nS, ap_nB, ap_kD, ap_aN, ap_tY, ap_oN, ap_oS, ap_rT, ap_xS, ap_bkS, ap_ctS, ap_noS, ap_rN, ap_frS, ap_mN, ap_shR, ap_seqS, ap_iteS, ap_cmpT, ap_setS, ap_setN, ap_nilS, ap_res1, ap_res2, ap_refIxR, ap_rputS, ap_consR, ap_callR, ap_biR, ap_isiR, ap_bAndR, ap_bNotR, ap_bOrR, ap_chR, ap_chT, ap_truR, ap_tNotR, ap_tAndR, ap_tOrR, ap_seqR, ap_rngR1, ap_rngR2, ap_enumR, ap_zipR, ap_sliceR, ap_tupR, ap_lstR, ap_starR, ap_augS, ap_asgS, ap_par2, ap_ownM, ap_valM, ap_appS, ap_extS, ap_putS, ap_revR, rb_ok, rn_ok, ro_ok, tr_some, getS, getB, toRes, List.getElem?_cons_succ, List.getElem?_cons_zero, List.length_cons, List.length_nil, if_true, power_sum_ok hl hn hx, lps_ok hl hn hx, n1]
  have e2 : (xs.filter fun _ => false) = [] := by simp
  rw [List.map_id', e2] at el
  simp only [ap_iSub, ap_addD, ap_mulD, ap_iLt, ap_iLe, ap_iGt, ap_iGe, ap_iMod, ap_iDiv, ap_ifR, ap_nS, ap_nB, ap_kD, ap_aN, ap_tY, ap_oN, ap_oS, ap_rT, ap_xS, ap_bkS, ap_ctS, ap_noS, ap_rN, ap_frS, ap_mN, ap_shR, ap_seqS, ap_iteS, ap_cmpT, ap_setS, ap_setN, ap_nilS, ap_res1, ap_res2, ap_refIxR, ap_rputS, ap_consR, ap_callR, ap_biR, ap_isiR, ap_bAndR, ap_bNotR, ap_bOrR, ap_chR, ap_chT, ap_truR, ap_tNotR, ap_tAndR, ap_tOrR, ap_seqR, ap_rngR1, ap_rngR2, ap_enumR, ap_zipR, ap_sliceR, ap_tupR, ap_lstR, ap_starR, ap_augS, ap_asgS, ap_par2, ap_ownM, ap_valM, ap_appS, ap_extS, ap_putS, ap_revR, rb_ok, rn_ok, ro_ok, tr_some, getS, getB, toRes, ap_lcR, List.getElem?_cons_succ, List.getElem?_cons_zero, List.length_cons, List.length_nil, if_true, e, fx, wipeT, List.set, el, List.map_nil]
theorem body0 {ns : List Int} (x : Nat) (u1 u2 u3 u4 u5 : Sl) (h : HS) : ∃ v2 v3 v4 h', seqS (setS 2 (callR 2 d__law_dice (consR (nS 0) (consR (nS 1) aN))))
    (seqS (iteS (tOrR (tNotR (truR (callR 1 d__law_right (consR (nS 2) aN)))) (tNotR (truR (callR 1 d__law_right (consR (nS 2) aN))))) (rT (kD (.bl false))) nilS)
    (seqS (asgS (gT (gConsT (gN 3) (gConsT (gN 4) gNilT))) (tupR (consR (callR 2 d__law_roll (consR (nS 2) (consR (kD (.int 7)) aN))) (consR (res2 addD (kD (.int 1)) (callR 2 d__law_roll (consR (nS 2) (consR (kD (.int 3)) aN)))) aN))))
    (iteS (cmpT neD (lcR (seqR (callR 1 d__law_lots (consR (nS 3) aN))) [5] (gN 5) (cmpT neD (callR 2 d_power_sum (consR (nS 5) (consR (nS 4) aN))) (callR 2 d__law_power_sum (consR (nS 5) (consR (nS 4) aN)))) (nS 5)) (lstR aN)) (rT (kD (.bl false))) nilS)))
    [.val (.frl (ns.map .int)), .val (.int (x : Nat)), u2, u3, u4, u5] h = .nx [.val (.frl (ns.map .int)), .val (.int (x : Nat)), v2, v3, v4, u5] h' := by
  obtain ⟨L, c, e1⟩ := dice_ok (h := h) (ns := ns) (i := x)
  obtain ⟨h1, r1, d1⟩ := right_dice (IsDice.last (h := h) (L := L) (c := c))
  obtain ⟨h2, r2, d2⟩ := right_dice d1
  obtain ⟨t, h3, e3, d3, t0, t1⟩ := roll_ok (m := 7) d2 (by decide) (by decide)
  obtain ⟨y, h4, e4, d4, y0, y1⟩ := roll_ok (m := 3) d3 (by decide) (by decide)
  have hx : 1 + y ∈ es := by
    have : y = 0 ∨ y = 1 ∨ y = 2 := by omega
    rcases this with rfl | rfl | rfl <;> decide
  have f2 : fits 2 = true := fits_of (by decide)
  have f0 : fits 0 = true := fits_of (by decide)
  have so := some_ok t0 t1 hx (.val (.frl (ns.map .int))) (.val (.int (x : Nat))) (.val (.ref h.length)) u5 h4
  have n0 : neD (.lst []) (.lst []) = some (.bl false) := ne_same (n := 1) (cmp_lst fun _ m => by cases m) (by decide)
  refine ⟨.val (.ref h.length), .val (.int t), .val (.int (1 + y)), h4, ?_⟩
  have s1 : setS 2 (callR 2 d__law_dice (consR (nS 0) (consR (nS 1) aN))) [.val (.frl (ns.map .int)), .val (.int (x : Nat)), u2, u3, u4, u5] h = .nx [.val (.frl (ns.map .int)), .val (.int (x : Nat)), .val (.ref h.length), u3, u4, u5] (h ++ [[.int L, .int c, .int 0]]) := by
    rw [dice_eq]
    simp only [ap_iSub, ap_addD, ap_mulD, ap_iLt, ap_iLe, ap_iGt, ap_iGe, ap_iMod, ap_iDiv, ap_ifR, ap_nS, ap_nB, ap_kD, ap_aN, ap_tY, ap_oN, ap_oS, ap_rT, ap_xS, ap_bkS, ap_ctS, ap_noS, ap_rN, ap_frS, ap_mN, ap_shR, ap_seqS, ap_iteS, ap_cmpT, ap_setS, ap_setN, ap_nilS, ap_res1, ap_res2, ap_refIxR, ap_rputS, ap_consR, ap_callR, ap_biR, ap_isiR, ap_bAndR, ap_bNotR, ap_bOrR, ap_chR, ap_chT, ap_truR, ap_tNotR, ap_tAndR, ap_tOrR, ap_seqR, ap_rngR1, ap_rngR2, ap_enumR, ap_zipR, ap_sliceR, ap_tupR, ap_lstR, ap_starR, ap_augS, ap_asgS, ap_par2, ap_ownM, ap_valM, ap_appS, ap_extS, ap_putS, ap_revR, rb_ok, rn_ok, ro_ok, tr_some, getS, getB, toRes, List.getElem?_cons_succ, List.getElem?_cons_zero, List.length_cons, List.length_nil, if_true, e1, List.set]
  have s2 : iteS (tOrR (tNotR (truR (callR 1 d__law_right (consR (nS 2) aN)))) (tNotR (truR (callR 1 d__law_right (consR (nS 2) aN))))) (rT (kD (.bl false))) nilS [.val (.frl (ns.map .int)), .val (.int (x : Nat)), .val (.ref h.length), u3, u4, u5] (h ++ [[.int L, .int c, .int 0]]) = .nx [.val (.frl (ns.map .int)), .val (.int (x : Nat)), .val (.ref h.length), u3, u4, u5] h2 := by
    simp only [ap_iSub, ap_addD, ap_mulD, ap_iLt, ap_iLe, ap_iGt, ap_iGe, ap_iMod, ap_iDiv, ap_ifR, ap_nS, ap_nB, ap_kD, ap_aN, ap_tY, ap_oN, ap_oS, ap_rT, ap_xS, ap_bkS, ap_ctS, ap_noS, ap_rN, ap_frS, ap_mN, ap_shR, ap_seqS, ap_iteS, ap_cmpT, ap_setS, ap_setN, ap_nilS, ap_res1, ap_res2, ap_refIxR, ap_rputS, ap_consR, ap_callR, ap_biR, ap_isiR, ap_bAndR, ap_bNotR, ap_bOrR, ap_chR, ap_chT, ap_truR, ap_tNotR, ap_tAndR, ap_tOrR, ap_seqR, ap_rngR1, ap_rngR2, ap_enumR, ap_zipR, ap_sliceR, ap_tupR, ap_lstR, ap_starR, ap_augS, ap_asgS, ap_par2, ap_ownM, ap_valM, ap_appS, ap_extS, ap_putS, ap_revR, rb_ok, rn_ok, ro_ok, tr_some, getS, getB, toRes, List.getElem?_cons_succ, List.getElem?_cons_zero, List.length_cons, List.length_nil, if_true, r1, r2, D.tru, Bool.not_true, Bool.false_eq_true, if_false]
  have s3 : asgS (gT (gConsT (gN 3) (gConsT (gN 4) gNilT))) (tupR (consR (callR 2 d__law_roll (consR (nS 2) (consR (kD (.int 7)) aN))) (consR (res2 addD (kD (.int 1)) (callR 2 d__law_roll (consR (nS 2) (consR (kD (.int 3)) aN)))) aN))) [.val (.frl (ns.map .int)), .val (.int (x : Nat)), .val (.ref h.length), u3, u4, u5] h2 = .nx [.val (.frl (ns.map .int)), .val (.int (x : Nat)), .val (.ref h.length), .val (.int t), .val (.int (1 + y)), u5] h4 := by
    rw [roll_eq]
    simp only [ap_iSub, ap_addD, ap_mulD, ap_iLt, ap_iLe, ap_iGt, ap_iGe, ap_iMod, ap_iDiv, ap_ifR, ap_nS, ap_nB, ap_kD, ap_aN, ap_tY, ap_oN, ap_oS, ap_rT, ap_xS, ap_bkS, ap_ctS, ap_noS, ap_rN, ap_frS, ap_mN, ap_shR, ap_seqS, ap_iteS, ap_cmpT, ap_setS, ap_setN, ap_nilS, ap_res1, ap_res2, ap_refIxR, ap_rputS, ap_consR, ap_callR, ap_biR, ap_isiR, ap_bAndR, ap_bNotR, ap_bOrR, ap_chR, ap_chT, ap_truR, ap_tNotR, ap_tAndR, ap_tOrR, ap_seqR, ap_rngR1, ap_rngR2, ap_enumR, ap_zipR, ap_sliceR, ap_tupR, ap_lstR, ap_starR, ap_augS, ap_asgS, ap_par2, ap_ownM, ap_valM, ap_appS, ap_extS, ap_putS, ap_revR, rb_ok, rn_ok, ro_ok, tr_some, getS, getB, toRes, List.getElem?_cons_succ, List.getElem?_cons_zero, List.length_cons, List.length_nil, if_true, e3, e4, f2, gT, gConsT, gN, gNilT, Option.bind_some, List.set]
  rw [ap_seqS, s1]
  dsimp only
  rw [ap_seqS, s2]
  dsimp only
  rw [ap_seqS, s3]
  dsimp only
  rw [ap_iteS, ap_cmpT, ap_res2, so]
  simp only [ap_iSub, ap_addD, ap_mulD, ap_iLt, ap_iLe, ap_iGt, ap_iGe, ap_iMod, ap_iDiv, ap_ifR, ap_nS, ap_nB, ap_kD, ap_aN, ap_tY, ap_oN, ap_oS, ap_rT, ap_xS, ap_bkS, ap_ctS, ap_noS, ap_rN, ap_frS, ap_mN, ap_shR, ap_seqS, ap_iteS, ap_cmpT, ap_setS, ap_setN, ap_nilS, ap_res1, ap_res2, ap_refIxR, ap_rputS, ap_consR, ap_callR, ap_biR, ap_isiR, ap_bAndR, ap_bNotR, ap_bOrR, ap_chR, ap_chT, ap_truR, ap_tNotR, ap_tAndR, ap_tOrR, ap_seqR, ap_rngR1, ap_rngR2, ap_enumR, ap_zipR, ap_sliceR, ap_tupR, ap_lstR, ap_starR, ap_augS, ap_asgS, ap_par2, ap_ownM, ap_valM, ap_appS, ap_extS, ap_putS, ap_revR, rb_ok, rn_ok, ro_ok, tr_some, getS, getB, toRes, f0, List.length_nil, if_true, n0, Bool.false_eq_true, if_false]
theorem law0_ok (ns : List Int) (s1 s2 s3 s4 s5 : Sl) (h : HS) : ∃ u1 u2 u3 u4 h', t_law_0 [.val (.frl (ns.map .int)), s1, s2, s3, s4, s5] h = .nx [.val (.frl (ns.map .int)), u1, u2, u3, u4, s5] h' := by
  obtain ⟨K, hK, hK1⟩ : ∃ K : Int, biR maxsG (consR (kD (.int 1)) (consR (biR minsG (consR (kD (.int 5)) (consR (biR lenG (consR (nS 0) aN)) aN))) aN)) [.val (.frl (ns.map .int)), s1, s2, s3, s4, s5] h = .ok (.int K) h ∧ 1 ≤ K ∧ K ≤ 5 := by
    refine ⟨if (if (ns.length : Int) < 5 then (ns.length : Int) else 5) > 1 then (if (ns.length : Int) < 5 then (ns.length : Int) else 5) else 1, ?_, ?_⟩
    · simp [ap_iSub, ap_addD, ap_mulD, ap_iLt, ap_iLe, ap_iGt, ap_iGe, ap_iMod, ap_iDiv, ap_ifR, ap_nS, ap_nB, ap_kD, ap_aN, ap_tY, ap_oN, ap_oS, ap_rT, ap_xS, ap_bkS, ap_ctS, ap_noS, ap_rN, ap_frS, ap_mN, ap_shR, ap_seqS, ap_iteS, ap_cmpT, ap_setS, ap_setN, ap_nilS, ap_res1, ap_res2, ap_refIxR, ap_rputS, ap_consR, ap_callR, ap_biR, ap_isiR, ap_bAndR, ap_bNotR, ap_bOrR, ap_chR, ap_chT, ap_truR, ap_tNotR, ap_tAndR, ap_tOrR, ap_seqR, ap_rngR1, ap_rngR2, ap_enumR, ap_zipR, ap_sliceR, ap_tupR, ap_lstR, ap_starR, ap_augS, ap_asgS, ap_par2, ap_ownM, ap_valM, ap_appS, ap_extS, ap_putS, ap_revR, rb_ok, rn_ok, ro_ok, tr_some, getS, getB, toRes, lenG, minsG, maxsG, minG, maxG]
    · split <;> split <;> omega
  obtain ⟨τ2, h2, e, u1, u2, u3, u4, rfl⟩ := forS_at (fun i : Nat => .int (0 + (i : Nat))) (List.range K.toNat) (fun done τ h => ∃ s1 s2 s3 s4, τ = [.val (.frl (ns.map .int)), s1, s2, s3, s4, s5])
    (g := gN 1) (b := seqS (setS 2 (callR 2 d__law_dice (consR (nS 0) (consR (nS 1) aN))))
    (seqS (iteS (tOrR (tNotR (truR (callR 1 d__law_right (consR (nS 2) aN)))) (tNotR (truR (callR 1 d__law_right (consR (nS 2) aN))))) (rT (kD (.bl false))) nilS)
    (seqS (asgS (gT (gConsT (gN 3) (gConsT (gN 4) gNilT))) (tupR (consR (callR 2 d__law_roll (consR (nS 2) (consR (kD (.int 7)) aN))) (consR (res2 addD (kD (.int 1)) (callR 2 d__law_roll (consR (nS 2) (consR (kD (.int 3)) aN)))) aN))))
    (iteS (cmpT neD (lcR (seqR (callR 1 d__law_lots (consR (nS 3) aN))) [5] (gN 5) (cmpT neD (callR 2 d_power_sum (consR (nS 5) (consR (nS 4) aN))) (callR 2 d__law_power_sum (consR (nS 5) (consR (nS 4) aN)))) (nS 5)) (lstR aN)) (rT (kD (.bl false))) nilS)))) (fun done x r τ h ea hi => by
      obtain ⟨u1, u2, u3, u4, rfl⟩ := hi
      obtain ⟨v2, v3, v4, h', eb⟩ := body0 (ns := ns) x u1 u2 u3 u4 s5 h
      refine ⟨[.val (.frl (ns.map .int)), .val (.int (x : Nat)), u2, u3, u4, s5], _, h', ?_, eb, ⟨_, _, _, _, rfl⟩⟩
      simp [gN]) (List.range K.toNat) [] [.val (.frl (ns.map .int)), s1, s2, s3, s4, s5] h rfl ⟨_, _, _, _, rfl⟩
  refine ⟨u1, u2, u3, u4, h2, ?_⟩
  have w1 : -(2 ^ 62) ≤ K := by omega
  have w2 : K < 2 ^ 62 := by omega
  rw [t_law_0, ap_forR]
  simp only [hK, ap_iSub, ap_addD, ap_mulD, ap_iLt, ap_iLe, ap_iGt, ap_iGe, ap_iMod, ap_iDiv, ap_ifR, ap_nS, ap_nB, ap_kD, ap_aN, ap_tY, ap_oN, ap_oS, ap_rT, ap_xS, ap_bkS, ap_ctS, ap_noS, ap_rN, ap_frS, ap_mN, ap_shR, ap_seqS, ap_iteS, ap_cmpT, ap_setS, ap_setN, ap_nilS, ap_res1, ap_res2, ap_refIxR, ap_rputS, ap_consR, ap_callR, ap_biR, ap_isiR, ap_bAndR, ap_bNotR, ap_bOrR, ap_chR, ap_chT, ap_truR, ap_tNotR, ap_tAndR, ap_tOrR, ap_seqR, ap_rngR1, ap_rngR2, ap_enumR, ap_zipR, ap_sliceR, ap_tupR, ap_lstR, ap_starR, ap_augS, ap_asgS, ap_par2, ap_ownM, ap_valM, ap_appS, ap_extS, ap_putS, ap_revR, rb_ok, rn_ok, ro_ok, tr_some, getS, getB, toRes, w1, w2, decide_true, Bool.and_self, if_true, rangeD_map]
  exact e
theorem tail_ok (S u1 u2 u3 u4 s5 : Sl) (h : HS) : t_law_1 [S, u1, u2, u3, u4, s5] h = .rt (.bl true) h := by kernel_rfl
theorem math (ns : List Int) (hl : ns.length ≤ 63) : ∃ h, fnR 6 b_law [.frl (ns.map .int)] [] = .ok (.bl true) h := by
  obtain ⟨u1, u2, u3, u4, h', e⟩ := law0_ok ns .un .un .un .un .un []
  refine ⟨h', ?_⟩
  rw [ap_fnR, b_law]
  simp only [List.map_cons, List.map_nil, List.length_cons, List.length_nil, List.replicate, List.cons_append, List.nil_append]
  rw [ap_seqS, e]
  dsimp only
  rw [tail_ok]
end G_k31

open PySem PySem.W PySem.Calls PyProof.Rows Sw
theorem PySem.Challenge.cw_swapsheets_k31_whole_powers_of_contents_holds : PySem.Challenge.rw_swapsheets_k31_whole_powers_of_contents.Holds := by
  w_on; o_law
  refine HandSHeadRun.head_any (r := PySem.W.OpenLaw.row PySem.Challenge.rw_swapsheets_k31_whole_powers_of_contents) (q := PySem.W.view (PySem.W.OpenLaw.row PySem.Challenge.rw_swapsheets_k31_whole_powers_of_contents).prog [39]) (H := G_k31.hk) (ob := G_k31.ob) (M := 6000) (loose := G_k31.loose) (d := HandSHeadRun.topDef (PySem.W.OpenLaw.row PySem.Challenge.rw_swapsheets_k31_whole_powers_of_contents).prog 39) (kwd := []) G_k31.ob_eq
    (by kernel_rfl) (fun s => by kernel_rfl) G_k31.run (by kernel_rfl) (by kernel_rfl) (by kernel_rfl) (by rfl) (by first | assumption | decide +kernel) (by decide +kernel) ⟨rfl, rfl, rfl, rfl, rfl, by decide +kernel⟩ ?hw ?hc
  case hw => w_witness2
  case hc =>
    refine Sw.walk_end (l := PySem.Challenge.rw_swapsheets_k31_whole_powers_of_contents) (n := 63) (k := 8) (x := "_law_script") rfl (by decide) (by kernel_rfl) ⟨rfl, by decide, by decide⟩ ?F
    intro w mg fa h Y G hmg0
    obtain ⟨K, KX, c⟩ := Y
    have hmg : mg ("law" : PySem.Str) = some (.ref fa) := by
      have e : (HandSHeadRun.topDef (PySem.W.OpenLaw.row PySem.Challenge.rw_swapsheets_k31_whole_powers_of_contents).prog 39).name = ("law" : PySem.Str) := by kernel_rfl
      rw [← e]
      exact hmg0
    obtain ⟨fd, hb, hF⟩ := law_facts (P := PySem.Challenge.rw_swapsheets_k31_whole_powers_of_contents.prog) (w := w) KX G c hmg 28 45 (st := G_k31.s_law) (fb := G_k31.b_law) rfl rfl G_k31.sc_law (fun _ _ _ _ _ _ us hl => match us, hl with | [_], _ => rfl) (fun g T => G_k31.body_law T)
    exact ⟨K, fd, spOf ⟨PySem.Challenge.rw_swapsheets_k31_whole_powers_of_contents.prog, w, K, mg, h⟩ 1 (fnR 6 G_k31.b_law), KX, hb, fun H a ns hl hO hS => law_sp hO hS (G_k31.math ns hl), fun base i1 i2 => hF base i1 i2⟩
