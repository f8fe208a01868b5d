import PyProof.Rows.All
import Wide.All
import OpenK.AllK
import Wide.FinOn
import HandS.Conv
import HandS.Deep
import HandS.Defaults
import HandS.Dict
import HandS.DictComp
import HandS.DictTup
import HandS.ForExc
import HandS.ForMost
import HandS.Gcd
import HandS.Head0
import HandS.Head1
import HandS.Head2
import HandS.HeadEnd
import HandS.HeadHook1
import HandS.HeadHook2
import HandS.IsInst
import HandS.NoneIn
import HandS.RaiseMore
import HandS.SetFor
import HandS.SortInts
import HandS.SortKw
import HandS.SortOrd
import HandS.Star
import HandS.Style
import HandS.TryOnly
import HandS.TupAny
import HandS.TupMul
import HandS.Wide
import HandS.WordsExc
import HandS.Zip
import KE.DataFind
import KE.DataMinMax
import KE.GoesEnum
import KE.KIndexOf
import KE.KTupSum
import KE.SortData
import PyProof.DictWalks
import PyProof.ExcBaseAll.ValueError
import PyProof.FactsAll.tuple_2
import PyProof.SeqI3
import PyProof.WalkInts
import PySem.Challenge.RW_swapsheets_k76_whole_genus_of_rows_of_mo
set_option Elab.async false
set_option linter.all false
set_option maxRecDepth 100000
set_option maxHeartbeats 0
/-! Sw, part 0: new tuples, the object known (no dict). -/
namespace Sw
open PySem PySem.Spec PyProof.Rows L2
/-- Q at any new tuple of xs, its object known -/
def NewX (H : Hp) (xs : List V) (Q : VK) : Prop := ∀ (p : Addr) (o : Obj), H p = none → o.dict = none → Q (.ref p) (upd H p (.frz o (.tup xs)))
section
variable {X : Cx} {pins : List (Addr × Obj)} {σ : List (Option V)} {H : Hp} {s : Shared}
theorem okX {P : Program} {w : World} {h : Heap} {H : Hp} {a : Addr} {ob : Obj} {xs : List V} {its : List Value} {n : Nat} (z : xs.length ≤ sizeLine) (r : Vals xs its) (e : h.get? a = some ob) (c : ob.cls = .type "tuple") (d : ob.data = .seq its.toArray n) : ObjOk P w H h a (.frz ob (.tup xs)) :=
  ⟨e, z, its, r, ob, e, c, n, d⟩
/-- a tuple pushed -/
theorem pushX {Q : VK} {xs : List V} {its : List Value} {h' : Heap} {tk : Nat} (I : Inv X pins σ H { s with heap := h', toks := tk }) (z : xs.length ≤ sizeLine) (r : Vals xs its) (q : NewX H xs Q) :
    EP X pins σ Q (.ref h'.objs.size) { s with heap := h'.push { cls := .type "tuple", data := .seq its.toArray }, toks := tk } := by
  have hf : H h'.objs.size = none := I.hok.fresh (Nat.le_refl _)
  exact ⟨.ref h'.objs.size, upd H h'.objs.size (.frz { cls := .type "tuple", data := .seq its.toArray } (.tup xs)), I.laid (t' := tk) (fun b u e => Heap.get?_push_of_some _ e) (Nat.le_refl _) (okX z r (Heap.get?_push_size _ rfl) rfl rfl), rfl, q _ _ hf rfl⟩
def tTupX (t : TA) : TE := fun σ H Q => t σ H fun xs H1 => xs.length ≤ sizeLine ∧ NewX H1 xs Q
variable {es : List Expr} {t : TA} {pos : Pos}
theorem pe_tupX {x1} (h : PA X es t) : PE X (.Tuple es x1 pos) (tTupX t) := by
  refine ⟨fun pins s σ H Q I hq => ?_⟩
  refine wpAny_Tuple_spliced (thn (h.run pos pins s σ H _ I hq) fun us s1 ⟨xs, H1, I1, r, z, q⟩ => ⟨by rw [← r.length]; exact z, ?_⟩)
  exact pushX (h' := s1.heap) (tk := s1.toks) I1 z r q
def rTupX (K : PySem.W.Frag) : List V → Hp → VK → Prop := fun xs H Q => ∃ p ys, xs = [.ref p] ∧ ((SqL K H p ys ∧ NewX H ys Q) ∨ (SqT K H p ys ∧ Q (.ref p) H))
theorem call_tuple_ofX : CallR X (.type "tuple") (rTupX X.K) := by
  intro pins s σ H xs us Q I r h
  obtain ⟨p, ys, rfl, h⟩ := h
  obtain ⟨u, rfl, rx⟩ := vals1 r
  cases rx
  rcases h with ⟨hq, q⟩ | ⟨hq, q⟩
  · obtain ⟨its, r', pl, hz⟩ := I.list hq
    have hlen := r'.length
    refine call_tuple_list pl.isList (fun h' kp => ?_) (by simp only [List.size_toArray] <;> omega)
    have I1 : Inv X pins σ H { s with heap := h' } := I.kept (t' := s.toks) kp
    exact pushX (h' := h') (tk := s.toks) I1 hz r' q
  · obtain ⟨its, r', pl, hz⟩ := I.tuple hq
    exact call_tuple_same pl ⟨.ref p, H, I, rfl, q⟩
def rCatX (K : PySem.W.Frag) : R2 := fun x y H Q => ∃ a b xs ys, x = .ref a ∧ y = .ref b ∧ SqT K H a xs ∧ SqT K H b ys ∧ xs.length + ys.length ≤ sizeLine ∧
  (xs = [] → Q (.ref b) H) ∧ (xs ≠ [] → ys = [] → Q (.ref a) H) ∧ (xs ≠ [] → ys ≠ [] → NewX H (xs ++ ys) Q)
theorem op_catX : OpR X (binaryOp .Add) (rCatX X.K) := by
  intro pins s σ H x y v u Q I rx ry h
  obtain ⟨a, b, xs, ys, rfl, rfl, ha, hb, hz, q0, q1, q2⟩ := h
  cases rx
  cases ry
  obtain ⟨its, r1, p1, _⟩ := I.tuple ha
  obtain ⟨its2, r2, p2, _⟩ := I.tuple hb
  by_cases hx : xs = []
  · subst hx
    cases r1
    exact cat_tup0 p1 p2 ⟨.ref b, H, I, rfl, q0 rfl⟩
  · refine HT.cat_tup p1 p2 (fun z => hx (r1.nil_iff.mp z)) (fun z => ⟨.ref a, H, I, rfl, q1 hx (r2.nil_iff.mp z)⟩) (fun z => ?_) (by rw [← r1.length, ← r2.length]; exact hz)
    exact pushX (h' := s.heap) (tk := s.toks) I (by rw [List.length_append]; exact hz) (r1.append r2) (q2 hx fun w => z (r2.nil_iff.mpr w))
def rSlX (K : PySem.W.Frag) : V → Option Int → Option Int → Hp → VK → Prop := fun x lo hi H Q => ∃ a xs, x = .ref a ∧ SqT K H a xs ∧
  (HT.sIx xs.length 0 lo = 0 ∧ HT.sIx xs.length xs.length hi = xs.length → Q (.ref a) H) ∧ (¬ (HT.sIx xs.length 0 lo = 0 ∧ HT.sIx xs.length xs.length hi = xs.length) → NewX H (cutV xs lo hi) Q)
theorem sl_tupX : SlR X (rSlX X.K) := by
  intro pins s σ H x v vl vu lo hi sl Q I rx hs pl pu h
  obtain ⟨a, xs, rfl, hx, q1, q2⟩ := h
  cases rx
  obtain ⟨its, r, ht, hz⟩ := I.tuple hx
  have hlen : its.toArray.size = xs.length := by rw [List.size_toArray]; exact r.length.symm
  refine ⟨"tuple", _, PyProof.Rows.slot_tuple_getitem.lookup, ht.typeIs, ?_⟩
  by_cases hw : HT.sIx xs.length 0 lo = 0 ∧ HT.sIx xs.length xs.length hi = xs.length
  · exact getItem_tuple_whole ht hs pl pu (by rw [hlen]; exact hw) ⟨.ref a, H, I, rfl, q1 hw⟩
  · refine HT.getItem_tuple_cut ht hs pl pu (by rw [hlen]; exact hw) ?_ (by rw [hlen]; exact hz)
    rw [hlen]
    exact pushX (h' := s.heap) (tk := s.toks) I (Nat.le_trans (cutV_length xs lo hi) hz) ((r.drop (HT.sIx xs.length 0 lo)).take (HT.sIx xs.length xs.length hi - HT.sIx xs.length 0 lo)) (q2 hw)
variable {e : Expr} {te : L2.St → Hp → (Int → Int → Hp → Prop) → Prop}
def tTupRgX (te : L2.St → Hp → (Int → Int → Hp → Prop) → Prop) : TE := fun σ H Q => te σ H fun a b H1 => RgOk a b ∧ NewX H1 (rgV a b) Q
theorem pe_tupRgX {p pos : Pos} (hc : X.calm = true) (hg : Gl X "tuple") (hm : X.mg "tuple" = none) (he : PRg X e te) (na : starEach [e] X.env = (false, eval e X.env) :: starEach [] X.env := by rfl) : PE X (.Call (.Name "tuple" p) [e] [] pos) (tTupRgX te) := by
  refine ⟨fun pins s σ H Q I h => ?_⟩
  refine Call_ (ld_blt I hg hm boot_tuple (PyProof.Rows.callWith_type1 (args_cons (thn (he pins s σ H _ I h) fun x s1 ⟨r, a, b, t, u, v, H1, ex, hr, I1, ok, q⟩ => args_nil ?_) na) na))
  subst ex
  obtain ⟨b1, b2, b3, b4, b5⟩ := ok
  refine call_tuple_range (n := (b - a).toNat) (I1.ok.hd hc) hr (small_one b1 b2 b3 b4) (rangeSize_nat a b) b5 fun h' tk acc hk hi => ?_
  have I2 : Inv X pins σ H1 { s1 with heap := h', toks := tk } := I1.kept hk
  have z : (rgV a b).length ≤ sizeLine := by rw [rgV_length, sizeLine_eq]; omega
  have := pushX (Q := Q) I2 z (vals_rg hi) q
  rw [Array.toArray_toList] at this
  exact this
end
end Sw

/-! Sw, part A: plain data, worlds, frames, results: what a def's text is worth on plain data. -/
namespace Sw
open PySem PySem.Spec PyProof.Rows L2

/-- plain data: what a program's values are without the heap; frl: a list that none may change; ref n: the n-th shared list -/
inductive D where
  | non | bl (b : Bool) | int (i : Int) | str (s : Str)
  | tup (xs : List D) | lst (xs : List D) | frl (xs : List D)
  | dK (kvs : List (Key × D)) | dT (kvs : List (List Key × D))
  | ref (n : Nat)
deriving Inhabited

/-- the shared lists -/
abbrev HS := List (List D)
/-- a slot of a frame: nothing yet, a value, an own list (dict) that the frame alone can change -/
inductive Sl where
  | un | val (d : D) | own (xs : List D) | ownK (kvs : List (Key × D)) | ownT (kvs : List (List Key × D))
deriving Inhabited
/-- an exception: the name of its class, what it keeps -/
structure Ex where
  cls : Str
  kept : Option (Str × D)
inductive Res (α : Type) where
  | ok (a : α) (h : HS) | exc (x : Ex) (h : HS) | bad
def Res.bind {α β : Type} (r : Res α) (g : α → HS → Res β) : Res β := match r with
  | .ok a h => g a h
  | .exc x h => .exc x h
  | .bad => .bad
def toRes {α : Type} (o : Option α) (h : HS) : Res α := match o with
  | some a => .ok a h
  | none => .bad
/-- how a statement ends -/
inductive RS where
  | nx (σ : List Sl) (h : HS) | rt (d : D) (h : HS) | bk (σ : List Sl) (h : HS) | ct (σ : List Sl) (h : HS) | exc (x : Ex) (h : HS) | bad
abbrev DE := List Sl → HS → Res D
abbrev DT := List Sl → HS → Res Bool
abbrev DA := List Sl → HS → Res (List D)
abbrev DS := List Sl → HS → RS

/-! ### worlds -/
/-- F: the frozen addresses, ρ: those of the shared lists -/
structure Wd where
  F : Addr → Prop
  ρ : List Addr
  H : Hp
def KLst (K : PySem.W.Frag) (a : Addr) (xs : List V) : Prop :=
  ∃ (o : Obj) (its : Array Value) (n : Nat), K.lookup a = some o ∧ o.cls = .type "list" ∧ o.dict = none ∧ o.data = .seq its n ∧ its.size ≤ sizeLine ∧ Vals xs its.toList
def KTup (K : PySem.W.Frag) (a : Addr) (xs : List V) : Prop :=
  ∃ (o : Obj) (its : Array Value) (n : Nat), K.lookup a = some o ∧ o.cls = .type "tuple" ∧ o.data = .seq its n ∧ its.size ≤ sizeLine ∧ Vals xs its.toList
def LstAt (W : Wd) (a : Addr) (xs : List V) : Prop := W.F a ∧ W.H a = some (.lst xs)
def FrlAt (K : PySem.W.Frag) (W : Wd) (a : Addr) (xs : List V) : Prop := (W.F a ∧ Rd W.H a (.lst xs)) ∨ KLst K a xs
/-- what a frozen thing is that can still be locked -/
def fastO : HO → Bool
  | .dK _ => false
  | .dT _ => false
  | _ => true
/-- a tuple, its object known to have no dict -/
def TupAt (_K : PySem.W.Frag) (W : Wd) (a : Addr) (xs : List V) : Prop := W.F a ∧ ∃ o : Obj, o.dict = none ∧ W.H a = some (.frz o (.tup xs))
theorem LstAt.sq {K : PySem.W.Frag} {W : Wd} {a : Addr} {xs : List V} (h : LstAt W a xs) : SqL K W.H a xs := .inl (.inl h.2)
theorem FrlAt.sq {K : PySem.W.Frag} {W : Wd} {a : Addr} {xs : List V} (h : FrlAt K W a xs) : SqL K W.H a xs := h.elim (fun z => .inl z.2) .inr
theorem TupAt.sq {K : PySem.W.Frag} {W : Wd} {a : Addr} {xs : List V} (h : TupAt K W a xs) : SqT K W.H a xs := let ⟨_, o, _, e⟩ := h; .inl (.inr ⟨o, e⟩)

section
variable (K : PySem.W.Frag)
mutual
/-- the value v is the data d, in the world W -/
def Rep (W : Wd) : D → V → Prop
  | .non, v => v = .non
  | .bl b, v => v = .bl b
  | .int i, v => v = .int i
  | .str s, v => v = .str s
  | .tup xs, v => ∃ a vs, v = .ref a ∧ TupAt K W a vs ∧ Reps W xs vs
  | .lst xs, v => ∃ a vs, v = .ref a ∧ LstAt W a vs ∧ Reps W xs vs
  | .frl xs, v => ∃ a vs, v = .ref a ∧ FrlAt K W a vs ∧ Reps W xs vs
  | .dK kvs, v => ∃ a ws, v = .ref a ∧ W.F a ∧ Rd W.H a (.dK ws) ∧ RepK W kvs ws
  | .dT kvs, v => ∃ a ws, v = .ref a ∧ W.F a ∧ Rd W.H a (.dT ws) ∧ RepT W kvs ws
  | .ref n, v => ∃ a, W.ρ[n]? = some a ∧ v = .ref a
def Reps (W : Wd) : List D → List V → Prop
  | [], vs => vs = []
  | x :: xs, vs => ∃ v r, vs = v :: r ∧ Rep W x v ∧ Reps W xs r
def RepK (W : Wd) : List (Key × D) → List (Key × V) → Prop
  | [], ws => ws = []
  | (k, d) :: r, ws => ∃ v t, ws = (k, v) :: t ∧ Rep W d v ∧ RepK W r t
def RepT (W : Wd) : List (List Key × D) → List (List Key × V) → Prop
  | [], ws => ws = []
  | (k, d) :: r, ws => ∃ v t, ws = (k, v) :: t ∧ Rep W d v ∧ RepT W r t
end
end

/-- what was frozen stays -/
structure LeF (W W' : Wd) : Prop where
  fr : ∀ a, W.F a → W'.F a
  st : ∀ a u, W.F a → Rd W.H a u → Rd W'.H a u
  sl : ∀ a o, fastO o = true → W.F a → W.H a = some o → W'.H a = some o
  rh : W.ρ <+: W'.ρ
/-- .. and what is neither frozen nor shared is left alone -/
structure Le (W W' : Wd) : Prop extends LeF W W' where
  fo : ∀ a o, W.H a = some o → ¬ W.F a → a ∉ W.ρ → W'.H a = some o ∧ ¬ W'.F a ∧ a ∉ W'.ρ
theorem LeF.refl (W : Wd) : LeF W W := ⟨fun _ h => h, fun _ _ _ h => h, fun _ _ _ _ h => h, List.prefix_refl _⟩
theorem LeF.trans {A B C : Wd} (x : LeF A B) (y : LeF B C) : LeF A C := ⟨fun a h => y.fr a (x.fr a h), fun a u h r => y.st a u (x.fr a h) (x.st a u h r), fun a u q h r => y.sl a u q (x.fr a h) (x.sl a u q h r), x.rh.trans y.rh⟩
theorem Le.refl (W : Wd) : Le W W := ⟨.refl W, fun _ _ h1 h2 h3 => ⟨h1, h2, h3⟩⟩
theorem Le.trans {A B C : Wd} (x : Le A B) (y : Le B C) : Le A C := ⟨x.toLeF.trans y.toLeF, fun a o h1 h2 h3 => by
  obtain ⟨b1, b2, b3⟩ := x.fo a o h1 h2 h3
  exact y.fo a o b1 b2 b3⟩

section
variable {K : PySem.W.Frag} {W W' : Wd}
theorem LstAt.mono (l : LeF W W') {a : Addr} {xs : List V} (h : LstAt W a xs) : LstAt W' a xs := ⟨l.fr a h.1, l.sl a _ rfl h.1 h.2⟩
theorem FrlAt.mono (l : LeF W W') {a : Addr} {xs : List V} (h : FrlAt K W a xs) : FrlAt K W' a xs := h.imp (fun ⟨f, r⟩ => ⟨l.fr a f, l.st a _ f r⟩) id
theorem TupAt.mono (l : LeF W W') {a : Addr} {xs : List V} (h : TupAt K W a xs) : TupAt K W' a xs := let ⟨f, o, d, e⟩ := h; ⟨l.fr a f, o, d, l.sl a _ rfl f e⟩
mutual
theorem Rep.mono (l : LeF W W') : ∀ (d : D) (v : V), Rep K W d v → Rep K W' d v
  | .non, v, h => by simpa [Rep] using h
  | .bl b, v, h => by simpa [Rep] using h
  | .int i, v, h => by simpa [Rep] using h
  | .str s, v, h => by simpa [Rep] using h
  | .tup xs, v, h => by
    rw [Rep] at h ⊢
    obtain ⟨a, vs, e, t, r⟩ := h
    exact ⟨a, vs, e, t.mono l, Reps.mono l xs vs r⟩
  | .lst xs, v, h => by
    rw [Rep] at h ⊢
    obtain ⟨a, vs, e, t, r⟩ := h
    exact ⟨a, vs, e, t.mono l, Reps.mono l xs vs r⟩
  | .frl xs, v, h => by
    rw [Rep] at h ⊢
    obtain ⟨a, vs, e, t, r⟩ := h
    exact ⟨a, vs, e, t.mono l, Reps.mono l xs vs r⟩
  | .dK kvs, v, h => by
    rw [Rep] at h ⊢
    obtain ⟨a, ws, e, f, t, r⟩ := h
    exact ⟨a, ws, e, l.fr a f, l.st a _ f t, RepK.mono l kvs ws r⟩
  | .dT kvs, v, h => by
    rw [Rep] at h ⊢
    obtain ⟨a, ws, e, f, t, r⟩ := h
    exact ⟨a, ws, e, l.fr a f, l.st a _ f t, RepT.mono l kvs ws r⟩
  | .ref n, v, h => by
    rw [Rep] at h ⊢
    obtain ⟨a, e, q⟩ := h
    obtain ⟨t, ht⟩ := l.rh
    refine ⟨a, ?_, q⟩
    rw [← ht]
    exact (List.getElem?_append_left (List.getElem?_eq_some_iff.mp e).1).trans e
theorem Reps.mono (l : LeF W W') : ∀ (ds : List D) (vs : List V), Reps K W ds vs → Reps K W' ds vs
  | [], vs, h => by simpa [Reps] using h
  | x :: xs, vs, h => by
    rw [Reps] at h ⊢
    obtain ⟨v, r, e, h1, h2⟩ := h
    exact ⟨v, r, e, Rep.mono l x v h1, Reps.mono l xs r h2⟩
theorem RepK.mono (l : LeF W W') : ∀ (ds : List (Key × D)) (vs : List (Key × V)), RepK K W ds vs → RepK K W' ds vs
  | [], vs, h => by simpa [RepK] using h
  | (k, x) :: xs, vs, h => by
    rw [RepK] at h ⊢
    obtain ⟨v, r, e, h1, h2⟩ := h
    exact ⟨v, r, e, Rep.mono l x v h1, RepK.mono l xs r h2⟩
theorem RepT.mono (l : LeF W W') : ∀ (ds : List (List Key × D)) (vs : List (List Key × V)), RepT K W ds vs → RepT K W' ds vs
  | [], vs, h => by simpa [RepT] using h
  | (k, x) :: xs, vs, h => by
    rw [RepT] at h ⊢
    obtain ⟨v, r, e, h1, h2⟩ := h
    exact ⟨v, r, e, Rep.mono l x v h1, RepT.mono l xs r h2⟩
end
theorem Reps.length : ∀ {ds : List D} {vs : List V}, Reps K W ds vs → ds.length = vs.length
  | [], vs, h => by rw [Reps] at h; subst h; rfl
  | x :: xs, vs, h => by
    rw [Reps] at h
    obtain ⟨v, r, rfl, h1, h2⟩ := h
    simp [Reps.length h2]
theorem Reps.get : ∀ {ds : List D} {vs : List V} {i : Nat} {d : D}, Reps K W ds vs → ds[i]? = some d → ∃ v, vs[i]? = some v ∧ Rep K W d v
  | [], vs, i, d, h, e => by simp at e
  | x :: xs, vs, 0, d, h, e => by
    rw [Reps] at h
    obtain ⟨v, r, rfl, h1, h2⟩ := h
    simp at e; subst e
    exact ⟨v, rfl, h1⟩
  | x :: xs, vs, i + 1, d, h, e => by
    rw [Reps] at h
    obtain ⟨v, r, rfl, h1, h2⟩ := h
    obtain ⟨u, e1, e2⟩ := Reps.get (i := i) h2 (by simpa using e)
    exact ⟨u, by simpa using e1, e2⟩
theorem Reps.append : ∀ {ds es : List D} {vs us : List V}, Reps K W ds vs → Reps K W es us → Reps K W (ds ++ es) (vs ++ us)
  | [], es, vs, us, h, q => by rw [Reps] at h; subst h; exact q
  | x :: xs, es, vs, us, h, q => by
    rw [Reps] at h
    obtain ⟨v, r, rfl, h1, h2⟩ := h
    show Reps K W (x :: (xs ++ es)) _
    rw [Reps]
    exact ⟨v, r ++ us, rfl, h1, Reps.append h2 q⟩
theorem Reps.one {d : D} {v : V} (h : Rep K W d v) : Reps K W [d] [v] := by
  rw [Reps]; exact ⟨v, [], rfl, h, by rw [Reps]⟩
theorem Reps.nil : Reps K W [] [] := by rw [Reps]
theorem Reps.cons {d : D} {v : V} {ds : List D} {vs : List V} (h : Rep K W d v) (t : Reps K W ds vs) : Reps K W (d :: ds) (v :: vs) := by
  rw [Reps]; exact ⟨v, vs, rfl, h, t⟩
theorem Reps.set : ∀ {ds : List D} {vs : List V} (i : Nat) {d : D} {v : V}, Reps K W ds vs → Rep K W d v → Reps K W (ds.set i d) (vs.set i v)
  | [], vs, i, d, v, h, q => by rw [Reps] at h; subst h; simp [Reps]
  | x :: xs, vs, 0, d, v, h, q => by
    rw [Reps] at h
    obtain ⟨v, r, rfl, h1, h2⟩ := h
    exact .cons q h2
  | x :: xs, vs, i + 1, d, v, h, q => by
    rw [Reps] at h
    obtain ⟨v', r, rfl, h1, h2⟩ := h
    exact .cons h1 (Reps.set i h2 q)
theorem Reps.take : ∀ {ds : List D} {vs : List V} (n : Nat), Reps K W ds vs → Reps K W (ds.take n) (vs.take n)
  | _, _, 0, _ => by simp [Reps]
  | [], vs, n + 1, h => by rw [Reps] at h; subst h; simp [Reps]
  | x :: xs, vs, n + 1, h => by
    rw [Reps] at h
    obtain ⟨v, r, rfl, h1, h2⟩ := h
    exact .cons h1 (Reps.take n h2)
theorem Reps.drop : ∀ {ds : List D} {vs : List V} (n : Nat), Reps K W ds vs → Reps K W (ds.drop n) (vs.drop n)
  | _, _, 0, h => h
  | [], vs, n + 1, h => by rw [Reps] at h; subst h; simp [Reps]
  | x :: xs, vs, n + 1, h => by
    rw [Reps] at h
    obtain ⟨v, r, rfl, h1, h2⟩ := h
    exact Reps.drop n h2
theorem Reps.reverse : ∀ {ds : List D} {vs : List V}, Reps K W ds vs → Reps K W ds.reverse vs.reverse
  | [], vs, h => by rw [Reps] at h; subst h; simp [Reps]
  | x :: xs, vs, h => by
    rw [Reps] at h
    obtain ⟨v, r, rfl, h1, h2⟩ := h
    rw [List.reverse_cons, List.reverse_cons]
    exact (Reps.reverse h2).append (.one h1)
end

/-! ### what stands in a world: the shared lists, a frame's slots -/
structure RH (K : PySem.W.Frag) (W : Wd) (h : HS) : Prop where
  len : W.ρ.length = h.length
  nd : W.ρ.Nodup
  at_ : ∀ (n : Nat) (xs : List D) (a : Addr), h[n]? = some xs → W.ρ[n]? = some a → ∃ vs, W.H a = some (.lst vs) ∧ Reps K W xs vs
  nf : ∀ a ∈ W.ρ, ¬ W.F a
  up : ∀ a, W.F a → W.H a ≠ none
  tf : ∀ a xs, W.H a = some (.tup xs) → W.F a
/-- an address of the frame's own -/
structure OwnA (W0 W : Wd) (a : Addr) : Prop where
  nf : ¬ W.F a
  nr : a ∉ W.ρ
  new : W0.H a = none
/-- what slot i holds -/
def SlAt (K : PySem.W.Frag) (W0 W : Wd) : Sl → Option (Option V) → Prop
  | .un, _ => True
  | .val d, o => ∃ v, o = some (some v) ∧ Rep K W d v
  | .own xs, o => ∃ a vs, o = some (some (.ref a)) ∧ W.H a = some (.lst vs) ∧ Reps K W xs vs ∧ OwnA W0 W a
  | .ownK kvs, o => ∃ a ws, o = some (some (.ref a)) ∧ W.H a = some (.dK ws) ∧ RepK K W kvs ws ∧ OwnA W0 W a
  | .ownT kvs, o => ∃ a ws, o = some (some (.ref a)) ∧ W.H a = some (.dT ws) ∧ RepT K W kvs ws ∧ OwnA W0 W a
def Sl.isOwn : Sl → Bool
  | .own _ => true
  | .ownK _ => true
  | .ownT _ => true
  | _ => false
structure Frm (K : PySem.W.Frag) (W0 W : Wd) (τ : List Sl) (σ : L2.St) : Prop where
  len : τ.length = σ.length
  at_ : ∀ (i : Nat) (x : Sl), τ[i]? = some x → SlAt K W0 W x σ[i]?
  dis : ∀ (i j : Nat) (x y : Sl) (a : Addr), i ≠ j → τ[i]? = some x → τ[j]? = some y → x.isOwn = true → y.isOwn = true → σ[i]? = some (some (.ref a)) → σ[j]? ≠ some (some (.ref a))
theorem SlAt.mono {K : PySem.W.Frag} {W0 W W' : Wd} (l : Le W W') : ∀ {x : Sl} {o : Option (Option V)}, SlAt K W0 W x o → SlAt K W0 W' x o
  | .un, _, _ => trivial
  | .val d, o, ⟨v, e, r⟩ => ⟨v, e, r.mono l.toLeF⟩
  | .own xs, o, ⟨a, vs, e, h, r, w⟩ => by
    obtain ⟨b1, b2, b3⟩ := l.fo a _ h w.nf w.nr
    exact ⟨a, vs, e, b1, r.mono l.toLeF, b2, b3, w.new⟩
  | .ownK xs, o, ⟨a, vs, e, h, r, w⟩ => by
    obtain ⟨b1, b2, b3⟩ := l.fo a _ h w.nf w.nr
    exact ⟨a, vs, e, b1, r.mono l.toLeF, b2, b3, w.new⟩
  | .ownT xs, o, ⟨a, vs, e, h, r, w⟩ => by
    obtain ⟨b1, b2, b3⟩ := l.fo a _ h w.nf w.nr
    exact ⟨a, vs, e, b1, r.mono l.toLeF, b2, b3, w.new⟩
theorem Frm.mono {K : PySem.W.Frag} {W0 W W' : Wd} {τ : List Sl} {σ : L2.St} (l : Le W W') (f : Frm K W0 W τ σ) : Frm K W0 W' τ σ := ⟨f.len, fun i x e => (f.at_ i x e).mono l, f.dis⟩

/-! ### results against wishes -/
/-- how an exception lies -/
def ExR (K : PySem.W.Frag) (mg : Str → Option Value) (W : Wd) (x : Ex) (c : Value) (dd : Option Addr) : Prop :=
  mg x.cls = some c ∧ match x.kept with
    | none => dd = none
    | some (f, d) => ∃ (v : V) (a : Addr), dd = some a ∧ W.H a = some (.xd [(f, v)]) ∧ Rep K W d v
def okG (K : PySem.W.Frag) (mg : Str → Option Value) {α β : Type} (Rel : Wd → α → β → Prop) (W : Wd) (E : XK) (Q : β → Hp → Prop) : Res α → Prop
  | .ok a h => ∀ W' b, Le W W' → RH K W' h → Rel W' a b → Q b W'.H
  | .exc x h => ∀ W' c dd, Le W W' → RH K W' h → ExR K mg W' x c dd → E c dd W'.H
  | .bad => False
section
variable {K : PySem.W.Frag} {mg : Str → Option Value} {α β γ δ : Type} {Rel : Wd → α → β → Prop} {Rel' : Wd → γ → δ → Prop} {W W' : Wd} {E : XK} {Q : β → Hp → Prop} {Q' : δ → Hp → Prop}
theorem okG.mono {r : Res α} (l : Le W W') (h : okG K mg Rel W E Q r) : okG K mg Rel W' E Q r := by
  cases r with
  | ok a s => exact fun W2 b l2 => h W2 b (l.trans l2)
  | exc x s => exact fun W2 b d l2 => h W2 b d (l.trans l2)
  | bad => exact h
theorem okG.bind {r : Res α} {g : α → HS → Res γ} (h : okG K mg Rel' W E Q' (r.bind g))
    (k : ∀ a s W1 b, Le W W1 → RH K W1 s → Rel W1 a b → okG K mg Rel' W1 E Q' (g a s) → Q b W1.H) : okG K mg Rel W E Q r := by
  cases r with
  | ok a s => exact fun W2 b l2 rh re => k a s W2 b l2 rh re (okG.mono l2 h)
  | exc x s => exact h
  | bad => exact h
end
end Sw

/-! Sw, part B: judgements; expressions. -/
namespace Sw
open PySem PySem.Spec PyProof.Rows L2

/-! ### new objects -/
section
variable {K : PySem.W.Frag} {W W' : Wd} {h : HS}
theorem Rd.ne {H : Hp} {a : Addr} {u : HO} (r : Rd H a u) : H a ≠ none := by
  rcases r with r | ⟨o, r⟩ <;> rw [r] <;> exact fun z => by cases z
theorem RH.there (rh : RH K W h) {a : Addr} (m : a ∈ W.ρ) : W.H a ≠ none := by
  obtain ⟨n, hn, e⟩ := List.getElem_of_mem m
  have e1 : W.ρ[n]? = some a := by rw [List.getElem?_eq_getElem hn, e]
  have hn2 : n < h.length := by rw [← rh.len]; exact hn
  obtain ⟨vs, q, _⟩ := rh.at_ n _ a (List.getElem?_eq_getElem hn2) e1
  rw [q]; exact fun z => by cases z
/-- what is new now was not there ahead -/
theorem Le.old (l : Le W W') (rh : RH K W' h) {a : Addr} (e : W'.H a = none) : W.H a = none := by
  cases q : W.H a with
  | none => rfl
  | some o =>
    exfalso
    by_cases hF : W.F a
    · exact Rd.ne (l.st a o hF (.inl q)) e
    · by_cases hr : a ∈ W.ρ
      · exact rh.there (l.rh.subset hr) e
      · have := (l.fo a o q hF hr).1
        rw [e] at this; cases this
abbrev Wd.put (W : Wd) (p : Addr) (o : HO) : Wd := ⟨W.F, W.ρ, upd W.H p o⟩
abbrev Wd.frz (W : Wd) (p : Addr) : Wd := ⟨fun a => W.F a ∨ a = p, W.ρ, W.H⟩
abbrev Wd.share (W : Wd) (p : Addr) : Wd := ⟨W.F, W.ρ ++ [p], W.H⟩
theorem le_put {p : Addr} {o : HO} (n : W.H p = none) : Le W (W.put p o) where
  fr := fun _ h => h
  st := fun a u _ r => by
    have : a ≠ p := fun z => Rd.ne r (z ▸ n)
    rcases r with r | ⟨ob, r⟩
    · exact .inl (by rw [← r]; exact upd_ne this)
    · exact .inr ⟨ob, by rw [← r]; exact upd_ne this⟩
  sl := fun a xs _ _ r => by rw [← r]; exact upd_ne (ne_of_none r n)
  rh := List.prefix_refl _
  fo := fun a ob e h1 h2 => ⟨by rw [← e]; exact upd_ne (ne_of_none e n), h1, h2⟩
theorem rh_put {p : Addr} {o : HO} (n : W.H p = none) (rh : RH K W h) (no : ∀ xs, o ≠ .tup xs := by intro xs e; cases e) : RH K (W.put p o) h where
  len := rh.len
  nd := rh.nd
  at_ := fun i xs a e1 e2 => by
    obtain ⟨vs, q, r⟩ := rh.at_ i xs a e1 e2
    exact ⟨vs, by rw [← q]; exact upd_ne (ne_of_none q n), Reps.mono (le_put n).toLeF _ _ r⟩
  nf := rh.nf
  up := fun a f => by
    by_cases z : a = p
    · subst z; show upd W.H a o a ≠ none; rw [upd_same]; exact fun z => by cases z
    · show upd W.H p o a ≠ none; rw [upd_ne z]; exact rh.up a f
  tf := fun a xs e => by
    have e : upd W.H p o a = some (.tup xs) := e
    by_cases z : a = p
    · subst z; rw [upd_same] at e; exact (no xs (Option.some.inj e)).elim
    · rw [upd_ne z] at e; exact rh.tf a xs e
theorem lef_frz (W : Wd) (p : Addr) : LeF W (W.frz p) := ⟨fun _ h => .inl h, fun _ _ _ r => r, fun _ _ _ _ r => r, List.prefix_refl _⟩
theorem le_frz {p : Addr} (l : Le W W') (n : W.H p = none) : Le W (W'.frz p) where
  toLeF := l.toLeF.trans (lef_frz _ _)
  fo := fun a o e h1 h2 => by
    obtain ⟨b1, b2, b3⟩ := l.fo a o e h1 h2
    exact ⟨b1, fun z => z.elim b2 (ne_of_none e n), b3⟩
theorem rh_frz {p : Addr} (rh : RH K W h) (n : p ∉ W.ρ) (e : W.H p ≠ none) : RH K (W.frz p) h where
  len := rh.len
  nd := rh.nd
  at_ := fun i xs a e1 e2 => by
    obtain ⟨vs, q, r⟩ := rh.at_ i xs a e1 e2
    exact ⟨vs, q, Reps.mono (lef_frz _ _) _ _ r⟩
  nf := fun a m z => z.elim (rh.nf a m) fun q => n (q ▸ m)
  up := fun a f => f.elim (rh.up a) fun q => q ▸ e
  tf := fun a xs e => .inl (rh.tf a xs e)
/-- a new tuple, frozen at once -/
theorem rh_tup {p : Addr} {ob : Obj} {xs : List V} (n : W.H p = none) (rh : RH K W h) : RH K ((W.put p (.frz ob (.tup xs))).frz p) h where
  len := rh.len
  nd := rh.nd
  at_ := fun i xs a e1 e2 => by
    obtain ⟨vs, q, r⟩ := rh.at_ i xs a e1 e2
    exact ⟨vs, by rw [← q]; exact upd_ne (ne_of_none q n), Reps.mono ((le_put n).toLeF.trans (lef_frz _ _)) _ _ r⟩
  nf := fun a m z => z.elim (rh.nf a m) fun q => rh.there m (q ▸ n)
  up := fun a f => by
    show upd W.H p (.frz ob (.tup xs)) a ≠ none
    by_cases z : a = p
    · subst z; rw [upd_same]; exact fun z => by cases z
    · rw [upd_ne z]; exact rh.up a (f.elim id fun q => (z q).elim)
  tf := fun a ys e => by
    have e : upd W.H p (.frz ob (.tup xs)) a = some (.tup ys) := e
    by_cases z : a = p
    · exact .inr z
    · rw [upd_ne z] at e; exact .inl (rh.tf a ys e)
theorem lef_share (W : Wd) (p : Addr) : LeF W (W.share p) := ⟨fun _ h => h, fun _ _ _ r => r, fun _ _ _ _ r => r, List.prefix_append _ _⟩
theorem le_share {p : Addr} (l : Le W W') (n : W.H p = none) : Le W (W'.share p) where
  toLeF := l.toLeF.trans (lef_share _ _)
  fo := fun a o e h1 h2 => by
    obtain ⟨b1, b2, b3⟩ := l.fo a o e h1 h2
    exact ⟨b1, b2, fun z => (List.mem_append.mp z).elim b3 fun q => ne_of_none e n (by simpa using q)⟩
theorem rh_share {p : Addr} {xs : List D} {vs : List V} (rh : RH K W h) (n : p ∉ W.ρ) (f : ¬ W.F p) (e : W.H p = some (.lst vs)) (r : Reps K W xs vs) : RH K (W.share p) (h ++ [xs]) where
  len := by simp [rh.len]
  nd := by
    rw [List.nodup_append]
    exact ⟨rh.nd, by simp, fun a h1 b h2 q => n (by simp at h2; rw [← h2, ← q]; exact h1)⟩
  at_ := fun i ys a e1 e2 => by
    by_cases z : i < h.length
    · rw [List.getElem?_append_left z] at e1
      rw [List.getElem?_append_left (by rw [rh.len]; exact z)] at e2
      obtain ⟨us, q, r⟩ := rh.at_ i ys a e1 e2
      exact ⟨us, q, Reps.mono (lef_share _ _) _ _ r⟩
    · have h1 := (List.getElem?_eq_some_iff.mp e1).1
      have hi : i = h.length := by simp at h1; omega
      subst hi
      rw [← rh.len] at e2
      have e1' : xs = ys := by simpa using e1
      have e2' : p = a := by simpa using e2
      subst e1'; subst e2'
      exact ⟨vs, e, Reps.mono (lef_share _ _) _ _ r⟩
  nf := fun a m => (List.mem_append.mp m).elim (rh.nf a) fun q => by simp at q; rw [q]; exact f
  up := rh.up
  tf := rh.tf
/-- a new list or dict, the frame's own: W is the world ahead -/
def NewR (K : PySem.W.Frag) (W W' : Wd) (d : D) (v : V) : Prop := match d with
  | .lst xs => ∃ a vs, v = .ref a ∧ W'.H a = some (.lst vs) ∧ Reps K W' xs vs ∧ ¬ W'.F a ∧ a ∉ W'.ρ ∧ W.H a = none
  | .dK kvs => ∃ a ws, v = .ref a ∧ W'.H a = some (.dK ws) ∧ RepK K W' kvs ws ∧ ¬ W'.F a ∧ a ∉ W'.ρ ∧ W.H a = none
  | .dT kvs => ∃ a ws, v = .ref a ∧ W'.H a = some (.dT ws) ∧ RepT K W' kvs ws ∧ ¬ W'.F a ∧ a ∉ W'.ρ ∧ W.H a = none
  | _ => False
theorem NewR.freeze {d : D} {v : V} (l : Le W W') (rh : RH K W' h) (n : NewR K W W' d v) : ∃ W2, W2.H = W'.H ∧ Le W W2 ∧ RH K W2 h ∧ Rep K W2 d v := by
  cases d with
  | lst xs =>
    obtain ⟨a, vs, rfl, e, r, f, q, o⟩ := n
    refine ⟨W'.frz a, rfl, le_frz l o, rh_frz rh q (by rw [e]; exact fun z => by cases z), ?_⟩
    rw [Rep]
    exact ⟨a, vs, rfl, ⟨.inr rfl, e⟩, Reps.mono (lef_frz _ _) _ _ r⟩
  | dK kvs =>
    obtain ⟨a, vs, rfl, e, r, f, q, o⟩ := n
    refine ⟨W'.frz a, rfl, le_frz l o, rh_frz rh q (by rw [e]; exact fun z => by cases z), ?_⟩
    rw [Rep]
    exact ⟨a, vs, rfl, .inr rfl, .inl e, RepK.mono (lef_frz _ _) _ _ r⟩
  | dT kvs =>
    obtain ⟨a, vs, rfl, e, r, f, q, o⟩ := n
    refine ⟨W'.frz a, rfl, le_frz l o, rh_frz rh q (by rw [e]; exact fun z => by cases z), ?_⟩
    rw [Rep]
    exact ⟨a, vs, rfl, .inr rfl, .inl e, RepT.mono (lef_frz _ _) _ _ r⟩
  | _ => exact n.elim
/-- a new list laid -/
theorem new_lst {p : Addr} {xs : List D} {vs : List V} (n : W.H p = none) (rh : RH K W h) (r : Reps K W xs vs) : Le W (W.put p (.lst vs)) ∧ RH K (W.put p (.lst vs)) h ∧ NewR K W (W.put p (.lst vs)) (.lst xs) (.ref p) :=
  ⟨le_put n, rh_put n rh, p, vs, rfl, upd_same, Reps.mono (le_put n).toLeF _ _ r, fun f => rh.up p f n, fun m => rh.there m n, n⟩
/-- a new tuple laid -/
theorem new_tup {p : Addr} {ob : Obj} {xs : List D} {vs : List V} (n : W.H p = none) (hd : ob.dict = none) (rh : RH K W h) (r : Reps K W xs vs) :
    ∃ W2, W2.H = upd W.H p (.frz ob (.tup vs)) ∧ Le W W2 ∧ RH K W2 h ∧ Rep K W2 (.tup xs) (.ref p) := by
  refine ⟨(W.put p (.frz ob (.tup vs))).frz p, rfl, le_frz (le_put n) n, rh_tup n rh, ?_⟩
  rw [Rep]
  exact ⟨p, vs, rfl, ⟨.inr rfl, ob, hd, upd_same⟩, Reps.mono ((le_put n).toLeF.trans (lef_frz _ _)) _ _ r⟩

/-- read, not kept: frozen, or an own list of the frame -/
def BorO (K : PySem.W.Frag) (W : Wd) (d : D) (v : V) : Prop := match d with
  | .lst xs => ∃ a vs, v = .ref a ∧ W.H a = some (.lst vs) ∧ Reps K W xs vs ∧ ¬ W.F a ∧ a ∉ W.ρ
  | .dK kvs => ∃ a ws, v = .ref a ∧ W.H a = some (.dK ws) ∧ RepK K W kvs ws ∧ ¬ W.F a ∧ a ∉ W.ρ
  | .dT kvs => ∃ a ws, v = .ref a ∧ W.H a = some (.dT ws) ∧ RepT K W kvs ws ∧ ¬ W.F a ∧ a ∉ W.ρ
  | _ => False
def Bor (K : PySem.W.Frag) (W : Wd) (d : D) (v : V) : Prop := Rep K W d v ∨ BorO K W d v
theorem NewR.bor {W0 : Wd} {d : D} {v : V} (n : NewR K W0 W d v) : Bor K W d v := by
  cases d with
  | lst xs => obtain ⟨a, vs, h1, h2, h3, h4, h5, _⟩ := n; exact .inr ⟨a, vs, h1, h2, h3, h4, h5⟩
  | dK xs => obtain ⟨a, vs, h1, h2, h3, h4, h5, _⟩ := n; exact .inr ⟨a, vs, h1, h2, h3, h4, h5⟩
  | dT xs => obtain ⟨a, vs, h1, h2, h3, h4, h5, _⟩ := n; exact .inr ⟨a, vs, h1, h2, h3, h4, h5⟩
  | _ => exact n.elim
theorem Bor.mono {d : D} {v : V} (l : Le W W') (b : Bor K W d v) : Bor K W' d v := by
  rcases b with b | b
  · exact .inl (b.mono l.toLeF)
  · cases d with
    | lst xs =>
      obtain ⟨a, vs, h1, h2, h3, h4, h5⟩ := b
      obtain ⟨b1, b2, b3⟩ := l.fo a _ h2 h4 h5
      exact .inr ⟨a, vs, h1, b1, h3.mono l.toLeF, b2, b3⟩
    | dK xs =>
      obtain ⟨a, vs, h1, h2, h3, h4, h5⟩ := b
      obtain ⟨b1, b2, b3⟩ := l.fo a _ h2 h4 h5
      exact .inr ⟨a, vs, h1, b1, h3.mono l.toLeF, b2, b3⟩
    | dT xs =>
      obtain ⟨a, vs, h1, h2, h3, h4, h5⟩ := b
      obtain ⟨b1, b2, b3⟩ := l.fo a _ h2 h4 h5
      exact .inr ⟨a, vs, h1, b1, h3.mono l.toLeF, b2, b3⟩
    | _ => exact b.elim
theorem Bor.int {i : Int} {v : V} (b : Bor K W (.int i) v) : v = .int i := b.elim (fun h => by rwa [Rep] at h) fun h => h.elim
theorem Bor.bl {i : Bool} {v : V} (b : Bor K W (.bl i) v) : v = .bl i := b.elim (fun h => by rwa [Rep] at h) fun h => h.elim
theorem Bor.str {i : Str} {v : V} (b : Bor K W (.str i) v) : v = .str i := b.elim (fun h => by rwa [Rep] at h) fun h => h.elim
theorem Bor.non {v : V} (b : Bor K W .non v) : v = .non := b.elim (fun h => by rwa [Rep] at h) fun h => h.elim
theorem Bor.tup {xs : List D} {v : V} (b : Bor K W (.tup xs) v) : ∃ a vs, v = .ref a ∧ SqT K W.H a vs ∧ Reps K W xs vs ∧ Rep K W (.tup xs) v := b.elim (fun h => by
  have h0 := h
  rw [Rep] at h
  obtain ⟨a, vs, e, t, r⟩ := h
  exact ⟨a, vs, e, t.sq, r, h0⟩) fun h => h.elim
theorem Bor.lst {xs : List D} {v : V} (b : Bor K W (.lst xs) v) : ∃ a vs, v = .ref a ∧ W.H a = some (.lst vs) ∧ Reps K W xs vs := b.elim (fun h => by
  rw [Rep] at h
  obtain ⟨a, vs, e, t, r⟩ := h
  exact ⟨a, vs, e, t.2, r⟩) fun ⟨a, vs, e, t, r, _⟩ => ⟨a, vs, e, t, r⟩
theorem Bor.frl {xs : List D} {v : V} (b : Bor K W (.frl xs) v) : ∃ a vs, v = .ref a ∧ SqL K W.H a vs ∧ Reps K W xs vs := b.elim (fun h => by
  rw [Rep] at h
  obtain ⟨a, vs, e, t, r⟩ := h
  exact ⟨a, vs, e, t.sq, r⟩) fun h => h.elim
theorem Bor.dK {xs : List (Key × D)} {v : V} (b : Bor K W (.dK xs) v) : ∃ a ws, v = .ref a ∧ Rd W.H a (.dK ws) ∧ RepK K W xs ws := b.elim (fun h => by
  rw [Rep] at h
  obtain ⟨a, vs, e, _, t, r⟩ := h
  exact ⟨a, vs, e, t, r⟩) fun ⟨a, vs, e, t, r, _⟩ => ⟨a, vs, e, .inl t, r⟩
theorem Bor.dT {xs : List (List Key × D)} {v : V} (b : Bor K W (.dT xs) v) : ∃ a ws, v = .ref a ∧ Rd W.H a (.dT ws) ∧ RepT K W xs ws := b.elim (fun h => by
  rw [Rep] at h
  obtain ⟨a, vs, e, _, t, r⟩ := h
  exact ⟨a, vs, e, t, r⟩) fun ⟨a, vs, e, t, r, _⟩ => ⟨a, vs, e, .inl t, r⟩
end
theorem rep_int {K : PySem.W.Frag} {W : Wd} {i : Int} : Rep K W (.int i) (.int i) := by rw [Rep]
theorem rep_bl {K : PySem.W.Frag} {W : Wd} {i : Bool} : Rep K W (.bl i) (.bl i) := by rw [Rep]
theorem rep_str {K : PySem.W.Frag} {W : Wd} {i : Str} : Rep K W (.str i) (.str i) := by rw [Rep]
theorem rep_non {K : PySem.W.Frag} {W : Wd} : Rep K W .non .non := by rw [Rep]

/-! ### contexts and judgements -/
structure Gx where
  P : Program
  w : World
  K : PySem.W.Frag
  mg : Str → Option Value
  base : Heap
structure Cn where
  g : Gx
  k : Nat
  N : List Str
  sc : Scope
  fn : Str → Bool
structure CxOk (C : Cn) (X : Cx) (E : WX) : Prop where
  prog : X.prog = C.g.P
  w : X.w = C.g.w
  K : X.K = C.g.K
  mg : X.mg = C.g.mg
  base : X.base = C.g.base
  names : X.N = C.N
  nd : X.N.Nodup
  scope : X.env.scope = C.sc
  calm : X.calm = true
  room : Room C.k X.A
  takes : Takes X E
  own : PassesOwn (model X.prog X.w) X.A X.env X.xe
  fnk : ∀ x, C.fn x = true → X.fn x = true
  top : (∀ x, C.fn x = true) → X.stack = X.env :: X.outer ∧ X.env.frame = some X.env.locals
/-- the judgement: t is a reading of the syntax that J says, and f tells what it is worth -/
def DenG (C : Cn) {α β : Type} (J : Cx → (L2.St → Hp → (β → Hp → Prop) → Prop) → Prop) (Rel : Wd → Wd → α → β → Prop) (f : List Sl → HS → Res α) : Prop :=
  ∀ X E, CxOk C X E → ∃ t, J X t ∧ ∀ W0 W τ σ h (Q : β → Hp → Prop), Le W0 W → Frm C.g.K W0 W τ σ → RH C.g.K W h →
    okG C.g.K C.g.mg (Rel W) W (fun c dd H => E c dd σ H) Q (f τ h) → t σ W.H Q
abbrev DenE (C : Cn) (e : Expr) (f : DE) : Prop := DenG C (fun X t => PE X e t) (fun _ => Rep C.g.K) f
abbrev DenB (C : Cn) (e : Expr) (f : DE) : Prop := DenG C (fun X t => PE X e t) (fun _ => Bor C.g.K) f
abbrev DenN (C : Cn) (e : Expr) (f : DE) : Prop := DenG C (fun X t => PE X e t) (fun W => NewR C.g.K W) f
abbrev DenT (C : Cn) (e : Expr) (f : DT) : Prop := DenG C (fun X t => PT X e t) (fun _ _ a b => a = b) f
abbrev DenA (C : Cn) (es : List Expr) (f : DA) : Prop := DenG C (fun X t => PA X es t) (fun _ => Reps C.g.K) f
theorem okG.imp {K : PySem.W.Frag} {mg : Str → Option Value} {α β : Type} {Rel Rel' : Wd → α → β → Prop} {W : Wd} {E : XK} {Q : β → Hp → Prop} {r : Res α} (h : okG K mg Rel' W E Q r)
    (k : ∀ W' a b h', Le W W' → RH K W' h' → Rel W' a b → ∃ W2, W2.H = W'.H ∧ Le W W2 ∧ RH K W2 h' ∧ Rel' W2 a b) : okG K mg Rel W E Q r := by
  cases r with
  | ok a s =>
    intro W' b l rh q
    obtain ⟨W2, e, l2, rh2, q2⟩ := k W' a b s l rh q
    rw [← e]
    exact h W2 b l2 rh2 q2
  | exc x s => exact h
  | bad => exact h
section
variable {C : Cn} {e : Expr} {f : DE}
theorem DenE.b (h : DenE C e f) : DenB C e f := fun X E ok => by
  obtain ⟨t, ht, q⟩ := h X E ok
  exact ⟨t, ht, fun W0 W τ σ s Q l fr rh o => q W0 W τ σ s Q l fr rh (o.imp fun W' a b _ l' rh' z => ⟨W', rfl, l', rh', .inl z⟩)⟩
theorem DenN.toE (h : DenN C e f) : DenE C e f := fun X E ok => by
  obtain ⟨t, ht, q⟩ := h X E ok
  exact ⟨t, ht, fun W0 W τ σ s Q l fr rh o => q W0 W τ σ s Q l fr rh (o.imp fun W' a b _ l' rh' z => z.freeze l' rh')⟩
theorem DenN.b (h : DenN C e f) : DenB C e f := fun X E ok => by
  obtain ⟨t, ht, q⟩ := h X E ok
  exact ⟨t, ht, fun W0 W τ σ s Q l fr rh o => q W0 W τ σ s Q l fr rh (o.imp fun W' a b _ l' rh' z => ⟨W', rfl, l', rh', z.bor⟩)⟩
/-- a new list becomes a shared one -/
def sShare (r : Res D) : Res D := r.bind fun d h => match d with
  | .lst xs => .ok (.ref h.length) (h ++ [xs])
  | _ => .bad
theorem DenN.share (h : DenN C e f) : DenE C e (fun τ s => sShare (f τ s)) := fun X E ok => by
  obtain ⟨t, ht, q⟩ := h X E ok
  refine ⟨t, ht, fun W0 W τ σ s Q l fr rh o => q W0 W τ σ s Q l fr rh ?_⟩
  have o : okG C.g.K C.g.mg (Rep C.g.K) W (fun c dd H => E c dd σ H) Q (sShare (f τ s)) := o
  show okG C.g.K C.g.mg (NewR C.g.K W) W (fun c dd H => E c dd σ H) Q (f τ s)
  revert o
  generalize f τ s = r
  intro o
  cases r with
  | ok d s1 =>
    intro W1 v l1 rh1 n
    cases d with
    | lst xs =>
      obtain ⟨a, vs, rfl, e, r, nf, nr, old⟩ := n
      exact o (W1.share a) (.ref a) (le_share l1 old) (rh_share rh1 nr nf e r) (by
        rw [Rep]
        refine ⟨a, ?_, rfl⟩
        rw [← rh1.len]
        simp)
    | _ => exact (show False from o).elim
  | exc x s1 => exact o
  | bad => exact o

/-! ### names, constants -/
def getS (τ : List Sl) (i : Nat) (h : HS) : Res D := match τ[i]? with
  | some (.val d) => .ok d h
  | _ => .bad
def getB (τ : List Sl) (i : Nat) (h : HS) : Res D := match τ[i]? with
  | some (.val d) => .ok d h
  | some (.own xs) => .ok (.lst xs) h
  | some (.ownK xs) => .ok (.dK xs) h
  | some (.ownT xs) => .ok (.dT xs) h
  | _ => .bad
/-- the name x stands in slot i -/
def nmB (N : List Str) (sc : Scope) (x : Str) (i : Nat) : Bool :=
  decide (N[i]? = some x) && (match sc.names.lookup x with | some .local => true | some .cell => true | some .free => true | _ => false) && !(x == ("__debug__" : Str)) && !(x == ("__classdict__" : Str))
theorem nmB_ok {N : List Str} {sc : Scope} {x : Str} {i : Nat} (h : nmB N sc x i = true) : N[i]? = some x ∧ Vis sc x ∧ (x == ("__debug__" : Str)) = false ∧ (x == ("__classdict__" : Str)) = false := by
  unfold nmB at h
  simp only [Bool.and_eq_true, decide_eq_true_eq, Bool.not_eq_true'] at h
  obtain ⟨⟨⟨h1, h2⟩, h3⟩, h4⟩ := h
  refine ⟨h1, ?_, h3, h4⟩
  unfold Vis
  cases q : sc.names.lookup x with
  | none => rw [q] at h2; cases h2
  | some k => rw [q] at h2; cases k <;> first | exact .inl rfl | exact .inr (.inl rfl) | exact .inr (.inr rfl) | cases h2
/-- the name x is a global one -/
def glB (sc : Scope) (x : Str) : Bool := (match sc.names.lookup x with | some .globalImplicit => true | _ => false) && !(x == ("__debug__" : Str)) && !(x == ("__name__" : Str))
theorem glB_ok {C : Cn} {X : Cx} {E : WX} (ok : CxOk C X E) {x : Str} (h : glB C.sc x = true) : Gl X x ∧ (x == ("__debug__" : Str)) = false ∧ x ≠ "__name__" := by
  unfold glB at h
  simp only [Bool.and_eq_true, Bool.not_eq_true', beq_eq_false_iff_ne] at h
  obtain ⟨⟨h1, h2⟩, h3⟩ := h
  refine ⟨?_, by simpa using h2, h3⟩
  show X.env.scope.names.lookup x = _
  rw [ok.scope]
  cases q : C.sc.names.lookup x with
  | none => rw [q] at h1; cases h1
  | some k => rw [q] at h1; cases k <;> first | rfl | cases h1
section
variable {C : Cn} {x : Str} {pos : Pos} {i : Nat}
theorem okG.now {K : PySem.W.Frag} {mg : Str → Option Value} {α β : Type} {Rel : Wd → α → β → Prop} {W : Wd} {E : XK} {Q : β → Hp → Prop} {a : α} {b : β} {h : HS} (o : okG K mg Rel W E Q (.ok a h)) (rh : RH K W h) (r : Rel W a b) : Q b W.H := o W b (.refl W) rh r
theorem den_name (hn : nmB C.N C.sc x i = true) : DenE C (.Name x pos) (fun τ h => getS τ i h) := fun X E ok => by
  obtain ⟨h1, h2, h3, h4⟩ := nmB_ok hn
  refine ⟨_, pe_var (i := i) (by rw [ok.names]; exact h1) (by rw [ok.scope]; exact h2) h3 h4, fun W0 W τ σ h Q l fr rh o => ?_⟩
  have o : okG _ _ _ _ _ _ (getS τ i h) := o
  unfold getS at o
  cases q : τ[i]? with
  | none => rw [q] at o; exact o.elim
  | some s =>
    rw [q] at o
    cases s with
    | val d =>
      obtain ⟨v, e, r⟩ := fr.at_ i _ q
      exact ⟨v, e, o.now rh r⟩
    | _ => exact o.elim
theorem den_bname (hn : nmB C.N C.sc x i = true) : DenB C (.Name x pos) (fun τ h => getB τ i h) := fun X E ok => by
  obtain ⟨h1, h2, h3, h4⟩ := nmB_ok hn
  refine ⟨_, pe_var (i := i) (by rw [ok.names]; exact h1) (by rw [ok.scope]; exact h2) h3 h4, fun W0 W τ σ h Q l fr rh o => ?_⟩
  have o : okG _ _ _ _ _ _ (getB τ i h) := o
  unfold getB at o
  cases q : τ[i]? with
  | none => rw [q] at o; exact o.elim
  | some s =>
    rw [q] at o
    cases s with
    | val d =>
      obtain ⟨v, e, r⟩ := fr.at_ i _ q
      exact ⟨v, e, o.now rh (.inl r)⟩
    | own d =>
      obtain ⟨a, v, e, r, rs, w⟩ := fr.at_ i _ q
      exact ⟨_, e, o.now rh (.inr ⟨a, v, rfl, r, rs, w.nf, w.nr⟩)⟩
    | ownK d =>
      obtain ⟨a, v, e, r, rs, w⟩ := fr.at_ i _ q
      exact ⟨_, e, o.now rh (.inr ⟨a, v, rfl, r, rs, w.nf, w.nr⟩)⟩
    | ownT d =>
      obtain ⟨a, v, e, r, rs, w⟩ := fr.at_ i _ q
      exact ⟨_, e, o.now rh (.inr ⟨a, v, rfl, r, rs, w.nf, w.nr⟩)⟩
    | _ => exact o.elim
theorem den_int {n : Int} {j} : DenE C (.Constant (.int n) j pos) (fun _ h => .ok (.int n) h) := fun X E ok => ⟨_, pe_int, fun W0 W τ σ h Q l fr rh o => o.now rh rep_int⟩
theorem den_bl {n : Bool} {j} : DenE C (.Constant (.bool n) j pos) (fun _ h => .ok (.bl n) h) := fun X E ok => ⟨_, pe_bl, fun W0 W τ σ h Q l fr rh o => o.now rh rep_bl⟩
theorem den_str {n : Str} {j} : DenE C (.Constant (.str n) j pos) (fun _ h => .ok (.str n) h) := fun X E ok => ⟨_, pe_str, fun W0 W τ σ h Q l fr rh o => o.now rh rep_str⟩
theorem den_non {j} : DenE C (.Constant .none j pos) (fun _ h => .ok .non h) := fun X E ok => ⟨_, pe_non, fun W0 W τ σ h Q l fr rh o => o.now rh rep_non⟩
/-- the constants of the module -/
def conD (u : Value) : Option D := match u with
  | .none => some .non
  | .bool b => some (.bl b)
  | .int i _ => some (.int i)
  | .str s _ => some (.str s)
  | _ => none
theorem conD_ok {K : PySem.W.Frag} {W : Wd} {u : Value} {d : D} (h : conD u = some d) : ∃ v, RelV v u ∧ Rep K W d v := by
  cases u <;> simp only [conD, Option.some.injEq, reduceCtorEq] at h <;> subst h
  · exact ⟨.non, rfl, rep_non⟩
  · exact ⟨.bl _, rfl, rep_bl⟩
  · exact ⟨.int _, ⟨_, rfl⟩, rep_int⟩
  · exact ⟨.str _, ⟨_, rfl⟩, rep_str⟩
/-- a constant of the module -/
theorem den_con {u : Value} {d : D} (hg : glB C.sc x = true) (hm : C.g.mg x = some u) (hd : conD u = some d) : DenE C (.Name x pos) (fun _ h => .ok d h) := fun X E ok => by
  obtain ⟨g1, g2, g3⟩ := glB_ok ok hg
  obtain ⟨v, r, _⟩ := conD_ok (K := C.g.K) (W := ⟨fun _ => False, [], fun _ => none⟩) hd
  refine ⟨_, pe_glob (v := v) g1 (by rw [ok.mg]; exact hm) r g2, fun W0 W τ σ h Q l fr rh o => ?_⟩
  obtain ⟨v', r', p⟩ := conD_ok (K := C.g.K) (W := W) hd
  obtain rfl : v' = v := r'.inj r
  exact o.now rh p
end

/-! ### operators on two values -/
/-- g: what the operation f makes of two data -/
def OpD (C : Cn) (f : Value → Value → Sem Value) (g : D → D → Option D) : Prop :=
  ∀ X E, CxOk C X E → ∃ r, OpR X f r ∧ ∀ W h x y v u d (Q : VK), RH C.g.K W h → Bor C.g.K W x v → Bor C.g.K W y u → g x y = some d → (∀ W' b, Le W W' → RH C.g.K W' h → Rep C.g.K W' d b → Q b W'.H) → r v u W.H Q
theorem OpD.or {C : Cn} {f : Value → Value → Sem Value} {g g' : D → D → Option D} (h : OpD C f g) (h' : OpD C f g') : OpD C f (fun x y => (g x y).or (g' x y)) := fun X E ok => by
  obtain ⟨r, p, q⟩ := h X E ok
  obtain ⟨r', p', q'⟩ := h' X E ok
  refine ⟨_, p.or p', fun W s x y v u d Q rh b1 b2 e k => ?_⟩
  have e : (g x y).or (g' x y) = some d := e
  cases e1 : g x y with
  | some d' =>
    rw [e1] at e
    cases e
    exact .inl (q W s x y v u _ Q rh b1 b2 e1 k)
  | none =>
    rw [e1] at e
    exact .inr (q' W s x y v u d Q rh b1 b2 e k)
def res2 (g : D → D → Option D) (a b : DE) : DE := fun τ h => (a τ h).bind fun x h1 => (b τ h1).bind fun y h2 => toRes (g x y) h2
section
variable {C : Cn} {a b : Expr} {fa fb : DE} {pos : Pos}
theorem okG.bind2 {α β α' β' : Type} {K : PySem.W.Frag} {mg : Str → Option Value} {Rel : Wd → α → β → Prop} {Rel2 : Wd → α' → β' → Prop} {W : Wd} {E : XK} {Q : β → Hp → Prop} {Q2 : β' → Hp → Prop} {r : Res α} {g : α → HS → Res α'}
    (o : okG K mg Rel2 W E Q2 (r.bind g)) (k : ∀ x h1 W1 v, Le W W1 → RH K W1 h1 → Rel W1 x v → okG K mg Rel2 W1 E Q2 (g x h1) → Q v W1.H) : okG K mg Rel W E Q r := okG.bind o k
theorem toRes_some {α β : Type} {K : PySem.W.Frag} {mg : Str → Option Value} {Rel : Wd → α → β → Prop} {W : Wd} {E : XK} {Q : β → Hp → Prop} {r : Option α} {h : HS} (o : okG K mg Rel W E Q (toRes r h)) : ∃ d, r = some d ∧ ∀ W' b, Le W W' → RH K W' h → Rel W' d b → Q b W'.H := by
  cases r with
  | none => exact o.elim
  | some d => exact ⟨d, rfl, o⟩
theorem den_bin {op : Operator} {g : D → D → Option D} (ho : OpD C (binaryOp op) g) (ha : DenB C a fa) (hb : DenB C b fb) : DenE C (.BinOp a op b pos) (res2 g fa fb) := fun X E ok => by
  obtain ⟨r, hr, qr⟩ := ho X E ok
  obtain ⟨ta, pa, qa⟩ := ha X E ok
  obtain ⟨tb, pb, qb⟩ := hb X E ok
  refine ⟨_, pe_op hr pa pb, fun W0 W τ σ h Q l fr rh o => ?_⟩
  refine qa W0 W τ σ h _ l fr rh (okG.bind o fun x h1 W1 v l1 rh1 b1 o1 => ?_)
  refine qb W0 W1 τ σ h1 _ (l.trans l1) (fr.mono l1) rh1 (okG.bind o1 fun y h2 W2 u l2 rh2 b2 o2 => ?_)
  obtain ⟨d, e, k⟩ := toRes_some o2
  exact qr W2 h2 x y v u d Q rh2 (b1.mono l2) b2 e k
theorem den_cmp {op : CmpOp} {g : D → D → Option D} (ho : OpD C (compareOp op) g) (ha : DenB C a fa) (hb : DenB C b fb) (hm : behindInMarks op b = false) : DenE C (.Compare a [op] [b] pos) (res2 g fa fb) := fun X E ok => by
  obtain ⟨r, hr, qr⟩ := ho X E ok
  obtain ⟨ta, pa, qa⟩ := ha X E ok
  obtain ⟨tb, pb, qb⟩ := hb X E ok
  refine ⟨_, pe_cmpR hr pa pb hm, fun W0 W τ σ h Q l fr rh o => ?_⟩
  refine qa W0 W τ σ h _ l fr rh (okG.bind o fun x h1 W1 v l1 rh1 b1 o1 => ?_)
  refine qb W0 W1 τ σ h1 _ (l.trans l1) (fr.mono l1) rh1 (okG.bind o1 fun y h2 W2 u l2 rh2 b2 o2 => ?_)
  obtain ⟨d, e, k⟩ := toRes_some o2
  exact qr W2 h2 x y v u d Q rh2 (b1.mono l2) b2 e k
end
end
end Sw

/-! Sw, part C: operators on plain data. -/
namespace Sw
open PySem PySem.Spec PyProof.Rows L2

/-! ### ints -/
def intD (c : Int → Int → Bool) (g : Int → Int → D) : D → D → Option D
  | .int i, .int j => if c i j then some (g i j) else none
  | _, _ => none
def Dv : D → Option V
  | .non => some .non | .bl b => some (.bl b) | .int i => some (.int i) | .str s => some (.str s) | _ => none
theorem Dv_rep {K : PySem.W.Frag} {W : Wd} {d : D} {v : V} (h : Dv d = some v) : Rep K W d v := by
  cases d <;> simp only [Dv, Option.some.injEq, reduceCtorEq] at h <;> subst h <;> rw [Rep]
theorem opd_int {C : Cn} {f : Value → Value → Sem Value} {c : Int → Int → Bool} {g : Int → Int → D} {CC : Int → Int → Prop} {gv : Int → Int → V} (hr : ∀ X : Cx, OpR X f (rI CC gv)) (hc : ∀ i j, c i j = true → CC i j) (hg : ∀ i j, c i j = true → Dv (g i j) = some (gv i j)) : OpD C f (intD c g) := fun X E ok =>
  ⟨_, hr X, fun W h x y v u d Q rh b1 b2 e k => by
    cases x <;> first | (cases e; done) | skip
    cases y <;> first | (cases e; done) | skip
    rename_i i j
    simp only [intD] at e
    split at e
    · rename_i hc'
      cases e
      obtain rfl := b1.int
      obtain rfl := b2.int
      exact ⟨i, j, rfl, rfl, hc _ _ hc', k W _ (.refl W) rh (Dv_rep (hg _ _ hc'))⟩
    · cases e⟩
theorem opd_int0 {C : Cn} {f : Value → Value → Sem Value} {g : Int → Int → D} {gv : Int → Int → V} (hr : ∀ X : Cx, OpR X f (rI0 gv)) (hg : ∀ i j, Dv (g i j) = some (gv i j)) : OpD C f (intD (fun _ _ => true) g) := fun X E ok =>
  ⟨_, hr X, fun W h x y v u d Q rh b1 b2 e k => by
    cases x <;> first | (cases e; done) | skip
    cases y <;> first | (cases e; done) | skip
    rename_i i j
    simp only [intD, if_true] at e
    cases e
    obtain rfl := b1.int
    obtain rfl := b2.int
    exact ⟨i, j, rfl, rfl, k W _ (.refl W) rh (Dv_rep (hg _ _))⟩⟩
def mulOk (i j : Int) : Bool := (decide (-(2 ^ 64) < i) && decide (i < 2 ^ 64)) || ((decide (-(2 ^ 64) < j) && decide (j < 2 ^ 64)) || decide (i.natAbs.log2 + j.natAbs.log2 < 1000000))
theorem mulOk_ok {i j : Int} (h : mulOk i j = true) : IntMulOk i j := by
  unfold mulOk at h
  simp only [Bool.or_eq_true, Bool.and_eq_true, decide_eq_true_eq] at h
  rcases h with h | h | h
  · exact CMul.ok (.inl h)
  · exact CMul.ok (.inr h)
  · exact CMulW.ok h
theorem op_mulA {X : Cx} : OpR X (binaryOp .Mult) (rI (fun i j => mulOk i j = true) fun i j => .int (i * j)) := opI fun _ _ _ _ _ _ _ hc q => mul_int q (mulOk_ok hc)
theorem iop_mulA {X : Cx} : OpR X (inplaceOp .Mult) (rI (fun i j => mulOk i j = true) fun i j => .int (i * j)) := opI fun _ _ _ _ _ _ _ hc q => imul_int q (mulOk_ok hc)
def divOk (_ j : Int) : Bool := decide (j ≠ 0) && decide (j.natAbs.log2 < 9000)
theorem op_fdivA {X : Cx} : OpR X (binaryOp .FloorDiv) (rI (fun i j => divOk i j = true) fun i j => .int (i.fdiv j)) := opI fun i j _ _ _ _ _ hc q => by
  unfold divOk at hc
  simp only [Bool.and_eq_true, decide_eq_true_eq] at hc
  exact floordiv_int hc.1 q (.inl (PyProof.noPylong_of_log2 hc.2))
def modOk (_ j : Int) : Bool := decide (j ≠ 0)
def powOk (i j : Int) : Bool := decide (0 ≤ j) && (decide (j ≤ 1000000) && decide (i.natAbs < 2 ^ 64))
section
variable {C : Cn}
def iAdd : D → D → Option D := intD (fun _ _ => true) fun i j => .int (i + j)
def iSub : D → D → Option D := intD (fun _ _ => true) fun i j => .int (i - j)
def iMul : D → D → Option D := intD mulOk fun i j => .int (i * j)
def iDiv : D → D → Option D := intD divOk fun i j => .int (i.fdiv j)
def iMod : D → D → Option D := intD modOk fun i j => .int (i.fmod j)
def iPow : D → D → Option D := intD powOk fun i j => .int (i ^ j.toNat)
def iLt : D → D → Option D := intD (fun _ _ => true) fun i j => .bl (decide (i < j))
def iLe : D → D → Option D := intD (fun _ _ => true) fun i j => .bl (decide (i ≤ j))
def iGt : D → D → Option D := intD (fun _ _ => true) fun i j => .bl (decide (j < i))
def iGe : D → D → Option D := intD (fun _ _ => true) fun i j => .bl (decide (j ≤ i))
theorem o_add : OpD C (binaryOp .Add) iAdd := opd_int0 (fun _ => op_add) fun _ _ => rfl
theorem o_sub : OpD C (binaryOp .Sub) iSub := opd_int0 (fun _ => op_sub) fun _ _ => rfl
theorem o_mul : OpD C (binaryOp .Mult) iMul := opd_int (fun _ => op_mulA) (fun _ _ h => h) fun _ _ _ => rfl
theorem o_div : OpD C (binaryOp .FloorDiv) iDiv := opd_int (fun _ => op_fdivA) (fun _ _ h => h) fun _ _ _ => rfl
theorem o_mod : OpD C (binaryOp .Mod) iMod := opd_int (fun _ => op_modN) (fun _ _ h => of_decide_eq_true h) fun _ _ _ => rfl
theorem o_pow : OpD C (binaryOp .Pow) iPow := opd_int (fun _ => op_pow) (fun _ _ h => by
  unfold powOk at h
  simp only [Bool.and_eq_true, decide_eq_true_eq] at h
  exact h) fun _ _ _ => rfl
theorem o_lt : OpD C (compareOp .Lt) iLt := opd_int0 (fun _ => op_lt) fun _ _ => rfl
theorem o_le : OpD C (compareOp .LtE) iLe := opd_int0 (fun _ => op_le) fun _ _ => rfl
theorem o_gt : OpD C (compareOp .Gt) iGt := opd_int0 (fun _ => op_gt) fun _ _ => rfl
theorem o_ge : OpD C (compareOp .GtE) iGe := opd_int0 (fun _ => op_ge) fun _ _ => rfl
theorem io_add : OpD C (inplaceOp .Add) iAdd := opd_int0 (fun _ => iop_add) fun _ _ => rfl
theorem io_sub : OpD C (inplaceOp .Sub) iSub := opd_int0 (fun _ => iop_sub) fun _ _ => rfl
theorem io_mul : OpD C (inplaceOp .Mult) iMul := opd_int (fun _ => iop_mulA) (fun _ _ h => h) fun _ _ _ => rfl
end

/-! ### sequences -/
def fits (n : Nat) : Bool := decide (n ≤ sizeLine)
def catL : D → D → Option D
  | .lst xs, .lst ys => if fits (xs.length + ys.length) then some (.lst (xs ++ ys)) else none
  | _, _ => none
def catT : D → D → Option D
  | .tup xs, .tup ys => if fits (xs.length + ys.length) then some (.tup (xs ++ ys)) else none
  | _, _ => none
def catS : D → D → Option D
  | .str xs, .str ys => if fits (xs.length + ys.length) then some (.str (xs ++ ys)) else none
  | _, _ => none
/-- two values, a new list out of them -/
def OpN (C : Cn) (f : Value → Value → Sem Value) (g : D → D → Option D) : Prop :=
  ∀ X E, CxOk C X E → ∃ r, OpR X f r ∧ ∀ W0 W h x y v u d (Q : VK), Le W0 W → RH C.g.K W h → Bor C.g.K W x v → Bor C.g.K W y u → g x y = some d → (∀ W' b, Le W W' → RH C.g.K W' h → NewR C.g.K W0 W' d b → Q b W'.H) → r v u W.H Q
theorem NewR.of {K : PySem.W.Frag} {W0 W W' : Wd} {h : HS} {d : D} {v : V} (l : Le W0 W) (rh : RH K W h) (n : NewR K W W' d v) : NewR K W0 W' d v := by
  cases d with
  | lst xs => obtain ⟨a, vs, h1, h2, h3, h4, h5, h6⟩ := n; exact ⟨a, vs, h1, h2, h3, h4, h5, l.old rh h6⟩
  | dK xs => obtain ⟨a, vs, h1, h2, h3, h4, h5, h6⟩ := n; exact ⟨a, vs, h1, h2, h3, h4, h5, l.old rh h6⟩
  | dT xs => obtain ⟨a, vs, h1, h2, h3, h4, h5, h6⟩ := n; exact ⟨a, vs, h1, h2, h3, h4, h5, l.old rh h6⟩
  | _ => exact n.elim
theorem OpN.d {C : Cn} {f : Value → Value → Sem Value} {g : D → D → Option D} (h : OpN C f g) : OpD C f g := fun X E ok => by
  obtain ⟨r, hr, q⟩ := h X E ok
  refine ⟨r, hr, fun W s x y v u d Q rh b1 b2 e k => q W W s x y v u d Q (.refl W) rh b1 b2 e fun W' b l rh' n => ?_⟩
  obtain ⟨W2, e2, l2, rh2, r2⟩ := n.freeze l rh'
  rw [← e2]
  exact k W2 b l2 rh2 r2
section
variable {C : Cn}
theorem on_catL : OpN C (binaryOp .Add) catL := fun X E ok =>
  ⟨_, op_cat, fun W0 W h x y v u d Q l0 rh b1 b2 e k => by
    cases x <;> first | (cases e; done) | skip
    cases y <;> first | (cases e; done) | skip
    rename_i xs ys
    simp only [catL] at e
    split at e
    · rename_i hz
      cases e
      obtain ⟨a, vs, rfl, e1, r1⟩ := b1.lst
      obtain ⟨b, us, rfl, e2, r2⟩ := b2.lst
      refine ⟨a, b, vs, us, rfl, rfl, e1, e2, by rw [← r1.length, ← r2.length]; exact of_decide_eq_true hz, fun p np => ?_⟩
      obtain ⟨l, rh', n⟩ := new_lst np rh (r1.append r2)
      exact k _ _ l rh' (n.of l0 rh)
    · cases e⟩
theorem o_catL : OpD C (binaryOp .Add) catL := on_catL.d
theorem o_catT : OpD C (binaryOp .Add) catT := fun X E ok =>
  ⟨_, op_catX, fun W h x y v u d Q rh b1 b2 e k => by
    cases x <;> first | (cases e; done) | skip
    cases y <;> first | (cases e; done) | skip
    rename_i xs ys
    simp only [catT] at e
    split at e
    · rename_i hz
      cases e
      obtain ⟨a, vs, rfl, e1, r1, q1⟩ := b1.tup
      obtain ⟨b, us, rfl, e2, r2, q2⟩ := b2.tup
      rw [← ok.K] at e1 e2
      refine ⟨a, b, vs, us, rfl, rfl, e1, e2, by rw [← r1.length, ← r2.length]; exact of_decide_eq_true hz, fun z => ?_, fun _ z => ?_, fun _ _ p ob np hd => ?_⟩
      · subst z
        have : xs = [] := List.eq_nil_of_length_eq_zero (by rw [r1.length]; rfl)
        subst this
        exact k W _ (.refl W) rh q2
      · subst z
        have : ys = [] := List.eq_nil_of_length_eq_zero (by rw [r2.length]; rfl)
        subst this
        rw [List.append_nil] at k
        exact k W _ (.refl W) rh q1
      · obtain ⟨W2, eH, l, rh', n⟩ := new_tup np hd rh (r1.append r2)
        rw [← eH]
        exact k _ _ l rh' n
    · cases e⟩
theorem o_catS : OpD C (binaryOp .Add) catS := fun X E ok =>
  ⟨_, op_add_str, fun W h x y v u d Q rh b1 b2 e k => by
    cases x <;> first | (cases e; done) | skip
    cases y <;> first | (cases e; done) | skip
    rename_i xs ys
    simp only [catS] at e
    split at e
    · rename_i hz
      cases e
      obtain rfl := b1.str
      obtain rfl := b2.str
      exact ⟨xs, ys, rfl, rfl, of_decide_eq_true hz, k W _ (.refl W) rh rep_str⟩
    · cases e⟩
def repL : D → D → Option D
  | .lst xs, .int k => if decide (k < 2 ^ 62) && (decide (-(2 ^ 62) < k) && fits (xs.length * k.toNat)) then some (.lst (List.replicate k.toNat xs).flatten) else none
  | _, _ => none
def repT : D → D → Option D
  | .tup xs, .int k => if decide (xs.length ≠ 0) && (decide (2 ≤ k) && (decide (k ≤ 1000) && decide (xs.length ≤ 1000))) then some (.tup (List.replicate k.toNat xs).flatten) else none
  | _, _ => none
theorem Reps.rep {K : PySem.W.Frag} {W : Wd} {ds : List D} {vs : List V} (h : Reps K W ds vs) : ∀ n : Nat, Reps K W (List.replicate n ds).flatten (List.replicate n vs).flatten
  | 0 => by simp [Reps]
  | n + 1 => by
    rw [List.replicate_succ, List.replicate_succ, List.flatten_cons, List.flatten_cons]
    exact h.append (Reps.rep h n)
theorem on_repL : OpN C (binaryOp .Mult) repL := fun X E ok =>
  ⟨_, op_rep, fun W0 W h x y v u d Q l0 rh b1 b2 e k => by
    cases x <;> first | (cases e; done) | skip
    cases y <;> first | (cases e; done) | skip
    rename_i xs n
    simp only [repL] at e
    split at e
    · rename_i hz
      cases e
      simp only [Bool.and_eq_true, decide_eq_true_eq] at hz
      obtain ⟨h1, h2, h3⟩ := hz
      obtain ⟨a, vs, rfl, e1, r1⟩ := b1.lst
      obtain rfl := b2.int
      refine ⟨a, n, vs, rfl, rfl, e1, by omega, by omega, by rw [← r1.length]; exact of_decide_eq_true h3, fun p np => ?_⟩
      obtain ⟨l, rh', nn⟩ := new_lst np rh (r1.rep n.toNat)
      exact k _ _ l rh' (nn.of l0 rh)
    · cases e⟩
theorem o_repL : OpD C (binaryOp .Mult) repL := on_repL.d
/-- + and * of anything -/
def addD (x y : D) : Option D := match x, y with
  | .int i, .int j => some (.int (i + j))
  | .tup _, _ => catT x y
  | .lst _, _ => catL x y
  | .str _, _ => catS x y
  | _, _ => none
def mulD (x y : D) : Option D := match x with
  | .int _ => iMul x y
  | .lst _ => repL x y
  | _ => none
theorem OpD.weaken {f : Value → Value → Sem Value} {g g' : D → D → Option D} (h : OpD C f g) (w : ∀ x y d, g' x y = some d → g x y = some d) : OpD C f g' := fun X E ok => by
  obtain ⟨r, hr, q⟩ := h X E ok
  exact ⟨r, hr, fun W s x y v u d Q rh b1 b2 e k => q W s x y v u d Q rh b1 b2 (w _ _ _ e) k⟩
theorem o_addD : OpD C (binaryOp .Add) addD := (((o_add.or o_catT).or o_catL).or o_catS).weaken fun x y d e => by
  cases x <;> cases y <;> simp_all [addD, iAdd, intD, catT, catL, catS]
theorem o_mulD : OpD C (binaryOp .Mult) mulD := (o_mul.or o_repL).weaken fun x y d e => by
  cases x <;> cases y <;> simp_all [mulD, iMul, intD, repL]
end

/-! ### == of data -/
mutual
def D.py : D → Option PyData
  | .non => some .none
  | .bl b => some (.bool b)
  | .int i => some (.int i)
  | .str s => some (.str s)
  | .tup xs => (pyAll xs).map .tuple
  | .lst xs => (pyAll xs).map .list
  | .frl xs => (pyAll xs).map .list
  | .dK _ => none
  | .dT _ => none
  | .ref _ => none
def pyAll : List D → Option (List PyData)
  | [] => some []
  | x :: xs => match D.py x with
    | some d => match pyAll xs with
      | some r => some (d :: r)
      | none => none
    | none => none
end
section
variable {K : PySem.W.Frag} {W : Wd}
mutual
theorem Rep.dp : ∀ (d : D) (v : V) (p : PyData), Rep K W d v → d.py = some p → Dp K W.H v p
  | .non, v, p, h, e => by
    rw [Rep] at h; rw [D.py] at e; cases e; subst h; exact .non
  | .bl b, v, p, h, e => by
    rw [Rep] at h; rw [D.py] at e; cases e; subst h; exact .bl b
  | .int b, v, p, h, e => by
    rw [Rep] at h; rw [D.py] at e; cases e; subst h; exact .int b
  | .str b, v, p, h, e => by
    rw [Rep] at h; rw [D.py] at e; cases e; subst h; exact .str b
  | .tup xs, v, p, h, e => by
    rw [Rep] at h; rw [D.py] at e
    obtain ⟨a, vs, rfl, t, r⟩ := h
    cases q : pyAll xs with
    | none => rw [q] at e; cases e
    | some ps => rw [q] at e; cases e; exact .tup t.sq (Reps.dp xs vs ps r q)
  | .lst xs, v, p, h, e => by
    rw [Rep] at h; rw [D.py] at e
    obtain ⟨a, vs, rfl, t, r⟩ := h
    cases q : pyAll xs with
    | none => rw [q] at e; cases e
    | some ps => rw [q] at e; cases e; exact .lst t.sq (Reps.dp xs vs ps r q)
  | .frl xs, v, p, h, e => by
    rw [Rep] at h; rw [D.py] at e
    obtain ⟨a, vs, rfl, t, r⟩ := h
    cases q : pyAll xs with
    | none => rw [q] at e; cases e
    | some ps => rw [q] at e; cases e; exact .lst t.sq (Reps.dp xs vs ps r q)
  | .dK _, v, p, h, e => by rw [D.py] at e; cases e
  | .dT _, v, p, h, e => by rw [D.py] at e; cases e
  | .ref _, v, p, h, e => by rw [D.py] at e; cases e
theorem Reps.dp : ∀ (ds : List D) (vs : List V) (ps : List PyData), Reps K W ds vs → pyAll ds = some ps → DpAll K W.H vs ps
  | [], vs, ps, h, e => by
    rw [Reps] at h; rw [pyAll] at e; cases e; subst h; exact .nil
  | x :: xs, vs, ps, h, e => by
    rw [Reps] at h; rw [pyAll] at e
    obtain ⟨v, r, rfl, h1, h2⟩ := h
    cases q : D.py x with
    | none => rw [q] at e; cases e
    | some d =>
      rw [q] at e
      cases q2 : pyAll xs with
      | none => rw [q2] at e; cases e
      | some ds =>
        rw [q2] at e
        cases e
        exact .cons (Rep.dp x v d h1 q) (Reps.dp xs r ds h2 q2)
end
theorem Bor.dp {d : D} {v : V} {p : PyData} (b : Bor K W d v) (e : d.py = some p) : Dp K W.H v p := by
  rcases b with b | b
  · exact Rep.dp d v p b e
  · cases d with
    | lst xs =>
      obtain ⟨a, vs, rfl, h, r, _, _⟩ := b
      rw [D.py] at e
      cases q : pyAll xs with
      | none => rw [q] at e; cases e
      | some ps => rw [q] at e; cases e; exact .lst (.of h) (Reps.dp xs vs ps r q)
    | dK _ => rw [D.py] at e; cases e
    | dT _ => rw [D.py] at e; cases e
    | _ => exact b.elim
end
/-- whether two data are equal; none: not told -/
def eqB (x y : D) : Option Bool := match x.py, y.py with
  | some a, some b => if SeqAt.shaped a && SeqAt.shaped b then some (PyData.eqv a b) else none
  | _, _ => none
theorem eqB_some {x y : D} {b : Bool} (h : eqB x y = some b) : ∃ p q, x.py = some p ∧ y.py = some q ∧ SeqAt.shaped p = true ∧ SeqAt.shaped q = true ∧ b = PyData.eqv p q := by
  unfold eqB at h
  split at h
  · rename_i p q e1 e2
    split at h
    · rename_i hs
      rw [Bool.and_eq_true] at hs
      cases h
      exact ⟨p, q, e1, e2, hs.1, hs.2, rfl⟩
    · cases h
  · cases h
def eqD (x y : D) : Option D := (eqB x y).map D.bl
def neD (x y : D) : Option D := (eqB x y).map fun b => D.bl (!b)
section
variable {C : Cn}
theorem o_eq : OpD C (compareOp .Eq) eqD := fun X E ok =>
  ⟨_, op_eqD ok.room.units, fun W h x y v u d Q rh b1 b2 e k => by
    unfold eqD at e
    obtain ⟨b, e1, rfl⟩ := Option.map_eq_some_iff.mp e
    obtain ⟨p, q, h1, h2, s1, s2, rfl⟩ := eqB_some e1
    exact ⟨p, q, by rw [ok.K]; exact b1.dp h1, by rw [ok.K]; exact b2.dp h2, s1, s2, k W _ (.refl W) rh rep_bl⟩⟩
theorem o_ne : OpD C (compareOp .NotEq) neD := fun X E ok =>
  ⟨_, op_neD ok.room.units, fun W h x y v u d Q rh b1 b2 e k => by
    unfold neD at e
    obtain ⟨b, e1, rfl⟩ := Option.map_eq_some_iff.mp e
    obtain ⟨p, q, h1, h2, s1, s2, rfl⟩ := eqB_some e1
    exact ⟨p, q, by rw [ok.K]; exact b1.dp h1, by rw [ok.K]; exact b2.dp h2, s1, s2, k W _ (.refl W) rh rep_bl⟩⟩
def D.isNon : D → Bool
  | .non => true
  | _ => false
/-- x is None -/
def isNonD (x y : D) : Option D := match y with
  | .non => some (.bl x.isNon)
  | _ => none
def notNonD (x y : D) : Option D := match y with
  | .non => some (.bl (!x.isNon))
  | _ => none
theorem rep_non_iff {K : PySem.W.Frag} {W : Wd} {x : D} {v : V} (b : Bor K W x v) : decide (v = .non) = x.isNon := by
  cases x with
  | non => rw [b.non]; rfl
  | bl i => rw [b.bl]; rfl
  | int i => rw [b.int]; rfl
  | str i => rw [b.str]; rfl
  | tup xs => obtain ⟨a, vs, rfl, _⟩ := b.tup; rfl
  | lst xs => obtain ⟨a, vs, rfl, _⟩ := b.lst; rfl
  | frl xs => obtain ⟨a, vs, rfl, _⟩ := b.frl; rfl
  | dK xs => obtain ⟨a, vs, rfl, _⟩ := b.dK; rfl
  | dT xs => obtain ⟨a, vs, rfl, _⟩ := b.dT; rfl
  | ref n =>
    rcases b with b | b
    · rw [Rep] at b
      obtain ⟨a, _, rfl⟩ := b
      rfl
    · exact b.elim
theorem o_isNon : OpD C (compareOp .Is) isNonD := fun X E ok =>
  ⟨_, op_isN, fun W h x y v u d Q rh b1 b2 e k => by
    cases y <;> first | (cases e; done) | skip
    simp only [isNonD] at e
    cases e
    refine ⟨b2.non, ?_⟩
    rw [rep_non_iff b1]
    exact k W _ (.refl W) rh rep_bl⟩
theorem o_notNon : OpD C (compareOp .IsNot) notNonD := fun X E ok =>
  ⟨_, op_notN, fun W h x y v u d Q rh b1 b2 e k => by
    cases y <;> first | (cases e; done) | skip
    simp only [notNonD] at e
    cases e
    refine ⟨b2.non, ?_⟩
    rw [rep_non_iff b1]
    exact k W _ (.refl W) rh rep_bl⟩
/-- x in y: lists and tuples of data -/
def inB (x y : D) : Option Bool := match x.py with
  | none => none
  | some d => match y with
    | .lst ys => match pyAll ys with
      | none => none
      | some ds => if SeqAt.shaped d && SeqAt.shaped (.list ds) then some (ds.any fun z => PyData.eqv z d) else none
    | .frl ys => match pyAll ys with
      | none => none
      | some ds => if SeqAt.shaped d && SeqAt.shaped (.list ds) then some (ds.any fun z => PyData.eqv z d) else none
    | _ => none
theorem inB_some {x y : D} {b : Bool} (h : inB x y = some b) : ∃ d ds, x.py = some d ∧ y.py = some (.list ds) ∧ SeqAt.shaped d = true ∧ SeqAt.shaped (.list ds) = true ∧ b = ds.any fun z => PyData.eqv z d := by
  unfold inB at h
  cases e : x.py with
  | none => rw [e] at h; cases h
  | some d =>
    rw [e] at h
    cases y with
    | lst ys =>
      simp only at h
      cases e2 : pyAll ys with
      | none => rw [e2] at h; cases h
      | some ds =>
        rw [e2] at h
        simp only at h
        split at h
        · rename_i hs
          rw [Bool.and_eq_true] at hs
          cases h
          exact ⟨d, ds, rfl, by rw [D.py, e2]; rfl, hs.1, hs.2, rfl⟩
        · cases h
    | frl ys =>
      simp only at h
      cases e2 : pyAll ys with
      | none => rw [e2] at h; cases h
      | some ds =>
        rw [e2] at h
        simp only at h
        split at h
        · rename_i hs
          rw [Bool.and_eq_true] at hs
          cases h
          exact ⟨d, ds, rfl, by rw [D.py, e2]; rfl, hs.1, hs.2, rfl⟩
        · cases h
    | _ => cases h
def inD (x y : D) : Option D := (inB x y).map D.bl
def notInD (x y : D) : Option D := (inB x y).map fun b => D.bl (!b)
theorem _root_.L2.Room.u65_ {k : Nat} {A : Around} (r : Room k A) : A.units + 65 < cLine := by have := r.un; omega
theorem o_in : OpD C (compareOp .In) inD := fun X E ok =>
  ⟨_, op_inD (ok.room.u65_), fun W h x y v u d Q rh b1 b2 e k => by
    unfold inD at e
    obtain ⟨b, e1, rfl⟩ := Option.map_eq_some_iff.mp e
    obtain ⟨p, q, h1, h2, s1, s2, rfl⟩ := inB_some e1
    exact ⟨p, q, by rw [ok.K]; exact b1.dp h1, by rw [ok.K]; exact b2.dp h2, s1, s2, k W _ (.refl W) rh rep_bl⟩⟩
theorem o_notIn : OpD C (compareOp .NotIn) notInD := fun X E ok =>
  ⟨_, op_notInD (ok.room.u65_), fun W h x y v u d Q rh b1 b2 e k => by
    unfold notInD at e
    obtain ⟨b, e1, rfl⟩ := Option.map_eq_some_iff.mp e
    obtain ⟨p, q, h1, h2, s1, s2, rfl⟩ := inB_some e1
    exact ⟨p, q, by rw [ok.K]; exact b1.dp h1, by rw [ok.K]; exact b2.dp h2, s1, s2, k W _ (.refl W) rh rep_bl⟩⟩
/-- x in a tuple of flat data, by their values -/
def flatD : D → Option V := Dv
def flatAll : List D → Option (List V)
  | [] => some []
  | x :: xs => match Dv x, flatAll xs with
    | some v, some r => some (v :: r)
    | _, _ => none
theorem flatAll_ok {K : PySem.W.Frag} {W : Wd} : ∀ {ds : List D} {us vs : List V}, flatAll ds = some us → Reps K W ds vs → vs = us ∧ us.all flatV = true
  | [], us, vs, e, h => by rw [Reps] at h; rw [flatAll] at e; cases e; exact ⟨h, rfl⟩
  | x :: xs, us, vs, e, h => by
    rw [Reps] at h
    obtain ⟨v, r, rfl, h1, h2⟩ := h
    rw [flatAll] at e
    cases e1 : Dv x with
    | none => rw [e1] at e; cases e
    | some w =>
      rw [e1] at e
      cases e2 : flatAll xs with
      | none => rw [e2] at e; cases e
      | some ws =>
        rw [e2] at e
        cases e
        obtain ⟨rfl, ha⟩ := flatAll_ok e2 h2
        have hx : v = w ∧ flatV w = true := by
          cases x <;> simp only [Dv, Option.some.injEq, reduceCtorEq] at e1 <;> subst e1 <;> rw [Rep] at h1 <;> exact ⟨h1, rfl⟩
        obtain ⟨rfl, hf⟩ := hx
        exact ⟨rfl, by rw [List.all_cons, hf, ha]; rfl⟩
def inTB (x y : D) : Option Bool := match Dv x with
  | none => none
  | some v => match y with
    | .tup ys => (flatAll ys).map fun us => inV v us
    | _ => none
def inTD (x y : D) : Option D := (inTB x y).map D.bl
def notInTD (x y : D) : Option D := (inTB x y).map fun b => D.bl (!b)
theorem inTB_ok {K : PySem.W.Frag} {W : Wd} {x y : D} {v u : V} {b : Bool} (e : inTB x y = some b) (b1 : Bor K W x v) (b2 : Bor K W y u) : ∃ p us, u = .ref p ∧ SqT K W.H p us ∧ flatV v = true ∧ us.all flatV = true ∧ b = inV v us := by
  unfold inTB at e
  cases e1 : Dv x with
  | none => rw [e1] at e; cases e
  | some w =>
    rw [e1] at e
    have hx : v = w ∧ flatV w = true := by
      cases x <;> simp only [Dv, Option.some.injEq, reduceCtorEq] at e1 <;> subst e1
      · exact ⟨b1.non, rfl⟩
      · exact ⟨b1.bl, rfl⟩
      · exact ⟨b1.int, rfl⟩
      · exact ⟨b1.str, rfl⟩
    obtain ⟨rfl, hf⟩ := hx
    cases y with
    | tup ys =>
      simp only at e
      obtain ⟨us, e2, rfl⟩ := Option.map_eq_some_iff.mp e
      obtain ⟨a, vs, rfl, t, r, _⟩ := b2.tup
      obtain ⟨rfl, ha⟩ := flatAll_ok e2 r
      exact ⟨a, vs, rfl, t, hf, ha, rfl⟩
    | _ => cases e
theorem o_inT : OpD C (compareOp .In) inTD := fun X E ok =>
  ⟨_, op_in_seq, fun W h x y v u d Q rh b1 b2 e k => by
    obtain ⟨b, e1, rfl⟩ := Option.map_eq_some_iff.mp e
    obtain ⟨p, us, rfl, t, f1, f2, rfl⟩ := inTB_ok e1 b1 b2
    exact ⟨p, us, rfl, .inr (by rw [ok.K]; exact t), f1, f2, k W _ (.refl W) rh rep_bl⟩⟩
theorem o_notInT : OpD C (compareOp .NotIn) notInTD := fun X E ok =>
  ⟨_, op_notIn_seq, fun W h x y v u d Q rh b1 b2 e k => by
    obtain ⟨b, e1, rfl⟩ := Option.map_eq_some_iff.mp e
    obtain ⟨p, us, rfl, t, f1, f2, rfl⟩ := inTB_ok e1 b1 b2
    exact ⟨p, us, rfl, .inr (by rw [ok.K]; exact t), f1, f2, k W _ (.refl W) rh rep_bl⟩⟩
end
end Sw

/-! Sw, part D: tests, arguments, displays, subscripts, calls. -/
namespace Sw
open PySem PySem.Spec PyProof.Rows L2

/-! ### tests -/
def tAndR (a b : DT) : DT := fun τ h => (a τ h).bind fun c h1 => if c then b τ h1 else .ok false h1
def tOrR (a b : DT) : DT := fun τ h => (a τ h).bind fun c h1 => if c then .ok true h1 else b τ h1
def tNotR (a : DT) : DT := fun τ h => (a τ h).bind fun c h1 => .ok (!c) h1
def bAndR (a b : DE) : DE := fun τ h => (a τ h).bind fun d h1 => match d with | .bl c => if c then b τ h1 else .ok (.bl false) h1 | _ => .bad
def bOrR (a b : DE) : DE := fun τ h => (a τ h).bind fun d h1 => match d with | .bl c => if c then .ok (.bl true) h1 else b τ h1 | _ => .bad
def bNotR (a : DE) : DE := fun τ h => (a τ h).bind fun d h1 => match d with | .bl c => .ok (.bl (!c)) h1 | _ => .bad
def ifR (t : DT) (a b : DE) : DE := fun τ h => (t τ h).bind fun c h1 => if c then a τ h1 else b τ h1
/-- a value's truth -/
def D.tru : D → Option Bool
  | .non => some false
  | .bl b => some b
  | .int i => some (i != 0)
  | .str s => if fits s.length then some ((s.length : Int) != 0) else none
  | .tup xs => some (!xs.isEmpty)
  | .lst xs => some (!xs.isEmpty)
  | .frl xs => some (!xs.isEmpty)
  | _ => none
def truR (a : DE) : DT := fun τ h => (a τ h).bind fun d h1 => toRes d.tru h1
def cmpT (g : D → D → Option D) (a b : DE) : DT := fun τ h => (res2 g a b τ h).bind fun d h1 => match d with | .bl c => .ok c h1 | _ => .bad
abbrev DenW (C : Cn) (e : Expr) (f : DT) : Prop := DenG C (fun X t => PW X e t) (fun _ _ a b => a = b) f
section
variable {C : Cn} {a b c : Expr} {fa fb fc : DE} {ta tb : DT} {pos : Pos} {rest : List Expr}
theorem isEmpty_reps {K : PySem.W.Frag} {W : Wd} {ds : List D} {vs : List V} (r : Reps K W ds vs) : ds.isEmpty = vs.isEmpty := by
  have := r.length
  cases ds <;> cases vs <;> simp_all
theorem tru_rep {K : PySem.W.Frag} {W : Wd} {d : D} {v : V} {k : Bool} (b : Bor K W d v) (e : d.tru = some k) : TruV K v W.H k := by
  cases d with
  | non => rw [b.non]; cases e; rfl
  | bl i => rw [b.bl]; cases e; rfl
  | int i => rw [b.int]; cases e; rfl
  | str i =>
    rw [b.str]
    simp only [D.tru] at e
    split at e
    · rename_i hz
      cases e
      exact ⟨of_decide_eq_true hz, rfl⟩
    · cases e
  | tup xs =>
    obtain ⟨p, vs, rfl, t, r, _⟩ := b.tup
    cases e
    exact .inr (.inl ⟨vs, t, by rw [isEmpty_reps r]⟩)
  | lst xs =>
    obtain ⟨p, vs, rfl, t, r⟩ := b.lst
    cases e
    exact .inl ⟨vs, .of t, by rw [isEmpty_reps r]⟩
  | frl xs =>
    obtain ⟨p, vs, rfl, t, r⟩ := b.frl
    cases e
    exact .inl ⟨vs, t, by rw [isEmpty_reps r]⟩
  | _ => cases e
/-- any expression but a comparison, and, or, not as a test: he by fun _ _ => rfl -/
theorem den_tru (ha : DenB C a fa) (he : ∀ env whole, isTrue a env whole = (do let v ← whole; standAt a.pos; holding [v] (truthy v))) : DenT C a (truR fa) := fun X E ok => by
  obtain ⟨t, p, q⟩ := ha X E ok
  refine ⟨_, pt_truth p (he _), fun W0 W τ σ h Q l fr rh o => ?_⟩
  refine q W0 W τ σ h _ l fr rh (okG.bind o fun x h1 W1 v l1 rh1 b1 o1 => ?_)
  obtain ⟨k, e, kk⟩ := toRes_some o1
  exact ⟨k, by rw [ok.K]; exact tru_rep b1 e, kk W1 k (.refl W1) rh1 rfl⟩
theorem den_tcmp {op : CmpOp} {g : D → D → Option D} (ho : OpD C (compareOp op) g) (ha : DenB C a fa) (hb : DenB C b fb) (hm : behindInMarks op b = false) : DenT C (.Compare a [op] [b] pos) (cmpT g fa fb) := fun X E ok => by
  obtain ⟨r, hr, qr⟩ := ho X E ok
  obtain ⟨ta, pa, qa⟩ := ha X E ok
  obtain ⟨tb, pb, qb⟩ := hb X E ok
  refine ⟨_, pt_cmpR hr pa pb hm, fun W0 W τ σ h Q l fr rh o => ?_⟩
  let Q2 : VK := fun v H => ∃ k, v = .bl k ∧ Q k H
  have o2 : okG C.g.K C.g.mg (Rep C.g.K) W (fun c dd H => E c dd σ H) Q2 (res2 g fa fb τ h) := okG.bind o fun x h1 W1 v l1 rh1 b1 o1 => by
    cases x with
    | bl k => rw [Rep] at b1; exact ⟨k, b1, okG.now o1 rh1 rfl⟩
    | _ => exact (show False from o1).elim
  refine qa W0 W τ σ h _ l fr rh (okG.bind o2 fun x h1 W1 v l1 rh1 b1 o1 => ?_)
  refine qb W0 W1 τ σ h1 _ (l.trans l1) (fr.mono l1) rh1 (okG.bind o1 fun y h2 W2 u l2 rh2 b2 o2 => ?_)
  obtain ⟨d, e, k⟩ := toRes_some o2
  exact qr W2 h2 x y v u d Q2 rh2 (b1.mono l2) b2 e k
theorem den_tnot (ha : DenT C a ta) : DenT C (.UnaryOp .Not a pos) (tNotR ta) := fun X E ok => by
  obtain ⟨t, p, q⟩ := ha X E ok
  refine ⟨_, pt_not p, fun W0 W τ σ h Q l fr rh o => ?_⟩
  refine q W0 W τ σ h _ l fr rh (okG.bind o fun x h1 W1 v l1 rh1 b1 o1 => ?_)
  subst b1
  exact o1.now rh1 rfl
theorem den_wand1 (ha : DenT C a ta) : DenW C (.BoolOp .And [a] pos) ta := fun X E ok => by
  obtain ⟨t, p, q⟩ := ha X E ok
  exact ⟨_, pw_and1 p, q⟩
theorem den_wor1 (ha : DenT C a ta) : DenW C (.BoolOp .Or [a] pos) ta := fun X E ok => by
  obtain ⟨t, p, q⟩ := ha X E ok
  exact ⟨_, pw_or1 p, q⟩
theorem den_wand (ha : DenT C a ta) (hb : DenW C (.BoolOp .And (b :: rest) pos) tb) : DenW C (.BoolOp .And (a :: b :: rest) pos) (tAndR ta tb) := fun X E ok => by
  obtain ⟨t, p, q⟩ := ha X E ok
  obtain ⟨t', p', q'⟩ := hb X E ok
  refine ⟨_, pw_and p p', fun W0 W τ σ h Q l fr rh o => ?_⟩
  refine q W0 W τ σ h _ l fr rh (okG.bind o fun x h1 W1 v l1 rh1 b1 o1 => ?_)
  subst b1
  cases x with
  | true => exact iteT (q' W0 W1 τ σ h1 Q (l.trans l1) (fr.mono l1) rh1 o1)
  | false => exact iteF (o1.now rh1 rfl)
theorem den_wor (ha : DenT C a ta) (hb : DenW C (.BoolOp .Or (b :: rest) pos) tb) : DenW C (.BoolOp .Or (a :: b :: rest) pos) (tOrR ta tb) := fun X E ok => by
  obtain ⟨t, p, q⟩ := ha X E ok
  obtain ⟨t', p', q'⟩ := hb X E ok
  refine ⟨_, pw_or p p', fun W0 W τ σ h Q l fr rh o => ?_⟩
  refine q W0 W τ σ h _ l fr rh (okG.bind o fun x h1 W1 v l1 rh1 b1 o1 => ?_)
  subst b1
  cases x with
  | true => exact iteT (o1.now rh1 rfl)
  | false => exact iteF (q' W0 W1 τ σ h1 Q (l.trans l1) (fr.mono l1) rh1 o1)
theorem den_tw (h : DenW C a ta) : DenT C a ta := fun X E ok => by
  obtain ⟨t, p, q⟩ := h X E ok
  exact ⟨_, p.pt, q⟩
/-- as values, all of them True or False -/
theorem den_band1 {op : BoolOp} (ha : DenE C a fa) : DenE C (.BoolOp op [a] pos) fa := fun X E ok => by
  obtain ⟨t, p, q⟩ := ha X E ok
  exact ⟨_, pe_one p, q⟩
theorem den_band (ha : DenE C a fa) (hb : DenE C (.BoolOp .And (b :: rest) pos) fb) : DenE C (.BoolOp .And (a :: b :: rest) pos) (bAndR fa fb) := fun X E ok => by
  obtain ⟨t, p, q⟩ := ha X E ok
  obtain ⟨t', p', q'⟩ := hb X E ok
  refine ⟨_, pe_and p p', fun W0 W τ σ h Q l fr rh o => ?_⟩
  refine q W0 W τ σ h _ l fr rh (okG.bind o fun x h1 W1 v l1 rh1 b1 o1 => ?_)
  cases x with
  | bl x =>
    rw [Rep] at b1
    subst b1
    cases x with
    | true => exact ⟨_, rfl, iteT (q' W0 W1 τ σ h1 Q (l.trans l1) (fr.mono l1) rh1 o1)⟩
    | false => exact ⟨_, rfl, iteF (okG.now o1 rh1 rep_bl)⟩
  | _ => exact (show False from o1).elim
theorem den_bor (ha : DenE C a fa) (hb : DenE C (.BoolOp .Or (b :: rest) pos) fb) : DenE C (.BoolOp .Or (a :: b :: rest) pos) (bOrR fa fb) := fun X E ok => by
  obtain ⟨t, p, q⟩ := ha X E ok
  obtain ⟨t', p', q'⟩ := hb X E ok
  refine ⟨_, pe_or p p', fun W0 W τ σ h Q l fr rh o => ?_⟩
  refine q W0 W τ σ h _ l fr rh (okG.bind o fun x h1 W1 v l1 rh1 b1 o1 => ?_)
  cases x with
  | bl x =>
    rw [Rep] at b1
    subst b1
    cases x with
    | true => exact ⟨_, rfl, iteT (okG.now o1 rh1 rep_bl)⟩
    | false => exact ⟨_, rfl, iteF (q' W0 W1 τ σ h1 Q (l.trans l1) (fr.mono l1) rh1 o1)⟩
  | _ => exact (show False from o1).elim
theorem den_bnot (ha : DenE C a fa) : DenE C (.UnaryOp .Not a pos) (bNotR fa) := fun X E ok => by
  obtain ⟨t, p, q⟩ := ha X E ok
  refine ⟨_, pe_not p, fun W0 W τ σ h Q l fr rh o => ?_⟩
  refine q W0 W τ σ h _ l fr rh (okG.bind o fun x h1 W1 v l1 rh1 b1 o1 => ?_)
  cases x with
  | bl x =>
    rw [Rep] at b1
    subst b1
    exact ⟨x, rfl, okG.now o1 rh1 rep_bl⟩
  | _ => exact (show False from o1).elim
theorem den_if (hc : DenT C c ta) (ha : DenE C a fa) (hb : DenE C b fb) : DenE C (.IfExp c a b pos) (ifR ta fa fb) := fun X E ok => by
  obtain ⟨t, p, q⟩ := hc X E ok
  obtain ⟨t1, p1, q1⟩ := ha X E ok
  obtain ⟨t2, p2, q2⟩ := hb X E ok
  refine ⟨_, pe_ifExp p p1 p2, fun W0 W τ σ h Q l fr rh o => ?_⟩
  refine q W0 W τ σ h _ l fr rh (okG.bind o fun x h1 W1 v l1 rh1 b1 o1 => ?_)
  subst b1
  cases x with
  | true => exact iteT (q1 W0 W1 τ σ h1 Q (l.trans l1) (fr.mono l1) rh1 o1)
  | false => exact iteF (q2 W0 W1 τ σ h1 Q (l.trans l1) (fr.mono l1) rh1 o1)
/-- -a -/
def negD : D → Option D
  | .int i => some (.int (-i))
  | _ => none
def res1 (g : D → Option D) (a : DE) : DE := fun τ h => (a τ h).bind fun x h1 => toRes (g x) h1
theorem den_neg (ha : DenB C a fa) : DenE C (.UnaryOp .USub a pos) (res1 negD fa) := fun X E ok => by
  obtain ⟨t, p, q⟩ := ha X E ok
  refine ⟨_, pe_un un_neg p, fun W0 W τ σ h Q l fr rh o => ?_⟩
  refine q W0 W τ σ h _ l fr rh (okG.bind o fun x h1 W1 v l1 rh1 b1 o1 => ?_)
  obtain ⟨d, e, k⟩ := toRes_some o1
  cases x with
  | int i => cases e; rw [b1.int]; exact ⟨i, rfl, k W1 _ (.refl W1) rh1 rep_int⟩
  | _ => cases e
/-- a op b op' c, ints -/
def chR (g g' : D → D → Option D) (a b c : DE) : DE := fun τ h => (a τ h).bind fun x h1 => (b τ h1).bind fun y h2 => match g x y with
  | some (.bl k) => if k then (c τ h2).bind fun z h3 => toRes (g' y z) h3 else .ok (.bl false) h2
  | _ => .bad
def chT (g g' : D → D → Option D) (a b c : DE) : DT := fun τ h => (chR g g' a b c τ h).bind fun d h1 => match d with | .bl k => .ok k h1 | _ => .bad
theorem den_chain {op op' : CmpOp} {g g' : D → D → Option D} (ho : OpD C (compareOp op) g) (ho' : OpD C (compareOp op') g') (ha : DenB C a fa) (hb : DenB C b fb) (hc : DenB C c fc) (hm : lastMarks [op, op'] [b, c] = false) :
    DenE C (.Compare a [op, op'] [b, c] pos) (chR g g' fa fb fc) := fun X E ok => by
  obtain ⟨r, hr, qr⟩ := ho X E ok
  obtain ⟨r', hr', qr'⟩ := ho' X E ok
  obtain ⟨ta, pa, qa⟩ := ha X E ok
  obtain ⟨tb, pb, qb⟩ := hb X E ok
  obtain ⟨tc, pc, qc⟩ := hc X E ok
  refine ⟨_, pe_chain hr hr' pa pb pc hm, fun W0 W τ σ h Q l fr rh o => ?_⟩
  refine qa W0 W τ σ h _ l fr rh (okG.bind o fun x h1 W1 v l1 rh1 b1 o1 => ?_)
  refine qb W0 W1 τ σ h1 _ (l.trans l1) (fr.mono l1) rh1 (okG.bind o1 fun y h2 W2 u l2 rh2 b2 o2 => ?_)
  cases e : g x y with
  | none => rw [e] at o2; exact (show False from o2).elim
  | some d =>
    rw [e] at o2
    cases d with
    | bl k =>
      refine qr W2 h2 x y v u _ _ rh2 (b1.mono l2) b2 e fun W3 z l3 rh3 r3 => ?_
      rw [Rep] at r3
      refine ⟨k, r3, ?_⟩
      have o3 := okG.mono l3 o2
      cases k with
      | false => exact iteF (okG.now o3 rh3 rep_bl)
      | true =>
        refine iteT (qc W0 W3 τ σ h2 _ ((l.trans l1).trans (l2.trans l3)) ((fr.mono l1).mono (l2.trans l3)) rh3 (okG.bind o3 fun z h4 W4 w l4 rh4 b4 o4 => ?_))
        obtain ⟨d, e', k⟩ := toRes_some o4
        exact qr' W4 h4 y z u w d Q rh4 (b2.mono (l3.trans l4)) b4 e' k
    | _ => exact (show False from o2).elim
theorem den_tchain {op op' : CmpOp} {g g' : D → D → Option D} (ho : OpD C (compareOp op) g) (ho' : OpD C (compareOp op') g') (ha : DenB C a fa) (hb : DenB C b fb) (hc : DenB C c fc) (hm : lastMarks [op, op'] [b, c] = false) :
    DenT C (.Compare a [op, op'] [b, c] pos) (chT g g' fa fb fc) := fun X E ok => by
  obtain ⟨r, hr, qr⟩ := ho X E ok
  obtain ⟨r', hr', qr'⟩ := ho' X E ok
  obtain ⟨ta, pa, qa⟩ := ha X E ok
  obtain ⟨tb, pb, qb⟩ := hb X E ok
  obtain ⟨tc, pc, qc⟩ := hc X E ok
  obtain ⟨te, pe, qe⟩ := den_chain (pos := pos) ho ho' ha hb hc hm X E ok
  refine ⟨_, pt_chain hr hr' pa pb pc hm, fun W0 W τ σ h Q l fr rh o => ?_⟩
  let Q2 : VK := fun v H => ∃ k, v = .bl k ∧ Q k H
  have o2 : okG C.g.K C.g.mg (Rep C.g.K) W (fun c dd H => E c dd σ H) Q2 (chR g g' fa fb fc τ h) := okG.bind o fun x h1 W1 v l1 rh1 b1 o1 => by
    cases x with
    | bl k => rw [Rep] at b1; exact ⟨k, b1, okG.now o1 rh1 rfl⟩
    | _ => exact (show False from o1).elim
  refine qa W0 W τ σ h _ l fr rh (okG.bind o2 fun x h1 W1 v l1 rh1 b1 o1 => ?_)
  refine qb W0 W1 τ σ h1 _ (l.trans l1) (fr.mono l1) rh1 (okG.bind o1 fun y h2 W2 u l2 rh2 b2 o2 => ?_)
  cases e : g x y with
  | none => rw [e] at o2; exact (show False from o2).elim
  | some d =>
    rw [e] at o2
    cases d with
    | bl k =>
      refine qr W2 h2 x y v u _ _ rh2 (b1.mono l2) b2 e fun W3 z l3 rh3 r3 => ?_
      rw [Rep] at r3
      refine ⟨k, r3, ?_⟩
      have o3 := okG.mono l3 o2
      cases k with
      | false => exact iteF (okG.now o3 rh3 rep_bl)
      | true =>
        refine iteT (qc W0 W3 τ σ h2 _ ((l.trans l1).trans (l2.trans l3)) ((fr.mono l1).mono (l2.trans l3)) rh3 (okG.bind o3 fun z h4 W4 w l4 rh4 b4 o4 => ?_))
        obtain ⟨d, e', k⟩ := toRes_some o4
        exact qr' W4 h4 y z u w d Q2 rh4 (b2.mono (l3.trans l4)) b4 e' k
    | _ => exact (show False from o2).elim
end

/-! ### argument lists, displays -/
def consR (a : DE) (r : DA) : DA := fun τ h => (a τ h).bind fun x h1 => (r τ h1).bind fun xs h2 => .ok (x :: xs) h2
def starR (a : DE) (r : DA) : DA := fun τ h => (a τ h).bind fun x h1 => match x with
  | .tup ys => (r τ h1).bind fun xs h2 => .ok (ys ++ xs) h2
  | .lst ys => (r τ h1).bind fun xs h2 => .ok (ys ++ xs) h2
  | _ => .bad
def tupR (a : DA) : DE := fun τ h => (a τ h).bind fun xs h1 => if fits xs.length then .ok (.tup xs) h1 else .bad
def lstR (a : DA) : DE := fun τ h => (a τ h).bind fun xs h1 => if fits xs.length then .ok (.lst xs) h1 else .bad
section
variable {C : Cn} {e : Expr} {es : List Expr} {fe : DE} {fs : DA} {pos : Pos}
theorem den_anil : DenA C [] (fun _ h => .ok [] h) := fun X E ok => ⟨_, pa_nil, fun W0 W τ σ h Q l fr rh o => okG.now o rh .nil⟩
theorem den_acons (he : DenE C e fe) (hr : DenA C es fs) (hs : ∀ env, starEach (e :: es) env = (false, eval e env) :: starEach es env) : DenA C (e :: es) (consR fe fs) := fun X E ok => by
  obtain ⟨t, p, q⟩ := he X E ok
  obtain ⟨t', p', q'⟩ := hr X E ok
  refine ⟨_, pa_cons p p' (hs _), fun W0 W τ σ h Q l fr rh o => ?_⟩
  refine q W0 W τ σ h _ l fr rh (okG.bind o fun x h1 W1 v l1 rh1 b1 o1 => ?_)
  refine q' W0 W1 τ σ h1 _ (l.trans l1) (fr.mono l1) rh1 (okG.bind o1 fun y h2 W2 u l2 rh2 b2 o2 => ?_)
  exact okG.now o2 rh2 (.cons (b1.mono l2.toLeF) b2)
theorem den_astar {p : Pos} (he : DenB C e fe) (hr : DenA C es fs) (hs : ∀ env, starEach (.Starred e p :: es) env = (true, eval e env) :: starEach es env) : DenA C (.Starred e p :: es) (starR fe fs) := fun X E ok => by
  obtain ⟨t, p, q⟩ := he X E ok
  obtain ⟨t', p', q'⟩ := hr X E ok
  refine ⟨_, StX.pa_star p p' (hs _), fun W0 W τ σ h Q l fr rh o => ?_⟩
  refine q W0 W τ σ h _ l fr rh (okG.bind o fun x h1 W1 v l1 rh1 b1 o1 => ?_)
  cases x with
  | tup xs =>
    obtain ⟨a, vs, rfl, sq, r, _⟩ := b1.tup
    refine ⟨a, vs, rfl, .inl (by rw [ok.K]; exact sq), ?_⟩
    refine q' W0 W1 τ σ h1 _ (l.trans l1) (fr.mono l1) rh1 (okG.bind o1 fun y h2 W2 u l2 rh2 b2 o2 => ?_)
    exact okG.now o2 rh2 ((r.mono l2.toLeF).append b2)
  | lst xs =>
    obtain ⟨a, vs, rfl, sq, r⟩ := b1.lst
    refine ⟨a, vs, rfl, .inr (by rw [ok.K]; exact .of sq), ?_⟩
    refine q' W0 W1 τ σ h1 _ (l.trans l1) (fr.mono l1) rh1 (okG.bind o1 fun y h2 W2 u l2 rh2 b2 o2 => ?_)
    exact okG.now o2 rh2 ((r.mono l2.toLeF).append b2)
  | _ => exact (show False from o1).elim
theorem den_tup {k} (h : DenA C es fs) : DenE C (.Tuple es k pos) (tupR fs) := fun X E ok => by
  obtain ⟨t, p, q⟩ := h X E ok
  refine ⟨_, pe_tupX p, fun W0 W τ σ h Q l fr rh o => ?_⟩
  refine q W0 W τ σ h _ l fr rh (okG.bind o fun x h1 W1 v l1 rh1 b1 o1 => ?_)
  by_cases hz : fits x.length = true
  · rw [if_pos hz] at o1
    refine ⟨by rw [← b1.length]; exact of_decide_eq_true hz, fun p ob np hd => ?_⟩
    obtain ⟨W2, eH, l2, rh2, n⟩ := new_tup np hd rh1 b1
    rw [← eH]
    exact o1 W2 _ l2 rh2 n
  · rw [if_neg hz] at o1; exact o1.elim
theorem den_lst (h : DenA C es fs) : DenN C (.List es pos) (lstR fs) := fun X E ok => by
  obtain ⟨t, p, q⟩ := h X E ok
  refine ⟨_, pe_lst p, fun W0 W τ σ h Q l fr rh o => ?_⟩
  refine q W0 W τ σ h _ l fr rh (okG.bind o fun x h1 W1 v l1 rh1 b1 o1 => ?_)
  by_cases hz : fits x.length = true
  · rw [if_pos hz] at o1
    refine ⟨by rw [← b1.length]; exact of_decide_eq_true hz, fun p np => ?_⟩
    obtain ⟨l2, rh2, n⟩ := new_lst np rh1 b1
    exact o1 _ _ l2 rh2 (n.of l1 rh1)
  · rw [if_neg hz] at o1; exact o1.elim
end
end Sw

/-! Sw, part E: subscripts, slices, calls of defs and built-ins. -/
namespace Sw
open PySem PySem.Spec PyProof.Rows L2

/-! ### subscripts -/
def atD (x i : D) : Option D := match x, i with
  | .tup xs, .int k => atI xs k
  | .lst xs, .int k => atI xs k
  | .frl xs, .int k => atI xs k
  | .str s, .int k => if fits s.length then (atI s.cps.toList k).map fun c => .str ⟨#[c]⟩ else none
  | _, _ => none
theorem atI_reps {K : PySem.W.Frag} {W : Wd} {ds : List D} {vs : List V} {i : Int} {d : D} (r : Reps K W ds vs) (e : atI ds i = some d) : ∃ v, atI vs i = some v ∧ Rep K W d v := by
  unfold atI at e ⊢
  rw [← r.length]
  cases q : ixN ds.length i with
  | none => rw [q] at e; cases e
  | some j => rw [q] at e; exact r.get e
section
variable {C : Cn} {a b : Expr} {fa fb : DE} {pos : Pos}
theorem den_ix (ha : DenB C a fa) (hb : DenB C b fb) (hs : PlainIx b) : DenE C (.Subscript a b pos) (res2 atD fa fb) := fun X E ok => by
  obtain ⟨t, p, q⟩ := ha X E ok
  obtain ⟨t', p', q'⟩ := hb X E ok
  refine ⟨_, pe_ix ix_seq p p' hs, fun W0 W τ σ h Q l fr rh o => ?_⟩
  refine q W0 W τ σ h _ l fr rh (okG.bind o fun x h1 W1 v l1 rh1 b1 o1 => ?_)
  refine q' W0 W1 τ σ h1 _ (l.trans l1) (fr.mono l1) rh1 (okG.bind o1 fun y h2 W2 u l2 rh2 b2 o2 => ?_)
  obtain ⟨d, e, k⟩ := toRes_some o2
  have b1 := b1.mono l2
  cases y with
  | int i =>
    rw [b2.int]
    cases x with
    | tup xs =>
      obtain ⟨a, vs, rfl, sq, r, _⟩ := b1.tup
      obtain ⟨v, ev, rv⟩ := atI_reps r e
      exact .inr (.inl ⟨a, vs, i, v, rfl, rfl, by rw [ok.K]; exact sq, ev, k W2 _ (.refl _) rh2 rv⟩)
    | lst xs =>
      obtain ⟨a, vs, rfl, sq, r⟩ := b1.lst
      obtain ⟨v, ev, rv⟩ := atI_reps r e
      exact .inl ⟨a, vs, i, v, rfl, rfl, by rw [ok.K]; exact .of sq, ev, k W2 _ (.refl _) rh2 rv⟩
    | frl xs =>
      obtain ⟨a, vs, rfl, sq, r⟩ := b1.frl
      obtain ⟨v, ev, rv⟩ := atI_reps r e
      exact .inl ⟨a, vs, i, v, rfl, rfl, by rw [ok.K]; exact sq, ev, k W2 _ (.refl _) rh2 rv⟩
    | str z =>
      simp only [atD] at e
      split at e
      · rename_i hz
        obtain ⟨c, ec, rfl⟩ := Option.map_eq_some_iff.mp e
        rw [b1.str]
        exact .inr (.inr ⟨z, i, c, rfl, rfl, of_decide_eq_true hz, ec, k W2 _ (.refl _) rh2 rep_str⟩)
      · cases e
    | _ => cases e
  | _ => cases x <;> cases e
/-- an item of a shared list -/
def atRef (x i : D) (h : HS) : Res D := match x, i with
  | .ref n, .int k => match h[n]? with
    | some xs => toRes (atI xs k) h
    | none => .bad
  | _, _ => .bad
def refIxR (a b : DE) : DE := fun τ h => (a τ h).bind fun x h1 => (b τ h1).bind fun y h2 => atRef x y h2
theorem den_refix (ha : DenE C a fa) (hb : DenE C b fb) (hs : PlainIx b) : DenE C (.Subscript a b pos) (refIxR fa fb) := fun X E ok => by
  obtain ⟨t, p, q⟩ := ha X E ok
  obtain ⟨t', p', q'⟩ := hb X E ok
  refine ⟨_, pe_ix ix_list p p' hs, fun W0 W τ σ h Q l fr rh o => ?_⟩
  refine q W0 W τ σ h _ l fr rh (okG.bind o fun x h1 W1 v l1 rh1 b1 o1 => ?_)
  refine q' W0 W1 τ σ h1 _ (l.trans l1) (fr.mono l1) rh1 (okG.bind o1 fun y h2 W2 u l2 rh2 b2 o2 => ?_)
  have b1 := b1.mono l2.toLeF
  cases x with
  | ref n =>
    cases y with
    | int i =>
      rw [Rep] at b1
      rw [Rep] at b2
      subst b2
      obtain ⟨a, ea, rfl⟩ := b1
      have o2 : okG C.g.K C.g.mg (Rep C.g.K) W2 (fun c dd H => E c dd σ H) Q (match h2[n]? with | some xs => toRes (atI xs i) h2 | none => .bad) := o2
      cases eh : h2[n]? with
      | none => rw [eh] at o2; exact o2.elim
      | some xs =>
        rw [eh] at o2
        obtain ⟨d, e, k⟩ := toRes_some o2
        obtain ⟨vs, ev, r⟩ := rh2.at_ n xs a eh ea
        obtain ⟨v, ev2, rv⟩ := atI_reps r e
        exact ⟨a, vs, i, v, rfl, rfl, .of ev, ev2, k W2 _ (.refl _) rh2 rv⟩
    | _ => exact (show False from o2).elim
  | _ => exact (show False from o2).elim
end

/-! ### slices: a part is a number or left out -/
abbrev DP := List Sl → HS → Res (Option Int)
def DenO (C : Cn) (e : Option Expr) (f : DP) : Prop := DenG C (fun X t => PO X e t) (fun _ _ a b => a = b) f
def cutD {α : Type} (xs : List α) (lo hi : Option Int) : List α := (xs.drop (HT.sIx xs.length 0 lo)).take (HT.sIx xs.length xs.length hi - HT.sIx xs.length 0 lo)
def sliceD (x : D) (lo hi : Option Int) : Option D := match x with
  | .tup xs => some (.tup (cutD xs lo hi))
  | .lst xs => some (.lst (cutD xs lo hi))
  | _ => none
def sliceR (a : DE) (lo hi : DP) : DE := fun τ h => (a τ h).bind fun x h1 => (lo τ h1).bind fun i h2 => (hi τ h2).bind fun j h3 => toRes (sliceD x i j) h3
theorem cut_reps {K : PySem.W.Frag} {W : Wd} {ds : List D} {vs : List V} (r : Reps K W ds vs) (lo hi : Option Int) : Reps K W (cutD ds lo hi) (cutV vs lo hi) := by
  unfold cutD cutV
  rw [r.length]
  exact (r.drop _).take _
section
variable {C : Cn} {a e : Expr} {fa fe : DE} {pos p2 : Pos} {lo hi : Option Expr} {fl fh : DP}
theorem den_pnone : DenO C none (fun _ h => .ok none h) := fun X E ok => ⟨_, po_none, fun W0 W τ σ h Q l fr rh o => okG.now o rh rfl⟩
theorem den_psome (he : DenB C e fe) : DenO C (some e) (fun τ h => (fe τ h).bind fun d h1 => match d with | .int i => .ok (some i) h1 | _ => .bad) := fun X E ok => by
  obtain ⟨t, p, q⟩ := he X E ok
  refine ⟨_, po_some p, fun W0 W τ σ h Q l fr rh o => ?_⟩
  refine q W0 W τ σ h _ l fr rh (okG.bind o fun x h1 W1 v l1 rh1 b1 o1 => ?_)
  cases x with
  | int i => exact ⟨i, b1.int, okG.now o1 rh1 rfl⟩
  | _ => exact (show False from o1).elim
theorem den_slT (ha : DenB C a fa) (hl : DenO C lo fl) (hh : DenO C hi fh) : DenE C (.Subscript a (.Slice lo hi none p2) pos) (sliceR fa fl fh) := fun X E ok => by
  obtain ⟨t, p, q⟩ := ha X E ok
  obtain ⟨t1, p1, q1⟩ := hl X E ok
  obtain ⟨t2, p2, q2⟩ := hh X E ok
  refine ⟨_, pe_slice (L2.SlR.or sl_list sl_tupX) p p1 p2, fun W0 W τ σ h Q l fr rh o => ?_⟩
  refine q W0 W τ σ h _ l fr rh (okG.bind o fun x h1 W1 v l1 rh1 b1 o1 => ?_)
  refine q1 W0 W1 τ σ h1 _ (l.trans l1) (fr.mono l1) rh1 (okG.bind o1 fun i h2 W2 i' l2 rh2 e2 o2 => ?_)
  subst e2
  refine q2 W0 W2 τ σ h2 _ ((l.trans l1).trans l2) ((fr.mono l1).mono l2) rh2 (okG.bind o2 fun j h3 W3 j' l3 rh3 e3 o3 => ?_)
  subst e3
  obtain ⟨d, e, k⟩ := toRes_some o3
  have b1 := b1.mono (l2.trans l3)
  cases x with
  | tup xs =>
    cases e
    obtain ⟨a, vs, rfl, sq, r, rr⟩ := b1.tup
    refine .inr ⟨a, vs, rfl, by rw [ok.K]; exact sq, fun hw => ?_, fun hw p ob np hd => ?_⟩
    · rw [← r.length] at hw
      have : cutD xs i j = xs := by unfold cutD; rw [hw.1, hw.2]; simp
      rw [this] at k
      exact k W3 _ (.refl _) rh3 rr
    · obtain ⟨W4, eH, l4, rh4, n⟩ := new_tup np hd rh3 (cut_reps r i j)
      rw [← eH]
      exact k _ _ l4 rh4 n
  | lst xs =>
    cases e
    obtain ⟨a, vs, rfl, sq, r⟩ := b1.lst
    refine .inl ⟨a, vs, rfl, by rw [ok.K]; exact .of sq, fun p np => ?_⟩
    obtain ⟨l4, rh4, n⟩ := new_lst np rh3 (cut_reps r i j)
    obtain ⟨W5, eH, l5, rh5, r5⟩ := n.freeze l4 rh4
    have eH' : W5.H = upd W3.H p (.lst (cutV vs i j)) := eH
    rw [← eH']
    exact k _ _ l5 rh5 r5
  | _ => cases e
end

/-! ### calls of defs -/
abbrev DF := List D → HS → Res D
def spOf (g : Gx) (n : Nat) (φ : DF) : Sp := fun vs H Q E => vs.length = n ∧ ∃ W ds h, W.H = H ∧ RH g.K W h ∧ Reps g.K W ds vs ∧ okG g.K g.mg (Rep g.K) W E Q (φ ds h)
/-- the def x of n parameters is worth φ, at the level k -/
def FnD (g : Gx) (x : Str) (n k : Nat) (φ : DF) : Prop :=
  ∃ (f : Addr) (fd : FuncData) (ps : List Str), FnOk g.P g.w g.K g.mg g.base (L2.CX g.P g.w) k f fd ps (spOf g n φ) ∧ g.mg x = some (.ref f) ∧ PySem.W.keepIn g.K (.ref f) = true ∧ L2.Binds g.K fd ps []
def callR (n : Nat) (φ : DF) (a : DA) : DE := fun τ h => (a τ h).bind fun ds h1 => if ds.length = n then φ ds h1 else .bad
section
variable {C : Cn} {x : Str} {e : Expr} {es : List Expr} {fs : DA} {φ : DF} {n k : Nat} {p pos : Pos}
theorem den_call (F : FnD C.g x n k φ) (hk : k ≤ C.k) (hg : glB C.sc x = true) (ha : DenA C (e :: es) fs)
    (he : ∀ env, starEach (e :: es) env = (false, eval e env) :: starEach es env) (hpl : ∀ env, (backTo pos (starEach es env)).any (·.1) = false) : DenE C (.Call (.Name x p) (e :: es) [] pos) (callR n φ fs) := fun X E ok => by
  obtain ⟨t, pa, q⟩ := ha X E ok
  obtain ⟨f, fd, ps, F, m, kp, b⟩ := F
  obtain ⟨g1, g2, g3⟩ := glB_ok ok hg
  refine ⟨_, pe_callS (E := WE E) (sp := spOf C.g n φ) (by rw [ok.prog, ok.w, ok.K, ok.mg, ok.base]; rw [← ok.prog, ← ok.w] at F ⊢; exact F) (ok.room.mono hk) g1 (by rw [ok.mg]; exact m) (by rw [ok.K]; exact kp) (by rw [ok.K]; exact b) (fun σ => passAt ok.takes σ) pa g2 (he _) (hpl _), fun W0 W τ σ h Q l fr rh o => ?_⟩
  refine q W0 W τ σ h _ l fr rh (okG.bind o fun ds h1 W1 vs l1 rh1 b1 o1 => ?_)
  by_cases hn : ds.length = n
  · rw [if_pos hn] at o1
    exact ⟨by rw [← b1.length]; exact hn, W1, ds, h1, rfl, rh1, b1, o1⟩
  · rw [if_neg hn] at o1; exact o1.elim
theorem den_call0 (F : FnD C.g x 0 k φ) (hk : k ≤ C.k) (hg : glB C.sc x = true) (hp : ∀ X E, CxOk C X E → Passes (L2.CX X.prog X.w) X (fun c d H => ∃ σ, E c d σ H)) : True := trivial
end

/-! ### calls of built-ins -/
def BorsAll (K : PySem.W.Frag) (W : Wd) : List D → List V → Prop
  | [], vs => vs = []
  | x :: xs, vs => ∃ v r, vs = v :: r ∧ Bor K W x v ∧ BorsAll K W xs r
abbrev DenAB (C : Cn) (es : List Expr) (f : DA) : Prop := DenG C (fun X t => PA X es t) (fun _ => BorsAll C.g.K) f
theorem BorsAll.mono {K : PySem.W.Frag} {W W' : Wd} (l : Le W W') : ∀ {ds : List D} {vs : List V}, BorsAll K W ds vs → BorsAll K W' ds vs
  | [], _, h => h
  | x :: xs, _, ⟨v, r, e, b, t⟩ => ⟨v, r, e, b.mono l, BorsAll.mono l t⟩
/-- g: what the built-in makes of its arguments -/
def CalD (C : Cn) (f : Value) (g : List D → Option D) : Prop :=
  ∀ X E, CxOk C X E → ∃ r, CallR X f r ∧ ∀ W h ds vs d (Q : VK), RH C.g.K W h → BorsAll C.g.K W ds vs → g ds = some d → (∀ W' b, Le W W' → RH C.g.K W' h → Rep C.g.K W' d b → Q b W'.H) → r vs W.H Q
def CalN (C : Cn) (f : Value) (g : List D → Option D) : Prop :=
  ∀ X E, CxOk C X E → ∃ r, CallR X f r ∧ ∀ W h ds vs d (Q : VK), RH C.g.K W h → BorsAll C.g.K W ds vs → g ds = some d → (∀ W' b, Le W W' → RH C.g.K W' h → NewR C.g.K W W' d b → Q b W'.H) → r vs W.H Q
theorem CalN.d {C : Cn} {f : Value} {g : List D → Option D} (h : CalN C f g) : CalD C f g := fun X E ok => by
  obtain ⟨r, hr, q⟩ := h X E ok
  refine ⟨r, hr, fun W s ds vs d Q rh b e k => q W s ds vs d Q rh b e fun W' b l rh' n => ?_⟩
  obtain ⟨W2, e2, l2, rh2, r2⟩ := n.freeze l rh'
  rw [← e2]
  exact k W2 b l2 rh2 r2
theorem CalD.or {C : Cn} {f : Value} {g g' : List D → Option D} (h : CalD C f g) (h' : CalD C f g') : CalD C f (fun x => (g x).or (g' x)) := fun X E ok => by
  obtain ⟨r, p, q⟩ := h X E ok
  obtain ⟨r', p', q'⟩ := h' X E ok
  refine ⟨_, L2.CallR.or p p', fun W s x v d Q rh b e k => ?_⟩
  have e : (g x).or (g' x) = some d := e
  cases e1 : g x with
  | some d' =>
    rw [e1] at e
    cases e
    exact .inl (q W s x v _ Q rh b e1 k)
  | none =>
    rw [e1] at e
    exact .inr (q' W s x v d Q rh b e k)
def biR (g : List D → Option D) (a : DA) : DE := fun τ h => (a τ h).bind fun ds h1 => toRes (g ds) h1
section
variable {C : Cn} {x : Str} {e : Expr} {es : List Expr} {fe : DE} {fs : DA} {g : List D → Option D} {p pos : Pos} {id T : String}
theorem den_abnil : DenAB C [] (fun _ h => .ok [] h) := fun X E ok => ⟨_, pa_nil, fun W0 W τ σ h Q l fr rh o => okG.now o rh rfl⟩
theorem den_abcons (he : DenB C e fe) (hr : DenAB C es fs) (hs : ∀ env, starEach (e :: es) env = (false, eval e env) :: starEach es env) : DenAB C (e :: es) (consR fe fs) := fun X E ok => by
  obtain ⟨t, p, q⟩ := he X E ok
  obtain ⟨t', p', q'⟩ := hr X E ok
  refine ⟨_, pa_cons p p' (hs _), fun W0 W τ σ h Q l fr rh o => ?_⟩
  refine q W0 W τ σ h _ l fr rh (okG.bind o fun x h1 W1 v l1 rh1 b1 o1 => ?_)
  refine q' W0 W1 τ σ h1 _ (l.trans l1) (fr.mono l1) rh1 (okG.bind o1 fun y h2 W2 u l2 rh2 b2 o2 => ?_)
  exact okG.now o2 rh2 ⟨v, u, rfl, b1.mono l2, b2⟩
theorem den_bi (hc : CalD C (.builtin id) g) (hg : glB C.sc x = true) (hm : C.g.mg x = none) (hv : bootBuiltins x = some (.builtin id)) (ha : DenAB C (e :: es) fs)
    (he : ∀ env, starEach (e :: es) env = (false, eval e env) :: starEach es env) (hpl : ∀ env, (backTo pos (starEach es env)).any (·.1) = false) : DenE C (.Call (.Name x p) (e :: es) [] pos) (biR g fs) := fun X E ok => by
  obtain ⟨t, pa, q⟩ := ha X E ok
  obtain ⟨r, hr, qr⟩ := hc X E ok
  obtain ⟨g1, g2, g3⟩ := glB_ok ok hg
  refine ⟨_, pe_callB hr g1 (by rw [ok.mg]; exact hm) hv pa g3 g2 (he _) (hpl _), fun W0 W τ σ h Q l fr rh o => ?_⟩
  refine q W0 W τ σ h _ l fr rh (okG.bind o fun ds h1 W1 vs l1 rh1 b1 o1 => ?_)
  obtain ⟨d, e, k⟩ := toRes_some o1
  exact qr W1 h1 ds vs d Q rh1 b1 e k
theorem den_bt (hc : CalD C (.type T) g) (hg : glB C.sc x = true) (hm : C.g.mg x = none) (hv : bootBuiltins x = some (.type T)) (ha : DenAB C (e :: es) fs)
    (he : ∀ env, starEach (e :: es) env = (false, eval e env) :: starEach es env) (hpl : ∀ env, (backTo pos (starEach es env)).any (·.1) = false) : DenE C (.Call (.Name x p) (e :: es) [] pos) (biR g fs) := fun X E ok => by
  obtain ⟨t, pa, q⟩ := ha X E ok
  obtain ⟨r, hr, qr⟩ := hc X E ok
  obtain ⟨g1, g2, g3⟩ := glB_ok ok hg
  refine ⟨_, pe_callTy hr g1 (by rw [ok.mg]; exact hm) hv pa g3 g2 (he _) (hpl _), fun W0 W τ σ h Q l fr rh o => ?_⟩
  refine q W0 W τ σ h _ l fr rh (okG.bind o fun ds h1 W1 vs l1 rh1 b1 o1 => ?_)
  obtain ⟨d, e, k⟩ := toRes_some o1
  exact qr W1 h1 ds vs d Q rh1 b1 e k
/-- .. a new list that the frame can keep for itself -/
theorem den_biN (hc : CalN C (.builtin id) g) (hg : glB C.sc x = true) (hm : C.g.mg x = none) (hv : bootBuiltins x = some (.builtin id)) (ha : DenAB C (e :: es) fs)
    (he : ∀ env, starEach (e :: es) env = (false, eval e env) :: starEach es env) (hpl : ∀ env, (backTo pos (starEach es env)).any (·.1) = false) : DenN C (.Call (.Name x p) (e :: es) [] pos) (biR g fs) := fun X E ok => by
  obtain ⟨t, pa, q⟩ := ha X E ok
  obtain ⟨r, hr, qr⟩ := hc X E ok
  obtain ⟨g1, g2, g3⟩ := glB_ok ok hg
  refine ⟨_, pe_callB hr g1 (by rw [ok.mg]; exact hm) hv pa g3 g2 (he _) (hpl _), fun W0 W τ σ h Q l fr rh o => ?_⟩
  refine q W0 W τ σ h _ l fr rh (okG.bind o fun ds h1 W1 vs l1 rh1 b1 o1 => ?_)
  obtain ⟨d, e, k⟩ := toRes_some o1
  exact qr W1 h1 ds vs d Q rh1 b1 e fun W' b l' rh' n => k W' b l' rh' (n.of l1 rh1)
theorem den_btN (hc : CalN C (.type T) g) (hg : glB C.sc x = true) (hm : C.g.mg x = none) (hv : bootBuiltins x = some (.type T)) (ha : DenAB C (e :: es) fs)
    (he : ∀ env, starEach (e :: es) env = (false, eval e env) :: starEach es env) (hpl : ∀ env, (backTo pos (starEach es env)).any (·.1) = false) : DenN C (.Call (.Name x p) (e :: es) [] pos) (biR g fs) := fun X E ok => by
  obtain ⟨t, pa, q⟩ := ha X E ok
  obtain ⟨r, hr, qr⟩ := hc X E ok
  obtain ⟨g1, g2, g3⟩ := glB_ok ok hg
  refine ⟨_, pe_callTy hr g1 (by rw [ok.mg]; exact hm) hv pa g3 g2 (he _) (hpl _), fun W0 W τ σ h Q l fr rh o => ?_⟩
  refine q W0 W τ σ h _ l fr rh (okG.bind o fun ds h1 W1 vs l1 rh1 b1 o1 => ?_)
  obtain ⟨d, e, k⟩ := toRes_some o1
  exact qr W1 h1 ds vs d Q rh1 b1 e fun W' b l' rh' n => k W' b l' rh' (n.of l1 rh1)
end

/-! ### the built-ins -/
def lenG : List D → Option D
  | [.tup xs] => some (.int xs.length)
  | [.lst xs] => some (.int xs.length)
  | [.frl xs] => some (.int xs.length)
  | [.str s] => if fits s.length then some (.int s.length) else none
  | _ => none
def absG : List D → Option D
  | [.int i] => some (.int (if i < 0 then -i else i))
  | _ => none
def maxG : List D → Option D
  | [.int i, .int j] => some (.int (if j > i then j else i))
  | _ => none
def minG : List D → Option D
  | [.int i, .int j] => some (.int (if j < i then j else i))
  | _ => none
def intG : List D → Option D
  | [.int i] => some (.int i)
  | [.bl k] => some (.int (if k then 1 else 0))
  | _ => none
def gcdG : List D → Option D
  | [.int a, .int b] => some (.int ((Nat.gcd a.natAbs b.natAbs : Nat) : Int))
  | _ => none
def tupG : List D → Option D
  | [.tup xs] => some (.tup xs)
  | [.lst xs] => some (.tup xs)
  | _ => none
def listG : List D → Option D
  | [.tup xs] => some (.lst xs)
  | [.lst xs] => some (.lst xs)
  | _ => none
def strG : List D → Option D
  | [.int i] => if i.natAbs.log2 < 1920 then some (.str (toString i)) else none
  | _ => none
/-- the intsD of a list -/
def intsD : List D → Option (List Int)
  | [] => some []
  | .int i :: r => match intsD r with
    | some is => some (i :: is)
    | none => none
  | _ :: _ => none
def boolsD : List D → Option (List Bool)
  | [] => some []
  | .bl i :: r => match boolsD r with
    | some is => some (i :: is)
    | none => none
  | _ :: _ => none
theorem ints_reps {K : PySem.W.Frag} {W : Wd} : ∀ {ds : List D} {vs : List V} {is : List Int}, Reps K W ds vs → intsD ds = some is → vs = is.map V.int
  | [], _, _, h, e => by rw [Reps] at h; cases e; exact h
  | x :: xs, _, is, h, e => by
    rw [Reps] at h
    obtain ⟨v, r, rfl, h1, h2⟩ := h
    cases x <;> simp only [intsD, reduceCtorEq] at e
    rename_i i
    cases q : intsD xs with
    | none => rw [q] at e; cases e
    | some js =>
      rw [q] at e
      cases e
      rw [Rep] at h1
      rw [h1, ints_reps h2 q]
      rfl
theorem bools_reps {K : PySem.W.Frag} {W : Wd} : ∀ {ds : List D} {vs : List V} {is : List Bool}, Reps K W ds vs → boolsD ds = some is → vs = is.map V.bl
  | [], _, _, h, e => by rw [Reps] at h; cases e; exact h
  | x :: xs, _, is, h, e => by
    rw [Reps] at h
    obtain ⟨v, r, rfl, h1, h2⟩ := h
    cases x <;> simp only [boolsD, reduceCtorEq] at e
    rename_i i
    cases q : boolsD xs with
    | none => rw [q] at e; cases e
    | some js =>
      rw [q] at e
      cases e
      rw [Rep] at h1
      rw [h1, bools_reps h2 q]
      rfl
theorem ints_map {is : List Int} : intsD (is.map D.int) = some is := by
  induction is with
  | nil => rfl
  | cons i r ih => simp only [List.map_cons, intsD, ih]
theorem bools_map {is : List Bool} : boolsD (is.map D.bl) = some is := by
  induction is with
  | nil => rfl
  | cons i r ih => simp only [List.map_cons, boolsD, ih]
theorem ints_eq : ∀ {ds : List D} {is : List Int}, intsD ds = some is → ds = is.map D.int
  | [], _, e => by cases e; rfl
  | x :: xs, is, e => by
    cases x <;> simp only [intsD, reduceCtorEq] at e
    cases q : intsD xs with
    | none => rw [q] at e; cases e
    | some js => rw [q] at e; cases e; rw [ints_eq q]; rfl
def sumG : List D → Option D
  | [.lst xs] => (intsD xs).map fun is => .int is.sum
  | [.frl xs] => (intsD xs).map fun is => .int is.sum
  | _ => none
def allG : List D → Option D
  | [.lst xs] => (boolsD xs).map fun is => .bl (is.all id)
  | _ => none
def anyG : List D → Option D
  | [.lst xs] => (boolsD xs).map fun is => .bl (is.any id)
  | _ => none
/-- insertion sort -/
def insI (x : Int) : List Int → List Int
  | [] => [x]
  | y :: r => if x ≤ y then x :: y :: r else y :: insI x r
def sortI : List Int → List Int
  | [] => []
  | x :: r => insI x (sortI r)
theorem insI_perm (x : Int) : ∀ l, (insI x l).Perm (x :: l)
  | [] => .refl _
  | y :: r => by
    unfold insI
    split
    · exact .refl _
    · exact (List.Perm.cons y (insI_perm x r)).trans (.swap x y r)
theorem sortI_perm : ∀ l, (sortI l).Perm l
  | [] => .refl _
  | x :: r => (insI_perm x _).trans ((sortI_perm r).cons x)
theorem insI_sorted (x : Int) : ∀ {l : List Int}, l.Pairwise (· ≤ ·) → (insI x l).Pairwise (· ≤ ·)
  | [], _ => by simp [insI]
  | y :: r, h => by
    unfold insI
    rw [List.pairwise_cons] at h
    split
    · rename_i hxy
      refine List.pairwise_cons.mpr ⟨fun z hz => ?_, List.pairwise_cons.mpr h⟩
      rcases List.mem_cons.mp hz with rfl | hz
      · exact hxy
      · exact Int.le_trans hxy (h.1 z hz)
    · rename_i hxy
      refine List.pairwise_cons.mpr ⟨fun z hz => ?_, insI_sorted x h.2⟩
      rcases List.mem_cons.mp ((insI_perm x r).subset hz) with rfl | hz
      · omega
      · exact h.1 z hz
theorem sortI_sorted : ∀ l : List Int, (sortI l).Pairwise (· ≤ ·)
  | [] => .nil
  | x :: r => insI_sorted x (sortI_sorted r)
theorem sorted_unique : ∀ {l m : List Int}, l.Perm m → l.Pairwise (· ≤ ·) → m.Pairwise (· ≤ ·) → l = m
  | [], m, p, _, _ => (List.nil_perm.mp p).symm
  | x :: l, m, p, hl, hm => by
    cases m with
    | nil => exact absurd p.length_eq (by simp)
    | cons y m =>
      rw [List.pairwise_cons] at hl hm
      have e : x = y := by
        rcases List.mem_cons.mp (p.subset (List.mem_cons_self ..)) with h | h
        · exact h
        · rcases List.mem_cons.mp (p.symm.subset (List.mem_cons_self ..)) with h' | h'
          · exact h'.symm
          · have := hl.1 y h'
            have := hm.1 x h
            omega
      subst e
      rw [sorted_unique (List.perm_cons _ |>.mp p) hl.2 hm.2]
def sortG : List D → Option D
  | [.lst xs] => (intsD xs).map fun is => .lst ((sortI is).map D.int)
  | [.tup xs] => (intsD xs).map fun is => .lst ((sortI is).map D.int)
  | _ => none
section
variable {C : Cn}
theorem BorsAll.one {K : PySem.W.Frag} {W : Wd} {d : D} {vs : List V} (h : BorsAll K W [d] vs) : ∃ v, vs = [v] ∧ Bor K W d v := by
  obtain ⟨v, r, rfl, b, t⟩ := h
  rw [show r = [] from t]
  exact ⟨v, rfl, b⟩
theorem BorsAll.two {K : PySem.W.Frag} {W : Wd} {d e : D} {vs : List V} (h : BorsAll K W [d, e] vs) : ∃ v u, vs = [v, u] ∧ Bor K W d v ∧ Bor K W e u := by
  obtain ⟨v, r, rfl, b, t⟩ := h
  obtain ⟨u, rfl, b2⟩ := BorsAll.one t
  exact ⟨v, u, rfl, b, b2⟩
theorem c_len : CalD C (.builtin "len") lenG := fun X E ok => ⟨_, L2.CallR.or call_len_seq call_len_str, fun W h ds vs d Q rh b e k => by
  unfold lenG at e
  split at e
  · obtain ⟨v, rfl, b1⟩ := BorsAll.one b
    obtain ⟨a, us, rfl, sq, r, _⟩ := b1.tup
    cases e
    exact .inl ⟨a, us, rfl, .inr (by rw [ok.K]; exact sq), by rw [← r.length]; exact k W _ (.refl _) rh rep_int⟩
  · obtain ⟨v, rfl, b1⟩ := BorsAll.one b
    obtain ⟨a, us, rfl, sq, r⟩ := b1.lst
    cases e
    exact .inl ⟨a, us, rfl, .inl (.of sq), by rw [← r.length]; exact k W _ (.refl _) rh rep_int⟩
  · obtain ⟨v, rfl, b1⟩ := BorsAll.one b
    obtain ⟨a, us, rfl, sq, r⟩ := b1.frl
    cases e
    exact .inl ⟨a, us, rfl, .inl (by rw [ok.K]; exact sq), by rw [← r.length]; exact k W _ (.refl _) rh rep_int⟩
  · obtain ⟨v, rfl, b1⟩ := BorsAll.one b
    split at e
    · rename_i hz
      cases e
      rw [b1.str]
      exact .inr ⟨_, rfl, of_decide_eq_true hz, k W _ (.refl _) rh rep_int⟩
    · cases e
  · cases e⟩
theorem c_abs : CalD C (.builtin "abs") absG := fun X E ok => ⟨_, call_abs, fun W h ds vs d Q rh b e k => by
  unfold absG at e
  split at e
  · obtain ⟨v, rfl, b1⟩ := BorsAll.one b
    cases e
    rw [b1.int]
    exact ⟨_, rfl, k W _ (.refl _) rh rep_int⟩
  · cases e⟩
theorem c_max : CalD C (.builtin "max") maxG := fun X E ok => ⟨_, call_max2 ok.calm, fun W h ds vs d Q rh b e k => by
  unfold maxG at e
  split at e
  · obtain ⟨v, u, rfl, b1, b2⟩ := BorsAll.two b
    cases e
    rw [b1.int, b2.int]
    exact ⟨_, _, rfl, k W _ (.refl _) rh rep_int⟩
  · cases e⟩
theorem c_min : CalD C (.builtin "min") minG := fun X E ok => ⟨_, call_min2 ok.calm, fun W h ds vs d Q rh b e k => by
  unfold minG at e
  split at e
  · obtain ⟨v, u, rfl, b1, b2⟩ := BorsAll.two b
    cases e
    rw [b1.int, b2.int]
    exact ⟨_, _, rfl, k W _ (.refl _) rh rep_int⟩
  · cases e⟩
theorem c_gcd : CalD C (.builtin "math.gcd") gcdG := fun X E ok => ⟨_, cr_gcd, fun W h ds vs d Q rh b e k => by
  unfold gcdG at e
  split at e
  · obtain ⟨v, u, rfl, b1, b2⟩ := BorsAll.two b
    cases e
    rw [b1.int, b2.int]
    exact ⟨_, _, rfl, k W _ (.refl _) rh rep_int⟩
  · cases e⟩
theorem c_int : CalD C (.type "int") intG := fun X E ok => ⟨_, call_int1, fun W h ds vs d Q rh b e k => by
  unfold intG at e
  split at e
  · obtain ⟨v, rfl, b1⟩ := BorsAll.one b
    cases e
    rw [b1.int]
    exact .inl ⟨_, rfl, k W _ (.refl _) rh rep_int⟩
  · obtain ⟨v, rfl, b1⟩ := BorsAll.one b
    cases e
    rw [b1.bl]
    exact .inr ⟨_, rfl, k W _ (.refl _) rh rep_int⟩
  · cases e⟩
theorem c_str : CalD C (.type "str") strG := fun X E ok => ⟨_, call_str_int, fun W h ds vs d Q rh b e k => by
  unfold strG at e
  split at e
  · obtain ⟨v, rfl, b1⟩ := BorsAll.one b
    split at e
    · rename_i hz
      cases e
      rw [b1.int]
      exact ⟨_, rfl, hz, k W _ (.refl _) rh rep_str⟩
    · cases e
  · cases e⟩
theorem c_tup : CalD C (.type "tuple") tupG := fun X E ok => ⟨_, call_tuple_ofX, fun W h ds vs d Q rh b e k => by
  unfold tupG at e
  split at e
  · obtain ⟨v, rfl, b1⟩ := BorsAll.one b
    obtain ⟨a, us, rfl, sq, r, rr⟩ := b1.tup
    cases e
    exact ⟨a, us, rfl, .inr ⟨by rw [ok.K]; exact sq, k W _ (.refl _) rh rr⟩⟩
  · obtain ⟨v, rfl, b1⟩ := BorsAll.one b
    obtain ⟨a, us, rfl, sq, r⟩ := b1.lst
    cases e
    refine ⟨a, us, rfl, .inl ⟨.of sq, fun p ob np hd => ?_⟩⟩
    obtain ⟨W2, eH, l, rh', n⟩ := new_tup np hd rh r
    rw [← eH]
    exact k _ _ l rh' n
  · cases e⟩
theorem cn_list : CalN C (.type "list") listG := fun X E ok => ⟨_, call_list_of, fun W h ds vs d Q rh b e k => by
  unfold listG at e
  split at e
  · obtain ⟨v, rfl, b1⟩ := BorsAll.one b
    obtain ⟨a, us, rfl, sq, r, rr⟩ := b1.tup
    cases e
    refine ⟨a, us, rfl, .inr (by rw [ok.K]; exact sq), fun p np => ?_⟩
    obtain ⟨l, rh', n⟩ := new_lst np rh r
    exact k _ _ l rh' n
  · obtain ⟨v, rfl, b1⟩ := BorsAll.one b
    obtain ⟨a, us, rfl, sq, r⟩ := b1.lst
    cases e
    refine ⟨a, us, rfl, .inl (.of sq), fun p np => ?_⟩
    obtain ⟨l, rh', n⟩ := new_lst np rh r
    exact k _ _ l rh' n
  · cases e⟩
theorem c_sum : CalD C (.builtin "sum") sumG := fun X E ok => ⟨_, cr_sum ok.calm, fun W h ds vs d Q rh b e k => by
  unfold sumG at e
  split at e
  · obtain ⟨v, rfl, b1⟩ := BorsAll.one b
    obtain ⟨a, us, rfl, sq, r⟩ := b1.lst
    obtain ⟨is, q, rfl⟩ := Option.map_eq_some_iff.mp e
    rw [ints_reps r q] at sq
    exact ⟨a, is, rfl, .of sq, k W _ (.refl _) rh rep_int⟩
  · obtain ⟨v, rfl, b1⟩ := BorsAll.one b
    obtain ⟨a, us, rfl, sq, r⟩ := b1.frl
    obtain ⟨is, q, rfl⟩ := Option.map_eq_some_iff.mp e
    rw [ints_reps r q] at sq
    exact ⟨a, is, rfl, by rw [ok.K]; exact sq, k W _ (.refl _) rh rep_int⟩
  · cases e⟩
theorem c_all : CalD C (.builtin "all") allG := fun X E ok => ⟨_, cr_all ok.calm, fun W h ds vs d Q rh b e k => by
  unfold allG at e
  split at e
  · obtain ⟨v, rfl, b1⟩ := BorsAll.one b
    obtain ⟨a, us, rfl, sq, r⟩ := b1.lst
    obtain ⟨is, q, rfl⟩ := Option.map_eq_some_iff.mp e
    rw [bools_reps r q] at sq
    exact ⟨a, is, rfl, .of sq, k W _ (.refl _) rh rep_bl⟩
  · cases e⟩
theorem c_any : CalD C (.builtin "any") anyG := fun X E ok => ⟨_, cr_any ok.calm, fun W h ds vs d Q rh b e k => by
  unfold anyG at e
  split at e
  · obtain ⟨v, rfl, b1⟩ := BorsAll.one b
    obtain ⟨a, us, rfl, sq, r⟩ := b1.lst
    obtain ⟨is, q, rfl⟩ := Option.map_eq_some_iff.mp e
    rw [bools_reps r q] at sq
    exact ⟨a, is, rfl, .of sq, k W _ (.refl _) rh rep_bl⟩
  · cases e⟩
theorem reps_ints {K : PySem.W.Frag} {W : Wd} : ∀ is : List Int, Reps K W (is.map D.int) (is.map V.int)
  | [] => .nil
  | i :: r => .cons rep_int (reps_ints r)
def sortLG : List D → Option D
  | [.lst xs] => (intsD xs).map fun is => .lst ((sortI is).map D.int)
  | _ => none
theorem cn_sortL : CalN C (.builtin "sorted") sortLG := fun X E ok => ⟨_, cr_sortedI, fun W h ds vs d Q rh b e k => by
  unfold sortLG at e
  split at e
  · obtain ⟨v, rfl, b1⟩ := BorsAll.one b
    obtain ⟨a, us, rfl, sq, r⟩ := b1.lst
    obtain ⟨is, q, rfl⟩ := Option.map_eq_some_iff.mp e
    rw [ints_reps r q] at sq
    refine ⟨a, is, rfl, .of sq, fun ns p hp hs np => ?_⟩
    have := sorted_unique (hp.trans (sortI_perm is).symm) hs (sortI_sorted is)
    subst this
    obtain ⟨l, rh', n⟩ := new_lst np rh (reps_ints _)
    exact k _ _ l rh' n
  · cases e⟩
end
end Sw

/-! Sw, part F: what loops walk; comprehensions. -/
namespace Sw
open PySem PySem.Spec PyProof.Rows L2

/-! ### enumerate(tuple) -/
theorem meets_enum1 {v : Value} {o : Obj} {H : Heap → Prop} (B : Begins v o H) :
    Meets (Builtin.«enumerate.__new__» ⟨[.type "enumerate", v], []⟩) (fun _ R s => H s.heap ∧
      R (.ok (.ret (.ref (s.heap.push o).objs.size))) { s with heap := (s.heap.push o).push { cls := .type "enumerate", data := .fields #[.none, .bool false, .ref s.heap.objs.size, rawInt 0, .none, .none] } }) :=
  .of_wp fun prog w A R s h => by
    obtain ⟨hp, g, d, tk, os⟩ := s; obtain ⟨h1, h⟩ := h
    have hsub := sub_enumerate
    have q1 : ∀ {A' : Around} {E : Value → Shared → Prop} {Q : Value → Shared → Prop}, Q (.ref hp.objs.size) ⟨hp.push o, g, d, tk, os⟩ → wpAny (model prog w) A' (pyIter v) Q E ⟨hp, g, d, tk, os⟩ :=
      fun q => B.iter prog w _ _ ⟨hp, g, d, tk, os⟩ _ h1 q
    wp_walk using q1
    refine wpAny_stack_any fun st => wpAny_pure ?_
    split
    · rename_i c _ _ _ _ _
      cases (c == Value.type "enumerate")
      · wp_walk using q1
        exact ⟨_, rfl, h⟩
      · wp_walk using q1
        exact ⟨_, rfl, h⟩
    · wp_walk using q1
      exact ⟨_, rfl, h⟩
theorem call_enum1 {prog : Program} {w : World} {A : Around} {E : Value → Shared → Prop} {s : Shared} {v : Value} {o : Obj} {H : Heap → Prop} {Q : Value → Shared → Prop} (B : Begins v o H) (h1 : H s.heap)
    (h : ∀ h', IsEnum h' (s.heap.objs.size + 1) s.heap.objs.size 0 .none → h'.get? s.heap.objs.size = some o → h'.objs.size = s.heap.objs.size + 2 →
      (∀ b o, s.heap.get? b = some o → h'.get? b = some o) → Q (.ref (s.heap.objs.size + 1)) { s with heap := h' }) :
    wpAny (model prog w) A (call (.type "enumerate") [v]) Q E s := by
  refine callType_new F.called_enumerate (by decide) (F.typeCall_enumerate_1 _) (F.newCall_enumerate_1 _) (fun obj => F.args_object_init_2 obj _) F.entry_enumerate_new
    (meets_enum1 B) ⟨h1, ?_⟩
  have hz : (s.heap.push o).objs.size = s.heap.objs.size + 1 := Heap.size_push ..
  show _ ∧ _
  rw [hz]
  have he : IsEnum ((s.heap.push o).push { cls := .type "enumerate", data := .fields #[.none, .bool false, .ref s.heap.objs.size, rawInt 0, .none, .none] }) (s.heap.objs.size + 1) s.heap.objs.size 0 .none := by
    have := Heap.get?_push_size (s.heap.push o) (o := { cls := .type "enumerate", data := .fields #[.none, .bool false, .ref s.heap.objs.size, rawInt 0, .none, .none] }) rfl
    rw [hz] at this; exact this
  refine ⟨⟨_, he, rfl⟩, h _ he (Heap.get?_push_of_some _ (Heap.get?_push_size _ B.free)) (by rw [Heap.size_push, hz]) fun b o x => Heap.get?_push_of_some _ (Heap.get?_push_of_some _ x)⟩
/-- the tuple at a, each item in a new pair -/
def IteT (K : PySem.W.Frag) (a : Addr) : It :=
  ⟨fun i H => ∃ (xs : List V) (x : V), SqT K H a xs ∧ xs[i]? = some x, fun i H v H' => ∃ T x, ∃ ob : Obj, v = .ref T ∧ H T = none ∧ ob.dict = none ∧ H' = upd H T (.frz ob (.tup [.int (i : Nat), x])) ∧ ∀ xs, SqT K H a xs → xs[i]? = some x, fun i H => ∃ xs : List V, SqT K H a xs ∧ xs.length = i⟩
theorem turn_enumT {P : Program} {w : World} {K : PySem.W.Frag} {elts : List Expr} {kk : Nat} {tpos : Pos} (a e it : Addr) :
    Turn P w K (.Tuple elts kk tpos) (IteT K a) [e, it] e (fun i h => (∃ old, IsEnum h e it ((i : Nat) : Int) old) ∧ h.IsTupleIter it a i ∧ e ≠ it ∧ a ≠ it ∧ a ≠ e) where
  mem := by simp
  obj := fun i h st b hb => by
    obtain ⟨⟨old, he⟩, ⟨o, ho, hc, hd⟩, _⟩ := st
    have e' : b = e ∨ b = it := by simpa using hb
    rcases e' with z | z
    · rw [z]; exact ⟨_, he, fun v q => nomatch q⟩
    · rw [z]; exact ⟨o, ho, fun v q => by rw [hd] at q; cases q⟩
  keep := fun i h h' st k => let ⟨⟨old, he⟩, hi, hne⟩ := st; ⟨⟨old, k e (by simp) _ he⟩, hi.at fun o q => k it (by simp) o q, hne⟩
  item := by
    intro X hP hw hK hc i pins s σ H E I hf st hg
    subst hP hw hK
    obtain ⟨⟨old, he⟩, hit, hne, na, nae⟩ := st
    obtain ⟨xs, x, hq, hx⟩ := hg
    obtain ⟨its, rv, p, hz⟩ := I.tuple hq
    obtain ⟨u, hu, ru⟩ := rv.get hx
    have hel : e < s.heap.objs.size := Heap.lt_size he
    have hil : it < s.heap.objs.size := by obtain ⟨_, q, _⟩ := hit; exact Heap.lt_size q
    have D := Draws.tuple (prog := X.prog) (w := X.w) (A := X.A.in1) (show X.A.in1.handled = none from I.ok.hd hc) it a na its.toArray
    have hlt : i < its.toArray.size := by
      have := (List.getElem?_eq_some_iff.mp hu).1
      simpa using this
    refine wpAny_pyNext_enum_itemD D he ⟨hit, show s.heap.IsTuple a its.toArray from p⟩ hlt hne (by simp [hne, Ne.symm nae]) fun u' h' tk hP ho hit' hT hsz hk => ?_
    obtain rfl : u = u' := by
      have hP : its[i]? = some u' := by simpa using hP
      rw [hu] at hP; exact Option.some.inj hP
    refine ⟨_, rfl, wpAny_letOwnedTupleGo_enum (s := { s with heap := h', toks := tk + 1 }) ho fun h'' he' sb => ?_⟩
    have hT2 : h''.get? s.heap.objs.size = some { cls := .type "tuple", data := .seq #[.int i tk, u] } := (sb.2 _ (Nat.ne_of_gt hel)).trans hT
    have new : ObjOk X.prog X.w (upd H s.heap.objs.size (.frz { cls := .type "tuple", data := .seq #[.int i tk, u] } (.tup [.int (i : Nat), x]))) h'' s.heap.objs.size (.frz { cls := .type "tuple", data := .seq #[.int i tk, u] } (.tup [.int (i : Nat), x])) :=
      okX (its := [.int i tk, u]) (n := 0) (by show 2 ≤ sizeLine; decide) (.cons ⟨_, rfl⟩ (.cons ru .nil)) hT2 rfl rfl
    have I1 : Inv X pins σ (upd H s.heap.objs.size (.frz { cls := .type "tuple", data := .seq #[.int i tk, u] } (.tup [.int (i : Nat), x]))) { s with heap := h'', toks := tk + 1 } :=
      I.turnedNew (ch := [e, it]) (fun b ob hb q => (sb.2 b (fun z => hb (by simp [z]))).trans (hk b ob (fun z => hb (by simp [z])) (fun z => hb (by simp [z])) q)) hf (Nat.le_refl _) new
    refine ⟨.ref s.heap.objs.size, _, I1, rfl, ⟨_, x, _, rfl, I.hok.fresh (Nat.le_refl _), rfl, rfl, fun ys hy => by rw [I.tuple_inj hy hq]; exact hx⟩, ⟨⟨u, ?_⟩, hit'.1.at fun o q => (sb.2 it (Ne.symm hne)).trans q, hne, na, nae⟩, fun b hb => ?_⟩
    · have e1 : ((i + 1 : Nat) : Int) = (i : Int) + 1 := by omega
      rw [e1]; exact he'
    · have hb' : b < s.heap.objs.size := by
        have e' : b = e ∨ b = it := by simpa using hb
        rcases e' with z | z
        · rw [z]; exact hel
        · rw [z]; exact hil
      rw [upd_ne (Nat.ne_of_lt hb')]
      exact (hf b hb).1
  done := by
    intro X hP hw hK hc i pins s σ H E I hf st hg
    subst hP hw hK
    obtain ⟨⟨old, he⟩, hit, hne, na, nae⟩ := st
    obtain ⟨xs, hq, hx⟩ := hg
    obtain ⟨its, rv, p, hz⟩ := I.tuple hq
    obtain ⟨f0, f1, f2, f3, f4, f5⟩ := hf it (by simp)
    have hl := rv.length
    have D := Draws.tuple (prog := X.prog) (w := X.w) (A := X.A.in1) (show X.A.in1.handled = none from I.ok.hd hc) it a na its.toArray
    have e1 : its.toArray.size = i := by rw [List.size_toArray, ← hl, hx]
    exact wpAny_pyNext_enum_endD D he (by rw [e1]; exact ⟨hit, show s.heap.IsTuple a its.toArray from p⟩) fun h' eb => ⟨rfl, I.turned (t' := s.toks) (fun b o hb q => eb b o hb q) f0 f1 f3 f4 f5⟩
  self := fun A i s Q E st h => let ⟨⟨_, he⟩, _⟩ := st; wpAny_pyIter_enum he h
def iEnumA (K : PySem.W.Frag) (ta : TA) : TI := fun σ H R => ta σ H fun vs H1 => ∃ a xs, vs = [.ref a] ∧ (SqT K H1 a xs ∧ R (IteT K a) H1)
theorem pi_enumA {X : Cx} {e : Expr} {ta : TA} {p pos tpos : Pos} {elts : List Expr} {kk : Nat} (hg : Gl X "enumerate") (hm : X.mg "enumerate" = none) (ha : PA X [e] ta) (hs : starEach [e] X.env = [(false, eval e X.env)]) :
    PI X (.Tuple elts kk tpos) (.Call (.Name "enumerate" p) [e] [] pos) (iEnumA X.K ta) := by
  refine ⟨fun pins s σ H R I h => ?_⟩
  refine Call_ (ld_blt I hg hm boot_enumerate (PyProof.Rows.callWith_type1 (thn (ha.run pos pins s σ H _ I h) fun us s1 ⟨vs, H1, I1, r1, q1⟩ => ?_) hs rfl))
  obtain ⟨a, xs, ex, q⟩ := q1
  subst ex
  cases r1 with
  | cons r rr =>
    cases rr
    cases r
    obtain ⟨hq, q⟩ := q
    obtain ⟨its, rv, p', hz⟩ := I1.tuple hq
    have hal : a < s1.heap.objs.size := p'.lt
    refine call_enum1 (begins_tuple a its.toArray) (show s1.heap.IsTuple a its.toArray from p') fun h' he hit hsz hk => wpAny_pyIter_enum he ?_
    have I2 : Inv X pins σ H1 { s1 with heap := h' } := I1.kept (t' := s1.toks) hk
    refine ⟨s1.heap.objs.size + 1, [s1.heap.objs.size + 1, s1.heap.objs.size], _, _, H1, rfl, I2, turn_enumT a (s1.heap.objs.size + 1) s1.heap.objs.size, ⟨⟨.none, he⟩, ⟨_, hit, rfl, rfl⟩, Nat.succ_ne_self _, Nat.ne_of_lt hal, Nat.ne_of_lt (Nat.lt_succ_of_lt hal)⟩, fun b hb => ?_, q⟩
    have e' : b = s1.heap.objs.size + 1 ∨ b = s1.heap.objs.size := by simpa using hb
    have hle : s1.heap.objs.size ≤ b := by
      rcases e' with z | z
      · rw [z]; exact Nat.le_add_right _ _
      · rw [z]; exact Nat.le_refl _
    exact I1.fpOk hle (I1.hok.fresh hle)

/-! ### walks: the items told ahead -/
/-- J walks the items, wherever the frozen stays -/
def Walks1 (K : PySem.W.Frag) (W : Wd) (J : It) (items : List D) : Prop := ∀ (j : Nat) (W2 : Wd), LeF W W2 → (∀ a ys, W2.H a = some (.tup ys) → W2.F a) →
  (∀ d, items[j]? = some d → J.go j W2.H ∧ ∀ x H', J.yld j W2.H x H' → ∃ W3, W3.H = H' ∧ Le W2 W3 ∧ (∀ h, RH K W2 h → RH K W3 h) ∧ Rep K W3 d x) ∧ (items.length = j → J.stop j W2.H)
def DenI (C : Cn) (tg e : Expr) (f : DA) : Prop := DenG C (fun X t => PI X tg e t) (fun _ W' items J => Walks1 C.g.K W' J items) f
theorem PI.or {X : Cx} {tg e : Expr} {wi wi' : TI} (h : PI X tg e wi) (h' : PI X tg e wi') : PI X tg e (fun σ H R => wi σ H R ∨ wi' σ H R) :=
  ⟨fun pins s σ H R I q => q.elim (h.run pins s σ H R I) (h'.run pins s σ H R I)⟩
section
variable {K : PySem.W.Frag} {W : Wd}
theorem walks_tup {a : Addr} {xs : List D} {vs : List V} (t : TupAt K W a vs) (r : Reps K W xs vs) : Walks1 K W (Itt K a) xs := fun j W2 l _ => by
  have t2 := (t.mono l).sq
  have r2 := Reps.mono l _ _ r
  refine ⟨fun d e => ?_, fun e => ⟨vs, t2, by rw [← r.length, e]; exact Nat.le_refl _⟩⟩
  obtain ⟨v, ev, rv⟩ := r2.get e
  refine ⟨⟨vs, v, t2, ev⟩, fun x H' y => ?_⟩
  obtain ⟨rfl, y⟩ := y
  have := y vs t2
  rw [ev] at this
  cases this
  exact ⟨W2, rfl, .refl _, fun _ q => q, rv⟩
theorem walks_lst {a : Addr} {xs : List D} {vs : List V} (t : LstAt W a vs) (r : Reps K W xs vs) : Walks1 K W (Itl K a) xs := fun j W2 l _ => by
  have t2 : SqL K W2.H a vs := (t.mono l).sq
  have r2 := Reps.mono l _ _ r
  refine ⟨fun d e => ?_, fun e => ⟨vs, t2, by rw [← r.length, e]; exact Nat.le_refl _⟩⟩
  obtain ⟨v, ev, rv⟩ := r2.get e
  refine ⟨⟨vs, v, t2, ev⟩, fun x H' y => ?_⟩
  obtain ⟨rfl, y⟩ := y
  have := y vs t2
  rw [ev] at this
  cases this
  exact ⟨W2, rfl, .refl _, fun _ q => q, rv⟩
/-- lo, lo + 1, .. -/
def rangeD (lo : Int) : Nat → List D
  | 0 => []
  | n + 1 => .int lo :: rangeD (lo + 1) n
theorem rangeD_get : ∀ (n : Nat) (lo : Int) (j : Nat), (rangeD lo n)[j]? = if j < n then some (.int (lo + (j : Nat))) else none
  | 0, lo, j => by simp [rangeD]
  | n + 1, lo, 0 => by simp [rangeD]
  | n + 1, lo, j + 1 => by
    rw [rangeD, List.getElem?_cons_succ, rangeD_get n (lo + 1) j]
    have : lo + 1 + (j : Int) = lo + ((j + 1 : Nat) : Int) := by omega
    rw [this]
    by_cases h : j < n
    · rw [if_pos h, if_pos (by omega)]
    · rw [if_neg h, if_neg (by omega)]
theorem rangeD_length : ∀ (n : Nat) (lo : Int), (rangeD lo n).length = n
  | 0, _ => rfl
  | n + 1, lo => by rw [rangeD, List.length_cons, rangeD_length n]
theorem walks_rng {lo : Int} {n : Nat} : Walks1 K W (Itr lo n) (rangeD lo n) := fun j W2 l _ => by
  refine ⟨fun d e => ?_, fun e => ?_⟩
  · rw [rangeD_get] at e
    split at e
    · rename_i hj
      cases e
      exact ⟨hj, fun x H' y => by obtain ⟨rfl, rfl⟩ := y; exact ⟨W2, rfl, .refl _, fun _ q => q, rep_int⟩⟩
    · cases e
  · rw [rangeD_length] at e; show n ≤ j; omega
/-- lo, lo + c, .. -/
def rangeC (lo c : Int) : Nat → List D
  | 0 => []
  | n + 1 => .int lo :: rangeC (lo + c) c n
theorem rangeC_get (c : Int) : ∀ (n : Nat) (lo : Int) (j : Nat), (rangeC lo c n)[j]? = if j < n then some (.int (lo + (j : Nat) * c)) else none
  | 0, lo, j => by simp [rangeC]
  | n + 1, lo, 0 => by simp [rangeC]
  | n + 1, lo, j + 1 => by
    rw [rangeC, List.getElem?_cons_succ, rangeC_get c n (lo + c) j]
    have : lo + c + (j : Int) * c = lo + ((j + 1 : Nat) : Int) * c := by
      have : ((j + 1 : Nat) : Int) = (j : Int) + 1 := by omega
      rw [this, Int.add_mul]; omega
    rw [this]
    by_cases h : j < n
    · rw [if_pos h, if_pos (by omega)]
    · rw [if_neg h, if_neg (by omega)]
theorem rangeC_length (c : Int) : ∀ (n : Nat) (lo : Int), (rangeC lo c n).length = n
  | 0, _ => rfl
  | n + 1, lo => by rw [rangeC, List.length_cons, rangeC_length c n]
theorem walks_rngC {lo c : Int} {n : Nat} : Walks1 K W (Itc lo c n) (rangeC lo c n) := fun j W2 l _ => by
  refine ⟨fun d e => ?_, fun e => ?_⟩
  · rw [rangeC_get] at e
    split at e
    · rename_i hj
      cases e
      exact ⟨hj, fun x H' y => by obtain ⟨rfl, rfl⟩ := y; exact ⟨W2, rfl, .refl _, fun _ q => q, rep_int⟩⟩
    · cases e
  · rw [rangeC_length] at e; show n ≤ j; omega
/-- a new pair each turn -/
theorem new_pair {T : Addr} {ob : Obj} {d e : D} {x y : V} (hT : W.H T = none) (hd : ob.dict = none) (h1 : Rep K W d x) (h2 : Rep K W e y) : ∃ W3, W3.H = upd W.H T (.frz ob (.tup [x, y])) ∧ Le W W3 ∧ (∀ h, RH K W h → RH K W3 h) ∧ Rep K W3 (.tup [d, e]) (.ref T) := by
  refine ⟨(W.put T (.frz ob (.tup [x, y]))).frz T, rfl, le_frz (le_put hT) hT, fun h rh => rh_tup hT rh, ?_⟩
  rw [Rep]
  exact ⟨T, [x, y], rfl, ⟨.inr rfl, ob, hd, upd_same⟩, Reps.mono ((le_put hT).toLeF.trans (lef_frz _ _)) _ _ (.cons h1 (.cons h2 .nil))⟩
def enumD (n : Nat) : List D → List D
  | [] => []
  | x :: r => .tup [.int (n : Nat), x] :: enumD (n + 1) r
theorem enumD_get : ∀ (xs : List D) (n j : Nat), (enumD n xs)[j]? = (xs[j]?).map fun x => .tup [.int ((n + j : Nat) : Int), x]
  | [], n, j => by simp [enumD]
  | x :: r, n, 0 => by simp [enumD]
  | x :: r, n, j + 1 => by
    rw [enumD, List.getElem?_cons_succ, enumD_get r (n + 1) j, List.getElem?_cons_succ]
    have : n + 1 + j = n + (j + 1) := by omega
    rw [this]
theorem enumD_length : ∀ (xs : List D) (n : Nat), (enumD n xs).length = xs.length
  | [], _ => rfl
  | x :: r, n => by rw [enumD, List.length_cons, List.length_cons, enumD_length r]
theorem walks_enumT {a : Addr} {xs : List D} {vs : List V} (t : TupAt K W a vs) (r : Reps K W xs vs) : Walks1 K W (IteT K a) (enumD 0 xs) := fun j W2 l _ => by
  have t2 := (t.mono l).sq
  have r2 := Reps.mono l _ _ r
  refine ⟨fun d e => ?_, fun e => ⟨vs, t2, by rw [← r.length, ← e, enumD_length]⟩⟩
  rw [enumD_get] at e
  obtain ⟨z, ez, rfl⟩ := Option.map_eq_some_iff.mp e
  obtain ⟨v, ev, rv⟩ := r2.get ez
  refine ⟨⟨vs, v, t2, ev⟩, fun x H' y => ?_⟩
  obtain ⟨T, x', ob, rfl, hT, hob, rfl, y⟩ := y
  have := y vs t2
  rw [ev] at this
  cases this
  obtain ⟨W3, e1, e2, e3, e4⟩ := new_pair (K := K) (d := .int ((0 + j : Nat) : Int)) (e := z) (x := .int (j : Nat)) hT hob (by rw [Nat.zero_add]; exact rep_int) rv
  exact ⟨W3, e1, e2, e3, e4⟩
def zipD (xs ys : List D) : List D := (xs.zip ys).map fun p => .tup [p.1, p.2]
theorem zipD_get (xs ys : List D) (j : Nat) (d : D) : (zipD xs ys)[j]? = some d ↔ ∃ x y, xs[j]? = some x ∧ ys[j]? = some y ∧ d = .tup [x, y] := by
  unfold zipD
  rw [List.getElem?_map]
  constructor
  · intro h
    obtain ⟨p, hp, rfl⟩ := Option.map_eq_some_iff.mp h
    obtain ⟨h1, h2⟩ := List.getElem?_zip_eq_some.mp hp
    exact ⟨p.1, p.2, h1, h2, rfl⟩
  · rintro ⟨x, y, h1, h2, rfl⟩
    rw [(List.getElem?_zip_eq_some (z := (x, y))).mpr ⟨h1, h2⟩]
    rfl
end
def seqR (a : DE) : DA := fun τ h => (a τ h).bind fun d h1 => match d with
  | .tup xs => .ok xs h1
  | .lst xs => .ok xs h1
  | _ => .bad
def rngR1 (a : DE) : DA := fun τ h => (a τ h).bind fun d h1 => match d with
  | .int n => if decide (-(2 ^ 62) ≤ n) && decide (n < 2 ^ 62) then .ok (rangeD 0 n.toNat) h1 else .bad
  | _ => .bad
def rngR2 (a b : DE) : DA := fun τ h => (a τ h).bind fun x h1 => (b τ h1).bind fun y h2 => match x, y with
  | .int m, .int n => if (decide (-(2 ^ 62) ≤ m) && decide (m < 2 ^ 62)) && (decide (-(2 ^ 62) ≤ n) && decide (n < 2 ^ 62)) then .ok (rangeD m (n - m).toNat) h2 else .bad
  | _, _ => .bad
/-- range(a, b, -1) -/
def rngRm (a b : DE) : DA := fun τ h => (a τ h).bind fun x h1 => (b τ h1).bind fun y h2 => match x, y with
  | .int m, .int n => if (decide (-(2 ^ 62) ≤ m) && decide (m < 2 ^ 62)) && (decide (-(2 ^ 62) ≤ n) && decide (n < 2 ^ 62)) then .ok (rangeC m (-1) (m - n).toNat) h2 else .bad
  | _, _ => .bad
def enumR (a : DE) : DA := fun τ h => (a τ h).bind fun d h1 => match d with
  | .tup xs => .ok (enumD 0 xs) h1
  | _ => .bad
def zipR (a b : DE) : DA := fun τ h => (a τ h).bind fun x h1 => (b τ h1).bind fun y h2 => match x, y with
  | .tup xs, .tup ys => .ok (zipD xs ys) h2
  | .lst xs, .lst ys => .ok (zipD xs ys) h2
  | _, _ => .bad
section
variable {C : Cn} {tg a b : Expr} {fa fb : DE} {p pos tpos : Pos} {elts : List Expr} {kk : Nat}
theorem Rep.tupAt {K : PySem.W.Frag} {W : Wd} {xs : List D} {v : V} (h : Rep K W (.tup xs) v) : ∃ a vs, v = .ref a ∧ TupAt K W a vs ∧ Reps K W xs vs := by rwa [Rep] at h
theorem Rep.lstAt {K : PySem.W.Frag} {W : Wd} {xs : List D} {v : V} (h : Rep K W (.lst xs) v) : ∃ a vs, v = .ref a ∧ LstAt W a vs ∧ Reps K W xs vs := by rwa [Rep] at h
theorem den_iseq (ha : DenE C a fa) : DenI C tg a (seqR fa) := fun X E ok => by
  obtain ⟨t, pa, q⟩ := ha X E ok
  refine ⟨_, PI.or (pi_tup pa) (pi_list pa), fun W0 W τ σ h Q l fr rh o => ?_⟩
  have o : okG C.g.K C.g.mg (fun W' items J => Walks1 C.g.K W' J items) W (fun c dd H => E c dd σ H) Q (seqR fa τ h) := o
  cases e : fa τ h with
  | bad => exact (show False by unfold seqR at o; rw [e] at o; exact o).elim
  | exc x s =>
    refine .inl (q W0 W τ σ h _ l fr rh ?_)
    rw [e]
    unfold seqR at o
    rw [e] at o
    exact o
  | ok d s =>
    unfold seqR at o
    rw [e] at o
    cases d with
    | tup xs =>
      refine .inl (q W0 W τ σ h _ l fr rh ?_)
      rw [e]
      intro W' v l' rh' r
      obtain ⟨a, vs, rfl, t, r⟩ := r.tupAt
      exact ⟨a, rfl, ⟨vs, by rw [ok.K]; exact t.sq⟩, by rw [ok.K]; exact o W' _ l' rh' (walks_tup t r)⟩
    | lst xs =>
      refine .inr (q W0 W τ σ h _ l fr rh ?_)
      rw [e]
      intro W' v l' rh' r
      obtain ⟨a, vs, rfl, t, r⟩ := r.lstAt
      exact ⟨a, rfl, ⟨vs, by rw [ok.K]; exact t.sq⟩, by rw [ok.K]; exact o W' _ l' rh' (walks_lst t r)⟩
    | _ => exact o.elim
theorem den_irng1 (hg : glB C.sc "range" = true) (hm : C.g.mg "range" = none) (ha : DenB C a fa) (hs : ∀ env, starEach [a] env = [(false, eval a env)]) : DenI C tg (.Call (.Name "range" p) [a] [] pos) (rngR1 fa) := fun X E ok => by
  obtain ⟨t, pa, q⟩ := ha X E ok
  obtain ⟨g1, g2, g3⟩ := glB_ok ok hg
  refine ⟨_, pi_range1 g1 (by rw [ok.mg]; exact hm) (pa_cons pa pa_nil (hs _)) (hs _), fun W0 W τ σ h Q l fr rh o => ?_⟩
  refine q W0 W τ σ h _ l fr rh (okG.bind o fun x h1 W1 v l1 rh1 b1 o1 => ?_)
  cases x with
  | int n =>
    rw [b1.int]
    simp only at o1
    split at o1
    · rename_i hc
      simp only [Bool.and_eq_true, decide_eq_true_eq] at hc
      exact ⟨n, rfl, hc.1, hc.2, o1 W1 _ (.refl _) rh1 walks_rng⟩
    · exact o1.elim
  | _ => exact (show False from o1).elim
theorem den_irng2 (hg : glB C.sc "range" = true) (hm : C.g.mg "range" = none) (ha : DenB C a fa) (hb : DenB C b fb) (hs : ∀ env, starEach [a, b] env = [(false, eval a env), (false, eval b env)]) (hs2 : ∀ env, starEach [b] env = [(false, eval b env)]) : DenI C tg (.Call (.Name "range" p) [a, b] [] pos) (rngR2 fa fb) := fun X E ok => by
  obtain ⟨t, pa, q⟩ := ha X E ok
  obtain ⟨t', pb, q'⟩ := hb X E ok
  obtain ⟨g1, g2, g3⟩ := glB_ok ok hg
  refine ⟨_, pi_range2 g1 (by rw [ok.mg]; exact hm) (pa_cons pa (pa_cons pb pa_nil (hs2 _)) (by rw [hs, hs2])) (hs _) (hs2 _), fun W0 W τ σ h Q l fr rh o => ?_⟩
  refine q W0 W τ σ h _ l fr rh (okG.bind o fun x h1 W1 v l1 rh1 b1 o1 => ?_)
  refine q' W0 W1 τ σ h1 _ (l.trans l1) (fr.mono l1) rh1 (okG.bind o1 fun y h2 W2 u l2 rh2 b2 o2 => ?_)
  cases x with
  | int m =>
    cases y with
    | int n =>
      rw [b1.int, b2.int]
      simp only at o2
      split at o2
      · rename_i hc
        simp only [Bool.and_eq_true, decide_eq_true_eq] at hc
        exact ⟨m, n, rfl, ⟨hc.1.1, hc.1.2, hc.2.1, hc.2.2⟩, o2 W2 _ (.refl _) rh2 walks_rng⟩
      · exact o2.elim
    | _ => exact (show False from o2).elim
  | _ => exact (show False from o2).elim
theorem den_ienum (hg : glB C.sc "enumerate" = true) (hm : C.g.mg "enumerate" = none) (ha : DenE C a fa) (hs : ∀ env, starEach [a] env = [(false, eval a env)]) : DenI C (.Tuple elts kk tpos) (.Call (.Name "enumerate" p) [a] [] pos) (enumR fa) := fun X E ok => by
  obtain ⟨t, pa, q⟩ := ha X E ok
  obtain ⟨g1, g2, g3⟩ := glB_ok ok hg
  refine ⟨_, pi_enumA g1 (by rw [ok.mg]; exact hm) (pa_cons pa pa_nil (hs _)) (hs _), fun W0 W τ σ h Q l fr rh o => ?_⟩
  refine q W0 W τ σ h _ l fr rh (okG.bind o fun x h1 W1 v l1 rh1 b1 o1 => ?_)
  cases x with
  | tup xs =>
    obtain ⟨a, vs, rfl, t, r⟩ := b1.tupAt
    exact ⟨a, vs, rfl, by rw [ok.K]; exact t.sq, by rw [ok.K]; exact o1 W1 _ (.refl _) rh1 (walks_enumT t r)⟩
  | _ => exact (show False from o1).elim
end
end Sw

/-! Sw, part G: targets, comprehensions. -/
namespace Sw
open PySem PySem.Spec PyProof.Rows L2

/-! ### a frame's slots set -/
section
variable {K : PySem.W.Frag} {W0 W : Wd} {τ : List Sl} {σ : L2.St}
theorem Frm.set (f : Frm K W0 W τ σ) {d : D} {v : V} (i : Nat) (r : Rep K W d v) : Frm K W0 W (τ.set i (.val d)) (σ.set i (some v)) where
  len := by simp [f.len]
  at_ := fun j x e => by
    by_cases hj : i = j
    · subst hj
      by_cases hi : i < τ.length
      · rw [List.getElem?_set_self hi] at e
        cases e
        exact ⟨v, List.getElem?_set_self (by rw [← f.len]; exact hi), r⟩
      · rw [List.getElem?_eq_none (by simpa using hi)] at e; cases e
    · rw [List.getElem?_set_ne hj] at e ⊢
      exact f.at_ j x e
  dis := fun a b x y ad ne e1 e2 o1 o2 => by
    have h1 : i ≠ a := fun z => by
      subst z
      by_cases hi : i < τ.length
      · rw [List.getElem?_set_self hi] at e1; cases e1; cases o1
      · rw [List.getElem?_eq_none (by simpa using hi)] at e1; cases e1
    have h2 : i ≠ b := fun z => by
      subst z
      by_cases hi : i < τ.length
      · rw [List.getElem?_set_self hi] at e2; cases e2; cases o2
      · rw [List.getElem?_eq_none (by simpa using hi)] at e2; cases e2
    rw [List.getElem?_set_ne h1] at e1 ⊢
    rw [List.getElem?_set_ne h2] at e2 ⊢
    exact f.dis a b x y ad ne e1 e2 o1 o2
theorem Frm.drop (f : Frm K W0 W τ σ) (i : Nat) : Frm K W0 W (τ.set i .un) (σ.set i none) where
  len := by simp [f.len]
  at_ := fun j x e => by
    by_cases hj : i = j
    · subst hj
      by_cases hi : i < τ.length
      · rw [List.getElem?_set_self hi] at e
        cases e
        trivial
      · rw [List.getElem?_eq_none (by simpa using hi)] at e; cases e
    · rw [List.getElem?_set_ne hj] at e ⊢
      exact f.at_ j x e
  dis := fun a b x y ad ne e1 e2 o1 o2 => by
    have h1 : i ≠ a := fun z => by
      subst z
      by_cases hi : i < τ.length
      · rw [List.getElem?_set_self hi] at e1; cases e1; cases o1
      · rw [List.getElem?_eq_none (by simpa using hi)] at e1; cases e1
    have h2 : i ≠ b := fun z => by
      subst z
      by_cases hi : i < τ.length
      · rw [List.getElem?_set_self hi] at e2; cases e2; cases o2
      · rw [List.getElem?_eq_none (by simpa using hi)] at e2; cases e2
    rw [List.getElem?_set_ne h1] at e1 ⊢
    rw [List.getElem?_set_ne h2] at e2 ⊢
    exact f.dis a b x y ad ne e1 e2 o1 o2
def wipeT (τ : List Sl) : List Nat → List Sl
  | [] => τ
  | v :: vs => (wipeT τ vs).set v .un
theorem Frm.wipe (f : Frm K W0 W τ σ) : ∀ vs : List Nat, Frm K W0 W (wipeT τ vs) (wipe σ vs)
  | [] => f
  | v :: vs => (Frm.wipe f vs).drop v
theorem wipe_get (σ : L2.St) (i : Nat) : ∀ vs : List Nat, (L2.wipe σ vs)[i]? = if i ∈ vs then (if i < σ.length then some none else none) else σ[i]?
  | [] => by simp [L2.wipe]
  | v :: vs => by
    unfold L2.wipe
    by_cases h : v = i
    · subst h
      rw [if_pos (List.mem_cons_self ..)]
      by_cases hl : v < σ.length
      · rw [if_pos hl, List.getElem?_set_self (by rw [wipe_length]; exact hl)]
      · rw [if_neg hl, List.getElem?_eq_none (by rw [List.length_set, wipe_length]; omega)]
    · rw [List.getElem?_set_ne h, wipe_get σ i vs]
      by_cases h2 : i ∈ vs
      · rw [if_pos h2, if_pos (List.mem_cons_of_mem _ h2)]
      · rw [if_neg h2, if_neg (fun z => (List.mem_cons.mp z).elim (fun q => h q.symm) h2)]
theorem wipe_same {σ σ' : L2.St} {vs : List Nat} (hl : σ'.length = σ.length) (h : ∀ i, i ∉ vs → σ'[i]? = σ[i]?) : L2.wipe σ' vs = L2.wipe σ vs := by
  apply List.ext_getElem?
  intro i
  rw [wipe_get, wipe_get, hl]
  by_cases z : i ∈ vs
  · rw [if_pos z, if_pos z]
  · rw [if_neg z, if_neg z, h i z]
theorem wipe_wipe {σ : L2.St} {vs : List Nat} : L2.wipe (L2.wipe σ vs) vs = L2.wipe σ vs := wipe_same (wipe_length σ vs) fun i z => by rw [wipe_get, if_neg z]
end

/-! ### targets -/
abbrev GT := D → List Sl → Option (List Sl)
/-- the target writes the slots is -/
def DenGt (C : Cn) (tg : Expr) (is : List Nat) (g : GT) : Prop := ∀ X E, CxOk C X E → ∃ t : TG, PG X tg t ∧ ∀ W0 W τ σ d v τ' (Q : L2.St → Hp → Prop), Frm C.g.K W0 W τ σ → Rep C.g.K W d v → g d τ = some τ' →
  (∀ σ', Frm C.g.K W0 W τ' σ' → σ'.length = σ.length → (∀ i, i ∉ is → σ'[i]? = σ[i]?) → (∀ (i : Nat) (x : Sl), τ'[i]? = some x → x.isOwn = true → τ[i]? = some x ∧ σ'[i]? = σ[i]?) → Q σ' W.H) → t v σ W.H Q
def DenGs (C : Cn) (ts : List Expr) (is : List Nat) (g : List D → List Sl → Option (List Sl)) : Prop := ∀ X E, CxOk C X E → ∃ t : TGs, PGs X ts t ∧ ∀ W0 W τ σ ds vs τ' (Q : L2.St → Hp → Prop), Frm C.g.K W0 W τ σ → Reps C.g.K W ds vs → g ds τ = some τ' →
  (∀ σ', Frm C.g.K W0 W τ' σ' → σ'.length = σ.length → (∀ i, i ∉ is → σ'[i]? = σ[i]?) → (∀ (i : Nat) (x : Sl), τ'[i]? = some x → x.isOwn = true → τ[i]? = some x ∧ σ'[i]? = σ[i]?) → Q σ' W.H) → t vs σ W.H Q
def gN (i : Nat) : GT := fun d τ => some (τ.set i (.val d))
def gNilT : List D → List Sl → Option (List Sl)
  | [], τ => some τ
  | _, _ => none
def gConsT (g : GT) (r : List D → List Sl → Option (List Sl)) : List D → List Sl → Option (List Sl)
  | d :: ds, τ => (g d τ).bind (r ds)
  | [], _ => none
def gT (r : List D → List Sl → Option (List Sl)) : GT
  | .tup ds, τ => r ds τ
  | _, _ => none
/-- the name x stands in slot i, and can be stored -/
def stB (N : List Str) (sc : Scope) (fn : Str → Bool) (x : Str) (i : Nat) : Bool :=
  decide (N[i]? = some x) && (match sc.names.lookup x with | some .local => true | some .cell => fn x | _ => false)
theorem stB_ok {C : Cn} {X : Cx} {E : WX} (ok : CxOk C X E) {x : Str} {i : Nat} (h : stB C.N C.sc C.fn x i = true) : X.N[i]? = some x ∧ L2.Loc X.env.scope x ∧ (X.fn x = true ∨ X.env.scope.names.lookup x = some .local) := by
  unfold stB at h
  rw [Bool.and_eq_true, decide_eq_true_eq] at h
  obtain ⟨h1, h2⟩ := h
  refine ⟨by rw [ok.names]; exact h1, ?_⟩
  unfold L2.Loc
  rw [ok.scope]
  cases q : C.sc.names.lookup x with
  | none => rw [q] at h2; cases h2
  | some k =>
    rw [q] at h2
    cases k <;> first | exact ⟨.inl rfl, .inr rfl⟩ | exact ⟨.inr rfl, .inl (ok.fnk x h2)⟩ | cases h2
section
variable {C : Cn} {x : Str} {pos : Pos} {i k n : Nat} {tg : Expr} {ts : List Expr} {is js : List Nat} {g : GT} {r : List D → List Sl → Option (List Sl)}
theorem den_gname (h : stB C.N C.sc C.fn x i = true) : DenGt C (.Name x pos) [i] (gN i) := fun X E ok => by
  obtain ⟨h1, h2, h3⟩ := stB_ok ok h
  refine ⟨_, pg_name ok.nd h1 h2 h3, fun W0 W τ σ d v τ' Q fr rp e k => ?_⟩
  cases e
  refine k _ (fr.set i rp) (by simp) (fun j hj => ?_) fun j x ej ox => ?_
  · exact List.getElem?_set_ne fun z => hj (by rw [z]; exact List.mem_singleton.mpr rfl)
  · have hj : i ≠ j := fun z => by
      subst z
      by_cases hi : i < τ.length
      · rw [List.getElem?_set_self hi] at ej; cases ej; cases ox
      · rw [List.getElem?_eq_none (by simpa using hi)] at ej; cases ej
    rw [List.getElem?_set_ne hj] at ej
    exact ⟨ej, List.getElem?_set_ne hj⟩
theorem den_gnil : DenGs C [] [] gNilT := fun X E ok => ⟨_, pgs_nil, fun W0 W τ σ ds vs τ' Q fr rp e k => by
  cases ds with
  | nil =>
    cases e
    rw [Reps] at rp
    exact ⟨rp, k σ fr rfl (fun _ _ => rfl) fun _ _ e _ => ⟨e, rfl⟩⟩
  | cons _ _ => cases e⟩
theorem den_gcons (h1 : DenGt C tg is g) (h2 : DenGs C ts js r) (hs : ∀ env, (assignEach (tg :: ts) env).map (·.2) = assign tg env :: (assignEach ts env).map (·.2)) : DenGs C (tg :: ts) (is ++ js) (gConsT g r) := fun X E ok => by
  obtain ⟨t, p, q⟩ := h1 X E ok
  obtain ⟨t', p', q'⟩ := h2 X E ok
  refine ⟨_, pgs_cons p p' (hs _), fun W0 W τ σ ds vs τ' Q fr rp e k => ?_⟩
  cases ds with
  | nil => cases e
  | cons d ds =>
    rw [Reps] at rp
    obtain ⟨v, us, rfl, r1, r2⟩ := rp
    have e : (g d τ).bind (r ds) = some τ' := e
    obtain ⟨τ1, e1, e2⟩ := Option.bind_eq_some_iff.mp e
    refine ⟨v, us, rfl, q W0 W τ σ d v τ1 _ fr r1 e1 fun σ1 fr1 l1 s1 o1 => ?_⟩
    refine q' W0 W τ1 σ1 ds us τ' _ fr1 r2 e2 fun σ2 fr2 l2 s2 o2 => ?_
    exact k σ2 fr2 (l2.trans l1) (fun j hj => (s2 j fun z => hj (List.mem_append_right _ z)).trans (s1 j fun z => hj (List.mem_append_left _ z))) fun j x ej ox => by
      obtain ⟨a1, a2⟩ := o2 j x ej ox
      obtain ⟨b1, b2⟩ := o1 j x a1 ox
      exact ⟨b1, a2.trans b2⟩
theorem den_gtup (h : DenGs C ts is r) (hn : ∀ env, (assignEach ts env).length = n) (hst : ∀ env, (assignEach ts env).findIdx? (·.1) = none) (hl : ∀ ds τ τ', r ds τ = some τ' → ds.length = n) : DenGt C (.Tuple ts k pos) is (gT r) := fun X E ok => by
  obtain ⟨t, p, q⟩ := h X E ok
  refine ⟨_, pg_tup ok.calm p (hn _) (hst _), fun W0 W τ σ d v τ' Q fr rp e k => ?_⟩
  cases d with
  | tup ds =>
    obtain ⟨a, vs, rfl, t, r1⟩ := rp.tupAt
    exact ⟨a, vs, rfl, by rw [ok.K]; exact t.sq, by rw [← r1.length]; exact hl _ _ _ e, q W0 W τ σ ds vs τ' _ fr r1 e k⟩
  | _ => cases e
theorem gnil_len : ∀ (ds : List D) (τ τ' : List Sl), gNilT ds τ = some τ' → ds.length = 0
  | [], _, _, _ => rfl
  | _ :: _, _, _, h => by cases h
theorem gcons_len {n : Nat} (h : ∀ (ds : List D) (τ τ' : List Sl), r ds τ = some τ' → ds.length = n) : ∀ (ds : List D) (τ τ' : List Sl), gConsT g r ds τ = some τ' → ds.length = n + 1
  | [], _, _, e => by cases e
  | d :: ds, τ, τ', e => by
    have e : (g d τ).bind (r ds) = some τ' := e
    obtain ⟨τ1, e1, e2⟩ := Option.bind_eq_some_iff.mp e
    rw [List.length_cons, h ds τ1 τ' e2]
end

/-! ### list comprehensions -/
def Res.nox {α : Type} : Res α → Res α
  | .exc _ _ => .bad
  | r => r
theorem okG.bindN {K : PySem.W.Frag} {mg : Str → Option Value} {α β α' β' : Type} {Rel : Wd → α → β → Prop} {Rel' : Wd → α' → β' → Prop} {W W2 : Wd} {E E2 : XK} {Q : β → Hp → Prop} {Q' : β' → Hp → Prop} {r : Res α} {g : α → HS → Res α'}
    (h : okG K mg Rel' W E Q' (r.nox.bind g)) (k : ∀ a s W1 b, Le W2 W1 → RH K W1 s → Rel W1 a b → okG K mg Rel' W E Q' (g a s) → Q b W1.H) : okG K mg Rel W2 E2 Q r := by
  cases r with
  | ok a s => exact fun W1 b l2 rh re => k a s W1 b l2 rh re h
  | exc x s => exact h.elim
  | bad => exact h
/-- the items made by one clause, from the slots τ -/
def lcL (g : GT) (tt : DT) (te : DE) (τ : List Sl) : List D → HS → Res (List D)
  | [], h => .ok [] h
  | x :: r, h => match g x τ with
    | none => .bad
    | some τ1 => (tt τ1 h).nox.bind fun b h1 => if b then (te τ1 h1).nox.bind fun y h2 => (lcL g tt te τ r h2).nox.bind fun ys h3 => .ok (y :: ys) h3 else lcL g tt te τ r h1
def lcR (it : DA) (vs : List Nat) (g : GT) (tt : DT) (te : DE) : DE := fun τ h => (it τ h).bind fun items h1 => if fits items.length then (lcL g tt te (wipeT τ vs) items h1).nox.bind fun ys h2 => .ok (.lst ys) h2 else .bad
abbrev Cn.blk (C : Cn) (scope : Scope) : Cn := { C with sc := relS scope C.sc, fn := fun x => scope.names.lookup x == some .cell }
theorem takes_no {X : Cx} : Takes X (fun _ _ _ _ => False) := fun _ _ x => by
  obtain ⟨_, _, _, _, _, _, _, _, _, _, _, _, _, _, _, _, z⟩ := x
  exact z.elim
/-- a name that stands nowhere in a table -/
theorem long_name {β : Type} (x : Str) : ∀ l : List (Str × β), (∀ p ∈ l, p.1.cps.size < x.cps.size) → l.lookup x = none
  | [], _ => rfl
  | (y, b) :: l, h => by
    have hy := h (y, b) List.mem_cons_self
    have ne : (x == y) = false := beq_eq_false_iff_ne.mpr fun e => by subst e; exact Nat.lt_irrefl _ hy
    rw [List.lookup_cons, ne]
    exact long_name x l fun p m => h p (List.mem_cons_of_mem _ m)
theorem all_below {β : Type} : ∀ l : List (Str × β), ∃ n, ∀ p ∈ l, p.1.cps.size < n
  | [] => ⟨0, fun p m => by cases m⟩
  | (y, b) :: l => by
    obtain ⟨n, hn⟩ := all_below l
    refine ⟨n + y.cps.size + 1, fun p m => ?_⟩
    rcases List.mem_cons.1 m with rfl | m
    · show y.cps.size < _; omega
    · have := hn p m; omega
theorem fresh_name {β : Type} (l : List (Str × β)) : ∃ x : Str, l.lookup x = none := by
  obtain ⟨n, hn⟩ := all_below l
  exact ⟨⟨Array.replicate n 0⟩, long_name _ l fun p m => by show p.1.cps.size < (Array.replicate n 0).size; rw [Array.size_replicate]; exact hn p m⟩
theorem CxOk.blk {C : Cn} {X : Cx} {E : WX} (ok : CxOk C X E) (scope : Scope) (s : Shared) (H : Hp) (Cd : Addr) (cl : List (Str × Addr)) (fp : List Addr) : CxOk (C.blk scope) (X.blk s H scope (compEnvC scope cl Cd X.env) fp) (fun _ _ _ _ => False) where
  prog := ok.prog
  w := ok.w
  K := ok.K
  mg := ok.mg
  base := ok.base
  names := ok.names
  nd := ok.nd
  scope := by show relS scope X.env.scope = relS scope C.sc; rw [ok.scope]
  calm := ok.calm
  room := ok.room
  takes := takes_no
  own := PassesOwn.never
  fnk := fun x h => h
  top := fun h => by
    obtain ⟨x, e⟩ := fresh_name scope.names
    have : (scope.names.lookup x == some NameKind.cell) = true := h x
    rw [e] at this
    cases this
/-- a clause's tests -/
def DenTs (C : Cn) (ifs : List Expr) (f : DT) : Prop := DenG C (fun X t => PTs X ifs t) (fun _ _ a b => a = b) f
theorem den_tsnil {C : Cn} : DenTs C [] (fun _ h => .ok true h) := fun X E ok => ⟨_, pts_nil, fun W0 W τ σ h Q l fr rh o => okG.now o rh rfl⟩
theorem den_tsone {C : Cn} {c : Expr} {f : DT} (h : DenT C c f) : DenTs C [c] f := fun X E ok => by
  obtain ⟨t, p, q⟩ := h X E ok
  exact ⟨_, pts_one p, q⟩
/-- the own object D of a comprehension is written -/
theorem le_own {W W2 : Wd} {Dd : Addr} {o : HO} (l : Le W W2) (n : W.H Dd = none) (nF : ¬ W2.F Dd) : Le W (W2.put Dd o) where
  fr := l.fr
  st := fun a u f r => by
    have ha : a ≠ Dd := fun z => Rd.ne r (z ▸ n)
    rcases l.st a u f r with q | ⟨ob, q⟩
    · exact .inl (by rw [← q]; exact upd_ne ha)
    · exact .inr ⟨ob, by rw [← q]; exact upd_ne ha⟩
  sl := fun a xs q f r => by rw [← l.sl a xs q f r]; exact upd_ne (ne_of_none r n)
  rh := l.rh
  fo := fun a ob e h1 h2 => by
    obtain ⟨b1, b2, b3⟩ := l.fo a ob e h1 h2
    exact ⟨by rw [← b1]; exact upd_ne (ne_of_none e n), b2, b3⟩
theorem lef_own {W2 : Wd} {Dd : Addr} {o : HO} (nF : ¬ W2.F Dd) : LeF W2 (W2.put Dd o) where
  fr := fun _ f => f
  st := fun a u f r => by
    have ha : a ≠ Dd := fun z => nF (z ▸ f)
    rcases r with q | ⟨ob, q⟩
    · exact .inl (by rw [← q]; exact upd_ne ha)
    · exact .inr ⟨ob, by rw [← q]; exact upd_ne ha⟩
  sl := fun a xs q f r => by rw [← r]; exact upd_ne fun z => nF (z ▸ f)
  rh := List.prefix_refl _
theorem rh_own {K : PySem.W.Frag} {W2 : Wd} {h : HS} {Dd : Addr} {o : HO} (rh : RH K W2 h) (nF : ¬ W2.F Dd) (nr : Dd ∉ W2.ρ) (no : ∀ xs, o ≠ .tup xs := by intro xs e; cases e) : RH K (W2.put Dd o) h where
  len := rh.len
  nd := rh.nd
  at_ := fun i xs a e1 e2 => by
    obtain ⟨vs, q, r⟩ := rh.at_ i xs a e1 e2
    have ha : a ≠ Dd := fun z => nr (z ▸ List.mem_of_getElem? e2)
    exact ⟨vs, by rw [← q]; exact upd_ne ha, Reps.mono (lef_own nF) _ _ r⟩
  nf := rh.nf
  up := fun a f => by
    have ha : a ≠ Dd := fun z => nF (z ▸ f)
    show upd W2.H Dd o a ≠ none
    rw [upd_ne ha]
    exact rh.up a f
  tf := fun a xs e => by
    have e : upd W2.H Dd o a = some (.tup xs) := e
    by_cases z : a = Dd
    · subst z; rw [upd_same] at e; exact (no xs (Option.some.inj e)).elim
    · rw [upd_ne z] at e; exact rh.tf a xs e
/-- the own list D holds the data accD -/
structure OwnL (K : PySem.W.Frag) (W1 W2 : Wd) (Dd : Addr) (acc : List D) (h : HS) : Prop where
  le : Le W1 W2
  rh : RH K W2 h
  obj : ∃ vs, W2.H Dd = some (.lst vs) ∧ Reps K W2 acc vs
  nF : ¬ W2.F Dd
  nr : Dd ∉ W2.ρ
theorem OwnL.step {K : PySem.W.Frag} {W1 W2 W3 : Wd} {Dd : Addr} {acc : List D} {h h' : HS} (w : OwnL K W1 W2 Dd acc h) (l : Le W2 W3) (rh : RH K W3 h') : OwnL K W1 W3 Dd acc h' := by
  obtain ⟨vs, e, r⟩ := w.obj
  obtain ⟨b1, b2, b3⟩ := l.fo Dd _ e w.nF w.nr
  exact ⟨w.le.trans l, rh, ⟨vs, b1, r.mono l.toLeF⟩, b2, b3⟩
theorem OwnL.app {K : PySem.W.Frag} {W1 W2 : Wd} {Dd : Addr} {acc : List D} {h : HS} {d : D} {v : V} {vs : List V} (w : OwnL K W1 W2 Dd acc h) (n : W1.H Dd = none) (e : W2.H Dd = some (.lst vs)) (r : Rep K W2 d v) :
    OwnL K W1 (W2.put Dd (.lst (vs ++ [v]))) Dd (acc ++ [d]) h := by
  obtain ⟨vs', e', r'⟩ := w.obj
  rw [e] at e'
  cases e'
  exact ⟨le_own w.le n w.nF, rh_own w.rh w.nF w.nr, ⟨_, upd_same, Reps.mono (lef_own w.nF) _ _ (r'.append (.one r))⟩, w.nF, w.nr⟩
/-- a reading for many contexts at once -/
theorem DenG.unif {C : Cn} {α β ι : Type} {J : Cx → (L2.St → Hp → (β → Hp → Prop) → Prop) → Prop} {Rel : Wd → Wd → α → β → Prop} {f : List Sl → HS → Res α} (h : DenG C J Rel f) (Xs : ι → Cx) (E : WX) (oks : ∀ i, CxOk C (Xs i) E)
    (mono : ∀ X t t', J X t → (∀ σ H Q, t' σ H Q → t σ H Q) → J X t') : ∃ t, (∀ i, J (Xs i) t) ∧ ∀ W0 W τ σ h (Q : β → Hp → Prop), Le W0 W → Frm C.g.K W0 W τ σ → RH C.g.K W h →
      okG C.g.K C.g.mg (Rel W) W (fun c dd H => E c dd σ H) Q (f τ h) → t σ W.H Q :=
  ⟨fun σ H Q => ∀ i, Classical.choose (h (Xs i) E (oks i)) σ H Q, fun i => mono _ _ _ (Classical.choose_spec (h (Xs i) E (oks i))).1 fun σ H Q q => q i,
    fun W0 W τ σ s Q l fr rh o i => (Classical.choose_spec (h (Xs i) E (oks i))).2 W0 W τ σ s Q l fr rh o⟩
theorem PE.anti {X : Cx} {e : Expr} {t t' : TE} (h : PE X e t) (k : ∀ σ H Q, t' σ H Q → t σ H Q) : PE X e t' := ⟨fun pins s σ H Q I q => h.run pins s σ H Q I (k _ _ _ q)⟩
theorem PTs.anti {X : Cx} {e : List Expr} {t t' : TT} (h : PTs X e t) (k : ∀ σ H Q, t' σ H Q → t σ H Q) : PTs X e t' := ⟨fun pins s σ H Q I q => h.run pins s σ H Q I (k _ _ _ q)⟩
theorem PI.anti {X : Cx} {tg e : Expr} {t t' : TI} (h : PI X tg e t) (k : ∀ σ H Q, t' σ H Q → t σ H Q) : PI X tg e t' := ⟨fun pins s σ H Q I q => h.run pins s σ H Q I (k _ _ _ q)⟩
theorem PG.anti {X : Cx} {e : Expr} {t t' : TG} (h : PG X e t) (k : ∀ v σ H Q, t' v σ H Q → t v σ H Q) : PG X e t' := ⟨fun pins s σ H v u Q I r q => h.run pins s σ H v u Q I r (k _ _ _ _ q)⟩
theorem DenGt.unif {C : Cn} {ι : Type} {tg : Expr} {is : List Nat} {g : GT} (h : DenGt C tg is g) (Xs : ι → Cx) (E : WX) (oks : ∀ i, CxOk C (Xs i) E) :
    ∃ t : TG, (∀ i, PG (Xs i) tg t) ∧ ∀ W0 W τ σ d v τ' (Q : L2.St → Hp → Prop), Frm C.g.K W0 W τ σ → Rep C.g.K W d v → g d τ = some τ' →
      (∀ σ', Frm C.g.K W0 W τ' σ' → σ'.length = σ.length → (∀ i, i ∉ is → σ'[i]? = σ[i]?) → (∀ (i : Nat) (x : Sl), τ'[i]? = some x → x.isOwn = true → τ[i]? = some x ∧ σ'[i]? = σ[i]?) → Q σ' W.H) → t v σ W.H Q :=
  ⟨fun v σ H Q => ∀ i, Classical.choose (h (Xs i) E (oks i)) v σ H Q, fun i => PG.anti (Classical.choose_spec (h (Xs i) E (oks i))).1 fun v σ H Q q => q i,
    fun W0 W τ σ d v τ' Q fr r e k i => (Classical.choose_spec (h (Xs i) E (oks i))).2 W0 W τ σ d v τ' Q fr r e k⟩
structure BI where
  s : Shared
  H : Hp
  C : Addr
  cl : List (Str × Addr)
  fp : List Addr
abbrev bX (X : Cx) (scope : Scope) (i : BI) : Cx := X.blk i.s i.H scope (compEnvC scope i.cl i.C X.env) i.fp
section
variable {C : Cn} {elt tg iter : Expr} {ifs : List Expr} {scope : Scope} {own : List (Str × Nat)} {pos : Pos} {fi : DA} {g : GT} {is : List Nat} {ft : DT} {fe : DE}
theorem lcL_cons {g : GT} {tt : DT} {te : DE} {τ : List Sl} {x : D} {r : List D} {h : HS} : lcL g tt te τ (x :: r) h = match g x τ with
    | none => .bad
    | some τ1 => (tt τ1 h).nox.bind fun b h1 => if b then (te τ1 h1).nox.bind fun y h2 => (lcL g tt te τ r h2).nox.bind fun ys h3 => .ok (y :: ys) h3 else lcL g tt te τ r h1 := rfl
/-- behind acc: the rest of the items -/
theorem okG.accu {K : PySem.W.Frag} {mg : Str → Option Value} {β : Type} {Rel : Wd → D → β → Prop} {W : Wd} {E : XK} {Q : β → Hp → Prop} {acc : List D} {y : D} {r : Res (List D)}
    (o : okG K mg Rel W E Q ((r.nox.bind fun ys h3 => .ok (y :: ys) h3).nox.bind fun ys h2 => .ok (.lst (acc ++ ys)) h2)) : okG K mg Rel W E Q (r.nox.bind fun ys h2 => .ok (.lst ((acc ++ [y]) ++ ys)) h2) := by
  cases r with
  | ok ys s =>
    have o : okG K mg Rel W E Q (.ok (.lst (acc ++ y :: ys)) s) := o
    show okG K mg Rel W E Q (.ok (.lst ((acc ++ [y]) ++ ys)) s)
    rw [List.append_assoc]
    exact o
  | exc x s => exact o
  | bad => exact o
theorem lc_read {X : Cx} {E : WX} (ok : CxOk C X E) (hi : DenI C tg iter fi) (ho : ∀ i ∈ is, i ∈ own.map (·.2)) (hg : DenGt (C.blk scope) tg is g) (ht : DenTs (C.blk scope) ifs ft) (he : DenE (C.blk scope) elt fe) :
    ∃ (wi : TI) (gt : TG) (tt : TT) (te : TE), PI X tg iter wi ∧ (∀ i, PG (bX X scope i) tg gt) ∧ (∀ i, PTs (bX X scope i) ifs tt) ∧ (∀ i, PE (bX X scope i) elt te) ∧
      ∀ W0 W τ σ h (Q : VK), Le W0 W → Frm C.g.K W0 W τ σ → RH C.g.K W h → okG C.g.K C.g.mg (NewR C.g.K W) W (fun c dd H => E c dd σ H) Q (lcR fi (own.map (·.2)) g ft fe τ h) → tLc wi gt tt te (own.map (·.2)) σ W.H Q := by
  obtain ⟨wi, pi, qi⟩ := hi X E ok
  have oks : ∀ i : BI, CxOk (C.blk scope) (bX X scope i) (fun _ _ _ _ => False) := fun i => ok.blk scope i.s i.H i.C i.cl i.fp
  obtain ⟨gt, pg, qg⟩ := hg.unif (bX X scope) _ oks
  obtain ⟨tt, pt, qt⟩ := ht.unif (bX X scope) _ oks fun X t t' p k => PTs.anti p k
  obtain ⟨te, pe, qe⟩ := he.unif (bX X scope) _ oks fun X t t' p k => PE.anti p k
  refine ⟨wi, gt, tt, te, pi, pg, pt, pe, fun W0 W τ σ h Q l fr rh o => ?_⟩
  refine qi W0 W τ σ h _ l fr rh (okG.bind o fun items h1 W1 J l1 rh1 wk o1 => ?_)
  intro Dd hD
  have hz : fits items.length = true := Classical.byContradiction fun hz => by rw [if_neg hz] at o1; exact o1.elim
  rw [if_pos hz] at o1
  have hz : items.length ≤ sizeLine := of_decide_eq_true hz
  let vs := own.map (·.2)
  let τ0 := wipeT τ vs
  refine ⟨fun i m H => m = items.length - i ∧ i ≤ items.length ∧ ∃ W2 acc h2, W2.H = H ∧ OwnL C.g.K W1 W2 Dd acc h2 ∧ acc.length ≤ i ∧
    okG C.g.K C.g.mg (NewR C.g.K W) W1 (fun c dd H => E c dd σ H) Q ((lcL g ft fe τ0 (items.drop i) h2).nox.bind fun ys h2 => .ok (.lst (acc ++ ys)) h2), ⟨items.length, by simp, Nat.zero_le _, W1.put Dd (.lst []), [], h1, rfl, ?_, Nat.le_refl _, ?_⟩, ?_⟩
  · exact ⟨le_put hD, rh_put hD rh1, ⟨[], upd_same, .nil⟩, fun f => rh1.up _ f hD, fun m => rh1.there m hD⟩
  · rw [List.drop_zero]; exact o1
  rintro i m H ⟨rfl, hi, W2, acc, h2, rfl, w, hacc, o2⟩
  by_cases hlt : i < items.length
  · have hdrop : items.drop i = items[i] :: items.drop (i + 1) := List.drop_eq_getElem_cons hlt
    rw [hdrop, lcL_cons] at o2
    have hit : items[i]? = some items[i] := List.getElem?_eq_getElem hlt
    obtain ⟨hgo, hy⟩ := (wk i W2 w.le.toLeF w.rh.tf).1 _ hit
    refine .inr ⟨hgo, fun H' => ∃ W3 acc h3, W3.H = H' ∧ OwnL C.g.K W1 W3 Dd acc h3 ∧ acc.length ≤ i + 1 ∧
      okG C.g.K C.g.mg (NewR C.g.K W) W1 (fun c dd H => E c dd σ H) Q ((lcL g ft fe τ0 (items.drop (i + 1)) h3).nox.bind fun ys h2 => .ok (.lst (acc ++ ys)) h2), fun H' hN => ⟨items.length - (i + 1), by omega, rfl, hlt, hN⟩, fun x H' y => ?_⟩
    obtain ⟨W3, rfl, l3, k3, r3⟩ := hy x H' y
    have w3 := w.step l3 (k3 _ w.rh)
    have fr3 : Frm C.g.K W0 W3 τ0 (L2.wipe σ vs) := (fr.mono ((l1.trans w.le).trans l3)).wipe vs
    have le03 : Le W0 W3 := (l.trans (l1.trans w.le)).trans l3
    cases eg : g items[i] τ0 with
    | none => rw [eg] at o2; exact o2.elim
    | some τ1 =>
      rw [eg] at o2
      refine qg W0 W3 τ0 _ items[i] x τ1 _ fr3 r3 eg fun σ2 fr4 hl2 hs2 _ => ⟨?_, ?_⟩
      · rw [wipe_same (σ := L2.wipe σ vs) (σ' := σ2) (vs := vs) hl2 fun j hj => hs2 j fun z => hj (ho j z), wipe_wipe]
      · have o2 : okG C.g.K C.g.mg (NewR C.g.K W) W1 (fun c dd H => E c dd σ H) Q (((ft τ1 h2).nox.bind fun b h1 => if b then (fe τ1 h1).nox.bind fun y h2 => (lcL g ft fe τ0 (items.drop (i + 1)) h2).nox.bind fun ys h3 => .ok (y :: ys) h3 else lcL g ft fe τ0 (items.drop (i + 1)) h1).nox.bind fun ys h2 => .ok (.lst (acc ++ ys)) h2) := o2
        cases et : ft τ1 h2 with
        | exc _ _ => rw [et] at o2; exact o2.elim
        | bad => rw [et] at o2; exact o2.elim
        | ok b h4 =>
          refine qt W0 W3 τ1 σ2 h2 _ le03 fr4 w3.rh ?_
          rw [et] at o2 ⊢
          intro W4 b' l4 rh4 hb'
          subst hb'
          have w4 := w3.step l4 rh4
          cases b with
          | false =>
            refine iteF ⟨W4, acc, h4, rfl, w4, Nat.le_succ_of_le hacc, o2⟩
          | true =>
            refine iteT ?_
            cases ee : fe τ1 h4 with
            | exc _ _ =>
              have o2 : okG C.g.K C.g.mg (NewR C.g.K W) W1 (fun c dd H => E c dd σ H) Q (((fe τ1 h4).nox.bind fun y h2 => (lcL g ft fe τ0 (items.drop (i + 1)) h2).nox.bind fun ys h3 => .ok (y :: ys) h3).nox.bind fun ys h2 => .ok (.lst (acc ++ ys)) h2) := o2
              rw [ee] at o2; exact o2.elim
            | bad =>
              have o2 : okG C.g.K C.g.mg (NewR C.g.K W) W1 (fun c dd H => E c dd σ H) Q (((fe τ1 h4).nox.bind fun y h2 => (lcL g ft fe τ0 (items.drop (i + 1)) h2).nox.bind fun ys h3 => .ok (y :: ys) h3).nox.bind fun ys h2 => .ok (.lst (acc ++ ys)) h2) := o2
              rw [ee] at o2; exact o2.elim
            | ok d h5 =>
              have o2 : okG C.g.K C.g.mg (NewR C.g.K W) W1 (fun c dd H => E c dd σ H) Q (((fe τ1 h4).nox.bind fun y h2 => (lcL g ft fe τ0 (items.drop (i + 1)) h2).nox.bind fun ys h3 => .ok (y :: ys) h3).nox.bind fun ys h2 => .ok (.lst (acc ++ ys)) h2) := o2
              refine qe W0 W4 τ1 σ2 h4 _ (le03.trans l4) (fr4.mono l4) rh4 ?_
              rw [ee] at o2 ⊢
              intro W5 yv l5 rh5 r5
              have w5 := w4.step l5 rh5
              obtain ⟨avs, ea, ra⟩ := w5.obj
              refine ⟨avs, ea, ?_, W5.put Dd (.lst (avs ++ [yv])), acc ++ [d], h5, rfl, w5.app hD ea r5, ?_, okG.accu o2⟩
              · rw [← ra.length]; omega
              · rw [List.length_append]; simp; omega
  · have e : i = items.length := by omega
    subst e
    rw [List.drop_length] at o2
    obtain ⟨avs, ea, ra⟩ := w.obj
    refine .inl ⟨(wk _ W2 w.le.toLeF w.rh.tf).2 rfl, ?_⟩
    have o3 : okG C.g.K C.g.mg (NewR C.g.K W) W1 (fun c dd H => E c dd σ H) Q (.ok (.lst (acc ++ [])) h2) := o2
    rw [List.append_nil] at o3
    exact o3 W2 _ w.le w.rh ⟨Dd, avs, rfl, ea, ra, w.nF, w.nr, l1.old rh1 hD⟩
theorem den_lc (hi : DenI C tg iter fi) (hb : blkC C.N C.sc scope own = true) (ho : ∀ i ∈ is, i ∈ own.map (·.2)) (hg : DenGt (C.blk scope) tg is g) (ht : DenTs (C.blk scope) ifs ft) (he : DenE (C.blk scope) elt fe)
    (hs : ∀ env x, foldedSetIterable iter env x = pure x) : DenN C (.ListComp elt [⟨tg, iter, ifs, 0⟩] scope pos) (lcR fi (own.map (·.2)) g ft fe) := fun X E ok => by
  obtain ⟨wi, gt, tt, te, p1, p2, p3, p4, q⟩ := lc_read ok hi ho hg ht he
  exact ⟨_, pe_lc ok.calm ok.nd p1 (blkOk_by (by rw [ok.names, ok.scope]; exact hb)) (fun s H Cd cl fp => p2 ⟨s, H, Cd, cl, fp⟩) (fun s H Cd cl fp => p3 ⟨s, H, Cd, cl, fp⟩) (fun s H Cd cl fp => p4 ⟨s, H, Cd, cl, fp⟩) (hs _), q⟩
end
end Sw

/-! Sw, part H: statements, defs. -/
namespace Sw
open PySem PySem.Spec PyProof.Rows L2

/-- an exception flies while the slots are τ -/
def RS.ofR {α : Type} (r : Res α) (τ : List Sl) (k : α → HS → RS) : RS := match r with
  | .ok a h => k a h
  | .exc x h => .exc x h
  | .bad => .bad
def okS (C : Cn) (W0 W : Wd) (E : WX) (D : Ends) : RS → Prop
  | .nx τ h => ∀ W' σ, Le W0 W' → LeF W W' → Frm C.g.K W0 W' τ σ → RH C.g.K W' h → D.nx σ W'.H
  | .bk τ h => ∀ W' σ, Le W0 W' → LeF W W' → Frm C.g.K W0 W' τ σ → RH C.g.K W' h → D.bk σ W'.H
  | .ct τ h => ∀ W' σ, Le W0 W' → LeF W W' → Frm C.g.K W0 W' τ σ → RH C.g.K W' h → D.ct σ W'.H
  | .rt d h => ∀ W' v, Le W0 W' → LeF W W' → RH C.g.K W' h → Rep C.g.K W' d v → D.rt v W'.H
  | .exc x h => ∀ W' c dd σ, Le W0 W' → LeF W W' → RH C.g.K W' h → ExR C.g.K C.g.mg W' x c dd → E c dd σ W'.H
  | .bad => False
theorem okS.mono {C : Cn} {W0 W W' : Wd} {E : WX} {D : Ends} (l : LeF W W') : ∀ {r : RS}, okS C W0 W E D r → okS C W0 W' E D r
  | .nx τ h, o => fun W2 σ a b => o W2 σ a (l.trans b)
  | .bk τ h, o => fun W2 σ a b => o W2 σ a (l.trans b)
  | .ct τ h, o => fun W2 σ a b => o W2 σ a (l.trans b)
  | .rt d h, o => fun W2 v a b => o W2 v a (l.trans b)
  | .exc x h, o => fun W2 c dd σ a b => o W2 c dd σ a (l.trans b)
  | .bad, o => o
/-- statements: J says which -/
def DenJ (C : Cn) (J : Cx → TS → Prop) (f : DS) : Prop := ∀ X E, CxOk C X E → ∃ t : TS, J X t ∧ ∀ W0 W τ σ h D, Le W0 W → Frm C.g.K W0 W τ σ → RH C.g.K W h → okS C W0 W E D (f τ h) → t D σ W.H
abbrev DenS (C : Cn) (st : Stmt) (f : DS) : Prop := DenJ C (fun X t => PS X st t) f
abbrev DenSs (C : Cn) (st : List Stmt) (f : DS) : Prop := DenJ C (fun X t => PSs X st t) f
/-- from an expression to what is done with its value -/
theorem okS.ex {C : Cn} {α β : Type} {Rel : Wd → α → β → Prop} {W0 W : Wd} {E : WX} {D : Ends} {r : Res α} {τ : List Sl} {σ : L2.St} {k : α → HS → RS} {Q : β → Hp → Prop} (l : Le W0 W) (o : okS C W0 W E D (RS.ofR r τ k))
    (h : ∀ a s W1 b, Le W W1 → RH C.g.K W1 s → Rel W1 a b → okS C W0 W1 E D (k a s) → Q b W1.H) : okG C.g.K C.g.mg Rel W (fun c dd H => E c dd σ H) Q r := by
  cases r with
  | ok a s => exact fun W1 b l1 rh re => h a s W1 b l1 rh re (okS.mono l1.toLeF o)
  | exc x s => exact fun W1 c dd l1 rh re => o W1 c dd σ (l.trans l1) l1.toLeF rh re
  | bad => exact o
/-! ### blocks -/
def seqS (f g : DS) : DS := fun τ h => match f τ h with
  | .nx τ' h' => g τ' h'
  | r => r
def nilS : DS := fun τ h => .nx τ h
section
variable {C : Cn} {st : Stmt} {rest : List Stmt} {f g : DS} {pos : Pos} {e : Expr} {fe : DE} {ft : DT}
theorem den_snil : DenSs C [] nilS := fun X E ok => ⟨_, pss_nil, fun W0 W τ σ h D l fr rh o => o W σ l (.refl _) fr rh⟩
theorem den_scons (h1 : DenS C st f) (h2 : DenSs C rest g) : DenSs C (st :: rest) (seqS f g) := fun X E ok => by
  obtain ⟨t, p, q⟩ := h1 X E ok
  obtain ⟨t', p', q'⟩ := h2 X E ok
  refine ⟨_, pss_cons p p', fun W0 W τ σ h D l fr rh o => ?_⟩
  refine q W0 W τ σ h _ l fr rh ?_
  have o : okS C W0 W E D (match f τ h with | .nx τ' h' => g τ' h' | r => r) := o
  cases ef : f τ h with
  | nx τ' h' =>
    rw [ef] at o
    exact fun W' σ' l1 l2 fr' rh' => q' W0 W' τ' σ' h' D l1 fr' rh' (okS.mono l2 o)
  | rt d s => rw [ef] at o; exact o
  | bk d s => rw [ef] at o; exact o
  | ct d s => rw [ef] at o; exact o
  | exc d s => rw [ef] at o; exact o
  | bad => rw [ef] at o; exact o.elim
theorem den_sone (h1 : DenS C st f) : DenSs C [st] f := fun X E ok => by
  obtain ⟨t, p, q⟩ := h1 X E ok
  exact ⟨_, pss_one p, q⟩
theorem den_pass : DenS C (.Pass pos) nilS := fun X E ok => ⟨_, ps_pass, fun W0 W τ σ h D l fr rh o => o W σ l (.refl _) fr rh⟩
theorem den_break : DenS C (.Break pos) (fun τ h => .bk τ h) := fun X E ok => ⟨_, ps_break, fun W0 W τ σ h D l fr rh o => o W σ l (.refl _) fr rh⟩
theorem den_continue : DenS C (.Continue pos) (fun τ h => .ct τ h) := fun X E ok => ⟨_, ps_continue, fun W0 W τ σ h D l fr rh o => o W σ l (.refl _) fr rh⟩
/-- code that is never come to -/
theorem den_never : DenS C st (fun _ _ => .bad) := fun X E ok => ⟨_, ps_never, fun W0 W τ σ h D l fr rh o => o.elim⟩
theorem den_sexpr (he : DenB C e fe) (hs : ∀ env, swapsWith e none pos.line env = pure false) : DenS C (.Expr e pos) (fun τ h => RS.ofR (fe τ h) τ fun _ h1 => .nx τ h1) := fun X E ok => by
  obtain ⟨t, p, q⟩ := he X E ok
  refine ⟨_, ps_expr p (hs _), fun W0 W τ σ h D l fr rh o => ?_⟩
  exact q W0 W τ σ h _ l fr rh (okS.ex l o fun a s W1 b l1 rh1 re o1 => o1 W1 σ (l.trans l1) (.refl _) (fr.mono l1) rh1)
theorem den_ret (he : DenE C e fe) : DenS C (.Return (some e) pos) (fun τ h => RS.ofR (fe τ h) τ fun d h1 => .rt d h1) := fun X E ok => by
  obtain ⟨t, p, q⟩ := he X E ok
  refine ⟨_, ps_ret p, fun W0 W τ σ h D l fr rh o => ?_⟩
  exact q W0 W τ σ h _ l fr rh (okS.ex l o fun a s W1 b l1 rh1 re o1 => o1 W1 b (l.trans l1) (.refl _) rh1 re)
theorem den_retN : DenS C (.Return none pos) (fun τ h => .rt .non h) := fun X E ok =>
  ⟨_, ps_retN, fun W0 W τ σ h D l fr rh o => o W .non l (.refl _) rh rep_non⟩
def iteS (t : DT) (f g : DS) : DS := fun τ h => RS.ofR (t τ h) τ fun b h1 => if b then f τ h1 else g τ h1
theorem den_sif {c : Expr} {a b : List Stmt} (hc : DenT C c ft) (ha : DenSs C a f) (hb : DenSs C b g) : DenS C (.If c a b pos) (iteS ft f g) := fun X E ok => by
  obtain ⟨t, p, q⟩ := hc X E ok
  obtain ⟨t1, p1, q1⟩ := ha X E ok
  obtain ⟨t2, p2, q2⟩ := hb X E ok
  refine ⟨_, ps_if p p1 p2, fun W0 W τ σ h D l fr rh o => ?_⟩
  refine q W0 W τ σ h _ l fr rh (okS.ex l o fun a s W1 b l1 rh1 re o1 => ?_)
  subst re
  cases a with
  | true => exact iteT (q1 W0 W1 τ σ s D (l.trans l1) (fr.mono l1) rh1 o1)
  | false => exact iteF (q2 W0 W1 τ σ s D (l.trans l1) (fr.mono l1) rh1 o1)
/-! ### stores -/
variable {x : Str} {i : Nat} {p' : Pos}
/-- name = value -/
def setS (i : Nat) (fe : DE) : DS := fun τ h => RS.ofR (fe τ h) τ fun d h1 => .nx (τ.set i (.val d)) h1
theorem den_set (hn : stB C.N C.sc C.fn x i = true) (he : DenE C e fe) (hs : ∀ env, swapsWith e (some (.Name x p')) pos.line env = pure false) : DenS C (.Assign [.Name x p'] e pos) (setS i fe) := fun X E ok => by
  obtain ⟨t, p, q⟩ := he X E ok
  obtain ⟨h1, h2, h3⟩ := stB_ok ok hn
  refine ⟨_, ps_set ok.nd h1 h2 p (hs _) h3, fun W0 W τ σ h D l fr rh o => ?_⟩
  exact q W0 W τ σ h _ l fr rh (okS.ex l o fun a s W1 b l1 rh1 re o1 => o1 W1 _ (l.trans l1) (.refl _) ((fr.mono l1).set i re) rh1)
def ownSl : D → Option Sl
  | .lst xs => some (.own xs)
  | .dK kvs => some (.ownK kvs)
  | .dT kvs => some (.ownT kvs)
  | _ => none
/-- name = a new list, kept as the frame's own -/
def setN (i : Nat) (fe : DE) : DS := fun τ h => RS.ofR (fe τ h) τ fun d h1 => match ownSl d with
  | some s => .nx (τ.set i s) h1
  | none => .bad
theorem _root_.Sw.NewR.sl {K : PySem.W.Frag} {W0 W W1 : Wd} {h : HS} {d : D} {v : V} {s : Sl} (l : Le W0 W) (rh : RH K W h) (n : NewR K W W1 d v) (e : ownSl d = some s) : s.isOwn = true ∧ SlAt K W0 W1 s (some (some v)) ∧ ∃ a, v = .ref a ∧ W.H a = none := by
  cases d <;> simp only [ownSl, Option.some.injEq, reduceCtorEq] at e <;> subst e
  · obtain ⟨a, vs, rfl, e, r, f, q, o⟩ := n
    exact ⟨rfl, ⟨a, vs, rfl, e, r, f, q, l.old rh o⟩, a, rfl, o⟩
  · obtain ⟨a, vs, rfl, e, r, f, q, o⟩ := n
    exact ⟨rfl, ⟨a, vs, rfl, e, r, f, q, l.old rh o⟩, a, rfl, o⟩
  · obtain ⟨a, vs, rfl, e, r, f, q, o⟩ := n
    exact ⟨rfl, ⟨a, vs, rfl, e, r, f, q, l.old rh o⟩, a, rfl, o⟩
theorem SlAt.there {K : PySem.W.Frag} {W0 W : Wd} {s : Sl} {o : Option (Option V)} {a : Addr} (h : SlAt K W0 W s o) (ho : s.isOwn = true) (e : o = some (some (.ref a))) : W.H a ≠ none := by
  subst e
  cases s with
  | own xs => obtain ⟨b, vs, e, h, _⟩ := h; cases e; rw [h]; exact fun z => by cases z
  | ownK xs => obtain ⟨b, vs, e, h, _⟩ := h; cases e; rw [h]; exact fun z => by cases z
  | ownT xs => obtain ⟨b, vs, e, h, _⟩ := h; cases e; rw [h]; exact fun z => by cases z
  | _ => cases ho
/-- an own object that was not there ahead -/
theorem Frm.setO {K : PySem.W.Frag} {W0 W W1 : Wd} {τ : List Sl} {σ : L2.St} (f : Frm K W0 W τ σ) (l : Le W W1) {s : Sl} {a : Addr} (i : Nat) (hs : SlAt K W0 W1 s (some (some (.ref a)))) (n : W.H a = none) : Frm K W0 W1 (τ.set i s) (σ.set i (some (.ref a))) where
  len := by simp [f.len]
  at_ := fun j x e => by
    by_cases hj : i = j
    · subst hj
      by_cases hi : i < τ.length
      · rw [List.getElem?_set_self hi] at e
        cases e
        rw [List.getElem?_set_self (by rw [← f.len]; exact hi)]
        exact hs
      · rw [List.getElem?_eq_none (by simpa using hi)] at e; cases e
    · rw [List.getElem?_set_ne hj] at e ⊢
      exact (f.at_ j x e).mono l
  dis := fun p q x y ad ne e1 e2 o1 o2 => by
    have key : ∀ {j : Nat} {y : Sl}, i ≠ j → τ[j]? = some y → y.isOwn = true → σ[j]? ≠ some (some (.ref a)) := fun {j y} hj e o z => (SlAt.there (f.at_ j y e) o z) n
    have inr : ∀ {x : Sl}, (τ.set i s)[i]? = some x → i < τ.length := fun {x} e => Classical.byContradiction fun hi => by
      rw [List.getElem?_eq_none (by simpa using hi)] at e; cases e
    by_cases h1 : i = p
    · subst h1
      have hi := inr e1
      have hq : i ≠ q := ne
      rw [List.getElem?_set_self (by rw [← f.len]; exact hi)]
      rw [List.getElem?_set_ne hq] at e2 ⊢
      intro z
      cases z
      exact key hq e2 o2
    · rw [List.getElem?_set_ne h1] at e1 ⊢
      by_cases h2 : i = q
      · subst h2
        have hi := inr e2
        rw [List.getElem?_set_self (by rw [← f.len]; exact hi)]
        intro z z2
        cases z2
        exact key h1 e1 o1 z
      · rw [List.getElem?_set_ne h2] at e2 ⊢
        exact f.dis p q x y ad ne e1 e2 o1 o2
theorem den_setN (hn : stB C.N C.sc C.fn x i = true) (he : DenN C e fe) (hs : ∀ env, swapsWith e (some (.Name x p')) pos.line env = pure false) : DenS C (.Assign [.Name x p'] e pos) (setN i fe) := fun X E ok => by
  obtain ⟨t, p, q⟩ := he X E ok
  obtain ⟨h1, h2, h3⟩ := stB_ok ok hn
  refine ⟨_, ps_set ok.nd h1 h2 p (hs _) h3, fun W0 W τ σ h D l fr rh o => ?_⟩
  refine q W0 W τ σ h _ l fr rh (okS.ex l o fun d s W1 v l1 rh1 n o1 => ?_)
  cases es : ownSl d with
  | none => rw [es] at o1; exact o1.elim
  | some sl =>
    rw [es] at o1
    obtain ⟨_, k2, a, rfl, na⟩ := n.sl l rh es
    exact o1 W1 _ (l.trans l1) (.refl _) (fr.setO l1 i k2 na) rh1
/-- target = value -/
def asgS (g : GT) (fe : DE) : DS := fun τ h => RS.ofR (fe τ h) τ fun d h1 => match g d τ with
  | some τ' => .nx τ' h1
  | none => .bad
theorem den_asg {tg : Expr} {is : List Nat} {g : GT} (hg : DenGt C tg is g) (he : DenE C e fe) (hs : ∀ env, swapsWithSole [tg] e pos.line env = pure false) (hw : ∀ env, env.scope = C.sc → swappedStores [tg] e env = pure none)
    (h1 : ∀ env, (assignEach [tg] env).map (·.2) = [assign tg env]) : DenS C (.Assign [tg] e pos) (asgS g fe) := fun X E ok => by
  obtain ⟨t, p, q⟩ := he X E ok
  obtain ⟨t', p', q'⟩ := hg X E ok
  refine ⟨_, ps_asg p p' (hs _) (hw _ ok.scope) (h1 _), fun W0 W τ σ h D l fr rh o => ?_⟩
  refine q W0 W τ σ h _ l fr rh (okS.ex l o fun d s W1 v l1 rh1 re o1 => ?_)
  cases eg : g d τ with
  | none => rw [eg] at o1; exact o1.elim
  | some τ' =>
    rw [eg] at o1
    exact q' W0 W1 τ σ d v τ' _ (fr.mono l1) re eg fun σ' fr' _ _ _ => o1 W1 σ' (l.trans l1) (.refl _) fr' rh1
/-- y = [..] on one line -/
theorem den_setLc {elt tg iter : Expr} {ifs : List Expr} {scope : Scope} {own : List (Str × Nat)} {cpos : Pos} {fi : DA} {g : GT} {is : List Nat} {ft : DT} {fe : DE} (hn : stB C.N C.sc C.fn x i = true) (hy : C.sc.names.lookup x = some .local) (hk : C.sc.kind = .function) (hl : (p'.line == cpos.line) = true)
    (ha : (scope.names.any fun (n, k) => n == x && (k == .local || k == .cell)) = false) (hi : DenI C tg iter fi) (hb : blkC C.N C.sc scope own = true) (ho : ∀ i ∈ is, i ∈ own.map (·.2)) (hg : DenGt (C.blk scope) tg is g) (ht : DenTs (C.blk scope) ifs ft) (he : DenE (C.blk scope) elt fe)
    (hs : ∀ env x, foldedSetIterable iter env x = pure x) : DenS C (.Assign [.Name x p'] (.ListComp elt [⟨tg, iter, ifs, 0⟩] scope cpos) pos) (setS i (lcR fi (own.map (·.2)) g ft fe)) := fun X E ok => by
  obtain ⟨wi, gt, tt, te, p1, p2, p3, p4, q⟩ := lc_read ok hi ho hg ht he
  obtain ⟨h1, h2, h3⟩ := stB_ok ok hn
  have hyl : X.env.scope.names.lookup x = some .local := by rw [ok.scope]; exact hy
  refine ⟨_, ps_setLc ok.calm ok.nd h1 hyl (sw_true (by rw [ok.scope]; exact hk) hyl hl ha) p1 (blkOk_by (by rw [ok.names, ok.scope]; exact hb)) (fun s H Cd cl fp => p2 ⟨s, H, Cd, cl, fp⟩) (fun s H Cd cl fp => p3 ⟨s, H, Cd, cl, fp⟩) (fun s H Cd cl fp => p4 ⟨s, H, Cd, cl, fp⟩) (hs _), fun W0 W τ σ h D l fr rh o => ?_⟩
  refine q W0 W τ σ h _ l fr rh ?_
  refine okG.imp (Rel' := Rep C.g.K) (okS.ex l o fun d s W1 v l1 rh1 re o1 => o1 W1 _ (l.trans l1) (.refl _) ((fr.mono l1).set i re) rh1) fun W' a b h' l' rh' n => n.freeze l' rh'
theorem den_setLcN {elt tg iter : Expr} {ifs : List Expr} {scope : Scope} {own : List (Str × Nat)} {cpos : Pos} {fi : DA} {g : GT} {is : List Nat} {ft : DT} {fe : DE} (hn : stB C.N C.sc C.fn x i = true) (hy : C.sc.names.lookup x = some .local) (hk : C.sc.kind = .function) (hl : (p'.line == cpos.line) = true)
    (ha : (scope.names.any fun (n, k) => n == x && (k == .local || k == .cell)) = false) (hi : DenI C tg iter fi) (hb : blkC C.N C.sc scope own = true) (ho : ∀ i ∈ is, i ∈ own.map (·.2)) (hg : DenGt (C.blk scope) tg is g) (ht : DenTs (C.blk scope) ifs ft) (he : DenE (C.blk scope) elt fe)
    (hs : ∀ env x, foldedSetIterable iter env x = pure x) : DenS C (.Assign [.Name x p'] (.ListComp elt [⟨tg, iter, ifs, 0⟩] scope cpos) pos) (setN i (lcR fi (own.map (·.2)) g ft fe)) := fun X E ok => by
  obtain ⟨wi, gt, tt, te, p1, p2, p3, p4, q⟩ := lc_read ok hi ho hg ht he
  obtain ⟨h1, h2, h3⟩ := stB_ok ok hn
  have hyl : X.env.scope.names.lookup x = some .local := by rw [ok.scope]; exact hy
  refine ⟨_, ps_setLc ok.calm ok.nd h1 hyl (sw_true (by rw [ok.scope]; exact hk) hyl hl ha) p1 (blkOk_by (by rw [ok.names, ok.scope]; exact hb)) (fun s H Cd cl fp => p2 ⟨s, H, Cd, cl, fp⟩) (fun s H Cd cl fp => p3 ⟨s, H, Cd, cl, fp⟩) (fun s H Cd cl fp => p4 ⟨s, H, Cd, cl, fp⟩) (hs _), fun W0 W τ σ h D l fr rh o => ?_⟩
  refine q W0 W τ σ h _ l fr rh (okS.ex l o fun d s W1 v l1 rh1 n o1 => ?_)
  cases es : ownSl d with
  | none => rw [es] at o1; exact o1.elim
  | some sl =>
    rw [es] at o1
    obtain ⟨_, k2, a, rfl, na⟩ := n.sl l rh es
    exact o1 W1 _ (l.trans l1) (.refl _) (fr.setO l1 i k2 na) rh1
/-- name op= e, ints -/
def augS (i : Nat) (g : D → D → Option D) (fe : DE) : DS := fun τ h => match τ[i]? with
  | some (.val d) => RS.ofR (fe τ h) τ fun y h1 => match g d y with
    | some z => .nx (τ.set i (.val z)) h1
    | none => .bad
  | _ => .bad
theorem den_aug {op : Operator} {g : D → D → Option D} (hn : stB C.N C.sc C.fn x i = true) (ho : OpD C (inplaceOp op) g) (he : DenB C e fe) : DenS C (.AugAssign (.Name x p') op e pos) (augS i g fe) := fun X E ok => by
  obtain ⟨t, p, q⟩ := he X E ok
  obtain ⟨r, hr, qr⟩ := ho X E ok
  obtain ⟨h1, h2, h3⟩ := stB_ok ok hn
  refine ⟨_, ps_aug (ti := r) ok.nd h1 h2 p hr h3, fun W0 W τ σ h D l fr rh o => ?_⟩
  unfold augS at o
  cases et : τ[i]? with
  | none => rw [et] at o; exact o.elim
  | some s =>
    rw [et] at o
    cases s with
    | val d =>
      obtain ⟨v, ev, rv⟩ := fr.at_ i _ et
      refine ⟨v, ev, q W0 W τ σ h _ l fr rh (okS.ex l o fun y s W1 u l1 rh1 b1 o1 => ?_)⟩
      cases eg : g d y with
      | none => rw [eg] at o1; exact o1.elim
      | some z =>
        rw [eg] at o1
        refine qr W1 s d y v u z _ rh1 (.inl (rv.mono l1.toLeF)) b1 eg fun W2 b l2 rh2 r2 => ?_
        exact o1 W2 _ ((l.trans l1).trans l2) l2.toLeF (((fr.mono l1).mono l2).set i r2) rh2
    | _ => exact o.elim
end

/-! ### own lists -/
/-- an own list changed in place -/
theorem Frm.own_upd {K : PySem.W.Frag} {W0 W : Wd} {τ : List Sl} {σ : L2.St} {i : Nat} {xs ys : List D} {a : Addr} {us : List V} (f : Frm K W0 W τ σ) (et : τ[i]? = some (.own xs)) (ea : σ[i]? = some (some (.ref a))) (w : OwnA W0 W a) (r : Reps K W ys us) :
    Frm K W0 (W.put a (.lst us)) (τ.set i (.own ys)) σ := by
  have hi : i < τ.length := (List.getElem?_eq_some_iff.mp et).1
  have lf := lef_own (W2 := W) (Dd := a) (o := .lst us) w.nf
  refine ⟨by simpa using f.len, fun j x e => ?_, fun p q x y ad ne e1 e2 o1 o2 => ?_⟩
  · by_cases hj : i = j
    · subst hj
      rw [List.getElem?_set_self hi] at e
      cases e
      exact ⟨a, us, ea, upd_same, r.mono lf, w.nf, w.nr, w.new⟩
    · rw [List.getElem?_set_ne hj] at e
      have h0 := f.at_ j x e
      have ne' : x.isOwn = true → σ[j]? ≠ some (some (.ref a)) := fun ho => f.dis i j _ x a hj et e rfl ho ea
      cases x with
      | un => trivial
      | val d => obtain ⟨v, e, r⟩ := h0; exact ⟨v, e, r.mono lf⟩
      | own zs =>
        obtain ⟨b, vs, e, h, r, w'⟩ := h0
        have hb : b ≠ a := fun z => ne' rfl (by rw [e, z])
        exact ⟨b, vs, e, by rw [← h]; exact upd_ne hb, r.mono lf, w'.nf, w'.nr, w'.new⟩
      | ownK zs =>
        obtain ⟨b, vs, e, h, r, w'⟩ := h0
        have hb : b ≠ a := fun z => ne' rfl (by rw [e, z])
        exact ⟨b, vs, e, by rw [← h]; exact upd_ne hb, r.mono lf, w'.nf, w'.nr, w'.new⟩
      | ownT zs =>
        obtain ⟨b, vs, e, h, r, w'⟩ := h0
        have hb : b ≠ a := fun z => ne' rfl (by rw [e, z])
        exact ⟨b, vs, e, by rw [← h]; exact upd_ne hb, r.mono lf, w'.nf, w'.nr, w'.new⟩
  · have key : ∀ {j : Nat} {x : Sl}, (τ.set i (.own ys))[j]? = some x → x.isOwn = true → ∃ y, τ[j]? = some y ∧ y.isOwn = true := fun {j x} e o => by
      by_cases hj : i = j
      · subst hj; exact ⟨_, et, rfl⟩
      · rw [List.getElem?_set_ne hj] at e; exact ⟨x, e, o⟩
    obtain ⟨x', e1', o1'⟩ := key e1 o1
    obtain ⟨y', e2', o2'⟩ := key e2 o2
    exact f.dis p q x' y' ad ne e1' e2' o1' o2'
section
variable {C : Cn} {e : Expr} {fe : DE} {x : Str} {i : Nat} {p1 apos cpos pos : Pos}
/-- x.append(e) -/
def appS (i : Nat) (fe : DE) : DS := fun τ h => match τ[i]? with
  | some (.own _) => RS.ofR (fe τ h) τ fun d h1 => match τ[i]? with
    | some (.own xs) => if decide (xs.length < sizeLine) then .nx (τ.set i (.own (xs ++ [d]))) h1 else .bad
    | _ => .bad
  | _ => .bad
theorem den_append (hn : nmB C.N C.sc x i = true) (he : DenE C e fe) (hl : (apos.endLine == cpos.line) = true) (hs : ∀ env, starEach [e] env = (false, eval e env) :: starEach [] env) :
    DenS C (.Expr (.Call (.Attribute (.Name x p1) "append" apos) [e] [] cpos) pos) (appS i fe) := fun X E ok => by
  obtain ⟨t, p, q⟩ := he X E ok
  obtain ⟨h1, h2, h3, h4⟩ := nmB_ok hn
  refine ⟨_, ps_expr (pe_bm PySem.F.plainAttrs_list PySem.F.slot_list_append PySem.F.type_list_append mt_append (pe_var (i := i) (by rw [ok.names]; exact h1) (by rw [ok.scope]; exact h2) h3 h4) (pa_cons p pa_nil (hs _)) rfl (by
    rw [hs]; rfl) hl (hs _) rfl) rfl, fun W0 W τ σ h D l fr rh o => ?_⟩
  unfold appS at o
  cases et : τ[i]? with
  | none => rw [et] at o; exact o.elim
  | some s =>
    cases s with
    | own xs =>
      rw [et] at o
      obtain ⟨a, vs, ea, ha, ra, wa⟩ := fr.at_ i _ et
      refine ⟨_, ea, .inl ⟨rfl, vs, .inl (.inl ha)⟩, ?_⟩
      refine q W0 W τ σ h _ l fr rh (okS.ex l o fun d s W1 u l1 rh1 r1 o1 => ?_)
      by_cases hz : xs.length < sizeLine
      · simp only [hz, decide_true, if_true] at o1
        have fr1 := fr.mono l1
        obtain ⟨a', vs', ea', ha', ra', wa'⟩ := fr1.at_ i _ et
        rw [ea] at ea'
        cases ea'
        refine ⟨a, vs', u, rfl, rfl, ha', by rw [← ra'.length]; exact hz, ?_⟩
        have l2 := l.trans l1
        exact o1 (W1.put a (.lst (vs' ++ [u]))) σ (le_own l2 wa'.new wa'.nf) (lef_own wa'.nf) (fr1.own_upd et ea wa' (ra'.append (.one r1))) (rh_own rh1 wa'.nf wa'.nr)
      · simp only [hz, decide_false] at o1
        exact (show False from o1).elim
    | _ => rw [et] at o; exact o.elim
end
end Sw

/-! Sw, part I: more of own and shared lists, loops, defs. -/
namespace Sw
open PySem PySem.Spec PyProof.Rows L2

section
variable {C : Cn} {e e2 : Expr} {fe fe2 : DE} {x y : Str} {i j : Nat} {p1 p2 p3 apos apos2 cpos cpos2 pos tpos : Pos} {st : Stmt} {f : DS}
/-- x.extend(e) -/
def extS (i : Nat) (fe : DE) : DS := fun τ h => match τ[i]? with
  | some (.own _) => RS.ofR (fe τ h) τ fun d h1 => match τ[i]?, d with
    | some (.own xs), .lst ys => if fits (xs.length + ys.length) then .nx (τ.set i (.own (xs ++ ys))) h1 else .bad
    | _, _ => .bad
  | _ => .bad
theorem den_extend (hn : nmB C.N C.sc x i = true) (he : DenB C e fe) (hl : (apos.endLine == cpos.line) = true) (hs : ∀ env, starEach [e] env = (false, eval e env) :: starEach [] env) :
    DenS C (.Expr (.Call (.Attribute (.Name x p1) "extend" apos) [e] [] cpos) pos) (extS i fe) := fun X E ok => by
  obtain ⟨t, p, q⟩ := he X E ok
  obtain ⟨h1, h2, h3, h4⟩ := nmB_ok hn
  refine ⟨_, ps_expr (pe_bm PySem.F.plainAttrs_list PySem.F.slot_list_extend PySem.F.type_list_extend mt_extend (pe_var (i := i) (by rw [ok.names]; exact h1) (by rw [ok.scope]; exact h2) h3 h4) (pa_cons p pa_nil (hs _)) rfl (by
    rw [hs]; rfl) hl (hs _) rfl) rfl, fun W0 W τ σ h D l fr rh o => ?_⟩
  unfold extS at o
  cases et : τ[i]? with
  | none => rw [et] at o; exact o.elim
  | some s =>
    cases s with
    | own xs =>
      rw [et] at o
      obtain ⟨a, vs, ea, ha, ra, wa⟩ := fr.at_ i _ et
      refine ⟨_, ea, .inl ⟨rfl, vs, .inl (.inl ha)⟩, ?_⟩
      refine q W0 W τ σ h _ l fr rh (okS.ex l o fun d s W1 u l1 rh1 r1 o1 => ?_)
      cases d with
      | lst ys =>
        by_cases hz : fits (xs.length + ys.length) = true
        · simp only [hz, if_true] at o1
          have fr1 := fr.mono l1
          obtain ⟨a', vs', ea', ha', ra', wa'⟩ := fr1.at_ i _ et
          rw [ea] at ea'
          cases ea'
          obtain ⟨b, us, rfl, hb, rb⟩ := r1.lst
          refine ⟨a, b, vs', us, rfl, rfl, ha', hb, by rw [← ra'.length, ← rb.length]; exact of_decide_eq_true hz, ?_⟩
          have l2 := l.trans l1
          exact o1 (W1.put a (.lst (vs' ++ us))) σ (le_own l2 wa'.new wa'.nf) (lef_own wa'.nf) (fr1.own_upd et ea wa' (ra'.append rb)) (rh_own rh1 wa'.nf wa'.nr)
        · simp only [hz] at o1
          exact (show False from o1).elim
      | _ => exact (show False from o1).elim
    | _ => rw [et] at o; exact o.elim
/-- x[e] = e2, x an own list -/
def putS (i : Nat) (fe fe2 : DE) : DS := fun τ h => RS.ofR (fe2 τ h) τ fun d h1 => match τ[i]? with
  | some (.own xs) => RS.ofR (fe τ h1) τ fun k h2 => match k with
    | .int k => match ixN xs.length k with
      | some j => .nx (τ.set i (.own (xs.set j d))) h2
      | none => .bad
    | _ => .bad
  | _ => .bad
theorem Reps.set' {K : PySem.W.Frag} {W : Wd} {ds : List D} {vs : List V} {d : D} {v : V} (j : Nat) (h : Reps K W ds vs) (r : Rep K W d v) : Reps K W (ds.set j d) (vs.set j v) := Reps.set j h r
theorem den_put (hn : nmB C.N C.sc x i = true) (he : DenB C e fe) (he2 : DenE C e2 fe2) (hsx : PlainIx e)
    (ha : ∀ env v, assign (.Subscript (.Name x p1) e tpos) env v = (do
      let ov ← holding [v] (eval (.Name x p1) env)
      let iv ← holding [v, ov] (eval e env)
      standAt tpos
      holding [v, ov, iv] (setItem ov iv v)
      release [v, ov, iv] [])) (hs : ∀ env, swapsWithSole [.Subscript (.Name x p1) e tpos] e2 pos.line env = pure false) (hw : ∀ env, swappedStores [.Subscript (.Name x p1) e tpos] e2 env = pure none)
    (h1' : ∀ env, (assignEach [.Subscript (.Name x p1) e tpos] env).map (·.2) = [assign (.Subscript (.Name x p1) e tpos) env]) :
    DenS C (.Assign [.Subscript (.Name x p1) e tpos] e2 pos) (putS i fe fe2) := fun X E ok => by
  obtain ⟨t, p, q⟩ := he X E ok
  obtain ⟨t', p', q'⟩ := he2 X E ok
  obtain ⟨h1, h2, h3, h4⟩ := nmB_ok hn
  refine ⟨_, ps_asg p' (pg_sub (pe_var (i := i) (by rw [ok.names]; exact h1) (by rw [ok.scope]; exact h2) h3 h4) p set_list (ha _)) (hs _) (hw _) (h1' _), fun W0 W τ σ h D l fr rh o => ?_⟩
  refine q' W0 W τ σ h _ l fr rh (okS.ex l o fun d s W1 u l1 rh1 r1 o1 => ?_)
  cases et : τ[i]? with
  | none => rw [et] at o1; exact o1.elim
  | some sl =>
    cases sl with
    | own xs =>
      rw [et] at o1
      have fr1 := fr.mono l1
      obtain ⟨a, vs, ea, ha, ra, wa⟩ := fr1.at_ i _ et
      refine ⟨_, ea, ?_⟩
      refine q W0 W1 τ σ s _ (l.trans l1) fr1 rh1 (okS.ex (l.trans l1) o1 fun k s2 W2 v l2 rh2 b2 o2 => ?_)
      cases k with
      | int k =>
        have o2 : okS C W0 W2 E D (match ixN xs.length k with | some j => .nx (τ.set i (.own (xs.set j d))) s2 | none => .bad) := o2
        cases ei : ixN xs.length k with
        | none => rw [ei] at o2; exact o2.elim
        | some j =>
          rw [ei] at o2
          have fr2 := fr1.mono l2
          obtain ⟨a', vs', ea', ha', ra', wa'⟩ := fr2.at_ i _ et
          rw [ea] at ea'
          cases ea'
          rw [b2.int]
          refine ⟨a, vs', k, j, rfl, rfl, ha', by rw [← ra'.length]; exact ei, ?_⟩
          have l3 := (l.trans l1).trans l2
          exact o2 (W2.put a (.lst (vs'.set j u))) σ (le_own l3 wa'.new wa'.nf) (lef_own wa'.nf) (fr2.own_upd et ea wa' (ra'.set' j (r1.mono l2.toLeF))) (rh_own rh2 wa'.nf wa'.nr)
      | _ => exact (show False from o2).elim
    | _ => rw [et] at o1; exact o1.elim
/-- a shared list changed in place -/
theorem le_shared {W : Wd} {a : Addr} {o : HO} (m : a ∈ W.ρ) (nf : ¬ W.F a) : Le W (W.put a o) where
  toLeF := lef_own nf
  fo := fun b ob e h1 h2 => ⟨by rw [← e]; exact upd_ne fun z => h2 (z ▸ m), h1, h2⟩
theorem rh_shared {K : PySem.W.Frag} {W : Wd} {h : HS} {a : Addr} {n : Nat} {xs : List D} {us : List V} (rh : RH K W h) (ea : W.ρ[n]? = some a) (nf : ¬ W.F a) (r : Reps K W xs us) : RH K (W.put a (.lst us)) (h.set n xs) where
  len := by rw [List.length_set]; exact rh.len
  nd := rh.nd
  at_ := fun i ys b e1 e2 => by
    by_cases hi : n = i
    · subst hi
      have hb : b = a := Option.some.inj (e2.symm.trans ea)
      subst hb
      by_cases hl : n < h.length
      · rw [List.getElem?_set_self hl] at e1
        cases e1
        exact ⟨us, upd_same, r.mono (lef_own nf)⟩
      · rw [List.getElem?_eq_none (by simpa using hl)] at e1; cases e1
    · rw [List.getElem?_set_ne hi] at e1
      obtain ⟨vs, q, r'⟩ := rh.at_ i ys b e1 e2
      have hb : b ≠ a := fun z => hi (by
        subst z
        obtain ⟨l1, g1⟩ := List.getElem?_eq_some_iff.mp ea
        obtain ⟨l2, g2⟩ := List.getElem?_eq_some_iff.mp e2
        exact (List.getElem_inj rh.nd).mp (g1.trans g2.symm))
      exact ⟨vs, by rw [← q]; exact upd_ne hb, r'.mono (lef_own nf)⟩
  nf := rh.nf
  up := fun b f => by
    by_cases z : b = a
    · subst z; exact absurd f nf
    · show upd W.H a (.lst us) b ≠ none; rw [upd_ne z]; exact rh.up b f
  tf := fun b ys e => by
    have e : upd W.H a (.lst us) b = some (.tup ys) := e
    by_cases z : b = a
    · subst z; rw [upd_same] at e; cases e
    · rw [upd_ne z] at e; exact rh.tf b ys e
/-- x[e] = e2, x a shared list -/
def rputS (i : Nat) (fe fe2 : DE) : DS := fun τ h => RS.ofR (fe2 τ h) τ fun d h1 => match τ[i]? with
  | some (.val (.ref n)) => RS.ofR (fe τ h1) τ fun k h2 => match k, h2[n]? with
    | .int k, some xs => match ixN xs.length k with
      | some j => .nx τ (h2.set n (xs.set j d))
      | none => .bad
    | _, _ => .bad
  | _ => .bad
theorem den_rput (hn : nmB C.N C.sc x i = true) (he : DenB C e fe) (he2 : DenE C e2 fe2) (hsx : PlainIx e)
    (ha : ∀ env v, assign (.Subscript (.Name x p1) e tpos) env v = (do
      let ov ← holding [v] (eval (.Name x p1) env)
      let iv ← holding [v, ov] (eval e env)
      standAt tpos
      holding [v, ov, iv] (setItem ov iv v)
      release [v, ov, iv] [])) (hs : ∀ env, swapsWithSole [.Subscript (.Name x p1) e tpos] e2 pos.line env = pure false) (hw : ∀ env, swappedStores [.Subscript (.Name x p1) e tpos] e2 env = pure none)
    (h1' : ∀ env, (assignEach [.Subscript (.Name x p1) e tpos] env).map (·.2) = [assign (.Subscript (.Name x p1) e tpos) env]) :
    DenS C (.Assign [.Subscript (.Name x p1) e tpos] e2 pos) (rputS i fe fe2) := fun X E ok => by
  obtain ⟨t, p, q⟩ := he X E ok
  obtain ⟨t', p', q'⟩ := he2 X E ok
  obtain ⟨h1, h2, h3, h4⟩ := nmB_ok hn
  refine ⟨_, ps_asg p' (pg_sub (pe_var (i := i) (by rw [ok.names]; exact h1) (by rw [ok.scope]; exact h2) h3 h4) p set_list (ha _)) (hs _) (hw _) (h1' _), fun W0 W τ σ h D l fr rh o => ?_⟩
  refine q' W0 W τ σ h _ l fr rh (okS.ex l o fun d s W1 u l1 rh1 r1 o1 => ?_)
  cases et : τ[i]? with
  | none => rw [et] at o1; exact o1.elim
  | some sl =>
    cases sl with
    | val dv =>
      cases dv with
      | ref n =>
        rw [et] at o1
        have fr1 := fr.mono l1
        obtain ⟨v, ev, rv⟩ := fr1.at_ i _ et
        refine ⟨v, ev, ?_⟩
        refine q W0 W1 τ σ s _ (l.trans l1) fr1 rh1 (okS.ex (l.trans l1) o1 fun k s2 W2 w l2 rh2 b2 o2 => ?_)
        cases k with
        | int k =>
          have o2 : okS C W0 W2 E D (match Sw.D.int k, s2[n]? with | .int k, some xs => (match ixN xs.length k with | some j => .nx τ (s2.set n (xs.set j d)) | none => .bad) | _, _ => .bad) := o2
          cases eh : s2[n]? with
          | none => rw [eh] at o2; exact o2.elim
          | some xs =>
            rw [eh] at o2
            have o2 : okS C W0 W2 E D (match ixN xs.length k with | some j => .nx τ (s2.set n (xs.set j d)) | none => .bad) := o2
            cases ei : ixN xs.length k with
            | none => rw [ei] at o2; exact o2.elim
            | some j =>
              rw [ei] at o2
              have rv := rv.mono l2.toLeF
              rw [Rep] at rv
              obtain ⟨a, ea, rfl⟩ := rv
              obtain ⟨vs, ha, ra⟩ := rh2.at_ n xs a eh ea
              have ma : a ∈ W2.ρ := List.mem_of_getElem? ea
              have nf := rh2.nf a ma
              rw [b2.int]
              refine ⟨a, vs, k, j, rfl, rfl, ha, by rw [← ra.length]; exact ei, ?_⟩
              have l3 := le_shared (o := .lst (vs.set j u)) ma nf
              exact o2 _ σ (((l.trans l1).trans l2).trans l3) l3.toLeF ((fr1.mono l2).mono l3) (rh_shared rh2 ea nf (ra.set' j (r1.mono l2.toLeF)))
        | _ => exact (show False from o2).elim
      | _ => rw [et] at o1; exact o1.elim
    | _ => rw [et] at o1; exact o1.elim

/-! ### own lists become values -/
def frzT (τ : List Sl) (i : Nat) : List Sl := match τ[i]? with
  | some (.own xs) => τ.set i (.val (.lst xs))
  | some (.ownK xs) => τ.set i (.val (.dK xs))
  | some (.ownT xs) => τ.set i (.val (.dT xs))
  | _ => τ
theorem le_frz0 {W0 W : Wd} {a : Addr} (l : Le W0 W) (n : W0.H a = none) : Le W0 (W.frz a) := le_frz l n
/-- other slots where the own object at a becomes frozen -/
theorem SlAt.frz {K : PySem.W.Frag} {W0 W : Wd} {a : Addr} {x : Sl} {o : Option (Option V)} (h : SlAt K W0 W x o) (ne : x.isOwn = true → o ≠ some (some (.ref a))) : SlAt K W0 (W.frz a) x o := by
  have lf := lef_frz W a
  cases x with
  | un => trivial
  | val d => obtain ⟨v, e, r⟩ := h; exact ⟨v, e, r.mono lf⟩
  | own zs =>
    obtain ⟨b, vs, e, h, r, w'⟩ := h
    have hb : b ≠ a := fun z => ne rfl (by rw [e, z])
    exact ⟨b, vs, e, h, r.mono lf, fun z => z.elim w'.nf hb, w'.nr, w'.new⟩
  | ownK zs =>
    obtain ⟨b, vs, e, h, r, w'⟩ := h
    have hb : b ≠ a := fun z => ne rfl (by rw [e, z])
    exact ⟨b, vs, e, h, r.mono lf, fun z => z.elim w'.nf hb, w'.nr, w'.new⟩
  | ownT zs =>
    obtain ⟨b, vs, e, h, r, w'⟩ := h
    have hb : b ≠ a := fun z => ne rfl (by rw [e, z])
    exact ⟨b, vs, e, h, r.mono lf, fun z => z.elim w'.nf hb, w'.nr, w'.new⟩
theorem Frm.frz {K : PySem.W.Frag} {W0 W : Wd} {τ : List Sl} {σ : L2.St} {i : Nat} {s : Sl} {a : Addr} {d : D} (f : Frm K W0 W τ σ) (et : τ[i]? = some s) (ho : s.isOwn = true) (ea : σ[i]? = some (some (.ref a))) (r : Rep K (W.frz a) d (.ref a)) :
    Frm K W0 (W.frz a) (τ.set i (.val d)) σ := by
  have hi : i < τ.length := (List.getElem?_eq_some_iff.mp et).1
  refine ⟨by simpa using f.len, fun j x e => ?_, fun p q x y ad ne e1 e2 o1 o2 => ?_⟩
  · by_cases hj : i = j
    · subst hj
      rw [List.getElem?_set_self hi] at e
      cases e
      exact ⟨_, ea, r⟩
    · rw [List.getElem?_set_ne hj] at e
      exact (f.at_ j x e).frz fun hx => f.dis i j s x a hj et e ho hx ea
  · have key : ∀ {j : Nat} {x : Sl}, (τ.set i (.val d))[j]? = some x → x.isOwn = true → τ[j]? = some x := fun {j x} e o => by
      by_cases hj : i = j
      · subst hj
        rw [List.getElem?_set_self hi] at e
        cases e; cases o
      · rw [List.getElem?_set_ne hj] at e; exact e
    exact f.dis p q x y ad ne (key e1 o1) (key e2 o2) o1 o2
theorem frzT_ok {K : PySem.W.Frag} {W0 W : Wd} {τ : List Sl} {σ : L2.St} {h : HS} (l : Le W0 W) (fr : Frm K W0 W τ σ) (rh : RH K W h) (i : Nat) : ∃ W', W'.H = W.H ∧ Le W0 W' ∧ LeF W W' ∧ Frm K W0 W' (frzT τ i) σ ∧ RH K W' h := by
  unfold frzT
  cases et : τ[i]? with
  | none => exact ⟨W, rfl, l, .refl _, fr, rh⟩
  | some s =>
    cases s with
    | own xs =>
      obtain ⟨a, vs, ea, ha, ra, wa⟩ := fr.at_ i _ et
      exact ⟨W.frz a, rfl, le_frz l wa.new, lef_frz _ _, fr.frz et rfl ea (by rw [Rep]; exact ⟨a, vs, rfl, ⟨.inr rfl, ha⟩, ra.mono (lef_frz _ _)⟩), rh_frz rh wa.nr (by rw [ha]; exact fun z => by cases z)⟩
    | ownK xs =>
      obtain ⟨a, vs, ea, ha, ra, wa⟩ := fr.at_ i _ et
      exact ⟨W.frz a, rfl, le_frz l wa.new, lef_frz _ _, fr.frz et rfl ea (by rw [Rep]; exact ⟨a, vs, rfl, .inr rfl, .inl ha, ra.mono (lef_frz _ _)⟩), rh_frz rh wa.nr (by rw [ha]; exact fun z => by cases z)⟩
    | ownT xs =>
      obtain ⟨a, vs, ea, ha, ra, wa⟩ := fr.at_ i _ et
      exact ⟨W.frz a, rfl, le_frz l wa.new, lef_frz _ _, fr.frz et rfl ea (by rw [Rep]; exact ⟨a, vs, rfl, .inr rfl, .inl ha, ra.mono (lef_frz _ _)⟩), rh_frz rh wa.nr (by rw [ha]; exact fun z => by cases z)⟩
    | _ => exact ⟨W, rfl, l, .refl _, fr, rh⟩
/-- ahead of a statement the own list of slot i becomes a value -/
theorem den_frz {J : Cx → TS → Prop} (i : Nat) (hst : DenJ C J f) : DenJ C J (fun τ h => f (frzT τ i) h) := fun X E ok => by
  obtain ⟨t, p, q⟩ := hst X E ok
  refine ⟨t, p, fun W0 W τ σ h D l fr rh o => ?_⟩
  obtain ⟨W', eH, l', lf, fr', rh'⟩ := frzT_ok l fr rh i
  rw [← eH]
  exact q W0 W' _ σ h D l' fr' rh' (okS.mono lf o)

/-! ### loops -/
def forS (g : GT) (b : DS) : List D → DS
  | [], τ, h => .nx τ h
  | x :: r, τ, h => match g x τ with
    | none => .bad
    | some τ1 => match b τ1 h with
      | .nx τ2 h2 => forS g b r τ2 h2
      | .ct τ2 h2 => forS g b r τ2 h2
      | .bk τ2 h2 => .nx τ2 h2
      | s => s
def forR (it : DA) (g : GT) (b : DS) : DS := fun τ h => RS.ofR (it τ h) τ fun items h1 => forS g b items τ h1
theorem den_for {tg iter : Expr} {body : List Stmt} {fi : DA} {g : GT} {is : List Nat} {fb : DS} (hi : DenI C tg iter fi) (hg : DenGt C tg is g) (hb : DenSs C body fb) (hs : ∀ env x, foldedSetIterable iter env x = pure x) :
    DenS C (.For tg iter body [] pos) (forR fi g fb) := fun X E ok => by
  obtain ⟨ti, pi, qi⟩ := hi X E ok
  obtain ⟨tg', pg, qg⟩ := hg X E ok
  obtain ⟨tb, pb, qb⟩ := hb X E ok
  refine ⟨_, ps_for ok.own ok.calm pi pg pb (hs _), fun W0 W τ σ h D l fr rh o => ?_⟩
  refine qi W0 W τ σ h _ l fr rh (okS.ex l o fun items h1 W1 J l1 rh1 wk o1 => ?_)
  refine ⟨fun i m σ H => m = items.length - i ∧ i ≤ items.length ∧ ∃ W2 τ2 h2, W2.H = H ∧ Le W0 W2 ∧ LeF W1 W2 ∧ Frm C.g.K W0 W2 τ2 σ ∧ RH C.g.K W2 h2 ∧ okS C W0 W1 E D (forS g fb (items.drop i) τ2 h2),
    ⟨items.length, by simp, Nat.zero_le _, W1, τ, h1, rfl, l.trans l1, .refl _, fr.mono l1, rh1, by rw [List.drop_zero]; exact o1⟩, ?_⟩
  rintro i m σ2 H ⟨rfl, hi, W2, τ2, h2, rfl, l2, lf2, fr2, rh2, o2⟩
  by_cases hlt : i < items.length
  · have hdrop : items.drop i = items[i] :: items.drop (i + 1) := List.drop_eq_getElem_cons hlt
    rw [hdrop] at o2
    have hit : items[i]? = some items[i] := List.getElem?_eq_getElem hlt
    obtain ⟨hgo, hy⟩ := (wk i W2 lf2 rh2.tf).1 _ hit
    refine .inr ⟨hgo, fun σ' H' => ∃ W3 τ3 h3, W3.H = H' ∧ Le W0 W3 ∧ LeF W1 W3 ∧ Frm C.g.K W0 W3 τ3 σ' ∧ RH C.g.K W3 h3 ∧ okS C W0 W1 E D (forS g fb (items.drop (i + 1)) τ3 h3), fun σ' H' hN => ⟨items.length - (i + 1), by omega, rfl, hlt, hN⟩, fun x H' y => ?_⟩
    obtain ⟨W3, rfl, l3, k3, r3⟩ := hy x H' y
    have o2 : okS C W0 W1 E D (match g items[i] τ2 with | none => .bad | some τ1 => match fb τ1 h2 with | .nx τ2 h2 => forS g fb (items.drop (i + 1)) τ2 h2 | .ct τ2 h2 => forS g fb (items.drop (i + 1)) τ2 h2 | .bk τ2 h2 => .nx τ2 h2 | s => s) := o2
    cases eg : g items[i] τ2 with
    | none => rw [eg] at o2; exact o2.elim
    | some τ1 =>
      rw [eg] at o2
      have o2 : okS C W0 W1 E D (match fb τ1 h2 with | .nx τ2 h2 => forS g fb (items.drop (i + 1)) τ2 h2 | .ct τ2 h2 => forS g fb (items.drop (i + 1)) τ2 h2 | .bk τ2 h2 => .nx τ2 h2 | s => s) := o2
      refine qg W0 W3 τ2 σ2 items[i] x τ1 _ (fr2.mono l3) r3 eg fun σ3 fr4 _ _ _ => ?_
      have lf3 := lf2.trans l3.toLeF
      refine qb W0 W3 τ1 σ3 h2 _ (l2.trans l3) fr4 (k3 _ rh2) ?_
      cases eb : fb τ1 h2 with
      | nx τ4 h4 => rw [eb] at o2; exact fun W4 σ4 a b c d => ⟨W4, τ4, h4, rfl, a, lf3.trans b, c, d, o2⟩
      | ct τ4 h4 => rw [eb] at o2; exact fun W4 σ4 a b c d => ⟨W4, τ4, h4, rfl, a, lf3.trans b, c, d, o2⟩
      | bk τ4 h4 => rw [eb] at o2; exact fun W4 σ4 a b c d => o2 W4 σ4 a (lf3.trans b) c d
      | rt d4 h4 => rw [eb] at o2; exact fun W4 v a b c d => o2 W4 v a (lf3.trans b) c d
      | exc x4 h4 => rw [eb] at o2; exact fun W4 c dd σ4 a b r z => o2 W4 c dd σ4 a (lf3.trans b) r z
      | bad => rw [eb] at o2; exact o2.elim
  · have e : i = items.length := by omega
    subst e
    rw [List.drop_length] at o2
    exact .inl ⟨(wk _ W2 lf2 rh2.tf).2 rfl, o2 W2 σ2 l2 lf2 fr2 rh2⟩
def whileS (c : DT) (b : DS) : Nat → DS
  | 0, _, _ => .bad
  | n + 1, τ, h => RS.ofR (c τ h) τ fun k h1 => if k then match b τ h1 with
      | .nx τ2 h2 => whileS c b n τ2 h2
      | .ct τ2 h2 => whileS c b n τ2 h2
      | .bk τ2 h2 => .nx τ2 h2
      | s => s
    else .nx τ h1
theorem den_while (N : Nat) {c : Expr} {body : List Stmt} {fc : DT} {fb : DS} (hc : DenT C c fc) (hb : DenSs C body fb) : DenS C (.While c body [] pos) (whileS fc fb N) := fun X E ok => by
  obtain ⟨tc, pc, qc⟩ := hc X E ok
  obtain ⟨tb, pb, qb⟩ := hb X E ok
  refine ⟨_, ps_while ok.own pc pb, fun W0 W τ σ h D l fr rh o => ?_⟩
  refine ⟨fun m σ H => ∃ W2 τ2 h2, W2.H = H ∧ Le W0 W2 ∧ Frm C.g.K W0 W2 τ2 σ ∧ RH C.g.K W2 h2 ∧ okS C W0 W2 E D (whileS fc fb m τ2 h2), ⟨N, W, τ, h, rfl, l, fr, rh, o⟩, ?_⟩
  rintro m σ2 H ⟨W2, τ2, h2, rfl, l2, fr2, rh2, o2⟩
  cases m with
  | zero => exact (show False from o2).elim
  | succ m =>
    refine qc W0 W2 τ2 σ2 h2 _ l2 fr2 rh2 (okS.ex l2 o2 fun k h3 W3 k' l3 rh3 e3 o3 => ?_)
    subst e3
    cases k with
    | false => exact iteF (o3 W3 σ2 (l2.trans l3) (.refl _) (fr2.mono l3) rh3)
    | true =>
      have o3 : okS C W0 W3 E D (match fb τ2 h3 with | .nx τ2 h2 => whileS fc fb m τ2 h2 | .ct τ2 h2 => whileS fc fb m τ2 h2 | .bk τ2 h2 => .nx τ2 h2 | s => s) := o3
      refine iteT ⟨fun σ' H' => ∃ W4 τ4 h4, W4.H = H' ∧ Le W0 W4 ∧ Frm C.g.K W0 W4 τ4 σ' ∧ RH C.g.K W4 h4 ∧ okS C W0 W4 E D (whileS fc fb m τ4 h4), fun σ' H' hN => ⟨m, Nat.lt_succ_self _, hN⟩, ?_⟩
      refine qb W0 W3 τ2 σ2 h3 _ (l2.trans l3) (fr2.mono l3) rh3 ?_
      cases eb : fb τ2 h3 with
      | nx τ4 h4 => rw [eb] at o3; exact fun W4 σ4 a b c d => ⟨W4, τ4, h4, rfl, a, c, d, okS.mono b o3⟩
      | ct τ4 h4 => rw [eb] at o3; exact fun W4 σ4 a b c d => ⟨W4, τ4, h4, rfl, a, c, d, okS.mono b o3⟩
      | bk τ4 h4 => rw [eb] at o3; exact fun W4 σ4 a b c d => o3 W4 σ4 a b c d
      | rt d4 h4 => rw [eb] at o3; exact fun W4 v a b c d => o3 W4 v a b c d
      | exc x4 h4 => rw [eb] at o3; exact fun W4 c dd σ4 a b r z => o3 W4 c dd σ4 a b r z
      | bad => rw [eb] at o3; exact o3.elim
end

/-! ### defs -/
/-- what a body is worth as a function -/
def fnR (n : Nat) (f : DS) : DF := fun ds h => match f (ds.map Sl.val ++ List.replicate (n - ds.length) Sl.un) h with
  | .rt d h' => .ok d h'
  | .nx _ h' => .ok .non h'
  | .exc x h' => .exc x h'
  | _ => .bad
theorem frm_start {K : PySem.W.Frag} {W : Wd} {N : List Str} {ds : List D} {vs : List V} (r : Reps K W ds vs) : Frm K W W (ds.map Sl.val ++ List.replicate (N.length - ds.length) Sl.un) (L2.start N vs) where
  len := by unfold L2.start; simp [r.length]
  at_ := fun i x e => by
    unfold L2.start
    by_cases hi : i < ds.length
    · rw [List.getElem?_append_left (by simpa using hi), List.getElem?_map] at e
      rw [List.getElem?_append_left (by rw [List.length_map, ← r.length]; exact hi), List.getElem?_map]
      cases ed : ds[i]? with
      | none => rw [ed] at e; cases e
      | some d =>
        rw [ed] at e
        cases e
        obtain ⟨v, ev, rv⟩ := r.get ed
        rw [ev]
        exact ⟨v, rfl, rv⟩
    · rw [List.getElem?_append_right (by simpa using hi), List.getElem?_replicate] at e
      split at e
      · cases e; trivial
      · cases e
  dis := fun i j x y a ne e1 e2 o1 o2 => by
    have : ∀ {i : Nat} {x : Sl}, (ds.map Sl.val ++ List.replicate (N.length - ds.length) Sl.un)[i]? = some x → x.isOwn = false := fun {i x} e => by
      by_cases hi : i < ds.length
      · rw [List.getElem?_append_left (by simpa using hi), List.getElem?_map] at e
        cases ed : ds[i]? with
        | none => rw [ed] at e; cases e
        | some d => rw [ed] at e; cases e; rfl
      · rw [List.getElem?_append_right (by simpa using hi), List.getElem?_replicate] at e
        split at e
        · cases e; rfl
        · cases e
    rw [this e1] at o1; cases o1
/-- THE RULE for a def of the text -/
theorem fn_mk {g : Gx} {x qual : Str} {st : Stmt} {f : Addr} {fd : FuncData} {N ps : List Str} {k : Nat} {fb : DS} (F : L2.Fun g.K x qual st f fd) (S : FnScope N ps (defScope st)) (hm : g.mg x = some (.ref f)) (hb : L2.Binds g.K fd ps [])
    (hbody : DenSs ⟨g, k, N, defScope st, fun _ => true⟩ (defBody st) fb) : FnD g x ps.length (k + 1) (fnR N.length fb) := by
  refine ⟨f, fd, ps, ?_, hm, F.kp, hb⟩
  refine F.okX S (fun vs H Q E h => h.1) fun cdv A outer s H vs Q E hr h => ?_
  obtain ⟨hl, W, ds, h0, rfl, rh, r, o⟩ := h
  have ok : CxOk ⟨g, k, N, defScope st, fun _ => true⟩ (cxOf (L2.CX g.P g.w) g.P g.w g.K g.mg g.base N qual (defScope st) f cdv A outer s W.H E) (fun c d _ H => E c d H) :=
    ⟨rfl, rfl, rfl, rfl, rfl, rfl, S.nd, rfl, rfl, hr, takes_of rfl rfl rfl rfl, passes_of rfl, fun _ _ => rfl, fun _ => ⟨rfl, rfl⟩⟩
  obtain ⟨t, p, q⟩ := hbody _ _ ok
  refine ⟨t, p, q W W _ _ h0 _ (.refl _) (frm_start r) rh ?_⟩
  have o : okG g.K g.mg (Rep g.K) W E Q (match fb (ds.map Sl.val ++ List.replicate (N.length - ds.length) Sl.un) h0 with | .rt d h' => .ok d h' | .nx _ h' => .ok .non h' | .exc x h' => .exc x h' | _ => .bad) := o
  cases ef : fb (ds.map Sl.val ++ List.replicate (N.length - ds.length) Sl.un) h0 with
  | rt d h' => rw [ef] at o; exact fun W' v l _ rh' r' => o W' v l rh' r'
  | nx τ h' => rw [ef] at o; exact fun W' σ l _ fr rh' => o W' _ l rh' rep_non
  | exc x h' => rw [ef] at o; exact fun W' c dd σ l _ rh' r' => o W' c dd l rh' r'
  | bk _ _ => rw [ef] at o; exact o.elim
  | ct _ _ => rw [ef] at o; exact o.elim
  | bad => rw [ef] at o; exact o.elim
/-- the same def, told in other words -/
theorem FnD.congr {g : Gx} {x : Str} {n k : Nat} {φ ψ : DF} (F : FnD g x n k φ) (h : φ = ψ) : FnD g x n k ψ := h ▸ F
/-- the law's promise: the script is handed in, True comes out -/
theorem law_sp {g : Gx} {φ : DF} {H : Hp} {a : Addr} {ns : List Int} (hO : L2.Only H) (hS : SqL g.K H a (ns.map V.int)) (hok : ∃ h, φ [.frl (ns.map .int)] [] = .ok (.bl true) h) :
    spOf g 1 φ [.ref a] H (fun v _ => v = .bl true) fun _ _ _ => False := by
  obtain ⟨h, e⟩ := hok
  refine ⟨rfl, ⟨fun b => H b ≠ none, [], H⟩, [.frl (ns.map .int)], [], rfl, ⟨rfl, .nil, (fun n xs a e _ => by simp at e), (fun a m => by cases m), (fun a f => f), fun a xs e => by have e : H a = some (.tup xs) := e; show H a ≠ none; rw [e]; exact fun z => by cases z⟩, ?_, ?_⟩
  · refine .one ?_
    rw [Rep]
    refine ⟨a, ns.map V.int, rfl, ?_, reps_ints ns⟩
    rcases hS with q | q
    · exact .inl ⟨Rd.ne q, q⟩
    · exact .inr q
  · rw [e]
    intro W' v l rh r
    rw [Rep] at r
    exact r
end Sw

/-! Sw, part J: comprehensions of two clauses; a, b = x, y; isinstance. -/
namespace Sw
open PySem PySem.Spec PyProof.Rows L2

/-! ### two clauses -/
/-- behind the first clause: the items of the second -/
def lcL2 (g : GT) (tt : DT) (it1 : DA) (vs1 : List Nat) (g1 : GT) (tt1 : DT) (te : DE) (τ : List Sl) : List D → HS → Res (List D)
  | [], h => .ok [] h
  | x :: r, h => match g x τ with
    | none => .bad
    | some τ1 => (tt τ1 h).nox.bind fun b h1 => if b then (it1 τ1 h1).nox.bind fun items h2 => (lcL g1 tt1 te (wipeT τ1 vs1) items h2).nox.bind fun ys h3 => (lcL2 g tt it1 vs1 g1 tt1 te τ r h3).nox.bind fun zs h4 => .ok (ys ++ zs) h4
      else lcL2 g tt it1 vs1 g1 tt1 te τ r h1
def lcR2 (it : DA) (vs : List Nat) (g : GT) (tt : DT) (it1 : DA) (vs1 : List Nat) (g1 : GT) (tt1 : DT) (te : DE) : DE := fun τ h => (it τ h).bind fun items h1 =>
  (lcL2 g tt it1 vs1 g1 tt1 te (wipeT τ vs) items h1).nox.bind fun ys h2 => if fits ys.length then .ok (.lst ys) h2 else .bad
theorem lcL2_cons {g g1 : GT} {tt tt1 : DT} {te : DE} {it1 : DA} {vs1 : List Nat} {τ : List Sl} {x : D} {r : List D} {h : HS} : lcL2 g tt it1 vs1 g1 tt1 te τ (x :: r) h = match g x τ with
    | none => .bad
    | some τ1 => (tt τ1 h).nox.bind fun b h1 => if b then (it1 τ1 h1).nox.bind fun items h2 => (lcL g1 tt1 te (wipeT τ1 vs1) items h2).nox.bind fun ys h3 => (lcL2 g tt it1 vs1 g1 tt1 te τ r h3).nox.bind fun zs h4 => .ok (ys ++ zs) h4
      else lcL2 g tt it1 vs1 g1 tt1 te τ r h1 := rfl
/-- the end of a comprehension with acc made: what is wanted -/
def Fin (C : Cn) (W W1 : Wd) (E : XK) (Q : VK) (acc : List D) (r : Res (List D)) : Prop :=
  okG C.g.K C.g.mg (NewR C.g.K W) W1 E Q (r.nox.bind fun ys h2 => if fits (acc ++ ys).length then .ok (.lst (acc ++ ys)) h2 else .bad)
theorem Fin.len {C : Cn} {W W1 : Wd} {E : XK} {Q : VK} {acc : List D} {r : Res (List D)} (o : Fin C W W1 E Q acc r) : acc.length ≤ sizeLine := by
  unfold Fin at o
  cases r with
  | ok ys s =>
    by_cases hz : fits (acc ++ ys).length = true
    · have := of_decide_eq_true hz
      rw [List.length_append] at this
      omega
    · simp only [Res.nox, Res.bind, if_neg hz] at o; exact o.elim
  | exc x s => exact o.elim
  | bad => exact o.elim
theorem Fin.one {C : Cn} {W W1 : Wd} {E : XK} {Q : VK} {acc : List D} {y : D} {r : Res (List D)} {k : List D → HS → Res (List D)} (o : Fin C W W1 E Q acc ((r.nox.bind fun ys h3 => .ok (y :: ys) h3).nox.bind fun ys h => (k [] h).nox.bind fun zs h4 => .ok (ys ++ zs) h4)) :
    Fin C W W1 E Q (acc ++ [y]) (r.nox.bind fun ys h => (k [] h).nox.bind fun zs h4 => .ok (ys ++ zs) h4) := by
  unfold Fin at o ⊢
  cases r with
  | ok ys s =>
    simp only [Res.nox, Res.bind] at o ⊢
    cases ek : k [] s with
    | ok zs s2 =>
      rw [ek] at o
      simp only at o ⊢
      simpa using o
    | exc _ _ => rw [ek] at o; exact o
    | bad => rw [ek] at o; exact o
  | exc x s => exact o
  | bad => exact o
theorem Fin.nil {C : Cn} {W W1 : Wd} {E : XK} {Q : VK} {acc : List D} {r : Res (List D)} (o : Fin C W W1 E Q acc (r.nox.bind fun zs h4 => .ok ([] ++ zs) h4)) : Fin C W W1 E Q acc r := by
  unfold Fin at o ⊢
  cases r with
  | ok ys s => exact o
  | exc x s => exact o
  | bad => exact o
/-- an object that no slot of the frame holds is written -/
theorem Frm.other {K : PySem.W.Frag} {W0 W : Wd} {τ : List Sl} {σ : L2.St} {a : Addr} {o : HO} (f : Frm K W0 W τ σ) (nF : ¬ W.F a) (n : ∀ (i : Nat) (x : Sl), τ[i]? = some x → x.isOwn = true → σ[i]? ≠ some (some (.ref a))) : Frm K W0 (W.put a o) τ σ := by
  have lf := lef_own (W2 := W) (Dd := a) (o := o) nF
  refine ⟨f.len, fun j x e => ?_, f.dis⟩
  have h0 := f.at_ j x e
  have ne' := n j x e
  cases x with
  | un => trivial
  | val d => obtain ⟨v, e, r⟩ := h0; exact ⟨v, e, r.mono lf⟩
  | own zs =>
    obtain ⟨b, vs, e, h, r, w'⟩ := h0
    have hb : b ≠ a := fun z => ne' rfl (by rw [e, z])
    exact ⟨b, vs, e, by rw [← h]; exact upd_ne hb, r.mono lf, w'.nf, w'.nr, w'.new⟩
  | ownK zs =>
    obtain ⟨b, vs, e, h, r, w'⟩ := h0
    have hb : b ≠ a := fun z => ne' rfl (by rw [e, z])
    exact ⟨b, vs, e, by rw [← h]; exact upd_ne hb, r.mono lf, w'.nf, w'.nr, w'.new⟩
  | ownT zs =>
    obtain ⟨b, vs, e, h, r, w'⟩ := h0
    have hb : b ≠ a := fun z => ne' rfl (by rw [e, z])
    exact ⟨b, vs, e, by rw [← h]; exact upd_ne hb, r.mono lf, w'.nf, w'.nr, w'.new⟩
section
variable {C : Cn} {elt tg iter tg1 iter1 : Expr} {ifs ifs1 : List Expr} {scope : Scope} {own : List (Str × Nat)} {pos : Pos} {fi fi1 : DA} {g g1 : GT} {is vs1 : List Nat} {ft ft1 : DT} {fe : DE}
theorem lc2_read {X : Cx} {E : WX} (ok : CxOk C X E) (hi : DenI C tg iter fi) (ho : ∀ i ∈ is, i ∈ own.map (·.2)) (hg : DenGt (C.blk scope) tg is g) (ht : DenTs (C.blk scope) ifs ft)
    (hi1 : DenI (C.blk scope) tg1 iter1 fi1) (hg1 : DenGt (C.blk scope) tg1 vs1 g1) (ht1 : DenTs (C.blk scope) ifs1 ft1) (he : DenE (C.blk scope) elt fe) :
    ∃ (wi wi1 : TI) (gt gt1 : TG) (tt tt1 : TT) (te : TE), PI X tg iter wi ∧ (∀ i, PG (bX X scope i) tg gt) ∧ (∀ i, PTs (bX X scope i) ifs tt) ∧ (∀ i, PI (bX X scope i) tg1 iter1 wi1) ∧ (∀ i, PG (bX X scope i) tg1 gt1) ∧ (∀ i, PTs (bX X scope i) ifs1 tt1) ∧ (∀ i, PE (bX X scope i) elt te) ∧
      ∀ W0 W τ σ h (Q : VK), Le W0 W → Frm C.g.K W0 W τ σ → RH C.g.K W h → okG C.g.K C.g.mg (NewR C.g.K W) W (fun c dd H => E c dd σ H) Q (lcR2 fi (own.map (·.2)) g ft fi1 vs1 g1 ft1 fe τ h) →
        tLc2 wi gt tt wi1 gt1 tt1 te (own.map (·.2)) vs1 σ W.H Q := by
  obtain ⟨wi, pi, qi⟩ := hi X E ok
  have oks : ∀ i : BI, CxOk (C.blk scope) (bX X scope i) (fun _ _ _ _ => False) := fun i => ok.blk scope i.s i.H i.C i.cl i.fp
  obtain ⟨gt, pg, qg⟩ := hg.unif (bX X scope) _ oks
  obtain ⟨tt, pt, qt⟩ := ht.unif (bX X scope) _ oks fun X t t' p k => PTs.anti p k
  obtain ⟨wi1, pi1, qi1⟩ := hi1.unif (bX X scope) _ oks fun X t t' p k => PI.anti p k
  obtain ⟨gt1, pg1, qg1⟩ := hg1.unif (bX X scope) _ oks
  obtain ⟨tt1, pt1, qt1⟩ := ht1.unif (bX X scope) _ oks fun X t t' p k => PTs.anti p k
  obtain ⟨te, pe, qe⟩ := he.unif (bX X scope) _ oks fun X t t' p k => PE.anti p k
  refine ⟨wi, wi1, gt, gt1, tt, tt1, te, pi, pg, pt, pi1, pg1, pt1, pe, fun W0 W τ σ h Q l fr rh o => ?_⟩
  refine qi W0 W τ σ h _ l fr rh (okG.bind o fun items h1 W1 J l1 rh1 wk o1 => ?_)
  intro Dd hD
  let vs := own.map (·.2)
  let τ0 := wipeT τ vs
  let Ex : XK := fun c dd H => E c dd σ H
  let F := fun (acc : List D) (r : Res (List D)) => Fin C W W1 Ex Q acc r
  have o1 : F [] (lcL2 g ft fi1 vs1 g1 ft1 fe τ0 items h1) := by simpa [F, Fin] using o1
  refine ⟨fun i m H => m = items.length - i ∧ i ≤ items.length ∧ ∃ W2 acc h2, W2.H = H ∧ OwnL C.g.K W1 W2 Dd acc h2 ∧ F acc (lcL2 g ft fi1 vs1 g1 ft1 fe τ0 (items.drop i) h2),
    ⟨items.length, by simp, Nat.zero_le _, W1.put Dd (.lst []), [], h1, rfl, ?_, ?_⟩, ?_⟩
  · exact ⟨le_put hD, rh_put hD rh1, ⟨[], upd_same, .nil⟩, fun f => rh1.up _ f hD, fun m => rh1.there m hD⟩
  · rw [List.drop_zero]; exact o1
  rintro i m H ⟨rfl, hi, W2, acc, h2, rfl, w, o2⟩
  by_cases hlt : i < items.length
  · have hdrop : items.drop i = items[i] :: items.drop (i + 1) := List.drop_eq_getElem_cons hlt
    rw [hdrop, lcL2_cons] at o2
    have hit : items[i]? = some items[i] := List.getElem?_eq_getElem hlt
    obtain ⟨hgo, hy⟩ := (wk i W2 w.le.toLeF w.rh.tf).1 _ hit
    refine .inr ⟨hgo, fun H' => ∃ W3 acc h3, W3.H = H' ∧ OwnL C.g.K W1 W3 Dd acc h3 ∧ F acc (lcL2 g ft fi1 vs1 g1 ft1 fe τ0 (items.drop (i + 1)) h3), fun H' hN => ⟨items.length - (i + 1), by omega, rfl, hlt, hN⟩, fun x H' y => ?_⟩
    obtain ⟨W3, rfl, l3, k3, r3⟩ := hy x H' y
    have w3 := w.step l3 (k3 _ w.rh)
    have fr3 : Frm C.g.K W0 W3 τ0 (L2.wipe σ vs) := (fr.mono ((l1.trans w.le).trans l3)).wipe vs
    have le03 : Le W0 W3 := (l.trans (l1.trans w.le)).trans l3
    cases eg : g items[i] τ0 with
    | none => rw [eg] at o2; exact (show False from o2).elim
    | some τ1 =>
      rw [eg] at o2
      refine qg W0 W3 τ0 _ items[i] x τ1 _ fr3 r3 eg fun σ2 fr4 hl2 hs2 ho2 => ⟨?_, ?_⟩
      · rw [wipe_same (σ := L2.wipe σ vs) (σ' := σ2) (vs := vs) hl2 fun j hj => hs2 j fun z => hj (ho j z), wipe_wipe]
      · have o2 : F acc ((ft τ1 h2).nox.bind fun b h1 => if b then (fi1 τ1 h1).nox.bind fun items' h2 => (lcL g1 ft1 fe (wipeT τ1 vs1) items' h2).nox.bind fun ys h3 => (lcL2 g ft fi1 vs1 g1 ft1 fe τ0 (items.drop (i + 1)) h3).nox.bind fun zs h4 => .ok (ys ++ zs) h4
          else lcL2 g ft fi1 vs1 g1 ft1 fe τ0 (items.drop (i + 1)) h1) := o2
        cases et : ft τ1 h2 with
        | exc _ _ => rw [et] at o2; exact (show False from o2).elim
        | bad => rw [et] at o2; exact (show False from o2).elim
        | ok b h4 =>
          refine qt W0 W3 τ1 σ2 h2 _ le03 fr4 w3.rh ?_
          rw [et] at o2 ⊢
          intro W4 b' l4 rh4 hb'
          subst hb'
          have w4 := w3.step l4 rh4
          have fr5 := fr4.mono l4
          have le04 := le03.trans l4
          cases b with
          | false => exact iteF ⟨W4, acc, h4, rfl, w4, o2⟩
          | true =>
            refine iteT ?_
            have o2 : F acc ((fi1 τ1 h4).nox.bind fun items' h2 => (lcL g1 ft1 fe (wipeT τ1 vs1) items' h2).nox.bind fun ys h3 => (lcL2 g ft fi1 vs1 g1 ft1 fe τ0 (items.drop (i + 1)) h3).nox.bind fun zs h4 => .ok (ys ++ zs) h4) := o2
            cases ei : fi1 τ1 h4 with
            | exc _ _ => rw [ei] at o2; exact (show False from o2).elim
            | bad => rw [ei] at o2; exact (show False from o2).elim
            | ok items' h5 =>
              refine qi1 W0 W4 τ1 σ2 h4 _ le04 fr5 rh4 ?_
              rw [ei] at o2 ⊢
              intro W5 J1 l5 rh5 wk1
              have w5 := w4.step l5 rh5
              let K2 := fun (_ : List D) h3 => lcL2 g ft fi1 vs1 g1 ft1 fe τ0 (items.drop (i + 1)) h3
              let τ2 := wipeT τ1 vs1
              have fr6 : Frm C.g.K W0 W5 τ1 σ2 := fr5.mono l5
              refine ⟨fun j k H => k = items'.length - j ∧ j ≤ items'.length ∧ ∃ W6 acc h6, W6.H = H ∧ OwnL C.g.K W1 W6 Dd acc h6 ∧ LeF W5 W6 ∧ Le W0 W6 ∧ Frm C.g.K W0 W6 τ1 σ2 ∧
                F acc ((lcL g1 ft1 fe τ2 (items'.drop j) h6).nox.bind fun ys h3 => (K2 [] h3).nox.bind fun zs h4 => .ok (ys ++ zs) h4), ⟨items'.length, by simp, Nat.zero_le _, W5, acc, h5, rfl, w5, .refl _, le04.trans l5, fr6, ?_⟩, ?_⟩
              · rw [List.drop_zero]; exact o2
              rintro j k H ⟨rfl, hj, W6, acc6, h6, rfl, w6, lf6, le6, fr7, o6⟩
              by_cases hlt1 : j < items'.length
              · have hdrop1 : items'.drop j = items'[j] :: items'.drop (j + 1) := List.drop_eq_getElem_cons hlt1
                rw [hdrop1, lcL_cons] at o6
                have hit1 : items'[j]? = some items'[j] := List.getElem?_eq_getElem hlt1
                obtain ⟨hgo1, hy1⟩ := (wk1 j W6 lf6 w6.rh.tf).1 _ hit1
                refine .inr ⟨hgo1, fun H' => ∃ W7 acc h7, W7.H = H' ∧ OwnL C.g.K W1 W7 Dd acc h7 ∧ LeF W5 W7 ∧ Le W0 W7 ∧ Frm C.g.K W0 W7 τ1 σ2 ∧
                  F acc ((lcL g1 ft1 fe τ2 (items'.drop (j + 1)) h7).nox.bind fun ys h3 => (K2 [] h3).nox.bind fun zs h4 => .ok (ys ++ zs) h4), fun H' hN => ⟨items'.length - (j + 1), by omega, rfl, hlt1, hN⟩, fun x1 H' y1 => ?_⟩
                obtain ⟨W7, rfl, l7, k7, r7⟩ := hy1 x1 H' y1
                have w7 := w6.step l7 (k7 _ w6.rh)
                have fr8 : Frm C.g.K W0 W7 τ2 (L2.wipe σ2 vs1) := (fr7.mono l7).wipe vs1
                have le07 := le6.trans l7
                cases eg1 : g1 items'[j] τ2 with
                | none => rw [eg1] at o6; exact (show False from o6).elim
                | some τ3 =>
                  rw [eg1] at o6
                  refine qg1 W0 W7 τ2 _ items'[j] x1 τ3 _ fr8 r7 eg1 fun σ3 fr9 hl3 hs3 _ => ⟨?_, ?_⟩
                  · rw [wipe_same (σ := L2.wipe σ2 vs1) (σ' := σ3) (vs := vs1) hl3 hs3, wipe_wipe]
                  · have o6 : F acc6 (((ft1 τ3 h6).nox.bind fun b h1 => if b then (fe τ3 h1).nox.bind fun y h2 => (lcL g1 ft1 fe τ2 (items'.drop (j + 1)) h2).nox.bind fun ys h3 => .ok (y :: ys) h3 else lcL g1 ft1 fe τ2 (items'.drop (j + 1)) h1).nox.bind fun ys h3 => (K2 [] h3).nox.bind fun zs h4 => .ok (ys ++ zs) h4) := o6
                    cases et1 : ft1 τ3 h6 with
                    | exc _ _ => rw [et1] at o6; exact (show False from o6).elim
                    | bad => rw [et1] at o6; exact (show False from o6).elim
                    | ok b h8 =>
                      refine qt1 W0 W7 τ3 σ3 h6 _ le07 fr9 w7.rh ?_
                      rw [et1] at o6 ⊢
                      intro W8 b' l8 rh8 hb'
                      subst hb'
                      have w8 := w7.step l8 rh8
                      cases b with
                      | false => exact iteF ⟨W8, acc6, h8, rfl, w8, (lf6.trans l7.toLeF).trans l8.toLeF, le07.trans l8, (fr7.mono l7).mono l8, o6⟩
                      | true =>
                        refine iteT ?_
                        have o6 : F acc6 (((fe τ3 h8).nox.bind fun y h2 => (lcL g1 ft1 fe τ2 (items'.drop (j + 1)) h2).nox.bind fun ys h3 => .ok (y :: ys) h3).nox.bind fun ys h3 => (K2 [] h3).nox.bind fun zs h4 => .ok (ys ++ zs) h4) := o6
                        cases ee : fe τ3 h8 with
                        | exc _ _ => rw [ee] at o6; exact (show False from o6).elim
                        | bad => rw [ee] at o6; exact (show False from o6).elim
                        | ok d h9 =>
                          refine qe W0 W8 τ3 σ3 h8 _ (le07.trans l8) (fr9.mono l8) rh8 ?_
                          rw [ee] at o6 ⊢
                          intro W9 yv l9 rh9 r9
                          have w9 := w8.step l9 rh9
                          obtain ⟨avs, ea, ra⟩ := w9.obj
                          have o7 : F (acc6 ++ [d]) ((lcL g1 ft1 fe τ2 (items'.drop (j + 1)) h9).nox.bind fun ys h3 => (K2 [] h3).nox.bind fun zs h4 => .ok (ys ++ zs) h4) := Fin.one o6
                          have hz := Fin.len o7
                          rw [List.length_append] at hz
                          refine ⟨avs, ea, by rw [← ra.length]; simp at hz; omega, W9.put Dd (.lst (avs ++ [yv])), acc6 ++ [d], h9, rfl, w9.app hD ea r9, ?_, le_own (((le07.trans l8).trans l9)) (by
                            exact (l.trans l1).old rh1 hD) w9.nF, ?_, o7⟩
                          · exact (((lf6.trans l7.toLeF).trans l8.toLeF).trans l9.toLeF).trans (lef_own w9.nF)
                          · refine (((fr7.mono l7).mono l8).mono l9).other w9.nF fun j' x' ej ox => ?_
                            obtain ⟨a1, a2⟩ := ho2 j' x' ej ox
                            rw [a2]
                            exact fun z => SlAt.there ((fr.wipe vs).at_ j' x' a1) ox z (l1.old rh1 hD)
              · have e : j = items'.length := by omega
                subst e
                rw [List.drop_length] at o6
                exact .inl ⟨(wk1 _ W6 lf6 w6.rh.tf).2 rfl, W6, acc6, h6, rfl, w6, Fin.nil o6⟩
  · have e : i = items.length := by omega
    subst e
    rw [List.drop_length] at o2
    obtain ⟨avs, ea, ra⟩ := w.obj
    refine .inl ⟨(wk _ W2 w.le.toLeF w.rh.tf).2 rfl, ?_⟩
    have o3 : okG C.g.K C.g.mg (NewR C.g.K W) W1 Ex Q (if fits (acc ++ []).length then .ok (.lst (acc ++ [])) h2 else .bad) := o2
    rw [List.append_nil] at o3
    by_cases hz : fits acc.length = true
    · rw [if_pos hz] at o3
      exact o3 W2 _ w.le w.rh ⟨Dd, avs, rfl, ea, ra, w.nF, w.nr, l1.old rh1 hD⟩
    · rw [if_neg hz] at o3; exact o3.elim
theorem den_lc2 (hi : DenI C tg iter fi) (hb : blkC C.N C.sc scope own = true) (ho : ∀ i ∈ is, i ∈ own.map (·.2)) (hv : ∀ i ∈ vs1, i ∈ own.map (·.2)) (hg : DenGt (C.blk scope) tg is g) (ht : DenTs (C.blk scope) ifs ft)
    (hi1 : DenI (C.blk scope) tg1 iter1 fi1) (hg1 : DenGt (C.blk scope) tg1 vs1 g1) (ht1 : DenTs (C.blk scope) ifs1 ft1) (he : DenE (C.blk scope) elt fe)
    (hs : ∀ env x, foldedSetIterable iter env x = pure x) (hs1 : ∀ env x, foldedSetIterable iter1 env x = pure x) : DenN C (.ListComp elt [⟨tg, iter, ifs, 0⟩, ⟨tg1, iter1, ifs1, 0⟩] scope pos) (lcR2 fi (own.map (·.2)) g ft fi1 vs1 g1 ft1 fe) := fun X E ok => by
  obtain ⟨wi, wi1, gt, gt1, tt, tt1, te, p1, p2, p3, p4, p5, p6, p7, q⟩ := lc2_read ok hi ho hg ht hi1 hg1 ht1 he
  exact ⟨_, pe_lc2 ok.calm ok.nd p1 (blkOk_by (by rw [ok.names, ok.scope]; exact hb)) hv (fun s H Cd cl fp => p2 ⟨s, H, Cd, cl, fp⟩) (fun s H Cd cl fp => p3 ⟨s, H, Cd, cl, fp⟩) (fun s H Cd cl fp => p4 ⟨s, H, Cd, cl, fp⟩) (fun s H Cd cl fp => p5 ⟨s, H, Cd, cl, fp⟩)
    (fun s H Cd cl fp => p6 ⟨s, H, Cd, cl, fp⟩) (fun s H Cd cl fp => p7 ⟨s, H, Cd, cl, fp⟩) (hs _) hs1, q⟩
end

/-! ### a, b = x, y -/
/-- a value that a name will hold: of its own, or shared by reading -/
def SlNew (K : PySem.W.Frag) (W W' : Wd) : Sl → V → Prop
  | .val d, v => Rep K W' d v
  | .own xs, v => NewR K W W' (.lst xs) v
  | .ownK xs, v => NewR K W W' (.dK xs) v
  | .ownT xs, v => NewR K W W' (.dT xs) v
  | .un, _ => False
def SlsNew (K : PySem.W.Frag) (W W' : Wd) : List Sl → List V → Prop
  | [], vs => vs = []
  | s :: ss, vs => ∃ v r, vs = v :: r ∧ SlNew K W W' s v ∧ SlsNew K W W' ss r ∧ (s.isOwn = true → ∀ (j : Nat) (s' : Sl), ss[j]? = some s' → s'.isOwn = true → r[j]? ≠ some v)
abbrev DenM (C : Cn) (es : List Expr) (f : List Sl → HS → Res (List Sl)) : Prop := DenG C (fun X t => PA X es t) (fun W => SlsNew C.g.K W) f
theorem NewR.mono {K : PySem.W.Frag} {W W1 W2 : Wd} {d : D} {v : V} (l : Le W1 W2) (n : NewR K W W1 d v) : NewR K W W2 d v := by
  cases d with
  | lst xs =>
    obtain ⟨a, vs, h1, h2, h3, h4, h5, h6⟩ := n
    obtain ⟨b1, b2, b3⟩ := l.fo a _ h2 h4 h5
    exact ⟨a, vs, h1, b1, h3.mono l.toLeF, b2, b3, h6⟩
  | dK xs =>
    obtain ⟨a, vs, h1, h2, h3, h4, h5, h6⟩ := n
    obtain ⟨b1, b2, b3⟩ := l.fo a _ h2 h4 h5
    exact ⟨a, vs, h1, b1, h3.mono l.toLeF, b2, b3, h6⟩
  | dT xs =>
    obtain ⟨a, vs, h1, h2, h3, h4, h5, h6⟩ := n
    obtain ⟨b1, b2, b3⟩ := l.fo a _ h2 h4 h5
    exact ⟨a, vs, h1, b1, h3.mono l.toLeF, b2, b3, h6⟩
  | _ => exact n.elim
def valM (a : DE) (r : List Sl → HS → Res (List Sl)) : List Sl → HS → Res (List Sl) := fun τ h => (a τ h).bind fun d h1 => (r τ h1).bind fun ss h2 => .ok (.val d :: ss) h2
def ownM (a : DE) (r : List Sl → HS → Res (List Sl)) : List Sl → HS → Res (List Sl) := fun τ h => (a τ h).bind fun d h1 => match ownSl d with
  | some s => (r τ h1).bind fun ss h2 => .ok (s :: ss) h2
  | none => .bad
section
variable {C : Cn} {e : Expr} {es : List Expr} {fe : DE} {fs : List Sl → HS → Res (List Sl)} {pos : Pos}
theorem den_mnil : DenM C [] (fun _ h => .ok [] h) := fun X E ok => ⟨_, pa_nil, fun W0 W τ σ h Q l fr rh o => okG.now o rh rfl⟩
theorem SlsNew.of {K : PySem.W.Frag} {W W1 W2 : Wd} {h : HS} (l : Le W W1) (rh : RH K W1 h) : ∀ {ss : List Sl} {vs : List V}, SlsNew K W1 W2 ss vs → SlsNew K W W2 ss vs
  | [], _, h => h
  | s :: ss, _, ⟨v, r, e, n, t, d⟩ => ⟨v, r, e, by
      cases s with
      | val d => exact n
      | un => exact n
      | own xs => exact NewR.of (d := .lst xs) l rh n
      | ownK xs => exact NewR.of (d := .dK xs) l rh n
      | ownT xs => exact NewR.of (d := .dT xs) l rh n, SlsNew.of l rh t, d⟩
theorem den_mval (he : DenE C e fe) (hr : DenM C es fs) (hs : ∀ env, starEach (e :: es) env = (false, eval e env) :: starEach es env) : DenM C (e :: es) (valM fe fs) := fun X E ok => by
  obtain ⟨t, p, q⟩ := he X E ok
  obtain ⟨t', p', q'⟩ := hr X E ok
  refine ⟨_, pa_cons p p' (hs _), fun W0 W τ σ h Q l fr rh o => ?_⟩
  refine q W0 W τ σ h _ l fr rh (okG.bind o fun x h1 W1 v l1 rh1 b1 o1 => ?_)
  refine q' W0 W1 τ σ h1 _ (l.trans l1) (fr.mono l1) rh1 ?_
  have o1 : okG C.g.K C.g.mg (SlsNew C.g.K W) W1 (fun c dd H => E c dd σ H) Q ((fs τ h1).bind fun ss h2 => .ok (.val x :: ss) h2) := o1
  cases ef : fs τ h1 with
  | exc _ _ => rw [ef] at o1; exact o1
  | bad => rw [ef] at o1; exact o1
  | ok ss h2 =>
    rw [ef] at o1
    exact fun W2 u l2 rh2 b2 => o1 W2 (v :: u) l2 rh2 ⟨v, u, rfl, b1.mono l2.toLeF, b2.of l1 rh1, fun z => by cases z⟩
theorem SlsNew.own_at {K : PySem.W.Frag} {W W' : Wd} : ∀ {ss : List Sl} {vs : List V} {j : Nat} {s : Sl}, SlsNew K W W' ss vs → ss[j]? = some s → s.isOwn = true → ∃ a, vs[j]? = some (.ref a) ∧ W.H a = none
  | [], _, j, s, _, e, _ => by simp at e
  | s :: ss, _, 0, s', ⟨v, r, rfl, n, t, d⟩, e, o => by
    simp at e
    subst e
    cases s with
    | own xs => obtain ⟨a, vs, rfl, _, _, _, _, h⟩ := n; exact ⟨a, rfl, h⟩
    | ownK xs => obtain ⟨a, vs, rfl, _, _, _, _, h⟩ := n; exact ⟨a, rfl, h⟩
    | ownT xs => obtain ⟨a, vs, rfl, _, _, _, _, h⟩ := n; exact ⟨a, rfl, h⟩
    | _ => cases o
  | s :: ss, _, j + 1, s', ⟨v, r, rfl, n, t, d⟩, e, o => by
    obtain ⟨a, h1, h2⟩ := SlsNew.own_at (j := j) t (by simpa using e) o
    exact ⟨a, by simpa using h1, h2⟩
theorem den_mown (he : DenN C e fe) (hr : DenM C es fs) (hs : ∀ env, starEach (e :: es) env = (false, eval e env) :: starEach es env) : DenM C (e :: es) (ownM fe fs) := fun X E ok => by
  obtain ⟨t, p, q⟩ := he X E ok
  obtain ⟨t', p', q'⟩ := hr X E ok
  refine ⟨_, pa_cons p p' (hs _), fun W0 W τ σ h Q l fr rh o => ?_⟩
  refine q W0 W τ σ h _ l fr rh (okG.bind o fun x h1 W1 v l1 rh1 b1 o1 => ?_)
  refine q' W0 W1 τ σ h1 _ (l.trans l1) (fr.mono l1) rh1 ?_
  cases es' : ownSl x with
  | none => rw [es'] at o1; exact o1.elim
  | some sl =>
    rw [es'] at o1
    have o1 : okG C.g.K C.g.mg (SlsNew C.g.K W) W1 (fun c dd H => E c dd σ H) Q ((fs τ h1).bind fun ss h2 => .ok (sl :: ss) h2) := o1
    cases ef : fs τ h1 with
    | exc _ _ => rw [ef] at o1; exact o1
    | bad => rw [ef] at o1; exact o1
    | ok ss h2 =>
      rw [ef] at o1
      refine fun W2 u l2 rh2 b2 => o1 W2 (v :: u) l2 rh2 ⟨v, u, rfl, ?_, b2.of l1 rh1, fun ho j s' e' o' z => ?_⟩
      · cases x <;> simp only [ownSl, Option.some.injEq, reduceCtorEq] at es' <;> subst es' <;> exact b1.mono l2
      · obtain ⟨a, ha, hn⟩ := b2.own_at e' o'
        rw [z] at ha
        cases ha
        obtain ⟨_, _, a', ea, na⟩ := b1.sl l rh es'
        obtain ⟨k1, k2, _⟩ := b1.sl l rh es'
        exact SlAt.there k2 k1 rfl hn
/-- a slot set, by what the others hold -/
theorem Frm.setG {K : PySem.W.Frag} {W0 W : Wd} {τ : List Sl} {σ : L2.St} (f : Frm K W0 W τ σ) {s : Sl} {v : V} (i : Nat) (hs : SlAt K W0 W s (some (some v)))
    (n : s.isOwn = true → ∀ (j : Nat) (x : Sl), i ≠ j → τ[j]? = some x → x.isOwn = true → σ[j]? ≠ some (some v)) : Frm K W0 W (τ.set i s) (σ.set i (some v)) where
  len := by simp [f.len]
  at_ := fun j x e => by
    by_cases hj : i = j
    · subst hj
      by_cases hi : i < τ.length
      · rw [List.getElem?_set_self hi] at e
        cases e
        rw [List.getElem?_set_self (by rw [← f.len]; exact hi)]
        exact hs
      · rw [List.getElem?_eq_none (by simpa using hi)] at e; cases e
    · rw [List.getElem?_set_ne hj] at e ⊢
      exact f.at_ j x e
  dis := fun p q x y ad ne e1 e2 o1 o2 => by
    have inr : ∀ {x : Sl}, (τ.set i s)[i]? = some x → i < τ.length ∧ x = s := fun {x} e => by
      by_cases hi : i < τ.length
      · rw [List.getElem?_set_self hi] at e; cases e; exact ⟨hi, rfl⟩
      · rw [List.getElem?_eq_none (by simpa using hi)] at e; cases e
    by_cases h1 : i = p
    · subst h1
      obtain ⟨hi, rfl⟩ := inr e1
      have hq : i ≠ q := ne
      rw [List.getElem?_set_self (by rw [← f.len]; exact hi)]
      rw [List.getElem?_set_ne hq] at e2 ⊢
      intro z
      cases z
      exact n o1 q y hq e2 o2
    · rw [List.getElem?_set_ne h1] at e1 ⊢
      by_cases h2 : i = q
      · subst h2
        obtain ⟨hi, rfl⟩ := inr e2
        rw [List.getElem?_set_self (by rw [← f.len]; exact hi)]
        intro z z2
        cases z2
        exact n o2 p x h1 e1 o1 z
      · rw [List.getElem?_set_ne h2] at e2 ⊢
        exact f.dis p q x y ad ne e1 e2 o1 o2
theorem SlNew.at_ {K : PySem.W.Frag} {W0 W W' : Wd} {h : HS} {s : Sl} {v : V} (l : Le W0 W) (rh : RH K W h) (n : SlNew K W W' s v) : SlAt K W0 W' s (some (some v)) := by
  cases s with
  | val d => exact ⟨v, rfl, n⟩
  | un => exact n.elim
  | own xs => obtain ⟨a, vs, rfl, e, r, f, q, o⟩ := n; exact ⟨a, vs, rfl, e, r, f, q, l.old rh o⟩
  | ownK xs => obtain ⟨a, vs, rfl, e, r, f, q, o⟩ := n; exact ⟨a, vs, rfl, e, r, f, q, l.old rh o⟩
  | ownT xs => obtain ⟨a, vs, rfl, e, r, f, q, o⟩ := n; exact ⟨a, vs, rfl, e, r, f, q, l.old rh o⟩
theorem SlNew.no {K : PySem.W.Frag} {W W' : Wd} {s : Sl} {v : V} (n : SlNew K W W' s v) (o : s.isOwn = true) : ∃ a, v = .ref a ∧ W.H a = none := by
  cases s with
  | own xs => obtain ⟨a, vs, rfl, e, r, f, q, o⟩ := n; exact ⟨a, rfl, o⟩
  | ownK xs => obtain ⟨a, vs, rfl, e, r, f, q, o⟩ := n; exact ⟨a, rfl, o⟩
  | ownT xs => obtain ⟨a, vs, rfl, e, r, f, q, o⟩ := n; exact ⟨a, rfl, o⟩
  | _ => cases o
def par2 (i j : Nat) (fa : List Sl → HS → Res (List Sl)) : DS := fun τ h => RS.ofR (fa τ h) τ fun ss h1 => match ss with
  | [s, t] => .nx ((τ.set i s).set j t) h1
  | _ => .bad
def par3 (i j k : Nat) (fa : List Sl → HS → Res (List Sl)) : DS := fun τ h => RS.ofR (fa τ h) τ fun ss h1 => match ss with
  | [s, t, u] => .nx (((τ.set i s).set j t).set k u) h1
  | _ => .bad
variable {a b c : Expr} {x y z : Str} {i j k : Nat} {px py pz pt pt2 : Pos} {kt k2 : Nat}
theorem den_par2 (hi : C.N[i]? = some x) (hj : C.N[j]? = some y) (hij : i ≠ j) (hx : C.sc.names.lookup x = some .local) (hy : C.sc.names.lookup y = some .local) (ha : DenM C [a, b] fs)
    (hw : ∀ env, env.scope = C.sc → swappedStores [.Tuple [.Name x px, .Name y py] kt pt] (.Tuple [a, b] k2 pt2) env = pure (some [x, y]))
    (hs : ∀ env, swapsWithSole [.Tuple [.Name x px, .Name y py] kt pt] (.Tuple [a, b] k2 pt2) pos.line env = pure false) :
    DenS C (.Assign [.Tuple [.Name x px, .Name y py] kt pt] (.Tuple [a, b] k2 pt2) pos) (par2 i j fs) := fun X E ok => by
  obtain ⟨t, p, q⟩ := ha X E ok
  refine ⟨_, ps_par ok.calm ok.nd (by rw [ok.names]; exact hi) (by rw [ok.names]; exact hj) hij (by rw [ok.scope]; exact hx) (by rw [ok.scope]; exact hy) p (hw _ ok.scope) (hs _), fun W0 W τ σ h D l fr rh o => ?_⟩
  refine q W0 W τ σ h _ l fr rh (okS.ex l o fun ss s1 W1 vs l1 rh1 n o1 => ?_)
  match ss with
  | [] => exact o1.elim
  | [_] => exact o1.elim
  | _ :: _ :: _ :: _ => exact o1.elim
  | [s, t] =>
    obtain ⟨v, r1, rfl, n1, n', d⟩ := n
    obtain ⟨u, r2, rfl, n2, e3, _⟩ := n'
    cases (show r2 = [] from e3)
    refine ⟨v, u, rfl, ?_⟩
    refine o1 W1 _ (l.trans l1) (.refl _) (((fr.mono l1).setG i (n1.at_ l rh) fun ho j' x' _ e' o' z => ?_).setG j (n2.at_ l rh) fun ho j' x' hj' e' o' z => ?_) rh1
    · obtain ⟨a, rfl, na⟩ := n1.no ho
      exact SlAt.there (fr.at_ j' x' e') o' z na
    · obtain ⟨a, rfl, na⟩ := n2.no ho
      by_cases hi' : i = j'
      · subst hi'
        by_cases hl : i < τ.length
        · rw [List.getElem?_set_self hl] at e'
          cases e'
          rw [List.getElem?_set_self (by rw [← fr.len]; exact hl)] at z
          cases z
          exact d o' 0 t rfl ho rfl
        · rw [List.getElem?_eq_none (by simpa using hl)] at e'; cases e'
      · rw [List.getElem?_set_ne hi'] at e' z
        exact SlAt.there (fr.at_ j' x' e') o' z na
end
end Sw

/-! Sw, part K: what reads no shared list; tuples in sum, max, min; isinstance. -/
namespace Sw
open PySem PySem.Spec PyProof.Rows L2

/-! ### what reads no shared list: the shared lists set aside -/
mutual
def D.noRef : D → Bool
  | .tup xs => noRefs xs
  | .lst xs => noRefs xs
  | .frl xs => noRefs xs
  | .dK kvs => noRefK kvs
  | .dT kvs => noRefT kvs
  | .ref _ => false
  | _ => true
def noRefs : List D → Bool
  | [] => true
  | x :: xs => x.noRef && noRefs xs
def noRefK : List (Key × D) → Bool
  | [] => true
  | (_, x) :: xs => x.noRef && noRefK xs
def noRefT : List (List Key × D) → Bool
  | [] => true
  | (_, x) :: xs => x.noRef && noRefT xs
end
section
variable {K : PySem.W.Frag} {W W' : Wd}
mutual
theorem Rep.aside (hF : W'.F = W.F) (hH : W'.H = W.H) : ∀ (d : D) (v : V), d.noRef = true → Rep K W d v → Rep K W' d v
  | .non, v, n, h => by simpa [Rep] using h
  | .bl b, v, n, h => by simpa [Rep] using h
  | .int i, v, n, h => by simpa [Rep] using h
  | .str s, v, n, h => by simpa [Rep] using h
  | .tup xs, v, n, h => by
    rw [Rep] at h ⊢
    rw [D.noRef] at n
    obtain ⟨a, vs, e, t, r⟩ := h
    exact ⟨a, vs, e, by unfold TupAt at t ⊢; rw [hF, hH]; exact t, Reps.aside hF hH xs vs n r⟩
  | .lst xs, v, n, h => by
    rw [Rep] at h ⊢
    rw [D.noRef] at n
    obtain ⟨a, vs, e, t, r⟩ := h
    exact ⟨a, vs, e, by unfold LstAt at t ⊢; rw [hF, hH]; exact t, Reps.aside hF hH xs vs n r⟩
  | .frl xs, v, n, h => by
    rw [Rep] at h ⊢
    rw [D.noRef] at n
    obtain ⟨a, vs, e, t, r⟩ := h
    exact ⟨a, vs, e, by unfold FrlAt at t ⊢; rw [hF, hH]; exact t, Reps.aside hF hH xs vs n r⟩
  | .dK kvs, v, n, h => by
    rw [Rep] at h ⊢
    rw [D.noRef] at n
    obtain ⟨a, ws, e, f, t, r⟩ := h
    exact ⟨a, ws, e, by rw [hF]; exact f, by rw [hH]; exact t, RepK.aside hF hH kvs ws n r⟩
  | .dT kvs, v, n, h => by
    rw [Rep] at h ⊢
    rw [D.noRef] at n
    obtain ⟨a, ws, e, f, t, r⟩ := h
    exact ⟨a, ws, e, by rw [hF]; exact f, by rw [hH]; exact t, RepT.aside hF hH kvs ws n r⟩
  | .ref k, v, n, h => by rw [D.noRef] at n; cases n
theorem Reps.aside (hF : W'.F = W.F) (hH : W'.H = W.H) : ∀ (ds : List D) (vs : List V), noRefs ds = true → Reps K W ds vs → Reps K W' ds vs
  | [], vs, n, h => by simpa [Reps] using h
  | x :: xs, vs, n, h => by
    rw [Reps] at h ⊢
    rw [noRefs, Bool.and_eq_true] at n
    obtain ⟨v, r, e, h1, h2⟩ := h
    exact ⟨v, r, e, Rep.aside hF hH x v n.1 h1, Reps.aside hF hH xs r n.2 h2⟩
theorem RepK.aside (hF : W'.F = W.F) (hH : W'.H = W.H) : ∀ (ds : List (Key × D)) (vs : List (Key × V)), noRefK ds = true → RepK K W ds vs → RepK K W' ds vs
  | [], vs, n, h => by simpa [RepK] using h
  | (k, x) :: xs, vs, n, h => by
    rw [RepK] at h ⊢
    rw [noRefK, Bool.and_eq_true] at n
    obtain ⟨v, r, e, h1, h2⟩ := h
    exact ⟨v, r, e, Rep.aside hF hH x v n.1 h1, RepK.aside hF hH xs r n.2 h2⟩
theorem RepT.aside (hF : W'.F = W.F) (hH : W'.H = W.H) : ∀ (ds : List (List Key × D)) (vs : List (List Key × V)), noRefT ds = true → RepT K W ds vs → RepT K W' ds vs
  | [], vs, n, h => by simpa [RepT] using h
  | (k, x) :: xs, vs, n, h => by
    rw [RepT] at h ⊢
    rw [noRefT, Bool.and_eq_true] at n
    obtain ⟨v, r, e, h1, h2⟩ := h
    exact ⟨v, r, e, Rep.aside hF hH x v n.1 h1, RepT.aside hF hH xs r n.2 h2⟩
end
/-- the world without its shared lists -/
def Wd.lone (W : Wd) : Wd := { W with ρ := [] }
/-- .. and a later one with them -/
def Wd.with_ (W1 W : Wd) : Wd := { W1 with ρ := W.ρ }
theorem rh_lone {h : HS} (rh : RH K W h) : RH K W.lone [] := ⟨rfl, List.nodup_nil, fun n xs a e => by simp at e, fun a m => (List.not_mem_nil m).elim, rh.up, rh.tf⟩
theorem Le.lone {W W1 : Wd} (l : Le W.lone W1) : Le W (W1.with_ W) :=
  ⟨⟨l.fr, l.st, l.sl, List.prefix_refl _⟩, fun a o h1 h2 h3 => by
    obtain ⟨b1, b2, _⟩ := l.fo a o h1 h2 (List.not_mem_nil)
    exact ⟨b1, b2, h3⟩⟩
theorem LeF.with_ {W W1 : Wd} (e : W1.ρ = []) : LeF W1 (W1.with_ W) := ⟨fun _ h => h, fun _ _ _ h => h, fun _ _ _ _ h => h, by rw [e]; exact List.nil_prefix⟩
theorem rh_with {W W1 : Wd} {h : HS} (rh : RH K W h) (l : Le W.lone W1) (rh1 : RH K W1 []) : RH K (W1.with_ W) h :=
  ⟨rh.len, rh.nd, fun n xs a e1 e2 => by
    obtain ⟨vs, h1, h2⟩ := rh.at_ n xs a e1 e2
    obtain ⟨b1, b2, _⟩ := l.fo a _ h1 (rh.nf a (List.mem_of_getElem? e2)) (List.not_mem_nil)
    exact ⟨vs, b1, h2.mono l.lone.toLeF⟩, fun a m => by
    obtain ⟨n, e2⟩ := List.getElem?_of_mem m
    have hn : n < h.length := by rw [← rh.len]; exact (List.getElem?_eq_some_iff.mp e2).1
    obtain ⟨vs, h1, h2⟩ := rh.at_ n h[n] a (List.getElem?_eq_getElem hn) e2
    exact (l.fo a _ h1 (rh.nf a m) (List.not_mem_nil)).2.1, rh1.up, rh1.tf⟩
theorem rho_nil {W1 : Wd} (rh1 : RH K W1 []) : W1.ρ = [] := List.eq_nil_of_length_eq_zero rh1.len
theorem ExR.with_ {mg : Str → Option Value} {W W1 : Wd} (e : W1.ρ = []) {x : Ex} {c : Value} {dd : Option Addr} (h : ExR K mg W1 x c dd) : ExR K mg (W1.with_ W) x c dd := by
  obtain ⟨h1, h2⟩ := h
  refine ⟨h1, ?_⟩
  cases k : x.kept with
  | none => rw [k] at h2; exact h2
  | some p =>
    rw [k] at h2
    obtain ⟨v, a, e1, e2, e3⟩ := h2
    exact ⟨v, a, e1, e2, e3.mono (.with_ e)⟩
end
def pureR (r : Res D) (h : HS) : Res D := match r with
  | .ok d [] => .ok d h
  | .exc x [] => .exc x h
  | _ => .bad
/-- φ of arguments that hold no shared list, and without the shared lists -/
def pureF (φ : DF) : DF := fun ds h => if noRefs ds = true then pureR (φ ds []) h else .bad
theorem okG.pure {K : PySem.W.Frag} {mg : Str → Option Value} {W : Wd} {E : XK} {Q : V → Hp → Prop} {r : Res D} {h : HS} (rh : RH K W h) (o : okG K mg (Rep K) W E Q (pureR r h)) : okG K mg (Rep K) W.lone E Q r := by
  unfold pureR at o
  split at o
  · exact fun W1 b l rh1 re => o (W1.with_ W) b l.lone (rh_with rh l rh1) (re.mono (.with_ (rho_nil rh1)))
  · exact fun W1 c dd l rh1 re => o (W1.with_ W) c dd l.lone (rh_with rh l rh1) (re.with_ (rho_nil rh1))
  · exact o.elim
theorem FnD.pure {g : Gx} {x : Str} {n k : Nat} {φ : DF} (F : FnD g x n k φ) : FnD g x n k (pureF φ) := by
  obtain ⟨f, fd, ps, F, m, kp, b⟩ := F
  refine ⟨f, fd, ps, ?_, m, kp, b⟩
  refine F.imp ?_
  intro vs H Q E hs
  obtain ⟨hl, W, ds, h, rfl, rh, r, o⟩ := hs
  unfold pureF at o
  split at o
  · rename_i hn
    exact ⟨hl, W.lone, ds, [], rfl, rh_lone rh, Reps.aside (W := W) (W' := W.lone) rfl rfl ds vs hn r, okG.pure rh o⟩
  · exact o.elim
/-- a frame without what is shared or its own -/
def Sl.hide : Sl → Sl
  | .val d => if d.noRef = true then .val d else .un
  | _ => .un
/-- the rest of a suite that ends in a return, without the shared lists -/
def pureS (f : DS) : DS := fun τ h => match f (τ.map Sl.hide) [] with
  | .rt d [] => .rt d h
  | .exc x [] => .exc x h
  | _ => .bad
theorem Frm.hide {K : PySem.W.Frag} {W0 W : Wd} {τ : List Sl} {σ : L2.St} (f : Frm K W0 W τ σ) : Frm K W.lone W.lone (τ.map Sl.hide) σ := by
  have key : ∀ {i : Nat} {x : Sl}, (τ.map Sl.hide)[i]? = some x → SlAt K W.lone W.lone x σ[i]? ∧ x.isOwn = false := fun {i x} e => by
    rw [List.getElem?_map] at e
    obtain ⟨y, e1, rfl⟩ := Option.map_eq_some_iff.mp e
    have h := f.at_ i y e1
    cases y with
    | val d =>
      by_cases hd : d.noRef = true
      · obtain ⟨v, e, r⟩ := h
        have : (Sl.val d).hide = .val d := by simp only [Sl.hide, hd, if_true]
        rw [this]
        exact ⟨⟨v, e, Rep.aside (W := W) (W' := W.lone) rfl rfl d v hd r⟩, rfl⟩
      · have : (Sl.val d).hide = .un := by simp only [Sl.hide, hd]; rfl
        rw [this]
        exact ⟨trivial, rfl⟩
    | un => exact ⟨trivial, rfl⟩
    | own xs => exact ⟨trivial, rfl⟩
    | ownK xs => exact ⟨trivial, rfl⟩
    | ownT xs => exact ⟨trivial, rfl⟩
  exact ⟨by simp [f.len], fun i x e => (key e).1, fun i j x y a ne e1 e2 o1 o2 => by rw [(key e1).2] at o1; cases o1⟩
theorem den_pure {C : Cn} {st : List Stmt} {f : DS} (hf : DenSs C st f) : DenSs C st (pureS f) := fun X E ok => by
  obtain ⟨t, p, q⟩ := hf X E ok
  refine ⟨_, p, fun W0 W τ σ h D l fr rh o => ?_⟩
  refine q W.lone W.lone _ σ [] D (.refl _) fr.hide (rh_lone rh) ?_
  have o : okS C W0 W E D (match f (τ.map Sl.hide) [] with | .rt d [] => .rt d h | .exc x [] => .exc x h | _ => .bad) := o
  split at o
  · rename_i d e
    rw [e]
    exact fun W1 v l0 l1 rh1 re => o (W1.with_ W) v (l.trans l0.lone) l0.lone.toLeF (rh_with rh l0 rh1) (re.mono (.with_ (rho_nil rh1)))
  · rename_i x e
    rw [e]
    exact fun W1 c dd σ' l0 l1 rh1 re => o (W1.with_ W) c dd σ' (l.trans l0.lone) l0.lone.toLeF (rh_with rh l0 rh1) (re.with_ (rho_nil rh1))
  · exact o.elim

/-! ### tuples of ints: sum, max, min -/
section
variable {X : Cx}
def rSumT (K : PySem.W.Frag) : List V → Hp → VK → Prop := fun vs H Q => ∃ (a : Addr) (ns : List Int), vs = [V.ref a] ∧ SqT K H a (ns.map V.int) ∧ Q (.int ns.sum) H
theorem cr_sumT (hc : X.calm = true) : CallR X (.builtin "sum") (rSumT X.K) := by
  intro pins s σ H vs us Q I r h
  obtain ⟨a, ns, rfl, hs, q⟩ := h
  obtain ⟨its, rv, hl, _⟩ := I.tuple hs
  rw [Vals.ref1 r]
  obtain ⟨xs, hx⟩ := rv.ints.allInts.items
  have hn : numsOf its.toArray.toList = ns := rv.ints.numsOf
  rw [hx] at hl hn
  rw [nums_intItems] at hn
  refine PySem.W.ktm_sumG (I.ok.hd hc) hl fun h' tk t' hk => ?_
  rw [preSum_eq, List.take_of_length_le (by simp), hn]
  exact ⟨.int _, H, I.kept hk, ⟨_, rfl⟩, q⟩
theorem dp_ints {K : PySem.W.Frag} {H : Hp} : ∀ ns : List Int, DpAll K H (ns.map V.int) (ns.map PyData.int)
  | [] => .nil
  | n :: ns => .cons (.int n) (dp_ints ns)
theorem alike_ints (ns : List Int) : PySem.W.AlikeAll (ns.map PyData.int) :=
  ⟨fun x hx y hy => by
    obtain ⟨_, _, rfl⟩ := List.mem_map.mp hx
    obtain ⟨_, _, rfl⟩ := List.mem_map.mp hy
    rfl, fun x hx => by
    obtain ⟨_, _, rfl⟩ := List.mem_map.mp hx
    exact fun z => nomatch z⟩
theorem depth_ints : ∀ ns : List Int, PyData.depthAll (ns.map PyData.int) = 0
  | [] => rfl
  | n :: ns => by
    show max 0 (PyData.depthAll (ns.map PyData.int)) = 0
    rw [depth_ints ns]
    rfl
def rMaxT (K : PySem.W.Frag) : List V → Hp → VK → Prop := fun vs H Q => ∃ (a : Addr) (n : Int) (ns : List Int), vs = [V.ref a] ∧ SqT K H a ((n :: ns).map V.int) ∧ Q (.int (ns.foldl max n)) H
theorem cr_maxT (hc : X.calm = true) (hu : X.A.units + 64 < cLine) : CallR X (.builtin "max") (rMaxT X.K) := by
  intro pins s σ H vs us Q I r h
  obtain ⟨a, n, ns, rfl, hs, q⟩ := h
  obtain ⟨its, rv, hl, _⟩ := I.tuple hs
  rw [Vals.ref1 r]
  obtain ⟨as, ra⟩ := Dp.readsAll I ((n :: ns).map PyData.int) _ its (dp_ints _) rv
  refine PySem.W.max_tuple_data (I.ok.hd hc) hl ra (alike_ints (n :: ns)) (by have := depth_ints (n :: ns); simp only [List.map_cons] at this; rw [this]; omega) fun i v h' tk bs e rd hk => ?_
  rw [PySem.W.maxD_ints] at rd
  cases rd
  exact ⟨.int _, H, I.kept hk, ⟨_, rfl⟩, q⟩
def rMinT (K : PySem.W.Frag) : List V → Hp → VK → Prop := fun vs H Q => ∃ (a : Addr) (n : Int) (ns : List Int), vs = [V.ref a] ∧ SqT K H a ((n :: ns).map V.int) ∧ Q (.int (ns.foldl min n)) H
theorem cr_minT (hc : X.calm = true) (hu : X.A.units + 64 < cLine) : CallR X (.builtin "min") (rMinT X.K) := by
  intro pins s σ H vs us Q I r h
  obtain ⟨a, n, ns, rfl, hs, q⟩ := h
  obtain ⟨its, rv, hl, _⟩ := I.tuple hs
  rw [Vals.ref1 r]
  obtain ⟨as, ra⟩ := Dp.readsAll I ((n :: ns).map PyData.int) _ its (dp_ints _) rv
  refine PySem.W.min_tuple_data (I.ok.hd hc) hl ra (alike_ints (n :: ns)) (by have := depth_ints (n :: ns); simp only [List.map_cons] at this; rw [this]; omega) fun i v h' tk bs e rd hk => ?_
  rw [PySem.W.minD_ints] at rd
  cases rd
  exact ⟨.int _, H, I.kept hk, ⟨_, rfl⟩, q⟩
def rMaxL (K : PySem.W.Frag) : List V → Hp → VK → Prop := fun vs H Q => ∃ (a : Addr) (n : Int) (ns : List Int), vs = [V.ref a] ∧ SqL K H a ((n :: ns).map V.int) ∧ Q (.int (ns.foldl max n)) H
theorem cr_maxL (hc : X.calm = true) (hu : X.A.units + 64 < cLine) : CallR X (.builtin "max") (rMaxL X.K) := by
  intro pins s σ H vs us Q I r h
  obtain ⟨a, n, ns, rfl, hs, q⟩ := h
  obtain ⟨its, rv, hl, _⟩ := I.list hs
  rw [Vals.ref1 r]
  obtain ⟨as, ra⟩ := Dp.readsAll I ((n :: ns).map PyData.int) _ its (dp_ints _) rv
  refine PySem.W.max_list_data (I.ok.hd hc) hl.isList ra (alike_ints (n :: ns)) (by have := depth_ints (n :: ns); simp only [List.map_cons] at this; rw [this]; omega) fun i v h' tk bs e rd hk => ?_
  rw [PySem.W.maxD_ints] at rd
  cases rd
  exact ⟨.int _, H, I.kept hk, ⟨_, rfl⟩, q⟩
def rMinL (K : PySem.W.Frag) : List V → Hp → VK → Prop := fun vs H Q => ∃ (a : Addr) (n : Int) (ns : List Int), vs = [V.ref a] ∧ SqL K H a ((n :: ns).map V.int) ∧ Q (.int (ns.foldl min n)) H
theorem cr_minL (hc : X.calm = true) (hu : X.A.units + 64 < cLine) : CallR X (.builtin "min") (rMinL X.K) := by
  intro pins s σ H vs us Q I r h
  obtain ⟨a, n, ns, rfl, hs, q⟩ := h
  obtain ⟨its, rv, hl, _⟩ := I.list hs
  rw [Vals.ref1 r]
  obtain ⟨as, ra⟩ := Dp.readsAll I ((n :: ns).map PyData.int) _ its (dp_ints _) rv
  refine PySem.W.min_list_data (I.ok.hd hc) hl.isList ra (alike_ints (n :: ns)) (by have := depth_ints (n :: ns); simp only [List.map_cons] at this; rw [this]; omega) fun i v h' tk bs e rd hk => ?_
  rw [PySem.W.minD_ints] at rd
  cases rd
  exact ⟨.int _, H, I.kept hk, ⟨_, rfl⟩, q⟩
end
section
variable {C : Cn}
def seqOf : D → Option (List D)
  | .tup xs => some xs
  | .lst xs => some xs
  | .frl xs => some xs
  | _ => none
def sumTG : List D → Option D
  | [.tup xs] => (intsD xs).map fun is => .int is.sum
  | _ => none
theorem c_sumT : CalD C (.builtin "sum") sumTG := fun X E ok => ⟨_, cr_sumT ok.calm, fun W h ds vs d Q rh b e k => by
  unfold sumTG at e
  split at e
  · obtain ⟨v, rfl, b1⟩ := BorsAll.one b
    obtain ⟨a, us, rfl, sq, r, _⟩ := b1.tup
    obtain ⟨is, q, rfl⟩ := Option.map_eq_some_iff.mp e
    rw [ints_reps r q] at sq
    exact ⟨a, is, rfl, by rw [ok.K]; exact sq, k W _ (.refl _) rh rep_int⟩
  · cases e⟩
theorem c_sums : CalD C (.builtin "sum") (fun x => (sumG x).or (sumTG x)) := c_sum.or c_sumT
def foldI (f : Int → Int → Int) : List Int → Option D
  | [] => none
  | n :: ns => some (.int (ns.foldl f n))
def mxTG (f : Int → Int → Int) : List D → Option D
  | [.tup xs] => (intsD xs).bind (foldI f)
  | _ => none
def mxLG (f : Int → Int → Int) : List D → Option D
  | [.lst xs] => (intsD xs).bind (foldI f)
  | [.frl xs] => (intsD xs).bind (foldI f)
  | _ => none
theorem fold_some {f : Int → Int → Int} {xs : List D} {d : D} (h : (intsD xs).bind (foldI f) = some d) : ∃ n ns, intsD xs = some (n :: ns) ∧ d = .int (ns.foldl f n) := by
  cases q : intsD xs with
  | none => rw [q] at h; cases h
  | some is =>
    rw [q] at h
    cases is with
    | nil => cases h
    | cons n ns => cases h; exact ⟨n, ns, rfl, rfl⟩
theorem c_maxT : CalD C (.builtin "max") (mxTG max) := fun X E ok => ⟨_, cr_maxT ok.calm ok.room.units, fun W h ds vs d Q rh b e k => by
  unfold mxTG at e
  split at e
  · obtain ⟨v, rfl, b1⟩ := BorsAll.one b
    obtain ⟨a, us, rfl, sq, r, _⟩ := b1.tup
    obtain ⟨n, ns, q, rfl⟩ := fold_some e
    rw [ints_reps r q] at sq
    exact ⟨a, n, ns, rfl, by rw [ok.K]; exact sq, k W _ (.refl _) rh rep_int⟩
  · cases e⟩
theorem c_minT : CalD C (.builtin "min") (mxTG min) := fun X E ok => ⟨_, cr_minT ok.calm ok.room.units, fun W h ds vs d Q rh b e k => by
  unfold mxTG at e
  split at e
  · obtain ⟨v, rfl, b1⟩ := BorsAll.one b
    obtain ⟨a, us, rfl, sq, r, _⟩ := b1.tup
    obtain ⟨n, ns, q, rfl⟩ := fold_some e
    rw [ints_reps r q] at sq
    exact ⟨a, n, ns, rfl, by rw [ok.K]; exact sq, k W _ (.refl _) rh rep_int⟩
  · cases e⟩
theorem c_maxL : CalD C (.builtin "max") (mxLG max) := fun X E ok => ⟨_, cr_maxL ok.calm ok.room.units, fun W h ds vs d Q rh b e k => by
  unfold mxLG at e
  split at e
  · obtain ⟨v, rfl, b1⟩ := BorsAll.one b
    obtain ⟨a, us, rfl, sq, r⟩ := b1.lst
    obtain ⟨n, ns, q, rfl⟩ := fold_some e
    rw [ints_reps r q] at sq
    exact ⟨a, n, ns, rfl, .of sq, k W _ (.refl _) rh rep_int⟩
  · obtain ⟨v, rfl, b1⟩ := BorsAll.one b
    obtain ⟨a, us, rfl, sq, r⟩ := b1.frl
    obtain ⟨n, ns, q, rfl⟩ := fold_some e
    rw [ints_reps r q] at sq
    exact ⟨a, n, ns, rfl, by rw [ok.K]; exact sq, k W _ (.refl _) rh rep_int⟩
  · cases e⟩
theorem c_minL : CalD C (.builtin "min") (mxLG min) := fun X E ok => ⟨_, cr_minL ok.calm ok.room.units, fun W h ds vs d Q rh b e k => by
  unfold mxLG at e
  split at e
  · obtain ⟨v, rfl, b1⟩ := BorsAll.one b
    obtain ⟨a, us, rfl, sq, r⟩ := b1.lst
    obtain ⟨n, ns, q, rfl⟩ := fold_some e
    rw [ints_reps r q] at sq
    exact ⟨a, n, ns, rfl, .of sq, k W _ (.refl _) rh rep_int⟩
  · obtain ⟨v, rfl, b1⟩ := BorsAll.one b
    obtain ⟨a, us, rfl, sq, r⟩ := b1.frl
    obtain ⟨n, ns, q, rfl⟩ := fold_some e
    rw [ints_reps r q] at sq
    exact ⟨a, n, ns, rfl, by rw [ok.K]; exact sq, k W _ (.refl _) rh rep_int⟩
  · cases e⟩
theorem c_maxs : CalD C (.builtin "max") (fun x => (maxG x).or ((mxTG max x).or (mxLG max x))) := c_max.or (c_maxT.or c_maxL)
theorem c_mins : CalD C (.builtin "min") (fun x => (minG x).or ((mxTG min x).or (mxLG min x))) := c_min.or (c_minT.or c_minL)

/-! ### isinstance(x, T), T a built-in type told by its name -/
def tyD : D → Option String
  | .non => some "NoneType"
  | .bl _ => some "bool"
  | .int _ => some "int"
  | .str _ => some "str"
  | .tup _ => some "tuple"
  | .lst _ => some "list"
  | .frl _ => some "list"
  | .dK _ => some "dict"
  | .dT _ => none
  | .ref _ => none
def isiT (t T : String) : Option Bool :=
  if t = "bool" then (if T = "int" ∨ T = "bool" then some true else if T ∈ ["str", "tuple", "list", "dict"] then some false else none)
  else if t ∈ ["NoneType", "int", "str", "tuple", "list", "dict"] ∧ T ∈ ["bool", "int", "str", "tuple", "list", "dict"] then some (t == T) else none
def isiR (T : String) (a : DE) : DE := fun τ h => (a τ h).bind fun d h1 => match (tyD d).bind (isiT · T) with
  | some b => .ok (.bl b) h1
  | none => .bad
theorem isiT_kit : ∀ t ∈ ["NoneType", "bool", "int", "str", "tuple", "list", "dict"], ∀ T ∈ ["bool", "int", "str", "tuple", "list", "dict"], kitB t T = isiT t T := by decide +kernel
theorem tyD_mem {d : D} {t : String} (h : tyD d = some t) : t ∈ ["NoneType", "bool", "int", "str", "tuple", "list", "dict"] := by
  cases d <;> simp [tyD] at h <;> subst h <;> decide
theorem isiT_mem {t T : String} {b : Bool} (h : isiT t T = some b) : T ∈ ["bool", "int", "str", "tuple", "list", "dict"] := by
  unfold isiT at h
  split at h
  · split at h
    · rename_i q; rcases q with rfl | rfl <;> decide
    · split at h
      · rename_i q; simp only [List.mem_cons] at q ⊢; rcases q with q | q | q | q | q <;> simp_all
      · cases h
  · split at h
    · rename_i q; exact q.2
    · cases h
theorem tyx {K : PySem.W.Frag} {W : Wd} {d : D} {v : V} {t : String} (b : Bor K W d v) (h : tyD d = some t) : TyX K W.H v (.type t) := by
  cases d with
  | non => cases h; rw [b.non]; exact .base .non
  | bl i => cases h; rw [b.bl]; exact .base (.bl _)
  | int i => cases h; rw [b.int]; exact .base (.int _)
  | str i => cases h; rw [b.str]; exact .base (.str _)
  | tup xs =>
    cases h
    obtain ⟨a, vs, rfl, sq, _⟩ := b.tup
    rcases sq with (q | ⟨o, q⟩) | ⟨o, its, n, q, c, _⟩
    · exact .base (.tup q)
    · exact .fTuple q
    · exact .kTuple q c
  | lst xs =>
    cases h
    obtain ⟨a, vs, rfl, q, _⟩ := b.lst
    exact .base (.lst q)
  | frl xs =>
    cases h
    obtain ⟨a, vs, rfl, sq, _⟩ := b.frl
    rcases sq with (q | ⟨o, q⟩) | ⟨o, its, n, q, c, _⟩
    · exact .base (.lst q)
    · exact .base (.frz q)
    · exact .kList q c
  | dK xs =>
    cases h
    obtain ⟨a, vs, rfl, sq, _⟩ := b.dK
    rcases sq with q | ⟨o, q⟩
    · exact .base (.dK q)
    · exact .fDict q
  | dT xs => cases h
  | ref n => cases h
theorem den_isi {a : Expr} {fa : DE} {T : Str} {Tn : String} {p pT pos : Pos} (hg : glB C.sc "isinstance" = true) (hm : C.g.mg "isinstance" = none) (hgT : glB C.sc T = true) (hmT : C.g.mg T = none) (hv : bootBuiltins T = some (.type Tn)) (ha : DenB C a fa)
    (he : ∀ env, starEach [a, .Name T pT] env = (false, eval a env) :: starEach [.Name T pT] env) (hs : ∀ env, starEach [.Name T pT] env = [(false, eval (.Name T pT) env)])
    (hpl : ∀ env, (backTo pos (starEach [.Name T pT] env)).any (·.1) = false) : DenE C (.Call (.Name "isinstance" p) [a, .Name T pT] [] pos) (isiR Tn fa) := fun X E ok => by
  obtain ⟨t, pa, q⟩ := ha X E ok
  obtain ⟨g1, g2, g3⟩ := glB_ok ok hg
  obtain ⟨k1, k2, k3⟩ := glB_ok ok hgT
  have pT' : PE X (.Name T pT) (tC (.ty Tn)) := pe_bltn k1 (by rw [ok.mg]; exact hmT) hv rfl k3 k2
  have pas : PA X [a, .Name T pT] _ := pa_cons pa (pa_cons pT' pa_nil (hs _)) (he _)
  refine ⟨_, pe_callB call_isi g1 (by rw [ok.mg]; exact hm) rfl pas g3 g2 (he _) (hpl _), fun W0 W τ σ h Q l fr rh o => ?_⟩
  refine q W0 W τ σ h _ l fr rh (okG.bind o fun d h1 W1 v l1 rh1 b1 o1 => ?_)
  cases e1 : tyD d with
  | none => rw [e1] at o1; exact o1.elim
  | some t =>
    rw [e1] at o1
    have o1 : okG C.g.K C.g.mg (Rep C.g.K) W1 (fun c dd H => E c dd σ H) Q (match isiT t Tn with | some b => Res.ok (D.bl b) h1 | none => .bad) := o1
    cases e2 : isiT t Tn with
    | none => rw [e2] at o1; exact o1.elim
    | some b =>
      rw [e2] at o1
      exact ⟨v, .ty Tn, .type t, .type Tn, b, rfl, .ty Tn, by rw [ok.K]; exact tyx b1 e1, kit_ty (by rw [isiT_kit t (tyD_mem e1) Tn (isiT_mem e2)]; exact e2), o1 W1 _ (.refl _) rh1 rep_bl⟩
end

/-! ### sequences in `in`; a list turned round -/
section
variable {C : Cn}
def inA (x y : D) : Option D := (inD x y).or (inTD x y)
def notInA (x y : D) : Option D := (notInD x y).or (notInTD x y)
theorem o_inA : OpD C (compareOp .In) inA := o_in.or o_inT
theorem o_notInA : OpD C (compareOp .NotIn) notInA := o_notIn.or o_notInT
def revR (a : DE) : DE := fun τ h => (a τ h).bind fun d h1 => match d with
  | .lst xs => .ok (.lst xs.reverse) h1
  | .frl xs => .ok (.lst xs.reverse) h1
  | _ => .bad
theorem den_rev {e : Expr} {fe : DE} {k : Nat} {p1 p2 p3 pos : Pos} (he : DenB C e fe) : DenN C (.Subscript e (.Slice none none (some (.UnaryOp .USub (.Constant (.int 1) k p1) p2)) p3) pos) (revR fe) := fun X E ok => by
  obtain ⟨t, p, q⟩ := he X E ok
  refine ⟨_, pe_revL p, fun W0 W τ σ h Q l fr rh o => ?_⟩
  refine q W0 W τ σ h _ l fr rh (okG.bind o fun d h1 W1 v l1 rh1 b1 o1 => ?_)
  have key : ∀ (a : Addr) (xs : List D) (vs : List V), v = .ref a → SqL X.K W1.H a vs → Reps C.g.K W1 xs vs → okG C.g.K C.g.mg (NewR C.g.K W) W1 (fun c dd H => E c dd σ H) Q (.ok (.lst xs.reverse) h1) →
      ∃ a xs, v = .ref a ∧ SqL X.K W1.H a xs ∧ ∀ p, W1.H p = none → Q (.ref p) (upd W1.H p (.lst xs.reverse)) := fun a xs vs ev sq r o2 =>
    ⟨a, vs, ev, sq, fun p np => by
      obtain ⟨l2, rh2, n⟩ := new_lst np rh1 r.reverse
      exact o2 _ _ l2 rh2 (n.of l1 rh1)⟩
  cases d with
  | lst xs =>
    obtain ⟨a, us, rfl, sq, r⟩ := b1.lst
    exact key a xs us rfl (.inl (.inl sq)) r o1
  | frl xs =>
    obtain ⟨a, us, rfl, sq, r⟩ := b1.frl
    exact key a xs us rfl (by rw [ok.K]; exact sq) r o1
  | _ => exact o1.elim
end

/-! ### short names for what the texts are worth -/
abbrev nS (i : Nat) : DE := fun τ h => getS τ i h
abbrev nB (i : Nat) : DE := fun τ h => getB τ i h
abbrev kD (d : D) : DE := fun _ h => .ok d h
abbrev aN : DA := fun _ h => .ok [] h
abbrev tY : DT := fun _ h => .ok true h
abbrev oN : DP := fun _ h => .ok none h
def oS (fe : DE) : DP := fun τ h => (fe τ h).bind fun d h1 => match d with | .int i => .ok (some i) h1 | _ => .bad
theorem den_psm {C : Cn} {e : Expr} {fe : DE} (he : DenB C e fe) : DenO C (some e) (oS fe) := den_psome he
abbrev rT (fe : DE) : DS := fun τ h => RS.ofR (fe τ h) τ fun d h1 => .rt d h1
abbrev xS (fe : DE) : DS := fun τ h => RS.ofR (fe τ h) τ fun _ h1 => .nx τ h1
abbrev bkS : DS := fun τ h => .bk τ h
abbrev ctS : DS := fun τ h => .ct τ h
abbrev noS : DS := fun _ _ => .bad
abbrev rN : DS := fun _ h => .rt .non h
abbrev frS (i : Nat) (f : DS) : DS := fun τ h => f (frzT τ i) h
abbrev mN : List Sl → HS → Res (List Sl) := fun _ h => .ok [] h
abbrev shR (f : DE) : DE := fun τ s => sShare (f τ s)

/-! ### a program's facts -/
structure Tx (fa : List He.Fa) (fn : List He.DefD) (g : Gx) : Prop where
  hh : ∃ h : Heap, g.K.In h ∧ h.Ns mainGlobals g.mg
  c : He.SaysD fa fn g.K
section
variable {fa : List He.Fa} {fn : List He.DefD} {g : Gx}
theorem Tx.free (T : Tx fa fn g) (i : Nat) {x : Str} (e : fa[i]? = some (.free x)) : g.mg x = none := by
  obtain ⟨h, X, G⟩ := T.hh
  exact He.free_ok X G (T.c.fact i e)
theorem Tx.glo (T : Tx fa fn g) (i : Nat) {x : Str} (e : fa[i]? = some (.glo x)) : g.mg x = some (.ref (He.ga g.K x)) := by
  obtain ⟨h, X, G⟩ := T.hh
  exact He.glo_ok X G (T.c.fact i e)
theorem Tx.int (T : Tx fa fn g) (i : Nat) {x : Str} {n : Int} (e : fa[i]? = some (.int x n)) : ∃ t, g.mg x = some (.int n t) := by
  obtain ⟨h, X, G⟩ := T.hh
  exact He.int_ok X G (T.c.fact i e)
theorem fn_mkD {x qual : Str} {params : Arguments} {body : List Stmt} {scope : Scope} {f : Addr} {fd : FuncData} {N ps : List Str} {k : Nat} {fb : DS} (F : FunD g.K x qual params body scope [] [] f fd) (S : FnScope N ps scope) (hm : g.mg x = some (.ref f)) (hb : L2.Binds g.K fd ps [])
    (hbody : DenSs ⟨g, k, N, scope, fun _ => true⟩ body fb) : FnD g x ps.length (k + 1) (fnR N.length fb) := by
  refine ⟨f, fd, ps, ?_, hm, F.kp, hb⟩
  refine F.ok (CX := L2.CX g.P g.w) S (fun vs H Q E h => h.1) fun cdv A outer s H vs Q E hr h => ?_
  obtain ⟨hl, W, ds, h0, rfl, rh, r, o⟩ := h
  have ok : CxOk ⟨g, k, N, scope, fun _ => true⟩ (cxOf (L2.CX g.P g.w) g.P g.w g.K g.mg g.base N qual scope f cdv A outer s W.H E) (fun c d _ H => E c d H) :=
    ⟨rfl, rfl, rfl, rfl, rfl, rfl, S.nd, rfl, rfl, hr, takes_of rfl rfl rfl rfl, passes_of rfl, fun _ _ => rfl, fun _ => ⟨rfl, rfl⟩⟩
  obtain ⟨t, p, q⟩ := hbody _ _ ok
  refine ⟨t, p, q W W _ _ h0 _ (.refl _) (frm_start r) rh ?_⟩
  have o : okG g.K g.mg (Rep g.K) W E Q (match fb (ds.map Sl.val ++ List.replicate (N.length - ds.length) Sl.un) h0 with | .rt d h' => .ok d h' | .nx _ h' => .ok .non h' | .exc x h' => .exc x h' | _ => .bad) := o
  cases ef : fb (ds.map Sl.val ++ List.replicate (N.length - ds.length) Sl.un) h0 with
  | rt d h' => rw [ef] at o; exact fun W' v l _ rh' r' => o W' v l rh' r'
  | nx τ h' => rw [ef] at o; exact fun W' σ l _ fr rh' => o W' _ l rh' rep_non
  | exc x h' => rw [ef] at o; exact fun W' c dd σ l _ rh' r' => o W' c dd l rh' r'
  | bk _ _ => rw [ef] at o; exact o.elim
  | ct _ _ => rw [ef] at o; exact o.elim
  | bad => rw [ef] at o; exact o.elim
abbrev dfd (x : Str) (st : Stmt) : He.DefD := ⟨(x, none), x, x, defArgs st, defBody st, defScope st, [], []⟩
/-- a def of the module, by its place in fn and its name's place in fa -/
theorem Tx.deff (T : Tx fa fn g) (j i : Nat) {x : Str} {st : Stmt} {N ps : List Str} {k : Nat} {fb : DS} (hd : fn[j]? = some (dfd x st)) (hx : fa[i]? = some (.glo x)) (S : FnScope N ps (defScope st))
    (hb : ∀ (kV doc pm : Value) (an : Option Addr) (cdv ct : Value) (us : List Value), us.length = ps.length → bindArgs (PySem.W.fnOf x x (defArgs st) (defBody st) (defScope st) .none kV doc pm an cdv ct) ⟨us, []⟩ = pure (ps.zip us))
    (hbody : DenSs ⟨g, k, N, defScope st, fun _ => true⟩ (defBody st) fb) : FnD g x ps.length (k + 1) (fnR N.length fb) := by
  obtain ⟨fd, F⟩ := T.c.def_ j hd
  exact fn_mkD F S (T.glo i hx) (FunD.bindsN F hb) hbody
end
/-- what holds of every block with this scope -/
theorem hw_of {sc : Scope} {P : Env → Prop} (h : ∀ env : Env, P { env with scope := sc }) : ∀ env : Env, env.scope = sc → P env := fun env e => by
  have := h env
  rw [← e] at this
  exact this
abbrev maxsG : List D → Option D := fun x => (maxG x).or ((mxTG max x).or (mxLG max x))
abbrev minsG : List D → Option D := fun x => (minG x).or ((mxTG min x).or (mxLG min x))
abbrev sumsG : List D → Option D := fun x => (sumG x).or (sumTG x)
end Sw

/-! Sw, part L: sorted of tuples. -/
namespace Sw
open PySem PySem.Spec PyProof.Rows L2 SrtO
section
variable {prog : Program} {w : World} {A : Around} {E : Value → Shared → Prop} {s : Shared}
/-- the items of a tuple, collected -/
theorem gather_tup {t : Addr} {us : List Value} {Q : List Value → Shared → Prop} (ht : IsTup s.heap t us.toArray) (fit : us.length ≤ sizeLine)
    (k : Q us { s with heap := (s.heap.push (seqObj "list" #[] 0)).update s.heap.objs.size (Obj.mapSeq (· ++ us.toArray)) }) : wpAny (model prog w) A (collect (.ref t)) Q E s := by
  obtain ⟨ot, at_, ct, nt, dt⟩ := ht
  unfold collect
  refine wpAny_bind (wpAny_runValue (codeAny_builtin entry_proto_collect' (show wpAny _ _ (do again (.builtin "list.__iadd__" ⟨[← newList [], .ref t], []⟩)) _ _ s from ?_)))
  refine wpAny_bind (wpAny_newList (wpAny_pure ⟨Code.quiet_builtin _ (by decide +kernel), codeAny_builtin entry_list_iadd' (show wpAny _ _ (Builtin.List.listExtendWith (.ref s.heap.objs.size) (.ref t) (.ref s.heap.objs.size)) _ _ { s with heap := s.heap.push (seqObj "list" #[] 0) } from ?_)⟩))
  have at' : (s.heap.push (seqObj "list" #[] 0)).get? t = some ot := Heap.get?_push_of_some _ at_
  unfold Builtin.List.listExtendWith
  refine wpAny_bind (wpAny_typeOf (T := "tuple") ⟨ot, at', ct⟩ ?_)
  have same : (Value.type "tuple" == Value.type "tuple") = true := by rfl
  rw [if_pos (by rw [same]; simp)]
  refine wpAny_bind (listItems_at at' dt (wpAny_bind (listItems_at (xs := #[]) (n := 0) (Heap.get?_push_size _ rfl) rfl ?_)))
  rw [if_neg (by simp)]
  refine wpAny_bind (listUpdate_at (xs := #[]) (n := 0) (Heap.get?_push_size _ rfl) rfl (wpAny_pure ?_) (Nat.zero_le _) (by show (#[] ++ us.toArray).size ≤ sizeLine + 1; simp only [Array.size_append, List.size_toArray, List.length_nil]; omega))
  show wpAny (model prog w) A (do let o ← load s.heap.objs.size; match o.data with | .seq xs _ => pure xs.toList | _ => unsupported "internal:collect") Q E { s with heap := (s.heap.push (seqObj "list" #[] 0)).update s.heap.objs.size (Obj.mapSeq (· ++ us.toArray)) }
  refine wpAny_bind (wpAny_load (get?_update_seq (Heap.get?_push_size _ rfl) _) (show wpAny _ _ (pure ((#[] : Array Value) ++ us.toArray).toList) Q E _ from ?_))
  rw [show ((#[] : Array Value) ++ us.toArray).toList = us by simp]
  exact wpAny_pure k
/-- sorted of a tuple: the new list stands behind the collected one -/
theorem sorted_tup {t : Addr} {us : List Value} {lt : Value → Value → Bool} {Q : Value → Shared → Prop} (O : Swo lt) (ht : IsTup s.heap t us.toArray) (fit : us.length ≤ sizeLine)
    (cmp : 2 ≤ us.length → ∀ (h1 : Heap) (a : Addr), h1.get? a = some (seqObj "list" us.toArray 0) → (∀ b o, s.heap.get? b = some o → b ≠ a ∧ h1.get? b = some o) → SortableO prog w A.in1.in1 { s with heap := h1 } a us lt)
    (k : ∀ out : List Value, Srtd lt out → Stb lt out us → Q (.ref (s.heap.objs.size + 1)) { s with heap := sortedAll s.heap us out.toArray }) : wpAny (model prog w) A (call (.builtin "sorted") [.ref t]) Q E s := by
  refine Calls.call_function_entry kind_sorted plain_sorted entry_sorted (args_sorted1 _) ?_
  unfold Builtin.«sorted»
  refine wpAny_bind (m := checkCount "sorted" 1 1 _) (wpAny_pure (wpAny_bind (gather_tup ht fit (wpAny_bind (wpAny_newList ?_ fit)))))
  generalize hG : (s.heap.push (seqObj "list" #[] 0)).update s.heap.objs.size (Obj.mapSeq (· ++ us.toArray)) = G
  have sz : G.objs.size = s.heap.objs.size + 1 := by rw [← hG, Heap.size_update, size_push']
  have new : (G.push (seqObj "list" us.toArray 0)).get? (s.heap.objs.size + 1) = some (seqObj "list" us.toArray 0) := by rw [← sz]; exact Heap.get?_push_size _ rfl
  have old : ∀ b o, s.heap.get? b = some o → b ≠ s.heap.objs.size + 1 ∧ (G.push (seqObj "list" us.toArray 0)).get? b = some o := fun b o q => by
    have lt : b < s.heap.objs.size := Heap.lt_size q
    refine ⟨Nat.ne_of_lt (Nat.lt_succ_of_lt lt), Heap.get?_push_of_some _ ?_⟩
    rw [← hG, Heap.get?_update_ne _ _ _ _ (Nat.ne_of_lt lt)]
    exact Heap.get?_push_of_some _ q
  show wpAny _ _ _ _ _ { s with heap := G.push (seqObj "list" us.toArray 0) }
  rw [sz]
  refine wpAny_bind (wpAny_holding (wpAny_call_entry slot_list_sort ⟨_, new, rfl⟩ entry_list_sort (list_sort_ord O new fit (fun h2 => cmp h2 _ _ new old) fun out hs hb => ⟨_, rfl, ?_⟩) (args_list_sort _)))
  refine wpAny_pure ⟨_, rfl, ?_⟩
  rw [← hG]
  exact k out hs hb
end
section
variable {X : Cx}
def rSortedTI (K : PySem.W.Frag) : List V → Hp → VK → Prop := fun vs H Q => ∃ (a : Addr) (ns : List Int), vs = [V.ref a] ∧ SqT K H a (ns.map V.int) ∧
  ∀ (ms : List Int) (p : Addr), ms.Perm ns → ms.Pairwise (· ≤ ·) → H p = none → Q (.ref p) (upd H p (.lst (ms.map V.int)))
theorem cr_sortedTI : CallR X (.builtin "sorted") (rSortedTI X.K) := by
  intro pins s σ H vs us Q I r h
  obtain ⟨a, ns, rfl, hs, q⟩ := h
  obtain ⟨its, rv, ht, fit⟩ := I.tuple hs
  rw [Vals.ref1 r]
  refine sorted_tup swo_int ht (by rw [← rv.length]; exact fit) (fun h2 _ _ _ _ => ints_sortable rv.ints h2) fun out h1 h2 => ?_
  obtain ⟨k1, k2, k3⟩ := ints_out rv.ints h1 h2
  obtain ⟨ep, he⟩ := PyProof.Rows.sortedAll_at s.heap its out.toArray
  have fit' : ((out.map SrtO.iv).map V.int).length ≤ sizeLine := by rw [List.length_map, k2.length_eq]; rw [List.length_map] at fit; exact fit
  refine ⟨.ref _, _, I.laid (o := .lst ((out.map SrtO.iv).map V.int)) (t' := s.toks) (fun _ _ => PyProof.Rows.sortedAll_old) (Nat.le_succ _) ⟨fit', out, ep, vals_of_ints k1, he⟩, rfl, ?_⟩
  exact q _ _ k2 k3 (I.hok.fresh (Nat.le_succ _))
end
section
variable {C : Cn}
def sortTG : List D → Option D
  | [.tup xs] => (intsD xs).map fun is => .lst ((sortI is).map D.int)
  | _ => none
theorem cn_sortT : CalN C (.builtin "sorted") sortTG := fun X E ok => ⟨_, cr_sortedTI, fun W h ds vs d Q rh b e k => by
  unfold sortTG at e
  split at e
  · obtain ⟨v, rfl, b1⟩ := BorsAll.one b
    obtain ⟨a, us, rfl, sq, r, _⟩ := b1.tup
    obtain ⟨is, q, rfl⟩ := Option.map_eq_some_iff.mp e
    rw [ints_reps r q] at sq
    refine ⟨a, is, rfl, by rw [ok.K]; exact sq, fun ns p hp hs np => ?_⟩
    have := sorted_unique (hp.trans (sortI_perm is).symm) hs (sortI_sorted is)
    subst this
    obtain ⟨l, rh', n⟩ := new_lst np rh (reps_ints _)
    exact k _ _ l rh' n
  · cases e⟩
theorem CalN.or {f : Value} {g g' : List D → Option D} (h : CalN C f g) (h' : CalN C f g') : CalN C f (fun x => (g x).or (g' x)) := fun X E ok => by
  obtain ⟨r, p, q⟩ := h X E ok
  obtain ⟨r', p', q'⟩ := h' X E ok
  refine ⟨_, L2.CallR.or p p', fun W s x v d Q rh b e k => ?_⟩
  have e : (g x).or (g' x) = some d := e
  cases e1 : g x with
  | some d' =>
    rw [e1] at e
    cases e
    exact .inl (q W s x v _ Q rh b e1 k)
  | none =>
    rw [e1] at e
    exact .inr (q' W s x v d Q rh b e k)
abbrev sortsG : List D → Option D := fun x => (sortLG x).or (sortTG x)
theorem cn_sorts : CalN C (.builtin "sorted") sortsG := cn_sortL.or cn_sortT
end
end Sw

/-! Sw, part M: a law's end. -/
namespace Sw
open PySem PySem.Spec PyProof.Rows L2
theorem fn_okD {g : Gx} {x qual : Str} {params : Arguments} {body : List Stmt} {scope : Scope} {f : Addr} {fd : FuncData} {N ps : List Str} {k : Nat} {fb : DS} (F : FunD g.K x qual params body scope [] [] f fd) (S : FnScope N ps scope)
    (hbody : DenSs ⟨g, k, N, scope, fun _ => true⟩ body fb) : FnOk g.P g.w g.K g.mg g.base (L2.CX g.P g.w) (k + 1) f fd ps (spOf g ps.length (fnR N.length fb)) := by
  refine F.ok (CX := L2.CX g.P g.w) S (fun vs H Q E h => h.1) fun cdv A outer s H vs Q E hr h => ?_
  obtain ⟨hl, W, ds, h0, rfl, rh, r, o⟩ := h
  have ok : CxOk ⟨g, k, N, scope, fun _ => true⟩ (cxOf (L2.CX g.P g.w) g.P g.w g.K g.mg g.base N qual scope f cdv A outer s W.H E) (fun c d _ H => E c d H) :=
    ⟨rfl, rfl, rfl, rfl, rfl, rfl, S.nd, rfl, rfl, hr, takes_of rfl rfl rfl rfl, passes_of rfl, fun _ _ => rfl, fun _ => ⟨rfl, rfl⟩⟩
  obtain ⟨t, p, q⟩ := hbody _ _ ok
  refine ⟨t, p, q W W _ _ h0 _ (.refl _) (frm_start r) rh ?_⟩
  have o : okG g.K g.mg (Rep g.K) W E Q (match fb (ds.map Sl.val ++ List.replicate (N.length - ds.length) Sl.un) h0 with | .rt d h' => .ok d h' | .nx _ h' => .ok .non h' | .exc x h' => .exc x h' | _ => .bad) := o
  cases ef : fb (ds.map Sl.val ++ List.replicate (N.length - ds.length) Sl.un) h0 with
  | rt d h' => rw [ef] at o; exact fun W' v l _ rh' r' => o W' v l rh' r'
  | nx τ h' => rw [ef] at o; exact fun W' σ l _ fr rh' => o W' _ l rh' rep_non
  | exc x h' => rw [ef] at o; exact fun W' c dd σ l _ rh' r' => o W' c dd l rh' r'
  | bk _ _ => rw [ef] at o; exact o.elim
  | ct _ _ => rw [ef] at o; exact o.elim
  | bad => rw [ef] at o; exact o.elim
theorem law_facts {fa : List He.Fa} {fn : List He.DefD} {P : Program} {w : World} {K : PySem.W.Frag} {h : Heap} {mg : Str → Option Value} {f : Addr} (X : K.In h) (G : h.Ns mainGlobals mg) (c : He.SaysD fa fn K) (hfa : mg ("law" : Str) = some (.ref f))
    (j i : Nat) {x : Str} {st : Stmt} {N : List Str} {k : Nat} {fb : DS} (hd : fn[j]? = some (dfd "law" st)) (hx : fa[i]? = some (.glo "law")) (S : FnScope N [x] (defScope st))
    (hb : ∀ (kV doc pm : Value) (an : Option Addr) (cdv ct : Value) (us : List Value), us.length = [x].length → bindArgs (PySem.W.fnOf "law" "law" (defArgs st) (defBody st) (defScope st) .none kV doc pm an cdv ct) ⟨us, []⟩ = pure ([x].zip us))
    (hbody : ∀ g : Gx, Tx fa fn g → DenSs ⟨g, k, N, defScope st, fun _ => true⟩ (defBody st) fb) :
    ∃ fd : FuncData, (∀ (s : Shared) (v : Value), BindsTo s fd ⟨[v], []⟩ [(x, v)]) ∧ ∀ base : Heap, K.In base → base.Ns mainGlobals mg → FnOk P w K mg base (L2.CX P w) (k + 1) f fd [x] (spOf ⟨P, w, K, mg, base⟩ 1 (fnR N.length fb)) := by
  obtain ⟨fd, F⟩ := c.def_ j hd
  have e := hfa.symm.trans (He.glo_ok X G (c.fact i hx))
  cases e
  have b := FunD.bindsA (ps := [x]) F hb
  refine ⟨fd, fun s v => b s [v] rfl, fun base _ _ => ?_⟩
  exact fn_okD (g := ⟨P, w, K, mg, base⟩) F S (hbody _ ⟨⟨h, X, G⟩, c⟩)
theorem cx_no {P : Program} {w : World} (H : Hp) (s : Shared) (e : Value) (s' : Shared) (h : L2.CX P w [] H s (fun _ _ _ => False) e s') : False := by
  obtain ⟨_, _, _, _, _, _, _, _, _, _, _, _, _, _, _, _, z⟩ := h
/-- a law's call, its head by facts, over CX of the world -/
theorem walk_end {l : PySem.W.OpenLaw} {n k : Nat} {q : Program} {loose : List Str} {XP : (Str → Option Value) → Heap → Prop} {YP : World → Heap → Prop} {d : DefRec} {x : Str} (few : l.most = some n) (fit : n ≤ sizeLine) (plain : d.params.defaults = []) (hr : Room k callerA)
    (F : ∀ (w : World) (mg : Str → Option Value) (fa : Addr) (h : Heap), YP w h → h.Ns mainGlobals mg → mg d.name = some (.ref fa) → ∃ (K : PySem.W.Frag) (fd : FuncData) (sp : Sp), K.In h ∧ (∀ (s : Shared) (u : Value), BindsTo s fd ⟨[u], []⟩ [(x, u)]) ∧
        (∀ (H : Hp) (a : Addr) (ns : List Int), ns.length ≤ n → Only H → SqL K H a (ns.map V.int) → sp [.ref a] H (fun v _ => v = .bl true) fun _ _ _ => False) ∧ ∀ base : Heap, K.In base → base.Ns mainGlobals mg → FnOk l.prog w K mg base (L2.CX l.prog w) k fa fd [x] sp) :
    PySem.W.WalkO q loose XP YP l.row.toRowW d [] (fun f vs => PySem.call f vs) := by
  refine Att.attach_call few plain fun w s0 s1 mg mb fa o pm cd doc a vs ns G Y ho hd hcd hmg hobj hints hlen hg => ?_
  obtain ⟨K, fd, sp, KX, hb, hsp, hF⟩ := F w mg fa _ Y G.T.g hmg
  exact law_call KX G.T.g G.T.b G.T.builtins G.T.nolimit hg hobj hints (Nat.le_trans hlen fit) hr hF hb (fun H hO hS => hsp H a ns hlen hO hS) fun H e s' => cx_no H s1 e s'
end Sw

/-! Sw, part N: the dice. -/
namespace Sw
open PySem PySem.Spec PyProof.Rows L2
theorem ap_ifR (t : DT) (a b : DE) (τ : List Sl) (h : HS) : ifR t a b τ h = ((t τ h).bind fun c h1 => if c then a τ h1 else b τ h1) := id rfl
theorem ap_nS (i : Nat) (τ : List Sl) (h : HS) : nS i τ h = (getS τ i h) := id rfl
theorem ap_nB (i : Nat) (τ : List Sl) (h : HS) : nB i τ h = (getB τ i h) := id rfl
theorem ap_kD (d : D) (τ : List Sl) (h : HS) : kD d τ h = (.ok d h) := id rfl
theorem ap_aN (τ : List Sl) (h : HS) : aN τ h = (.ok [] h) := id rfl
theorem ap_tY (τ : List Sl) (h : HS) : tY τ h = (.ok true h) := id rfl
theorem ap_oN (τ : List Sl) (h : HS) : oN τ h = (.ok none h) := id rfl
theorem ap_oS (fe : DE) (τ : List Sl) (h : HS) : oS fe τ h = ((fe τ h).bind fun d h1 => match d with | .int i => .ok (some i) h1 | _ => .bad) := id rfl
theorem ap_rT (fe : DE) (τ : List Sl) (h : HS) : rT fe τ h = (RS.ofR (fe τ h) τ fun d h1 => .rt d h1) := id rfl
theorem ap_xS (fe : DE) (τ : List Sl) (h : HS) : xS fe τ h = (RS.ofR (fe τ h) τ fun _ h1 => .nx τ h1) := id rfl
theorem ap_bkS (τ : List Sl) (h : HS) : bkS τ h = (.bk τ h) := id rfl
theorem ap_ctS (τ : List Sl) (h : HS) : ctS τ h = (.ct τ h) := id rfl
theorem ap_noS (τ : List Sl) (h : HS) : noS τ h = (.bad) := id rfl
theorem ap_rN (τ : List Sl) (h : HS) : rN τ h = (.rt .non h) := id rfl
theorem ap_frS (i : Nat) (f : DS) (τ : List Sl) (h : HS) : frS i f τ h = (f (frzT τ i) h) := id rfl
theorem ap_mN (τ : List Sl) (h : HS) : mN τ h = (.ok [] h) := id rfl
theorem ap_shR (f : DE) (τ : List Sl) (s : HS) : shR f τ s = (sShare (f τ s)) := id rfl
theorem ap_seqS (f g : DS) (τ : List Sl) (h : HS) : seqS f g τ h = ( match f τ h with
  | .nx τ' h' => g τ' h'
  | r => r) := id rfl
theorem ap_iteS (t : DT) (f g : DS) (τ : List Sl) (h : HS) : iteS t f g τ h = (RS.ofR (t τ h) τ fun b h1 => if b then f τ h1 else g τ h1) := id rfl
theorem ap_cmpT (g : D → D → Option D) (a b : DE) (τ : List Sl) (h : HS) : cmpT g a b τ h = ((res2 g a b τ h).bind fun d h1 => match d with | .bl c => .ok c h1 | _ => .bad) := id rfl
theorem ap_setS (i : Nat) (fe : DE) (τ : List Sl) (h : HS) : setS i fe τ h = (RS.ofR (fe τ h) τ fun d h1 => .nx (τ.set i (.val d)) h1) := id rfl
theorem ap_setN (i : Nat) (fe : DE) (τ : List Sl) (h : HS) : setN i fe τ h = ( RS.ofR (fe τ h) τ fun d h1 => match ownSl d with
  | some s => .nx (τ.set i s) h1
  | none => .bad) := id rfl
theorem ap_nilS (τ : List Sl) (h : HS) : nilS τ h = (.nx τ h) := id rfl
theorem ap_res1 (g : D → Option D) (a : DE) (τ : List Sl) (h : HS) : res1 g a τ h = ((a τ h).bind fun x h1 => toRes (g x) h1) := id rfl
theorem ap_res2 (g : D → D → Option D) (a b : DE) (τ : List Sl) (h : HS) : res2 g a b τ h = ((a τ h).bind fun x h1 => (b τ h1).bind fun y h2 => toRes (g x y) h2) := id rfl
theorem ap_refIxR (a b : DE) (τ : List Sl) (h : HS) : refIxR a b τ h = ((a τ h).bind fun x h1 => (b τ h1).bind fun y h2 => atRef x y h2) := id rfl
theorem ap_rputS (i : Nat) (fe fe2 : DE) (τ : List Sl) (h : HS) : rputS i fe fe2 τ h = ( RS.ofR (fe2 τ h) τ fun d h1 => match τ[i]? with
  | some (.val (.ref n)) => RS.ofR (fe τ h1) τ fun k h2 => match k, h2[n]? with
    | .int k, some xs => match ixN xs.length k with
      | some j => .nx τ (h2.set n (xs.set j d))
      | none => .bad
    | _, _ => .bad
  | _ => .bad) := id rfl
theorem ap_consR (a : DE) (r : DA) (τ : List Sl) (h : HS) : consR a r τ h = ((a τ h).bind fun x h1 => (r τ h1).bind fun xs h2 => .ok (x :: xs) h2) := id rfl
theorem ap_callR (n : Nat) (φ : DF) (a : DA) (τ : List Sl) (h : HS) : callR n φ a τ h = ((a τ h).bind fun ds h1 => if ds.length = n then φ ds h1 else .bad) := id rfl
theorem ap_biR (g : List D → Option D) (a : DA) (τ : List Sl) (h : HS) : biR g a τ h = ((a τ h).bind fun ds h1 => toRes (g ds) h1) := id rfl
theorem ap_isiR (T : String) (a : DE) (τ : List Sl) (h : HS) : isiR T a τ h = ( (a τ h).bind fun d h1 => match (tyD d).bind (isiT · T) with
  | some b => .ok (.bl b) h1
  | none => .bad) := id rfl
theorem ap_bAndR (a b : DE) (τ : List Sl) (h : HS) : bAndR a b τ h = ((a τ h).bind fun d h1 => match d with | .bl c => if c then b τ h1 else .ok (.bl false) h1 | _ => .bad) := id rfl
theorem ap_bNotR (a : DE) (τ : List Sl) (h : HS) : bNotR a τ h = ((a τ h).bind fun d h1 => match d with | .bl c => .ok (.bl (!c)) h1 | _ => .bad) := id rfl
theorem ap_bOrR (a b : DE) (τ : List Sl) (h : HS) : bOrR a b τ h = ((a τ h).bind fun d h1 => match d with | .bl c => if c then .ok (.bl true) h1 else b τ h1 | _ => .bad) := id rfl
theorem ap_chR (g g' : D → D → Option D) (a b c : DE) (τ : List Sl) (h : HS) : chR g g' a b c τ h = ( (a τ h).bind fun x h1 => (b τ h1).bind fun y h2 => match g x y with
  | some (.bl k) => if k then (c τ h2).bind fun z h3 => toRes (g' y z) h3 else .ok (.bl false) h2
  | _ => .bad) := id rfl
theorem ap_chT (g g' : D → D → Option D) (a b c : DE) (τ : List Sl) (h : HS) : chT g g' a b c τ h = ((chR g g' a b c τ h).bind fun d h1 => match d with | .bl k => .ok k h1 | _ => .bad) := id rfl
theorem ap_truR (a : DE) (τ : List Sl) (h : HS) : truR a τ h = ((a τ h).bind fun d h1 => toRes d.tru h1) := id rfl
theorem ap_tNotR (a : DT) (τ : List Sl) (h : HS) : tNotR a τ h = ((a τ h).bind fun c h1 => .ok (!c) h1) := id rfl
theorem ap_tAndR (a b : DT) (τ : List Sl) (h : HS) : tAndR a b τ h = ((a τ h).bind fun c h1 => if c then b τ h1 else .ok false h1) := id rfl
theorem ap_tOrR (a b : DT) (τ : List Sl) (h : HS) : tOrR a b τ h = ((a τ h).bind fun c h1 => if c then .ok true h1 else b τ h1) := id rfl
theorem ap_seqR (a : DE) (τ : List Sl) (h : HS) : seqR a τ h = ( (a τ h).bind fun d h1 => match d with
  | .tup xs => .ok xs h1
  | .lst xs => .ok xs h1
  | _ => .bad) := id rfl
theorem ap_rngR1 (a : DE) (τ : List Sl) (h : HS) : rngR1 a τ h = ( (a τ h).bind fun d h1 => match d with
  | .int n => if decide (-(2 ^ 62) ≤ n) && decide (n < 2 ^ 62) then .ok (rangeD 0 n.toNat) h1 else .bad
  | _ => .bad) := id rfl
theorem ap_rngR2 (a b : DE) (τ : List Sl) (h : HS) : rngR2 a b τ h = ( (a τ h).bind fun x h1 => (b τ h1).bind fun y h2 => match x, y with
  | .int m, .int n => if (decide (-(2 ^ 62) ≤ m) && decide (m < 2 ^ 62)) && (decide (-(2 ^ 62) ≤ n) && decide (n < 2 ^ 62)) then .ok (rangeD m (n - m).toNat) h2 else .bad
  | _, _ => .bad) := id rfl
theorem ap_enumR (a : DE) (τ : List Sl) (h : HS) : enumR a τ h = ( (a τ h).bind fun d h1 => match d with
  | .tup xs => .ok (enumD 0 xs) h1
  | _ => .bad) := id rfl
theorem ap_lcR (it : DA) (vs : List Nat) (g : GT) (tt : DT) (te : DE) (τ : List Sl) (h : HS) : lcR it vs g tt te τ h = ((it τ h).bind fun items h1 => if fits items.length then (lcL g tt te (wipeT τ vs) items h1).nox.bind fun ys h2 => .ok (.lst ys) h2 else .bad) := id rfl
theorem ap_lcR2 (it : DA) (vs : List Nat) (g : GT) (tt : DT) (it1 : DA) (vs1 : List Nat) (g1 : GT) (tt1 : DT) (te : DE) (τ : List Sl) (h : HS) : lcR2 it vs g tt it1 vs1 g1 tt1 te τ h = ( (it τ h).bind fun items h1 =>
  (lcL2 g tt it1 vs1 g1 tt1 te (wipeT τ vs) items h1).nox.bind fun ys h2 => if fits ys.length then .ok (.lst ys) h2 else .bad) := id rfl
theorem ap_sliceR (a : DE) (lo hi : DP) (τ : List Sl) (h : HS) : sliceR a lo hi τ h = ((a τ h).bind fun x h1 => (lo τ h1).bind fun i h2 => (hi τ h2).bind fun j h3 => toRes (sliceD x i j) h3) := id rfl
theorem ap_tupR (a : DA) (τ : List Sl) (h : HS) : tupR a τ h = ((a τ h).bind fun xs h1 => if fits xs.length then .ok (.tup xs) h1 else .bad) := id rfl
theorem ap_lstR (a : DA) (τ : List Sl) (h : HS) : lstR a τ h = ((a τ h).bind fun xs h1 => if fits xs.length then .ok (.lst xs) h1 else .bad) := id rfl
theorem ap_starR (a : DE) (r : DA) (τ : List Sl) (h : HS) : starR a r τ h = ( (a τ h).bind fun x h1 => match x with
  | .tup ys => (r τ h1).bind fun xs h2 => .ok (ys ++ xs) h2
  | .lst ys => (r τ h1).bind fun xs h2 => .ok (ys ++ xs) h2
  | _ => .bad) := id rfl
theorem ap_augS (i : Nat) (g : D → D → Option D) (fe : DE) (τ : List Sl) (h : HS) : augS i g fe τ h = ( match τ[i]? with
  | some (.val d) => RS.ofR (fe τ h) τ fun y h1 => match g d y with
    | some z => .nx (τ.set i (.val z)) h1
    | none => .bad
  | _ => .bad) := id rfl
theorem ap_asgS (g : GT) (fe : DE) (τ : List Sl) (h : HS) : asgS g fe τ h = ( RS.ofR (fe τ h) τ fun d h1 => match g d τ with
  | some τ' => .nx τ' h1
  | none => .bad) := id rfl
theorem ap_par2 (i j : Nat) (fa : List Sl → HS → Res (List Sl)) (τ : List Sl) (h : HS) : par2 i j fa τ h = ( RS.ofR (fa τ h) τ fun ss h1 => match ss with
  | [s, t] => .nx ((τ.set i s).set j t) h1
  | _ => .bad) := id rfl
theorem ap_ownM (a : DE) (r : List Sl → HS → Res (List Sl)) (τ : List Sl) (h : HS) : ownM a r τ h = ( (a τ h).bind fun d h1 => match ownSl d with
  | some s => (r τ h1).bind fun ss h2 => .ok (s :: ss) h2
  | none => .bad) := id rfl
theorem ap_valM (a : DE) (r : List Sl → HS → Res (List Sl)) (τ : List Sl) (h : HS) : valM a r τ h = ((a τ h).bind fun d h1 => (r τ h1).bind fun ss h2 => .ok (.val d :: ss) h2) := id rfl
theorem ap_appS (i : Nat) (fe : DE) (τ : List Sl) (h : HS) : appS i fe τ h = ( match τ[i]? with
  | some (.own _) => RS.ofR (fe τ h) τ fun d h1 => match τ[i]? with
    | some (.own xs) => if decide (xs.length < sizeLine) then .nx (τ.set i (.own (xs ++ [d]))) h1 else .bad
    | _ => .bad
  | _ => .bad) := id rfl
theorem ap_extS (i : Nat) (fe : DE) (τ : List Sl) (h : HS) : extS i fe τ h = ( match τ[i]? with
  | some (.own _) => RS.ofR (fe τ h) τ fun d h1 => match τ[i]?, d with
    | some (.own xs), .lst ys => if fits (xs.length + ys.length) then .nx (τ.set i (.own (xs ++ ys))) h1 else .bad
    | _, _ => .bad
  | _ => .bad) := id rfl
theorem ap_putS (i : Nat) (fe fe2 : DE) (τ : List Sl) (h : HS) : putS i fe fe2 τ h = ( RS.ofR (fe2 τ h) τ fun d h1 => match τ[i]? with
  | some (.own xs) => RS.ofR (fe τ h1) τ fun k h2 => match k with
    | .int k => match ixN xs.length k with
      | some j => .nx (τ.set i (.own (xs.set j d))) h2
      | none => .bad
    | _ => .bad
  | _ => .bad) := id rfl
theorem ap_forR (it : DA) (g : GT) (b : DS) (τ : List Sl) (h : HS) : forR it g b τ h = (RS.ofR (it τ h) τ fun items h1 => forS g b items τ h1) := id rfl
theorem ap_revR (a : DE) (τ : List Sl) (h : HS) : revR a τ h = ( (a τ h).bind fun d h1 => match d with
  | .lst xs => .ok (.lst xs.reverse) h1
  | .frl xs => .ok (.lst xs.reverse) h1
  | _ => .bad) := id rfl
theorem ap_pureS (f : DS) (τ : List Sl) (h : HS) : pureS f τ h = ( match f (τ.map Sl.hide) [] with
  | .rt d [] => .rt d h
  | .exc x [] => .exc x h
  | _ => .bad) := id rfl
theorem ap_fnR (n : Nat) (f : DS) (ds : List D) (h : HS) : fnR n f ds h = (match f (ds.map Sl.val ++ List.replicate (n - ds.length) Sl.un) h with | .rt d h' => .ok d h' | .nx _ h' => .ok .non h' | .exc x h' => .exc x h' | _ => .bad) := id rfl
theorem ap_iSub (i j : Int) : iSub (.int i) (.int j) = some (.int (i - j)) := id rfl
theorem ap_addD (i j : Int) : addD (.int i) (.int j) = some (.int (i + j)) := id rfl
theorem ap_mulD (i j : Int) : mulD (.int i) (.int j) = if mulOk i j then some (.int (i * j)) else none := id rfl
theorem ap_iLt (i j : Int) : iLt (.int i) (.int j) = some (.bl (decide (i < j))) := id rfl
theorem ap_iLe (i j : Int) : iLe (.int i) (.int j) = some (.bl (decide (i ≤ j))) := id rfl
theorem ap_iGt (i j : Int) : iGt (.int i) (.int j) = some (.bl (decide (j < i))) := id rfl
theorem ap_iGe (i j : Int) : iGe (.int i) (.int j) = some (.bl (decide (j ≤ i))) := id rfl
theorem ap_iMod (i j : Int) : iMod (.int i) (.int j) = if modOk i j then some (.int (i.fmod j)) else none := id rfl
theorem ap_iDiv (i j : Int) : iDiv (.int i) (.int j) = if divOk i j then some (.int (i.fdiv j)) else none := id rfl
theorem rb_ok {α β : Type} (a : α) (h : HS) (g : α → HS → Res β) : (Res.ok a h).bind g = g a h := id rfl
theorem rn_ok {α : Type} (a : α) (h : HS) : (Res.ok a h).nox = .ok a h := id rfl
theorem ro_ok {α : Type} (a : α) (h : HS) (τ : List Sl) (k : α → HS → RS) : RS.ofR (.ok a h) τ k = k a h := id rfl
theorem tr_some {α : Type} (a : α) (h : HS) : toRes (some a) h = .ok a h := id rfl
theorem gS_0 (d : D) (τ : List Sl) (h : HS) : getS (.val d :: τ) 0 h = .ok d h := id rfl
theorem gS_s (s : Sl) (τ : List Sl) (i : Nat) (h : HS) : getS (s :: τ) (i + 1) h = getS τ i h := id rfl
theorem gB_0 (d : D) (τ : List Sl) (h : HS) : getB (.val d :: τ) 0 h = .ok d h := id rfl
theorem gB_o (d : List D) (τ : List Sl) (h : HS) : getB (.own d :: τ) 0 h = .ok (.lst d) h := id rfl
theorem gB_s (s : Sl) (τ : List Sl) (i : Nat) (h : HS) : getB (s :: τ) (i + 1) h = getB τ i h := id rfl
def bDice : DS :=
    (seqS (setS 2 (ifR (cmpT iLt (nS 1) (biR lenG (consR (nS 0) aN))) (biR intG (consR (res2 atD (nS 0) (nS 1)) aN)) (res2 addD (res2 mulD (kD (.int 73)) (nS 1)) (kD (.int 41)))))
    (seqS (setS 3 (res2 iMod (biR maxsG (consR (kD (.int 0)) (consR (res2 iSub (biR absG (consR (nS 2) aN)) (res2 iPow (kD (.int 10)) (kD (.int 17)))) aN))) (res2 mulD (res2 iPow (kD (.int 10)) (kD (.int 57))) (res2 iPow (kD (.int 10)) (kD (.int 60))))))
    (rT (shR (lstR (consR (nS 3) (consR (res2 addD (res2 addD (res2 addD (res2 mulD (res2 iMod (biR absG (consR (nS 2) aN)) (kD (.int 1152921504606846883))) (kD (.int 59))) (res2 mulD (kD (.int 977)) (nS 1))) (res2 mulD (kD (.int 47)) (biR intG (consR (res2 iLt (nS 2) (kD (.int 0))) aN)))) (kD (.int 13))) (consR (kD (.int 0)) aN))))))))
def dDice : DF := fnR 4 bDice
def bRoll : DS :=
    (seqS (iteS (cmpT iGt (refIxR (nS 0) (kD (.int 0))) (kD (.int 0))) (seqS (setS 2 (res2 iMod (biR intG (consR (refIxR (nS 0) (kD (.int 0))) aN)) (nS 1)))
    (seqS (rputS 0 (kD (.int 0)) (res2 iDiv (refIxR (nS 0) (kD (.int 0))) (nS 1)))
    (rT (nS 2)))) nilS)
    (seqS (rputS 0 (kD (.int 2)) (res2 addD (refIxR (nS 0) (kD (.int 2))) (kD (.int 1))))
    (seqS (setS 3 (res2 iMod (biR intG (consR (res2 addD (refIxR (nS 0) (kD (.int 1))) (res2 mulD (kD (.int 99990001)) (refIxR (nS 0) (kD (.int 2))))) aN)) (kD (.int 2305843009213693403))))
    (seqS (setS 4 (res2 addD (res2 mulD (res2 iMod (biR intG (consR (res2 addD (res2 mulD (nS 3) (nS 3)) (res2 mulD (kD (.int 83)) (refIxR (nS 0) (kD (.int 2))))) aN)) (kD (.int 2305843009213693373))) (kD (.int 8675327))) (nS 3)))
    (rT (res2 iMod (biR intG (consR (res2 iDiv (nS 4) (kD (.int 65539))) aN)) (nS 1)))))))
def dRoll : DF := fnR 5 bRoll
def bPick : DS :=
    (rT (res2 atD (nS 1) (callR 2 dRoll (consR (nS 0) (consR (biR lenG (consR (nS 1) aN)) aN)))))
def dPick : DF := fnR 2 bPick
def bLotOf : DS :=
    (rT (biR tupG (consR (revR (biR sortsG (consR (nS 0) aN))) aN)))
def dLotOf : DF := pureF (fnR 1 bLotOf)
def bLDb : DS :=
    (seqS (setS 4 (res2 addD (kD (.int 1)) (callR 2 dRoll (consR (nS 0) (consR (biR minsG (consR (nS 3) (consR (callR 2 dPick (consR (nS 0) (consR (lstR (consR (kD (.int 1)) (consR (kD (.int 2)) (consR (kD (.int 3)) (consR (kD (.int 8)) aN))))) aN))) aN))) aN)))))
    (seqS (appS 2 (nS 4))
    (setS 3 (res2 iSub (nS 3) (nS 4)))))
def bLotDrawn : DS :=
    (seqS (par2 2 3 (ownM (lstR aN) (valM (nS 1) mN)))
    (seqS (whileS (cmpT iGt (nS 3) (kD (.int 0))) bLDb 64)
    (frS 2 (rT (callR 1 dLotOf (consR (nS 2) aN))))))
def dLotDrawn : DF := fnR 5 bLotDrawn
def IsDice (h : HS) (n : Nat) : Prop := ∃ L c t : Int, h[n]? = some [.int L, .int c, .int t]
theorem roll_ok {h : HS} {n : Nat} {m : Int} (hd : IsDice h n) (hm : 0 < m) (hl : m < 2 ^ 64) : ∃ r h', dRoll [.ref n, .int m] h = .ok (.int r) h' ∧ IsDice h' n ∧ 0 ≤ r ∧ r < m := by
  obtain ⟨L, c, t, hd⟩ := hd
  have hn : n < h.length := (List.getElem?_eq_some_iff.mp hd).1
  have hm0 : m ≠ 0 := by omega
  have hlog : m.natAbs.log2 < 9000 := by
    have : m.natAbs < 2 ^ 64 := by omega
    exact Nat.lt_of_lt_of_le ((Nat.log2_lt (by omega)).mpr this) (by decide)
  by_cases hL : 0 < L
  · refine ⟨L.fmod m, h.set n [.int (L.fdiv m), .int c, .int t], ?_, ⟨_, _, _, List.getElem?_set_self hn⟩, Int.fmod_nonneg_of_pos _ hm, Int.fmod_lt_of_pos _ hm⟩
    simp [dRoll, bRoll, ifR, nS, nB, kD, aN, tY, oN, oS, rT, xS, bkS, ctS, noS, rN, frS, mN, shR, mulOk, fnR, seqS, iteS, cmpT, setS, setN, nilS, RS.ofR, Res.bind, Res.nox, res1, res2, toRes, refIxR, rputS, atRef, L2.atI, L2.ixN, getS, getB, consR, callR, biR, addD, mulD, iAdd, iSub, iMul, iDiv, iMod, iPow, iLt, iLe, iGt, iGe, Sw.intD, intG, lenG, hd, hL, hm0, hlog, divOk, modOk]
  · refine ⟨((((c + 99990001 * (t + 1)).fmod 2305843009213693403 * (c + 99990001 * (t + 1)).fmod 2305843009213693403 + 83 * (t + 1)).fmod 2305843009213693373 * 8675327 + (c + 99990001 * (t + 1)).fmod 2305843009213693403).fdiv 65539).fmod m, h.set n [.int L, .int c, .int (t + 1)], ?_, ⟨_, _, _, List.getElem?_set_self hn⟩, Int.fmod_nonneg_of_pos _ hm, Int.fmod_lt_of_pos _ hm⟩
    have b1 := Int.fmod_nonneg_of_pos (c + 99990001 * (t + 1)) (b := 2305843009213693403) (by decide)
    have b2 := Int.fmod_lt_of_pos (c + 99990001 * (t + 1)) (b := 2305843009213693403) (by decide)
    have b3 : (c + 99990001 * (t + 1)).fmod 2305843009213693403 < 18446744073709551616 := by omega
    have b4 : -18446744073709551616 < (c + 99990001 * (t + 1)).fmod 2305843009213693403 := by omega
    have b5 : (65539 : Nat).log2 < 9000 := by decide +kernel
    simp [dRoll, bRoll, ifR, nS, nB, kD, aN, tY, oN, oS, rT, xS, bkS, ctS, noS, rN, frS, mN, shR, mulOk, fnR, seqS, iteS, cmpT, setS, setN, nilS, RS.ofR, Res.bind, Res.nox, res1, res2, toRes, refIxR, rputS, atRef, L2.atI, L2.ixN, getS, getB, consR, callR, biR, addD, mulD, iAdd, iSub, iMul, iDiv, iMod, iPow, iLt, iLe, iGt, iGe, Sw.intD, intG, lenG, hd, hL, hm0, hlog, divOk, modOk, List.getElem?_set_self hn, b3, b4, b5]
theorem pick_ok {h : HS} {n : Nat} {xs : List D} (hd : IsDice h n) (hx : xs ≠ []) (hl : xs.length < 2 ^ 64) : ∃ d h', dPick [.ref n, .lst xs] h = .ok d h' ∧ IsDice h' n ∧ d ∈ xs := by
  have h0 : 0 < xs.length := List.length_pos_iff.mpr hx
  obtain ⟨r, h', e, hd', r0, r1⟩ := roll_ok (m := xs.length) hd (by omega) (by omega)
  have hr : r.toNat < xs.length := by omega
  refine ⟨xs[r.toNat], h', ?_, hd', List.getElem_mem hr⟩
  simp [dPick, bPick, ifR, nS, nB, kD, aN, tY, oN, oS, rT, xS, bkS, ctS, noS, rN, frS, mN, shR, mulOk, fnR, seqS, iteS, cmpT, setS, setN, nilS, RS.ofR, Res.bind, Res.nox, res1, res2, toRes, refIxR, rputS, atRef, L2.atI, L2.ixN, getS, getB, consR, callR, biR, addD, mulD, iAdd, iSub, iMul, iDiv, iMod, iPow, iLt, iLe, iGt, iGe, Sw.intD, intG, lenG, e, atD, r0, r1, List.getElem?_eq_getElem hr]
theorem pickT_ok {h : HS} {n : Nat} {xs : List D} (hd : IsDice h n) (hx : xs ≠ []) (hl : xs.length < 2 ^ 64) : ∃ d h', dPick [.ref n, .tup xs] h = .ok d h' ∧ IsDice h' n ∧ d ∈ xs := by
  have h0 : 0 < xs.length := List.length_pos_iff.mpr hx
  obtain ⟨r, h', e, hd', r0, r1⟩ := roll_ok (m := xs.length) hd (by omega) (by omega)
  have hr : r.toNat < xs.length := by omega
  refine ⟨xs[r.toNat], h', ?_, hd', List.getElem_mem hr⟩
  simp [dPick, bPick, ifR, nS, nB, kD, aN, tY, oN, oS, rT, xS, bkS, ctS, noS, rN, frS, mN, shR, mulOk, fnR, seqS, iteS, cmpT, setS, setN, nilS, RS.ofR, Res.bind, Res.nox, res1, res2, toRes, refIxR, rputS, atRef, L2.atI, L2.ixN, getS, getB, consR, callR, biR, addD, mulD, iAdd, iSub, iMul, iDiv, iMod, iPow, iLt, iLe, iGt, iGe, Sw.intD, intG, lenG, e, atD, r0, r1, List.getElem?_eq_getElem hr]
theorem sl1000000 : (1000000 : Nat) < sizeLine := by rw [sizeLine_eq]; decide
theorem lot_loop {n : Nat} {tot : D} : ∀ (F : Nat) (left : Int) (xs : List Int) (s4 : Sl) (h : HS), IsDice h n → 0 ≤ left → left < F → xs.length + left < 1000 →
    ∃ ys s4' h', whileS (cmpT iGt (nS 3) (kD (.int 0))) bLDb F [.val (.ref n), .val tot, .own (xs.map .int), .val (.int left), s4] h = .nx [.val (.ref n), .val tot, .own ((xs ++ ys).map .int), .val (.int 0), s4'] h' ∧ IsDice h' n ∧ (∀ y ∈ ys, 1 ≤ y) ∧ ys.sum = left
  | 0, left, xs, s4, h, hd, h0, h1, h2 => by omega
  | F + 1, left, xs, s4, h, hd, h0, h1, h2 => by
    by_cases hz : left = 0
    · subst hz
      exact ⟨[], s4, h, by simp [whileS, ifR, nS, nB, kD, aN, tY, oN, oS, rT, xS, bkS, ctS, noS, rN, frS, mN, shR, mulOk, fnR, seqS, iteS, cmpT, setS, setN, nilS, RS.ofR, Res.bind, Res.nox, res1, res2, toRes, refIxR, rputS, atRef, L2.atI, L2.ixN, getS, getB, consR, callR, biR, addD, mulD, iAdd, iSub, iMul, iDiv, iMod, iPow, iLt, iLe, iGt, iGe, Sw.intD, intG, lenG], hd, (fun y m => by cases m), rfl⟩
    · have hp : 0 < left := by omega
      obtain ⟨d, ha, e1, hd1, m1⟩ := pick_ok (xs := [.int 1, .int 2, .int 3, .int 8]) hd (by simp) (by decide)
      obtain ⟨p, rfl, hp1⟩ : ∃ p : Int, d = .int p ∧ 1 ≤ p := by
        simp only [List.mem_cons, List.not_mem_nil, or_false] at m1
        rcases m1 with rfl | rfl | rfl | rfl
        · exact ⟨1, rfl, by omega⟩
        · exact ⟨2, rfl, by omega⟩
        · exact ⟨3, rfl, by omega⟩
        · exact ⟨8, rfl, by omega⟩
      obtain ⟨m, em, hm1, hm2⟩ : ∃ m : Int, (if p < left then p else left) = m ∧ 1 ≤ m ∧ m ≤ left := by
        by_cases hlt : p < left
        · exact ⟨p, if_pos hlt, hp1, by omega⟩
        · exact ⟨left, if_neg hlt, by omega, by omega⟩
      obtain ⟨r, hb, e2, hd2, r0, r1⟩ := roll_ok (m := m) hd1 (by omega) (by omega)
      obtain ⟨ys, s4', h', e3, hd3, hy, hs⟩ := lot_loop F (left - (1 + r)) (xs ++ [1 + r]) (.val (.int (1 + r))) hb hd2 (by omega) (by omega) (by simp; omega)
      have hlen : xs.length < sizeLine := Nat.lt_trans (by omega) sl1000000
      refine ⟨(1 + r) :: ys, s4', h', ?_, hd3, fun y my => ?_, by rw [List.sum_cons, hs]; omega⟩
      · rw [whileS]
        have e4 : bLDb [.val (.ref n), .val tot, .own (xs.map .int), .val (.int left), s4] h = .nx [.val (.ref n), .val tot, .own ((xs ++ [1 + r]).map .int), .val (.int (left - (1 + r))), .val (.int (1 + r))] hb := by
          have f4 : fits 4 = true := by unfold fits; exact decide_eq_true (Nat.le_of_lt (Nat.lt_trans (by decide) sl1000000))
          simp [bLDb, ifR, nS, nB, kD, aN, tY, oN, oS, rT, xS, bkS, ctS, noS, rN, frS, mN, shR, mulOk, fnR, seqS, iteS, cmpT, setS, setN, nilS, RS.ofR, Res.bind, Res.nox, res1, res2, toRes, refIxR, rputS, atRef, L2.atI, L2.ixN, getS, getB, consR, callR, biR, addD, mulD, iAdd, iSub, iMul, iDiv, iMod, iPow, iLt, iLe, iGt, iGe, Sw.intD, intG, lenG, lstR, f4, e1, minsG, minG, em, e2, appS, hlen]
        have c : cmpT iGt (nS 3) (kD (.int 0)) [.val (.ref n), .val tot, .own (xs.map .int), .val (.int left), s4] h = .ok true h := by simp [ifR, nS, nB, kD, aN, tY, oN, oS, rT, xS, bkS, ctS, noS, rN, frS, mN, shR, mulOk, fnR, seqS, iteS, cmpT, setS, setN, nilS, RS.ofR, Res.bind, Res.nox, res1, res2, toRes, refIxR, rputS, atRef, L2.atI, L2.ixN, getS, getB, consR, callR, biR, addD, mulD, iAdd, iSub, iMul, iDiv, iMod, iPow, iLt, iLe, iGt, iGe, Sw.intD, intG, lenG, hp]
        simp only [RS.ofR, c, e4, if_true]
        rw [List.append_cons xs (1 + r) ys]
        exact e3
      · rcases List.mem_cons.mp my with rfl | my
        · omega
        · exact hy y my
theorem noRefs_ints : ∀ xs : List Int, noRefs (xs.map .int) = true
  | [] => by rw [List.map_nil, noRefs]
  | x :: xs => by rw [List.map_cons, noRefs, noRefs_ints xs]; simp [D.noRef]
theorem lotOf_ok {h : HS} (xs : List Int) : dLotOf [.lst (xs.map .int)] h = .ok (.tup ((sortI xs).reverse.map .int)) h := by
  simp [dLotOf, bLotOf, pureF, pureR, noRefs, D.noRef, noRefs_ints, ifR, nS, nB, kD, aN, tY, oN, oS, rT, xS, bkS, ctS, noS, rN, frS, mN, shR, mulOk, fnR, seqS, iteS, cmpT, setS, setN, nilS, RS.ofR, Res.bind, Res.nox, res1, res2, toRes, refIxR, rputS, atRef, L2.atI, L2.ixN, getS, getB, consR, callR, biR, addD, mulD, iAdd, iSub, iMul, iDiv, iMod, iPow, iLt, iLe, iGt, iGe, Sw.intD, intG, lenG, sortsG, sortLG, ints_map, revR, tupG, List.map_reverse]
/-- a lot of n: positive, not ascending -/
structure Lot (l : List Int) (n : Int) : Prop where
  pos : ∀ y ∈ l, 1 ≤ y
  desc : l.Pairwise (· ≥ ·)
  sum : l.sum = n
theorem sum_perm {a b : List Int} (h : a.Perm b) : a.sum = b.sum := by
  induction h with
  | nil => rfl
  | cons x _ ih => simp [ih]
  | swap x y l => simp; omega
  | trans _ _ h1 h2 => exact h1.trans h2
theorem lot_sorted {ys : List Int} {n : Int} (h1 : ∀ y ∈ ys, 1 ≤ y) (h2 : ys.sum = n) : Lot (sortI ys).reverse n where
  pos := fun y m => h1 y ((sortI_perm ys).mem_iff.mp (List.mem_reverse.mp m))
  desc := List.pairwise_reverse.mpr (sortI_sorted ys)
  sum := by rw [sum_perm ((List.reverse_perm _).trans (sortI_perm ys)), h2]
theorem lotDrawn_ok {h : HS} {n : Nat} {m : Int} (hd : IsDice h n) (h0 : 0 ≤ m) (h1 : m < 64) : ∃ l h', dLotDrawn [.ref n, .int m] h = .ok (.tup (l.map .int)) h' ∧ IsDice h' n ∧ Lot l m := by
  obtain ⟨ys, s4', h', e, hd', hy, hs⟩ := lot_loop (tot := .int m) 64 m [] .un h hd h0 (by omega) (by simp; omega)
  refine ⟨_, h', ?_, hd', lot_sorted hy hs⟩
  have f0 : fits 0 = true := by unfold fits; exact decide_eq_true (Nat.zero_le _)
  have e1 : par2 2 3 (ownM (lstR aN) (valM (nS 1) mN)) [.val (.ref n), .val (.int m), .un, .un, .un] h = .nx [.val (.ref n), .val (.int m), .own (([] : List Int).map .int), .val (.int m), .un] h := by
    simp [ifR, nS, nB, kD, aN, tY, oN, oS, rT, xS, bkS, ctS, noS, rN, frS, mN, shR, mulOk, fnR, seqS, iteS, cmpT, setS, setN, nilS, RS.ofR, Res.bind, Res.nox, res1, res2, toRes, refIxR, rputS, atRef, L2.atI, L2.ixN, getS, getB, consR, callR, biR, addD, mulD, iAdd, iSub, iMul, iDiv, iMod, iPow, iLt, iLe, iGt, iGe, Sw.intD, intG, lenG, par2, ownM, valM, lstR, f0, ownSl]
  have e2 := lotOf_ok (h := h') ys
  simp only [dLotDrawn, bLotDrawn, fnR, List.map_cons, List.map_nil, List.length_cons, List.length_nil, List.replicate, List.cons_append, List.nil_append, seqS] at *
  simp only [e1, e, frS]
  simp [ifR, nS, nB, kD, aN, tY, oN, oS, rT, xS, bkS, ctS, noS, rN, frS, mN, shR, mulOk, fnR, seqS, iteS, cmpT, setS, setN, nilS, RS.ofR, Res.bind, Res.nox, res1, res2, toRes, refIxR, rputS, atRef, L2.atI, L2.ixN, getS, getB, consR, callR, biR, addD, mulD, iAdd, iSub, iMul, iDiv, iMod, iPow, iLt, iLe, iGt, iGe, Sw.intD, intG, lenG, frzT, e2]
theorem fits_of {n : Nat} (h : n ≤ 1000000) : fits n = true := decide_eq_true (Nat.le_trans h (Nat.le_of_lt sl1000000))
theorem rangeD_map : ∀ (n : Nat) (lo : Int), rangeD lo n = (List.range n).map fun i => .int (lo + (i : Nat))
  | 0, lo => rfl
  | n + 1, lo => by
    rw [rangeD, rangeD_map n, List.range_succ_eq_map, List.map_cons, List.map_map]
    congr 1
    · simp
    · refine List.map_congr_left fun i _ => ?_
      simp only [Function.comp]
      congr 1
      omega
theorem lcL_ok {α : Type} {g : GT} {tt : DT} {te : DE} {τ : List Sl} {h : HS} (enc : α → D) (p : α → Bool) (f : α → D) : ∀ (l : List α), (∀ x ∈ l, ∃ τ1, g (enc x) τ = some τ1 ∧ tt τ1 h = .ok (p x) h ∧ (p x = true → te τ1 h = .ok (f x) h)) →
    lcL g tt te τ (l.map enc) h = .ok ((l.filter p).map f) h
  | [], _ => rfl
  | x :: l, H => by
    obtain ⟨τ1, e1, e2, e3⟩ := H x List.mem_cons_self
    have ih := lcL_ok enc p f l fun y m => H y (List.mem_cons_of_mem _ m)
    rw [List.map_cons, lcL, e1]
    simp only [e2, Res.nox, Res.bind]
    by_cases hp : p x = true
    · rw [if_pos hp, e3 hp, List.filter_cons_of_pos hp]
      simp only [ih, Res.nox, Res.bind, List.map_cons]
    · rw [if_neg hp, ih, List.filter_cons_of_neg hp]
/-- .. every item taken -/
theorem lcL_all {α : Type} {g : GT} {te : DE} {τ : List Sl} {h : HS} (enc : α → D) (f : α → D) (l : List α) (H : ∀ x ∈ l, ∃ τ1, g (enc x) τ = some τ1 ∧ te τ1 h = .ok (f x) h) :
    lcL g (fun _ h => .ok true h) te τ (l.map enc) h = .ok (l.map f) h := by
  have := lcL_ok (tt := fun _ h => .ok true h) (τ := τ) (h := h) (g := g) (te := te) enc (fun _ => true) f l fun x m => by
    obtain ⟨τ1, e1, e2⟩ := H x m
    exact ⟨τ1, e1, rfl, fun _ => e2⟩
  rw [this, List.filter_eq_self.mpr fun _ _ => rfl]
theorem lcL2_all {α β : Type} {g g1 : GT} {it1 : DA} {vs1 : List Nat} {te : DE} {τ : List Sl} {h : HS} (enc : α → D) (enc1 : α → β → D) (sub : α → List β) (f : α → β → D) : ∀ (l : List α), (∀ x ∈ l, ∃ τ1, g (enc x) τ = some τ1 ∧ it1 τ1 h = .ok ((sub x).map (enc1 x)) h ∧ ∀ y ∈ sub x, ∃ τ2, g1 (enc1 x y) (wipeT τ1 vs1) = some τ2 ∧ te τ2 h = .ok (f x y) h) →
    lcL2 g (fun _ h => .ok true h) it1 vs1 g1 (fun _ h => .ok true h) te τ (l.map enc) h = .ok (l.flatMap fun x => (sub x).map (f x)) h
  | [], _ => rfl
  | x :: l, H => by
    obtain ⟨τ1, e1, e2, e3⟩ := H x List.mem_cons_self
    have ih := lcL2_all enc enc1 sub f l fun y m => H y (List.mem_cons_of_mem _ m)
    rw [List.map_cons, lcL2_cons, e1]
    simp only [Res.nox, Res.bind, if_true, e2]
    rw [lcL_all (enc1 x) (f x) (sub x) e3]
    simp only [ih, Res.nox, Res.bind, List.flatMap_cons]
/-- a loop: each turn leads on -/
theorem forS_inv {α : Type} {g : GT} {b : DS} (enc : α → D) (I : List α → List Sl → HS → Prop) : ∀ (l done : List α) (τ : List Sl) (h : HS), I done τ h →
    (∀ done x τ h, I done τ h → x ∈ l → ∃ τ1 τ2 h2, g (enc x) τ = some τ1 ∧ b τ1 h = .nx τ2 h2 ∧ I (done ++ [x]) τ2 h2) → ∃ τ2 h2, forS g b (l.map enc) τ h = .nx τ2 h2 ∧ I (done ++ l) τ2 h2
  | [], done, τ, h, i, _ => ⟨τ, h, rfl, by rw [List.append_nil]; exact i⟩
  | x :: l, done, τ, h, i, H => by
    obtain ⟨τ1, τ2, h2, e1, e2, i2⟩ := H done x τ h i List.mem_cons_self
    obtain ⟨τ3, h3, e3, i3⟩ := forS_inv enc I l (done ++ [x]) τ2 h2 i2 fun d y τ h i m => H d y τ h i (List.mem_cons_of_mem _ m)
    refine ⟨τ3, h3, ?_, by rw [List.append_cons]; exact i3⟩
    rw [List.map_cons, forS, e1]
    simp only [e2, e3]
theorem mulOk_l {i j : Int} (h1 : -(2 ^ 64) < i) (h2 : i < 2 ^ 64) : mulOk i j = true := by unfold mulOk; rw [decide_eq_true h1, decide_eq_true h2]; rfl
theorem mulOk_r {i j : Int} (h1 : -(2 ^ 64) < j) (h2 : j < 2 ^ 64) : mulOk i j = true := by unfold mulOk; rw [decide_eq_true h1, decide_eq_true h2]; simp
theorem dice_ok {h : HS} {ns : List Int} {i : Nat} : ∃ L c, dDice [.frl (ns.map .int), .int (i : Nat)] h = .ok (.ref h.length) (h ++ [[.int L, .int c, .int 0]]) := by
  obtain ⟨z, c1⟩ : ∃ z, ifR (cmpT iLt (nS 1) (biR lenG (consR (nS 0) aN))) (biR intG (consR (res2 atD (nS 0) (nS 1)) aN)) (res2 addD (res2 mulD (kD (.int 73)) (nS 1)) (kD (.int 41))) [.val (.frl (ns.map .int)), .val (.int (i : Nat)), .un, .un] h = .ok (.int z) h := by
    by_cases hi : i < ns.length
    · exact ⟨ns[i], by simp [ifR, nS, nB, kD, aN, tY, oN, oS, rT, xS, bkS, ctS, noS, rN, frS, mN, shR, mulOk, fnR, seqS, iteS, cmpT, setS, setN, nilS, RS.ofR, Res.bind, Res.nox, res1, res2, toRes, refIxR, rputS, atRef, L2.atI, L2.ixN, getS, getB, consR, callR, biR, addD, mulD, iAdd, iSub, iMul, iDiv, iMod, iPow, iLt, iLe, iGt, iGe, Sw.intD, intG, lenG, atD, hi]⟩
    · exact ⟨73 * i + 41, by simp [ifR, nS, nB, kD, aN, tY, oN, oS, rT, xS, bkS, ctS, noS, rN, frS, mN, shR, mulOk, fnR, seqS, iteS, cmpT, setS, setN, nilS, RS.ofR, Res.bind, Res.nox, res1, res2, toRes, refIxR, rputS, atRef, L2.atI, L2.ixN, getS, getB, consR, callR, biR, addD, mulD, iAdd, iSub, iMul, iDiv, iMod, iPow, iLt, iLe, iGt, iGe, Sw.intD, intG, lenG, atD, hi]⟩
  have p1 : ((10 : Int) ^ (17 : Nat)) = 100000000000000000 := by decide +kernel
  have p2 : ((10 : Int) ^ (57 : Nat)) = 1000000000000000000000000000000000000000000000000000000000 := by decide +kernel
  have p3 : ((10 : Int) ^ (60 : Nat)) = 1000000000000000000000000000000000000000000000000000000000000 := by decide +kernel
  have m1 : mulOk 1000000000000000000000000000000000000000000000000000000000 1000000000000000000000000000000000000000000000000000000000000 = true := by decide +kernel
  have m2 : ∀ j, mulOk 73 j = true := fun j => mulOk_l (by decide) (by decide)
  have m3 : ∀ j, mulOk 977 j = true := fun j => mulOk_l (by decide) (by decide)
  have m4 : ∀ j, mulOk 47 j = true := fun j => mulOk_l (by decide) (by decide)
  have m5 : ∀ j, mulOk j 59 = true := fun j => mulOk_r (by decide) (by decide)
  have f3 : fits 3 = true := fits_of (by decide)
  have e0 : powOk 10 17 = true ∧ powOk 10 57 = true ∧ powOk 10 60 = true := by decide +kernel
  refine ⟨(if 100000000000000000 < if z < 0 then -z else z then (if z < 0 then -z else z) - 100000000000000000 else 0 : Int).fmod 1000000000000000000000000000000000000000000000000000000000000000000000000000000000000000000000000000000000000000000000, (((if z < 0 then -z else z).fmod 1152921504606846883 * 59 + 977 * i + 47 * (if z < 0 then 1 else 0)) + 13), ?_⟩
  simp only [dDice, bDice, fnR, seqS, List.map_cons, List.map_nil, List.length_cons, List.length_nil, List.replicate, List.cons_append, List.nil_append, setS, c1]
  simp [nS, kD, aN, rT, shR, RS.ofR, Res.bind, res2, toRes, getS, consR, biR, maxsG, maxG, absG, addD, mulD, iAdd, iSub, iMul, iMod, iPow, iLt, intD, intG, p1, p2, p3, m1, m2, m3, m4, m5, f3, e0, modOk, lstR, sShare]
theorem IsDice.last {h : HS} {L c : Int} : IsDice (h ++ [[.int L, .int c, .int 0]]) h.length := ⟨L, c, 0, by simp⟩
/-! ### data that == can compare -/
def Cmp (n : Nat) (d : D) : Prop := ∃ p, d.py = some p ∧ p.canLay0 = true ∧ p.depth ≤ n
theorem cmp_int (i : Int) : Cmp 0 (.int i) := ⟨_, by rw [D.py], rfl, Nat.le_refl _⟩
theorem cmp_bl (i : Bool) : Cmp 0 (.bl i) := ⟨_, by rw [D.py], rfl, Nat.le_refl _⟩
theorem cmp_non : Cmp 0 .non := ⟨_, by rw [D.py], rfl, Nat.le_refl _⟩
theorem cmp_all {n : Nat} : ∀ {xs : List D}, (∀ x ∈ xs, Cmp n x) → ∃ ps, pyAll xs = some ps ∧ PyData.canLayAll0 ps = true ∧ PyData.depthAll ps ≤ n
  | [], _ => ⟨[], by rw [pyAll], rfl, Nat.zero_le _⟩
  | x :: xs, h => by
    obtain ⟨p, e1, e2, e3⟩ := h x List.mem_cons_self
    obtain ⟨ps, f1, f2, f3⟩ := cmp_all fun y m => h y (List.mem_cons_of_mem _ m)
    refine ⟨p :: ps, by rw [pyAll, e1, f1], ?_, Nat.max_le.mpr ⟨e3, f3⟩⟩
    show (p.canLay0 && PyData.canLayAll0 ps) = true
    rw [e2, f2]; rfl
theorem cmp_tup {n : Nat} {xs : List D} (h : ∀ x ∈ xs, Cmp n x) : Cmp (n + 1) (.tup xs) := by
  obtain ⟨ps, e1, e2, e3⟩ := cmp_all h
  exact ⟨.tuple ps, by rw [D.py, e1]; rfl, e2, Nat.succ_le_succ e3⟩
theorem cmp_lst {n : Nat} {xs : List D} (h : ∀ x ∈ xs, Cmp n x) : Cmp (n + 1) (.lst xs) := by
  obtain ⟨ps, e1, e2, e3⟩ := cmp_all h
  exact ⟨.list ps, by rw [D.py, e1]; rfl, e2, Nat.succ_le_succ e3⟩
theorem cmp_up {n m : Nat} {x : D} (h : Cmp n x) (l : n ≤ m) : Cmp m x := by
  obtain ⟨p, e1, e2, e3⟩ := h
  exact ⟨p, e1, e2, Nat.le_trans e3 l⟩
theorem eqB_same {n : Nat} {x : D} (h : Cmp n x) (l : n ≤ 64) : eqB x x = some true := by
  obtain ⟨p, e1, e2, e3⟩ := h
  have sh : SeqAt.shaped p = true := by unfold SeqAt.shaped; rw [e2, decide_eq_true (Nat.le_trans e3 l)]; rfl
  simp [eqB, e1, sh, SeqAt.eqv_refl p e2]
theorem ne_same {n : Nat} {x : D} (h : Cmp n x) (l : n ≤ 64) : neD x x = some (.bl false) := by simp [neD, eqB_same h l]
theorem eq_same {n : Nat} {x : D} (h : Cmp n x) (l : n ≤ 64) : eqD x x = some (.bl true) := by simp [eqD, eqB_same h l]
theorem cmp_ints (l : List Int) : Cmp 1 (.tup (l.map .int)) := cmp_tup fun x m => by
  obtain ⟨i, _, rfl⟩ := List.mem_map.mp m
  exact cmp_int i
theorem cmp_intsL (l : List Int) : Cmp 1 (.lst (l.map .int)) := cmp_lst fun x m => by
  obtain ⟨i, _, rfl⟩ := List.mem_map.mp m
  exact cmp_int i
theorem py_ints : ∀ l : List Int, pyAll (l.map .int) = some (l.map PyData.int)
  | [] => by rw [List.map_nil, pyAll]; rfl
  | x :: l => by rw [List.map_cons, pyAll, D.py, py_ints l]; rfl
theorem eqv_ints : ∀ a b : List Int, PyData.eqvAll (a.map PyData.int) (b.map PyData.int) = decide (a = b)
  | [], [] => rfl
  | [], _ :: _ => rfl
  | _ :: _, [] => rfl
  | x :: a, y :: b => by
    rw [List.map_cons, List.map_cons, PyData.eqvAll, eqv_ints a b, PyData.eqv]
    by_cases h : x = y <;> simp [h]
theorem eqB_int (i j : Int) : eqB (.int i) (.int j) = some (decide (i = j)) := by
  have sh : ∀ i, SeqAt.shaped (.int i) = true := fun i => rfl
  simp [eqB, D.py, sh, PyData.eqv]
  by_cases h : i = j <;> simp [h]
theorem eqB_ints (a b : List Int) : eqB (.tup (a.map .int)) (.tup (b.map .int)) = some (decide (a = b)) := by
  have sh : ∀ l : List Int, SeqAt.shaped (.tuple (l.map PyData.int)) = true := fun l => by
    obtain ⟨p, e1, e2, e3⟩ := cmp_ints l
    rw [D.py, py_ints] at e1
    cases e1
    unfold SeqAt.shaped
    rw [e2, decide_eq_true (Nat.le_trans e3 (by decide))]; rfl
  simp only [eqB, D.py, py_ints, Option.map_some, sh, Bool.and_self, if_true]
  rw [show PyData.eqv (.tuple (a.map PyData.int)) (.tuple (b.map PyData.int)) = PyData.eqvAll _ _ from rfl, eqv_ints]
theorem pureF_ok {φ : DF} {ds : List D} {d : D} {h : HS} (hn : noRefs ds = true) (r : φ ds [] = .ok d []) : pureF φ ds h = .ok d h := by
  unfold pureF
  rw [if_pos hn, r]
  rfl
/-- a loop: each turn leads on, the turn's place known -/
theorem forS_at {α : Type} {g : GT} {b : DS} (enc : α → D) (all : List α) (I : List α → List Sl → HS → Prop) (H : ∀ done x r τ h, all = done ++ x :: r → I done τ h → ∃ τ1 τ2 h2, g (enc x) τ = some τ1 ∧ b τ1 h = .nx τ2 h2 ∧ I (done ++ [x]) τ2 h2) :
    ∀ (l done : List α) (τ : List Sl) (h : HS), all = done ++ l → I done τ h → ∃ τ2 h2, forS g b (l.map enc) τ h = .nx τ2 h2 ∧ I all τ2 h2
  | [], done, τ, h, e, i => ⟨τ, h, rfl, by rw [e, List.append_nil]; exact i⟩
  | x :: l, done, τ, h, e, i => by
    obtain ⟨τ1, τ2, h2, e1, e2, i2⟩ := H done x l τ h e i
    obtain ⟨τ3, h3, e3, i3⟩ := forS_at enc all I H l (done ++ [x]) τ2 h2 (by rw [e, List.append_assoc]; rfl) i2
    refine ⟨τ3, h3, ?_, i3⟩
    rw [List.map_cons, forS, e1]
    simp only [e2, e3]
end Sw

/-! Sw, part O: a, b, c = x, y, z; sorted(.., reverse=True). -/
namespace Sw
open PySem PySem.Spec PyProof.Rows L2
section
variable {C : Cn} {a b c : Expr} {x y z : Str} {i j k : Nat} {px py pz pt pt2 pos : Pos} {kt k2 : Nat} {fs : List Sl → HS → Res (List Sl)}
/-- what the other slots hold, some of them set -/
theorem own_ne {K : PySem.W.Frag} {W0 W : Wd} {τ : List Sl} {σ : L2.St} (f : Frm K W0 W τ σ) {i j' : Nat} {s x' : Sl} {v w : V} (hij : j' = i → x'.isOwn = true → s = x' → w ≠ v) (hold : ∀ x' : Sl, x'.isOwn = true → τ[j']? = some x' → σ[j']? ≠ some (some w))
    (e' : (τ.set i s)[j']? = some x') (o' : x'.isOwn = true) (q : (σ.set i (some v))[j']? = some (some w)) : False := by
  by_cases hi : i = j'
  · subst hi
    by_cases hl : i < τ.length
    · rw [List.getElem?_set_self hl] at e'
      cases e'
      rw [List.getElem?_set_self (by rw [← f.len]; exact hl)] at q
      cases q
      exact hij rfl o' rfl rfl
    · rw [List.getElem?_eq_none (by simpa using hl)] at e'; cases e'
  · rw [List.getElem?_set_ne hi] at e' q
    exact hold x' o' e' q
theorem den_par3 (hi : C.N[i]? = some x) (hj : C.N[j]? = some y) (hk : C.N[k]? = some z) (hij : i ≠ j) (hik : i ≠ k) (hjk : j ≠ k) (hx : C.sc.names.lookup x = some .local) (hy : C.sc.names.lookup y = some .local) (hz : C.sc.names.lookup z = some .local) (ha : DenM C [a, b, c] fs)
    (hw : ∀ env, env.scope = C.sc → swappedStores [.Tuple [.Name x px, .Name y py, .Name z pz] kt pt] (.Tuple [a, b, c] k2 pt2) env = pure (some [x, y, z]))
    (hs : ∀ env, swapsWithSole [.Tuple [.Name x px, .Name y py, .Name z pz] kt pt] (.Tuple [a, b, c] k2 pt2) pos.line env = pure false) :
    DenS C (.Assign [.Tuple [.Name x px, .Name y py, .Name z pz] kt pt] (.Tuple [a, b, c] k2 pt2) pos) (par3 i j k fs) := fun X E ok => by
  obtain ⟨t, p, q⟩ := ha X E ok
  refine ⟨_, ps_par3 ok.calm ok.nd (by rw [ok.names]; exact hi) (by rw [ok.names]; exact hj) (by rw [ok.names]; exact hk) hij hik hjk (by rw [ok.scope]; exact hx) (by rw [ok.scope]; exact hy) (by rw [ok.scope]; exact hz) p (hw _ ok.scope) (hs _), fun W0 W τ σ h D l fr rh o => ?_⟩
  refine q W0 W τ σ h _ l fr rh (okS.ex l o fun ss s1 W1 vs l1 rh1 n o1 => ?_)
  match ss with
  | [] => exact o1.elim
  | [_] => exact o1.elim
  | [_, _] => exact o1.elim
  | _ :: _ :: _ :: _ :: _ => exact o1.elim
  | [s, t, m] =>
    obtain ⟨v, r1, rfl, n1, n', d⟩ := n
    obtain ⟨u, r2, rfl, n2, n'', d2⟩ := n'
    obtain ⟨w, r3, rfl, n3, e3, _⟩ := n''
    cases (show r3 = [] from e3)
    refine ⟨v, u, w, rfl, ?_⟩
    have f0 := fr.mono l1
    have f1 : Frm C.g.K W0 W1 (τ.set i s) (σ.set i (some v)) := f0.setG i (n1.at_ l rh) fun ho j' x' _ e' o' z => by
      obtain ⟨a, rfl, na⟩ := n1.no ho
      exact SlAt.there (fr.at_ j' x' e') o' z na
    have f2 : Frm C.g.K W0 W1 ((τ.set i s).set j t) ((σ.set i (some v)).set j (some u)) := f1.setG j (n2.at_ l rh) fun ho j' x' hj' e' o' z => by
      obtain ⟨a, rfl, na⟩ := n2.no ho
      refine own_ne f0 (fun _ o2 es => ?_) (fun x2 o2 e2 z2 => SlAt.there (fr.at_ j' x2 e2) o2 z2 na) e' o' z
      subst es
      exact fun e => d o2 0 t rfl ho (by rw [← e]; rfl)
    refine o1 W1 _ (l.trans l1) (.refl _) (f2.setG k (n3.at_ l rh) fun ho j' x' hk' e' o' z => ?_) rh1
    obtain ⟨a, rfl, na⟩ := n3.no ho
    refine own_ne f1 (fun _ o2 es => ?_) (fun x2 o2 e2 z2 => own_ne f0 (fun _ o3 es => ?_) (fun x3 o3 e3 z3 => SlAt.there (fr.at_ j' x3 e3) o3 z3 na) e2 o2 z2) e' o' z
    · subst es
      exact fun e => d2 o2 0 m rfl ho (by rw [← e]; rfl)
    · subst es
      exact fun e => d o3 1 m rfl ho (by rw [← e]; rfl)
end
/-! ### sorted(xs, reverse=True) of ints -/
section
variable {C : Cn} {x : Str} {a : Expr} {fa : DE} {p pos kp kq : Pos} {j : Nat}
def sortRR (f : DE) : DE := fun τ h => (f τ h).bind fun d h1 => match d with
  | .lst xs => match intsD xs with
    | some is => .ok (.lst ((sortI is).reverse.map .int)) h1
    | none => .bad
  | _ => .bad
theorem ge_unique {l m : List Int} (h : l.Perm m) (hl : l.Pairwise (· ≥ ·)) (hm : m.Pairwise (· ≥ ·)) : l = m := by
  have := sorted_unique ((List.reverse_perm l).trans (h.trans (List.reverse_perm m).symm)) (List.pairwise_reverse.mpr hl) (List.pairwise_reverse.mpr hm)
  exact List.reverse_inj.mp this
theorem den_sortRev (hg : glB C.sc x = true) (hm : C.g.mg x = none) (hv : bootBuiltins x = some (.builtin "sorted")) (ha : DenB C a fa)
    (h1 : ∀ env, backTo pos (starEach [a] env) = (false, eval a env) :: backTo pos (starEach [] env)) (h2 : ∀ env, (backTo pos (starEach [a] env)).any (·.1) = false)
    (h3 : ∀ env, (backToKw pos (keywordEach [⟨some (Str.ofString "reverse"), .Constant (.bool true) j kq, kp⟩] env)).all (·.1.isSome) = true) (h4 : ∀ env, (backToKw pos (keywordEach [⟨some (Str.ofString "reverse"), .Constant (.bool true) j kq, kp⟩] env)).any (·.1.isNone) = false)
    (h5 : ∀ env, (backToKw pos (keywordEach [⟨some (Str.ofString "reverse"), .Constant (.bool true) j kq, kp⟩] env)).filterMap (·.1) = [Str.ofString "reverse"]) (h6 : ∀ env, starEach [a] env = (false, eval a env) :: starEach [] env) :
    DenN C (.Call (.Name x p) [a] [⟨some (Str.ofString "reverse"), .Constant (.bool true) j kq, kp⟩] pos) (sortRR fa) := fun X E ok => by
  obtain ⟨t, pa, q⟩ := ha X E ok
  obtain ⟨g1, g2, g3⟩ := glB_ok ok hg
  refine ⟨_, pe_callBK (cr_sortedRev (b := true)) g1 (by rw [ok.mg]; exact hm) hv (pa_cons pa pa_nil (h6 _)) (pk_cons pe_bl pk_nil) g3 g2 (h1 _) (h2 _) (h3 _) (h4 _) (h5 _), fun W0 W τ σ h Q l fr rh o => ?_⟩
  refine q W0 W τ σ h _ l fr rh (okG.bind o fun d s1 W1 v l1 rh1 b1 o1 => ?_)
  cases d with
  | lst xs =>
    obtain ⟨b, us, rfl, sq, r⟩ := b1.lst
    have o1 : okG C.g.K C.g.mg (NewR C.g.K W) W1 (fun c dd H => E c dd σ H) Q (match intsD xs with | some is => Res.ok (.lst ((sortI is).reverse.map .int)) s1 | none => .bad) := o1
    cases e : intsD xs with
    | none => rw [e] at o1; exact o1.elim
    | some is =>
      rw [e] at o1
      rw [ints_reps r e] at sq
      refine ⟨b, is, rfl, rfl, .inl (.inl sq), fun ns np hp hs hn => ?_⟩
      have hs' : ns.Pairwise (· ≥ ·) := hs
      have := ge_unique (hp.trans ((List.reverse_perm _).trans (sortI_perm is)).symm) hs' (List.pairwise_reverse.mpr (sortI_sorted is))
      subst this
      obtain ⟨l2, rh2, n⟩ := new_lst hn rh1 (reps_ints _)
      exact o1 _ _ l2 rh2 (n.of l1 rh1)
  | _ => exact o1.elim
end
end Sw

/-! Sw, part P: sorted of lists of data. -/
namespace Sw
open PySem PySem.Spec PyProof.Rows L2
open PySem.W (dataLe AllAlike Sortable EachIs)
section
variable {X : Cx}
def rSortD (K : PySem.W.Frag) : List V → Hp → VK → Prop := fun vs H Q => ∃ (a : Addr) (us : List V) (ds : List PyData), vs = [V.ref a] ∧ SqL K H a us ∧ DpAll K H us ds ∧ AllAlike ds ∧ Sortable ds ∧ (∀ d ∈ ds, d.depth ≤ 60) ∧
  ∀ p, H p = none → Q (.ref p) (upd H p (.lst (((us.zip ds).mergeSort (dataLe false (·.2))).map (·.1))))
theorem each_rel : ∀ {us : List V} {its : List Value} {ds : List PyData}, Vals us its → us.length = ds.length → EachIs (fun u (b : V × PyData) => RelV b.1 u) its (us.zip ds)
  | [], _, [], .nil, _ => .nil
  | u :: us, _, d :: ds, .cons r t, h => .cons r (each_rel t (by simpa using h))
theorem dp_len {K : PySem.W.Frag} {H : Hp} : ∀ {us : List V} {ds : List PyData}, DpAll K H us ds → us.length = ds.length
  | _, _, .nil => rfl
  | _, _, .cons _ t => by rw [List.length_cons, List.length_cons, dp_len t]
theorem each_reads {pins : List (Addr × Obj)} {σ : L2.St} {H : Hp} {s : Shared} (I : Inv X pins σ H s) : ∀ {us : List V} {its : List Value} {ds : List PyData}, Vals us its → DpAll X.K H us ds → EachIs (fun v (b : V × PyData) => ∃ as, Reads s.heap v b.2 as) its (us.zip ds)
  | _, _, _, .nil, .nil => .nil
  | _, _, _, .cons r t, .cons h k => .cons (Dp.reads I _ _ _ h r) (each_reads I t k)
theorem vals_each : ∀ {out : List Value} {bs : List (V × PyData)}, EachIs (fun u (b : V × PyData) => RelV b.1 u) out bs → Vals (bs.map (·.1)) out
  | _, _, .nil => .nil
  | _, _, .cons r t => .cons r (vals_each t)
theorem zip_snd {α β : Type} : ∀ {a : List α} {b : List β}, a.length = b.length → (a.zip b).map (·.2) = b
  | [], [], _ => rfl
  | x :: a, y :: b, h => by rw [List.zip_cons_cons, List.map_cons, zip_snd (by simpa using h)]
theorem cr_sortD (hu : X.A.units + 64 < cLine) : CallR X (.builtin "sorted") (rSortD X.K) := by
  intro pins s σ H vs us' Q I r h
  obtain ⟨a, us, ds, rfl, hs, hd, hal, hsb, hdep, q⟩ := h
  obtain ⟨its, rv, hl, hz⟩ := I.list hs
  rw [Vals.ref1 r]
  have hlen := dp_len hd
  have zs := zip_snd hlen
  refine PySem.W.sorted_data (bs := us.zip ds) (enc := (·.2)) (R := fun u (b : V × PyData) => RelV b.1 u) hl.isList (each_rel rv hlen) (each_reads I rv hd) (by rw [zs]; exact hal) (by rw [zs]; exact hsb) (by rw [List.length_zip, ← hlen, Nat.min_self]; exact hz) (fun b hb => ?_) fun out ho eo => ?_
  · have := hdep b.2 (by rw [← zs]; exact List.mem_map_of_mem hb)
    omega
  · obtain ⟨ep, he⟩ := PyProof.Rows.sortedAll_at s.heap its out.toArray
    have vo := vals_each eo
    have fit : (((us.zip ds).mergeSort (dataLe false (·.2))).map (·.1)).length ≤ sizeLine := by
      rw [vo.length, ho, List.length_zip, ← hlen, Nat.min_self]; exact hz
    refine ⟨.ref _, _, I.laid (o := .lst (((us.zip ds).mergeSort (dataLe false (·.2))).map (·.1))) (t' := s.toks) (fun _ _ => PyProof.Rows.sortedAll_old) (Nat.le_succ _) ⟨fit, out, ep, vo, he⟩, rfl, q _ (I.hok.fresh (Nat.le_succ _))⟩
end
/-! ### the same by putting in -/
def insB {α : Type} (le : α → α → Bool) (x : α) : List α → List α
  | [] => [x]
  | y :: r => if le x y then x :: y :: r else y :: insB le x r
def sortB {α : Type} (le : α → α → Bool) : List α → List α
  | [] => []
  | x :: r => insB le x (sortB le r)
theorem insB_at {α : Type} {le : α → α → Bool} {x : α} : ∀ {l1 l2 : List α}, (∀ b ∈ l1, (!le x b) = true) → (∀ b, l2.head? = some b → le x b = true) → insB le x (l1 ++ l2) = l1 ++ x :: l2
  | [], [], _, _ => rfl
  | [], y :: r, _, h => by
    show (if le x y then x :: y :: r else y :: insB le x r) = _
    rw [if_pos (h y rfl)]; rfl
  | y :: l1, l2, h1, h2 => by
    have hy := h1 y List.mem_cons_self
    show (if le x y then x :: y :: (l1 ++ l2) else y :: insB le x (l1 ++ l2)) = _
    rw [if_neg (by simpa using hy), insB_at (fun b m => h1 b (List.mem_cons_of_mem _ m)) h2]
    rfl
theorem mergeSort_eq {α : Type} {le : α → α → Bool} (tr : ∀ a b c : α, le a b → le b c → le a c) (to : ∀ a b : α, le a b || le b a) : ∀ l : List α, l.mergeSort le = sortB le l
  | [] => by simp [sortB]
  | x :: l => by
    obtain ⟨l1, l2, e1, e2, h⟩ := List.mergeSort_cons tr to x l
    have ps : (l1 ++ x :: l2).Pairwise fun a b => le a b = true := by rw [← e1]; exact List.pairwise_mergeSort tr to _
    rw [e1, sortB, ← mergeSort_eq tr to l, e2, insB_at h fun b hb => ?_]
    have := (List.pairwise_append.mp ps).2.1
    cases l2 with
    | nil => cases hb
    | cons y r => cases hb; exact (List.pairwise_cons.mp this).1 _ List.mem_cons_self
abbrev lePy {α : Type} : α × PyData → α × PyData → Bool := dataLe false (·.2)
theorem lePy_eq {α : Type} (l : List (α × PyData)) : l.mergeSort lePy = sortB lePy l :=
  mergeSort_eq (fun a b c => (PySem.W.sortLe_total _ _ _).trans a b c) (fun a b => by rw [Bool.or_eq_true]; exact (PySem.W.sortLe_total _ _ _).total a b) l
/-- the same data stand for the same order -/
inductive SameZ (K : PySem.W.Frag) (W : Wd) : List (D × PyData) → List (V × PyData) → Prop
  | nil : SameZ K W [] []
  | cons {x : D} {v : V} {d : PyData} {a : List (D × PyData)} {b : List (V × PyData)} : Rep K W x v → SameZ K W a b → SameZ K W ((x, d) :: a) ((v, d) :: b)
theorem SameZ.ins {K : PySem.W.Frag} {W : Wd} {x : D} {v : V} {d : PyData} (h : Rep K W x v) : ∀ {a : List (D × PyData)} {b : List (V × PyData)}, SameZ K W a b → SameZ K W (insB lePy (x, d) a) (insB lePy (v, d) b)
  | _, _, .nil => .cons h .nil
  | _, _, .cons (x := y) (v := u) (d := e) (a := a) (b := b) r t => by
    show SameZ K W (if lePy (x, d) (y, e) then (x, d) :: (y, e) :: a else (y, e) :: insB lePy (x, d) a) (if lePy (v, d) (u, e) then (v, d) :: (u, e) :: b else (u, e) :: insB lePy (v, d) b)
    have q : (lePy (x, d) (y, e)) = lePy (v, d) (u, e) := rfl
    rw [q]
    by_cases c : lePy (v, d) (u, e) = true
    · rw [if_pos c, if_pos c]; exact .cons h (.cons r t)
    · rw [if_neg c, if_neg c]; exact .cons r (t.ins h)
theorem SameZ.sort {K : PySem.W.Frag} {W : Wd} : ∀ {a : List (D × PyData)} {b : List (V × PyData)}, SameZ K W a b → SameZ K W (sortB lePy a) (sortB lePy b)
  | _, _, .nil => .nil
  | _, _, .cons h t => (t.sort).ins h
theorem SameZ.reps {K : PySem.W.Frag} {W : Wd} : ∀ {a : List (D × PyData)} {b : List (V × PyData)}, SameZ K W a b → Reps K W (a.map (·.1)) (b.map (·.1))
  | _, _, .nil => .nil
  | _, _, .cons h t => .cons h t.reps
theorem SameZ.of {K : PySem.W.Frag} {W : Wd} : ∀ {xs : List D} {vs : List V} {ds : List PyData}, Reps K W xs vs → xs.length = ds.length → SameZ K W (xs.zip ds) (vs.zip ds)
  | [], vs, [], h, _ => by rw [Reps] at h; subst h; exact .nil
  | x :: xs, vs, d :: ds, h, e => by
    rw [Reps] at h
    obtain ⟨v, r, rfl, h1, h2⟩ := h
    exact .cons h1 (SameZ.of h2 (by simpa using e))
theorem pyAll_len : ∀ {xs : List D} {ds : List PyData}, pyAll xs = some ds → xs.length = ds.length
  | [], ds, h => by rw [pyAll] at h; cases h; rfl
  | x :: xs, ds, h => by
    rw [pyAll] at h
    split at h
    · split at h
      · rename_i e
        cases h
        rw [List.length_cons, List.length_cons, pyAll_len e]
      · cases h
    · cases h
def tupNe : PyData → Bool
  | .tuple (_ :: _) => true
  | _ => false
def flatK : PyData → Bool
  | .none => false
  | .tuple _ => false
  | _ => true
/-- these data can be sorted -/
def sortOk (ds : List PyData) : Bool := (ds.all fun d => ds.all fun e => PySem.W.alike d e) && ((ds.all tupNe || ds.all flatK) && ds.all fun d => decide (d.depth ≤ 60))
theorem sortOk_ok {ds : List PyData} (h : sortOk ds = true) : AllAlike ds ∧ Sortable ds ∧ ∀ d ∈ ds, d.depth ≤ 60 := by
  unfold sortOk at h
  simp only [Bool.and_eq_true, Bool.or_eq_true, List.all_eq_true, decide_eq_true_eq] at h
  obtain ⟨h1, h2, h3⟩ := h
  refine ⟨fun d m e m' => h1 d m e m', ?_, h3⟩
  rcases h2 with h2 | h2
  · refine .inl fun d m => ?_
    have := h2 d m
    unfold tupNe at this
    split at this
    · exact ⟨_, _, rfl⟩
    · cases this
  · refine .inr fun d m => ?_
    have := h2 d m
    unfold flatK at this
    split at this
    · cases this
    · cases this
    · rename_i a b
      exact ⟨fun z => a z, fun xs z => b xs z⟩
def sortDG : List D → Option D
  | [.lst xs] => match pyAll xs with
    | some ds => if sortOk ds then some (.lst ((sortB lePy (xs.zip ds)).map (·.1))) else none
    | none => none
  | _ => none
section
variable {C : Cn}
theorem cn_sortD : CalN C (.builtin "sorted") sortDG := fun X E ok => ⟨_, cr_sortD ok.room.units, fun W h ds vs d Q rh b e k => by
  unfold sortDG at e
  split at e
  · obtain ⟨v, rfl, b1⟩ := BorsAll.one b
    obtain ⟨a, us, rfl, sq, r⟩ := b1.lst
    split at e
    · rename_i ps ep
      split at e
      · rename_i hok
        cases e
        obtain ⟨h1, h2, h3⟩ := sortOk_ok hok
        refine ⟨a, us, ps, rfl, .of sq, by rw [ok.K]; exact Reps.dp _ us ps r ep, h1, h2, h3, fun p np => ?_⟩
        have z := (SameZ.of r (pyAll_len ep)).sort.reps
        rw [← lePy_eq (us.zip ps)] at z
        obtain ⟨l, rh', n⟩ := new_lst np rh z
        exact k _ _ l rh' n
      · cases e
    · cases e
  · cases e⟩
end
section
variable {X : Cx}
/-- a list of at most one item -/
def rSort1 (K : PySem.W.Frag) : List V → Hp → VK → Prop := fun vs H Q => ∃ (a : Addr) (us : List V), vs = [V.ref a] ∧ SqL K H a us ∧ us.length ≤ 1 ∧ ∀ p, H p = none → Q (.ref p) (upd H p (.lst us))
theorem perm_one {α : Type} {a b : List α} (h : a.Perm b) (hb : b.length ≤ 1) : a = b := by
  match b, hb with
  | [], _ => exact List.Perm.eq_nil h
  | [x], _ => exact List.perm_singleton.mp h
theorem cr_sort1 : CallR X (.builtin "sorted") (rSort1 X.K) := by
  intro pins s σ H vs us' Q I r h
  obtain ⟨a, us, rfl, hs, h1, q⟩ := h
  obtain ⟨its, rv, hl, hz⟩ := I.list hs
  rw [Vals.ref1 r]
  have e0 := rv.length
  refine SrtO.sorted_ord SrtO.swo_int hl.isList (by rw [← e0]; exact hz) (fun h2 _ _ _ _ => by omega) fun out _ hb => ?_
  have e1 : out = its := perm_one hb.perm (by omega)
  subst e1
  obtain ⟨ep, he⟩ := PyProof.Rows.sortedAll_at s.heap out out.toArray
  exact ⟨.ref _, _, I.laid (o := .lst us) (t' := s.toks) (fun _ _ => PyProof.Rows.sortedAll_old) (Nat.le_succ _) ⟨hz, out, ep, rv, he⟩, rfl, q _ (I.hok.fresh (Nat.le_succ _))⟩
end
section
variable {C : Cn}
def sort1G : List D → Option D
  | [.lst xs] => if xs.length ≤ 1 then some (.lst xs) else none
  | _ => none
theorem cn_sort1 : CalN C (.builtin "sorted") sort1G := fun X E ok => ⟨_, cr_sort1, fun W h ds vs d Q rh b e k => by
  unfold sort1G at e
  split at e
  · obtain ⟨v, rfl, b1⟩ := BorsAll.one b
    obtain ⟨a, us, rfl, sq, r⟩ := b1.lst
    split at e
    · rename_i h1
      cases e
      refine ⟨a, us, rfl, .of sq, by rw [← r.length]; exact h1, fun p np => ?_⟩
      obtain ⟨l, rh', n⟩ := new_lst np rh r
      exact k _ _ l rh' n
    · cases e
  · cases e⟩
abbrev sortsD : List D → Option D := fun x => (sortsG x).or ((sortDG x).or (sort1G x))
theorem cn_sortsD : CalN C (.builtin "sorted") sortsD := cn_sorts.or (cn_sortD.or cn_sort1)
end
end Sw

/-! Sw, part Q: lots: columns, squares. -/
namespace Sw
theorem lotLe : ∀ {l : List Int} {n : Int}, (∀ y ∈ l, 1 ≤ y) → l.sum = n → (∀ y ∈ l, y ≤ n) ∧ (l.length : Int) ≤ n
  | [], n, _, h => ⟨(fun y m => by cases m), by simp at h; simp; omega⟩
  | x :: l, n, hp, h => by
    obtain ⟨h1, h2⟩ := lotLe (l := l) (fun y m => hp y (List.mem_cons_of_mem _ m)) rfl
    have hx := hp x List.mem_cons_self
    rw [List.sum_cons] at h
    refine ⟨fun y m => ?_, by rw [List.length_cons]; omega⟩
    rcases List.mem_cons.mp m with rfl | m
    · omega
    · have := h1 y m
      omega
/-- the columns of a lot -/
def conj (l : List Int) : List Int := (List.range (l.headD 0).toNat).map fun c : Nat => ((l.filter fun x => decide ((c : Int) < x)).length : Int)
/-- the squares, row by row -/
def sqs (k : Nat) : List Int → List (Nat × Nat)
  | [] => []
  | x :: l => ((List.range x.toNat).map fun c => (k, c)) ++ sqs (k + 1) l
theorem sqs_mem : ∀ {l : List Int} {k : Nat} {p : Nat × Nat}, p ∈ sqs k l ↔ ∃ (i : Nat) (x : Int), p.1 = k + i ∧ l[i]? = some x ∧ (p.2 : Int) < x
  | [], k, p => by simp [sqs]
  | x :: l, k, p => by
    rw [sqs, List.mem_append, sqs_mem (l := l)]
    constructor
    · rintro (h | ⟨i, y, h1, h2, h3⟩)
      · obtain ⟨c, hc, rfl⟩ := List.mem_map.mp h
        have := List.mem_range.mp hc
        exact ⟨0, x, rfl, rfl, by show (c : Int) < x; omega⟩
      · exact ⟨i + 1, y, by omega, by simpa using h2, h3⟩
    · rintro ⟨i, y, h1, h2, h3⟩
      cases i with
      | zero =>
        simp at h2
        subst h2
        refine .inl (List.mem_map.mpr ⟨p.2, List.mem_range.mpr (by omega), ?_⟩)
        obtain ⟨a, b⟩ := p
        simp at h1 ⊢
        exact h1.symm
      | succ i => exact .inr ⟨i, y, by omega, by simpa using h2, h3⟩
theorem sqs_nodup : ∀ (l : List Int) (k : Nat), (sqs k l).Nodup
  | [], k => List.nodup_nil
  | x :: l, k => by
    rw [sqs, List.nodup_append]
    refine ⟨?_, sqs_nodup l (k + 1), fun a ha b hb e => ?_⟩
    · refine List.Pairwise.map _ ?_ List.nodup_range
      intro a b h e
      exact h (by simpa using e)
    · obtain ⟨c, _, rfl⟩ := List.mem_map.mp ha
      obtain ⟨i, y, h1, _⟩ := sqs_mem.mp hb
      subst e
      simp at h1
      omega
theorem sqs_sum : ∀ {l : List Int} {k : Nat}, (∀ y ∈ l, 0 ≤ y) → ((sqs k l).length : Int) = l.sum
  | [], k, _ => rfl
  | x :: l, k, h => by
    have ih := sqs_sum (l := l) (k := k + 1) fun y m => h y (List.mem_cons_of_mem _ m)
    have hx := h x List.mem_cons_self
    rw [sqs, List.length_append, List.length_map, List.length_range, List.sum_cons]
    omega
/-- in a list that does not ascend the greater ones stand first -/
theorem count_lt : ∀ {l : List Int} (c : Int) (i : Nat), l.Pairwise (· ≥ ·) → (i < (l.filter fun x => decide (c < x)).length ↔ ∃ x, l[i]? = some x ∧ c < x)
  | [], c, i, _ => by simp
  | y :: l, c, i, h => by
    have hl := (List.pairwise_cons.mp h).2
    have hy := (List.pairwise_cons.mp h).1
    by_cases hc : c < y
    · rw [List.filter_cons_of_pos (by simpa using hc), List.length_cons]
      cases i with
      | zero => simp [hc]
      | succ i =>
        rw [Nat.add_lt_add_iff_right, count_lt c i hl]
        simp
    · rw [List.filter_cons_of_neg (by simpa using hc)]
      have z : (l.filter fun x => decide (c < x)) = [] := List.filter_eq_nil_iff.mpr fun x m => by
        have := hy x m
        simp
        omega
      rw [z]
      constructor
      · intro q; simp at q
      · rintro ⟨x, h1, h2⟩
        cases i with
        | zero => simp at h1; omega
        | succ i =>
          have := hy x (List.mem_of_getElem? (by simpa using h1))
          omega
theorem conj_get (l : List Int) (j : Nat) : (conj l)[j]? = if j < (l.headD 0).toNat then some (((l.filter fun x => decide ((j : Int) < x)).length : Int)) else none := by
  unfold conj
  rw [List.getElem?_map]
  by_cases h : j < (l.headD 0).toNat
  · rw [List.getElem?_range h, if_pos h]; rfl
  · rw [List.getElem?_eq_none (by simpa using h), if_neg h]; rfl
theorem conj_mem {l : List Int} (hd : l.Pairwise (· ≥ ·)) (i j : Nat) : (j, i) ∈ sqs 0 (conj l) ↔ (i, j) ∈ sqs 0 l := by
  rw [sqs_mem, sqs_mem]
  constructor
  · rintro ⟨a, x, h1, h2, h3⟩
    simp only [Nat.zero_add] at h1
    subst h1
    rw [conj_get] at h2
    split at h2
    · cases h2
      have : i < (l.filter fun x => decide ((j : Int) < x)).length := by simpa using h3
      obtain ⟨x, h4, h5⟩ := (count_lt (j : Int) i hd).mp this
      exact ⟨i, x, by simp, h4, h5⟩
    · cases h2
  · rintro ⟨a, x, h1, h2, h3⟩
    simp only [Nat.zero_add] at h1
    subst h1
    refine ⟨j, ((l.filter fun x => decide ((j : Int) < x)).length : Int), by simp, ?_, ?_⟩
    · rw [conj_get, if_pos]
      cases l with
      | nil => simp at h2
      | cons y r =>
        have : x ≤ y := by
          rcases List.mem_cons.mp (List.mem_of_getElem? h2) with rfl | m
          · exact Int.le_refl _
          · exact (List.pairwise_cons.mp hd).1 x m
        have h3' : (j : Int) < x := h3
        show j < y.toNat
        omega
    · have := (count_lt (j : Int) i hd).mpr ⟨x, h2, h3⟩
      show (i : Int) < _
      omega
theorem perm_of_nodup {α : Type} [BEq α] [LawfulBEq α] {a b : List α} (ha : a.Nodup) (hb : b.Nodup) (h : ∀ x, x ∈ a ↔ x ∈ b) : a.Perm b := by
  rw [List.perm_iff_count]
  intro x
  by_cases hx : x ∈ a
  · rw [List.Nodup.count ha, List.Nodup.count hb, if_pos hx, if_pos ((h x).mp hx)]
  · rw [List.count_eq_zero_of_not_mem hx, List.count_eq_zero_of_not_mem fun m => hx ((h x).mpr m)]
/-- the columns' squares: the squares turned -/
theorem conj_perm {l : List Int} (hd : l.Pairwise (· ≥ ·)) : (sqs 0 (conj l)).Perm ((sqs 0 l).map fun p => (p.2, p.1)) := by
  refine perm_of_nodup (sqs_nodup _ _) ?_ fun p => ?_
  · refine List.Pairwise.map _ ?_ (sqs_nodup l 0)
    intro a b h e
    apply h
    obtain ⟨a1, a2⟩ := a
    obtain ⟨b1, b2⟩ := b
    simp at e
    simp [e]
  · obtain ⟨j, i⟩ := p
    rw [conj_mem hd, List.mem_map]
    constructor
    · intro h; exact ⟨(i, j), h, rfl⟩
    · rintro ⟨⟨a, b⟩, h, e⟩
      simp at e
      rw [← e.1, ← e.2]
      exact h
theorem Lot.conj {l : List Int} {n : Int} (h : Lot l n) : Lot (conj l) n where
  pos := fun y m => by
    obtain ⟨j, hj⟩ := List.getElem?_of_mem m
    rw [conj_get] at hj
    split at hj
    · rename_i hlt
      cases hj
      have : 0 < (l.filter fun x => decide ((j : Int) < x)).length := by
        rw [count_lt (j : Int) 0 h.desc]
        cases l with
        | nil => simp at hlt
        | cons y r => exact ⟨y, rfl, by simp at hlt; omega⟩
      omega
    · cases hj
  desc := by
    rw [List.pairwise_iff_getElem]
    intro i j hi hj hij
    have e1 := conj_get l i
    have e2 := conj_get l j
    rw [List.getElem?_eq_getElem hi] at e1
    rw [List.getElem?_eq_getElem hj] at e2
    split at e1
    · split at e2
      · have e1' := Option.some.inj e1
        have e2' := Option.some.inj e2
        rw [e1', e2']
        have := List.countP_mono_left (l := l) (p := fun x => decide ((j : Int) < x)) (q := fun x => decide ((i : Int) < x)) fun x _ q => by
          simp only [decide_eq_true_eq] at q ⊢
          omega
        rw [List.countP_eq_length_filter, List.countP_eq_length_filter] at this
        omega
      · cases e2
    · cases e1
  sum := by
    have p : ∀ y ∈ l, 0 ≤ y := fun y m => by have := h.pos y m; omega
    rw [← sqs_sum (k := 0) fun y m => ?_, (conj_perm h.desc).length_eq, List.length_map, sqs_sum p, h.sum]
    obtain ⟨j, hj⟩ := List.getElem?_of_mem m
    rw [conj_get] at hj
    split at hj
    · cases hj; omega
    · cases hj
end Sw

/-! Sw, part R: list(range(..)), tuple(range(..)). -/
namespace Sw
open PySem PySem.Spec PyProof.Rows L2
abbrev DR := List Sl → HS → Res (Int × Int)
def DenR (C : Cn) (e : Expr) (f : DR) : Prop := ∀ X E, CxOk C X E → ∃ t, PRg X e t ∧ ∀ W0 W τ σ h (Q : Int → Int → Hp → Prop), Le W0 W → Frm C.g.K W0 W τ σ → RH C.g.K W h →
  okG C.g.K C.g.mg (fun _ (a b : Int × Int) => a = b) W (fun c dd H => E c dd σ H) (fun p H => Q p.1 p.2 H) (f τ h) → t σ W.H Q
def rg1 (a : DE) : DR := fun τ h => (a τ h).bind fun d h1 => match d with | .int n => .ok (0, n) h1 | _ => .bad
def rg2 (a b : DE) : DR := fun τ h => (a τ h).bind fun x h1 => (b τ h1).bind fun y h2 => match x, y with | .int i, .int j => .ok (i, j) h2 | _, _ => .bad
def rgOk (a b : Int) : Bool := decide (-(2 ^ 62) ≤ a) && (decide (a < 2 ^ 62) && (decide (-(2 ^ 62) ≤ b) && (decide (b < 2 ^ 62) && decide ((b - a).toNat ≤ 2 ^ 24))))
def rgInts (a b : Int) : List Int := (List.range (b - a).toNat).map fun i : Nat => a + (i : Int)
def lstRg (f : DR) : DE := fun τ h => (f τ h).bind fun p h1 => if rgOk p.1 p.2 then .ok (.lst ((rgInts p.1 p.2).map .int)) h1 else .bad
def tupRg (f : DR) : DE := fun τ h => (f τ h).bind fun p h1 => if rgOk p.1 p.2 then .ok (.tup ((rgInts p.1 p.2).map .int)) h1 else .bad
theorem rgOk_ok {a b : Int} (h : rgOk a b = true) : RgOk a b := by
  unfold rgOk at h
  simp only [Bool.and_eq_true, decide_eq_true_eq] at h
  exact ⟨h.1, h.2.1, h.2.2.1, h.2.2.2.1, h.2.2.2.2⟩
theorem rgV_ints (a b : Int) : rgV a b = (rgInts a b).map V.int := by
  unfold rgV rgInts
  rw [List.map_map]; rfl
section
variable {C : Cn} {a b e : Expr} {fa fb : DE} {fr : DR} {p pos : Pos}
theorem den_rg1 (hg : glB C.sc "range" = true) (hm : C.g.mg "range" = none) (ha : DenB C a fa) (na : ∀ env, starEach [a] env = (false, eval a env) :: starEach [] env) : DenR C (.Call (.Name "range" p) [a] [] pos) (rg1 fa) := fun X E ok => by
  obtain ⟨t, pa, q⟩ := ha X E ok
  obtain ⟨g1, _, _⟩ := glB_ok ok hg
  refine ⟨_, prg_1 g1 (by rw [ok.mg]; exact hm) pa (na _), fun W0 W τ σ h Q l fr rh o => ?_⟩
  refine q W0 W τ σ h _ l fr rh (okG.bind o fun d h1 W1 v l1 rh1 b1 o1 => ?_)
  cases d with
  | int n =>
    rw [b1.int]
    exact ⟨n, rfl, o1 W1 (0, n) (.refl _) rh1 rfl⟩
  | _ => exact o1.elim
theorem den_rg2 (hg : glB C.sc "range" = true) (hm : C.g.mg "range" = none) (ha : DenB C a fa) (hb : DenB C b fb) (na : ∀ env, starEach [a, b] env = (false, eval a env) :: starEach [b] env) (nb : ∀ env, starEach [b] env = (false, eval b env) :: starEach [] env)
    (hp : ∀ env, (backTo pos (starEach [b] env)).any (·.1) = false) : DenR C (.Call (.Name "range" p) [a, b] [] pos) (rg2 fa fb) := fun X E ok => by
  obtain ⟨t, pa, q⟩ := ha X E ok
  obtain ⟨t', pb, q'⟩ := hb X E ok
  obtain ⟨g1, _, _⟩ := glB_ok ok hg
  refine ⟨_, prg_2 g1 (by rw [ok.mg]; exact hm) pa pb (na _) (nb _) (hp _), fun W0 W τ σ h Q l fr rh o => ?_⟩
  refine q W0 W τ σ h _ l fr rh (okG.bind o fun x h1 W1 v l1 rh1 b1 o1 => ?_)
  refine q' W0 W1 τ σ h1 _ (l.trans l1) (fr.mono l1) rh1 (okG.bind o1 fun y h2 W2 u l2 rh2 b2 o2 => ?_)
  cases x with
  | int i =>
    cases y with
    | int j =>
      rw [b1.int, b2.int]
      exact ⟨i, j, rfl, rfl, o2 W2 (i, j) (.refl _) rh2 rfl⟩
    | _ => exact o2.elim
  | _ => exact o2.elim
theorem den_lstRg (hg : glB C.sc "list" = true) (hm : C.g.mg "list" = none) (he : DenR C e fr) (na : ∀ env, starEach [e] env = (false, eval e env) :: starEach [] env) : DenN C (.Call (.Name "list" p) [e] [] pos) (lstRg fr) := fun X E ok => by
  obtain ⟨t, pe, q⟩ := he X E ok
  obtain ⟨g1, _, _⟩ := glB_ok ok hg
  refine ⟨_, pe_listRg ok.calm g1 (by rw [ok.mg]; exact hm) pe (na _), fun W0 W τ σ h Q l fr' rh o => ?_⟩
  refine q W0 W τ σ h _ l fr' rh (okG.bind o fun pr h1 W1 pr' l1 rh1 b1 o1 => ?_)
  subst b1
  obtain ⟨i, j⟩ := pr
  by_cases hr : rgOk i j = true
  · have o1 : okG C.g.K C.g.mg (NewR C.g.K W) W1 (fun c dd H => E c dd σ H) Q (if rgOk i j then .ok (.lst ((rgInts i j).map .int)) h1 else .bad) := o1
    rw [if_pos hr] at o1
    refine ⟨rgOk_ok hr, fun np hn => ?_⟩
    obtain ⟨l2, rh2, n⟩ := new_lst hn rh1 (reps_ints (rgInts i j))
    have := o1 _ _ l2 rh2 (n.of l1 rh1)
    rw [← rgV_ints] at this
    exact this
  · have o1 : okG C.g.K C.g.mg (NewR C.g.K W) W1 (fun c dd H => E c dd σ H) Q (if rgOk i j then .ok (.lst ((rgInts i j).map .int)) h1 else .bad) := o1
    rw [if_neg hr] at o1
    exact o1.elim
theorem den_tupRg (hg : glB C.sc "tuple" = true) (hm : C.g.mg "tuple" = none) (he : DenR C e fr) (na : ∀ env, starEach [e] env = (false, eval e env) :: starEach [] env) : DenE C (.Call (.Name "tuple" p) [e] [] pos) (tupRg fr) := fun X E ok => by
  obtain ⟨t, pe, q⟩ := he X E ok
  obtain ⟨g1, _, _⟩ := glB_ok ok hg
  refine ⟨_, pe_tupRgX ok.calm g1 (by rw [ok.mg]; exact hm) pe (na _), fun W0 W τ σ h Q l fr' rh o => ?_⟩
  refine q W0 W τ σ h _ l fr' rh (okG.bind o fun pr h1 W1 pr' l1 rh1 b1 o1 => ?_)
  subst b1
  obtain ⟨i, j⟩ := pr
  by_cases hr : rgOk i j = true
  · have o1 : okG C.g.K C.g.mg (Rep C.g.K) W1 (fun c dd H => E c dd σ H) Q (if rgOk i j then .ok (.tup ((rgInts i j).map .int)) h1 else .bad) := o1
    rw [if_pos hr] at o1
    refine ⟨rgOk_ok hr, fun np ob hn hd => ?_⟩
    obtain ⟨W2, e2, l2, rh2, r2⟩ := new_tup hn hd rh1 (reps_ints (rgInts i j))
    have := o1 W2 _ l2 rh2 r2
    rw [e2, ← rgV_ints] at this
    exact this
  · have o1 : okG C.g.K C.g.mg (Rep C.g.K) W1 (fun c dd H => E c dd σ H) Q (if rgOk i j then .ok (.tup ((rgInts i j).map .int)) h1 else .bad) := o1
    rw [if_neg hr] at o1
    exact o1.elim
end
end Sw

/-! Sw, part S: chains of three comparisons; x.append(y.pop(e)); t[::-1] of a tuple; [x] * n made. -/
namespace Sw
namespace TR
open PySem PySem.Spec PyProof.Rows HT
section
variable {prog : Program} {w : World} {A : Around} {E : Value → Shared → Prop} {s : Shared}
theorem adj_back (n : Nat) : Builtin.Slice.sliceAdjust none none (-1) (n : Int) = ((n : Int) - 1, -1) := by
  unfold Builtin.Slice.sliceAdjust
  simp
theorem places_back (n : Nat) : Builtin.Slice.slicePlaces ((n : Int) - 1) (-1) (-1) = n := by
  unfold Builtin.Slice.slicePlaces
  rw [if_neg (by decide)]
  split
  · have e : ((n : Int) - 1 - -1 - 1) / (- -1) = (n : Int) - 1 := by
      rw [show (- -1 : Int) = 1 by decide, Int.ediv_one]; omega
    rw [e]; omega
  · omega
theorem fm_congr {α β : Type} {f g : α → Option β} : ∀ {l : List α}, (∀ x ∈ l, f x = g x) → l.filterMap f = l.filterMap g
  | [], _ => rfl
  | x :: l, h => by rw [List.filterMap_cons, List.filterMap_cons, h x List.mem_cons_self, fm_congr fun y m => h y (List.mem_cons_of_mem _ m)]
theorem pick_back (xs : Array Value) : ((List.range xs.size).filterMap fun (m : Nat) => xs[((xs.size : Int) - 1 + (m : Int) * (-1)).toNat]?).toArray = xs.toList.reverse.toArray := by
  congr 1
  have e : (List.range xs.size).filterMap (fun (m : Nat) => xs[((xs.size : Int) - 1 + (m : Int) * (-1)).toNat]?) = ((List.range xs.size).map fun k => xs.size - 1 - k).filterMap (xs[·]?) := by
    rw [List.filterMap_map]
    refine fm_congr fun m hm => ?_
    have := List.mem_range.mp hm
    have q : ((xs.size : Int) - 1 + (m : Int) * (-1)).toNat = xs.size - 1 - m := by omega
    show xs[((xs.size : Int) - 1 + (m : Int) * (-1)).toNat]? = xs[xs.size - 1 - m]?
    rw [q]
  rw [e, PySem.W.krv_range, List.filterMap_reverse, PySem.W.krv_all]
theorem applied_back {ix : Addr} {pv : Value} {n : Nat} {Q : Int × Int × Nat → Shared → Prop} (hi : s.heap.IsSliceOf ix .none .none pv) (pp : IsPart pv (some (-1))) (h : Q ((n : Int) - 1, -1, n) s) :
    wpAny (model prog w) A (Builtin.Slice.sliceApplied (.ref ix) (pure (n : Int))) Q E s := by
  obtain ⟨ob, e1, e2, e3⟩ := id hi
  unfold Builtin.Slice.sliceApplied Builtin.Slice.sliceFields
  refine wpAny_bind (wpAny_bind (wpAny_field e1 e3 (x := .none) rfl (wpAny_bind (wpAny_field e1 e3 (x := .none) rfl (wpAny_bind (wpAny_field e1 e3 (x := pv) rfl (wpAny_pure ?_)))))))
  refine wpAny_bind (HT.slicePart_ pp ?_)
  show wpAny _ _ (if ((-1 : Int) == 0) = true then _ else _) _ _ s
  rw [if_neg (by decide)]
  refine wpAny_bind (slicePart_none (wpAny_bind (slicePart_none (wpAny_bind (wpAny_pure ?_)))))
  show wpAny _ _ (match Builtin.Slice.sliceAdjust none none (-1) (n : Int) with | (a, b) => pure (a, (-1 : Int), Builtin.Slice.slicePlaces a b (-1))) _ _ s
  rw [adj_back n]
  show wpAny _ _ (pure ((n : Int) - 1, (-1 : Int), Builtin.Slice.slicePlaces ((n : Int) - 1) (-1) (-1))) _ _ s
  rw [places_back]
  exact wpAny_pure h
theorem item_back {t ix : Addr} {xs : Array Value} {pv : Value} {Q : Value → Shared → Prop} (ht : IsTup s.heap t xs) (hi : s.heap.IsSliceOf ix .none .none pv) (pp : IsPart pv (some (-1)))
    (h : Q (.ref s.heap.objs.size) { s with heap := s.heap.push { cls := .type "tuple", data := .seq xs.toList.reverse.toArray } }) (hz : xs.size ≤ sizeLine) : wpAny (model prog w) A (getItem (.ref t) (.ref ix)) Q E s := by
  have big : sizeOk (.seq xs.toList.reverse.toArray) := by
    show xs.toList.reverse.toArray.size ≤ sizeLine
    rw [List.size_toArray, List.length_reverse, Array.length_toList]
    exact hz
  obtain ⟨ob, e1, e2, e3⟩ := id hi
  have ty : s.TypeIs (.ref ix) "slice" := ⟨ob, e1, e2⟩
  unfold getItem
  try with_reducible refine wpAny_holding ?_
  first | refine wpAny_bind (wpAny_pure ?_) | skip
  refine wpAny_bind (wpAny_sequenceKey ht.typeIs (by decide) ?_)
  refine wpAny_bind (wpAny_callSpecial?_slot (name := Str.ofString "__getitem__") ht.typeIs PyProof.Rows.slot_tuple_getitem (wpAny_call_entry PyProof.Rows.slot_tuple_getitem ht.typeIs entry_tuple_getitem ?_ (args_tuple_getitem _ _)))
  show wpAny _ _ (Builtin.Tuple.tupleItemsOf (.ref t) >>= _) _ _ s
  refine wpAny_bind (tupleItemsOf_ ht (wpAny_bind (wpAny_typeOf ty ?_)))
  rw [if_pos (by decide)]
  refine wpAny_bind (applied_back hi pp ?_)
  have no : ¬ ((((xs.size : Int) - 1) == 0 && (-1 : Int) == 1 && xs.size == xs.size) = true) := by
    rw [show ((-1 : Int) == 1) = false by decide, Bool.and_false, Bool.false_and]
    exact Bool.false_ne_true
  show wpAny _ _ (if (((xs.size : Int) - 1) == 0 && (-1 : Int) == 1 && xs.size == xs.size) = true then _ else _) _ _ s
  rw [if_neg no, pick_back]
  first
    | exact wpAny_bind (m := Builtin.Tuple.tupleExact _) (wpAny_newObj_type (wpAny_pure ⟨_, rfl, wpAny_pure h⟩) big)
    | exact wpAny_bind (m := Builtin.Tuple.tupleExact _) (wpAny_newObj_type (wpAny_bind (wpAny_pure (wpAny_pure ⟨_, rfl, wpAny_pure h⟩))) big)
    | exact wpAny_bind (wpAny_bind (m := Builtin.Tuple.tupleExact _) (wpAny_newObj_type (wpAny_pure (wpAny_pure ⟨_, rfl, wpAny_pure h⟩)) big))
    | exact wpAny_bind (wpAny_bind (m := Builtin.Tuple.tupleExact _) (wpAny_newObj_type (wpAny_pure ⟨_, rfl, wpAny_pure h⟩) big))
end
open L2
def tRevT (K : PySem.W.Frag) (te : TE) : TE := fun σ H Q => te σ H fun x H1 => ∃ a xs, x = .ref a ∧ SqT K H1 a xs ∧ Sw.NewX H1 xs.reverse Q
theorem pe_revT {X : Cx} {e : Expr} {te : TE} {k : Nat} {p1 p2 p3 pos : Pos} (he : PE X e te) : PE X (.Subscript e (.Slice none none (some (.UnaryOp .USub (.Constant (.int 1) k p1) p2)) p3) pos) (tRevT X.K te) := by
  refine ⟨fun pins s σ H Q I h => Subscript_ (thn (he.run pins s σ H _ I h) fun v s1 ⟨x, H1, I1, r1, a, xs, ex, hx, q⟩ => ?_)⟩
  subst ex; cases r1
  have st : PO X (some (.UnaryOp .USub (.Constant (.int 1) k p1) p2)) (tPart (tUn (rU fun i => .int (-i)) (tC (.int 1)))) := po_some (pe_un un_neg pe_int)
  refine wpAny_Slice (thn (po_none.run pins s1 σ H1 (fun o H2 => o = none ∧ H2 = H1) I1 ⟨rfl, rfl⟩) fun va s2 ⟨o1, H2, I2, p1', o1e, h2e⟩ => ?_)
  subst o1e h2e
  refine thn (po_none.run pins s2 σ H2 (fun o H3 => o = none ∧ H3 = H2) I2 ⟨rfl, rfl⟩) fun vb s3 ⟨o2, H3, I3, p2', o2e, h3e⟩ => ?_
  subst o2e h3e
  refine thn (st.run pins s3 σ H3 (fun o H4 => o = some (-1) ∧ H4 = H3) I3 ⟨1, rfl, -1, rfl, rfl, rfl⟩) fun vc s4 ⟨o3, H4, I4, p3', o3e, h4e⟩ => ?_
  subst o3e h4e
  cases p1'
  cases p2'
  have I5 : Inv X pins σ H4 { s4 with heap := s4.heap.push { cls := .type "slice", data := .fields #[.none, .none, vc] } } := I4.kept (t' := s4.toks) fun b ob q => Heap.get?_push_of_some _ q
  obtain ⟨its, r, ht, hz⟩ := I5.tuple hx
  have hlen := r.length
  show wpAny (model X.prog X.w) X.A (subscriptTail e (.Slice none none (some (.UnaryOp .USub (.Constant (.int 1) k p1) p2)) p3) (.ref a) (.ref s4.heap.objs.size)) (EP X pins σ Q) X.xe { s4 with heap := s4.heap.push { cls := .type "slice", data := .fields #[.none, .none, vc] } }
  refine tail_any (ops := [.ref a, .ref s4.heap.objs.size]) ht.typeIs PyProof.Rows.slot_tuple_getitem.lookup ?_ (by with_unfolding_all rfl)
  refine item_back ht (Heap.IsSliceOf.new _ .none .none vc) p3' ?_ (by rw [List.size_toArray]; omega)
  exact Sw.pushX I5 (by rw [List.length_reverse]; exact hz) r.reverse q
end TR
open PySem PySem.Spec PyProof.Rows L2
/-- t[::-1] of a tuple -/
def revTR (a : DE) : DE := fun τ h => (a τ h).bind fun d h1 => match d with
  | .tup xs => .ok (.tup xs.reverse) h1
  | _ => .bad
theorem den_revT {C : Cn} {e : Expr} {fe : DE} {k : Nat} {p1 p2 p3 pos : Pos} (he : DenB C e fe) : DenE C (.Subscript e (.Slice none none (some (.UnaryOp .USub (.Constant (.int 1) k p1) p2)) p3) pos) (revTR fe) := fun X E ok => by
  obtain ⟨t, p, q⟩ := he X E ok
  refine ⟨_, TR.pe_revT p, fun W0 W τ σ h Q l fr rh o => ?_⟩
  refine q W0 W τ σ h _ l fr rh (okG.bind o fun d h1 W1 v l1 rh1 b1 o1 => ?_)
  cases d with
  | tup xs =>
    obtain ⟨a, vs, rfl, e1, r1, q1⟩ := b1.tup
    rw [← ok.K] at e1
    refine ⟨a, vs, rfl, e1, fun p ob np hd => ?_⟩
    obtain ⟨W2, eH, l2, rh', nn⟩ := new_tup np hd rh1 r1.reverse
    have := o1 W2 _ l2 rh' nn
    rw [eH] at this
    exact this
  | _ => exact o1.elim
/-- [x, ..] * n, made -/
theorem den_binN {C : Cn} {op : Operator} {g : D → D → Option D} {a b : Expr} {fa fb : DE} {pos : Pos} (ho : OpN C (binaryOp op) g) (ha : DenB C a fa) (hb : DenB C b fb) : DenN C (.BinOp a op b pos) (res2 g fa fb) := fun X E ok => by
  obtain ⟨r, hr, qr⟩ := ho X E ok
  obtain ⟨ta, pa, qa⟩ := ha X E ok
  obtain ⟨tb, pb, qb⟩ := hb X E ok
  refine ⟨_, pe_op hr pa pb, fun W0 W τ σ h Q l fr rh o => ?_⟩
  refine qa W0 W τ σ h _ l fr rh (okG.bind o fun x h1 W1 v l1 rh1 b1 o1 => ?_)
  refine qb W0 W1 τ σ h1 _ (l.trans l1) (fr.mono l1) rh1 (okG.bind o1 fun y h2 W2 u l2 rh2 b2 o2 => ?_)
  cases e : g x y with
  | none => rw [e] at o2; exact (show False from o2).elim
  | some d =>
    rw [e] at o2
    exact qr W W2 h2 x y v u d Q (l1.trans l2) rh2 (b1.mono l2) b2 e fun W' b l3 rh3 n => o2 W' b l3 rh3 n
theorem den_repN {C : Cn} {a b : Expr} {fa fb : DE} {pos : Pos} (ha : DenB C a fa) (hb : DenB C b fb) : DenN C (.BinOp a .Mult b pos) (res2 repL fa fb) := den_binN on_repL ha hb
theorem den_catN {C : Cn} {a b : Expr} {fa fb : DE} {pos : Pos} (ha : DenB C a fa) (hb : DenB C b fb) : DenN C (.BinOp a .Add b pos) (res2 catL fa fb) := den_binN on_catL ha hb
section
variable {X : Cx} {a b c d : Expr} {ta tb tc td : TE} {pos : Pos}
def tCh3 (r r' r2 : R2) (ta tb tc td : TE) : TE := fun σ H Q => ta σ H fun x H1 => tb σ H1 fun y H2 => r x y H2 fun z H3 => ∃ k, z = .bl k ∧
  (if k = true then tc σ H3 fun u H4 => r' y u H4 fun z' H5 => ∃ k', z' = .bl k' ∧ (if k' = true then td σ H5 fun w H6 => r2 u w H6 Q else Q (.bl false) H5) else Q (.bl false) H3)
theorem pe_ch3 {op op' op2 : CmpOp} {r r' r2 : R2} (o0 : OpR X (compareOp op) r) (o1 : OpR X (compareOp op') r') (o2 : OpR X (compareOp op2) r2) (ha : PE X a ta) (hb : PE X b tb) (hc : PE X c tc) (hd : PE X d td)
    (hm : lastMarks [op, op', op2] [b, c, d] = false) : PE X (.Compare a [op, op', op2] [b, c, d] pos) (tCh3 r r' r2 ta tb tc td) := by
  refine ⟨fun pins s σ H Q I h => ?_⟩
  refine Compare_chain (thn (ha.run pins s σ H _ I h) fun va s1 ⟨x, H1, I1, ra, qa⟩ => chain_link (thn (hb.run pins s1 σ H1 _ I1 qa) fun vb s2 ⟨y, H2, I2, rb, qb⟩ =>
    thn (o0 pins s2 σ H2 x y va vb _ I2 ra rb qb) fun vk s3 ⟨z, H3, I3, rk, k, ek, qk⟩ => ?_)) hm
  subst ek; cases rk
  refine wpAny_truthy_bool ?_
  cases k with
  | false => exact ite_ff ⟨.bl false, H3, I3, rfl, qk⟩
  | true =>
    refine ite_tt (chain_link (thn (hc.run pins s3 σ H3 _ I3 qk) fun vc s4 ⟨u, H4, I4, rc, qc⟩ => thn (o1 pins s4 σ H4 y u vb vc _ I4 rb rc qc) fun vj s5 ⟨z', H5, I5, rj, j, ej, qj⟩ => ?_))
    subst ej; cases rj
    refine wpAny_truthy_bool ?_
    cases j with
    | false => exact ite_ff ⟨.bl false, H5, I5, rfl, qj⟩
    | true => exact ite_tt (chain_last (thn (hd.run pins s5 σ H5 _ I5 qj) fun vd s6 ⟨w, H6, I6, rd, qd⟩ => o2 pins s6 σ H6 u w vc vd Q I6 rc rd qd))
end
/-- (a, b, ..) = a list -/
def gL (r : List D → List Sl → Option (List Sl)) : GT
  | .lst ds, τ => r ds τ
  | _, _ => none
theorem den_glst {C : Cn} {ts : List Expr} {is : List Nat} {r : List D → List Sl → Option (List Sl)} {n k : Nat} {pos : Pos} (h : DenGs C ts is r) (hn : ∀ env, (assignEach ts env).length = n) (hst : ∀ env, (assignEach ts env).findIdx? (·.1) = none)
    (hl : ∀ ds τ τ', r ds τ = some τ' → ds.length = n) : DenGt C (.Tuple ts k pos) is (gL r) := fun X E ok => by
  obtain ⟨t, p, q⟩ := h X E ok
  refine ⟨_, pg_unl ok.calm p (hn _) (hst _), fun W0 W τ σ d v τ' Q fr rp e k => ?_⟩
  cases d with
  | lst ds =>
    obtain ⟨a, vs, rfl, t, r1⟩ := rp.lstAt
    exact ⟨a, vs, rfl, t.sq, by rw [← r1.length]; exact hl _ _ _ e, q W0 W τ σ ds vs τ' _ fr r1 e k⟩
  | _ => cases e
section
variable {C : Cn} {a b c d e : Expr} {fa fb fc fd fe : DE} {x y : Str} {i j : Nat} {p1 p2 apos apos2 cpos cpos2 pos : Pos}
def chR3 (g g' g2 : D → D → Option D) (a b c d : DE) : DE := fun τ h => (a τ h).bind fun x h1 => (b τ h1).bind fun y h2 => match g x y with
  | some (.bl true) => (c τ h2).bind fun z h3 => match g' y z with
    | some (.bl true) => (d τ h3).bind fun w h4 => toRes (g2 z w) h4
    | some (.bl false) => .ok (.bl false) h3
    | _ => .bad
  | some (.bl false) => .ok (.bl false) h2
  | _ => .bad
theorem den_chain3 {op op' op2 : CmpOp} {g g' g2 : D → D → Option D} (ho : OpD C (compareOp op) g) (ho' : OpD C (compareOp op') g') (ho2 : OpD C (compareOp op2) g2) (ha : DenB C a fa) (hb : DenB C b fb) (hc : DenB C c fc) (hd : DenB C d fd)
    (hm : lastMarks [op, op', op2] [b, c, d] = false) : DenE C (.Compare a [op, op', op2] [b, c, d] pos) (chR3 g g' g2 fa fb fc fd) := fun X E ok => by
  obtain ⟨r, hr, qr⟩ := ho X E ok
  obtain ⟨r', hr', qr'⟩ := ho' X E ok
  obtain ⟨r2, hr2, qr2⟩ := ho2 X E ok
  obtain ⟨ta, pa, qa⟩ := ha X E ok
  obtain ⟨tb, pb, qb⟩ := hb X E ok
  obtain ⟨tc, pc, qc⟩ := hc X E ok
  obtain ⟨td, pd, qd⟩ := hd X E ok
  refine ⟨_, pe_ch3 hr hr' hr2 pa pb pc pd hm, fun W0 W τ σ h Q l fr rh o => ?_⟩
  refine qa W0 W τ σ h _ l fr rh (okG.bind o fun x h1 W1 v l1 rh1 b1 o1 => ?_)
  refine qb W0 W1 τ σ h1 _ (l.trans l1) (fr.mono l1) rh1 (okG.bind o1 fun y h2 W2 u l2 rh2 b2 o2 => ?_)
  cases e : g x y with
  | none => rw [e] at o2; exact (show False from o2).elim
  | some dk =>
    rw [e] at o2
    cases dk with
    | bl k =>
      refine qr W2 h2 x y v u _ _ rh2 (b1.mono l2) b2 e fun W3 z l3 rh3 r3 => ?_
      rw [Rep] at r3
      refine ⟨k, r3, ?_⟩
      have o3 := okG.mono l3 o2
      cases k with
      | false => exact iteF (okG.now o3 rh3 rep_bl)
      | true =>
        have L3 := (l.trans l1).trans (l2.trans l3)
        refine iteT (qc W0 W3 τ σ h2 _ L3 ((fr.mono l1).mono (l2.trans l3)) rh3 (okG.bind o3 fun z h4 W4 w l4 rh4 b4 o4 => ?_))
        cases e' : g' y z with
        | none => rw [e'] at o4; exact (show False from o4).elim
        | some dk' =>
          rw [e'] at o4
          cases dk' with
          | bl k' =>
            refine qr' W4 h4 y z u w _ _ rh4 (b2.mono (l3.trans l4)) b4 e' fun W5 z5 l5 rh5 r5 => ?_
            rw [Rep] at r5
            refine ⟨k', r5, ?_⟩
            have o5 := okG.mono l5 o4
            cases k' with
            | false => exact iteF (okG.now o5 rh5 rep_bl)
            | true =>
              refine iteT (qd W0 W5 τ σ h4 _ (L3.trans (l4.trans l5)) (((fr.mono l1).mono (l2.trans l3)).mono (l4.trans l5)) rh5 (okG.bind o5 fun w6 h6 W6 v6 l6 rh6 b6 o6 => ?_))
              obtain ⟨d6, e6, k6⟩ := toRes_some o6
              exact qr2 W6 h6 z w6 w v6 d6 Q rh6 (b4.mono (l5.trans l6)) b6 e6 k6
          | _ => exact (show False from o4).elim
    | _ => exact (show False from o2).elim
def popN (ys : List D) (k : Int) : Option (D × List D) := if decide (-(2 ^ 63) ≤ k) && decide (k < 2 ^ 63) then match seqIndex? k ys.length with
  | some n => match ys[n]? with
    | some y => some (y, ys.eraseIdx n)
    | none => none
  | none => none else none
theorem popN_ok {ys zs : List D} {k : Int} {d : D} (h : popN ys k = some (d, zs)) : -(2 ^ 63) ≤ k ∧ k < 2 ^ 63 ∧ ∃ n, seqIndex? k ys.length = some n ∧ ys[n]? = some d ∧ zs = ys.eraseIdx n := by
  unfold popN at h
  by_cases hk : (decide (-(2 ^ 63) ≤ k) && decide (k < 2 ^ 63)) = true
  · rw [if_pos hk] at h
    simp only [Bool.and_eq_true, decide_eq_true_eq] at hk
    refine ⟨hk.1, hk.2, ?_⟩
    cases e : seqIndex? k ys.length with
    | none => rw [e] at h; cases h
    | some n =>
      rw [e] at h
      refine ⟨n, rfl, ?_⟩
      cases e2 : ys[n]? with
      | none => simp only [e2] at h; cases h
      | some y => simp only [e2] at h; cases h; exact ⟨rfl, rfl⟩
  · rw [if_neg hk] at h; cases h
theorem Reps.eraseIdx {K : PySem.W.Frag} {W : Wd} : ∀ {ds : List D} {vs : List V} (n : Nat), Reps K W ds vs → Reps K W (ds.eraseIdx n) (vs.eraseIdx n)
  | [], vs, n, h => by rw [Reps] at h; subst h; exact h0
  | d :: ds, vs, n, h => by
    rw [Reps] at h
    obtain ⟨v, r, rfl, h1, h2⟩ := h
    cases n with
    | zero => exact h2
    | succ n =>
      rw [List.eraseIdx_cons_succ, List.eraseIdx_cons_succ, Reps]
      exact ⟨v, _, rfl, h1, Reps.eraseIdx n h2⟩
where h0 {K : PySem.W.Frag} {W : Wd} {n : Nat} : Reps K W (([] : List D).eraseIdx n) (([] : List V).eraseIdx n) := by rw [List.eraseIdx_nil, List.eraseIdx_nil, Reps]
theorem Reps.at_ {K : PySem.W.Frag} {W : Wd} : ∀ {ds : List D} {vs : List V} {n : Nat} {d : D}, Reps K W ds vs → ds[n]? = some d → ∃ v, vs[n]? = some v ∧ Rep K W d v
  | [], _, _, _, _, e => by simp at e
  | d :: ds, vs, n, d', h, e => by
    rw [Reps] at h
    obtain ⟨v, r, rfl, h1, h2⟩ := h
    cases n with
    | zero => cases e; exact ⟨v, rfl, h1⟩
    | succ n => exact Reps.at_ (ds := ds) (n := n) h2 (by simpa using e)
/-- x.append(y.pop(e)) -/
def appPopS (i j : Nat) (fe : DE) : DS := fun τ h => match τ[i]?, τ[j]? with
  | some (.own xs), some (.own ys) => RS.ofR (fe τ h) τ fun d h1 => match d with
    | .int k => match popN ys k with
      | some (y, zs) => if decide (xs.length < sizeLine) && decide (j ≠ i) then .nx ((τ.set j (.own zs)).set i (.own (xs ++ [y]))) h1 else .bad
      | none => .bad
    | _ => .bad
  | _, _ => .bad
theorem den_appPop (hn : nmB C.N C.sc x i = true) (hm : nmB C.N C.sc y j = true) (he : DenB C e fe) (hl : (apos.endLine == cpos.line) = true) (hl2 : (apos2.endLine == cpos2.line) = true)
    (hs : ∀ env, starEach [.Call (.Attribute (.Name y p2) "pop" apos2) [e] [] cpos2] env = (false, eval (.Call (.Attribute (.Name y p2) "pop" apos2) [e] [] cpos2) env) :: starEach [] env) (hs2 : ∀ env, starEach [e] env = (false, eval e env) :: starEach [] env) :
    DenS C (.Expr (.Call (.Attribute (.Name x p1) "append" apos) [.Call (.Attribute (.Name y p2) "pop" apos2) [e] [] cpos2] [] cpos) pos) (appPopS i j fe) := fun X E ok => by
  obtain ⟨t, p, q⟩ := he X E ok
  obtain ⟨h1, h2, h3, h4⟩ := nmB_ok hn
  obtain ⟨g1, g2, g3, g4⟩ := nmB_ok hm
  have pp : PE X (.Call (.Attribute (.Name y p2) "pop" apos2) [e] [] cpos2) _ := pe_bm PySem.F.plainAttrs_list PySem.F.slot_list_pop PySem.F.type_list_pop (show MtR X "list.pop" rPopAt from mt_popAt) (pe_var (i := j) (by rw [ok.names]; exact g1) (by rw [ok.scope]; exact g2) g3 g4) (pa_cons p pa_nil (hs2 _)) rfl (by rw [hs2]; rfl) hl2 (hs2 _) rfl
  refine ⟨_, ps_expr (pe_bm PySem.F.plainAttrs_list PySem.F.slot_list_append PySem.F.type_list_append mt_append (pe_var (i := i) (by rw [ok.names]; exact h1) (by rw [ok.scope]; exact h2) h3 h4) (pa_cons pp pa_nil (hs _)) rfl (by
    rw [hs]; rfl) hl (hs _) rfl) rfl, fun W0 W τ σ h D l fr rh o => ?_⟩
  unfold appPopS at o
  cases et : τ[i]? with
  | none => rw [et] at o; exact o.elim
  | some s =>
    cases s with
    | own xs =>
      cases et2 : τ[j]? with
      | none => rw [et, et2] at o; exact o.elim
      | some s2 =>
        cases s2 with
        | own ys =>
          rw [et, et2] at o
          obtain ⟨a, vs, ea, ha, ra, wa⟩ := fr.at_ i _ et
          obtain ⟨b, us, eb, hb, rb, wb⟩ := fr.at_ j _ et2
          refine ⟨_, ea, .inl ⟨rfl, vs, .inl (.inl ha)⟩, ?_⟩
          refine ⟨_, eb, .inl ⟨rfl, us, .inl (.inl hb)⟩, ?_⟩
          refine q W0 W τ σ h _ l fr rh (okS.ex l o fun d s W1 u l1 rh1 r1 o1 => ?_)
          cases d with
          | int k =>
            have o1 : okS C W0 W1 E D (match popN ys k with | some (y, zs) => if decide (xs.length < sizeLine) && decide (j ≠ i) then .nx ((τ.set j (.own zs)).set i (.own (xs ++ [y]))) s else .bad | none => .bad) := o1
            cases ep : popN ys k with
            | none => rw [ep] at o1; exact o1.elim
            | some pr =>
              obtain ⟨y0, zs⟩ := pr
              rw [ep] at o1
              by_cases hz : (decide (xs.length < sizeLine) && decide (j ≠ i)) = true
              · simp only [hz, if_true] at o1
                simp only [Bool.and_eq_true, decide_eq_true_eq] at hz
                obtain ⟨k1, k2, n, e1, e2, e3⟩ := popN_ok ep
                subst e3
                have fr1 := fr.mono l1
                obtain ⟨b', us', eb', hb', rb', wb'⟩ := fr1.at_ j _ et2
                rw [eb] at eb'
                cases eb'
                obtain ⟨w0, hw0, rw0⟩ := rb'.at_ e2
                rw [r1.int]
                refine ⟨b, us', k, n, w0, rfl, rfl, hb', k1, k2, by rw [← rb'.length]; exact e1, hw0, ?_⟩
                have l2 := l.trans l1
                have fr2 := fr1.own_upd et2 eb wb' (rb'.eraseIdx n)
                have et3 : (τ.set j (.own (ys.eraseIdx n)))[i]? = some (.own xs) := by rw [List.getElem?_set_ne hz.2]; exact et
                obtain ⟨a', vs', ea', ha', ra', wa'⟩ := fr2.at_ i _ et3
                rw [ea] at ea'
                cases ea'
                refine ⟨a, vs', w0, rfl, rfl, ha', by rw [← ra'.length]; exact hz.1, ?_⟩
                have l3 := le_own l2 wb'.new wb'.nf (o := .lst (us'.eraseIdx n))
                have lf := lef_own wb'.nf (o := HO.lst (us'.eraseIdx n))
                exact o1 ((W1.put b (.lst (us'.eraseIdx n))).put a (.lst (vs' ++ [w0]))) σ (le_own l3 wa'.new wa'.nf) ((lef_own wb'.nf).trans (lef_own wa'.nf)) (fr2.own_upd et3 ea wa' (ra'.append (.one (rw0.mono lf)))) (rh_own (rh_own rh1 wb'.nf wb'.nr) wa'.nf wa'.nr)
              · simp only [hz] at o1
                exact (show False from o1).elim
          | _ => exact (show False from o1).elim
        | _ => rw [et, et2] at o; exact o.elim
    | _ => rw [et] at o; cases et2 : τ[j]? <;> rw [et2] at o <;> exact o.elim
end
end Sw

/-! Sw, part T: cycles of a permutation, plain Lean. -/
namespace Sw.Cy
def itr (f : Nat → Nat) : Nat → Nat → Nat
  | 0, x => x
  | k + 1, x => itr f k (f x)
/-- a walked way x, f x, .. whose next point is y -/
def Seg (f : Nat → Nat) : List Nat → Nat → Prop
  | [], _ => False
  | x :: r, y => (x :: r).map f = r ++ [y]
def Cyc (f : Nat → Nat) : List Nat → Prop
  | [] => False
  | x :: r => Seg f (x :: r) x
theorem seg_one {f : Nat → Nat} {x y : Nat} : Seg f [x] y ↔ f x = y := by simp [Seg]
theorem seg_app {f : Nat → Nat} {x y z : Nat} {a b : List Nat} : Seg f (x :: a ++ y :: b) z ↔ Seg f (x :: a) y ∧ Seg f (y :: b) z := by
  show (x :: (a ++ y :: b)).map f = (a ++ y :: b) ++ [z] ↔ (x :: a).map f = a ++ [y] ∧ (y :: b).map f = b ++ [z]
  have e1 : (x :: (a ++ y :: b)).map f = (x :: a).map f ++ (y :: b).map f := by simp
  have e2 : (a ++ y :: b) ++ [z] = (a ++ [y]) ++ (b ++ [z]) := by simp
  rw [e1, e2]
  constructor
  · intro h
    exact List.append_inj h (by simp)
  · rintro ⟨h1, h2⟩; rw [h1, h2]
theorem seg_snoc {f : Nat → Nat} {x y : Nat} {a : List Nat} (h : Seg f (x :: a) y) : Seg f (x :: a ++ [y]) (f y) := seg_app.2 ⟨h, seg_one.2 rfl⟩
theorem cyc_rot {f : Nat → Nat} {x y : Nat} {a b : List Nat} (h : Cyc f (x :: a ++ y :: b)) : Cyc f (y :: b ++ x :: a) := by
  have h : Seg f (x :: a ++ y :: b) x := h
  obtain ⟨h1, h2⟩ := seg_app.1 h
  exact seg_app.2 ⟨h2, h1⟩
/-- a cycle may begin at each of its points -/
theorem cyc_at {f : Nat → Nat} {c : List Nat} {y : Nat} (h : Cyc f c) (m : y ∈ c) : ∃ r, Cyc f (y :: r) ∧ (y :: r).Perm c := by
  obtain ⟨s, t, rfl⟩ := List.append_of_mem m
  cases s with
  | nil => exact ⟨t, h, .refl _⟩
  | cons x s => exact ⟨t ++ x :: s, cyc_rot h, List.perm_append_comm (l₁ := y :: t) (l₂ := x :: s)⟩
theorem seg_get {f : Nat → Nat} : ∀ {r : List Nat} {x y : Nat} {k : Nat}, Seg f (x :: r) y → k < r.length + 1 → (x :: r)[k]? = some (itr f k x)
  | r, x, y, 0, _, _ => rfl
  | [], x, y, k + 1, _, hk => by simp at hk
  | z :: r, x, y, k + 1, h, hk => by
    have h' : Seg f ([x] ++ z :: r) y := h
    obtain ⟨h1, h2⟩ := seg_app.1 h'
    rw [seg_one] at h1
    have := seg_get h2 (k := k) (by simpa using hk)
    simp only [List.getElem?_cons_succ]
    rw [this, ← h1]; rfl
theorem cyc_map_mem {f : Nat → Nat} {c : List Nat} (h : Cyc f c) (y : Nat) : y ∈ c.map f ↔ y ∈ c := by
  cases c with
  | nil => exact h.elim
  | cons x r =>
    have h : (x :: r).map f = r ++ [x] := h
    rw [h]; simp [or_comm]
theorem cyc_closed {f : Nat → Nat} {c : List Nat} (h : Cyc f c) {y : Nat} (m : y ∈ c) : f y ∈ c := (cyc_map_mem h _).1 (List.mem_map.2 ⟨y, m, rfl⟩)
theorem cyc_iter {f : Nat → Nat} {c : List Nat} (h : Cyc f c) {y : Nat} (m : y ∈ c) : ∀ k : Nat, itr f k y ∈ c
  | 0 => m
  | k + 1 => cyc_iter h (cyc_closed h m) k
theorem cyc_reach {f : Nat → Nat} {c : List Nat} (h : Cyc f c) {y z : Nat} (my : y ∈ c) (mz : z ∈ c) : ∃ k : Nat, itr f k y = z := by
  obtain ⟨r, hr, pr⟩ := cyc_at h my
  have mz' := pr.mem_iff.2 mz
  obtain ⟨k, hk⟩ := List.mem_iff_getElem?.1 mz'
  have hlt : k < (y :: r).length := by
    rcases Nat.lt_or_ge k (y :: r).length with q | q
    · exact q
    · rw [List.getElem?_eq_none q] at hk; cases hk
  refine ⟨k, ?_⟩
  rw [seg_get (show Seg f (y :: r) y from hr) (by simpa using hlt)] at hk
  exact Option.some.inj hk
/-- rows of cycles that meet all of 0 .. n-1, each once -/
structure Dec (f : Nat → Nat) (n : Nat) (cs : List (List Nat)) : Prop where
  cyc : ∀ c ∈ cs, Cyc f c
  nd : cs.flatten.Nodup
  all : ∀ x, x ∈ cs.flatten ↔ x < n
theorem nodup_sub {l : List Nat} {n : Nat} (h : l.Nodup) (m : ∀ x ∈ l, x < n) : l.length ≤ n := by
  have p : l.Perm ((List.range n).filter fun x => decide (x ∈ l)) := by
    refine (List.perm_ext_iff_of_nodup h (List.nodup_range.filter _)).2 fun a => ?_
    simp only [List.mem_filter, List.mem_range, decide_eq_true_eq]
    exact ⟨fun q => ⟨m a q, q⟩, fun q => q.2⟩
  rw [p.length_eq]
  exact Nat.le_trans (List.length_filter_le _ _) (by rw [List.length_range]; exact Nat.le_refl _)
theorem min_of {c : List Nat} (h : c ≠ []) : ∃ m ∈ c, ∀ z ∈ c, m ≤ z := by
  induction c with
  | nil => exact (h rfl).elim
  | cons x r ih =>
    cases r with
    | nil => exact ⟨x, by simp, by simp⟩
    | cons y r =>
      obtain ⟨m, hm, hl⟩ := ih (by simp)
      rcases Nat.le_total x m with q | q
      · exact ⟨x, by simp, fun z hz => by
          rcases List.mem_cons.1 hz with rfl | hz
          · exact Nat.le_refl _
          · exact Nat.le_trans q (hl z hz)⟩
      · exact ⟨m, List.mem_cons_of_mem _ hm, fun z hz => by
          rcases List.mem_cons.1 hz with rfl | hz
          · exact q
          · exact hl z hz⟩
open Classical in
noncomputable def lead (f : Nat → Nat) (x : Nat) : Bool := decide (∀ k : Nat, x ≤ itr f k x)
open Classical in
theorem lead_iff {f : Nat → Nat} {x : Nat} : lead f x = true ↔ ∀ k : Nat, x ≤ itr f k x := by unfold lead; exact decide_eq_true_iff
theorem lead_one {f : Nat → Nat} {c : List Nat} (h : Cyc f c) (nd : c.Nodup) : c.countP (lead f) = 1 := by
  obtain ⟨m, hm, hl⟩ := min_of (c := c) (by intro e; subst e; exact h)
  have e : c.countP (lead f) = c.countP (fun x => x == m) := by
    refine List.countP_congr fun x hx => ?_
    rw [lead_iff, beq_iff_eq]
    constructor
    · intro q
      obtain ⟨k, hk⟩ := cyc_reach h hx hm
      have := q k
      rw [hk] at this
      exact Nat.le_antisymm this (hl x hx)
    · rintro rfl k
      exact hl _ (cyc_iter h hx k)
  rw [e]
  show c.count m = 1
  rw [nd.count, if_pos hm]
noncomputable def ncyc (f : Nat → Nat) (n : Nat) : Nat := (List.range n).countP (lead f)
theorem nodup_of_flat {cs : List (List Nat)} {c : List Nat} (h : cs.flatten.Nodup) (m : c ∈ cs) : c.Nodup := by
  obtain ⟨s, t, rfl⟩ := List.append_of_mem m
  rw [List.flatten_append, List.flatten_cons, List.nodup_append] at h
  exact (List.nodup_append.1 h.2.1).1
theorem dec_len {f : Nat → Nat} {n : Nat} {cs : List (List Nat)} (d : Dec f n cs) : cs.length = ncyc f n := by
  have p : cs.flatten.Perm (List.range n) := (List.perm_ext_iff_of_nodup d.nd List.nodup_range).2 fun a => by rw [d.all, List.mem_range]
  unfold ncyc
  rw [← p.countP_eq, List.countP_flatten]
  have : cs.map (List.countP (lead f)) = cs.map fun _ => 1 := List.map_eq_map_iff.2 fun c hc => lead_one (d.cyc c hc) (nodup_of_flat d.nd hc)
  rw [this]
  clear this p d
  induction cs with
  | nil => rfl
  | cons c cs ih => simp only [List.length_cons, List.map_cons, List.sum_cons, ← ih]; omega
/-- a swap of x and y -/
def sw (x y z : Nat) : Nat := if z = x then y else if z = y then x else z
theorem sw_l {x y : Nat} : sw x y x = y := by simp [sw]
theorem sw_r {x y : Nat} : sw x y y = x := by unfold sw; split <;> simp_all
theorem sw_o {x y z : Nat} (h : z ≠ x) (h' : z ≠ y) : sw x y z = z := by simp [sw, h, h']
theorem sw_comm {x y z : Nat} : sw x y z = sw y x z := by unfold sw; split <;> split <;> simp_all
theorem seg_map {f g : Nat → Nat} {x y : Nat} {a : List Nat} (h : Seg f (x :: a) y) (hg : ∀ z ∈ a, g z = z) : Seg (fun z => g (f z)) (x :: a) (g y) := by
  have h : (x :: a).map f = a ++ [y] := h
  have e : (x :: a).map (fun z => g (f z)) = ((x :: a).map f).map g := by simp
  show (x :: a).map (fun z => g (f z)) = a ++ [g y]
  rw [e, h, List.map_append]
  congr 1
  conv => rhs; rw [← List.map_id a]
  exact List.map_eq_map_iff.2 fun z hz => hg z hz
theorem cyc_off {f : Nat → Nat} {x y : Nat} {c : List Nat} (h : Cyc f c) (hx : x ∉ c) (hy : y ∉ c) : Cyc (fun z => sw x y (f z)) c := by
  cases c with
  | nil => exact h
  | cons u r =>
    have := seg_map (g := sw x y) (show Seg f (u :: r) u from h) fun z hz => sw_o (by rintro rfl; exact hx (by simp [hz])) (by rintro rfl; exact hy (by simp [hz]))
    rw [sw_o (by rintro rfl; exact hx (by simp)) (by rintro rfl; exact hy (by simp))] at this
    exact this
theorem cyc_split {f : Nat → Nat} {x y : Nat} {a b : List Nat} (h : Cyc f (x :: a ++ y :: b)) (nd : (x :: a ++ y :: b).Nodup) :
    Cyc (fun z => sw x y (f z)) (x :: a) ∧ Cyc (fun z => sw x y (f z)) (y :: b) := by
  have h : Seg f (x :: a ++ y :: b) x := h
  obtain ⟨h1, h2⟩ := seg_app.1 h
  have nd' := List.nodup_append.1 nd
  have n1 := List.nodup_cons.1 nd'.1
  have n2 := List.nodup_cons.1 nd'.2.1
  have n3 := nd'.2.2
  refine ⟨?_, ?_⟩
  · have := seg_map (g := sw x y) h1 fun z hz => sw_o (by rintro rfl; exact n1.1 hz) (n3 z (by simp [hz]) y (by simp))
    rw [sw_r] at this; exact this
  · have := seg_map (g := sw x y) h2 fun z hz => sw_o (fun e => n3 x (by simp) z (by simp [hz]) e.symm) (by rintro rfl; exact n2.1 hz)
    rw [sw_l] at this; exact this
theorem cyc_join {f : Nat → Nat} {x y : Nat} {a b : List Nat} (h1 : Cyc f (x :: a)) (h2 : Cyc f (y :: b)) (nd : (x :: a ++ y :: b).Nodup) :
    Cyc (fun z => sw x y (f z)) (x :: a ++ y :: b) := by
  have nd' := List.nodup_append.1 nd
  have n1 := List.nodup_cons.1 nd'.1
  have n2 := List.nodup_cons.1 nd'.2.1
  have n3 := nd'.2.2
  have s1 := seg_map (g := sw x y) (show Seg f (x :: a) x from h1) fun z hz => sw_o (by rintro rfl; exact n1.1 hz) (n3 z (by simp [hz]) y (by simp))
  have s2 := seg_map (g := sw x y) (show Seg f (y :: b) y from h2) fun z hz => sw_o (fun e => n3 x (by simp) z (by simp [hz]) e.symm) (by rintro rfl; exact n2.1 hz)
  rw [sw_l] at s1
  rw [sw_r] at s2
  exact seg_app.2 ⟨s1, s2⟩
theorem dec_perm {f : Nat → Nat} {n : Nat} {cs cs' : List (List Nat)} (d : Dec f n cs) (p : cs.Perm cs') : Dec f n cs' :=
  ⟨fun c hc => d.cyc c (p.mem_iff.2 hc), (p.flatten.nodup_iff).1 d.nd, fun x => by rw [← p.flatten.mem_iff]; exact d.all x⟩
theorem dec_head {f : Nat → Nat} {n : Nat} {c c' : List Nat} {cs : List (List Nat)} (d : Dec f n (c :: cs)) (h : Cyc f c') (p : c'.Perm c) : Dec f n (c' :: cs) := by
  have pf : (c' :: cs).flatten.Perm (c :: cs).flatten := by simp only [List.flatten_cons]; exact p.append_right _
  refine ⟨fun z hz => ?_, pf.nodup_iff.2 d.nd, fun x => by rw [pf.mem_iff]; exact d.all x⟩
  rcases List.mem_cons.1 hz with rfl | hz
  · exact h
  · exact d.cyc z (List.mem_cons_of_mem _ hz)
theorem mem_split {cs : List (List Nat)} {x : Nat} (h : x ∈ cs.flatten) : ∃ c r, x ∈ c ∧ cs.Perm (c :: r) := by
  obtain ⟨c, hc, hx⟩ := List.mem_flatten.1 h
  obtain ⟨s, t, rfl⟩ := List.append_of_mem hc
  exact ⟨c, s ++ t, hx, List.perm_middle⟩
/-- a swap parts a cycle -/
theorem dec_part {f : Nat → Nat} {n : Nat} {x y : Nat} {cs : List (List Nat)} (d : Dec f n cs) (ne : x ≠ y) {c : List Nat} (hc : c ∈ cs) (hx : x ∈ c) (hy : y ∈ c) :
    ∃ cs', Dec (fun z => sw x y (f z)) n cs' ∧ cs'.length = cs.length + 1 := by
  obtain ⟨s, t, rfl⟩ := List.append_of_mem hc
  have d1 := dec_perm d (List.perm_middle (a := c) (l₁ := s) (l₂ := t))
  obtain ⟨r, hr, pr⟩ := cyc_at (d.cyc c hc) hx
  have d2 := dec_head d1 hr pr
  have hy' := pr.mem_iff.2 hy
  have hy2 : y ∈ r := by
    rcases List.mem_cons.1 hy' with e | e
    · exact (ne e.symm).elim
    · exact e
  obtain ⟨a, b, rfl⟩ := List.append_of_mem hy2
  have nd := d2.nd
  rw [List.flatten_cons, List.nodup_append] at nd
  obtain ⟨c1, c2⟩ := cyc_split (f := f) (x := x) (y := y) (a := a) (b := b) hr nd.1
  refine ⟨(x :: a) :: (y :: b) :: (s ++ t), ⟨fun z hz => ?_, ?_, fun z => ?_⟩, by simp; omega⟩
  · rcases List.mem_cons.1 hz with rfl | hz
    · exact c1
    · rcases List.mem_cons.1 hz with rfl | hz
      · exact c2
      · have hm : ∀ u ∈ z, u ∈ (s ++ t).flatten := fun u hu => List.mem_flatten.2 ⟨z, hz, hu⟩
        exact cyc_off (d2.cyc z (List.mem_cons_of_mem _ hz)) (fun q => nd.2.2 x (by simp) x (hm x q) rfl) (fun q => nd.2.2 y (by simp) y (hm y q) rfl)
  · have := d2.nd
    simpa using this
  · have := d2.all z
    simpa using this
/-- a swap joins two cycles -/
theorem dec_unite {f : Nat → Nat} {n : Nat} {x y : Nat} {cs : List (List Nat)} (d : Dec f n cs) {c : List Nat} (hc : c ∈ cs) (hx : x ∈ c) (hy : y ∉ c) (hy' : y < n) :
    ∃ cs', Dec (fun z => sw x y (f z)) n cs' ∧ cs'.length + 1 = cs.length := by
  obtain ⟨s, t, rfl⟩ := List.append_of_mem hc
  have d1 := dec_perm d (List.perm_middle (a := c) (l₁ := s) (l₂ := t))
  obtain ⟨r, hr, pr⟩ := cyc_at (d.cyc c hc) hx
  have hy1 : y ∈ (c :: (s ++ t)).flatten := (d1.all y).2 hy'
  rw [List.flatten_cons, List.mem_append] at hy1
  obtain ⟨c2, w, hyc, pw⟩ := mem_split (hy1.resolve_left hy)
  have d2 := dec_perm (dec_head d1 hr pr) (pw.cons (x :: r))
  obtain ⟨r2, hr2, pr2⟩ := cyc_at (d2.cyc c2 (by simp)) hyc
  have d3 := dec_perm d2 (List.Perm.swap _ _ _)
  have d4 := dec_perm (dec_head d3 hr2 pr2) (List.Perm.swap _ _ _)
  have nd := d4.nd
  have nd : ((x :: r ++ y :: r2) ++ w.flatten).Nodup := by simpa using nd
  rw [List.nodup_append] at nd
  refine ⟨(x :: r ++ y :: r2) :: w, ⟨fun z hz => ?_, ?_, fun z => ?_⟩, ?_⟩
  · rcases List.mem_cons.1 hz with rfl | hz
    · exact cyc_join hr hr2 nd.1
    · have hm : ∀ u ∈ z, u ∈ w.flatten := fun u hu => List.mem_flatten.2 ⟨z, hz, hu⟩
      exact cyc_off (d4.cyc z (by simp [hz])) (fun q => nd.2.2 x (by simp) x (hm x q) rfl) (fun q => nd.2.2 y (by simp) y (hm y q) rfl)
  · have := d4.nd
    simpa using this
  · have := d4.all z
    simpa using this
  · have e : (c :: (s ++ t)).length = (c :: c2 :: w).length := by simp only [List.length_cons]; rw [pw.length_eq]; rfl
    have e2 : (s ++ c :: t).length = (c :: (s ++ t)).length := List.perm_middle.length_eq
    rw [e2, e]; simp
theorem ncyc_part {f : Nat → Nat} {n : Nat} {x y : Nat} {cs : List (List Nat)} (d : Dec f n cs) (ne : x ≠ y) {c : List Nat} (hc : c ∈ cs) (hx : x ∈ c) (hy : y ∈ c) :
    ncyc (fun z => sw x y (f z)) n = ncyc f n + 1 := by
  obtain ⟨cs', d', e⟩ := dec_part d ne hc hx hy
  rw [← dec_len d', ← dec_len d, e]
theorem ncyc_unite {f : Nat → Nat} {n : Nat} {x y : Nat} {cs : List (List Nat)} (d : Dec f n cs) {c : List Nat} (hc : c ∈ cs) (hx : x ∈ c) (hy : y ∉ c) (hy' : y < n) :
    ncyc (fun z => sw x y (f z)) n + 1 = ncyc f n := by
  obtain ⟨cs', d', e⟩ := dec_unite d hc hx hy hy'
  rw [← dec_len d', ← dec_len d, e]
/-! ### finding the cycles -/
structure Prt (f : Nat → Nat) (n : Nat) (cs : List (List Nat)) : Prop where
  cyc : ∀ c ∈ cs, Cyc f c
  nd : cs.flatten.Nodup
  lt : ∀ x ∈ cs.flatten, x < n
structure Inj (f : Nat → Nat) (n : Nat) : Prop where
  lt : ∀ x, x < n → f x < n
  inj : ∀ x y, x < n → y < n → f x = f y → x = y
theorem prt_closed {f : Nat → Nat} {n : Nat} {cs : List (List Nat)} (I : Inj f n) (P : Prt f n cs) {x : Nat} (hx : x < n) : f x ∈ cs.flatten ↔ x ∈ cs.flatten := by
  constructor
  · intro h
    obtain ⟨c, hc, hf⟩ := List.mem_flatten.1 h
    obtain ⟨y, hy, e⟩ := List.mem_map.1 ((cyc_map_mem (P.cyc c hc) _).2 hf)
    have : y = x := I.inj y x (P.lt y (List.mem_flatten.2 ⟨c, hc, hy⟩)) hx e
    subst this
    exact List.mem_flatten.2 ⟨c, hc, hy⟩
  · intro h
    obtain ⟨c, hc, hf⟩ := List.mem_flatten.1 h
    exact List.mem_flatten.2 ⟨c, hc, cyc_closed (P.cyc c hc) hf⟩
/-- on the way: a walked row x :: r, its next point y -/
structure Way (f : Nat → Nat) (n : Nat) (cs : List (List Nat)) (x : Nat) (r : List Nat) (y : Nat) : Prop where
  seg : Seg f (x :: r) y
  nd : (x :: r).Nodup
  off : ∀ z ∈ x :: r, z ∉ cs.flatten
  lt : ∀ z ∈ x :: r, z < n
theorem seg_last {f : Nat → Nat} {x y : Nat} {r : List Nat} (h : Seg f (x :: r) y) : ∃ s z, x :: r = s ++ [z] ∧ f z = y ∧ (s = [] ∧ z = x ∨ ∃ s', s = x :: s') := by
  rcases List.eq_nil_or_concat r with rfl | ⟨s, z, rfl⟩
  · exact ⟨[], x, rfl, seg_one.1 h, .inl ⟨rfl, rfl⟩⟩
  · rw [List.concat_eq_append] at h ⊢
    refine ⟨x :: s, z, rfl, ?_, .inr ⟨s, rfl⟩⟩
    have h' : Seg f (x :: s ++ z :: []) y := h
    exact seg_one.1 (seg_app.1 h').2
theorem way_start {f : Nat → Nat} {n : Nat} {cs : List (List Nat)} {x : Nat} (hx : x < n) (ho : x ∉ cs.flatten) : Way f n cs x [] (f x) :=
  ⟨seg_one.2 rfl, by simp, by simpa using ho, by simpa using hx⟩
theorem way_meets {f : Nat → Nat} {n : Nat} {cs : List (List Nat)} (I : Inj f n) (P : Prt f n cs) {x y : Nat} {r : List Nat} (w : Way f n cs x r y) : y < n ∧ y ∉ cs.flatten ∧ (y ∈ x :: r ↔ y = x) := by
  obtain ⟨s, z, e, hz, _⟩ := seg_last w.seg
  have mz : z ∈ x :: r := by rw [e]; simp
  have zl := w.lt z mz
  refine ⟨hz ▸ I.lt z zl, fun q => w.off z mz ((prt_closed I P zl).1 (by rw [hz]; exact q)), fun q => ?_, fun q => by rw [q]; simp⟩
  obtain ⟨i, hi⟩ := List.mem_iff_getElem?.1 q
  cases i with
  | zero => exact (Option.some.inj hi).symm
  | succ i =>
    exfalso
    have hm : (x :: r).map f = r ++ [y] := w.seg
    have hil : i + 1 < (x :: r).length := by
      rcases Nat.lt_or_ge (i + 1) (x :: r).length with q' | q'
      · exact q'
      · rw [List.getElem?_eq_none q'] at hi; cases hi
    have hil' : i < r.length := by simpa using hil
    have hfi : ((x :: r).map f)[i]? = some y := by
      rw [hm, List.getElem?_append_left hil']
      simpa using hi
    rw [List.getElem?_map] at hfi
    cases eu : (x :: r)[i]? with
    | none => rw [eu] at hfi; cases hfi
    | some u =>
      rw [eu] at hfi
      have hu : f u = y := by simpa using hfi
      have mu : u ∈ x :: r := List.mem_of_getElem? eu
      have euz : u = z := I.inj u z (w.lt u mu) zl (by rw [hu, hz])
      have hlast : (x :: r)[r.length]? = some z := by
        have hl : r.length = s.length := by have := congrArg List.length e; simpa using this
        rw [e, hl]; simp
      have hnd := w.nd
      have i1 : i < (x :: r).length := by omega
      have i2 : r.length < (x :: r).length := by simp
      have g1 : (x :: r)[i] = u := by rw [List.getElem?_eq_getElem i1] at eu; exact Option.some.inj eu
      have g2 : (x :: r)[r.length] = z := by rw [List.getElem?_eq_getElem i2] at hlast; exact Option.some.inj hlast
      have := (List.getElem_inj hnd (h₀ := i1) (h₁ := i2)).1 (by rw [g1, g2, euz])
      omega
theorem way_step {f : Nat → Nat} {n : Nat} {cs : List (List Nat)} (I : Inj f n) (P : Prt f n cs) {x y : Nat} {r : List Nat} (w : Way f n cs x r y) (ne : y ≠ x) : Way f n cs x (r ++ [y]) (f y) := by
  obtain ⟨h1, h2, h3⟩ := way_meets I P w
  refine ⟨seg_snoc w.seg, ?_, fun z hz => ?_, fun z hz => ?_⟩
  · show ((x :: r) ++ [y]).Nodup
    rw [List.nodup_append]
    refine ⟨w.nd, by simp, fun a ha b hb => ?_⟩
    simp only [List.mem_singleton] at hb
    subst hb
    rintro rfl
    exact ne (h3.1 ha)
  · rcases List.mem_append.1 (show z ∈ (x :: r) ++ [y] from hz) with q | q
    · exact w.off z q
    · simp only [List.mem_singleton] at q; subst q; exact h2
  · rcases List.mem_append.1 (show z ∈ (x :: r) ++ [y] from hz) with q | q
    · exact w.lt z q
    · simp only [List.mem_singleton] at q; subst q; exact h1
theorem way_len {f : Nat → Nat} {n : Nat} {cs : List (List Nat)} {x y : Nat} {r : List Nat} (w : Way f n cs x r y) : r.length < n := by
  have := nodup_sub w.nd w.lt
  rw [List.length_cons] at this
  exact this
theorem way_done {f : Nat → Nat} {n : Nat} {cs : List (List Nat)} (P : Prt f n cs) {x : Nat} {r : List Nat} (w : Way f n cs x r x) : Prt f n (cs ++ [x :: r]) := by
  refine ⟨fun c hc => ?_, ?_, fun z hz => ?_⟩
  · rcases List.mem_append.1 hc with q | q
    · exact P.cyc c q
    · simp only [List.mem_singleton] at q; subst q; exact w.seg
  · rw [List.flatten_append, List.nodup_append]
    refine ⟨P.nd, by simpa using w.nd, fun a ha b hb => ?_⟩
    have hb : b ∈ x :: r := by simpa using hb
    rintro rfl
    exact w.off _ hb ha
  · rw [List.flatten_append, List.mem_append] at hz
    rcases hz with q | q
    · exact P.lt z q
    · exact w.lt z (by simpa using q)
theorem prt_nil {f : Nat → Nat} {n : Nat} : Prt f n [] := ⟨by simp, by simp, by simp⟩
theorem prt_dec {f : Nat → Nat} {n : Nat} {cs : List (List Nat)} (P : Prt f n cs) (h : ∀ x, x < n → x ∈ cs.flatten) : Dec f n cs := ⟨P.cyc, P.nd, fun x => ⟨P.lt x, h x⟩⟩
theorem ncyc_congr {f g : Nat → Nat} {n : Nat} (I : Inj f n) (h : ∀ x, x < n → f x = g x) : ncyc f n = ncyc g n := by
  unfold ncyc
  refine List.countP_congr fun x hx => ?_
  have hit : ∀ (k : Nat) (x : Nat), x < n → itr f k x = itr g k x := by
    intro k
    induction k with
    | zero => intro x _; rfl
    | succ k ih => intro x hx; show itr f k (f x) = itr g k (g x); rw [← h x hx]; exact ih _ (I.lt x hx)
  rw [lead_iff, lead_iff]
  exact ⟨fun q k => by rw [← hit k x (List.mem_range.1 hx)]; exact q k, fun q k => by rw [hit k x (List.mem_range.1 hx)]; exact q k⟩
theorem ncyc_id {n : Nat} : ncyc (fun x => x) n = n := by
  unfold ncyc
  have hit : ∀ (k x : Nat), itr (fun x : Nat => x) k x = x := by
    intro k; induction k with
    | zero => intro x; rfl
    | succ k ih => intro x; exact ih x
  have : (List.range n).countP (lead fun x => x) = (List.range n).length := List.countP_eq_length.2 fun x _ => by
    rw [lead_iff]; intro k; rw [hit]; exact Nat.le_refl _
  rw [this, List.length_range]
end Sw.Cy

/-! Sw, part U: moves as data. -/
namespace Sw
open PySem PySem.Spec PyProof.Rows L2
theorem ap_appPopS (i j : Nat) (fe : DE) (τ : List Sl) (h : HS) : appPopS i j fe τ h = (match τ[i]?, τ[j]? with
  | some (.own xs), some (.own ys) => RS.ofR (fe τ h) τ fun d h1 => match d with
    | .int k => match popN ys k with
      | some (y, zs) => if decide (xs.length < sizeLine) && decide (j ≠ i) then .nx ((τ.set j (.own zs)).set i (.own (xs ++ [y]))) h1 else .bad
      | none => .bad
    | _ => .bad
  | _, _ => .bad) := id rfl
theorem ap_chR3 (g g' g2 : D → D → Option D) (a b c d : DE) (τ : List Sl) (h : HS) : chR3 g g' g2 a b c d τ h = ((a τ h).bind fun x h1 => (b τ h1).bind fun y h2 => match g x y with
  | some (.bl true) => (c τ h2).bind fun z h3 => match g' y z with
    | some (.bl true) => (d τ h3).bind fun w h4 => toRes (g2 z w) h4
    | some (.bl false) => .ok (.bl false) h3
    | _ => .bad
  | some (.bl false) => .ok (.bl false) h2
  | _ => .bad) := id rfl
theorem ap_lstRg (f : DR) (τ : List Sl) (h : HS) : lstRg f τ h = ((f τ h).bind fun p h1 => if rgOk p.1 p.2 then .ok (.lst ((rgInts p.1 p.2).map .int)) h1 else .bad) := id rfl
theorem ap_tupRg (f : DR) (τ : List Sl) (h : HS) : tupRg f τ h = ((f τ h).bind fun p h1 => if rgOk p.1 p.2 then .ok (.tup ((rgInts p.1 p.2).map .int)) h1 else .bad) := id rfl
theorem ap_rg1 (a : DE) (τ : List Sl) (h : HS) : rg1 a τ h = ((a τ h).bind fun d h1 => match d with | .int n => .ok ((0 : Int), n) h1 | _ => .bad) := id rfl
theorem ap_rg2 (a b : DE) (τ : List Sl) (h : HS) : rg2 a b τ h = ((a τ h).bind fun x h1 => (b τ h1).bind fun y h2 => match x, y with | .int i, .int j => .ok (i, j) h2 | _, _ => .bad) := id rfl
theorem ap_revTR (a : DE) (τ : List Sl) (h : HS) : revTR a τ h = ((a τ h).bind fun d h1 => match d with
  | .tup xs => .ok (.tup xs.reverse) h1
  | _ => .bad) := id rfl
theorem ap_whileS (c : DT) (b : DS) (n : Nat) (τ : List Sl) (h : HS) : whileS c b (n + 1) τ h = (RS.ofR (c τ h) τ fun k h1 => if k then match b τ h1 with
      | .nx τ2 h2 => whileS c b n τ2 h2
      | .ct τ2 h2 => whileS c b n τ2 h2
      | .bk τ2 h2 => .nx τ2 h2
      | s => s
    else .nx τ h1) := id rfl
theorem ty_tup (xs : List D) : ((tyD (.tup xs)).bind fun x => isiT x "tuple") = some true := by simp [tyD, isiT]
theorem ty_int (i : Int) : ((tyD (.int i)).bind fun x => isiT x "tuple") = some false := by simp [tyD, isiT]
theorem seq_nx {f g : DS} {τ τ' : List Sl} {h h' : HS} (e : f τ h = .nx τ' h') : seqS f g τ h = g τ' h' := by rw [ap_seqS, e]
theorem seq_rt {f g : DS} {τ : List Sl} {h h' : HS} {d : D} (e : f τ h = .rt d h') : seqS f g τ h = .rt d h' := by rw [ap_seqS, e]
theorem ite_t {t : DT} {f g : DS} {τ : List Sl} {h h' : HS} (e : t τ h = .ok true h') : iteS t f g τ h = f τ h' := by rw [ap_iteS, e, ro_ok, if_pos rfl]
theorem ite_f {t : DT} {f g : DS} {τ : List Sl} {h h' : HS} (e : t τ h = .ok false h') : iteS t f g τ h = g τ h' := by rw [ap_iteS, e, ro_ok, if_neg Bool.false_ne_true]
theorem while_f {c : DT} {b : DS} {n : Nat} {τ : List Sl} {h h' : HS} (e : c τ h = .ok false h') : whileS c b (n + 1) τ h = .nx τ h' := by rw [ap_whileS, e, ro_ok, if_neg Bool.false_ne_true]
theorem while_t {c : DT} {b : DS} {n : Nat} {τ τ' : List Sl} {h h1 h' : HS} (e : c τ h = .ok true h1) (e2 : b τ h1 = .nx τ' h') : whileS c b (n + 1) τ h = whileS c b n τ' h' := by rw [ap_whileS, e, ro_ok, if_pos rfl, e2]
theorem for_of {it : DA} {g : GT} {b : DS} {τ : List Sl} {h h' : HS} {l : List D} {r : RS} (e : it τ h = .ok l h') (e2 : forS g b l τ h' = r) : forR it g b τ h = r := by rw [ap_forR, e, ro_ok, e2]
theorem fn_rt {n : Nat} {f : DS} {ds : List D} {h h' : HS} {d : D} {τ : List Sl} (hτ : ds.map Sl.val ++ List.replicate (n - ds.length) Sl.un = τ) (e : f τ h = .rt d h') : fnR n f ds h = .ok d h' := by rw [ap_fnR, hτ, e]
theorem fn_nx {n : Nat} {f : DS} {ds : List D} {h h' : HS} {τ τ' : List Sl} (hτ : ds.map Sl.val ++ List.replicate (n - ds.length) Sl.un = τ) (e : f τ h = .nx τ' h') : fnR n f ds h = .ok .non h' := by rw [ap_fnR, hτ, e]
theorem rng1_of {fe : DE} {τ : List Sl} {h h' : HS} {n : Nat} (e : fe τ h = .ok (.int (n : Nat)) h') (hn : n ≤ 100000) : rngR1 fe τ h = .ok ((List.range n).map fun i : Nat => .int (0 + (i : Nat))) h' := by
  have w1 : -(2 ^ 62) ≤ (n : Int) := by omega
  have w2 : (n : Int) < 2 ^ 62 := by omega
  rw [ap_rngR1, e, rb_ok]
  simp only [decide_eq_true w1, decide_eq_true w2, Bool.and_self, if_true, Int.toNat_natCast, rangeD_map]
/-! ### rows of naturals as data -/
def ni (p : List Nat) : List Int := p.map fun i : Nat => (i : Int)
abbrev mv (p : List Nat) : D := .tup ((ni p).map .int)
theorem ni_len (p : List Nat) : (ni p).length = p.length := by rw [ni, List.length_map]
theorem ni_app (p q : List Nat) : ni (p ++ q) = ni p ++ ni q := by rw [ni, List.map_append]; rfl
theorem ni_get {p : List Nat} {i x : Nat} (h : p[i]? = some x) : ((ni p).map D.int)[i]? = some (.int (x : Nat)) := by
  rw [ni, List.map_map, List.getElem?_map, h]; rfl
theorem ni_map (p : List Nat) : (ni p).map D.int = p.map fun i => .int (i : Nat) := by rw [ni, List.map_map]; rfl
theorem ni_inj {p q : List Nat} (h : ni p = ni q) : p = q := by
  unfold ni at h
  induction p generalizing q with
  | nil => cases q with
    | nil => rfl
    | cons y q => cases h
  | cons x p ih => cases q with
    | nil => cases h
    | cons y q =>
      rw [List.map_cons, List.map_cons, List.cons.injEq] at h
      rw [ih h.2, Int.ofNat_inj.mp h.1]
theorem rg_ok {n : Nat} (h : n ≤ 100000) : rgOk 0 (n : Int) = true := by
  unfold rgOk
  simp only [Bool.and_eq_true, decide_eq_true_eq]
  omega
theorem rg_ints (n : Nat) : rgInts 0 (n : Int) = ni (List.range n) := by
  unfold rgInts ni
  rw [show ((n : Int) - 0).toNat = n by omega]
  exact List.map_congr_left fun i _ => by omega
theorem tupRg_ok {fe : DE} {τ : List Sl} {h : HS} {n : Nat} (e : fe τ h = .ok (.int (n : Nat)) h) (hn : n ≤ 100000) : tupRg (rg1 fe) τ h = .ok (mv (List.range n)) h := by
  simp only [ap_tupRg, ap_rg1, e, rb_ok, rg_ok hn, if_true, rg_ints]
theorem lstRg_ok {fe : DE} {τ : List Sl} {h : HS} {n : Nat} (e : fe τ h = .ok (.int (n : Nat)) h) (hn : n ≤ 100000) : lstRg (rg1 fe) τ h = .ok (.lst ((ni (List.range n)).map .int)) h := by
  simp only [ap_lstRg, ap_rg1, e, rb_ok, rg_ok hn, if_true, rg_ints]
theorem atI_at {α : Type} {xs : List α} {i : Nat} {x : α} (h : xs[i]? = some x) : L2.atI xs (i : Int) = some x := L2.atI_nat h
theorem at_tup {xs : List D} {i : Nat} {x : D} (h : xs[i]? = some x) : atD (.tup xs) (.int (i : Nat)) = some x := atI_at h
theorem at_lst {xs : List D} {i : Nat} {x : D} (h : xs[i]? = some x) : atD (.lst xs) (.int (i : Nat)) = some x := atI_at h
/-! ### moves -/
structure Mv (n : Nat) (p : List Nat) : Prop where
  len : p.length = n
  nd : p.Nodup
  lt : ∀ x ∈ p, x < n
def ap (p : List Nat) (i : Nat) : Nat := p.getD i 0
theorem ap_get {p : List Nat} {i : Nat} (h : i < p.length) : p[i]? = some (ap p i) := by
  unfold ap
  rw [List.getD_eq_getElem?_getD, List.getElem?_eq_getElem h]; rfl
theorem ap_map {p : List Nat} {f : Nat → Nat} {i : Nat} (h : i < p.length) : ap (p.map f) i = f (ap p i) := by
  have := ap_get (p := p.map f) (by rw [List.length_map]; exact h)
  rw [List.getElem?_map, ap_get h] at this
  exact (Option.some.inj this).symm
theorem ap_range {n i : Nat} (h : i < n) : ap (List.range n) i = i := by
  have := ap_get (p := List.range n) (by rw [List.length_range]; exact h)
  rw [List.getElem?_range h] at this
  exact (Option.some.inj this).symm
theorem ap_ext {p q : List Nat} (h : p.length = q.length) (e : ∀ i, i < p.length → ap p i = ap q i) : p = q := by
  refine List.ext_getElem? fun i => ?_
  rcases Nat.lt_or_ge i p.length with k | k
  · rw [ap_get k, ap_get (h ▸ k), e i k]
  · rw [List.getElem?_eq_none k, List.getElem?_eq_none (h ▸ k)]
theorem full {l : List Nat} {n : Nat} (nd : l.Nodup) (lt : ∀ x ∈ l, x < n) (len : l.length = n) : l.Perm (List.range n) := by
  have p : l.Perm ((List.range n).filter fun x => decide (x ∈ l)) := by
    refine (List.perm_ext_iff_of_nodup nd (List.nodup_range.filter _)).2 fun a => ?_
    simp only [List.mem_filter, List.mem_range, decide_eq_true_eq]
    exact ⟨fun q => ⟨lt a q, q⟩, fun q => q.2⟩
  have h2 : ((List.range n).filter fun x => decide (x ∈ l)).length = (List.range n).length := by rw [← p.length_eq, len, List.length_range]
  have h3 := List.filter_eq_self.mpr (List.length_filter_eq_length_iff.mp h2)
  rw [h3] at p
  exact p
theorem Mv.perm {n : Nat} {p : List Nat} (m : Mv n p) : p.Perm (List.range n) := full m.nd m.lt m.len
theorem Mv.of_perm {n : Nat} {p : List Nat} (h : p.Perm (List.range n)) : Mv n p := ⟨by rw [h.length_eq, List.length_range], h.nodup_iff.2 List.nodup_range, fun x m => List.mem_range.1 (h.mem_iff.1 m)⟩
theorem mv_id (n : Nat) : Mv n (List.range n) := .of_perm (.refl _)
theorem Mv.ap_lt {n : Nat} {p : List Nat} (m : Mv n p) {i : Nat} (h : i < n) : ap p i < n := m.lt _ (List.mem_of_getElem? (ap_get (by rw [m.len]; exact h)))
theorem Mv.inj {n : Nat} {p : List Nat} (m : Mv n p) : Cy.Inj (ap p) n where
  lt := fun x h => m.ap_lt h
  inj := fun x y hx hy e => by
    have hx' : x < p.length := by rw [m.len]; exact hx
    have hy' : y < p.length := by rw [m.len]; exact hy
    have e1 := ap_get hx'
    have e2 := ap_get hy'
    rw [List.getElem?_eq_getElem hx'] at e1
    rw [List.getElem?_eq_getElem hy'] at e2
    exact (List.getElem_inj m.nd).1 (by rw [Option.some.inj e1, Option.some.inj e2, e])
theorem Mv.onto {n : Nat} {p : List Nat} (m : Mv n p) {y : Nat} (h : y < n) : ∃ i, i < n ∧ ap p i = y := by
  obtain ⟨i, hi⟩ := List.mem_iff_getElem?.1 (m.perm.mem_iff.2 (List.mem_range.2 h))
  have hl := (List.getElem?_eq_some_iff.mp hi).1
  refine ⟨i, by rw [← m.len]; exact hl, ?_⟩
  rw [ap_get hl] at hi
  exact Option.some.inj hi
theorem nodup_map {l : List Nat} {f : Nat → Nat} (h : l.Nodup) (hf : ∀ x ∈ l, ∀ y ∈ l, f x = f y → x = y) : (l.map f).Nodup := by
  induction l with
  | nil => exact .nil
  | cons a l ih =>
    obtain ⟨h1, h2⟩ := List.nodup_cons.1 h
    rw [List.map_cons, List.nodup_cons]
    refine ⟨fun q => ?_, ih h2 fun x hx y hy => hf x (List.mem_cons_of_mem _ hx) y (List.mem_cons_of_mem _ hy)⟩
    obtain ⟨b, hb, e⟩ := List.mem_map.1 q
    have := hf b (List.mem_cons_of_mem _ hb) a List.mem_cons_self e
    subst this
    exact h1 hb
theorem Mv.map {n : Nat} {p : List Nat} {f : Nat → Nat} (m : Mv n p) (I : Cy.Inj f n) : Mv n (p.map f) :=
  ⟨by rw [List.length_map, m.len], nodup_map m.nd fun x hx y hy => I.inj x y (m.lt x hx) (m.lt y hy), fun x hx => by
    obtain ⟨y, hy, rfl⟩ := List.mem_map.1 hx
    exact I.lt y (m.lt y hy)⟩
/-- one and then the other -/
abbrev seqM (p q : List Nat) : List Nat := p.map (ap q)
theorem Mv.seqM {n : Nat} {p q : List Nat} (m : Mv n p) (m' : Mv n q) : Mv n (seqM p q) := m.map m'.inj
theorem sw_inj {n x y : Nat} (hx : x < n) (hy : y < n) : Cy.Inj (Cy.sw x y) n where
  lt := fun z hz => by
    unfold Cy.sw
    split
    · exact hy
    · split
      · exact hx
      · exact hz
  inj := fun a b ha hb e => by
    unfold Cy.sw at e
    split at e <;> split at e <;> (try split at e) <;> (try split at e) <;> simp_all
theorem left_inv_unique {n : Nat} {p q q' : List Nat} (m : Mv n p) (hq : q.length = n) (hq' : q'.length = n) (e : ∀ i, i < n → ap q (ap p i) = i) (e' : ∀ i, i < n → ap q' (ap p i) = i) : q = q' := by
  refine ap_ext (by rw [hq, hq']) fun y hy => ?_
  rw [hq] at hy
  obtain ⟨i, hi, rfl⟩ := m.onto hy
  rw [e i hi, e' i hi]
theorem right_inv {n : Nat} {p q : List Nat} (m : Mv n p) (e : ∀ i, i < n → ap q (ap p i) = i) {y : Nat} (hy : y < n) : ap p (ap q y) = y := by
  obtain ⟨i, hi, rfl⟩ := m.onto hy
  rw [e i hi]
theorem inv_mv {n : Nat} {p q : List Nat} (m : Mv n p) (hq : q.length = n) (e : ∀ i, i < n → ap q (ap p i) = i) : Mv n q := by
  have e2 : q = (List.range n).map (ap q) := by
    refine ap_ext (by simp [hq]) fun i hi => ?_
    rw [hq] at hi
    rw [ap_map (by rw [List.length_range]; exact hi), ap_range hi]
  rw [e2]
  refine (mv_id n).map ⟨fun x hx => ?_, fun x y hx hy h => ?_⟩
  · obtain ⟨i, hi, rfl⟩ := m.onto hx
    rw [e i hi]; exact hi
  · rw [← right_inv m e hx, ← right_inv m e hy, h]
/-! ### moves as the program sees them -/
theorem pair_sorted : ∀ n, (ni (List.range n)).Pairwise (· ≤ ·) := fun n => by
  unfold ni
  rw [List.pairwise_map]
  exact List.pairwise_lt_range.imp fun h => by omega
theorem sort_mv {n : Nat} {p : List Nat} (m : Mv n p) : sortI (ni p) = ni (List.range n) :=
  sorted_unique ((sortI_perm _).trans (m.perm.map _)) (sortI_sorted _) (pair_sorted n)
theorem sortsD_ints (l : List Int) : sortsD [.lst (l.map .int)] = some (.lst ((sortI l).map .int)) := by
  simp only [sortsD, sortsG, sortLG, Sw.ints_map, Option.map_some, Option.some_or]
theorem sortsD_tints (l : List Int) : sortsD [.tup (l.map .int)] = some (.lst ((sortI l).map .int)) := by
  simp only [sortsD, sortsG, sortLG, sortTG, Sw.ints_map, Option.map_some, Option.none_or, Option.some_or]
theorem bools_all (l : List Bool) : boolsD (l.map .bl) = some l := by
  induction l with
  | nil => rfl
  | cons x l ih => simp [boolsD, ih]
theorem inB_ints (x : Int) (l : List Int) : inB (.int x) (.lst (l.map .int)) = some (decide (x ∈ l)) := by
  have sh : SeqAt.shaped (.list (l.map PyData.int)) = true := by
    obtain ⟨p, e1, e2, e3⟩ := cmp_intsL l
    rw [D.py, py_ints] at e1
    cases e1
    unfold SeqAt.shaped
    rw [e2, decide_eq_true (Nat.le_trans e3 (by decide))]; rfl
  have sx : SeqAt.shaped (.int x) = true := rfl
  simp only [inB, D.py, py_ints, sh, sx, Bool.and_self, if_true]
  congr 1
  rw [List.any_map]
  induction l with
  | nil => simp
  | cons y l ih =>
    rw [List.any_cons, ih]
    simp only [Function.comp, PyData.eqv, List.mem_cons]
    · by_cases h : y = x
      · subst h; simp
      · have : ¬ x = y := fun q => h q.symm
        simp [h, this]
    · obtain ⟨p, e1, e2, e3⟩ := cmp_intsL l
      rw [D.py, py_ints] at e1
      cases e1
      unfold SeqAt.shaped
      rw [e2, decide_eq_true (Nat.le_trans e3 (by decide))]; rfl
theorem flat_ints : ∀ l : List Int, flatAll (l.map .int) = some (l.map V.int)
  | [] => by rw [List.map_nil, flatAll]; rfl
  | x :: l => by rw [List.map_cons, flatAll, flat_ints l]; rfl
theorem inTB_ints (x : Int) (l : List Int) : inTB (.int x) (.tup (l.map .int)) = some (decide (x ∈ l)) := by
  simp only [inTB, Dv, flat_ints, Option.map_some]
  congr 1
  induction l with
  | nil => rfl
  | cons y l ih =>
    rw [List.map_cons]
    simp only [List.mem_cons]
    show (eqV (.int y) (.int x) || inV (.int x) (l.map V.int)) = _
    rw [ih]
    by_cases h : y = x
    · subst h; simp [eqV]
    · have : ¬ x = y := fun q => h q.symm
      simp [eqV, h, this]
theorem mem_ni {x : Nat} {p : List Nat} : (x : Int) ∈ ni p ↔ x ∈ p := by
  unfold ni
  rw [List.mem_map]
  exact ⟨fun ⟨y, hy, e⟩ => by rw [Int.ofNat_inj.mp e] at hy; exact hy, fun h => ⟨x, h, rfl⟩⟩
theorem in_lst (x : Nat) (p : List Nat) : inA (.int (x : Nat)) (.lst ((ni p).map .int)) = some (.bl (decide (x ∈ p))) := by
  simp only [inA, inD, inB_ints, Option.map_some, Option.some_or, mem_ni]
theorem notIn_lst (x : Nat) (p : List Nat) : notInA (.int (x : Nat)) (.lst ((ni p).map .int)) = some (.bl (!decide (x ∈ p))) := by
  simp only [notInA, notInD, inB_ints, Option.map_some, Option.some_or, mem_ni]
theorem in_tup (x : Nat) (p : List Nat) : inA (.int (x : Nat)) (mv p) = some (.bl (decide (x ∈ p))) := by
  have n0 : inB (.int (x : Nat)) (mv p) = none := by simp [inB, D.py]
  simp only [inA, inD, n0, inTD, inTB_ints, Option.map_some, Option.map_none, Option.none_or, mem_ni]
theorem noRefsM {α : Type} (f : α → D) : ∀ l : List α, (∀ x ∈ l, (f x).noRef = true) → noRefs (l.map f) = true
  | [], _ => by rw [List.map_nil, noRefs]
  | x :: l, h => by rw [List.map_cons, noRefs, h x List.mem_cons_self, noRefsM f l fun y m => h y (List.mem_cons_of_mem _ m)]; rfl
theorem noRef_mv (p : List Nat) : (mv p).noRef = true := by simp [D.noRef, noRefs_ints]
theorem ixN_nat {n i : Nat} (h : i < n) : L2.ixN n (i : Int) = some i := by
  unfold L2.ixN
  rw [if_pos (by omega), if_pos (by omega), Int.toNat_natCast]
theorem ap_upd {r : List Nat} {k x : Nat} (h : k < r.length) (j : Nat) : ap (r.set k x) j = if j = k then x else ap r j := by
  unfold ap
  rw [List.getD_eq_getElem?_getD, List.getD_eq_getElem?_getD]
  by_cases e : j = k
  · subst e
    rw [List.getElem?_set_self h, if_pos rfl]; rfl
  · rw [List.getElem?_set_ne (fun q => e q.symm), if_neg e]
/-- which places were met -/
def mb (n : Nat) (S : List Nat) : List D := (List.range n).map fun i => D.bl (decide (i ∈ S))
theorem mb_len (n : Nat) (S : List Nat) : (mb n S).length = n := by rw [mb, List.length_map, List.length_range]
theorem mb_get {n i : Nat} {S : List Nat} (h : i < n) : (mb n S)[i]? = some (.bl (decide (i ∈ S))) := by
  rw [mb, List.getElem?_map, List.getElem?_range h]; rfl
theorem mb_set {n i : Nat} {S : List Nat} (h : i < n) : (mb n S).set i (.bl true) = mb n (S ++ [i]) := by
  refine List.ext_getElem? fun j => ?_
  by_cases e : i = j
  · subst e
    rw [List.getElem?_set_self (by rw [mb_len]; exact h), mb_get h]
    simp
  · rw [List.getElem?_set_ne e]
    rcases Nat.lt_or_ge j n with k | k
    · rw [mb_get k, mb_get k]
      have : ¬ j = i := fun q => e q.symm
      simp [this]
    · rw [List.getElem?_eq_none (by rw [mb_len]; exact k), List.getElem?_eq_none (by rw [mb_len]; exact k)]
theorem mb_nil (n : Nat) : (List.replicate n [D.bl false]).flatten = mb n [] := by
  unfold mb
  induction n with
  | zero => rfl
  | succ n ih => rw [List.replicate_succ', List.flatten_append, ih, List.range_succ, List.map_append]; rfl
theorem repL_eq (xs : List D) (k : Int) : repL (.lst xs) (.int k) = if (decide (k < 2 ^ 62) && (decide (-(2 ^ 62) < k) && fits (xs.length * k.toNat))) = true then some (.lst (List.replicate k.toNat xs).flatten) else none := id rfl
theorem rep_ok {x : D} {n : Nat} (h : n ≤ 1000) : repL (.lst [x]) (.int (n : Nat)) = some (.lst (List.replicate n [x]).flatten) := by
  have f : fits ([x].length * (n : Int).toNat) = true := fits_of (by simp; omega)
  have e : (decide ((n : Int) < 2 ^ 62) && (decide (-(2 ^ 62) < (n : Int)) && fits ([x].length * (n : Int).toNat))) = true := by
    rw [f, decide_eq_true (show (n : Int) < 2 ^ 62 by omega), decide_eq_true (show -(2 ^ 62) < (n : Int) by omega)]; rfl
  rw [repL_eq, if_pos e, Int.toNat_natCast]
theorem enumD_at : ∀ (l : List D) (k : Nat), enumD k l = (List.range l.length).map fun i => .tup [.int ((k + i : Nat) : Int), l.getD i .non]
  | [], k => rfl
  | x :: l, k => by
    have : enumD k (x :: l) = .tup [.int (k : Nat), x] :: enumD (k + 1) l := by first | rfl | (rw [enumD]; done) | (simp [enumD])
    rw [this, enumD_at l, List.length_cons, List.range_succ_eq_map, List.map_cons, List.map_map]
    congr 1
    refine List.map_congr_left fun i _ => ?_
    simp only [Function.comp, List.getD_cons_succ]
    rw [show k + 1 + i = k + (i + 1) by omega]
theorem enum_mv (p : List Nat) : enumD 0 ((ni p).map .int) = (List.range p.length).map fun i : Nat => .tup [.int (i : Nat), .int (ap p i : Nat)] := by
  rw [enumD_at, List.length_map, ni_len]
  refine List.map_congr_left fun i hi => ?_
  have := ni_get (ap_get (List.mem_range.1 hi))
  rw [List.getD_eq_getElem?_getD, this, Nat.zero_add]; rfl
theorem erase_perm {α : Type} {x : α} : ∀ {l : List α} {i : Nat}, l[i]? = some x → (x :: l.eraseIdx i).Perm l
  | [], i, h => by simp at h
  | y :: l, 0, h => by cases h; exact .refl _
  | y :: l, i + 1, h => by
    rw [List.eraseIdx_cons_succ]
    exact (List.Perm.swap y x _).trans ((erase_perm (l := l) (i := i) (by simpa using h)).cons y)
theorem erase_map {α β : Type} (f : α → β) : ∀ (l : List α) (i : Nat), (l.map f).eraseIdx i = (l.eraseIdx i).map f
  | [], i => by simp
  | y :: l, 0 => rfl
  | y :: l, i + 1 => by rw [List.map_cons, List.eraseIdx_cons_succ, List.eraseIdx_cons_succ, List.map_cons, erase_map f l i]
theorem seqIx_nat {n i : Nat} (h : i < n) : seqIndex? (i : Int) n = some i := by
  unfold seqIndex?
  have h1 : ¬ (i : Int) < 0 := by omega
  have h2 : (decide (0 ≤ (i : Int)) && decide ((i : Int) < (n : Int))) = true := by
    rw [decide_eq_true (show (0 : Int) ≤ i by omega), decide_eq_true (show (i : Int) < n by omega)]; rfl
  simp only [h1, if_false, h2, if_true, Int.toNat_natCast]
theorem popN_at {l : List D} {i : Nat} {x : D} (h : l[i]? = some x) (hz : l.length ≤ 1000000) : popN l (i : Int) = some (x, l.eraseIdx i) := by
  have hl := (List.getElem?_eq_some_iff.mp h).1
  have b : (decide (-(2 ^ 63) ≤ (i : Int)) && decide ((i : Int) < 2 ^ 63)) = true := by
    rw [decide_eq_true (show -(2 ^ 63) ≤ (i : Int) by omega), decide_eq_true (show (i : Int) < 2 ^ 63 by omega)]; rfl
  unfold popN
  rw [if_pos b, seqIx_nat hl]
  simp only [h]
theorem appPop_of {i j : Nat} {fe : DE} {τ : List Sl} {h h' : HS} {k : Int} {xs ys zs : List D} {y : D} (hi : τ[i]? = some (.own xs)) (hj : τ[j]? = some (.own ys)) (e : fe τ h = .ok (.int k) h') (pn : popN ys k = some (y, zs)) (z : xs.length < sizeLine) (ne : j ≠ i) :
    appPopS i j fe τ h = .nx ((τ.set j (.own zs)).set i (.own (xs ++ [y]))) h' := by
  have zz : (decide (xs.length < sizeLine) && decide (j ≠ i)) = true := by rw [decide_eq_true z, decide_eq_true ne]; rfl
  rw [ap_appPopS]
  simp only [hi, hj, e, ro_ok, pn]
  rw [if_pos zz]
theorem cut_to' (l : List D) (i : Nat) : Sw.cutD l none (some (i : Int)) = l.take i := by
  unfold Sw.cutD
  rw [HT.sIx_none, show HT.sIx l.length l.length (some (i : Int)) = min i l.length from HT.sIx_nat _ _ i, List.drop_zero, Nat.sub_zero]
  rcases Nat.le_total i l.length with h | h
  · rw [Nat.min_eq_left h]
  · rw [Nat.min_eq_right h, List.take_of_length_le (Nat.le_refl _), List.take_of_length_le h]
theorem cut_from' (l : List D) (i : Nat) : Sw.cutD l (some (i : Int)) none = l.drop i := by
  unfold Sw.cutD
  rw [HT.sIx_none, show HT.sIx l.length 0 (some (i : Int)) = min i l.length from HT.sIx_nat _ _ i]
  rcases Nat.le_total i l.length with h | h
  · rw [Nat.min_eq_left h, List.take_of_length_le (by rw [List.length_drop]; exact Nat.le_refl _)]
  · rw [Nat.min_eq_right h, List.drop_of_length_le (Nat.le_refl _), List.drop_of_length_le h]
    simp
/-- a comprehension that draws -/
theorem lcL_inv {α : Type} {g : GT} {te : DE} {τ : List Sl} (enc : α → D) (P : HS → Prop) (R : D → Prop) : ∀ (l : List α) (h : HS), P h → (∀ x ∈ l, ∀ h, P h → ∃ τ1 d h', g (enc x) τ = some τ1 ∧ te τ1 h = .ok d h' ∧ P h' ∧ R d) →
    ∃ ds h', lcL g (fun _ h => .ok true h) te τ (l.map enc) h = .ok ds h' ∧ P h' ∧ ds.length = l.length ∧ ∀ d ∈ ds, R d
  | [], h, p, _ => ⟨[], h, rfl, p, rfl, fun d m => by cases m⟩
  | x :: l, h, p, H => by
    obtain ⟨τ1, d, h1, e1, e2, p1, r1⟩ := H x List.mem_cons_self h p
    obtain ⟨ds, h2, e3, p2, hl, hr⟩ := lcL_inv enc P R l h1 p1 fun y m => H y (List.mem_cons_of_mem _ m)
    refine ⟨d :: ds, h2, ?_, p2, by rw [List.length_cons, List.length_cons, hl], fun z m => ?_⟩
    · rw [List.map_cons, lcL, e1]
      simp only [Res.nox, Res.bind, if_true, e2, e3]
    · rcases List.mem_cons.1 m with rfl | m
      · exact r1
      · exact hr z m
theorem all_of {α : Type} {f : α → D} {R : α → Prop} : ∀ {ds : List D}, (∀ d ∈ ds, ∃ a, d = f a ∧ R a) → ∃ l : List α, ds = l.map f ∧ ∀ a ∈ l, R a
  | [], _ => ⟨[], rfl, fun a m => by cases m⟩
  | d :: ds, h => by
    obtain ⟨a, rfl, r⟩ := h d List.mem_cons_self
    obtain ⟨l, rfl, hl⟩ := all_of fun z m => h z (List.mem_cons_of_mem _ m)
    exact ⟨a :: l, rfl, fun b m => by
      rcases List.mem_cons.1 m with rfl | m
      · exact r
      · exact hl b m⟩
theorem map_inj_perm {l m : List Nat} (h : l.Perm m) {n : Nat} (hm : m = List.range n) : Mv n l := by subst hm; exact .of_perm h
/-- max(1, min(K, len(script))) -/
theorem spots_ok (K : Int) (h1 : 1 ≤ K) (h2 : K ≤ 1000) (ns : List Int) (r : List Sl) (h : HS) : ∃ k : Nat, biR maxsG (consR (kD (.int 1)) (consR (biR minsG (consR (kD (.int K)) (consR (biR lenG (consR (nS 0) aN)) aN))) aN)) (.val (.frl (ns.map .int)) :: r) h = .ok (.int (k : Nat)) h ∧ k ≤ 1000 := by
  obtain ⟨z, e, z1, z2⟩ : ∃ z : Int, (if (if (ns.length : Int) < K then (ns.length : Int) else K) > 1 then (if (ns.length : Int) < K then (ns.length : Int) else K) else 1) = z ∧ 1 ≤ z ∧ z ≤ K := ⟨_, rfl, by split <;> split <;> omega, by split <;> split <;> omega⟩
  refine ⟨z.toNat, ?_, by omega⟩
  rw [show ((z.toNat : Nat) : Int) = z by omega, ← e]
  simp [ap_iSub, ap_addD, ap_mulD, ap_iLt, ap_iLe, ap_iGt, ap_iGe, ap_iMod, ap_iDiv, ap_ifR, ap_nS, ap_nB, ap_kD, ap_aN, ap_tY, ap_oN, ap_oS, ap_rT, ap_xS, ap_bkS, ap_ctS, ap_noS, ap_rN, ap_frS, ap_mN, ap_shR, ap_seqS, ap_iteS, ap_cmpT, ap_setS, ap_setN, ap_nilS, ap_res1, ap_res2, ap_refIxR, ap_rputS, ap_consR, ap_callR, ap_biR, ap_isiR, ap_bAndR, ap_bNotR, ap_bOrR, ap_chR, ap_chT, ap_truR, ap_tNotR, ap_tAndR, ap_tOrR, ap_seqR, ap_rngR1, ap_rngR2, ap_enumR, ap_sliceR, ap_tupR, ap_lstR, ap_starR, ap_augS, ap_asgS, ap_par2, ap_ownM, ap_valM, ap_appS, ap_extS, ap_putS, ap_revR, rb_ok, rn_ok, ro_ok, tr_some, getS, getB, toRes, lenG, minsG, maxsG, minG, maxG]
/-- a turn of the law: the dice, and what is asked of them -/
theorem forS_any {α : Type} {g : GT} {b : DS} (enc : α → D) (I : List Sl → HS → Prop) (l : List α) (τ : List Sl) (h : HS) (i : I τ h) (H : ∀ x τ h, x ∈ l → I τ h → ∃ τ1 τ2 h2, g (enc x) τ = some τ1 ∧ b τ1 h = .nx τ2 h2 ∧ I τ2 h2) :
    ∃ τ2 h2, forS g b (l.map enc) τ h = .nx τ2 h2 ∧ I τ2 h2 :=
  forS_inv enc (fun _ => I) l [] τ h i fun _ x τ h i m => H x τ h m i
end Sw

/-! Sw, part V: range(a, b, -1); tests by chains of three; {}; repr of a bool. -/
namespace Sw
open PySem PySem.Spec PyProof.Rows L2
section
variable {C : Cn} {a b c e tg : Expr} {fa fb fe : DE} {p pos : Pos}
def rngD3 (a b : DE) : DA := fun τ h => (a τ h).bind fun x h1 => (b τ h1).bind fun y h2 => match x, y with
  | .int m, .int n => if (decide (-(2 ^ 62) ≤ m) && decide (m < 2 ^ 62)) && (decide (-(2 ^ 62) ≤ n) && decide (n < 2 ^ 62)) then .ok (rangeC m (-1) (m - n).toNat) h2 else .bad
  | _, _ => .bad
theorem den_irngD {k : Nat} {p1 p2 : Pos} (hg : glB C.sc "range" = true) (hm : C.g.mg "range" = none) (ha : DenB C a fa) (hb : DenB C b fb)
    (hs : ∀ env, starEach [a, b, .UnaryOp .USub (.Constant (.int 1) k p1) p2] env = (false, eval a env) :: starEach [b, .UnaryOp .USub (.Constant (.int 1) k p1) p2] env)
    (hs2 : ∀ env, starEach [b, .UnaryOp .USub (.Constant (.int 1) k p1) p2] env = (false, eval b env) :: starEach [.UnaryOp .USub (.Constant (.int 1) k p1) p2] env)
    (hpl : ∀ env, (backTo pos (starEach [b, .UnaryOp .USub (.Constant (.int 1) k p1) p2] env)).any (·.1) = false) : DenI C tg (.Call (.Name "range" p) [a, b, .UnaryOp .USub (.Constant (.int 1) k p1) p2] [] pos) (rngD3 fa fb) := fun X E ok => by
  obtain ⟨t, pa, q⟩ := ha X E ok
  obtain ⟨t', pb, q'⟩ := hb X E ok
  obtain ⟨g1, g2, g3⟩ := glB_ok ok hg
  have pm : PE X (.UnaryOp .USub (.Constant (.int 1) k p1) p2) (tUn (rU fun i => .int (-i)) (tC (.int 1))) := pe_un un_neg pe_int
  refine ⟨_, pi_range3 g1 (by rw [ok.mg]; exact hm) (pa_cons pa (pa_cons pb (pa_cons pm pa_nil rfl) (hs2 _)) (hs _)) (hs _) (hpl _), fun W0 W τ σ h Q l fr rh o => ?_⟩
  refine q W0 W τ σ h _ l fr rh (okG.bind o fun x h1 W1 v l1 rh1 b1 o1 => ?_)
  refine q' W0 W1 τ σ h1 _ (l.trans l1) (fr.mono l1) rh1 (okG.bind o1 fun y h2 W2 u l2 rh2 b2 o2 => ?_)
  cases x with
  | int m =>
    cases y with
    | int n =>
      rw [b1.int, b2.int]
      simp only at o2
      split at o2
      · rename_i hc
        simp only [Bool.and_eq_true, decide_eq_true_eq] at hc
        exact ⟨1, rfl, m, n, -1, (m - n).toNat, rfl, RgC.neg hc.1.1 hc.1.2 hc.2.1 hc.2.2, o2 W2 _ (.refl _) rh2 walks_rngC⟩
      · exact o2.elim
    | _ => exact (show False from o2).elim
  | _ => exact (show False from o2).elim
theorem _root_.Sw.call_repr_bl {X : Cx} : CallR X (.builtin "repr") (fun xs H Q => ∃ b : Bool, xs = [.bl b] ∧ Q (.str (if b then "True" else "False")) H) := by
  intro pins s σ H xs us Q I r h
  obtain ⟨b, rfl, q⟩ := h
  obtain ⟨u, rfl, t⟩ := vals1 r
  cases t
  exact PySem.P.repr_of_bool ⟨.str _, H, I.tok _, ⟨_, rfl⟩, q⟩
def reprG : List D → Option D
  | [.bl b] => some (.str (if b then "True" else "False"))
  | _ => none
theorem c_repr : CalD C (.builtin "repr") reprG := fun X E ok => ⟨_, call_repr_bl, fun W h ds vs d Q rh b e k => by
  unfold reprG at e
  split at e
  · obtain ⟨v, rfl, b1⟩ := BorsAll.one b
    cases e
    rw [b1.bl]
    exact ⟨_, rfl, k W _ (.refl _) rh rep_str⟩
  · cases e⟩
/-- {} -/
theorem den_emptyK : DenN C (.Dict [] [] pos) (fun _ h => .ok (.dK []) h) := fun X E ok =>
  ⟨_, pe_dnewK, fun W0 W τ σ h Q l fr rh o => fun np hn => by
    have lw := le_put (o := HO.dK []) hn
    exact o (W.put np (.dK [])) (.ref np) lw (rh_put hn rh) ⟨np, [], rfl, upd_same, by rw [RepK], fun f => rh.up np f hn, fun m => rh.there m hn, hn⟩⟩
end
section
variable {X : Cx} {a b c d : Expr} {ta tb tc td : TE} {pos : Pos}
theorem pt_ch3 {op op' op2 : CmpOp} {r r' r2 : R2} (o0 : OpR X (compareOp op) r) (o1 : OpR X (compareOp op') r') (o2 : OpR X (compareOp op2) r2) (ha : PE X a ta) (hb : PE X b tb) (hc : PE X c tc) (hd : PE X d td)
    (hm : lastMarks [op, op', op2] [b, c, d] = false) : PT X (.Compare a [op, op', op2] [b, c, d] pos) (tTest (tCh3 r r' r2 ta tb tc td)) := by
  refine ⟨fun pins s σ H Q I h => ?_⟩
  refine isTrue_chain (thn (ha.run pins s σ H _ I h) fun va s1 ⟨x, H1, I1, ra, qa⟩ => test_link (thn (hb.run pins s1 σ H1 _ I1 qa) fun vb s2 ⟨y, H2, I2, rb, qb⟩ =>
    thn (o0 pins s2 σ H2 x y va vb _ I2 ra rb qb) fun vk s3 ⟨z, H3, I3, rk, k, ek, qk⟩ => ?_)) hm
  subst ek; cases rk
  refine wpAny_truthy_bool ?_
  cases k with
  | false =>
    obtain ⟨k', e', q'⟩ := qk
    cases e'
    exact ite_ff ⟨H3, I3, q'⟩
  | true =>
    refine ite_tt (test_link (thn (hc.run pins s3 σ H3 _ I3 qk) fun vc s4 ⟨u, H4, I4, rc, qc⟩ => thn (o1 pins s4 σ H4 y u vb vc _ I4 rb rc qc) fun vj s5 ⟨z', H5, I5, rj, j, ej, qj⟩ => ?_))
    subst ej; cases rj
    refine wpAny_truthy_bool ?_
    cases j with
    | false =>
      obtain ⟨k', e', q'⟩ := qj
      cases e'
      exact ite_ff ⟨H5, I5, q'⟩
    | true =>
      refine ite_tt (test_last (thn (hd.run pins s5 σ H5 _ I5 qj) fun vd s6 ⟨w, H6, I6, rd, qd⟩ => thn (o2 pins s6 σ H6 u w vc vd _ I6 rc rd qd) fun vm s7 ⟨z2, H7, I7, rm, m, em, qm⟩ => ?_))
      subst em; cases rm
      exact wpAny_truthy_bool ⟨H7, I7, qm⟩
end
def chT3 (g g' g2 : D → D → Option D) (a b c d : DE) : DT := fun τ h => (chR3 g g' g2 a b c d τ h).bind fun d h1 => match d with | .bl k => .ok k h1 | _ => .bad
section
variable {C : Cn} {a b c d : Expr} {fa fb fc fd : DE} {pos : Pos}
theorem den_tchain3 {op op' op2 : CmpOp} {g g' g2 : D → D → Option D} (ho : OpD C (compareOp op) g) (ho' : OpD C (compareOp op') g') (ho2 : OpD C (compareOp op2) g2) (ha : DenB C a fa) (hb : DenB C b fb) (hc : DenB C c fc) (hd : DenB C d fd)
    (hm : lastMarks [op, op', op2] [b, c, d] = false) : DenT C (.Compare a [op, op', op2] [b, c, d] pos) (chT3 g g' g2 fa fb fc fd) := fun X E ok => by
  obtain ⟨r, hr, qr⟩ := ho X E ok
  obtain ⟨r', hr', qr'⟩ := ho' X E ok
  obtain ⟨r2, hr2, qr2⟩ := ho2 X E ok
  obtain ⟨ta, pa, qa⟩ := ha X E ok
  obtain ⟨tb, pb, qb⟩ := hb X E ok
  obtain ⟨tc, pc, qc⟩ := hc X E ok
  obtain ⟨td, pd, qd⟩ := hd X E ok
  refine ⟨_, pt_ch3 hr hr' hr2 pa pb pc pd hm, fun W0 W τ σ h Q l fr rh o => ?_⟩
  let Q2 : VK := fun v H => ∃ k, v = .bl k ∧ Q k H
  have o : okG C.g.K C.g.mg (Rep C.g.K) W (fun c dd H => E c dd σ H) Q2 (chR3 g g' g2 fa fb fc fd τ h) := okG.bind o fun x h1 W1 v l1 rh1 b1 o1 => by
    cases x with
    | bl k => rw [Rep] at b1; exact ⟨k, b1, okG.now o1 rh1 rfl⟩
    | _ => exact (show False from o1).elim
  refine qa W0 W τ σ h _ l fr rh (okG.bind o fun x h1 W1 v l1 rh1 b1 o1 => ?_)
  refine qb W0 W1 τ σ h1 _ (l.trans l1) (fr.mono l1) rh1 (okG.bind o1 fun y h2 W2 u l2 rh2 b2 o2 => ?_)
  cases e : g x y with
  | none => rw [e] at o2; exact (show False from o2).elim
  | some dk =>
    rw [e] at o2
    cases dk with
    | bl k =>
      refine qr W2 h2 x y v u _ _ rh2 (b1.mono l2) b2 e fun W3 z l3 rh3 r3 => ?_
      rw [Rep] at r3
      refine ⟨k, r3, ?_⟩
      have o3 := okG.mono l3 o2
      cases k with
      | false => exact iteF (okG.now o3 rh3 rep_bl)
      | true =>
        have L3 := (l.trans l1).trans (l2.trans l3)
        refine iteT (qc W0 W3 τ σ h2 _ L3 ((fr.mono l1).mono (l2.trans l3)) rh3 (okG.bind o3 fun z h4 W4 w l4 rh4 b4 o4 => ?_))
        cases e' : g' y z with
        | none => rw [e'] at o4; exact (show False from o4).elim
        | some dk' =>
          rw [e'] at o4
          cases dk' with
          | bl k' =>
            refine qr' W4 h4 y z u w _ _ rh4 (b2.mono (l3.trans l4)) b4 e' fun W5 z5 l5 rh5 r5 => ?_
            rw [Rep] at r5
            refine ⟨k', r5, ?_⟩
            have o5 := okG.mono l5 o4
            cases k' with
            | false => exact iteF (okG.now o5 rh5 rep_bl)
            | true =>
              refine iteT (qd W0 W5 τ σ h4 _ (L3.trans (l4.trans l5)) (((fr.mono l1).mono (l2.trans l3)).mono (l4.trans l5)) rh5 (okG.bind o5 fun w6 h6 W6 v6 l6 rh6 b6 o6 => ?_))
              obtain ⟨d6, e6, k6⟩ := toRes_some o6
              exact qr2 W6 h6 z w6 w v6 d6 Q2 rh6 (b4.mono (l5.trans l6)) b6 e6 k6
          | _ => exact (show False from o4).elim
    | _ => exact (show False from o2).elim
end
theorem ap_chT3 (g g' g2 : D → D → Option D) (a b c d : DE) (τ : List Sl) (h : HS) : chT3 g g' g2 a b c d τ h = ((chR3 g g' g2 a b c d τ h).bind fun d h1 => match d with | .bl k => .ok k h1 | _ => .bad) := id rfl
theorem ap_rngD3 (a b : DE) (τ : List Sl) (h : HS) : rngD3 a b τ h = ((a τ h).bind fun x h1 => (b τ h1).bind fun y h2 => match x, y with
  | .int m, .int n => if (decide (-(2 ^ 62) ≤ m) && decide (m < 2 ^ 62)) && (decide (-(2 ^ 62) ≤ n) && decide (n < 2 ^ 62)) then .ok (rangeC m (-1) (m - n).toNat) h2 else .bad
  | _, _ => .bad) := id rfl
end Sw

/-! Sw, part W: rows of swaps, strict rows: plain Lean, and as data. -/
namespace Sw
namespace Cy
theorem way_close {f : Nat → Nat} {n : Nat} {cs : List (List Nat)} (I : Inj f n) (P : Prt f n cs) : ∀ (F x : Nat) (r : List Nat) (y : Nat), Way f n cs x r y → n < r.length + F + 1 → ∃ r', Way f n cs x r' x
  | 0, x, r, y, w, hF => by have := way_len w; omega
  | F + 1, x, r, y, w, hF => by
    by_cases e : y = x
    · subst e; exact ⟨r, w⟩
    · exact way_close I P F x (r ++ [y]) (f y) (way_step I P w e) (by rw [List.length_append]; simp; omega)
theorem prt_upto {f : Nat → Nat} {n : Nat} (I : Inj f n) : ∀ k, k ≤ n → ∃ cs, Prt f n cs ∧ ∀ i, i < k → i ∈ cs.flatten
  | 0, _ => ⟨[], prt_nil, fun i h => by omega⟩
  | k + 1, h => by
    obtain ⟨cs, P, hk⟩ := prt_upto I k (by omega)
    by_cases m : k ∈ cs.flatten
    · exact ⟨cs, P, fun i hi => by
        rcases Nat.lt_succ_iff_lt_or_eq.1 hi with q | q
        · exact hk i q
        · rw [q]; exact m⟩
    · obtain ⟨r, w⟩ := way_close I P (n + 1) k [] (f k) (way_start (by omega) m) (by simp; omega)
      refine ⟨cs ++ [k :: r], way_done P w, fun i hi => ?_⟩
      rw [List.flatten_append, List.mem_append]
      rcases Nat.lt_succ_iff_lt_or_eq.1 hi with q | q
      · exact .inl (hk i q)
      · subst q; exact .inr (by simp)
theorem dec_exists {f : Nat → Nat} {n : Nat} (I : Inj f n) : ∃ cs, Dec f n cs := by
  obtain ⟨cs, P, h⟩ := prt_upto I n (Nat.le_refl _)
  exact ⟨cs, prt_dec P h⟩
theorem ncyc_le (f : Nat → Nat) (n : Nat) : ncyc f n ≤ n := by
  have : ncyc f n ≤ (List.range n).length := List.countP_le_length
  rwa [List.length_range] at this
end Cy
/-! ### rows -/
structure RowOk (n : Nat) (l : List (Nat × Nat)) : Prop where
  ok : ∀ s ∈ l, s.1 < s.2 ∧ s.2 < n
abbrev prod (p : List Nat) (l : List (Nat × Nat)) : List Nat := l.foldl (fun q s => q.map (Cy.sw s.1 s.2)) p
theorem prod_len (l : List (Nat × Nat)) : ∀ p : List Nat, (prod p l).length = p.length := by
  induction l with
  | nil => intro p; rfl
  | cons s l ih => intro p; show (prod (p.map _) l).length = _; rw [ih, List.length_map]
theorem RowOk.tail {n : Nat} {s : Nat × Nat} {l : List (Nat × Nat)} (r : RowOk n (s :: l)) : RowOk n l := ⟨fun t ht => r.ok t (List.mem_cons_of_mem _ ht)⟩
theorem RowOk.nil {n : Nat} : RowOk n [] := ⟨fun s h => by cases h⟩
theorem RowOk.cons {n : Nat} {s : Nat × Nat} {l : List (Nat × Nat)} (h : s.1 < s.2 ∧ s.2 < n) (r : RowOk n l) : RowOk n (s :: l) := ⟨fun t ht => by
  rcases List.mem_cons.1 ht with rfl | ht
  · exact h
  · exact r.ok t ht⟩
theorem RowOk.rev {n : Nat} {l : List (Nat × Nat)} (r : RowOk n l) : RowOk n l.reverse := ⟨fun s h => r.ok s (List.mem_reverse.1 h)⟩
theorem RowOk.app {n : Nat} {a b : List (Nat × Nat)} (r : RowOk n a) (r' : RowOk n b) : RowOk n (a ++ b) := ⟨fun s h => (List.mem_append.1 h).elim (r.ok s) (r'.ok s)⟩
theorem prod_mv {n : Nat} {l : List (Nat × Nat)} (r : RowOk n l) : ∀ {p : List Nat}, Mv n p → Mv n (prod p l) := by
  induction l with
  | nil => intro p m; exact m
  | cons s l ih =>
    intro p m
    have := r.ok s List.mem_cons_self
    exact ih r.tail (m.map (sw_inj (by omega) this.2))
theorem prod_app' (a b : List (Nat × Nat)) (p : List Nat) : prod p (a ++ b) = prod (prod p a) b := List.foldl_append
theorem sw_sw (x y z : Nat) : Cy.sw x y (Cy.sw x y z) = z := by
  unfold Cy.sw
  split
  · subst_vars
    split <;> simp_all
  · split
    · subst_vars; simp
    · rfl
theorem map_sw_sw (x y : Nat) (p : List Nat) : (p.map (Cy.sw x y)).map (Cy.sw x y) = p := by
  rw [List.map_map]
  conv => rhs; rw [← List.map_id p]
  exact List.map_congr_left fun i _ => sw_sw _ _ _
theorem prod_back (l : List (Nat × Nat)) : ∀ p : List Nat, prod p (l ++ l.reverse) = p := by
  induction l with
  | nil => intro p; rfl
  | cons s l ih =>
    intro p
    have e : prod p ((s :: l) ++ (s :: l).reverse) = (prod (p.map (Cy.sw s.1 s.2)) (l ++ l.reverse)).map (Cy.sw s.1 s.2) := by
      show ((s :: l) ++ (s :: l).reverse).foldl _ _ = _
      rw [List.reverse_cons, List.cons_append, List.foldl_cons, ← List.append_assoc, List.foldl_append]
      rfl
    rw [e, ih, map_sw_sw]
theorem prod_even (s : Nat × Nat) : ∀ (m : Nat) (p : List Nat), prod p (List.replicate (2 * m) s) = p
  | 0, p => rfl
  | m + 1, p => by
    rw [show 2 * (m + 1) = 2 * m + 1 + 1 by omega, List.replicate_succ, List.replicate_succ]
    show prod ((p.map _).map _) (List.replicate (2 * m) s) = p
    rw [map_sw_sw, prod_even s m]
theorem ncyc_sw {n : Nat} {p : List Nat} (m : Mv n p) {x y : Nat} (hx : x < n) (hy : y < n) : Cy.ncyc (ap (p.map (Cy.sw x y))) n = Cy.ncyc (fun z => Cy.sw x y (ap p z)) n :=
  Cy.ncyc_congr (m.map (sw_inj hx hy)).inj fun z hz => ap_map (by rw [m.len]; exact hz)
theorem ncyc_range (n : Nat) : Cy.ncyc (ap (List.range n)) n = n := by
  rw [Cy.ncyc_congr (mv_id n).inj (g := fun x => x) fun x hx => ap_range hx, Cy.ncyc_id]
/-! ### the strict row -/
def str : Nat → List Nat → List (Nat × Nat)
  | 0, _ => []
  | k + 1, p => if ap p (k + 1) = k + 1 then str k p else (ap p (k + 1), k + 1) :: str k (p.map (Cy.sw (ap p (k + 1)) (k + 1)))
/-- what is above k stays -/
def Top (n k : Nat) (p : List Nat) : Prop := ∀ i, k < i → i < n → ap p i = i
theorem top_lt {n k : Nat} {p : List Nat} (m : Mv n p) (t : Top n (k + 1) p) (hk : k + 1 < n) (ne : ap p (k + 1) ≠ k + 1) : ap p (k + 1) < k + 1 := by
  have h1 := m.ap_lt hk
  rcases Nat.lt_or_ge (k + 1) (ap p (k + 1)) with q | q
  · have h2 := t _ q h1
    have := m.inj.inj _ _ h1 hk h2
    omega
  · omega
theorem top_fix {n k : Nat} {p : List Nat} (t : Top n (k + 1) p) (hk : k + 1 < n) (e : ap p (k + 1) = k + 1) : Top n k p := fun i h1 h2 => by
  by_cases q : i = k + 1
  · rw [q, e]
  · exact t i (by omega) h2
theorem top_step {n k : Nat} {p : List Nat} (m : Mv n p) (t : Top n (k + 1) p) (hk : k + 1 < n) (ne : ap p (k + 1) ≠ k + 1) : Top n k (p.map (Cy.sw (ap p (k + 1)) (k + 1))) := fun i h1 h2 => by
  have lt := top_lt m t hk ne
  rw [ap_map (by rw [m.len]; exact h2)]
  by_cases q : i = k + 1
  · subst q; exact Cy.sw_l
  · rw [t i (by omega) h2]
    exact Cy.sw_o (by omega) q
theorem str_row {n : Nat} : ∀ {k : Nat} {p : List Nat}, Mv n p → Top n k p → k < n → RowOk n (str k p)
  | 0, p, m, t, hk => .nil
  | k + 1, p, m, t, hk => by
    rw [str]
    split
    · rename_i e
      exact str_row m (top_fix t hk e) (by omega)
    · rename_i ne
      have lt := top_lt m t hk ne
      exact .cons ⟨lt, hk⟩ (str_row (m.map (sw_inj (by omega) hk)) (top_step m t hk ne) (by omega))
theorem top0 {n : Nat} {p : List Nat} (m : Mv n p) (t : Top n 0 p) : p = List.range n := by
  refine ap_ext (by rw [m.len, List.length_range]) fun i hi => ?_
  rw [m.len] at hi
  rw [ap_range hi]
  cases i with
  | zero =>
    obtain ⟨j, hj, e⟩ := m.onto hi
    cases j with
    | zero => exact e
    | succ j => rw [t (j + 1) (by omega) hj] at e; omega
  | succ i => exact t _ (by omega) hi
theorem str_prod {n : Nat} : ∀ {k : Nat} {p : List Nat}, Mv n p → Top n k p → k < n → prod p (str k p) = List.range n
  | 0, p, m, t, hk => top0 m t
  | k + 1, p, m, t, hk => by
    rw [str]
    split
    · rename_i e
      exact str_prod m (top_fix t hk e) (by omega)
    · rename_i ne
      have lt := top_lt m t hk ne
      exact str_prod (m.map (sw_inj (by omega) hk)) (top_step m t hk ne) (by omega)
theorem str_len {n : Nat} : ∀ {k : Nat} {p : List Nat}, Mv n p → Top n k p → k < n → (str k p).length + Cy.ncyc (ap p) n = n
  | 0, p, m, t, hk => by rw [top0 m t, ncyc_range]; simp [str]
  | k + 1, p, m, t, hk => by
    rw [str]
    split
    · rename_i e
      exact str_len m (top_fix t hk e) (by omega)
    · rename_i ne
      have lt := top_lt m t hk ne
      have ih := str_len (m.map (sw_inj (by omega) hk)) (top_step m t hk ne) (by omega)
      obtain ⟨cs, d⟩ := Cy.dec_exists m.inj
      obtain ⟨c, hc, hx⟩ := List.mem_flatten.1 ((d.all (k + 1)).2 hk)
      rw [ncyc_sw m (by omega) hk, Cy.ncyc_part d (by omega) hc (Cy.cyc_closed (d.cyc c hc) hx) hx] at ih
      rw [List.length_cons]
      omega
theorem topAll {n : Nat} {p : List Nat} : Top n (n - 1) p := fun i h1 h2 => by omega
/-- the strict row of p -/
abbrev strictR (p : List Nat) : List (Nat × Nat) := (str (p.length - 1) p).reverse
theorem strict_ok {n : Nat} {p : List Nat} (m : Mv n p) (h1 : 1 ≤ n) : RowOk n (strictR p) ∧ prod (List.range n) (strictR p) = p ∧ (strictR p).length + Cy.ncyc (ap p) n = n := by
  have e : p.length - 1 = n - 1 := by rw [m.len]
  refine ⟨?_, ?_, ?_⟩
  · show RowOk n (str (p.length - 1) p).reverse
    rw [e]
    exact (str_row m topAll (by omega)).rev
  · show prod _ (str (p.length - 1) p).reverse = p
    rw [e, ← str_prod m topAll (by omega), ← prod_app', prod_back]
  · show (str (p.length - 1) p).reverse.length + _ = n
    rw [List.length_reverse, e]
    exact str_len m topAll (by omega)
/-- taking the last swap away -/
theorem str_first {n : Nat} : ∀ {k : Nat} {p : List Nat} {s : Nat × Nat} {r : List (Nat × Nat)}, Mv n p → Top n k p → k < n → str k p = s :: r → str k (p.map (Cy.sw s.1 s.2)) = r ∧ s.1 < s.2 ∧ s.2 ≤ k
  | 0, p, s, r, m, t, hk, e => by cases e
  | k + 1, p, s, r, m, t, hk, e => by
    rw [str] at e
    split at e
    · rename_i e1
      obtain ⟨h1, h2, h3⟩ := str_first m (top_fix t hk e1) (by omega) e
      refine ⟨?_, h2, by omega⟩
      rw [str, if_pos, h1]
      rw [ap_map (by rw [m.len]; exact hk), e1]
      exact Cy.sw_o (by omega) (by omega)
    · rename_i ne
      cases e
      have lt := top_lt m t hk ne
      refine ⟨?_, lt, Nat.le_refl _⟩
      rw [str, if_pos]
      rw [ap_map (by rw [m.len]; exact hk)]
      exact Cy.sw_l
/-- strict rows rise -/
theorem str_desc {n : Nat} : ∀ {k : Nat} {p : List Nat}, Mv n p → Top n k p → k < n → (∀ s ∈ str k p, s.2 ≤ k) ∧ (str k p).Pairwise (fun a b => b.2 < a.2)
  | 0, p, m, t, hk => ⟨(fun s h => by cases h), .nil⟩
  | k + 1, p, m, t, hk => by
    rw [str]
    split
    · rename_i e
      obtain ⟨h1, h2⟩ := str_desc m (top_fix t hk e) (by omega)
      exact ⟨fun s hs => by have := h1 s hs; omega, h2⟩
    · rename_i ne
      have lt := top_lt m t hk ne
      obtain ⟨h1, h2⟩ := str_desc (m.map (sw_inj (by omega) hk)) (top_step m t hk ne) (by omega)
      refine ⟨fun s hs => ?_, List.pairwise_cons.2 ⟨fun s hs => by have := h1 s hs; show s.2 < k + 1; omega, h2⟩⟩
      rcases List.mem_cons.1 hs with rfl | hs
      · exact Nat.le_refl _
      · have := h1 s hs; omega
theorem strict_asc {n : Nat} {p : List Nat} (m : Mv n p) (h1 : 1 ≤ n) : (strictR p).Pairwise (fun a b => a.2 < b.2) := by
  have e : p.length - 1 = n - 1 := by rw [m.len]
  show (str (p.length - 1) p).reverse.Pairwise _
  rw [e, List.pairwise_reverse]
  exact (str_desc m topAll (by omega)).2
/-! ### as data -/
abbrev pr (lo hi : Nat) : D := .tup [.int (lo : Nat), .int (hi : Nat)]
abbrev swD (s : Nat × Nat) : D := pr s.1 s.2
abbrev rowD (l : List (Nat × Nat)) : D := .tup (l.map swD)
theorem noRef_row (l : List (Nat × Nat)) : noRefs (l.map swD) = true := noRefsM swD l fun s _ => by simp [D.noRef, noRefs]
theorem eq_mv (p q : List Nat) : eqD (mv p) (mv q) = some (.bl (decide (p = q))) := by
  unfold eqD
  rw [eqB_ints]
  simp only [Option.map_some]
  by_cases h : p = q
  · subst h; simp
  · have : ¬ ni p = ni q := fun e => h (ni_inj e)
    simp [h, this]
theorem ne_mv (p q : List Nat) : neD (mv p) (mv q) = some (.bl (!decide (p = q))) := by
  unfold neD
  rw [eqB_ints]
  simp only [Option.map_some]
  by_cases h : p = q
  · subst h; simp
  · have : ¬ ni p = ni q := fun e => h (ni_inj e)
    simp [h, this]
end Sw

/-! Sw, part X: raise C('text'), try .. except C: return of texts. -/
namespace Sw
open PySem PySem.Spec PyProof.Rows L2
section
variable {fa : List He.Fa} {fn : List He.DefD} {g : Gx}
/-- a class of the program's own over ValueError -/
structure ExC (g : Gx) (x : Str) : Prop where
  mg : g.mg x = some (.ref (He.ga g.K x))
  ex : PySem.W.excIn g.K (He.ga g.K x) He.veBase "ValueError.__new__" = true
  kp : PySem.W.keepIn g.K (.ref (He.ga g.K x)) = true
  sb : PySem.W.subIn g.K (.ref (He.ga g.K x)) (.type "BaseException") = some true
  ty : PySem.W.typeIn g.K (.ref (He.ga g.K x)) = some (.type "type")
theorem Tx.exc (T : Tx fa fn g) (i j : Nat) {x : Str} (e : fa[i]? = some (.glo x)) (e2 : fa[j]? = some (.exc x)) : ExC g x := by
  obtain ⟨h1, h2, h3, h4⟩ := He.exc_ok (T.c.fact j e2)
  exact ⟨T.glo i e, h1, h2, h3, h4⟩
theorem Tx.exm (T : Tx fa fn g) (i : Nat) {x y : Str} {b : Bool} (e : fa[i]? = some (.exm x y b)) : PySem.W.exmOne g.K (.ref (He.ga g.K x)) (.ref (He.ga g.K y)) = some b := He.exm_ok (T.c.fact i e)
end
section
variable {C : Cn} {x y : Str} {p p2 pos pos' : Pos}
/-- raise x('m') -/
def raiseS (x : Str) : DS := fun _ h => .exc ⟨x, none⟩ h
theorem den_raise {m : Str} {j : Nat} (E : ExC C.g x) (hg : glB C.sc x = true) : DenS C (.Raise (some (.Call (.Name x p) [.Constant (.str m) j p2] [] pos)) none pos') (raiseS x) := fun X W ok => by
  obtain ⟨g1, g2, g3⟩ := glB_ok ok hg
  refine ⟨_, ps_raise ok.calm ok.takes (pmk_own PySem.F.excBase_ValueError (by rw [ok.K]; exact E.ex) (by rw [ok.mg]; exact E.mg) (by rw [ok.K]; exact E.kp) (raises_own (by rw [ok.K]; exact E.sb) (by rw [ok.K]; exact E.ty)) g1 g2), fun W0 W1 τ σ h D l fr rh o => ?_⟩
  exact o W1 _ none σ l (.refl _) rh ⟨E.mg, rfl⟩
/-- which classes the clause takes -/
def Mt (g : Gx) (y : Str) (m : List (Str × Bool)) : Prop := ∀ p ∈ m, g.mg p.1 = some (.ref (He.ga g.K p.1)) ∧ PySem.W.exmOne g.K (.ref (He.ga g.K p.1)) (.ref (He.ga g.K y)) = some p.2
theorem mt_nil {g : Gx} : Mt g y [] := fun p m => by cases m
theorem mt_cons {g : Gx} {b : Bool} {m : List (Str × Bool)} (h1 : g.mg x = some (.ref (He.ga g.K x))) (h2 : PySem.W.exmOne g.K (.ref (He.ga g.K x)) (.ref (He.ga g.K y)) = some b) (h : Mt g y m) : Mt g y ((x, b) :: m) := fun p mm => by
  rcases List.mem_cons.1 mm with rfl | mm
  · exact ⟨h1, h2⟩
  · exact h p mm
/-- try: f, except y: return (m1, m2) -/
def tryR (m : List (Str × Bool)) (f : DS) (d : D) : DS := fun τ h => match f τ h with
  | .exc x h' => match m.find? (fun p => p.1 == x.cls) with
    | some (_, true) => .rt d h'
    | some (_, false) => .exc x h'
    | none => .bad
  | r => r
end
theorem ap_raiseS (x : Str) (τ : List Sl) (h : HS) : raiseS x τ h = .exc ⟨x, none⟩ h := id rfl
theorem ap_tryR (m : List (Str × Bool)) (f : DS) (d : D) (τ : List Sl) (h : HS) : tryR m f d τ h = (match f τ h with
  | .exc x h' => match m.find? (fun p => p.1 == x.cls) with
    | some (_, true) => .rt d h'
    | some (_, false) => .exc x h'
    | none => .bad
  | r => r) := id rfl
end Sw

/-! Sw, part Y: dicts: d[k], d[k] = v, k in d, {}, {k: v}, loops over the keys, len. -/
namespace Sw
open PySem PySem.Spec PyProof.Rows L2

/-! ### keys as data -/
def keyD : D → Option Key
  | .int i => some (.inl i)
  | .str s => some (.inr s)
  | _ => none
def keysD : List D → Option (List Key)
  | [] => some []
  | x :: r => match keyD x, keysD r with
    | some k, some ks => some (k :: ks)
    | _, _ => none
def dOfK : Key → D
  | .inl i => .int i
  | .inr s => .str s
section
variable {κ α : Type} [DecidableEq κ]
def lk : List (κ × α) → κ → Option α
  | [], _ => none
  | p :: r, k => if p.1 = k then some p.2 else lk r k
def pk (kvs : List (κ × α)) (k : κ) (v : α) : List (κ × α) := if (lk kvs k).isSome then kvs.map (fun kv => if kv.1 = k then (kv.1, v) else kv) else kvs ++ [(k, v)]
end
section
variable {κ : Type} [DecidableEq κ]
theorem valV_lk : ∀ (kvs : List (κ × V)) (k : κ), valV kvs k = lk kvs k
  | [], k => rfl
  | p :: r, k => by
    rw [lk]
    by_cases e : p.1 = k
    · rw [valV_pos e, if_pos e]
    · rw [valV_neg e, if_neg e, valV_lk r k]
theorem putK_pk (kvs : List (κ × V)) (k : κ) (v : V) : putK kvs k v = pk kvs k v := by
  unfold putK pk
  rw [valV_any, valV_lk]
end
/-- dicts whose keys are the same, value by value -/
def RepM (K : PySem.W.Frag) (W : Wd) {κ : Type} : List (κ × D) → List (κ × V) → Prop := Paired fun p q => p.1 = q.1 ∧ Rep K W p.2 q.2
section
variable {K : PySem.W.Frag} {W : Wd}
theorem repK_m : ∀ {kvs : List (Key × D)} {ws : List (Key × V)}, RepK K W kvs ws ↔ RepM K W kvs ws
  | [], ws => by
    rw [RepK]
    exact ⟨fun h => by subst h; exact .nil, fun h => by cases h; rfl⟩
  | (k, d) :: r, ws => by
    rw [RepK]
    constructor
    · rintro ⟨v, t, rfl, h1, h2⟩
      exact .cons ⟨rfl, h1⟩ (repK_m.mp h2)
    · intro h
      cases h with
      | @cons _ q _ t h1 h2 =>
        obtain ⟨k', v⟩ := q
        obtain ⟨e, h1⟩ := h1
        cases e
        exact ⟨v, t, rfl, h1, repK_m.mpr h2⟩
theorem repT_m : ∀ {kvs : List (List Key × D)} {ws : List (List Key × V)}, RepT K W kvs ws ↔ RepM K W kvs ws
  | [], ws => by
    rw [RepT]
    exact ⟨fun h => by subst h; exact .nil, fun h => by cases h; rfl⟩
  | (k, d) :: r, ws => by
    rw [RepT]
    constructor
    · rintro ⟨v, t, rfl, h1, h2⟩
      exact .cons ⟨rfl, h1⟩ (repT_m.mp h2)
    · intro h
      cases h with
      | @cons _ q _ t h1 h2 =>
        obtain ⟨k', v⟩ := q
        obtain ⟨e, h1⟩ := h1
        cases e
        exact ⟨v, t, rfl, h1, repT_m.mpr h2⟩
variable {κ : Type} [DecidableEq κ]
theorem RepM.lk_none {kvs : List (κ × D)} {ws : List (κ × V)} (r : RepM K W kvs ws) (k : κ) : (lk ws k).isSome = (lk kvs k).isSome := by
  unfold RepM at r
  induction r with
  | nil => rfl
  | @cons p q ps qs h t ih =>
    rw [lk, lk, ← h.1]
    by_cases e : p.1 = k
    · rw [if_pos e, if_pos e]; rfl
    · rw [if_neg e, if_neg e, ih]
theorem RepM.lk {kvs : List (κ × D)} {ws : List (κ × V)} {k : κ} {d : D} (r : RepM K W kvs ws) (e : Sw.lk kvs k = some d) : ∃ v, Sw.lk ws k = some v ∧ Rep K W d v := by
  unfold RepM at r
  induction r with
  | nil => cases e
  | @cons p q ps qs h t ih =>
    rw [Sw.lk] at e ⊢
    rw [← h.1]
    by_cases z : p.1 = k
    · rw [if_pos z] at e ⊢; cases e; exact ⟨_, rfl, h.2⟩
    · rw [if_neg z] at e ⊢; exact ih e
theorem RepM.len {kvs : List (κ × D)} {ws : List (κ × V)} (r : RepM K W kvs ws) : kvs.length = ws.length := Paired.length r
theorem RepM.repl {kvs : List (κ × D)} {ws : List (κ × V)} (r : RepM K W kvs ws) (k : κ) {d : D} {v : V} (h : Rep K W d v) : RepM K W (kvs.map fun kv => if kv.1 = k then (kv.1, d) else kv) (ws.map fun kv => if kv.1 = k then (kv.1, v) else kv) := by
  unfold RepM at r ⊢
  induction r with
  | nil => exact .nil
  | @cons p q ps qs h1 t ih =>
    rw [List.map_cons, List.map_cons]
    refine .cons ?_ ih
    by_cases z : p.1 = k
    · rw [if_pos z, if_pos (h1.1 ▸ z)]; exact ⟨h1.1, h⟩
    · rw [if_neg z, if_neg (h1.1 ▸ z)]; exact h1
theorem RepM.put {kvs : List (κ × D)} {ws : List (κ × V)} (r : RepM K W kvs ws) (k : κ) {d : D} {v : V} (h : Rep K W d v) : RepM K W (pk kvs k d) (pk ws k v) := by
  unfold pk
  rw [r.lk_none k]
  split
  · exact r.repl k h
  · exact Paired.snoc r ⟨rfl, h⟩
theorem RepM.mono {W' : Wd} (l : LeF W W') {kvs : List (κ × D)} {ws : List (κ × V)} (r : RepM K W kvs ws) : RepM K W' kvs ws := Paired.mapP r fun _ _ z => ⟨z.1, z.2.mono l⟩
theorem keyD_rep {x : D} {v : V} {k : Key} (e : keyD x = some k) (r : Rep K W x v) : v = kV k := by
  cases x <;> first | (cases e; rw [Rep] at r; exact r) | cases e
theorem keysD_rep : ∀ {xs : List D} {vs : List V} {ks : List Key}, keysD xs = some ks → Reps K W xs vs → vs = ks.map kV
  | [], vs, ks, e, r => by cases e; rw [Reps] at r; exact r
  | x :: xs, vs, ks, e, r => by
    rw [keysD] at e
    rw [Reps] at r
    obtain ⟨v, t, rfl, h1, h2⟩ := r
    cases e1 : keyD x with
    | none => rw [e1] at e; cases e
    | some k =>
      cases e2 : keysD xs with
      | none => rw [e1, e2] at e; cases e
      | some ks' =>
        rw [e1, e2] at e
        cases e
        rw [List.map_cons, ← keyD_rep e1 h1, ← keysD_rep e2 h2]
theorem rep_dOfK {k : Key} : Rep K W (dOfK k) (kV k) := by
  cases k <;> (show Rep K W _ _; unfold dOfK; rw [Rep]; rfl)
theorem reps_dOfK : ∀ {ks : List Key}, Reps K W (ks.map dOfK) (ks.map kV)
  | [] => .nil
  | k :: ks => .cons rep_dOfK reps_dOfK
end
/-- what stands at the key -/
def dGetO (x y : D) : Option (Option D) := match x, y with
  | .dK kvs, y => (keyD y).map (lk kvs)
  | _, _ => none
theorem dGet_ok {K : PySem.W.Frag} {W : Wd} {x y : D} {v u : V} {o : Option D} (b1 : Bor K W x v) (b2 : Bor K W y u) (e : dGetO x y = some o) :
    ∃ a r, v = .ref a ∧ DGet W.H a u r ∧ r.isSome = o.isSome ∧ ∀ d, o = some d → ∃ w, r = some w ∧ Rep K W d w := by
  cases x with
  | dK kvs =>
    obtain ⟨a, ws, rfl, rd, r⟩ := b1.dK
    have r := repK_m.mp r
    have e : (keyD y).map (lk kvs) = some o := e
    obtain ⟨k, ek, e⟩ := Option.map_eq_some_iff.mp e
    subst e
    have hu : u = kV k := by
      refine b2.elim (keyD_rep ek) fun h => ?_
      cases y <;> first | exact h.elim | cases ek
    subst hu
    refine ⟨a, lk ws k, rfl, .inl ⟨ws, k, rd, rfl, (valV_lk _ _).symm⟩, r.lk_none k, fun d ed => r.lk ed⟩
  | _ => cases e
/-- d[k] -/
def dAt (x y : D) : Option D := (dGetO x y).bind id
def dIn (x y : D) : Option D := (dGetO y x).map fun o => .bl o.isSome
def dNotIn (x y : D) : Option D := (dGetO y x).map fun o => .bl (!o.isSome)
section
variable {C : Cn} {a b c e : Expr} {fa fb fc : DE} {pos apos cpos : Pos}
theorem den_dget (ha : DenB C a fa) (hb : DenB C b fb) (hs : PlainIx b) : DenE C (.Subscript a b pos) (res2 dAt fa fb) := fun X E ok => by
  obtain ⟨t, p, q⟩ := ha X E ok
  obtain ⟨t', p', q'⟩ := hb X E ok
  refine ⟨_, pe_dget (by have := ok.room.units; omega) p p' hs, fun W0 W τ σ h Q l fr rh o => ?_⟩
  refine q W0 W τ σ h _ l fr rh (okG.bind o fun x h1 W1 v l1 rh1 b1 o1 => ?_)
  refine q' W0 W1 τ σ h1 _ (l.trans l1) (fr.mono l1) rh1 (okG.bind o1 fun y h2 W2 u l2 rh2 b2 o2 => ?_)
  obtain ⟨d, e, k⟩ := toRes_some o2
  unfold dAt at e
  obtain ⟨o, e, eo⟩ := Option.bind_eq_some_iff.mp e
  obtain ⟨a, r, rfl, g, _, z⟩ := dGet_ok (b1.mono l2) b2 e
  obtain ⟨w, rfl, rw'⟩ := z d eo
  exact ⟨a, w, rfl, g, k W2 _ (.refl _) rh2 rw'⟩
theorem or_din {X : Cx} (hu : X.A.units + 1 < cLine) : OpR X (compareOp .In) (fun y x H Q => ∃ a o, x = .ref a ∧ DGet H a y o ∧ Q (.bl o.isSome) H) := by
  intro pins s σ H y x vy vx Q I ry rx h
  obtain ⟨a, o, rfl, g, q⟩ := h
  obtain rfl : vx = Value.ref a := rx
  exact d_in hu I g ry fun s3 I3 => ⟨.bl o.isSome, H, I3, rfl, q⟩
theorem or_dnotin {X : Cx} (hu : X.A.units + 1 < cLine) : OpR X (compareOp .NotIn) (fun y x H Q => ∃ a o, x = .ref a ∧ DGet H a y o ∧ Q (.bl (!o.isSome)) H) := by
  intro pins s σ H y x vy vx Q I ry rx h
  obtain ⟨a, o, rfl, g, q⟩ := h
  obtain rfl : vx = Value.ref a := rx
  exact d_notIn hu I g ry fun s3 I3 => ⟨.bl (!o.isSome), H, I3, rfl, q⟩
theorem o_din : OpD C (compareOp .In) dIn := fun X E ok => ⟨_, or_din (by have := ok.room.units; omega), fun W h x y v u d Q rh b1 b2 e k => by
  obtain ⟨o, e, eo⟩ := Option.map_eq_some_iff.mp e
  obtain ⟨a, r, rfl, g, z, _⟩ := dGet_ok b2 b1 e
  subst eo
  exact ⟨a, r, rfl, g, by rw [z]; exact k W _ (.refl _) rh rep_bl⟩⟩
theorem o_dnotin : OpD C (compareOp .NotIn) dNotIn := fun X E ok => ⟨_, or_dnotin (by have := ok.room.units; omega), fun W h x y v u d Q rh b1 b2 e k => by
  obtain ⟨o, e, eo⟩ := Option.map_eq_some_iff.mp e
  obtain ⟨a, r, rfl, g, z, _⟩ := dGet_ok b2 b1 e
  subst eo
  exact ⟨a, r, rfl, g, by rw [z]; exact k W _ (.refl _) rh rep_bl⟩⟩
end
end Sw

/-! Sw, part a: {k: v for ..} with keys that are numbers or texts. -/
namespace Sw
open PySem PySem.Spec PyProof.Rows L2
/-- the new dict at Dd holds acc -/
structure OwnD (K : PySem.W.Frag) (W1 W2 : Wd) (Dd : Addr) (acc : List (Key × D)) (h : HS) : Prop where
  le : Le W1 W2
  rh : RH K W2 h
  obj : ∃ ws, W2.H Dd = some (.dK ws) ∧ RepM K W2 acc ws
  nF : ¬ W2.F Dd
  nr : Dd ∉ W2.ρ
theorem OwnD.step {K : PySem.W.Frag} {W1 W2 W3 : Wd} {Dd : Addr} {acc : List (Key × D)} {h h' : HS} (w : OwnD K W1 W2 Dd acc h) (l : Le W2 W3) (rh : RH K W3 h') : OwnD K W1 W3 Dd acc h' := by
  obtain ⟨ws, e, r⟩ := w.obj
  have z := l.fo Dd _ e w.nF w.nr
  exact ⟨w.le.trans l, rh, ⟨ws, z.1, r.mono l.toLeF⟩, z.2.1, z.2.2⟩
theorem OwnD.put {K : PySem.W.Frag} {W1 W2 : Wd} {Dd : Addr} {acc : List (Key × D)} {h : HS} {d : D} {v : V} {ws : List (Key × V)} (w : OwnD K W1 W2 Dd acc h) (n : W1.H Dd = none) (e : W2.H Dd = some (.dK ws)) (k : Key) (r : Rep K W2 d v) :
    OwnD K W1 (W2.put Dd (.dK (putK ws k v))) Dd (pk acc k d) h := by
  obtain ⟨ws', e', r'⟩ := w.obj
  rw [e] at e'
  cases e'
  refine ⟨le_own w.le n w.nF, rh_own w.rh w.nF w.nr, ⟨_, upd_same, ?_⟩, w.nF, w.nr⟩
  rw [putK_pk]
  exact (r'.put k r).mono (lef_own w.nF)
def dcL (g : GT) (tt : DT) (tk tv : DE) (τ : List Sl) : List D → List (Key × D) → HS → Res (List (Key × D))
  | [], acc, h => .ok acc h
  | x :: r, acc, h => match g x τ with
    | none => .bad
    | some τ1 => (tt τ1 h).nox.bind fun b h1 => if b then (tk τ1 h1).nox.bind fun y h2 => (tv τ1 h2).nox.bind fun z h3 => match keyD y with
        | some k => dcL g tt tk tv τ r (pk acc k z) h3
        | none => .bad
      else dcL g tt tk tv τ r acc h1
def dcR (fi : DA) (vs : List Nat) (g : GT) (ft : DT) (fk fv : DE) : DE := fun τ h => (fi τ h).bind fun items h1 => if fits items.length then (dcL g ft fk fv (wipeT τ vs) items [] h1).nox.bind fun kvs h2 => .ok (.dK kvs) h2 else .bad
theorem pk_len {κ α : Type} [DecidableEq κ] (kvs : List (κ × α)) (k : κ) (v : α) : (pk kvs k v).length ≤ kvs.length + 1 := by
  unfold pk
  split
  · rw [List.length_map]; omega
  · rw [List.length_append]; simp
section
variable {C : Cn} {kx vx tg iter : Expr} {ifs : List Expr} {scope : Scope} {own : List (Str × Nat)} {pos : Pos} {fi : DA} {g : GT} {is : List Nat} {ft : DT} {fk fv : DE}
theorem den_dcK (hi : DenI C tg iter fi) (hb : blkC C.N C.sc scope own = true) (ho : ∀ i ∈ is, i ∈ own.map (·.2)) (hg : DenGt (C.blk scope) tg is g) (ht : DenTs (C.blk scope) ifs ft) (hk : DenE (C.blk scope) kx fk) (hv : DenE (C.blk scope) vx fv)
    (hs : ∀ env x, foldedSetIterable iter env x = pure x) : DenN C (.DictComp kx vx [⟨tg, iter, ifs, 0⟩] scope pos) (dcR fi (own.map (·.2)) g ft fk fv) := fun X E ok => by
  obtain ⟨wi, pi, qi⟩ := hi X E ok
  have oks : ∀ i : BI, CxOk (C.blk scope) (bX X scope i) (fun _ _ _ _ => False) := fun i => ok.blk scope i.s i.H i.C i.cl i.fp
  obtain ⟨gt, pg, qg⟩ := hg.unif (bX X scope) _ oks
  obtain ⟨tt, pt, qt⟩ := ht.unif (bX X scope) _ oks fun X t t' p k => PTs.anti p k
  obtain ⟨tk, pk', qk⟩ := hk.unif (bX X scope) _ oks fun X t t' p k => PE.anti p k
  obtain ⟨tv, pv, qv⟩ := hv.unif (bX X scope) _ oks fun X t t' p k => PE.anti p k
  refine ⟨_, pe_dc ok.calm ok.nd pi (blkOk_by (by rw [ok.names, ok.scope]; exact hb)) (fun s H Cd cl fp => pg ⟨s, H, Cd, cl, fp⟩) (fun s H Cd cl fp => pt ⟨s, H, Cd, cl, fp⟩) (fun s H Cd cl fp => pk' ⟨s, H, Cd, cl, fp⟩) (fun s H Cd cl fp => pv ⟨s, H, Cd, cl, fp⟩) (hs _), fun W0 W τ σ h Q l fr rh o => ?_⟩
  refine qi W0 W τ σ h _ l fr rh (okG.bind o fun items h1 W1 J l1 rh1 wk o1 => ?_)
  intro Dd hD
  by_cases hz : fits items.length = true
  · rw [if_pos hz] at o1
    have hz : items.length ≤ sizeLine := of_decide_eq_true hz
    let vs := own.map (·.2)
    let τ0 := wipeT τ vs
    let Fin := fun (r : Res (List (Key × D))) => okG C.g.K C.g.mg (NewR C.g.K W) W1 (fun c dd H => E c dd σ H) Q (r.nox.bind fun kvs h2 => .ok (.dK kvs) h2)
    have o1 : Fin (dcL g ft fk fv τ0 items [] h1) := o1
    refine ⟨fun i m H => m = items.length - i ∧ i ≤ items.length ∧ ∃ W2 acc h2, W2.H = H ∧ OwnD C.g.K W1 W2 Dd acc h2 ∧ acc.length ≤ i ∧ Fin (dcL g ft fk fv τ0 (items.drop i) acc h2),
      ⟨items.length, by simp, Nat.zero_le _, W1.put Dd (.dK []), [], h1, rfl, ?_, Nat.le_refl _, by rw [List.drop_zero]; exact o1⟩, ?_⟩
    · exact ⟨le_put hD, rh_put hD rh1, ⟨[], upd_same, .nil⟩, fun f => rh1.up _ f hD, fun m => rh1.there m hD⟩
    rintro i m H ⟨rfl, hi, W2, acc, h2, rfl, w, hacc, o2⟩
    by_cases hlt : i < items.length
    · have hdrop : items.drop i = items[i] :: items.drop (i + 1) := List.drop_eq_getElem_cons hlt
      rw [hdrop, dcL] at o2
      obtain ⟨hgo, hy⟩ := (wk i W2 w.le.toLeF w.rh.tf).1 _ (List.getElem?_eq_getElem hlt)
      refine .inr ⟨hgo, fun H' => ∃ W3 acc h3, W3.H = H' ∧ OwnD C.g.K W1 W3 Dd acc h3 ∧ acc.length ≤ i + 1 ∧ Fin (dcL g ft fk fv τ0 (items.drop (i + 1)) acc h3), fun H' hN => ⟨items.length - (i + 1), by omega, rfl, hlt, hN⟩, fun x H' y => ?_⟩
      obtain ⟨W3, rfl, l3, k3, r3⟩ := hy x H' y
      have w3 := w.step l3 (k3 _ w.rh)
      have fr3 : Frm C.g.K W0 W3 τ0 (L2.wipe σ vs) := (fr.mono ((l1.trans w.le).trans l3)).wipe vs
      have le03 : Le W0 W3 := (l.trans (l1.trans w.le)).trans l3
      cases eg : g items[i] τ0 with
      | none => rw [eg] at o2; exact (show False from o2).elim
      | some τ1 =>
        rw [eg] at o2
        refine qg W0 W3 τ0 _ items[i] x τ1 _ fr3 r3 eg fun σ2 fr4 hl2 hs2 _ => ⟨?_, ?_⟩
        · rw [wipe_same (σ := L2.wipe σ vs) (σ' := σ2) (vs := vs) hl2 fun j hj => hs2 j fun z => hj (ho j z), wipe_wipe]
        · dsimp only at o2
          cases et : ft τ1 h2 with
          | exc _ _ => rw [et] at o2; exact (show False from o2).elim
          | bad => rw [et] at o2; exact (show False from o2).elim
          | ok b h4 =>
            refine qt W0 W3 τ1 σ2 h2 _ le03 fr4 w3.rh ?_
            rw [et] at o2 ⊢
            intro W4 b' l4 rh4 hb'
            subst hb'
            have w4 := w3.step l4 rh4
            cases b with
            | false => exact iteF ⟨W4, acc, h4, rfl, w4, Nat.le_succ_of_le hacc, o2⟩
            | true =>
              refine iteT ?_
              have o2 : Fin ((fk τ1 h4).nox.bind fun y h2 => (fv τ1 h2).nox.bind fun z h3 => match keyD y with | some k => dcL g ft fk fv τ0 (items.drop (i + 1)) (pk acc k z) h3 | none => .bad) := o2
              cases ek : fk τ1 h4 with
              | exc _ _ => rw [ek] at o2; exact (show False from o2).elim
              | bad => rw [ek] at o2; exact (show False from o2).elim
              | ok dk h5 =>
                refine qk W0 W4 τ1 σ2 h4 _ (le03.trans l4) (fr4.mono l4) rh4 ?_
                rw [ek] at o2 ⊢
                intro W5 yv l5 rh5 r5
                have w5 := w4.step l5 rh5
                have o2 : Fin ((fv τ1 h5).nox.bind fun z h3 => match keyD dk with | some k => dcL g ft fk fv τ0 (items.drop (i + 1)) (pk acc k z) h3 | none => .bad) := o2
                cases ev : fv τ1 h5 with
                | exc _ _ => rw [ev] at o2; exact (show False from o2).elim
                | bad => rw [ev] at o2; exact (show False from o2).elim
                | ok dv h6 =>
                  refine qv W0 W5 τ1 σ2 h5 _ ((le03.trans l4).trans l5) ((fr4.mono l4).mono l5) rh5 ?_
                  rw [ev] at o2 ⊢
                  intro W6 zv l6 rh6 r6
                  have w6 := w5.step l6 rh6
                  have o2 : Fin (match keyD dk with | some k => dcL g ft fk fv τ0 (items.drop (i + 1)) (pk acc k dv) h6 | none => .bad) := o2
                  cases eq : keyD dk with
                  | none => rw [eq] at o2; exact (show False from o2).elim
                  | some k =>
                    rw [eq] at o2
                    obtain ⟨ws, ea, ra⟩ := w6.obj
                    have hk := keyD_rep eq (r5.mono l6.toLeF)
                    refine ⟨ws, k, hk, ea, by rw [← ra.len]; omega, W6.put Dd (.dK (putK ws k zv)), pk acc k dv, h6, rfl, w6.put hD ea k r6, ?_, o2⟩
                    have := pk_len acc k dv
                    omega
    · have e : i = items.length := by omega
      subst e
      rw [List.drop_length, dcL] at o2
      obtain ⟨ws, ea, ra⟩ := w.obj
      refine .inl ⟨(wk _ W2 w.le.toLeF w.rh.tf).2 rfl, ?_⟩
      have o3 : okG C.g.K C.g.mg (NewR C.g.K W) W1 (fun c dd H => E c dd σ H) Q (.ok (.dK acc) h2) := o2
      exact o3 W2 _ w.le w.rh ⟨Dd, ws, rfl, ea, repK_m.mpr ra, w.nF, w.nr, l1.old rh1 hD⟩
  · rw [if_neg hz] at o1
    exact (show False from o1).elim
end

/-! ### min(d), d's keys numbers -/
section
variable {X : Cx}
def numK (vs : List (Key × Value)) (i : Nat) : Int := match vs[i]? with
  | some (.inl n, _) => n
  | _ => 0
theorem call_min_dK (hc : X.calm = true) : CallR X (.builtin "min") (fun xs H Q => ∃ (a : Addr) (kvs : List (Key × V)) (n : Int) (ns : List Int), xs = [V.ref a] ∧ Rd H a (.dK kvs) ∧ kvs.map (·.1) = (n :: ns).map Sum.inl ∧ ∀ m : Int, m ∈ n :: ns → (∀ k ∈ n :: ns, m ≤ k) → Q (.int m) H) := by
  intro pins s σ H xs us Q I r h
  obtain ⟨a, kvs, n, ns, rfl, rd, hk, q⟩ := h
  rw [Vals.ref1 r]
  obtain ⟨z, lo, vs, rel, dd⟩ := dk_rd I.hok rd
  obtain ⟨ep, hat⟩ := dd.dictAt
  have hkeys : vs.map (·.1) = (n :: ns).map Sum.inl := rel.keys.symm.trans hk
  have hl : vs.length = ns.length + 1 := by
    have e := congrArg List.length hkeys
    simpa using e
  have at_ : ∀ i, i < vs.length → ∃ m x, vs[i]? = some (Sum.inl m, x) ∧ m ∈ n :: ns ∧ numK vs i = m := fun i hi => by
    have e : (vs.map (·.1))[i]? = some vs[i].1 := by rw [List.getElem?_map, List.getElem?_eq_getElem hi]; rfl
    rw [hkeys, List.getElem?_map] at e
    obtain ⟨m, em, e2⟩ := Option.map_eq_some_iff.mp e
    have ev : vs[i]? = some (Sum.inl m, vs[i].2) := by rw [List.getElem?_eq_getElem hi, e2]
    exact ⟨m, vs[i].2, ev, List.mem_of_getElem? em, by unfold numK; rw [ev]⟩
  have all_ : ∀ k ∈ n :: ns, ∃ i, i < vs.length ∧ numK vs i = k := fun k hm => by
    obtain ⟨i, hi⟩ := List.getElem?_of_mem hm
    have e : ((n :: ns).map (Sum.inl : Int → Key))[i]? = some (Sum.inl k) := by rw [List.getElem?_map, hi]; rfl
    rw [← hkeys, List.getElem?_map] at e
    obtain ⟨p, ep', e2⟩ := Option.map_eq_some_iff.mp e
    refine ⟨i, (List.getElem?_eq_some_iff.mp ep').1, ?_⟩
    unfold numK
    rw [ep']
    obtain ⟨p1, p2⟩ := p
    cases e2
    rfl
  refine call_min_walk (wpAny_pyIter_dict lo hat ?_)
  have hne : a ≠ s.heap.objs.size := Nat.ne_of_lt (let ⟨_, _, ho, _⟩ := hat; Heap.lt_size ho)
  have W := Walks.dictKeys (prog := X.prog) (w := X.w) (knd := mixKind X.prog X.w) (A := X.A.in1) (show X.A.in1.handled = none from I.ok.hd hc) s.heap.objs.size a hne vs ep
  refine ⟨_, _, _, _, _, _, fun i j => decide (numK vs i < numK vs j), rfl, W, ⟨⟨_, Heap.get?_push_size _ rfl, rfl, rfl⟩, ?_⟩, fun b hb => ?_, by omega, CmpOf.ints_lt (numK vs) (fun i v hi => ?_), fun v h' tk hP hkp => ?_⟩
  · exact hat.at' fun o e => Heap.get?_push_of_some _ e
  · have e : b = s.heap.objs.size ∨ b = a := by simpa using hb
    rw [Heap.size_push]
    rcases e with rfl | rfl
    · exact Nat.lt_succ_self _
    · exact Nat.lt_succ_of_lt (let ⟨_, _, ho, _⟩ := hat; Heap.lt_size ho)
  · obtain ⟨k, x, e1, e2⟩ := hi
    obtain ⟨m, y, f1, _, f2⟩ := at_ i (List.getElem?_eq_some_iff.mp e1).1
    rw [e1] at f1; cases f1
    obtain ⟨t, rfl⟩ := Value.isInt_shape e2
    exact ⟨t, by rw [f2]⟩
  · obtain ⟨k, x, e1, e2⟩ := hP
    obtain ⟨b1, b2⟩ := argBest_lt (numK vs) (vs.length - 1)
    obtain ⟨m, y, f1, f3, f2⟩ := at_ _ (List.getElem?_eq_some_iff.mp e1).1
    rw [e1] at f1; cases f1
    obtain ⟨t, rfl⟩ := Value.isInt_shape e2
    refine ⟨.int m, H, ?_, ⟨t, rfl⟩, q m f3 fun k hk' => ?_⟩
    · exact I.kept (t' := tk) fun b o e => hkp b o (by
        have : b ≠ s.heap.objs.size := Nat.ne_of_lt (Heap.lt_size e)
        simpa using this) (Heap.get?_push_of_some _ e)
    · obtain ⟨i, hi, ei⟩ := all_ k hk'
      rw [← ei, ← f2]
      exact b2 i (by omega)
end

section
variable {C : Cn}
def intKeys : List (Key × D) → Option (List Int)
  | [] => some []
  | (.inl i, _) :: r => (intKeys r).map (i :: ·)
  | _ => none
theorem intKeys_ok {K : PySem.W.Frag} {W : Wd} : ∀ {kvs : List (Key × D)} {ws : List (Key × V)} {ns : List Int}, RepM K W kvs ws → intKeys kvs = some ns → ws.map (·.1) = ns.map Sum.inl
  | [], _, _, .nil, e => by cases e; rfl
  | (k, d) :: kvs, _, ns, .cons (b := q) h t, e => by
    cases k with
    | inl i =>
      obtain ⟨l, el, rfl⟩ := Option.map_eq_some_iff.mp (show (intKeys kvs).map (i :: ·) = some ns from e)
      rw [List.map_cons, List.map_cons, intKeys_ok t el, ← h.1]
    | inr s => cases e
def leastI : Int → List Int → Int
  | m, [] => m
  | m, x :: r => leastI (if x < m then x else m) r
theorem leastI_ok : ∀ (l : List Int) (m : Int), (leastI m l = m ∨ leastI m l ∈ l) ∧ leastI m l ≤ m ∧ ∀ k ∈ l, leastI m l ≤ k
  | [], m => ⟨.inl rfl, Int.le_refl _, fun k h => by cases h⟩
  | x :: r, m => by
    obtain ⟨h1, h2, h3⟩ := leastI_ok r (if x < m then x else m)
    rw [leastI]
    refine ⟨?_, ?_, fun k hk => ?_⟩
    · rcases h1 with h1 | h1
      · rw [h1]
        split
        · exact .inr List.mem_cons_self
        · exact .inl rfl
      · exact .inr (List.mem_cons_of_mem _ h1)
    · refine Int.le_trans h2 ?_
      split <;> omega
    · rcases List.mem_cons.mp hk with rfl | hk
      · refine Int.le_trans h2 ?_
        split <;> omega
      · exact h3 k hk
def minKG : List D → Option D
  | [.dK kvs] => match intKeys kvs with
    | some (n :: ns) => some (.int (leastI n ns))
    | _ => none
  | _ => none
theorem c_minK : CalD C (.builtin "min") minKG := fun X E ok => ⟨_, call_min_dK ok.calm, fun W h ds vs d Q rh b e k => by
  unfold minKG at e
  split at e
  · obtain ⟨v, rfl, b1⟩ := BorsAll.one b
    obtain ⟨a, ws, rfl, rd, r⟩ := b1.dK
    have r := repK_m.mp r
    split at e
    · rename_i n ns en
      cases e
      refine ⟨a, ws, n, ns, rfl, rd, intKeys_ok r en, fun m hm hle => ?_⟩
      obtain ⟨g1, g2, g3⟩ := leastI_ok ns n
      have : m = leastI n ns := by
        refine Int.le_antisymm (hle _ ?_) ?_
        · rcases g1 with g1 | g1
          · rw [g1]; exact List.mem_cons_self
          · exact List.mem_cons_of_mem _ g1
        · rcases List.mem_cons.mp hm with rfl | hm
          · exact g2
          · exact g3 m hm
      rw [this]
      exact k W _ (.refl _) rh rep_int
    · cases e
  · cases e⟩
end


end Sw

/-! Sw, part p: x.index(y), x.count(y), x a tuple of ints that is known to have no dict. -/
namespace Sw
open PySem PySem.Spec PyProof.Rows L2
section
variable {X : Cx}
def rTix (K : PySem.W.Frag) : V → List V → Hp → VK → Prop := fun x xs H Q => ∃ (p : Addr) (ns : List Int) (k : Int), x = .ref p ∧ xs = [.int k] ∧ SqT K H p (ns.map V.int) ∧ k ∈ ns ∧ Q (.int (ns.idxOf k : Nat)) H
theorem mt_tindex : MtR X "tuple.index" (rTix X.K) := by
  intro pins s σ H x xs v us Q I rx rxs h
  obtain ⟨p, ns, k, rfl, rfl, hs, hk, q⟩ := h
  cases rx
  obtain ⟨u, rfl, ru⟩ := rxs.one
  obtain ⟨t, rfl⟩ := ru
  obtain ⟨its, rv, pl, hz⟩ := I.tuple hs
  exact PySem.SeqAt.tuple_index_ints pl (ints_of_vals rv) hk ⟨.int _, H, I.tok _, ⟨_, rfl⟩, q⟩
/-- a method of a tuple that has no dict -/
def NoD (x : V) (H : Hp) : Prop := ∃ p o xs, x = .ref p ∧ H p = some (.frz o (.tup xs)) ∧ o.dict = none
def tBX (r : V → List V → Hp → VK → Prop) (to : TE) (t : TA) : TE := fun σ H Q => to σ H fun x H1 => NoD x H1 ∧ t σ H1 fun xs H2 => r x xs H2 Q
variable {o e : Expr} {es : List Expr} {to : TE} {t : TA} {name : Str} {apos cpos : Pos} {id : String} {r : V → List V → Hp → VK → Prop}
theorem pe_bx (slot : Slot "tuple" name id) (hty : typeOf (.builtin id) = pure (.type "method_descriptor")) (hm : MtR X id r) (ho : PE X o to) (ha : PA X (e :: es) t)
    (hbase : attributeBase o name X.env (eval o X.env) = eval o X.env)
    (hfew : ((backTo cpos (starEach (e :: es) X.env)).all (fun x => !x.1) && (backToKw cpos (keywordEach [] X.env)).all (fun x => x.1.isSome)
      && decide ((e :: es).length + ([] : List Keyword).length + (if ([] : List Keyword).isEmpty then 0 else 1) < 30)) = true)
    (hline : (apos.endLine == cpos.line) = true) (hs : starEach (e :: es) X.env = (false, eval e X.env) :: starEach es X.env) (hplain : (backTo cpos (starEach es X.env)).any (·.1) = false) :
    PE X (.Call (.Attribute o name apos) (e :: es) [] cpos) (tBX r to t) := by
  refine ⟨fun pins s σ H Q I h => ?_⟩
  refine wpAny_Call_method_late hbase hfew hline rfl (thn (ho.run pins s σ H _ I h) fun v s1 ⟨x, H1, I1, r1, ty, q1⟩ => ?_)
  obtain ⟨p, ob, ys, rfl, hp, hd⟩ := ty
  cases r1
  obtain ⟨hg, hz, its, rv, ob', hg', hc, n, hdd⟩ := I1.hok p _ hp
  rw [hg] at hg'
  cases hg'
  refine ⟨"tuple", id, PySem.F.plainAttrs_tuple, slot, hty, ⟨ob, hg, hc⟩, fun a ea => by cases ea; exact ⟨ob, hg, hd⟩, ?_⟩
  have hA := ha.run cpos pins s1 σ H1 _ I1 q1
  rw [hs] at hA ⊢
  refine Calls.callWith_builtin (by show (false || (backTo cpos (starEach es X.env)).any (·.1)) = false; rw [hplain] <;> rfl) (Calls.evalArgs_plain ?_)
  exact thn hA fun us s2 ⟨vs, H2, I2, r2, q2⟩ => hm pins s2 σ H2 (.ref p) vs _ us Q I2 rfl r2 q2
end
theorem ints_reps' {K : PySem.W.Frag} {W : Wd} : ∀ {ds : List D} {vs : List V} {ns : List Int}, Reps K W ds vs → intsD ds = some ns → vs = ns.map V.int := fun r e => ints_reps r e
def isTup : D → Bool
  | .tup _ => true
  | _ => false
def indexV (x y : D) : Option D := match x, y with
  | .tup xs, .int k => (intsD xs).bind fun ns => if k ∈ ns then some (.int (ns.idxOf k : Nat)) else none
  | _, _ => none
def indexR (fa fb : DE) : DE := fun τ h => (fa τ h).bind fun x h1 => if isTup x then (fb τ h1).bind fun y h2 => toRes (indexV x y) h2 else .bad
theorem den_tindex {C : Cn} {a b : Expr} {fa fb : DE} {apos cpos : Pos} (ha : DenE C a fa) (hb : DenE C b fb) (hb0 : ∀ env, attributeBase a "index" env (eval a env) = eval a env) (hl : (apos.endLine == cpos.line) = true)
    (hs : ∀ env, starEach [b] env = (false, eval b env) :: starEach [] env) : DenE C (.Call (.Attribute a "index" apos) [b] [] cpos) (indexR fa fb) := fun X E ok => by
  obtain ⟨t, p, q⟩ := ha X E ok
  obtain ⟨t', p', q'⟩ := hb X E ok
  refine ⟨_, pe_bx PySem.F.slot_tuple_index PySem.F.type_tuple_index mt_tindex p (pa_cons p' pa_nil (hs _)) (hb0 _) (by rw [hs]; rfl) hl (hs _) rfl, fun W0 W τ σ h Q l fr rh o => ?_⟩
  refine q W0 W τ σ h _ l fr rh (okG.bind o fun x h1 W1 v l1 rh1 b1 o1 => ?_)
  by_cases hx : isTup x = true
  · rw [if_pos hx] at o1
    cases x with
    | tup xs =>
      obtain ⟨a, vs, rfl, tt, r1⟩ := b1.tupAt
      obtain ⟨ff, ob, hd, he⟩ := tt
      refine ⟨⟨a, ob, vs, rfl, he, hd⟩, ?_⟩
      refine q' W0 W1 τ σ h1 _ (l.trans l1) (fr.mono l1) rh1 (okG.bind o1 fun y h2 W2 u l2 rh2 r2 o2 => ?_)
      obtain ⟨d, e, k⟩ := toRes_some o2
      cases y with
      | int n =>
        obtain ⟨ns, en, e⟩ := Option.bind_eq_some_iff.mp e
        by_cases hm : n ∈ ns
        · rw [if_pos hm] at e
          cases e
          have t2 := (TupAt.mono l2.toLeF (show TupAt C.g.K W1 a vs from ⟨ff, ob, hd, he⟩)).sq
          rw [ints_reps r1 en] at t2
          refine ⟨a, ns, n, rfl, ?_, by rw [ok.K]; exact t2, hm, k W2 _ (.refl _) rh2 rep_int⟩
          rw [Rep] at r2
          rw [r2]
        · rw [if_neg hm] at e; cases e
      | _ => cases e
    | _ => cases hx
  · rw [if_neg hx] at o1
    exact (show False from o1).elim
section
variable {C : Cn} {x : Str} {i : Nat} {e : Expr} {fe : DE} {p' pos : Pos}
theorem den_setC (hn : stB C.N C.sc C.fn x i = true) (he : DenE C e fe) (hs : ∀ env, env.scope = C.sc → swapsWith e (some (.Name x p')) pos.line env = pure false) : DenS C (.Assign [.Name x p'] e pos) (setS i fe) := fun X E ok => by
  obtain ⟨t, p, q⟩ := he X E ok
  obtain ⟨h1, h2, h3⟩ := stB_ok ok hn
  refine ⟨_, ps_set ok.nd h1 h2 p (hs _ ok.scope) h3, fun W0 W τ σ h D l fr rh o => ?_⟩
  exact q W0 W τ σ h _ l fr rh (okS.ex l o fun a s W1 b l1 rh1 re o1 => o1 W1 _ (l.trans l1) (.refl _) ((fr.mono l1).set i re) rh1)
end
end Sw

namespace G_k76
open PySem PySem.Spec PyProof.Rows L2 Sw
abbrev Pg : Program := PySem.Challenge.pw_swapsheets_k76_whole_genus_of_rows_of_mo
def top (i : Nat) : Stmt := Pg.main.body.getD i (.Pass ⟨0, 0, 0, 0⟩)
def fa : List He.Fa := [.free "len", .free "int", .free "abs", .free "max", .glo "_law_dice", .free "range", .free "tuple", .glo "cycles_in", .free "list", .free "min", .free "all", .glo "does_join_all", .glo "idle_in", .glo "behind_in", .glo "product_of_moves", .glo "least_in", .free "sum", .glo "genus_in", .free "isinstance", .free "bool", .glo "is_whole", .int "BOUND" 1000000000000000000000000000000000000000000000000000000000000, .glo "is_integer", .free "sorted", .glo "is_move_in", .int "MOST_PLACES" 24, .glo "is_move", .int "MAX_FACTORS" 8, .free "any", .glo "genus_of_row", .free "enumerate", .glo "_law_joined", .glo "_law_lot_of", .glo "_law_kind", .glo "_law_le_least", .glo "_law_behind", .glo "_law_le_product", .glo "_law_le_genus", .glo "_law_roll", .glo "_law_shuffled", .glo "_law_move_drawn", .glo "_law_undone", .glo "_law_le_carried", .glo "_law_parity_right", .glo "_law_right", .glo "law"]
def fn : List He.DefD := [dfd "_law_dice" (top 22), dfd "cycles_in" (top 11), dfd "does_join_all" (top 18), dfd "idle_in" (top 9), dfd "behind_in" (top 10), dfd "product_of_moves" (top 17), dfd "least_in" (top 12), dfd "genus_in" (top 19), dfd "is_whole" (top 5), dfd "is_integer" (top 6), dfd "is_move_in" (top 13), dfd "is_move" (top 14), dfd "genus_of_row" (top 20), dfd "_law_joined" (top 30), dfd "_law_lot_of" (top 25), dfd "_law_kind" (top 28), dfd "_law_le_least" (top 32), dfd "_law_behind" (top 26), dfd "_law_le_product" (top 31), dfd "_law_le_genus" (top 33), dfd "_law_roll" (top 23), dfd "_law_shuffled" (top 24), dfd "_law_move_drawn" (top 29), dfd "_law_undone" (top 27), dfd "_law_le_carried" (top 34), dfd "_law_parity_right" (top 35), dfd "_law_right" (top 36), dfd "law" (top 37)]
abbrev TX (g : Gx) : Prop := Tx fa fn g
variable {g : Gx}
abbrev s__law_dice : Stmt := top 22
theorem sc__law_dice : FnScope ["_law_script", "_law_spot", "_law_cell", "_law_left"] ["_law_script", "_law_spot"] (defScope s__law_dice) := ⟨by kernel_rfl, by kernel_rfl, by kernel_rfl, by decide +kernel, rfl, by decide +kernel, by decide +kernel⟩
def b__law_dice : DS :=
    (seqS (setS 2 (ifR (cmpT iLt (nS 1) (biR lenG (consR (nS 0) aN))) (biR intG (consR (res2 atD (nS 0) (nS 1)) aN)) (res2 addD (res2 mulD (kD (.int 73)) (nS 1)) (kD (.int 41)))))
    (seqS (setS 3 (res2 iMod (biR maxsG (consR (kD (.int 0)) (consR (res2 iSub (biR absG (consR (nS 2) aN)) (res2 iPow (kD (.int 10)) (kD (.int 17)))) aN))) (res2 mulD (res2 iPow (kD (.int 10)) (kD (.int 57))) (res2 iPow (kD (.int 10)) (kD (.int 60))))))
    (rT (shR (lstR (consR (nS 3) (consR (res2 addD (res2 addD (res2 addD (res2 mulD (res2 iMod (biR absG (consR (nS 2) aN)) (kD (.int 1152921504606846883))) (kD (.int 59))) (res2 mulD (kD (.int 977)) (nS 1))) (res2 mulD (kD (.int 47)) (biR intG (consR (res2 iLt (nS 2) (kD (.int 0))) aN)))) (kD (.int 13))) (consR (kD (.int 0)) aN))))))))
def d__law_dice : DF := fnR 4 b__law_dice
theorem ok__law_dice (T : TX g) : FnD g "_law_dice" 2 1 d__law_dice := by
  exact T.deff 0 4 (x := "_law_dice") (st := s__law_dice) (k := 0) (fb := b__law_dice) rfl rfl sc__law_dice (fun _ _ _ _ _ _ us hl => match us, hl with | [_, _], _ => rfl)
    (den_scons (den_set (i := 2) (by kernel_rfl) (den_if (den_tcmp o_lt (DenE.b (den_name (i := 1) (by kernel_rfl))) (DenE.b (den_bi c_len (by kernel_rfl) (T.free 0 rfl) (by kernel_rfl) (den_abcons (DenE.b (den_name (i := 0) (by kernel_rfl))) den_abnil (fun _ => rfl)) (fun _ => rfl) (fun _ => rfl))) rfl) (den_bt c_int (by kernel_rfl) (T.free 1 rfl) (by kernel_rfl) (den_abcons (DenE.b (den_ix (DenE.b (den_name (i := 0) (by kernel_rfl))) (DenE.b (den_name (i := 1) (by kernel_rfl))) (fun _ _ => rfl))) den_abnil (fun _ => rfl)) (fun _ => rfl) (fun _ => rfl)) (den_bin o_addD (DenE.b (den_bin o_mulD (DenE.b den_int) (DenE.b (den_name (i := 1) (by kernel_rfl))))) (DenE.b den_int))) (fun _ => rfl))
    (den_scons (den_set (i := 3) (by kernel_rfl) (den_bin o_mod (DenE.b (den_bi c_maxs (by kernel_rfl) (T.free 3 rfl) (by kernel_rfl) (den_abcons (DenE.b den_int) (den_abcons (DenE.b (den_bin o_sub (DenE.b (den_bi c_abs (by kernel_rfl) (T.free 2 rfl) (by kernel_rfl) (den_abcons (DenE.b (den_name (i := 2) (by kernel_rfl))) den_abnil (fun _ => rfl)) (fun _ => rfl) (fun _ => rfl))) (DenE.b (den_bin o_pow (DenE.b den_int) (DenE.b den_int))))) den_abnil (fun _ => rfl)) (fun _ => rfl)) (fun _ => rfl) (fun _ => rfl))) (DenE.b (den_bin o_mulD (DenE.b (den_bin o_pow (DenE.b den_int) (DenE.b den_int))) (DenE.b (den_bin o_pow (DenE.b den_int) (DenE.b den_int)))))) (fun _ => rfl))
    (den_sone (den_ret (DenN.share (den_lst (den_acons (den_name (i := 3) (by kernel_rfl)) (den_acons (den_bin o_addD (DenE.b (den_bin o_addD (DenE.b (den_bin o_addD (DenE.b (den_bin o_mulD (DenE.b (den_bin o_mod (DenE.b (den_bi c_abs (by kernel_rfl) (T.free 2 rfl) (by kernel_rfl) (den_abcons (DenE.b (den_name (i := 2) (by kernel_rfl))) den_abnil (fun _ => rfl)) (fun _ => rfl) (fun _ => rfl))) (DenE.b den_int))) (DenE.b den_int))) (DenE.b (den_bin o_mulD (DenE.b den_int) (DenE.b (den_name (i := 1) (by kernel_rfl))))))) (DenE.b (den_bin o_mulD (DenE.b den_int) (DenE.b (den_bt c_int (by kernel_rfl) (T.free 1 rfl) (by kernel_rfl) (den_abcons (DenE.b (den_cmp o_lt (DenE.b (den_name (i := 2) (by kernel_rfl))) (DenE.b den_int) rfl)) den_abnil (fun _ => rfl)) (fun _ => rfl) (fun _ => rfl))))))) (DenE.b den_int)) (den_acons den_int den_anil (fun _ => rfl)) (fun _ => rfl)) (fun _ => rfl))))))))

abbrev s_cycles_in : Stmt := top 11
theorem sc_cycles_in : FnScope ["move", "met", "found", "place", "round_here", "here"] ["move"] (defScope s_cycles_in) := ⟨by kernel_rfl, by kernel_rfl, by kernel_rfl, by decide +kernel, rfl, by decide +kernel, by decide +kernel⟩
def b_cycles_in : DS :=
    (seqS (par2 1 2 (ownM (res2 repL (lstR (consR (kD (.bl false)) aN)) (biR lenG (consR (nS 0) aN))) (ownM (lstR aN) mN)))
    (seqS (forR (rngR1 (biR lenG (consR (nS 0) aN))) (gN 3) (iteS (tNotR (truR (res2 atD (nB 1) (nS 3)))) (seqS (par2 4 5 (ownM (lstR aN) (valM (nS 3) mN)))
    (seqS (whileS (tNotR (truR (res2 atD (nB 1) (nS 5)))) (seqS (putS 1 (nS 5) (kD (.bl true)))
    (seqS (appS 4 (nS 5))
    (setS 5 (res2 atD (nS 0) (nS 5))))) 64)
    (appS 2 (biR tupG (consR (nB 4) aN))))) nilS))
    (frS 2 (rT (nS 2)))))
def d_cycles_in : DF := pureF (fnR 6 b_cycles_in)
theorem ok_cycles_in (T : TX g) : FnD g "cycles_in" 1 1 d_cycles_in := by
  exact FnD.pure (T.deff 1 7 (x := "cycles_in") (st := s_cycles_in) (k := 0) (fb := b_cycles_in) rfl rfl sc_cycles_in (fun _ _ _ _ _ _ us hl => match us, hl with | [_], _ => rfl)
    (den_scons (den_par2 (i := 1) (j := 2) (by kernel_rfl) (by kernel_rfl) (by decide) (by kernel_rfl) (by kernel_rfl) (den_mown (den_repN (DenN.b (den_lst (den_acons den_bl den_anil (fun _ => rfl)))) (DenE.b (den_bi c_len (by kernel_rfl) (T.free 0 rfl) (by kernel_rfl) (den_abcons (DenE.b (den_name (i := 0) (by kernel_rfl))) den_abnil (fun _ => rfl)) (fun _ => rfl) (fun _ => rfl)))) (den_mown (den_lst den_anil) den_mnil (fun _ => rfl)) (fun _ => rfl)) (hw_of fun _ => by kernel_rfl) (fun _ => rfl))
    (den_scons (den_for (den_irng1 (by kernel_rfl) (T.free 5 rfl) (DenE.b (den_bi c_len (by kernel_rfl) (T.free 0 rfl) (by kernel_rfl) (den_abcons (DenE.b (den_name (i := 0) (by kernel_rfl))) den_abnil (fun _ => rfl)) (fun _ => rfl) (fun _ => rfl))) (fun _ => rfl)) (den_gname (i := 3) (by kernel_rfl)) (den_sone (den_sif (den_tnot (den_tru (DenE.b (den_ix (den_bname (i := 1) (by kernel_rfl)) (DenE.b (den_name (i := 3) (by kernel_rfl))) (fun _ _ => rfl))) (fun _ _ => rfl))) (den_scons (den_par2 (i := 4) (j := 5) (by kernel_rfl) (by kernel_rfl) (by decide) (by kernel_rfl) (by kernel_rfl) (den_mown (den_lst den_anil) (den_mval (den_name (i := 3) (by kernel_rfl)) den_mnil (fun _ => rfl)) (fun _ => rfl)) (hw_of fun _ => by kernel_rfl) (fun _ => rfl))
    (den_scons (den_while 64 (den_tnot (den_tru (DenE.b (den_ix (den_bname (i := 1) (by kernel_rfl)) (DenE.b (den_name (i := 5) (by kernel_rfl))) (fun _ _ => rfl))) (fun _ _ => rfl))) (den_scons (den_put (i := 1) (by kernel_rfl) (DenE.b (den_name (i := 5) (by kernel_rfl))) den_bl (fun _ _ => rfl) (by exact fun _ _ => rfl) (fun _ => rfl) (fun _ => rfl) (fun _ => rfl))
    (den_scons (den_append (i := 4) (by kernel_rfl) (den_name (i := 5) (by kernel_rfl)) rfl (fun _ => rfl))
    (den_sone (den_set (i := 5) (by kernel_rfl) (den_ix (DenE.b (den_name (i := 0) (by kernel_rfl))) (DenE.b (den_name (i := 5) (by kernel_rfl))) (fun _ _ => rfl)) (fun _ => rfl))))))
    (den_sone (den_append (i := 2) (by kernel_rfl) (den_bt c_tup (by kernel_rfl) (T.free 6 rfl) (by kernel_rfl) (den_abcons (den_bname (i := 4) (by kernel_rfl)) den_abnil (fun _ => rfl)) (fun _ => rfl) (fun _ => rfl)) rfl (fun _ => rfl))))) den_snil)) (fun _ _ => rfl))
    (den_sone (den_frz 2 (den_ret (den_name (i := 2) (by kernel_rfl))))))))

abbrev s_does_join_all : Stmt := top 18
theorem sc_does_join_all : FnScope ["size", "some", "names", "move", "ring", "met", "least", "place", "name"] ["size", "some"] (defScope s_does_join_all) := ⟨by kernel_rfl, by kernel_rfl, by kernel_rfl, by decide +kernel, rfl, by decide +kernel, by decide +kernel⟩
def b_does_join_all : DS :=
    (seqS (setS 2 (lstRg (rg1 (nS 0))))
    (seqS (forR (seqR (nS 1)) (gN 3) (forR (seqR (callR 1 d_cycles_in (consR (nS 3) aN))) (gN 4) (seqS (setS 5 (dcR (seqR (nS 4)) [7] (gN 7) tY (res2 atD (nS 2) (nS 7)) (kD (.bl true))))
    (seqS (setS 6 (biR minKG (consR (nS 5) aN)))
    (setS 2 (lcR (seqR (nS 2)) [8] (gN 8) tY (ifR (cmpT dIn (nS 8) (nS 5)) (nS 6) (nS 8))))))))
    (rT (biR allG (consR (lcR (seqR (nS 2)) [8] (gN 8) tY (res2 eqD (nS 8) (kD (.int 0)))) aN)))))
def d_does_join_all : DF := pureF (fnR 9 b_does_join_all)
theorem ok_does_join_all (T : TX g) : FnD g "does_join_all" 2 2 d_does_join_all := by
  exact FnD.pure (T.deff 2 11 (x := "does_join_all") (st := s_does_join_all) (k := 1) (fb := b_does_join_all) rfl rfl sc_does_join_all (fun _ _ _ _ _ _ us hl => match us, hl with | [_, _], _ => rfl)
    (den_scons (den_set (i := 2) (by kernel_rfl) (DenN.toE (den_lstRg (by kernel_rfl) (T.free 8 rfl) (den_rg1 (by kernel_rfl) (T.free 5 rfl) (DenE.b (den_name (i := 0) (by kernel_rfl))) (fun _ => rfl)) (fun _ => rfl))) (fun _ => rfl))
    (den_scons (den_for (den_iseq (den_name (i := 1) (by kernel_rfl))) (den_gname (i := 3) (by kernel_rfl)) (den_sone (den_for (den_iseq (den_call (n := 1) (ok_cycles_in T) (show 1 ≤ 1 by decide) (by kernel_rfl) (den_acons (den_name (i := 3) (by kernel_rfl)) den_anil (fun _ => rfl)) (fun _ => rfl) (fun _ => rfl))) (den_gname (i := 4) (by kernel_rfl)) (den_scons (den_setC (i := 5) (by kernel_rfl) (DenN.toE (den_dcK (own := [("place", 7)]) (den_iseq (den_name (i := 4) (by kernel_rfl))) (by kernel_rfl) (by decide) (den_gname (i := 7) (by kernel_rfl)) den_tsnil (den_ix (DenE.b (den_name (i := 2) (by kernel_rfl))) (DenE.b (den_name (i := 7) (by kernel_rfl))) (fun _ _ => rfl)) den_bl (fun _ _ => rfl))) (hw_of fun _ => by kernel_rfl))
    (den_scons (den_set (i := 6) (by kernel_rfl) (den_bi c_minK (by kernel_rfl) (T.free 9 rfl) (by kernel_rfl) (den_abcons (DenE.b (den_name (i := 5) (by kernel_rfl))) den_abnil (fun _ => rfl)) (fun _ => rfl) (fun _ => rfl)) (fun _ => rfl))
    (den_sone (den_setC (i := 2) (by kernel_rfl) (DenN.toE (den_lc (own := [("name", 8)]) (den_iseq (den_name (i := 2) (by kernel_rfl))) (by kernel_rfl) (by decide) (den_gname (i := 8) (by kernel_rfl)) den_tsnil (den_if (den_tcmp o_din (DenE.b (den_name (i := 8) (by kernel_rfl))) (DenE.b (den_name (i := 5) (by kernel_rfl))) rfl) (den_name (i := 6) (by kernel_rfl)) (den_name (i := 8) (by kernel_rfl))) (fun _ _ => rfl))) (hw_of fun _ => by kernel_rfl))))) (fun _ _ => rfl))) (fun _ _ => rfl))
    (den_sone (den_ret (den_bi c_all (by kernel_rfl) (T.free 10 rfl) (by kernel_rfl) (den_abcons (DenN.b (den_lc (own := [("name", 8)]) (den_iseq (den_name (i := 2) (by kernel_rfl))) (by kernel_rfl) (by decide) (den_gname (i := 8) (by kernel_rfl)) den_tsnil (den_cmp o_eq (DenE.b (den_name (i := 8) (by kernel_rfl))) (DenE.b den_int) rfl) (fun _ _ => rfl))) den_abnil (fun _ => rfl)) (fun _ => rfl) (fun _ => rfl)))))))

abbrev s_idle_in : Stmt := top 9
theorem sc_idle_in : FnScope ["size"] ["size"] (defScope s_idle_in) := ⟨by kernel_rfl, by kernel_rfl, by kernel_rfl, by decide +kernel, rfl, by decide +kernel, by decide +kernel⟩
def b_idle_in : DS :=
    (rT (tupRg (rg1 (nS 0))))
def d_idle_in : DF := pureF (fnR 1 b_idle_in)
theorem ok_idle_in (T : TX g) : FnD g "idle_in" 1 1 d_idle_in := by
  exact FnD.pure (T.deff 3 12 (x := "idle_in") (st := s_idle_in) (k := 0) (fb := b_idle_in) rfl rfl sc_idle_in (fun _ _ _ _ _ _ us hl => match us, hl with | [_], _ => rfl)
    (den_sone (den_ret (den_tupRg (by kernel_rfl) (T.free 6 rfl) (den_rg1 (by kernel_rfl) (T.free 5 rfl) (DenE.b (den_name (i := 0) (by kernel_rfl))) (fun _ => rfl)) (fun _ => rfl)))))

abbrev s_behind_in : Stmt := top 10
theorem sc_behind_in : FnScope ["one", "other", "place"] ["one", "other"] (defScope s_behind_in) := ⟨by kernel_rfl, by kernel_rfl, by kernel_rfl, by decide +kernel, rfl, by decide +kernel, by decide +kernel⟩
def b_behind_in : DS :=
    (rT (biR tupG (consR (lcR (seqR (nS 0)) [2] (gN 2) tY (res2 atD (nS 1) (nS 2))) aN)))
def d_behind_in : DF := pureF (fnR 3 b_behind_in)
theorem ok_behind_in (T : TX g) : FnD g "behind_in" 2 1 d_behind_in := by
  exact FnD.pure (T.deff 4 13 (x := "behind_in") (st := s_behind_in) (k := 0) (fb := b_behind_in) rfl rfl sc_behind_in (fun _ _ _ _ _ _ us hl => match us, hl with | [_, _], _ => rfl)
    (den_sone (den_ret (den_bt c_tup (by kernel_rfl) (T.free 6 rfl) (by kernel_rfl) (den_abcons (DenN.b (den_lc (own := [("place", 2)]) (den_iseq (den_name (i := 0) (by kernel_rfl))) (by kernel_rfl) (by decide) (den_gname (i := 2) (by kernel_rfl)) den_tsnil (den_ix (DenE.b (den_name (i := 1) (by kernel_rfl))) (DenE.b (den_name (i := 2) (by kernel_rfl))) (fun _ _ => rfl)) (fun _ _ => rfl))) den_abnil (fun _ => rfl)) (fun _ => rfl) (fun _ => rfl)))))

abbrev s_product_of_moves : Stmt := top 17
theorem sc_product_of_moves : FnScope ["size", "some", "found", "move"] ["size", "some"] (defScope s_product_of_moves) := ⟨by kernel_rfl, by kernel_rfl, by kernel_rfl, by decide +kernel, rfl, by decide +kernel, by decide +kernel⟩
def b_product_of_moves : DS :=
    (seqS (setS 2 (callR 1 d_idle_in (consR (nS 0) aN)))
    (seqS (forR (seqR (nS 1)) (gN 3) (setS 2 (callR 2 d_behind_in (consR (nS 2) (consR (nS 3) aN)))))
    (rT (nS 2))))
def d_product_of_moves : DF := pureF (fnR 4 b_product_of_moves)
theorem ok_product_of_moves (T : TX g) : FnD g "product_of_moves" 2 2 d_product_of_moves := by
  exact FnD.pure (T.deff 5 14 (x := "product_of_moves") (st := s_product_of_moves) (k := 1) (fb := b_product_of_moves) rfl rfl sc_product_of_moves (fun _ _ _ _ _ _ us hl => match us, hl with | [_, _], _ => rfl)
    (den_scons (den_set (i := 2) (by kernel_rfl) (den_call (n := 1) (ok_idle_in T) (show 1 ≤ 1 by decide) (by kernel_rfl) (den_acons (den_name (i := 0) (by kernel_rfl)) den_anil (fun _ => rfl)) (fun _ => rfl) (fun _ => rfl)) (fun _ => rfl))
    (den_scons (den_for (den_iseq (den_name (i := 1) (by kernel_rfl))) (den_gname (i := 3) (by kernel_rfl)) (den_sone (den_set (i := 2) (by kernel_rfl) (den_call (n := 2) (ok_behind_in T) (show 1 ≤ 1 by decide) (by kernel_rfl) (den_acons (den_name (i := 2) (by kernel_rfl)) (den_acons (den_name (i := 3) (by kernel_rfl)) den_anil (fun _ => rfl)) (fun _ => rfl)) (fun _ => rfl) (fun _ => rfl)) (fun _ => rfl))) (fun _ _ => rfl))
    (den_sone (den_ret (den_name (i := 2) (by kernel_rfl)))))))

abbrev s_least_in : Stmt := top 12
theorem sc_least_in : FnScope ["move"] ["move"] (defScope s_least_in) := ⟨by kernel_rfl, by kernel_rfl, by kernel_rfl, by decide +kernel, rfl, by decide +kernel, by decide +kernel⟩
def b_least_in : DS :=
    (rT (res2 iSub (biR lenG (consR (nS 0) aN)) (biR lenG (consR (callR 1 d_cycles_in (consR (nS 0) aN)) aN))))
def d_least_in : DF := pureF (fnR 1 b_least_in)
theorem ok_least_in (T : TX g) : FnD g "least_in" 1 2 d_least_in := by
  exact FnD.pure (T.deff 6 15 (x := "least_in") (st := s_least_in) (k := 1) (fb := b_least_in) rfl rfl sc_least_in (fun _ _ _ _ _ _ us hl => match us, hl with | [_], _ => rfl)
    (den_sone (den_ret (den_bin o_sub (DenE.b (den_bi c_len (by kernel_rfl) (T.free 0 rfl) (by kernel_rfl) (den_abcons (DenE.b (den_name (i := 0) (by kernel_rfl))) den_abnil (fun _ => rfl)) (fun _ => rfl) (fun _ => rfl))) (DenE.b (den_bi c_len (by kernel_rfl) (T.free 0 rfl) (by kernel_rfl) (den_abcons (DenE.b (den_call (n := 1) (ok_cycles_in T) (show 1 ≤ 1 by decide) (by kernel_rfl) (den_acons (den_name (i := 0) (by kernel_rfl)) den_anil (fun _ => rfl)) (fun _ => rfl) (fun _ => rfl))) den_abnil (fun _ => rfl)) (fun _ => rfl) (fun _ => rfl)))))))

abbrev s_genus_in : Stmt := top 19
theorem sc_genus_in : FnScope ["size", "some", "members", "move"] ["size", "some"] (defScope s_genus_in) := ⟨by kernel_rfl, by kernel_rfl, by kernel_rfl, by decide +kernel, rfl, by decide +kernel, by decide +kernel⟩
def b_genus_in : DS :=
    (seqS (iteS (tNotR (truR (callR 2 d_does_join_all (consR (nS 0) (consR (nS 1) aN))))) (rT (kD .non)) nilS)
    (seqS (setS 2 (biR lenG (consR (callR 1 d_cycles_in (consR (callR 2 d_product_of_moves (consR (nS 0) (consR (nS 1) aN))) aN)) aN)))
    (rT (res2 iDiv (res2 iSub (biR sumsG (consR (lcR (seqR (nS 1)) [3] (gN 3) tY (callR 1 d_least_in (consR (nS 3) aN))) aN)) (res2 addD (res2 iSub (nS 0) (kD (.int 2))) (nS 2))) (kD (.int 2))))))
def d_genus_in : DF := pureF (fnR 4 b_genus_in)
theorem ok_genus_in (T : TX g) : FnD g "genus_in" 2 3 d_genus_in := by
  exact FnD.pure (T.deff 7 17 (x := "genus_in") (st := s_genus_in) (k := 2) (fb := b_genus_in) rfl rfl sc_genus_in (fun _ _ _ _ _ _ us hl => match us, hl with | [_, _], _ => rfl)
    (den_scons (den_sif (den_tnot (den_tru (DenE.b (den_call (n := 2) (ok_does_join_all T) (show 2 ≤ 2 by decide) (by kernel_rfl) (den_acons (den_name (i := 0) (by kernel_rfl)) (den_acons (den_name (i := 1) (by kernel_rfl)) den_anil (fun _ => rfl)) (fun _ => rfl)) (fun _ => rfl) (fun _ => rfl))) (fun _ _ => rfl))) (den_sone (den_ret den_non)) den_snil)
    (den_scons (den_set (i := 2) (by kernel_rfl) (den_bi c_len (by kernel_rfl) (T.free 0 rfl) (by kernel_rfl) (den_abcons (DenE.b (den_call (n := 1) (ok_cycles_in T) (show 1 ≤ 2 by decide) (by kernel_rfl) (den_acons (den_call (n := 2) (ok_product_of_moves T) (show 2 ≤ 2 by decide) (by kernel_rfl) (den_acons (den_name (i := 0) (by kernel_rfl)) (den_acons (den_name (i := 1) (by kernel_rfl)) den_anil (fun _ => rfl)) (fun _ => rfl)) (fun _ => rfl) (fun _ => rfl)) den_anil (fun _ => rfl)) (fun _ => rfl) (fun _ => rfl))) den_abnil (fun _ => rfl)) (fun _ => rfl) (fun _ => rfl)) (fun _ => rfl))
    (den_sone (den_ret (den_bin o_div (DenE.b (den_bin o_sub (DenE.b (den_bi c_sums (by kernel_rfl) (T.free 16 rfl) (by kernel_rfl) (den_abcons (DenN.b (den_lc (own := [("move", 3)]) (den_iseq (den_name (i := 1) (by kernel_rfl))) (by kernel_rfl) (by decide) (den_gname (i := 3) (by kernel_rfl)) den_tsnil (den_call (n := 1) (ok_least_in T) (show 2 ≤ 2 by decide) (by kernel_rfl) (den_acons (den_name (i := 3) (by kernel_rfl)) den_anil (fun _ => rfl)) (fun _ => rfl) (fun _ => rfl)) (fun _ _ => rfl))) den_abnil (fun _ => rfl)) (fun _ => rfl) (fun _ => rfl))) (DenE.b (den_bin o_addD (DenE.b (den_bin o_sub (DenE.b (den_name (i := 0) (by kernel_rfl))) (DenE.b den_int))) (DenE.b (den_name (i := 2) (by kernel_rfl))))))) (DenE.b den_int)))))))

abbrev s_is_whole : Stmt := top 5
theorem sc_is_whole : FnScope ["value"] ["value"] (defScope s_is_whole) := ⟨by kernel_rfl, by kernel_rfl, by kernel_rfl, by decide +kernel, rfl, by decide +kernel, by decide +kernel⟩
def b_is_whole : DS :=
    (rT (bAndR (isiR "int" (nS 0)) (bNotR (isiR "bool" (nS 0)))))
def d_is_whole : DF := pureF (fnR 1 b_is_whole)
theorem ok_is_whole (T : TX g) : FnD g "is_whole" 1 1 d_is_whole := by
  exact FnD.pure (T.deff 8 20 (x := "is_whole") (st := s_is_whole) (k := 0) (fb := b_is_whole) rfl rfl sc_is_whole (fun _ _ _ _ _ _ us hl => match us, hl with | [_], _ => rfl)
    (den_sone (den_ret (den_band (den_isi (Tn := "int") (by kernel_rfl) (T.free 18 rfl) (by kernel_rfl) (T.free 1 rfl) (by kernel_rfl) (DenE.b (den_name (i := 0) (by kernel_rfl))) (fun _ => rfl) (fun _ => rfl) (fun _ => rfl)) (den_band1 (den_bnot (den_isi (Tn := "bool") (by kernel_rfl) (T.free 18 rfl) (by kernel_rfl) (T.free 19 rfl) (by kernel_rfl) (DenE.b (den_name (i := 0) (by kernel_rfl))) (fun _ => rfl) (fun _ => rfl) (fun _ => rfl))))))))

abbrev s_is_integer : Stmt := top 6
theorem sc_is_integer : FnScope ["value"] ["value"] (defScope s_is_integer) := ⟨by kernel_rfl, by kernel_rfl, by kernel_rfl, by decide +kernel, rfl, by decide +kernel, by decide +kernel⟩
def b_is_integer : DS :=
    (rT (bAndR (callR 1 d_is_whole (consR (nS 0) aN)) (chR iLt iLt (res1 negD (kD (.int 1000000000000000000000000000000000000000000000000000000000000))) (nS 0) (kD (.int 1000000000000000000000000000000000000000000000000000000000000)))))
def d_is_integer : DF := pureF (fnR 1 b_is_integer)
theorem ok_is_integer (T : TX g) : FnD g "is_integer" 1 2 d_is_integer := by
  obtain ⟨t_BOUND, c_BOUND⟩ := T.int 21 (x := "BOUND") (n := 1000000000000000000000000000000000000000000000000000000000000) rfl
  exact FnD.pure (T.deff 9 22 (x := "is_integer") (st := s_is_integer) (k := 1) (fb := b_is_integer) rfl rfl sc_is_integer (fun _ _ _ _ _ _ us hl => match us, hl with | [_], _ => rfl)
    (den_sone (den_ret (den_band (den_call (n := 1) (ok_is_whole T) (show 1 ≤ 1 by decide) (by kernel_rfl) (den_acons (den_name (i := 0) (by kernel_rfl)) den_anil (fun _ => rfl)) (fun _ => rfl) (fun _ => rfl)) (den_band1 (den_chain o_lt o_lt (DenE.b (den_neg (DenE.b (den_con (by kernel_rfl) c_BOUND rfl)))) (DenE.b (den_name (i := 0) (by kernel_rfl))) (DenE.b (den_con (by kernel_rfl) c_BOUND rfl)) rfl))))))

abbrev s_is_move_in : Stmt := top 13
theorem sc_is_move_in : FnScope ["size", "value", "one"] ["size", "value"] (defScope s_is_move_in) := ⟨by kernel_rfl, by kernel_rfl, by kernel_rfl, by decide +kernel, rfl, by decide +kernel, by decide +kernel⟩
def b_is_move_in : DS :=
    (seqS (iteS (tOrR (tNotR (truR (isiR "tuple" (nS 1)))) (tOrR (cmpT neD (biR lenG (consR (nS 1) aN)) (nS 0)) (tNotR (truR (biR allG (consR (lcR (seqR (nS 1)) [2] (gN 2) tY (callR 1 d_is_integer (consR (nS 2) aN))) aN)))))) (rT (kD (.bl false))) nilS)
    (rT (res2 eqD (biR sortsD (consR (nS 1) aN)) (lstRg (rg1 (nS 0))))))
def d_is_move_in : DF := pureF (fnR 3 b_is_move_in)
theorem ok_is_move_in (T : TX g) : FnD g "is_move_in" 2 3 d_is_move_in := by
  exact FnD.pure (T.deff 10 24 (x := "is_move_in") (st := s_is_move_in) (k := 2) (fb := b_is_move_in) rfl rfl sc_is_move_in (fun _ _ _ _ _ _ us hl => match us, hl with | [_, _], _ => rfl)
    (den_scons (den_sif (den_tw (den_wor (den_tnot (den_tru (DenE.b (den_isi (Tn := "tuple") (by kernel_rfl) (T.free 18 rfl) (by kernel_rfl) (T.free 6 rfl) (by kernel_rfl) (DenE.b (den_name (i := 1) (by kernel_rfl))) (fun _ => rfl) (fun _ => rfl) (fun _ => rfl))) (fun _ _ => rfl))) (den_wor (den_tcmp o_ne (DenE.b (den_bi c_len (by kernel_rfl) (T.free 0 rfl) (by kernel_rfl) (den_abcons (DenE.b (den_name (i := 1) (by kernel_rfl))) den_abnil (fun _ => rfl)) (fun _ => rfl) (fun _ => rfl))) (DenE.b (den_name (i := 0) (by kernel_rfl))) rfl) (den_wor1 (den_tnot (den_tru (DenE.b (den_bi c_all (by kernel_rfl) (T.free 10 rfl) (by kernel_rfl) (den_abcons (DenN.b (den_lc (own := [("one", 2)]) (den_iseq (den_name (i := 1) (by kernel_rfl))) (by kernel_rfl) (by decide) (den_gname (i := 2) (by kernel_rfl)) den_tsnil (den_call (n := 1) (ok_is_integer T) (show 2 ≤ 2 by decide) (by kernel_rfl) (den_acons (den_name (i := 2) (by kernel_rfl)) den_anil (fun _ => rfl)) (fun _ => rfl) (fun _ => rfl)) (fun _ _ => rfl))) den_abnil (fun _ => rfl)) (fun _ => rfl) (fun _ => rfl))) (fun _ _ => rfl))))))) (den_sone (den_ret den_bl)) den_snil)
    (den_sone (den_ret (den_cmp o_eq (DenN.b (den_biN cn_sortsD (by kernel_rfl) (T.free 23 rfl) (by kernel_rfl) (den_abcons (DenE.b (den_name (i := 1) (by kernel_rfl))) den_abnil (fun _ => rfl)) (fun _ => rfl) (fun _ => rfl))) (DenN.b (den_lstRg (by kernel_rfl) (T.free 8 rfl) (den_rg1 (by kernel_rfl) (T.free 5 rfl) (DenE.b (den_name (i := 0) (by kernel_rfl))) (fun _ => rfl)) (fun _ => rfl))) rfl)))))

abbrev s_is_move : Stmt := top 14
theorem sc_is_move : FnScope ["value"] ["value"] (defScope s_is_move) := ⟨by kernel_rfl, by kernel_rfl, by kernel_rfl, by decide +kernel, rfl, by decide +kernel, by decide +kernel⟩
def b_is_move : DS :=
    (rT (bAndR (isiR "tuple" (nS 0)) (bAndR (chR iLe iLe (kD (.int 1)) (biR lenG (consR (nS 0) aN)) (kD (.int 24))) (callR 2 d_is_move_in (consR (biR lenG (consR (nS 0) aN)) (consR (nS 0) aN))))))
def d_is_move : DF := pureF (fnR 1 b_is_move)
theorem ok_is_move (T : TX g) : FnD g "is_move" 1 4 d_is_move := by
  obtain ⟨t_MOST_PLACES, c_MOST_PLACES⟩ := T.int 25 (x := "MOST_PLACES") (n := 24) rfl
  exact FnD.pure (T.deff 11 26 (x := "is_move") (st := s_is_move) (k := 3) (fb := b_is_move) rfl rfl sc_is_move (fun _ _ _ _ _ _ us hl => match us, hl with | [_], _ => rfl)
    (den_sone (den_ret (den_band (den_isi (Tn := "tuple") (by kernel_rfl) (T.free 18 rfl) (by kernel_rfl) (T.free 6 rfl) (by kernel_rfl) (DenE.b (den_name (i := 0) (by kernel_rfl))) (fun _ => rfl) (fun _ => rfl) (fun _ => rfl)) (den_band (den_chain o_le o_le (DenE.b den_int) (DenE.b (den_bi c_len (by kernel_rfl) (T.free 0 rfl) (by kernel_rfl) (den_abcons (DenE.b (den_name (i := 0) (by kernel_rfl))) den_abnil (fun _ => rfl)) (fun _ => rfl) (fun _ => rfl))) (DenE.b (den_con (by kernel_rfl) c_MOST_PLACES rfl)) rfl) (den_band1 (den_call (n := 2) (ok_is_move_in T) (show 3 ≤ 3 by decide) (by kernel_rfl) (den_acons (den_bi c_len (by kernel_rfl) (T.free 0 rfl) (by kernel_rfl) (den_abcons (DenE.b (den_name (i := 0) (by kernel_rfl))) den_abnil (fun _ => rfl)) (fun _ => rfl) (fun _ => rfl)) (den_acons (den_name (i := 0) (by kernel_rfl)) den_anil (fun _ => rfl)) (fun _ => rfl)) (fun _ => rfl) (fun _ => rfl))))))))

abbrev s_genus_of_row : Stmt := top 20
theorem sc_genus_of_row : FnScope ["moves", "one"] ["moves"] (defScope s_genus_of_row) := ⟨by kernel_rfl, by kernel_rfl, by kernel_rfl, by decide +kernel, rfl, by decide +kernel, by decide +kernel⟩
def b_genus_of_row : DS :=
    (seqS (iteS (tOrR (tNotR (truR (isiR "tuple" (nS 0)))) (tOrR (tNotR (chT iLe iLe (kD (.int 1)) (biR lenG (consR (nS 0) aN)) (kD (.int 8)))) (tNotR (truR (biR allG (consR (lcR (seqR (nS 0)) [1] (gN 1) tY (callR 1 d_is_move (consR (nS 1) aN))) aN)))))) noS nilS)
    (seqS (iteS (truR (biR anyG (consR (lcR (seqR (nS 0)) [1] (gN 1) tY (res2 neD (biR lenG (consR (nS 1) aN)) (biR lenG (consR (res2 atD (nS 0) (kD (.int 0))) aN)))) aN))) noS nilS)
    (rT (callR 2 d_genus_in (consR (biR lenG (consR (res2 atD (nS 0) (kD (.int 0))) aN)) (consR (nS 0) aN))))))
def d_genus_of_row : DF := pureF (fnR 2 b_genus_of_row)
theorem ok_genus_of_row (T : TX g) : FnD g "genus_of_row" 1 5 d_genus_of_row := by
  obtain ⟨t_MAX_FACTORS, c_MAX_FACTORS⟩ := T.int 27 (x := "MAX_FACTORS") (n := 8) rfl
  exact FnD.pure (T.deff 12 29 (x := "genus_of_row") (st := s_genus_of_row) (k := 4) (fb := b_genus_of_row) rfl rfl sc_genus_of_row (fun _ _ _ _ _ _ us hl => match us, hl with | [_], _ => rfl)
    (den_scons (den_sif (den_tw (den_wor (den_tnot (den_tru (DenE.b (den_isi (Tn := "tuple") (by kernel_rfl) (T.free 18 rfl) (by kernel_rfl) (T.free 6 rfl) (by kernel_rfl) (DenE.b (den_name (i := 0) (by kernel_rfl))) (fun _ => rfl) (fun _ => rfl) (fun _ => rfl))) (fun _ _ => rfl))) (den_wor (den_tnot (den_tchain o_le o_le (DenE.b den_int) (DenE.b (den_bi c_len (by kernel_rfl) (T.free 0 rfl) (by kernel_rfl) (den_abcons (DenE.b (den_name (i := 0) (by kernel_rfl))) den_abnil (fun _ => rfl)) (fun _ => rfl) (fun _ => rfl))) (DenE.b (den_con (by kernel_rfl) c_MAX_FACTORS rfl)) rfl)) (den_wor1 (den_tnot (den_tru (DenE.b (den_bi c_all (by kernel_rfl) (T.free 10 rfl) (by kernel_rfl) (den_abcons (DenN.b (den_lc (own := [("one", 1)]) (den_iseq (den_name (i := 0) (by kernel_rfl))) (by kernel_rfl) (by decide) (den_gname (i := 1) (by kernel_rfl)) den_tsnil (den_call (n := 1) (ok_is_move T) (show 4 ≤ 4 by decide) (by kernel_rfl) (den_acons (den_name (i := 1) (by kernel_rfl)) den_anil (fun _ => rfl)) (fun _ => rfl) (fun _ => rfl)) (fun _ _ => rfl))) den_abnil (fun _ => rfl)) (fun _ => rfl) (fun _ => rfl))) (fun _ _ => rfl))))))) (den_sone den_never) den_snil)
    (den_scons (den_sif (den_tru (DenE.b (den_bi c_any (by kernel_rfl) (T.free 28 rfl) (by kernel_rfl) (den_abcons (DenN.b (den_lc (own := [("one", 1)]) (den_iseq (den_name (i := 0) (by kernel_rfl))) (by kernel_rfl) (by decide) (den_gname (i := 1) (by kernel_rfl)) den_tsnil (den_cmp o_ne (DenE.b (den_bi c_len (by kernel_rfl) (T.free 0 rfl) (by kernel_rfl) (den_abcons (DenE.b (den_name (i := 1) (by kernel_rfl))) den_abnil (fun _ => rfl)) (fun _ => rfl) (fun _ => rfl))) (DenE.b (den_bi c_len (by kernel_rfl) (T.free 0 rfl) (by kernel_rfl) (den_abcons (DenE.b (den_ix (DenE.b (den_name (i := 0) (by kernel_rfl))) (DenE.b den_int) (fun _ _ => rfl))) den_abnil (fun _ => rfl)) (fun _ => rfl) (fun _ => rfl))) rfl) (fun _ _ => rfl))) den_abnil (fun _ => rfl)) (fun _ => rfl) (fun _ => rfl))) (fun _ _ => rfl)) (den_sone den_never) den_snil)
    (den_sone (den_ret (den_call (n := 2) (ok_genus_in T) (show 3 ≤ 4 by decide) (by kernel_rfl) (den_acons (den_bi c_len (by kernel_rfl) (T.free 0 rfl) (by kernel_rfl) (den_abcons (DenE.b (den_ix (DenE.b (den_name (i := 0) (by kernel_rfl))) (DenE.b den_int) (fun _ _ => rfl))) den_abnil (fun _ => rfl)) (fun _ => rfl) (fun _ => rfl)) (den_acons (den_name (i := 0) (by kernel_rfl)) den_anil (fun _ => rfl)) (fun _ => rfl)) (fun _ => rfl) (fun _ => rfl)))))))

abbrev s__law_joined : Stmt := top 30
theorem sc__law_joined : FnScope ["_law_size", "_law_moves", "_law_names", "_law_move", "_law_place", "_law_goal", "_law_one", "_law_other", "_law_name"] ["_law_size", "_law_moves"] (defScope s__law_joined) := ⟨by kernel_rfl, by kernel_rfl, by kernel_rfl, by decide +kernel, rfl, by decide +kernel, by decide +kernel⟩
def b__law_joined : DS :=
    (seqS (setS 2 (lstRg (rg1 (nS 0))))
    (seqS (forR (seqR (nS 1)) (gN 3) (forR (enumR (nS 3)) (gT (gConsT (gN 4) (gConsT (gN 5) gNilT))) (seqS (asgS (gT (gConsT (gN 6) (gConsT (gN 7) gNilT))) (tupR (consR (res2 atD (nS 2) (nS 4)) (consR (res2 atD (nS 2) (nS 5)) aN))))
    (setS 2 (lcR (seqR (nS 2)) [8] (gN 8) tY (ifR (cmpT inA (nS 8) (tupR (consR (nS 6) (consR (nS 7) aN)))) (biR minsG (consR (nS 6) (consR (nS 7) aN))) (nS 8)))))))
    (rT (nS 2))))
def d__law_joined : DF := pureF (fnR 9 b__law_joined)
theorem ok__law_joined (T : TX g) : FnD g "_law_joined" 2 1 d__law_joined := by
  exact FnD.pure (T.deff 13 31 (x := "_law_joined") (st := s__law_joined) (k := 0) (fb := b__law_joined) rfl rfl sc__law_joined (fun _ _ _ _ _ _ us hl => match us, hl with | [_, _], _ => rfl)
    (den_scons (den_set (i := 2) (by kernel_rfl) (DenN.toE (den_lstRg (by kernel_rfl) (T.free 8 rfl) (den_rg1 (by kernel_rfl) (T.free 5 rfl) (DenE.b (den_name (i := 0) (by kernel_rfl))) (fun _ => rfl)) (fun _ => rfl))) (fun _ => rfl))
    (den_scons (den_for (den_iseq (den_name (i := 1) (by kernel_rfl))) (den_gname (i := 3) (by kernel_rfl)) (den_sone (den_for (den_ienum (by kernel_rfl) (T.free 30 rfl) (den_name (i := 3) (by kernel_rfl)) (fun _ => rfl)) (den_gtup (den_gcons (den_gname (i := 4) (by kernel_rfl)) (den_gcons (den_gname (i := 5) (by kernel_rfl)) den_gnil (fun _ => rfl)) (fun _ => rfl)) (fun _ => rfl) (fun _ => rfl) (gcons_len (gcons_len gnil_len))) (den_scons (den_asg (den_gtup (den_gcons (den_gname (i := 6) (by kernel_rfl)) (den_gcons (den_gname (i := 7) (by kernel_rfl)) den_gnil (fun _ => rfl)) (fun _ => rfl)) (fun _ => rfl) (fun _ => rfl) (gcons_len (gcons_len gnil_len))) (den_tup (den_acons (den_ix (DenE.b (den_name (i := 2) (by kernel_rfl))) (DenE.b (den_name (i := 4) (by kernel_rfl))) (fun _ _ => rfl)) (den_acons (den_ix (DenE.b (den_name (i := 2) (by kernel_rfl))) (DenE.b (den_name (i := 5) (by kernel_rfl))) (fun _ _ => rfl)) den_anil (fun _ => rfl)) (fun _ => rfl))) (fun _ => rfl) (hw_of fun _ => by kernel_rfl) (fun _ => rfl))
    (den_sone (den_setLc (i := 2) (by kernel_rfl) (by kernel_rfl) (by kernel_rfl) (by kernel_rfl) (by kernel_rfl) (own := [("_law_name", 8)]) (den_iseq (den_name (i := 2) (by kernel_rfl))) (by kernel_rfl) (by decide) (den_gname (i := 8) (by kernel_rfl)) den_tsnil (den_if (den_tcmp o_inA (DenE.b (den_name (i := 8) (by kernel_rfl))) (DenE.b (den_tup (den_acons (den_name (i := 6) (by kernel_rfl)) (den_acons (den_name (i := 7) (by kernel_rfl)) den_anil (fun _ => rfl)) (fun _ => rfl)))) rfl) (den_bi c_mins (by kernel_rfl) (T.free 9 rfl) (by kernel_rfl) (den_abcons (DenE.b (den_name (i := 6) (by kernel_rfl))) (den_abcons (DenE.b (den_name (i := 7) (by kernel_rfl))) den_abnil (fun _ => rfl)) (fun _ => rfl)) (fun _ => rfl) (fun _ => rfl)) (den_name (i := 8) (by kernel_rfl))) (fun _ _ => rfl)))) (fun _ _ => rfl))) (fun _ _ => rfl))
    (den_sone (den_ret (den_name (i := 2) (by kernel_rfl)))))))

abbrev s__law_lot_of : Stmt := top 25
theorem sc__law_lot_of : FnScope ["_law_members"] ["_law_members"] (defScope s__law_lot_of) := ⟨by kernel_rfl, by kernel_rfl, by kernel_rfl, by decide +kernel, rfl, by decide +kernel, by decide +kernel⟩
def b__law_lot_of : DS :=
    (rT (biR tupG (consR (revR (biR sortsG (consR (nS 0) aN))) aN)))
def d__law_lot_of : DF := pureF (fnR 1 b__law_lot_of)
theorem ok__law_lot_of (T : TX g) : FnD g "_law_lot_of" 1 1 d__law_lot_of := by
  exact FnD.pure (T.deff 14 32 (x := "_law_lot_of") (st := s__law_lot_of) (k := 0) (fb := b__law_lot_of) rfl rfl sc__law_lot_of (fun _ _ _ _ _ _ us hl => match us, hl with | [_], _ => rfl)
    (den_sone (den_ret (den_bt c_tup (by kernel_rfl) (T.free 6 rfl) (by kernel_rfl) (den_abcons (DenN.b (den_rev (DenN.b (den_biN cn_sorts (by kernel_rfl) (T.free 23 rfl) (by kernel_rfl) (den_abcons (DenE.b (den_name (i := 0) (by kernel_rfl))) den_abnil (fun _ => rfl)) (fun _ => rfl) (fun _ => rfl))))) den_abnil (fun _ => rfl)) (fun _ => rfl) (fun _ => rfl)))))

abbrev s__law_kind : Stmt := top 28
theorem sc__law_kind : FnScope ["_law_move", "_law_found", "_law_met", "_law_start", "_law_many", "_law_place"] ["_law_move"] (defScope s__law_kind) := ⟨by kernel_rfl, by kernel_rfl, by kernel_rfl, by decide +kernel, rfl, by decide +kernel, by decide +kernel⟩
def b__law_kind : DS :=
    (seqS (par2 1 2 (ownM (lstR aN) (ownM (lstR aN) mN)))
    (seqS (forR (rngR1 (biR lenG (consR (nS 0) aN))) (gN 3) (seqS (par2 4 5 (valM (kD (.int 0)) (valM (nS 3) mN)))
    (seqS (whileS (cmpT notInA (nS 5) (nB 2)) (seqS (appS 2 (nS 5))
    (par2 4 5 (valM (res2 addD (nS 4) (kD (.int 1))) (valM (res2 atD (nS 0) (nS 5)) mN)))) 64)
    (iteS (cmpT iGt (nS 4) (kD (.int 0))) (appS 1 (nS 4)) nilS))))
    (frS 1 (rT (callR 1 d__law_lot_of (consR (nS 1) aN))))))
def d__law_kind : DF := pureF (fnR 6 b__law_kind)
theorem ok__law_kind (T : TX g) : FnD g "_law_kind" 1 2 d__law_kind := by
  exact FnD.pure (T.deff 15 33 (x := "_law_kind") (st := s__law_kind) (k := 1) (fb := b__law_kind) rfl rfl sc__law_kind (fun _ _ _ _ _ _ us hl => match us, hl with | [_], _ => rfl)
    (den_scons (den_par2 (i := 1) (j := 2) (by kernel_rfl) (by kernel_rfl) (by decide) (by kernel_rfl) (by kernel_rfl) (den_mown (den_lst den_anil) (den_mown (den_lst den_anil) den_mnil (fun _ => rfl)) (fun _ => rfl)) (hw_of fun _ => by kernel_rfl) (fun _ => rfl))
    (den_scons (den_for (den_irng1 (by kernel_rfl) (T.free 5 rfl) (DenE.b (den_bi c_len (by kernel_rfl) (T.free 0 rfl) (by kernel_rfl) (den_abcons (DenE.b (den_name (i := 0) (by kernel_rfl))) den_abnil (fun _ => rfl)) (fun _ => rfl) (fun _ => rfl))) (fun _ => rfl)) (den_gname (i := 3) (by kernel_rfl)) (den_scons (den_par2 (i := 4) (j := 5) (by kernel_rfl) (by kernel_rfl) (by decide) (by kernel_rfl) (by kernel_rfl) (den_mval den_int (den_mval (den_name (i := 3) (by kernel_rfl)) den_mnil (fun _ => rfl)) (fun _ => rfl)) (hw_of fun _ => by kernel_rfl) (fun _ => rfl))
    (den_scons (den_while 64 (den_tcmp o_notInA (DenE.b (den_name (i := 5) (by kernel_rfl))) (den_bname (i := 2) (by kernel_rfl)) rfl) (den_scons (den_append (i := 2) (by kernel_rfl) (den_name (i := 5) (by kernel_rfl)) rfl (fun _ => rfl))
    (den_sone (den_par2 (i := 4) (j := 5) (by kernel_rfl) (by kernel_rfl) (by decide) (by kernel_rfl) (by kernel_rfl) (den_mval (den_bin o_addD (DenE.b (den_name (i := 4) (by kernel_rfl))) (DenE.b den_int)) (den_mval (den_ix (DenE.b (den_name (i := 0) (by kernel_rfl))) (DenE.b (den_name (i := 5) (by kernel_rfl))) (fun _ _ => rfl)) den_mnil (fun _ => rfl)) (fun _ => rfl)) (hw_of fun _ => by kernel_rfl) (fun _ => rfl)))))
    (den_sone (den_sif (den_tcmp o_gt (DenE.b (den_name (i := 4) (by kernel_rfl))) (DenE.b den_int) rfl) (den_sone (den_append (i := 1) (by kernel_rfl) (den_name (i := 4) (by kernel_rfl)) rfl (fun _ => rfl))) den_snil)))) (fun _ _ => rfl))
    (den_sone (den_frz 1 (den_ret (den_call (n := 1) (ok__law_lot_of T) (show 1 ≤ 1 by decide) (by kernel_rfl) (den_acons (den_name (i := 1) (by kernel_rfl)) den_anil (fun _ => rfl)) (fun _ => rfl) (fun _ => rfl))))))))

abbrev s__law_le_least : Stmt := top 32
theorem sc__law_le_least : FnScope ["_law_move"] ["_law_move"] (defScope s__law_le_least) := ⟨by kernel_rfl, by kernel_rfl, by kernel_rfl, by decide +kernel, rfl, by decide +kernel, by decide +kernel⟩
def b__law_le_least : DS :=
    (rT (res2 iSub (biR lenG (consR (nS 0) aN)) (biR lenG (consR (callR 1 d__law_kind (consR (nS 0) aN)) aN))))
def d__law_le_least : DF := pureF (fnR 1 b__law_le_least)
theorem ok__law_le_least (T : TX g) : FnD g "_law_le_least" 1 3 d__law_le_least := by
  exact FnD.pure (T.deff 16 34 (x := "_law_le_least") (st := s__law_le_least) (k := 2) (fb := b__law_le_least) rfl rfl sc__law_le_least (fun _ _ _ _ _ _ us hl => match us, hl with | [_], _ => rfl)
    (den_sone (den_ret (den_bin o_sub (DenE.b (den_bi c_len (by kernel_rfl) (T.free 0 rfl) (by kernel_rfl) (den_abcons (DenE.b (den_name (i := 0) (by kernel_rfl))) den_abnil (fun _ => rfl)) (fun _ => rfl) (fun _ => rfl))) (DenE.b (den_bi c_len (by kernel_rfl) (T.free 0 rfl) (by kernel_rfl) (den_abcons (DenE.b (den_call (n := 1) (ok__law_kind T) (show 2 ≤ 2 by decide) (by kernel_rfl) (den_acons (den_name (i := 0) (by kernel_rfl)) den_anil (fun _ => rfl)) (fun _ => rfl) (fun _ => rfl))) den_abnil (fun _ => rfl)) (fun _ => rfl) (fun _ => rfl)))))))

abbrev s__law_behind : Stmt := top 26
theorem sc__law_behind : FnScope ["_law_one", "_law_other", "_law_place"] ["_law_one", "_law_other"] (defScope s__law_behind) := ⟨by kernel_rfl, by kernel_rfl, by kernel_rfl, by decide +kernel, rfl, by decide +kernel, by decide +kernel⟩
def b__law_behind : DS :=
    (rT (biR tupG (consR (lcR (seqR (nS 0)) [2] (gN 2) tY (res2 atD (nS 1) (nS 2))) aN)))
def d__law_behind : DF := pureF (fnR 3 b__law_behind)
theorem ok__law_behind (T : TX g) : FnD g "_law_behind" 2 1 d__law_behind := by
  exact FnD.pure (T.deff 17 35 (x := "_law_behind") (st := s__law_behind) (k := 0) (fb := b__law_behind) rfl rfl sc__law_behind (fun _ _ _ _ _ _ us hl => match us, hl with | [_, _], _ => rfl)
    (den_sone (den_ret (den_bt c_tup (by kernel_rfl) (T.free 6 rfl) (by kernel_rfl) (den_abcons (DenN.b (den_lc (own := [("_law_place", 2)]) (den_iseq (den_name (i := 0) (by kernel_rfl))) (by kernel_rfl) (by decide) (den_gname (i := 2) (by kernel_rfl)) den_tsnil (den_ix (DenE.b (den_name (i := 1) (by kernel_rfl))) (DenE.b (den_name (i := 2) (by kernel_rfl))) (fun _ _ => rfl)) (fun _ _ => rfl))) den_abnil (fun _ => rfl)) (fun _ => rfl) (fun _ => rfl)))))

abbrev s__law_le_product : Stmt := top 31
theorem sc__law_le_product : FnScope ["_law_size", "_law_row", "_law_found", "_law_move"] ["_law_size", "_law_row"] (defScope s__law_le_product) := ⟨by kernel_rfl, by kernel_rfl, by kernel_rfl, by decide +kernel, rfl, by decide +kernel, by decide +kernel⟩
def b__law_le_product : DS :=
    (seqS (setS 2 (tupRg (rg1 (nS 0))))
    (seqS (forR (seqR (nS 1)) (gN 3) (setS 2 (callR 2 d__law_behind (consR (nS 2) (consR (nS 3) aN)))))
    (rT (nS 2))))
def d__law_le_product : DF := pureF (fnR 4 b__law_le_product)
theorem ok__law_le_product (T : TX g) : FnD g "_law_le_product" 2 2 d__law_le_product := by
  exact FnD.pure (T.deff 18 36 (x := "_law_le_product") (st := s__law_le_product) (k := 1) (fb := b__law_le_product) rfl rfl sc__law_le_product (fun _ _ _ _ _ _ us hl => match us, hl with | [_, _], _ => rfl)
    (den_scons (den_set (i := 2) (by kernel_rfl) (den_tupRg (by kernel_rfl) (T.free 6 rfl) (den_rg1 (by kernel_rfl) (T.free 5 rfl) (DenE.b (den_name (i := 0) (by kernel_rfl))) (fun _ => rfl)) (fun _ => rfl)) (fun _ => rfl))
    (den_scons (den_for (den_iseq (den_name (i := 1) (by kernel_rfl))) (den_gname (i := 3) (by kernel_rfl)) (den_sone (den_set (i := 2) (by kernel_rfl) (den_call (n := 2) (ok__law_behind T) (show 1 ≤ 1 by decide) (by kernel_rfl) (den_acons (den_name (i := 2) (by kernel_rfl)) (den_acons (den_name (i := 3) (by kernel_rfl)) den_anil (fun _ => rfl)) (fun _ => rfl)) (fun _ => rfl) (fun _ => rfl)) (fun _ => rfl))) (fun _ _ => rfl))
    (den_sone (den_ret (den_name (i := 2) (by kernel_rfl)))))))

abbrev s__law_le_genus : Stmt := top 33
theorem sc__law_le_genus : FnScope ["_law_size", "_law_row", "_law_needs", "_law_move"] ["_law_size", "_law_row"] (defScope s__law_le_genus) := ⟨by kernel_rfl, by kernel_rfl, by kernel_rfl, by decide +kernel, rfl, by decide +kernel, by decide +kernel⟩
def b__law_le_genus : DS :=
    (seqS (iteS (cmpT iGt (biR maxsG (consR (callR 2 d__law_joined (consR (nS 0) (consR (nS 1) aN))) aN)) (kD (.int 0))) (rT (kD .non)) nilS)
    (seqS (setS 2 (biR sumsG (consR (lcR (seqR (nS 1)) [3] (gN 3) tY (callR 1 d__law_le_least (consR (nS 3) aN))) aN)))
    (rT (res2 iDiv (res2 iSub (res2 addD (res2 iSub (nS 2) (nS 0)) (kD (.int 2))) (biR lenG (consR (callR 1 d__law_kind (consR (callR 2 d__law_le_product (consR (nS 0) (consR (nS 1) aN))) aN)) aN))) (kD (.int 2))))))
def d__law_le_genus : DF := pureF (fnR 4 b__law_le_genus)
theorem ok__law_le_genus (T : TX g) : FnD g "_law_le_genus" 2 4 d__law_le_genus := by
  exact FnD.pure (T.deff 19 37 (x := "_law_le_genus") (st := s__law_le_genus) (k := 3) (fb := b__law_le_genus) rfl rfl sc__law_le_genus (fun _ _ _ _ _ _ us hl => match us, hl with | [_, _], _ => rfl)
    (den_scons (den_sif (den_tcmp o_gt (DenE.b (den_bi c_maxs (by kernel_rfl) (T.free 3 rfl) (by kernel_rfl) (den_abcons (DenE.b (den_call (n := 2) (ok__law_joined T) (show 1 ≤ 3 by decide) (by kernel_rfl) (den_acons (den_name (i := 0) (by kernel_rfl)) (den_acons (den_name (i := 1) (by kernel_rfl)) den_anil (fun _ => rfl)) (fun _ => rfl)) (fun _ => rfl) (fun _ => rfl))) den_abnil (fun _ => rfl)) (fun _ => rfl) (fun _ => rfl))) (DenE.b den_int) rfl) (den_sone (den_ret den_non)) den_snil)
    (den_scons (den_set (i := 2) (by kernel_rfl) (den_bi c_sums (by kernel_rfl) (T.free 16 rfl) (by kernel_rfl) (den_abcons (DenN.b (den_lc (own := [("_law_move", 3)]) (den_iseq (den_name (i := 1) (by kernel_rfl))) (by kernel_rfl) (by decide) (den_gname (i := 3) (by kernel_rfl)) den_tsnil (den_call (n := 1) (ok__law_le_least T) (show 3 ≤ 3 by decide) (by kernel_rfl) (den_acons (den_name (i := 3) (by kernel_rfl)) den_anil (fun _ => rfl)) (fun _ => rfl) (fun _ => rfl)) (fun _ _ => rfl))) den_abnil (fun _ => rfl)) (fun _ => rfl) (fun _ => rfl)) (fun _ => rfl))
    (den_sone (den_ret (den_bin o_div (DenE.b (den_bin o_sub (DenE.b (den_bin o_addD (DenE.b (den_bin o_sub (DenE.b (den_name (i := 2) (by kernel_rfl))) (DenE.b (den_name (i := 0) (by kernel_rfl))))) (DenE.b den_int))) (DenE.b (den_bi c_len (by kernel_rfl) (T.free 0 rfl) (by kernel_rfl) (den_abcons (DenE.b (den_call (n := 1) (ok__law_kind T) (show 2 ≤ 3 by decide) (by kernel_rfl) (den_acons (den_call (n := 2) (ok__law_le_product T) (show 2 ≤ 3 by decide) (by kernel_rfl) (den_acons (den_name (i := 0) (by kernel_rfl)) (den_acons (den_name (i := 1) (by kernel_rfl)) den_anil (fun _ => rfl)) (fun _ => rfl)) (fun _ => rfl) (fun _ => rfl)) den_anil (fun _ => rfl)) (fun _ => rfl) (fun _ => rfl))) den_abnil (fun _ => rfl)) (fun _ => rfl) (fun _ => rfl))))) (DenE.b den_int)))))))

abbrev s__law_roll : Stmt := top 23
theorem sc__law_roll : FnScope ["_law_dice_here", "_law_total", "_law_found", "_law_one", "_law_two"] ["_law_dice_here", "_law_total"] (defScope s__law_roll) := ⟨by kernel_rfl, by kernel_rfl, by kernel_rfl, by decide +kernel, rfl, by decide +kernel, by decide +kernel⟩
def b__law_roll : DS :=
    (seqS (iteS (cmpT iGt (refIxR (nS 0) (kD (.int 0))) (kD (.int 0))) (seqS (setS 2 (res2 iMod (biR intG (consR (refIxR (nS 0) (kD (.int 0))) aN)) (nS 1)))
    (seqS (rputS 0 (kD (.int 0)) (res2 iDiv (refIxR (nS 0) (kD (.int 0))) (nS 1)))
    (rT (nS 2)))) nilS)
    (seqS (rputS 0 (kD (.int 2)) (res2 addD (refIxR (nS 0) (kD (.int 2))) (kD (.int 1))))
    (seqS (setS 3 (res2 iMod (biR intG (consR (res2 addD (refIxR (nS 0) (kD (.int 1))) (res2 mulD (kD (.int 99990001)) (refIxR (nS 0) (kD (.int 2))))) aN)) (kD (.int 2305843009213693403))))
    (seqS (setS 4 (res2 addD (res2 mulD (res2 iMod (biR intG (consR (res2 addD (res2 mulD (nS 3) (nS 3)) (res2 mulD (kD (.int 83)) (refIxR (nS 0) (kD (.int 2))))) aN)) (kD (.int 2305843009213693373))) (kD (.int 8675327))) (nS 3)))
    (rT (res2 iMod (biR intG (consR (res2 iDiv (nS 4) (kD (.int 65539))) aN)) (nS 1)))))))
def d__law_roll : DF := fnR 5 b__law_roll
theorem ok__law_roll (T : TX g) : FnD g "_law_roll" 2 1 d__law_roll := by
  exact T.deff 20 38 (x := "_law_roll") (st := s__law_roll) (k := 0) (fb := b__law_roll) rfl rfl sc__law_roll (fun _ _ _ _ _ _ us hl => match us, hl with | [_, _], _ => rfl)
    (den_scons (den_sif (den_tcmp o_gt (DenE.b (den_refix (den_name (i := 0) (by kernel_rfl)) den_int (fun _ _ => rfl))) (DenE.b den_int) rfl) (den_scons (den_set (i := 2) (by kernel_rfl) (den_bin o_mod (DenE.b (den_bt c_int (by kernel_rfl) (T.free 1 rfl) (by kernel_rfl) (den_abcons (DenE.b (den_refix (den_name (i := 0) (by kernel_rfl)) den_int (fun _ _ => rfl))) den_abnil (fun _ => rfl)) (fun _ => rfl) (fun _ => rfl))) (DenE.b (den_name (i := 1) (by kernel_rfl)))) (fun _ => rfl))
    (den_scons (den_rput (i := 0) (by kernel_rfl) (DenE.b den_int) (den_bin o_div (DenE.b (den_refix (den_name (i := 0) (by kernel_rfl)) den_int (fun _ _ => rfl))) (DenE.b (den_name (i := 1) (by kernel_rfl)))) (fun _ _ => rfl) (by exact fun _ _ => rfl) (fun _ => rfl) (fun _ => rfl) (fun _ => rfl))
    (den_sone (den_ret (den_name (i := 2) (by kernel_rfl)))))) den_snil)
    (den_scons (den_rput (i := 0) (by kernel_rfl) (DenE.b den_int) (den_bin o_addD (DenE.b (den_refix (den_name (i := 0) (by kernel_rfl)) den_int (fun _ _ => rfl))) (DenE.b den_int)) (fun _ _ => rfl) (by exact fun _ _ => rfl) (fun _ => rfl) (fun _ => rfl) (fun _ => rfl))
    (den_scons (den_set (i := 3) (by kernel_rfl) (den_bin o_mod (DenE.b (den_bt c_int (by kernel_rfl) (T.free 1 rfl) (by kernel_rfl) (den_abcons (DenE.b (den_bin o_addD (DenE.b (den_refix (den_name (i := 0) (by kernel_rfl)) den_int (fun _ _ => rfl))) (DenE.b (den_bin o_mulD (DenE.b den_int) (DenE.b (den_refix (den_name (i := 0) (by kernel_rfl)) den_int (fun _ _ => rfl))))))) den_abnil (fun _ => rfl)) (fun _ => rfl) (fun _ => rfl))) (DenE.b den_int)) (fun _ => rfl))
    (den_scons (den_set (i := 4) (by kernel_rfl) (den_bin o_addD (DenE.b (den_bin o_mulD (DenE.b (den_bin o_mod (DenE.b (den_bt c_int (by kernel_rfl) (T.free 1 rfl) (by kernel_rfl) (den_abcons (DenE.b (den_bin o_addD (DenE.b (den_bin o_mulD (DenE.b (den_name (i := 3) (by kernel_rfl))) (DenE.b (den_name (i := 3) (by kernel_rfl))))) (DenE.b (den_bin o_mulD (DenE.b den_int) (DenE.b (den_refix (den_name (i := 0) (by kernel_rfl)) den_int (fun _ _ => rfl))))))) den_abnil (fun _ => rfl)) (fun _ => rfl) (fun _ => rfl))) (DenE.b den_int))) (DenE.b den_int))) (DenE.b (den_name (i := 3) (by kernel_rfl)))) (fun _ => rfl))
    (den_sone (den_ret (den_bin o_mod (DenE.b (den_bt c_int (by kernel_rfl) (T.free 1 rfl) (by kernel_rfl) (den_abcons (DenE.b (den_bin o_div (DenE.b (den_name (i := 4) (by kernel_rfl))) (DenE.b den_int))) den_abnil (fun _ => rfl)) (fun _ => rfl) (fun _ => rfl))) (DenE.b (den_name (i := 1) (by kernel_rfl))))))))))

abbrev s__law_shuffled : Stmt := top 24
theorem sc__law_shuffled : FnScope ["_law_dice_here", "_law_items", "_law_left", "_law_found", "_law_turn"] ["_law_dice_here", "_law_items"] (defScope s__law_shuffled) := ⟨by kernel_rfl, by kernel_rfl, by kernel_rfl, by decide +kernel, rfl, by decide +kernel, by decide +kernel⟩
def b__law_shuffled : DS :=
    (seqS (par2 2 3 (ownM (biR listG (consR (nS 1) aN)) (ownM (lstR aN) mN)))
    (seqS (forR (rngR1 (biR lenG (consR (nS 1) aN))) (gN 4) (appPopS 3 2 (callR 2 d__law_roll (consR (nS 0) (consR (biR lenG (consR (nB 2) aN)) aN)))))
    (frS 3 (rT (nS 3)))))
def d__law_shuffled : DF := fnR 5 b__law_shuffled
theorem ok__law_shuffled (T : TX g) : FnD g "_law_shuffled" 2 2 d__law_shuffled := by
  exact T.deff 21 39 (x := "_law_shuffled") (st := s__law_shuffled) (k := 1) (fb := b__law_shuffled) rfl rfl sc__law_shuffled (fun _ _ _ _ _ _ us hl => match us, hl with | [_, _], _ => rfl)
    (den_scons (den_par2 (i := 2) (j := 3) (by kernel_rfl) (by kernel_rfl) (by decide) (by kernel_rfl) (by kernel_rfl) (den_mown (den_btN cn_list (by kernel_rfl) (T.free 8 rfl) (by kernel_rfl) (den_abcons (DenE.b (den_name (i := 1) (by kernel_rfl))) den_abnil (fun _ => rfl)) (fun _ => rfl) (fun _ => rfl)) (den_mown (den_lst den_anil) den_mnil (fun _ => rfl)) (fun _ => rfl)) (hw_of fun _ => by kernel_rfl) (fun _ => rfl))
    (den_scons (den_for (den_irng1 (by kernel_rfl) (T.free 5 rfl) (DenE.b (den_bi c_len (by kernel_rfl) (T.free 0 rfl) (by kernel_rfl) (den_abcons (DenE.b (den_name (i := 1) (by kernel_rfl))) den_abnil (fun _ => rfl)) (fun _ => rfl) (fun _ => rfl))) (fun _ => rfl)) (den_gname (i := 4) (by kernel_rfl)) (den_sone (den_appPop (i := 3) (j := 2) (by kernel_rfl) (by kernel_rfl) (DenE.b (den_call (n := 2) (ok__law_roll T) (show 1 ≤ 1 by decide) (by kernel_rfl) (den_acons (den_name (i := 0) (by kernel_rfl)) (den_acons (den_bi c_len (by kernel_rfl) (T.free 0 rfl) (by kernel_rfl) (den_abcons (den_bname (i := 2) (by kernel_rfl)) den_abnil (fun _ => rfl)) (fun _ => rfl) (fun _ => rfl)) den_anil (fun _ => rfl)) (fun _ => rfl)) (fun _ => rfl) (fun _ => rfl))) rfl rfl (fun _ => rfl) (fun _ => rfl))) (fun _ _ => rfl))
    (den_sone (den_frz 3 (den_ret (den_name (i := 3) (by kernel_rfl)))))))

abbrev s__law_move_drawn : Stmt := top 29
theorem sc__law_move_drawn : FnScope ["_law_dice_here", "_law_size"] ["_law_dice_here", "_law_size"] (defScope s__law_move_drawn) := ⟨by kernel_rfl, by kernel_rfl, by kernel_rfl, by decide +kernel, rfl, by decide +kernel, by decide +kernel⟩
def b__law_move_drawn : DS :=
    (rT (biR tupG (consR (callR 2 d__law_shuffled (consR (nS 0) (consR (lstRg (rg1 (nS 1))) aN))) aN)))
def d__law_move_drawn : DF := fnR 2 b__law_move_drawn
theorem ok__law_move_drawn (T : TX g) : FnD g "_law_move_drawn" 2 3 d__law_move_drawn := by
  exact T.deff 22 40 (x := "_law_move_drawn") (st := s__law_move_drawn) (k := 2) (fb := b__law_move_drawn) rfl rfl sc__law_move_drawn (fun _ _ _ _ _ _ us hl => match us, hl with | [_, _], _ => rfl)
    (den_sone (den_ret (den_bt c_tup (by kernel_rfl) (T.free 6 rfl) (by kernel_rfl) (den_abcons (DenE.b (den_call (n := 2) (ok__law_shuffled T) (show 2 ≤ 2 by decide) (by kernel_rfl) (den_acons (den_name (i := 0) (by kernel_rfl)) (den_acons (DenN.toE (den_lstRg (by kernel_rfl) (T.free 8 rfl) (den_rg1 (by kernel_rfl) (T.free 5 rfl) (DenE.b (den_name (i := 1) (by kernel_rfl))) (fun _ => rfl)) (fun _ => rfl))) den_anil (fun _ => rfl)) (fun _ => rfl)) (fun _ => rfl) (fun _ => rfl))) den_abnil (fun _ => rfl)) (fun _ => rfl) (fun _ => rfl))))

abbrev s__law_undone : Stmt := top 27
theorem sc__law_undone : FnScope ["_law_move", "_law_place"] ["_law_move"] (defScope s__law_undone) := ⟨by kernel_rfl, by kernel_rfl, by kernel_rfl, by decide +kernel, rfl, by decide +kernel, by decide +kernel⟩
def b__law_undone : DS :=
    (rT (biR tupG (consR (lcR (rngR1 (biR lenG (consR (nS 0) aN))) [1] (gN 1) tY (indexR (nS 0) (nS 1))) aN)))
def d__law_undone : DF := pureF (fnR 2 b__law_undone)
theorem ok__law_undone (T : TX g) : FnD g "_law_undone" 1 1 d__law_undone := by
  exact FnD.pure (T.deff 23 41 (x := "_law_undone") (st := s__law_undone) (k := 0) (fb := b__law_undone) rfl rfl sc__law_undone (fun _ _ _ _ _ _ us hl => match us, hl with | [_], _ => rfl)
    (den_sone (den_ret (den_bt c_tup (by kernel_rfl) (T.free 6 rfl) (by kernel_rfl) (den_abcons (DenN.b (den_lc (own := [("_law_place", 1)]) (den_irng1 (by kernel_rfl) (T.free 5 rfl) (DenE.b (den_bi c_len (by kernel_rfl) (T.free 0 rfl) (by kernel_rfl) (den_abcons (DenE.b (den_name (i := 0) (by kernel_rfl))) den_abnil (fun _ => rfl)) (fun _ => rfl) (fun _ => rfl))) (fun _ => rfl)) (by kernel_rfl) (by decide) (den_gname (i := 1) (by kernel_rfl)) den_tsnil (den_tindex (den_name (i := 0) (by kernel_rfl)) (den_name (i := 1) (by kernel_rfl)) (fun _ => rfl) rfl (fun _ => rfl)) (fun _ _ => rfl))) den_abnil (fun _ => rfl)) (fun _ => rfl) (fun _ => rfl)))))

abbrev s__law_le_carried : Stmt := top 34
theorem sc__law_le_carried : FnScope ["_law_move", "_law_by", "_law_found", "_law_place", "_law_goal"] ["_law_move", "_law_by"] (defScope s__law_le_carried) := ⟨by kernel_rfl, by kernel_rfl, by kernel_rfl, by decide +kernel, rfl, by decide +kernel, by decide +kernel⟩
def b__law_le_carried : DS :=
    (seqS (setN 2 (res2 repL (lstR (consR (kD (.int 0)) aN)) (biR lenG (consR (nS 0) aN))))
    (seqS (forR (enumR (nS 0)) (gT (gConsT (gN 3) (gConsT (gN 4) gNilT))) (putS 2 (res2 atD (nS 1) (nS 3)) (res2 atD (nS 1) (nS 4))))
    (rT (biR tupG (consR (nB 2) aN)))))
def d__law_le_carried : DF := pureF (fnR 5 b__law_le_carried)
theorem ok__law_le_carried (T : TX g) : FnD g "_law_le_carried" 2 1 d__law_le_carried := by
  exact FnD.pure (T.deff 24 42 (x := "_law_le_carried") (st := s__law_le_carried) (k := 0) (fb := b__law_le_carried) rfl rfl sc__law_le_carried (fun _ _ _ _ _ _ us hl => match us, hl with | [_, _], _ => rfl)
    (den_scons (den_setN (i := 2) (by kernel_rfl) (den_repN (DenN.b (den_lst (den_acons den_int den_anil (fun _ => rfl)))) (DenE.b (den_bi c_len (by kernel_rfl) (T.free 0 rfl) (by kernel_rfl) (den_abcons (DenE.b (den_name (i := 0) (by kernel_rfl))) den_abnil (fun _ => rfl)) (fun _ => rfl) (fun _ => rfl)))) (fun _ => rfl))
    (den_scons (den_for (den_ienum (by kernel_rfl) (T.free 30 rfl) (den_name (i := 0) (by kernel_rfl)) (fun _ => rfl)) (den_gtup (den_gcons (den_gname (i := 3) (by kernel_rfl)) (den_gcons (den_gname (i := 4) (by kernel_rfl)) den_gnil (fun _ => rfl)) (fun _ => rfl)) (fun _ => rfl) (fun _ => rfl) (gcons_len (gcons_len gnil_len))) (den_sone (den_put (i := 2) (by kernel_rfl) (DenE.b (den_ix (DenE.b (den_name (i := 1) (by kernel_rfl))) (DenE.b (den_name (i := 3) (by kernel_rfl))) (fun _ _ => rfl))) (den_ix (DenE.b (den_name (i := 1) (by kernel_rfl))) (DenE.b (den_name (i := 4) (by kernel_rfl))) (fun _ _ => rfl)) (fun _ _ => rfl) (by exact fun _ _ => rfl) (fun _ => rfl) (fun _ => rfl) (fun _ => rfl))) (fun _ _ => rfl))
    (den_sone (den_ret (den_bt c_tup (by kernel_rfl) (T.free 6 rfl) (by kernel_rfl) (den_abcons (den_bname (i := 2) (by kernel_rfl)) den_abnil (fun _ => rfl)) (fun _ => rfl) (fun _ => rfl)))))))

abbrev s__law_parity_right : Stmt := top 35
theorem sc__law_parity_right : FnScope ["_law_size", "_law_row", "_law_needs", "_law_rest", "_law_move"] ["_law_size", "_law_row"] (defScope s__law_parity_right) := ⟨by kernel_rfl, by kernel_rfl, by kernel_rfl, by decide +kernel, rfl, by decide +kernel, by decide +kernel⟩
def b__law_parity_right : DS :=
    (seqS (setS 2 (biR sumsG (consR (lcR (seqR (nS 1)) [4] (gN 4) tY (callR 1 d__law_le_least (consR (nS 4) aN))) aN)))
    (seqS (setS 3 (res2 iSub (res2 addD (res2 iSub (nS 2) (nS 0)) (kD (.int 2))) (biR lenG (consR (callR 1 d__law_kind (consR (callR 2 d__law_le_product (consR (nS 0) (consR (nS 1) aN))) aN)) aN))))
    (rT (bAndR (res2 iGe (nS 3) (kD (.int 0))) (res2 eqD (res2 iMod (nS 3) (kD (.int 2))) (kD (.int 0)))))))
def d__law_parity_right : DF := pureF (fnR 5 b__law_parity_right)
theorem ok__law_parity_right (T : TX g) : FnD g "_law_parity_right" 2 4 d__law_parity_right := by
  exact FnD.pure (T.deff 25 43 (x := "_law_parity_right") (st := s__law_parity_right) (k := 3) (fb := b__law_parity_right) rfl rfl sc__law_parity_right (fun _ _ _ _ _ _ us hl => match us, hl with | [_, _], _ => rfl)
    (den_scons (den_set (i := 2) (by kernel_rfl) (den_bi c_sums (by kernel_rfl) (T.free 16 rfl) (by kernel_rfl) (den_abcons (DenN.b (den_lc (own := [("_law_move", 4)]) (den_iseq (den_name (i := 1) (by kernel_rfl))) (by kernel_rfl) (by decide) (den_gname (i := 4) (by kernel_rfl)) den_tsnil (den_call (n := 1) (ok__law_le_least T) (show 3 ≤ 3 by decide) (by kernel_rfl) (den_acons (den_name (i := 4) (by kernel_rfl)) den_anil (fun _ => rfl)) (fun _ => rfl) (fun _ => rfl)) (fun _ _ => rfl))) den_abnil (fun _ => rfl)) (fun _ => rfl) (fun _ => rfl)) (fun _ => rfl))
    (den_scons (den_set (i := 3) (by kernel_rfl) (den_bin o_sub (DenE.b (den_bin o_addD (DenE.b (den_bin o_sub (DenE.b (den_name (i := 2) (by kernel_rfl))) (DenE.b (den_name (i := 0) (by kernel_rfl))))) (DenE.b den_int))) (DenE.b (den_bi c_len (by kernel_rfl) (T.free 0 rfl) (by kernel_rfl) (den_abcons (DenE.b (den_call (n := 1) (ok__law_kind T) (show 2 ≤ 3 by decide) (by kernel_rfl) (den_acons (den_call (n := 2) (ok__law_le_product T) (show 2 ≤ 3 by decide) (by kernel_rfl) (den_acons (den_name (i := 0) (by kernel_rfl)) (den_acons (den_name (i := 1) (by kernel_rfl)) den_anil (fun _ => rfl)) (fun _ => rfl)) (fun _ => rfl) (fun _ => rfl)) den_anil (fun _ => rfl)) (fun _ => rfl) (fun _ => rfl))) den_abnil (fun _ => rfl)) (fun _ => rfl) (fun _ => rfl)))) (fun _ => rfl))
    (den_sone (den_ret (den_band (den_cmp o_ge (DenE.b (den_name (i := 3) (by kernel_rfl))) (DenE.b den_int) rfl) (den_band1 (den_cmp o_eq (DenE.b (den_bin o_mod (DenE.b (den_name (i := 3) (by kernel_rfl))) (DenE.b den_int))) (DenE.b den_int) rfl))))))))

abbrev s__law_right : Stmt := top 36
theorem sc__law_right : FnScope ["_law_dice_here", "_law_size", "_law_row", "_law_due", "_law_by", "_law_back", "_law_turned", "_law_turn", "_law_move"] ["_law_dice_here"] (defScope s__law_right) := ⟨by kernel_rfl, by kernel_rfl, by kernel_rfl, by decide +kernel, rfl, by decide +kernel, by decide +kernel⟩
def t__law_right_0 : DS :=
    (setS 1 (res2 addD (kD (.int 1)) (callR 2 d__law_roll (consR (nS 0) (consR (kD (.int 6)) aN)))))
def t__law_right_1 : DS :=
    (setS 2 (biR tupG (consR (lcR (rngR1 (res2 addD (kD (.int 1)) (callR 2 d__law_roll (consR (nS 0) (consR (kD (.int 5)) aN))))) [7] (gN 7) tY (callR 2 d__law_move_drawn (consR (nS 0) (consR (nS 1) aN)))) aN)))
def t__law_right_2 : DS :=
    (iteS (cmpT eqD (callR 2 d__law_roll (consR (nS 0) (consR (kD (.int 2)) aN))) (kD (.int 0))) (setS 2 (res2 addD (nS 2) (tupR (consR (callR 1 d__law_undone (consR (res2 atD (nS 2) (kD (.int 0))) aN)) aN)))) nilS)
def t__law_right_3 : DS :=
    (setS 3 (callR 2 d__law_le_genus (consR (nS 1) (consR (nS 2) aN))))
def t__law_right_4 : DS :=
    (iteS (tOrR (cmpT neD (callR 1 d_genus_of_row (consR (nS 2) aN)) (nS 3)) (tAndR (cmpT notNonD (nS 3) (kD .non)) (tNotR (truR (callR 2 d__law_parity_right (consR (nS 1) (consR (nS 2) aN))))))) (rT (kD (.bl false))) nilS)
def t__law_right_5 : DS :=
    (setS 4 (callR 2 d__law_move_drawn (consR (nS 0) (consR (nS 1) aN))))
def t__law_right_6 : DS :=
    (iteS (cmpT neD (callR 1 d_genus_of_row (consR (biR tupG (consR (lcR (seqR (nS 2)) [8] (gN 8) tY (callR 2 d__law_le_carried (consR (nS 8) (consR (nS 4) aN)))) aN)) aN)) (nS 3)) (rT (kD (.bl false))) nilS)
def t__law_right_7 : DS :=
    (setS 5 (callR 1 d__law_undone (consR (callR 2 d__law_le_product (consR (nS 1) (consR (nS 2) aN))) aN)))
def t__law_right_8 : DS :=
    (setS 6 (res2 addD (tupR (consR (callR 2 d__law_le_carried (consR (res2 atD (nS 2) (res1 negD (kD (.int 1)))) (consR (nS 5) aN))) aN)) (sliceR (nS 2) oN (oS (res1 negD (kD (.int 1)))))))
def t__law_right_9 : DS :=
    (rT (bAndR (res2 eqD (callR 2 d__law_le_product (consR (nS 1) (consR (nS 6) aN))) (callR 2 d__law_le_product (consR (nS 1) (consR (nS 2) aN)))) (res2 eqD (callR 1 d_genus_of_row (consR (nS 6) aN)) (nS 3))))
def b__law_right : DS :=
    (seqS t__law_right_0
    (seqS t__law_right_1
    (seqS t__law_right_2
    (seqS t__law_right_3
    (seqS t__law_right_4
    (seqS t__law_right_5
    (seqS t__law_right_6
    (seqS t__law_right_7
    (seqS t__law_right_8
    t__law_right_9)))))))))
def d__law_right : DF := fnR 9 b__law_right
theorem ok__law_right (T : TX g) : FnD g "_law_right" 1 6 d__law_right := by
  exact T.deff 26 44 (x := "_law_right") (st := s__law_right) (k := 5) (fb := b__law_right) rfl rfl sc__law_right (fun _ _ _ _ _ _ us hl => match us, hl with | [_], _ => rfl)
    (den_scons (den_set (i := 1) (by kernel_rfl) (den_bin o_addD (DenE.b den_int) (DenE.b (den_call (n := 2) (ok__law_roll T) (show 1 ≤ 5 by decide) (by kernel_rfl) (den_acons (den_name (i := 0) (by kernel_rfl)) (den_acons den_int den_anil (fun _ => rfl)) (fun _ => rfl)) (fun _ => rfl) (fun _ => rfl)))) (fun _ => rfl))
    (den_scons (den_set (i := 2) (by kernel_rfl) (den_bt c_tup (by kernel_rfl) (T.free 6 rfl) (by kernel_rfl) (den_abcons (DenN.b (den_lc (own := [("_law_turn", 7)]) (den_irng1 (by kernel_rfl) (T.free 5 rfl) (DenE.b (den_bin o_addD (DenE.b den_int) (DenE.b (den_call (n := 2) (ok__law_roll T) (show 1 ≤ 5 by decide) (by kernel_rfl) (den_acons (den_name (i := 0) (by kernel_rfl)) (den_acons den_int den_anil (fun _ => rfl)) (fun _ => rfl)) (fun _ => rfl) (fun _ => rfl))))) (fun _ => rfl)) (by kernel_rfl) (by decide) (den_gname (i := 7) (by kernel_rfl)) den_tsnil (den_call (n := 2) (ok__law_move_drawn T) (show 3 ≤ 5 by decide) (by kernel_rfl) (den_acons (den_name (i := 0) (by kernel_rfl)) (den_acons (den_name (i := 1) (by kernel_rfl)) den_anil (fun _ => rfl)) (fun _ => rfl)) (fun _ => rfl) (fun _ => rfl)) (fun _ _ => rfl))) den_abnil (fun _ => rfl)) (fun _ => rfl) (fun _ => rfl)) (fun _ => rfl))
    (den_scons (den_sif (den_tcmp o_eq (DenE.b (den_call (n := 2) (ok__law_roll T) (show 1 ≤ 5 by decide) (by kernel_rfl) (den_acons (den_name (i := 0) (by kernel_rfl)) (den_acons den_int den_anil (fun _ => rfl)) (fun _ => rfl)) (fun _ => rfl) (fun _ => rfl))) (DenE.b den_int) rfl) (den_sone (den_set (i := 2) (by kernel_rfl) (den_bin o_addD (DenE.b (den_name (i := 2) (by kernel_rfl))) (DenE.b (den_tup (den_acons (den_call (n := 1) (ok__law_undone T) (show 1 ≤ 5 by decide) (by kernel_rfl) (den_acons (den_ix (DenE.b (den_name (i := 2) (by kernel_rfl))) (DenE.b den_int) (fun _ _ => rfl)) den_anil (fun _ => rfl)) (fun _ => rfl) (fun _ => rfl)) den_anil (fun _ => rfl))))) (fun _ => rfl))) den_snil)
    (den_scons (den_set (i := 3) (by kernel_rfl) (den_call (n := 2) (ok__law_le_genus T) (show 4 ≤ 5 by decide) (by kernel_rfl) (den_acons (den_name (i := 1) (by kernel_rfl)) (den_acons (den_name (i := 2) (by kernel_rfl)) den_anil (fun _ => rfl)) (fun _ => rfl)) (fun _ => rfl) (fun _ => rfl)) (fun _ => rfl))
    (den_scons (den_sif (den_tw (den_wor (den_tcmp o_ne (DenE.b (den_call (n := 1) (ok_genus_of_row T) (show 5 ≤ 5 by decide) (by kernel_rfl) (den_acons (den_name (i := 2) (by kernel_rfl)) den_anil (fun _ => rfl)) (fun _ => rfl) (fun _ => rfl))) (DenE.b (den_name (i := 3) (by kernel_rfl))) rfl) (den_wor1 (den_tw (den_wand (den_tcmp o_notNon (DenE.b (den_name (i := 3) (by kernel_rfl))) (DenE.b den_non) rfl) (den_wand1 (den_tnot (den_tru (DenE.b (den_call (n := 2) (ok__law_parity_right T) (show 4 ≤ 5 by decide) (by kernel_rfl) (den_acons (den_name (i := 1) (by kernel_rfl)) (den_acons (den_name (i := 2) (by kernel_rfl)) den_anil (fun _ => rfl)) (fun _ => rfl)) (fun _ => rfl) (fun _ => rfl))) (fun _ _ => rfl))))))))) (den_sone (den_ret den_bl)) den_snil)
    (den_scons (den_set (i := 4) (by kernel_rfl) (den_call (n := 2) (ok__law_move_drawn T) (show 3 ≤ 5 by decide) (by kernel_rfl) (den_acons (den_name (i := 0) (by kernel_rfl)) (den_acons (den_name (i := 1) (by kernel_rfl)) den_anil (fun _ => rfl)) (fun _ => rfl)) (fun _ => rfl) (fun _ => rfl)) (fun _ => rfl))
    (den_scons (den_sif (den_tcmp o_ne (DenE.b (den_call (n := 1) (ok_genus_of_row T) (show 5 ≤ 5 by decide) (by kernel_rfl) (den_acons (den_bt c_tup (by kernel_rfl) (T.free 6 rfl) (by kernel_rfl) (den_abcons (DenN.b (den_lc (own := [("_law_move", 8)]) (den_iseq (den_name (i := 2) (by kernel_rfl))) (by kernel_rfl) (by decide) (den_gname (i := 8) (by kernel_rfl)) den_tsnil (den_call (n := 2) (ok__law_le_carried T) (show 1 ≤ 5 by decide) (by kernel_rfl) (den_acons (den_name (i := 8) (by kernel_rfl)) (den_acons (den_name (i := 4) (by kernel_rfl)) den_anil (fun _ => rfl)) (fun _ => rfl)) (fun _ => rfl) (fun _ => rfl)) (fun _ _ => rfl))) den_abnil (fun _ => rfl)) (fun _ => rfl) (fun _ => rfl)) den_anil (fun _ => rfl)) (fun _ => rfl) (fun _ => rfl))) (DenE.b (den_name (i := 3) (by kernel_rfl))) rfl) (den_sone (den_ret den_bl)) den_snil)
    (den_scons (den_set (i := 5) (by kernel_rfl) (den_call (n := 1) (ok__law_undone T) (show 1 ≤ 5 by decide) (by kernel_rfl) (den_acons (den_call (n := 2) (ok__law_le_product T) (show 2 ≤ 5 by decide) (by kernel_rfl) (den_acons (den_name (i := 1) (by kernel_rfl)) (den_acons (den_name (i := 2) (by kernel_rfl)) den_anil (fun _ => rfl)) (fun _ => rfl)) (fun _ => rfl) (fun _ => rfl)) den_anil (fun _ => rfl)) (fun _ => rfl) (fun _ => rfl)) (fun _ => rfl))
    (den_scons (den_set (i := 6) (by kernel_rfl) (den_bin o_addD (DenE.b (den_tup (den_acons (den_call (n := 2) (ok__law_le_carried T) (show 1 ≤ 5 by decide) (by kernel_rfl) (den_acons (den_ix (DenE.b (den_name (i := 2) (by kernel_rfl))) (DenE.b (den_neg (DenE.b den_int))) (fun _ _ => rfl)) (den_acons (den_name (i := 5) (by kernel_rfl)) den_anil (fun _ => rfl)) (fun _ => rfl)) (fun _ => rfl) (fun _ => rfl)) den_anil (fun _ => rfl)))) (DenE.b (den_slT (DenE.b (den_name (i := 2) (by kernel_rfl))) den_pnone (den_psm (DenE.b (den_neg (DenE.b den_int))))))) (fun _ => rfl))
    (den_sone (den_ret (den_band (den_cmp o_eq (DenE.b (den_call (n := 2) (ok__law_le_product T) (show 2 ≤ 5 by decide) (by kernel_rfl) (den_acons (den_name (i := 1) (by kernel_rfl)) (den_acons (den_name (i := 6) (by kernel_rfl)) den_anil (fun _ => rfl)) (fun _ => rfl)) (fun _ => rfl) (fun _ => rfl))) (DenE.b (den_call (n := 2) (ok__law_le_product T) (show 2 ≤ 5 by decide) (by kernel_rfl) (den_acons (den_name (i := 1) (by kernel_rfl)) (den_acons (den_name (i := 2) (by kernel_rfl)) den_anil (fun _ => rfl)) (fun _ => rfl)) (fun _ => rfl) (fun _ => rfl))) rfl) (den_band1 (den_cmp o_eq (DenE.b (den_call (n := 1) (ok_genus_of_row T) (show 5 ≤ 5 by decide) (by kernel_rfl) (den_acons (den_name (i := 6) (by kernel_rfl)) den_anil (fun _ => rfl)) (fun _ => rfl) (fun _ => rfl))) (DenE.b (den_name (i := 3) (by kernel_rfl))) rfl))))))))))))))

abbrev s_law : Stmt := top 37
theorem sc_law : FnScope ["_law_script", "_law_spot", "_law_dice_here", "_law_turn", "_law_told"] ["_law_script"] (defScope s_law) := ⟨by kernel_rfl, by kernel_rfl, by kernel_rfl, by decide +kernel, rfl, by decide +kernel, by decide +kernel⟩
def t_law_0 : DS :=
    (forR (rngR1 (biR maxsG (consR (kD (.int 1)) (consR (biR minsG (consR (kD (.int 3)) (consR (biR lenG (consR (nS 0) aN)) aN))) aN)))) (gN 1) (seqS (setS 2 (callR 2 d__law_dice (consR (nS 0) (consR (nS 1) aN))))
    (forR (rngR1 (kD (.int 4))) (gN 3) (iteS (tNotR (truR (callR 1 d__law_right (consR (nS 2) aN)))) (rT (kD (.bl false))) nilS))))
def t_law_1 : DS :=
    (setS 4 (lstR (consR (callR 1 d_genus_of_row (consR (tupR (consR (tupR (consR (kD (.int 1)) (consR (kD (.int 2)) (consR (kD (.int 0)) aN)))) (consR (tupR (consR (kD (.int 1)) (consR (kD (.int 2)) (consR (kD (.int 0)) aN)))) aN))) aN)) (consR (callR 1 d_genus_of_row (consR (tupR (consR (tupR (consR (kD (.int 1)) (consR (kD (.int 2)) (consR (kD (.int 0)) aN)))) (consR (tupR (consR (kD (.int 1)) (consR (kD (.int 2)) (consR (kD (.int 0)) aN)))) (consR (tupR (consR (kD (.int 1)) (consR (kD (.int 2)) (consR (kD (.int 0)) aN)))) aN)))) aN)) aN))))
def t_law_2 : DS :=
    (rT (bAndR (res2 eqD (nS 4) (lstR (consR (kD (.int 1)) (consR (kD (.int 1)) aN)))) (bAndR (res2 isNonD (callR 1 d_genus_of_row (consR (tupR (consR (tupR (consR (kD (.int 1)) (consR (kD (.int 0)) (consR (kD (.int 2)) aN)))) aN)) aN)) (kD .non)) (res2 eqD (callR 1 d_genus_of_row (consR (tupR (consR (tupR (consR (kD (.int 0)) aN)) (consR (tupR (consR (kD (.int 0)) aN)) aN))) aN)) (kD (.int 0))))))
def b_law : DS :=
    (seqS t_law_0
    (seqS t_law_1
    t_law_2))
def d_law : DF := fnR 5 b_law
theorem body_law (T : TX g) : DenSs ⟨g, 6, ["_law_script", "_law_spot", "_law_dice_here", "_law_turn", "_law_told"], defScope s_law, fun _ => true⟩ (defBody s_law) b_law := by
  exact (den_scons (den_for (den_irng1 (by kernel_rfl) (T.free 5 rfl) (DenE.b (den_bi c_maxs (by kernel_rfl) (T.free 3 rfl) (by kernel_rfl) (den_abcons (DenE.b den_int) (den_abcons (DenE.b (den_bi c_mins (by kernel_rfl) (T.free 9 rfl) (by kernel_rfl) (den_abcons (DenE.b den_int) (den_abcons (DenE.b (den_bi c_len (by kernel_rfl) (T.free 0 rfl) (by kernel_rfl) (den_abcons (DenE.b (den_name (i := 0) (by kernel_rfl))) den_abnil (fun _ => rfl)) (fun _ => rfl) (fun _ => rfl))) den_abnil (fun _ => rfl)) (fun _ => rfl)) (fun _ => rfl) (fun _ => rfl))) den_abnil (fun _ => rfl)) (fun _ => rfl)) (fun _ => rfl) (fun _ => rfl))) (fun _ => rfl)) (den_gname (i := 1) (by kernel_rfl)) (den_scons (den_set (i := 2) (by kernel_rfl) (den_call (n := 2) (ok__law_dice T) (show 1 ≤ 6 by decide) (by kernel_rfl) (den_acons (den_name (i := 0) (by kernel_rfl)) (den_acons (den_name (i := 1) (by kernel_rfl)) den_anil (fun _ => rfl)) (fun _ => rfl)) (fun _ => rfl) (fun _ => rfl)) (fun _ => rfl))
    (den_sone (den_for (den_irng1 (by kernel_rfl) (T.free 5 rfl) (DenE.b den_int) (fun _ => rfl)) (den_gname (i := 3) (by kernel_rfl)) (den_sone (den_sif (den_tnot (den_tru (DenE.b (den_call (n := 1) (ok__law_right T) (show 6 ≤ 6 by decide) (by kernel_rfl) (den_acons (den_name (i := 2) (by kernel_rfl)) den_anil (fun _ => rfl)) (fun _ => rfl) (fun _ => rfl))) (fun _ _ => rfl))) (den_sone (den_ret den_bl)) den_snil)) (fun _ _ => rfl)))) (fun _ _ => rfl))
    (den_scons (den_set (i := 4) (by kernel_rfl) (DenN.toE (den_lst (den_acons (den_call (n := 1) (ok_genus_of_row T) (show 5 ≤ 6 by decide) (by kernel_rfl) (den_acons (den_tup (den_acons (den_tup (den_acons den_int (den_acons den_int (den_acons den_int den_anil (fun _ => rfl)) (fun _ => rfl)) (fun _ => rfl))) (den_acons (den_tup (den_acons den_int (den_acons den_int (den_acons den_int den_anil (fun _ => rfl)) (fun _ => rfl)) (fun _ => rfl))) den_anil (fun _ => rfl)) (fun _ => rfl))) den_anil (fun _ => rfl)) (fun _ => rfl) (fun _ => rfl)) (den_acons (den_call (n := 1) (ok_genus_of_row T) (show 5 ≤ 6 by decide) (by kernel_rfl) (den_acons (den_tup (den_acons (den_tup (den_acons den_int (den_acons den_int (den_acons den_int den_anil (fun _ => rfl)) (fun _ => rfl)) (fun _ => rfl))) (den_acons (den_tup (den_acons den_int (den_acons den_int (den_acons den_int den_anil (fun _ => rfl)) (fun _ => rfl)) (fun _ => rfl))) (den_acons (den_tup (den_acons den_int (den_acons den_int (den_acons den_int den_anil (fun _ => rfl)) (fun _ => rfl)) (fun _ => rfl))) den_anil (fun _ => rfl)) (fun _ => rfl)) (fun _ => rfl))) den_anil (fun _ => rfl)) (fun _ => rfl) (fun _ => rfl)) den_anil (fun _ => rfl)) (fun _ => rfl)))) (fun _ => rfl))
    (den_sone (den_ret (den_band (den_cmp o_eq (DenE.b (den_name (i := 4) (by kernel_rfl))) (DenN.b (den_lst (den_acons den_int (den_acons den_int den_anil (fun _ => rfl)) (fun _ => rfl)))) rfl) (den_band (den_cmp o_isNon (DenE.b (den_call (n := 1) (ok_genus_of_row T) (show 5 ≤ 6 by decide) (by kernel_rfl) (den_acons (den_tup (den_acons (den_tup (den_acons den_int (den_acons den_int (den_acons den_int den_anil (fun _ => rfl)) (fun _ => rfl)) (fun _ => rfl))) den_anil (fun _ => rfl))) den_anil (fun _ => rfl)) (fun _ => rfl) (fun _ => rfl))) (DenE.b den_non) rfl) (den_band1 (den_cmp o_eq (DenE.b (den_call (n := 1) (ok_genus_of_row T) (show 5 ≤ 6 by decide) (by kernel_rfl) (den_acons (den_tup (den_acons (den_tup (den_acons den_int den_anil (fun _ => rfl))) (den_acons (den_tup (den_acons den_int den_anil (fun _ => rfl))) den_anil (fun _ => rfl)) (fun _ => rfl))) den_anil (fun _ => rfl)) (fun _ => rfl) (fun _ => rfl))) (DenE.b den_int) rfl))))))))

abbrev Rr : PySem.W.OpenRow := PySem.W.OpenLaw.row PySem.Challenge.rw_swapsheets_k76_whole_genus_of_rows_of_mo
abbrev hk : PySem.W.Hook := He.hookD 4 fa fn
def ob (s : PySem.W.SharedT) : He.AlD := He.obsDG 4 fa fn (HandSHeadRun.getT s)
theorem ob_eq (s : PySem.W.SharedT) : ob s = hk.obs s.abs := He.obsDG_eq (HandSHeadRun.getT_eq s)
def loose0 : List Str := ["SheetError", "InvalidOperation", "BOUND", "is_whole", "is_integer", "MOST_PLACES", "idle_in", "behind_in", "cycles_in", "least_in", "is_move_in", "is_move", "MAX_FACTORS", "product_of_moves", "does_join_all", "genus_in", "genus_of_row", "_law_dice", "_law_roll", "_law_shuffled", "_law_lot_of", "_law_behind", "_law_undone", "_law_kind", "_law_move_drawn", "_law_joined", "_law_le_product", "_law_le_least", "_law_le_genus", "_law_le_carried"]
def loose1 : List Str := ["_law_parity_right", "_law_right"]
def loose : List Str := loose0 ++ loose1
theorem run (w : World) : HandSHeadRun.RunEq Rr (PySem.W.view Rr.prog [37]) hk ob 6000 loose w := by
  intro os
  kernel_rfl
end G_k76

/-! k76: joined places, swaps counted, carried moves: plain -/
namespace Gs
open Sw
/-! ### labels -/
/-- a labelling that goes with pairs -/
def Goes (S : List (Nat × Nat)) (L : Nat → Nat) : Prop := ∀ s ∈ S, L s.1 = L s.2
/-- the finest such labelling, each label a place of its class, not above it -/
structure Lab (n : Nat) (S : List (Nat × Nat)) (L : Nat → Nat) : Prop where
  le : ∀ i, i < n → L i ≤ i
  idem : ∀ i, i < n → L (L i) = L i
  goes : Goes S L
  fine : ∀ M : Nat → Nat, Goes S M → ∀ i j, i < n → j < n → L i = L j → M i = M j
/-- the labels of some places become the least of them -/
def mrg (ls : List Nat) (t x : Nat) : Nat := if x ∈ ls then t else x
def prs (c : List Nat) : List (Nat × Nat) := c.flatMap fun a => c.map fun b => (a, b)
theorem mem_prs {c : List Nat} {s : Nat × Nat} : s ∈ prs c ↔ s.1 ∈ c ∧ s.2 ∈ c := by
  unfold prs
  rw [List.mem_flatMap]
  constructor
  · rintro ⟨a, ha, hs⟩
    obtain ⟨b, hb, rfl⟩ := List.mem_map.1 hs
    exact ⟨ha, hb⟩
  · intro h
    exact ⟨s.1, h.1, List.mem_map.2 ⟨s.2, h.2, rfl⟩⟩
theorem lab_id (n : Nat) : Lab n [] (fun i => i) := ⟨fun i _ => Nat.le_refl i, fun i _ => rfl, fun s h => (List.not_mem_nil h).elim, fun M _ i j _ _ e => by have e : i = j := e; rw [e]⟩
theorem lab_mrg {n : Nat} {S : List (Nat × Nat)} {L : Nat → Nat} (l : Lab n S L) {c : List Nat} (hc : ∀ a ∈ c, a < n) {t : Nat} (ht : t ∈ c.map L) (hm : ∀ x ∈ c.map L, t ≤ x) : Lab n (prs c ++ S) (fun i => mrg (c.map L) t (L i)) := by
  obtain ⟨a0, ha0, e0⟩ := List.mem_map.1 ht
  have fixl : ∀ x ∈ c.map L, L x = x := fun x hx => by
    obtain ⟨a, ha, rfl⟩ := List.mem_map.1 hx
    exact l.idem a (hc a ha)
  have tt : mrg (c.map L) t t = t := by unfold mrg; rw [if_pos ht]
  refine ⟨fun i hi => ?_, fun i hi => ?_, fun s hs => ?_, fun M hM i j hi hj e => ?_⟩
  · show mrg (c.map L) t (L i) ≤ i
    unfold mrg
    split
    · rename_i h
      exact Nat.le_trans (hm _ h) (l.le i hi)
    · exact l.le i hi
  · show mrg (c.map L) t (L (mrg (c.map L) t (L i))) = mrg (c.map L) t (L i)
    by_cases h : L i ∈ c.map L
    · have e1 : mrg (c.map L) t (L i) = t := if_pos h
      rw [e1, fixl t ht, tt]
    · have e1 : mrg (c.map L) t (L i) = L i := if_neg h
      rw [e1, l.idem i hi, e1]
  · show mrg (c.map L) t (L s.1) = mrg (c.map L) t (L s.2)
    rcases List.mem_append.1 hs with h | h
    · obtain ⟨h1, h2⟩ := mem_prs.1 h
      unfold mrg
      rw [if_pos (List.mem_map.2 ⟨_, h1, rfl⟩), if_pos (List.mem_map.2 ⟨_, h2, rfl⟩)]
    · rw [l.goes s h]
  · have e : mrg (c.map L) t (L i) = mrg (c.map L) t (L j) := e
    have g1 : Goes S M := fun s hs => hM s (List.mem_append.2 (.inr hs))
    have toA : ∀ k, k < n → L k ∈ c.map L → M k = M a0 := fun k hk h => by
      obtain ⟨b, hb, eb⟩ := List.mem_map.1 h
      rw [l.fine M g1 k b hk (hc b hb) eb.symm]
      exact hM (b, a0) (List.mem_append.2 (.inl (mem_prs.2 ⟨hb, ha0⟩)))
    by_cases h1 : L i ∈ c.map L
    · by_cases h2 : L j ∈ c.map L
      · rw [toA i hi h1, toA j hj h2]
      · have e1 : mrg (c.map L) t (L i) = t := if_pos h1
        have e2 : mrg (c.map L) t (L j) = L j := if_neg h2
        rw [e1, e2] at e
        exact (h2 (e ▸ ht)).elim
    · by_cases h2 : L j ∈ c.map L
      · have e1 : mrg (c.map L) t (L i) = L i := if_neg h1
        have e2 : mrg (c.map L) t (L j) = t := if_pos h2
        rw [e1, e2] at e
        exact (h1 (e.symm ▸ ht)).elim
      · have e1 : mrg (c.map L) t (L i) = L i := if_neg h1
        have e2 : mrg (c.map L) t (L j) = L j := if_neg h2
        rw [e1, e2] at e
        exact l.fine M g1 i j hi hj e
/-! ### joined moves -/
/-- the labelling goes along with a move -/
def Along (n : Nat) (m : List Nat) (L : Nat → Nat) : Prop := ∀ i, i < n → L (ap m i) = L i
def conn (n : Nat) (ms : List (List Nat)) : Prop := ∀ L : Nat → Nat, (∀ m ∈ ms, Along n m L) → ∀ i, i < n → L i = L 0
theorem lab_zero {n : Nat} {S : List (Nat × Nat)} {ms : List (List Nat)} {L : Nat → Nat} (h0 : 0 < n) (l : Lab n S L) (hS : ∀ M, Goes S M ↔ ∀ m ∈ ms, Along n m M) : (∀ i, i < n → L i = 0) ↔ conn n ms := by
  have z : L 0 = 0 := Nat.le_zero.1 (l.le 0 h0)
  constructor
  · intro h M hM i hi
    exact l.fine M ((hS M).2 hM) i 0 hi h0 (by rw [h i hi, z])
  · intro h i hi
    rw [h L ((hS L).1 l.goes) i hi, z]
theorem along_pairs (n : Nat) (m : List Nat) (M : Nat → Nat) : Goes ((List.range n).map fun i => (i, ap m i)) M ↔ Along n m M := by
  constructor
  · intro h i hi
    exact (h (i, ap m i) (List.mem_map.2 ⟨i, List.mem_range.2 hi, rfl⟩)).symm
  · intro h s hs
    obtain ⟨i, hi, rfl⟩ := List.mem_map.1 hs
    exact (h i (List.mem_range.1 hi)).symm
theorem along_rings {n : Nat} {m : List Nat} {cs : List (List Nat)} (d : Cy.Dec (ap m) n cs) (M : Nat → Nat) : Goes (cs.flatMap prs) M ↔ Along n m M := by
  constructor
  · intro h i hi
    obtain ⟨c, hc, hic⟩ := List.mem_flatten.1 ((d.all i).2 hi)
    exact (h (i, ap m i) (List.mem_flatMap.2 ⟨c, hc, mem_prs.2 ⟨hic, Cy.cyc_closed (d.cyc c hc) hic⟩⟩)).symm
  · intro h s hs
    obtain ⟨c, hc, hsc⟩ := List.mem_flatMap.1 hs
    obtain ⟨h1, h2⟩ := mem_prs.1 hsc
    obtain ⟨k, hk⟩ := Cy.cyc_reach (d.cyc c hc) h1 h2
    have it : ∀ k : Nat, M (Cy.itr (ap m) k s.1) = M s.1 := fun k => by
      have mem : ∀ k, Cy.itr (ap m) k s.1 ∈ c := Cy.cyc_iter (d.cyc c hc) h1
      have go : ∀ (k x : Nat), x ∈ c → M (Cy.itr (ap m) k x) = M x := by
        intro k
        induction k with
        | zero => intro x _; rfl
        | succ k ih =>
          intro x hx
          have hxn : x < n := (d.all x).1 (List.mem_flatten.2 ⟨c, hc, hx⟩)
          show M (Cy.itr (ap m) k (ap m x)) = M x
          rw [ih _ (Cy.cyc_closed (d.cyc c hc) hx), h x hxn]
      exact go k s.1 h1
    rw [← hk]
    exact (it k).symm
theorem goes_app {S T : List (Nat × Nat)} {M : Nat → Nat} : Goes (S ++ T) M ↔ Goes S M ∧ Goes T M := by
  constructor
  · intro h
    exact ⟨fun s hs => h s (List.mem_append.2 (.inl hs)), fun s hs => h s (List.mem_append.2 (.inr hs))⟩
  · rintro ⟨h1, h2⟩ s hs
    exact (List.mem_append.1 hs).elim (h1 s) (h2 s)
end Gs

/-! k76: swaps counted -/
namespace Gs
open Sw
theorem count_less {p q : Nat → Bool} {x : Nat} (hp : p x = true) : ∀ {l : List Nat}, l.Nodup → x ∈ l → (∀ i ∈ l, q i = (p i && !(i == x))) → l.countP q + 1 = l.countP p
  | [], _, hx, _ => by cases hx
  | y :: r, nd, hx, h => by
    obtain ⟨n1, n2⟩ := List.nodup_cons.1 nd
    have hy := h y List.mem_cons_self
    by_cases e : y = x
    · subst e
      have e1 : q y = false := by rw [hy]; simp
      have e2 : r.countP q = r.countP p := List.countP_congr fun i hi => by
        have ne : i ≠ y := fun z => n1 (z ▸ hi)
        rw [h i (List.mem_cons_of_mem _ hi)]
        simp [ne]
      rw [List.countP_cons_of_neg (by simp [e1]), List.countP_cons_of_pos hp, e2]
    · have hx' : x ∈ r := (List.mem_cons.1 hx).resolve_left fun z => e z.symm
      have ih := count_less (p := p) (q := q) hp n2 hx' fun i hi => h i (List.mem_cons_of_mem _ hi)
      have e1 : q y = p y := by rw [hy]; simp [e]
      by_cases py : p y = true
      · rw [List.countP_cons_of_pos (by rw [e1]; exact py), List.countP_cons_of_pos py]; omega
      · rw [List.countP_cons_of_neg (by rw [e1]; exact py), List.countP_cons_of_neg py]; exact ih
/-- how many labels -/
def roots (n : Nat) (L : Nat → Nat) : Nat := (List.range n).countP fun i => L i == i
theorem roots_mrg {n : Nat} {S : List (Nat × Nat)} {L : Nat → Nat} (l : Lab n S L) {a b : Nat} (ha : a < n) (hb : b < n) (ne : L a < L b) : roots n (fun i => mrg [L a, L b] (L a) (L i)) + 1 = roots n L := by
  have hlb : L b < n := Nat.lt_of_le_of_lt (l.le b hb) hb
  refine count_less (x := L b) (by rw [l.idem b hb]; simp) List.nodup_range (List.mem_range.2 hlb) fun i hi => ?_
  have hi := List.mem_range.1 hi
  show (mrg [L a, L b] (L a) (L i) == i) = _
  unfold mrg
  by_cases h : L i ∈ [L a, L b]
  · rw [if_pos h]
    rcases List.mem_cons.1 h with e | e
    · rw [e]
      by_cases z : L a = i
      · have : i ≠ L b := by omega
        simp [z, this]
      · simp [z]
    · have e : L i = L b := by simpa using e
      rw [e]
      by_cases z : L a = i
      · subst z
        rw [l.idem a ha] at e
        omega
      · have : ¬ (L b = i ∧ ¬ i = L b) := fun w => w.2 w.1.symm
        have e1 : (L a == i) = false := by simp [z]
        rw [e1]
        by_cases y : L b = i <;> simp [y]
  · rw [if_neg h]
    by_cases z : L i = i
    · have : i ≠ L b := fun w => h (by rw [z, w]; simp)
      simp [z, this]
    · simp [z]
/-! ### swaps -/
def SwOk (n : Nat) (l : List (Nat × Nat)) : Prop := ∀ s ∈ l, s.1 ≠ s.2 ∧ s.1 < n ∧ s.2 < n
/-- what is known of swaps done so far: the move q, so many swaps k -/
structure St (n k : Nat) (q : List Nat) (S : List (Nat × Nat)) (L : Nat → Nat) : Prop where
  mv : Mv n q
  lab : Lab n S L
  al : Along n q L
  up : n + Cy.ncyc (ap q) n ≤ k + 2 * roots n L
  even : (n + Cy.ncyc (ap q) n + k) % 2 = 0
  low : n ≤ k + Cy.ncyc (ap q) n
theorem sw_lab {L : Nat → Nat} {a b : Nat} (e : L a = L b) (x : Nat) : L (Cy.sw a b x) = L x := by
  unfold Cy.sw
  split
  · rename_i h; rw [h, e]
  · split
    · rename_i h; rw [h, e]
    · rfl
theorem cyc_change {n : Nat} {q : List Nat} (m : Mv n q) {a b : Nat} (ne : a ≠ b) (ha : a < n) (hb : b < n) :
    Cy.ncyc (ap (q.map (Cy.sw a b))) n = Cy.ncyc (ap q) n + 1 ∨ (Cy.ncyc (ap (q.map (Cy.sw a b))) n + 1 = Cy.ncyc (ap q) n) ∧ True := by
  rw [ncyc_sw m ha hb]
  obtain ⟨cs, d⟩ := Cy.dec_exists m.inj
  obtain ⟨c, hc, hac⟩ := List.mem_flatten.1 ((d.all a).2 ha)
  by_cases h : b ∈ c
  · exact .inl (Cy.ncyc_part d ne hc hac h)
  · exact .inr ⟨Cy.ncyc_unite d hc hac h hb, trivial⟩
theorem cyc_apart {n : Nat} {q : List Nat} (m : Mv n q) {L : Nat → Nat} (al : Along n q L) {a b : Nat} (ha : a < n) (hb : b < n) (ne : L a ≠ L b) :
    Cy.ncyc (ap (q.map (Cy.sw a b))) n + 1 = Cy.ncyc (ap q) n := by
  rw [ncyc_sw m ha hb]
  obtain ⟨cs, d⟩ := Cy.dec_exists m.inj
  obtain ⟨c, hc, hac⟩ := List.mem_flatten.1 ((d.all a).2 ha)
  have h : b ∉ c := fun h => ne ((along_rings d L).2 al (a, b) (List.mem_flatMap.2 ⟨c, hc, mem_prs.2 ⟨hac, h⟩⟩))
  exact Cy.ncyc_unite d hc hac h hb
theorem along_sw {n : Nat} {q : List Nat} (m : Mv n q) {L : Nat → Nat} (al : Along n q L) {a b : Nat} (e : L a = L b) : Along n (q.map (Cy.sw a b)) L := fun i hi => by
  rw [ap_map (by rw [m.len]; exact hi), sw_lab e, al i hi]
theorem st_step {n k : Nat} {q : List Nat} {S : List (Nat × Nat)} {L : Nat → Nat} (h : St n k q S L) {a b : Nat} (ne : a ≠ b) (ha : a < n) (hb : b < n) :
    ∃ S' L', St n (k + 1) (q.map (Cy.sw a b)) S' L' ∧ ∀ M, Goes S' M ↔ Goes S M ∧ M a = M b := by
  have mv' : Mv n (q.map (Cy.sw a b)) := h.mv.map (sw_inj ha hb)
  have ev := h.even
  have lo := h.low
  have up := h.up
  by_cases e : L a = L b
  · refine ⟨S, L, ⟨mv', h.lab, along_sw h.mv h.al e, ?_, ?_, ?_⟩, fun M => ⟨fun g => ⟨g, h.lab.fine M g a b ha hb e⟩, fun g => g.1⟩⟩ <;>
      rcases cyc_change h.mv ne ha hb with c | ⟨c, _⟩ <;> omega
  · have go : ∀ {a b : Nat}, a < n → b < n → L a < L b → ∃ S' L', Lab n S' L' ∧ roots n L' + 1 = roots n L ∧ (∀ i, L' i = mrg [L a, L b] (L a) (L i)) ∧ ∀ M, Goes S' M ↔ Goes S M ∧ M a = M b := fun {a b} ha hb lt => by
      refine ⟨prs [a, b] ++ S, _, lab_mrg h.lab (c := [a, b]) (t := L a) (fun x hx => ?_) (by simp) (fun x hx => ?_), roots_mrg h.lab ha hb lt, fun i => rfl, fun M => ?_⟩
      · have : x = a ∨ x = b := by simpa using hx
        rcases this with z | z <;> rw [z] <;> assumption
      · have : x = L a ∨ x = L b := by simpa using hx
        omega
      · rw [goes_app]
        constructor
        · rintro ⟨g1, g2⟩
          exact ⟨g2, g1 (a, b) (mem_prs.2 ⟨by simp, by simp⟩)⟩
        · rintro ⟨g1, g2⟩
          refine ⟨fun s hs => ?_, g1⟩
          obtain ⟨s1, s2⟩ := s
          obtain ⟨h1, h2⟩ := mem_prs.1 hs
          have h1 : s1 = a ∨ s1 = b := by simpa using h1
          have h2 : s2 = a ∨ s2 = b := by simpa using h2
          show M s1 = M s2
          rcases h1 with z | z <;> rcases h2 with y | y <;> rw [z, y] <;> first | rfl | exact g2 | exact g2.symm
    have c := cyc_apart h.mv h.al ha hb e
    have fin : ∀ {L' : Nat → Nat} {S'}, Lab n S' L' → roots n L' + 1 = roots n L → L' a = L' b → (∀ i, i < n → L' (ap q i) = L' i) → St n (k + 1) (q.map (Cy.sw a b)) S' L' := fun lb rt eq al =>
      ⟨mv', lb, along_sw h.mv al eq, by omega, by omega, by omega⟩
    rcases Nat.lt_or_gt_of_ne e with lt | gt
    · obtain ⟨S', L', lb, rt, f, g⟩ := go ha hb lt
      refine ⟨S', L', fin lb rt ?_ fun i hi => ?_, g⟩
      · rw [f, f]; simp [mrg]
      · rw [f, f, h.al i hi]
    · obtain ⟨S', L', lb, rt, f, g⟩ := go hb ha gt
      refine ⟨S', L', fin lb rt ?_ fun i hi => ?_, fun M => ⟨fun w => ⟨((g M).1 w).1, ((g M).1 w).2.symm⟩, fun w => (g M).2 ⟨w.1, w.2.symm⟩⟩⟩
      · rw [f, f]; simp [mrg]
      · rw [f, f, h.al i hi]
theorem st_go {n : Nat} : ∀ (l : List (Nat × Nat)) {k : Nat} {q : List Nat} {S : List (Nat × Nat)} {L : Nat → Nat}, St n k q S L → SwOk n l →
    ∃ S' L', St n (k + l.length) (prod q l) S' L' ∧ ∀ M, Goes S' M ↔ Goes S M ∧ ∀ s ∈ l, M s.1 = M s.2
  | [], k, q, S, L, h, _ => ⟨S, L, h, fun M => ⟨fun g => ⟨g, fun s hs => by cases hs⟩, fun g => g.1⟩⟩
  | s :: l, k, q, S, L, h, ok => by
    obtain ⟨h1, h2, h3⟩ := ok s List.mem_cons_self
    obtain ⟨S1, L1, st1, g1⟩ := st_step h h1 h2 h3
    obtain ⟨S2, L2, st2, g2⟩ := st_go l st1 fun t ht => ok t (List.mem_cons_of_mem _ ht)
    refine ⟨S2, L2, ?_, fun M => ?_⟩
    · rw [List.length_cons, show k + (l.length + 1) = k + 1 + l.length by omega]
      exact st2
    · rw [g2, g1]
      constructor
      · rintro ⟨⟨w1, w2⟩, w3⟩
        exact ⟨w1, fun t ht => (List.mem_cons.1 ht).elim (fun z => z ▸ w2) (w3 t)⟩
      · rintro ⟨w1, w2⟩
        exact ⟨⟨w1, w2 s List.mem_cons_self⟩, fun t ht => w2 t (List.mem_cons_of_mem _ ht)⟩
theorem roots_id (n : Nat) : roots n (fun i => i) = n := by
  unfold roots
  rw [List.countP_eq_length.2 fun i _ => by simp, List.length_range]
theorem st_start (n : Nat) : St n 0 (List.range n) [] (fun i => i) :=
  ⟨mv_id n, lab_id n, fun i hi => ap_range hi, by rw [roots_id, ncyc_range]; omega, by rw [ncyc_range]; omega, by rw [ncyc_range]; omega⟩
/-! ### swaps as functions -/
def swF (l : List (Nat × Nat)) (x : Nat) : Nat := l.foldl (fun y s => Cy.sw s.1 s.2 y) x
theorem prod_swF : ∀ (l : List (Nat × Nat)) (p : List Nat), prod p l = p.map (swF l)
  | [], p => by show p = p.map fun x => x; simp
  | s :: l, p => by
    show prod (p.map _) l = _
    rw [prod_swF l, List.map_map]; rfl
theorem swF_ap {n : Nat} {l : List (Nat × Nat)} {m : List Nat} (e : prod (List.range n) l = m) {i : Nat} (hi : i < n) : swF l i = ap m i := by
  rw [← e, prod_swF, ap_map (by rw [List.length_range]; exact hi), ap_range hi]
theorem swF_lab {L : Nat → Nat} : ∀ {l : List (Nat × Nat)}, (∀ s ∈ l, L s.1 = L s.2) → ∀ x, L (swF l x) = L x
  | [], _, x => rfl
  | s :: l, h, x => by
    show L (swF l (Cy.sw s.1 s.2 x)) = L x
    rw [swF_lab (fun t ht => h t (List.mem_cons_of_mem _ ht)), sw_lab (h s List.mem_cons_self)]
theorem strict_sw {n : Nat} {m : List Nat} (mv : Mv n m) (h1 : 1 ≤ n) : SwOk n (strictR m) := fun s hs => by
  have := (strict_ok mv h1).1.ok s hs
  omega
theorem strict_along {n : Nat} {m : List Nat} (mv : Mv n m) (h1 : 1 ≤ n) {L : Nat → Nat} (h : ∀ s ∈ strictR m, L s.1 = L s.2) : Along n m L := fun i hi => by
  rw [← swF_ap (strict_ok mv h1).2.1 hi, swF_lab h]
/-! ### the product of moves, their least numbers -/
def prodM (n : Nat) (ms : List (List Nat)) : List Nat := ms.foldl seqM (List.range n)
noncomputable def needs (n : Nat) (ms : List (List Nat)) : Nat := (ms.map fun m => n - Cy.ncyc (ap m) n).sum
theorem prod_strict {n : Nat} {m q : List Nat} (mv : Mv n m) (mq : Mv n q) (h1 : 1 ≤ n) : prod q (strictR m) = seqM q m := by
  rw [prod_swF]
  refine List.map_congr_left fun x hx => ?_
  exact swF_ap (strict_ok mv h1).2.1 (mq.lt x hx)
theorem prod_all {n : Nat} (h1 : 1 ≤ n) : ∀ (ms : List (List Nat)) (q : List Nat), Mv n q → (∀ m ∈ ms, Mv n m) → prod q (ms.flatMap strictR) = ms.foldl seqM q ∧ Mv n (ms.foldl seqM q)
  | [], q, mq, _ => ⟨rfl, mq⟩
  | m :: ms, q, mq, h => by
    have mm := h m List.mem_cons_self
    obtain ⟨i1, i2⟩ := prod_all h1 ms (seqM q m) (mq.seqM mm) fun x hx => h x (List.mem_cons_of_mem _ hx)
    refine ⟨?_, i2⟩
    rw [List.flatMap_cons, prod_app', prod_strict mm mq h1, i1]; rfl
theorem len_all {n : Nat} (h1 : 1 ≤ n) : ∀ (ms : List (List Nat)), (∀ m ∈ ms, Mv n m) → (ms.flatMap strictR).length = needs n ms
  | [], _ => rfl
  | m :: ms, h => by
    have mm := h m List.mem_cons_self
    have ih := len_all h1 ms fun x hx => h x (List.mem_cons_of_mem _ hx)
    have := (strict_ok mm h1).2.2
    rw [List.flatMap_cons, List.length_append, ih, needs, needs, List.map_cons, List.sum_cons]
    omega
theorem roots_one {n : Nat} (h1 : 1 ≤ n) {L : Nat → Nat} (h : ∀ i, i < n → L i = 0) : roots n L = 1 := by
  have := count_less (p := fun i => L i == i) (q := fun _ => false) (x := 0) (by rw [h 0 h1]; rfl) (List.nodup_range (n := n)) (List.mem_range.2 h1) fun i hi => by
    rw [h i (List.mem_range.1 hi)]
    by_cases z : i = 0
    · simp [z]
    · have : ¬ (0 = i) := fun w => z w.symm
      simp [this]
  unfold roots
  rw [← this]
  simp
/-- the genus is an integer from 0 on -/
theorem rh {n : Nat} (h1 : 1 ≤ n) {ms : List (List Nat)} (h : ∀ m ∈ ms, Mv n m) (c : conn n ms) : n + Cy.ncyc (ap (prodM n ms)) n ≤ needs n ms + 2 ∧ (n + Cy.ncyc (ap (prodM n ms)) n + needs n ms) % 2 = 0 := by
  have ok : SwOk n (ms.flatMap strictR) := fun s hs => by
    obtain ⟨m, hm, hs⟩ := List.mem_flatMap.1 hs
    exact strict_sw (h m hm) h1 s hs
  obtain ⟨S, L, st, g⟩ := st_go _ (st_start n) ok
  obtain ⟨e, _⟩ := prod_all h1 ms _ (mv_id n) h
  rw [e, len_all h1 ms h, Nat.zero_add] at st
  have gl := (g L).1 st.lab.goes
  have z : L 0 = 0 := Nat.le_zero.1 (st.lab.le 0 h1)
  have al : ∀ i, i < n → L i = 0 := fun i hi => by
    rw [c L (fun m hm => strict_along (h m hm) h1 fun s hs => gl.2 s (List.mem_flatMap.2 ⟨m, hm, hs⟩)) i hi, z]
  have r1 := roots_one h1 al
  have up := st.up
  have ev := st.even
  rw [r1] at up
  exact ⟨up, ev⟩
/-! ### carried moves -/
theorem sw_inj_at {n : Nat} {p : List Nat} (m : Mv n p) {a b x : Nat} (ha : a < n) (hb : b < n) (hx : x < n) : ap p (Cy.sw a b x) = Cy.sw (ap p a) (ap p b) (ap p x) := by
  unfold Cy.sw
  by_cases h1 : x = a
  · rw [if_pos h1, h1, if_pos rfl]
  · have : ap p x ≠ ap p a := fun w => h1 (m.inj.inj x a hx ha w)
    rw [if_neg h1, if_neg this]
    by_cases h2 : x = b
    · rw [if_pos h2, h2, if_pos rfl]
    · have : ap p x ≠ ap p b := fun w => h2 (m.inj.inj x b hx hb w)
      rw [if_neg h2, if_neg this]
theorem swF_carried {n : Nat} {p : List Nat} (m : Mv n p) : ∀ {l : List (Nat × Nat)}, SwOk n l → ∀ x, x < n → swF (l.map fun s => (ap p s.1, ap p s.2)) (ap p x) = ap p (swF l x)
  | [], _, x, _ => rfl
  | s :: l, ok, x, hx => by
    obtain ⟨h1, h2, h3⟩ := ok s List.mem_cons_self
    show swF (l.map _) (Cy.sw (ap p s.1) (ap p s.2) (ap p x)) = ap p (swF l (Cy.sw s.1 s.2 x))
    rw [← sw_inj_at m h2 h3 hx, swF_carried m (fun t ht => ok t (List.mem_cons_of_mem _ ht)) _ ((sw_inj h2 h3).lt x hx)]
theorem cyc_le {n : Nat} (h1 : 1 ≤ n) {g c p : List Nat} (mg : Mv n g) (mc : Mv n c) (mp : Mv n p) (h : ∀ i, i < n → ap c (ap p i) = ap p (ap g i)) : Cy.ncyc (ap g) n ≤ Cy.ncyc (ap c) n := by
  have ok := strict_sw mg h1
  have ok' : SwOk n ((strictR g).map fun s => (ap p s.1, ap p s.2)) := fun s hs => by
    obtain ⟨t, ht, rfl⟩ := List.mem_map.1 hs
    obtain ⟨a, b, d⟩ := ok t ht
    exact ⟨fun w => a (mp.inj.inj _ _ b d w), mp.ap_lt b, mp.ap_lt d⟩
  obtain ⟨S, L, st, _⟩ := st_go _ (st_start n) ok'
  have e : prod (List.range n) ((strictR g).map fun s => (ap p s.1, ap p s.2)) = c := by
    refine ap_ext (by rw [prod_len, List.length_range, mc.len]) fun j hj => ?_
    have hj : j < n := by rwa [prod_len, List.length_range] at hj
    obtain ⟨i, hi, rfl⟩ := mp.onto hj
    rw [← swF_ap rfl hj, swF_carried mp ok i hi, swF_ap (strict_ok mg h1).2.1 hi, h i hi]
  rw [e] at st
  have lo := st.low
  rw [List.length_map] at lo
  have := (strict_ok mg h1).2.2
  omega
end Gs

/-! k76: carried rows, turned rows: plain -/
namespace Gs
open Sw
def inv (n : Nat) (h : List Nat) : List Nat := (List.range n).map fun i => h.idxOf i
theorem inv_ap {n : Nat} {h : List Nat} {i : Nat} (hi : i < n) : ap (inv n h) i = h.idxOf i := by
  unfold inv
  rw [ap_map (by rw [List.length_range]; exact hi), ap_range hi]
theorem mem_mv {n : Nat} {h : List Nat} (m : Mv n h) {i : Nat} (hi : i < n) : i ∈ h := m.perm.mem_iff.2 (List.mem_range.2 hi)
theorem inv_r {n : Nat} {h : List Nat} (m : Mv n h) {i : Nat} (hi : i < n) : ap h (ap (inv n h) i) = i := by
  rw [inv_ap hi]
  have hl : h.idxOf i < h.length := List.idxOf_lt_length_iff.2 (mem_mv m hi)
  have e := ap_get hl
  rw [List.getElem?_eq_getElem hl, List.getElem_idxOf hl] at e
  exact (Option.some.inj e).symm
theorem inv_lt {n : Nat} {h : List Nat} (m : Mv n h) {i : Nat} (hi : i < n) : ap (inv n h) i < n := by
  rw [inv_ap hi]
  have := List.idxOf_lt_length_iff.2 (mem_mv m hi)
  rwa [m.len] at this
theorem inv_l {n : Nat} {h : List Nat} (m : Mv n h) {i : Nat} (hi : i < n) : ap (inv n h) (ap h i) = i :=
  m.inj.inj _ _ (inv_lt m (m.ap_lt hi)) hi (inv_r m (m.ap_lt hi))
theorem mv_fun {n : Nat} {f : Nat → Nat} (I : Cy.Inj f n) : Mv n ((List.range n).map f) := (mv_id n).map I
theorem inv_mv {n : Nat} {h : List Nat} (m : Mv n h) : Mv n (inv n h) :=
  mv_fun ⟨fun x hx => by rw [← inv_ap hx]; exact inv_lt m hx, fun x y hx hy e => by
    have e : ap (inv n h) x = ap (inv n h) y := by rw [inv_ap hx, inv_ap hy]; exact e
    rw [← inv_r m hx, ← inv_r m hy, e]⟩
def car (n : Nat) (h p : List Nat) : List Nat := (List.range n).map fun j => ap h (ap p (ap (inv n h) j))
theorem car_ap {n : Nat} {h p : List Nat} {j : Nat} (hj : j < n) : ap (car n h p) j = ap h (ap p (ap (inv n h) j)) := by
  unfold car
  rw [ap_map (by rw [List.length_range]; exact hj), ap_range hj]
theorem car_mv {n : Nat} {h p : List Nat} (m : Mv n h) (mp : Mv n p) : Mv n (car n h p) :=
  mv_fun ⟨fun x hx => m.ap_lt (mp.ap_lt (inv_lt m hx)), fun x y hx hy e => by
    have e1 := m.inj.inj _ _ (mp.ap_lt (inv_lt m hx)) (mp.ap_lt (inv_lt m hy)) e
    have e2 := mp.inj.inj _ _ (inv_lt m hx) (inv_lt m hy) e1
    rw [← inv_r m hx, ← inv_r m hy, e2]⟩
theorem car_at {n : Nat} {h p : List Nat} (m : Mv n h) {i : Nat} (hi : i < n) : ap (car n h p) (ap h i) = ap h (ap p i) := by
  rw [car_ap (m.ap_lt hi), inv_l m hi]
theorem cyc_car {n : Nat} (h1 : 1 ≤ n) {h p : List Nat} (m : Mv n h) (mp : Mv n p) : Cy.ncyc (ap (car n h p)) n = Cy.ncyc (ap p) n := by
  refine Nat.le_antisymm ?_ (cyc_le h1 mp (car_mv m mp) m fun i hi => car_at m hi)
  refine cyc_le h1 (car_mv m mp) mp (inv_mv m) fun j hj => ?_
  rw [car_ap hj, inv_l m (mp.ap_lt (inv_lt m hj))]
theorem needs_car {n : Nat} (h1 : 1 ≤ n) {h : List Nat} (m : Mv n h) {ms : List (List Nat)} (hm : ∀ x ∈ ms, Mv n x) : needs n (ms.map (car n h)) = needs n ms := by
  unfold needs
  rw [List.map_map]
  congr 1
  exact List.map_congr_left fun x hx => by
    show n - Cy.ncyc (ap (car n h x)) n = _
    rw [cyc_car h1 m (hm x hx)]
theorem ext_n {n : Nat} {p q : List Nat} (mp : Mv n p) (mq : Mv n q) (h : ∀ i, i < n → ap p i = ap q i) : p = q := ap_ext (by rw [mp.len, mq.len]) fun i hi => h i (by rwa [mp.len] at hi)
theorem seq_ap {n : Nat} {p q : List Nat} (mp : Mv n p) {i : Nat} (hi : i < n) : ap (seqM p q) i = ap q (ap p i) := ap_map (by rw [mp.len]; exact hi)
theorem fold_mv {n : Nat} : ∀ {ms : List (List Nat)} {q : List Nat}, Mv n q → (∀ m ∈ ms, Mv n m) → Mv n (ms.foldl seqM q)
  | [], _, mq, _ => mq
  | m :: ms, q, mq, h => by
    show Mv n (ms.foldl seqM (seqM q m))
    exact fold_mv (mq.seqM (h m List.mem_cons_self)) fun x hx => h x (List.mem_cons_of_mem _ hx)
theorem prod_mv {n : Nat} {ms : List (List Nat)} (h : ∀ m ∈ ms, Mv n m) : Mv n (prodM n ms) := fold_mv (mv_id n) h
theorem fold_car {n : Nat} {h : List Nat} (m : Mv n h) : ∀ {ms : List (List Nat)} {q : List Nat}, Mv n q → (∀ x ∈ ms, Mv n x) → (ms.map (car n h)).foldl seqM (car n h q) = car n h (ms.foldl seqM q)
  | [], _, _, _ => rfl
  | x :: ms, q, mq, hx => by
    have mx := hx x List.mem_cons_self
    rw [List.map_cons, List.foldl_cons, List.foldl_cons, ← fold_car m (mq.seqM mx) fun y hy => hx y (List.mem_cons_of_mem _ hy)]
    congr 1
    refine ext_n ((car_mv m mq).seqM (car_mv m mx)) (car_mv m (mq.seqM mx)) fun i hi => ?_
    have l := mq.ap_lt (inv_lt m hi)
    rw [seq_ap (car_mv m mq) hi, car_ap hi, car_at m l, car_ap hi, seq_ap mq (inv_lt m hi)]
theorem prod_car {n : Nat} {h : List Nat} (m : Mv n h) {ms : List (List Nat)} (hx : ∀ x ∈ ms, Mv n x) : prodM n (ms.map (car n h)) = car n h (prodM n ms) := by
  unfold prodM
  rw [← fold_car m (mv_id n) hx]
  congr 1
  refine ext_n (mv_id n) (car_mv m (mv_id n)) fun i hi => ?_
  rw [car_ap hi, ap_range (inv_lt m hi), inv_r m hi, ap_range hi]
theorem conn_car {n : Nat} (h1 : 1 ≤ n) {h : List Nat} (m : Mv n h) {ms : List (List Nat)} (hx : ∀ x ∈ ms, Mv n x) : conn n (ms.map (car n h)) ↔ conn n ms := by
  constructor
  · intro c L hL i hi
    have k := c (fun j => L (ap (inv n h) j)) (fun x hxm j hj => by
      obtain ⟨p, hp, rfl⟩ := List.mem_map.1 hxm
      have mp := hx p hp
      show L (ap (inv n h) (ap (car n h p) j)) = L (ap (inv n h) j)
      rw [car_ap hj, inv_l m (mp.ap_lt (inv_lt m hj))]
      exact hL p hp _ (inv_lt m hj))
    have a := k (ap h i) (m.ap_lt hi)
    have b := k (ap h 0) (m.ap_lt h1)
    simp only [inv_l m hi, inv_l m h1] at a b
    rw [a, b]
  · intro c L hL j hj
    have k := c (fun i => L (ap h i)) (fun p hp i hi => by
      show L (ap h (ap p i)) = L (ap h i)
      rw [← car_at m hi]
      exact hL _ (List.mem_map.2 ⟨p, hp, rfl⟩) _ (m.ap_lt hi))
    have a := k (ap (inv n h) j) (inv_lt m hj)
    have b := k (ap (inv n h) 0) (inv_lt m h1)
    simp only [inv_r m hj, inv_r m h1] at a b
    rw [a, b]
/-! ### turned rows -/
theorem fold_seq {n : Nat} : ∀ {ms : List (List Nat)} {q : List Nat}, Mv n q → (∀ x ∈ ms, Mv n x) → ms.foldl seqM q = seqM q (prodM n ms)
  | [], q, mq, _ => by
    refine ext_n mq (mq.seqM (mv_id n)) fun i hi => ?_
    rw [seq_ap mq hi]
    exact (ap_range (mq.ap_lt hi)).symm
  | x :: ms, q, mq, hx => by
    have mx := hx x List.mem_cons_self
    have ht : ∀ y ∈ ms, Mv n y := fun y hy => hx y (List.mem_cons_of_mem _ hy)
    have e1 := fold_seq (mq.seqM mx) ht
    have e2 := fold_seq ((mv_id n).seqM mx) ht
    show ms.foldl seqM (seqM q x) = seqM q (ms.foldl seqM (seqM (List.range n) x))
    rw [e1, e2]
    refine ext_n ((mq.seqM mx).seqM (prod_mv ht)) (mq.seqM (((mv_id n).seqM mx).seqM (prod_mv ht))) fun i hi => ?_
    rw [seq_ap (mq.seqM mx) hi, seq_ap mq hi, seq_ap mq hi, seq_ap ((mv_id n).seqM mx) (mq.ap_lt hi), seq_ap (mv_id n) (mq.ap_lt hi), ap_range (mq.ap_lt hi)]
theorem prod_last {n : Nat} {ms : List (List Nat)} {g : List Nat} : prodM n (ms ++ [g]) = seqM (prodM n ms) g := by
  unfold prodM
  rw [List.foldl_append]; rfl
theorem prod_first {n : Nat} {ms : List (List Nat)} {c : List Nat} (mc : Mv n c) (hx : ∀ x ∈ ms, Mv n x) {i : Nat} (hi : i < n) : ap (prodM n (c :: ms)) i = ap (prodM n ms) (ap c i) := by
  show ap (ms.foldl seqM (seqM (List.range n) c)) i = _
  rw [fold_seq ((mv_id n).seqM mc) hx, seq_ap ((mv_id n).seqM mc) hi, seq_ap (mv_id n) hi, ap_range hi]
theorem along_prod {n : Nat} : ∀ {ms : List (List Nat)} {q : List Nat} {L : Nat → Nat}, Mv n q → (∀ x ∈ ms, Mv n x) → (∀ x ∈ ms, Along n x L) → Along n q L → Along n (ms.foldl seqM q) L
  | [], _, _, _, _, _, h => h
  | x :: ms, q, L, mq, hx, hL, h => by
    have mx := hx x List.mem_cons_self
    show Along n (ms.foldl seqM (seqM q x)) L
    refine along_prod (mq.seqM mx) (fun y hy => hx y (List.mem_cons_of_mem _ hy)) (fun y hy => hL y (List.mem_cons_of_mem _ hy)) fun i hi => ?_
    rw [seq_ap mq hi, hL x List.mem_cons_self _ (mq.ap_lt hi), h i hi]
structure Trn (n : Nat) (ms : List (List Nat)) (g : List Nat) : Prop where
  h1 : 1 ≤ n
  hx : ∀ x ∈ ms, Mv n x
  mg : Mv n g
section
variable {n : Nat} {ms : List (List Nat)} {g : List Nat}
abbrev PP (n : Nat) (ms : List (List Nat)) (g : List Nat) : List Nat := prodM n (ms ++ [g])
theorem Trn.all (t : Trn n ms g) : ∀ x ∈ ms ++ [g], Mv n x := fun x hx => (List.mem_append.1 hx).elim (t.hx x) fun h => by
  have : x = g := by simpa using h
  rw [this]; exact t.mg
theorem Trn.mP (t : Trn n ms g) : Mv n (PP n ms g) := prod_mv t.all
/-- the last move, carried by the product undone -/
abbrev tc (n : Nat) (ms : List (List Nat)) (g : List Nat) : List Nat := car n (inv n (PP n ms g)) g
theorem Trn.mc (t : Trn n ms g) : Mv n (tc n ms g) := car_mv (inv_mv t.mP) t.mg
theorem Trn.P_ap (t : Trn n ms g) {i : Nat} (hi : i < n) : ap (PP n ms g) i = ap g (ap (prodM n ms) i) := by
  rw [PP, prod_last, seq_ap (prod_mv t.hx) hi]
/-- back, the product of the first ones behind: the last one undone -/
theorem Trn.back (t : Trn n ms g) {x : Nat} (hx : x < n) : ap (prodM n ms) (ap (inv n (PP n ms g)) (ap g x)) = x := by
  have hg := t.mg.ap_lt hx
  have h := inv_r t.mP hg
  rw [t.P_ap (inv_lt t.mP hg)] at h
  exact t.mg.inj.inj _ _ ((prod_mv t.hx).ap_lt (inv_lt t.mP hg)) hx h
theorem Trn.prod (t : Trn n ms g) : prodM n (tc n ms g :: ms) = PP n ms g := by
  refine ext_n (prod_mv fun x hx => (List.mem_cons.1 hx).elim (fun e => e ▸ t.mc) (t.hx x)) t.mP fun i hi => ?_
  rw [prod_first t.mc t.hx hi]
  have hP := t.mP.ap_lt hi
  have e : ap (tc n ms g) i = ap (inv n (PP n ms g)) (ap g (ap (PP n ms g) i)) := by
    have := car_at (n := n) (h := inv n (PP n ms g)) (p := g) (inv_mv t.mP) hP
    rw [inv_l t.mP hi] at this
    exact this
  rw [e, t.back hP]
theorem Trn.needs (t : Trn n ms g) : needs n (tc n ms g :: ms) = needs n (ms ++ [g]) := by
  unfold Gs.needs
  rw [List.map_cons, List.sum_cons, List.map_append, List.sum_append, cyc_car t.h1 (inv_mv t.mP) t.mg]
  simp
  omega
theorem Trn.conn (t : Trn n ms g) : conn n (tc n ms g :: ms) ↔ conn n (ms ++ [g]) := by
  have mQ : Mv n (prodM n ms) := prod_mv t.hx
  have mB := inv_mv t.mP
  constructor
  · intro c L hL
    refine c L fun x hx => ?_
    rcases List.mem_cons.1 hx with rfl | hx
    · have aP : Along n (PP n ms g) L := along_prod (mv_id n) t.all hL fun i hi => by rw [ap_range hi]
      have ag : Along n g L := hL g (List.mem_append.2 (.inr (by simp)))
      have aB : ∀ j, j < n → L (ap (inv n (PP n ms g)) j) = L j := fun j hj => by
        have := aP _ (inv_lt t.mP hj)
        rw [inv_r t.mP hj] at this
        exact this.symm
      intro i hi
      obtain ⟨y, hy, rfl⟩ := mB.onto hi
      show L (ap (car n (inv n (PP n ms g)) g) (ap (inv n (PP n ms g)) y)) = _
      rw [car_at mB hy, aB _ (t.mg.ap_lt hy), ag y hy, aB y hy]
    · exact hL x (List.mem_append.2 (.inl hx))
  · intro c L hL
    refine c L fun x hx => ?_
    rcases List.mem_append.1 hx with hx | hx
    · exact hL x (List.mem_cons_of_mem _ hx)
    · have : x = g := by simpa using hx
      rw [this]
      have aQ : Along n (prodM n ms) L := along_prod (mv_id n) t.hx (fun y hy => hL y (List.mem_cons_of_mem _ hy)) fun i hi => by rw [ap_range hi]
      have aC : Along n (tc n ms g) L := hL _ List.mem_cons_self
      intro u hu
      obtain ⟨z, hz, rfl⟩ := mQ.onto hu
      -- g (Q z) = P z
      rw [← t.P_ap hz, aQ z hz]
      have hP := t.mP.ap_lt hz
      have e1 := aC z hz
      have e2 : ap (tc n ms g) z = ap (inv n (PP n ms g)) (ap g (ap (PP n ms g) z)) := by
        have := car_at (n := n) (h := inv n (PP n ms g)) (p := g) mB hP
        rw [inv_l t.mP hz] at this
        exact this
      rw [e2] at e1
      have e3 := aQ _ (mB.ap_lt (t.mg.ap_lt hP))
      rw [t.back hP] at e3
      rw [e3, e1]
end
end Gs

namespace G_k76
open PySem PySem.Spec PyProof.Rows L2 Sw Gs
theorem whole_ok (v : Int) (h : HS) : d_is_whole [.int v] h = .ok (.bl true) h := by
  simp [d_is_whole, b_is_whole, ifR, nS, nB, kD, aN, tY, oN, oS, rT, xS, bkS, ctS, noS, rN, frS, mN, shR, mulOk, fnR, seqS, iteS, cmpT, setS, setN, nilS, RS.ofR, Res.bind, Res.nox, res1, res2, toRes, refIxR, rputS, atRef, L2.atI, L2.ixN, getS, getB, consR, callR, biR, addD, mulD, iAdd, iSub, iMul, iDiv, iMod, iPow, iLt, iLe, iGt, iGe, Sw.intD, intG, lenG, pureF, pureR, noRefs, D.noRef, noRefs_ints, isiR, tyD, isiT, bAndR, bNotR, bOrR, chR, chT, truR, D.tru, tNotR, tAndR, tOrR, negD, seqR, wipeT, gN, gT, gConsT, gNilT]
theorem integer_ok {v : Int} (h : HS) (h1 : -1000000000000000000000000000000000000000000000000000000000000 < v) (h2 : v < 1000000000000000000000000000000000000000000000000000000000000) : d_is_integer [.int v] h = .ok (.bl true) h := by
  simp [d_is_integer, b_is_integer, ifR, nS, nB, kD, aN, tY, oN, oS, rT, xS, bkS, ctS, noS, rN, frS, mN, shR, mulOk, fnR, seqS, iteS, cmpT, setS, setN, nilS, RS.ofR, Res.bind, Res.nox, res1, res2, toRes, refIxR, rputS, atRef, L2.atI, L2.ixN, getS, getB, consR, callR, biR, addD, mulD, iAdd, iSub, iMul, iDiv, iMod, iPow, iLt, iLe, iGt, iGe, Sw.intD, intG, lenG, pureF, pureR, noRefs, D.noRef, noRefs_ints, isiR, tyD, isiT, bAndR, bNotR, bOrR, chR, chT, truR, D.tru, tNotR, tAndR, tOrR, negD, seqR, wipeT, gN, gT, gConsT, gNilT, whole_ok, h1, h2]
theorem roll_eq : d__law_roll = dRoll := by kernel_rfl
theorem dice_eq : d__law_dice = dDice := by kernel_rfl
theorem all_int {l : List Int} (hz : l.length ≤ 1000) (hb : ∀ x ∈ l, -1000 ≤ x ∧ x ≤ 1000) (s0 s2 : Sl) : lcR (seqR (nS 1)) [2] (gN 2) tY (callR 1 d_is_integer (consR (nS 2) aN)) [s0, .val (.tup (l.map .int)), s2] [] = .ok (.lst ((l.map fun _ => true).map .bl)) [] := by
  have e : lcL (gN 2) tY (callR 1 d_is_integer (consR (nS 2) aN)) [s0, .val (.tup (l.map .int)), .un] (l.map .int) [] = .ok (l.map fun _ => .bl true) [] := by
    refine lcL_all .int _ _ fun x m => ⟨_, rfl, ?_⟩
    have := hb x m
    simp [ap_iSub, ap_addD, ap_mulD, ap_iLt, ap_iLe, ap_iGt, ap_iGe, ap_iMod, ap_iDiv, ap_ifR, ap_nS, ap_nB, ap_kD, ap_aN, ap_tY, ap_oN, ap_oS, ap_rT, ap_xS, ap_bkS, ap_ctS, ap_noS, ap_rN, ap_frS, ap_mN, ap_shR, ap_seqS, ap_iteS, ap_cmpT, ap_setS, ap_setN, ap_nilS, ap_res1, ap_res2, ap_refIxR, ap_rputS, ap_consR, ap_callR, ap_biR, ap_isiR, ap_bAndR, ap_bNotR, ap_bOrR, ap_chR, ap_chT, ap_truR, ap_tNotR, ap_tAndR, ap_tOrR, ap_seqR, ap_rngR1, ap_rngR2, ap_enumR, ap_sliceR, ap_tupR, ap_lstR, ap_starR, ap_augS, ap_asgS, ap_par2, ap_ownM, ap_valM, ap_appS, ap_extS, ap_putS, ap_revR, rb_ok, rn_ok, ro_ok, tr_some, getS, getB, toRes, integer_ok (v := x) [] (by omega) (by omega)]
  have fl := fits_of (Nat.le_trans hz (by decide))
  simp only [ap_iSub, ap_addD, ap_mulD, ap_iLt, ap_iLe, ap_iGt, ap_iGe, ap_iMod, ap_iDiv, ap_ifR, ap_nS, ap_nB, ap_kD, ap_aN, ap_tY, ap_oN, ap_oS, ap_rT, ap_xS, ap_bkS, ap_ctS, ap_noS, ap_rN, ap_frS, ap_mN, ap_shR, ap_seqS, ap_iteS, ap_cmpT, ap_setS, ap_setN, ap_nilS, ap_res1, ap_res2, ap_refIxR, ap_rputS, ap_consR, ap_callR, ap_biR, ap_isiR, ap_bAndR, ap_bNotR, ap_bOrR, ap_chR, ap_chT, ap_truR, ap_tNotR, ap_tAndR, ap_tOrR, ap_seqR, ap_rngR1, ap_rngR2, ap_enumR, ap_sliceR, ap_tupR, ap_lstR, ap_starR, ap_augS, ap_asgS, ap_par2, ap_ownM, ap_valM, ap_appS, ap_extS, ap_putS, ap_revR, rb_ok, rn_ok, ro_ok, tr_some, getS, getB, toRes, ap_lcR, List.getElem?_cons_zero, List.getElem?_cons_succ, List.length_map, fl, if_true, wipeT, List.set, e]
  rw [List.map_map]; rfl
theorem all_true {α : Type} (l : List α) : allG [.lst ((l.map fun _ => true).map .bl)] = some (.bl true) := by
  have al : (l.map fun _ => true).all id = true := by rw [List.all_eq_true]; intro x m; obtain ⟨_, _, rfl⟩ := List.mem_map.1 m; rfl
  simp only [allG, bools_all, Option.map_some, al]
theorem move_in_ok {n : Nat} {p : List Nat} (m : Mv n p) (hn : n ≤ 100) (h : HS) : d_is_move_in [.int (n : Nat), mv p] h = .ok (.bl true) h := by
  have ne0 := ne_same (cmp_int (n : Int)) (by decide)
  have es := eq_same (cmp_intsL (ni (List.range n))) (by decide)
  have ai := all_int (l := ni p) (by rw [ni_len, m.len]; omega) (fun x hx => by
    obtain ⟨y, hy, rfl⟩ := List.mem_map.1 hx
    have := m.lt y hy
    omega) (.val (.int (n : Nat))) .un
  have r : fnR 3 b_is_move_in [.int (n : Nat), mv p] [] = .ok (.bl true) [] := by
    rw [ap_fnR, b_is_move_in]
    simp only [List.map_cons, List.map_nil, List.length_cons, List.length_nil, List.replicate, List.cons_append, List.nil_append]
    have lr := lstRg_ok (fe := nS 0) (τ := [.val (.int (n : Nat)), .val (mv p), .un]) (h := []) (n := n) rfl (by omega)
    simp only [ap_iSub, ap_addD, ap_mulD, ap_iLt, ap_iLe, ap_iGt, ap_iGe, ap_iMod, ap_iDiv, ap_ifR, ap_nS, ap_nB, ap_kD, ap_aN, ap_tY, ap_oN, ap_oS, ap_rT, ap_xS, ap_bkS, ap_ctS, ap_noS, ap_rN, ap_frS, ap_mN, ap_shR, ap_seqS, ap_iteS, ap_cmpT, ap_setS, ap_setN, ap_nilS, ap_res1, ap_res2, ap_refIxR, ap_rputS, ap_consR, ap_callR, ap_biR, ap_isiR, ap_bAndR, ap_bNotR, ap_bOrR, ap_chR, ap_chT, ap_truR, ap_tNotR, ap_tAndR, ap_tOrR, ap_seqR, ap_rngR1, ap_rngR2, ap_enumR, ap_sliceR, ap_tupR, ap_lstR, ap_starR, ap_augS, ap_asgS, ap_par2, ap_ownM, ap_valM, ap_appS, ap_extS, ap_putS, ap_revR, rb_ok, rn_ok, ro_ok, tr_some, getS, getB, toRes, List.getElem?_cons_succ, List.getElem?_cons_zero, ty_tup, D.tru, Bool.not_true, Bool.false_eq_true, if_false, lenG, List.length_map, ni_len, m.len, ne0, ai, all_true, sortsD_tints, sort_mv m, lr, es]
  rw [d_is_move_in, pureF_ok (by simp [noRefs, D.noRef, noRefs_ints]) r]
theorem is_move_ok {n : Nat} {p : List Nat} (m : Mv n p) (h1 : 1 ≤ n) (hn : n ≤ 24) (h : HS) : d_is_move [mv p] h = .ok (.bl true) h := by
  have r : fnR 1 b_is_move [mv p] [] = .ok (.bl true) [] := by
    rw [ap_fnR, b_is_move]
    simp only [List.map_cons, List.map_nil, List.length_cons, List.length_nil, List.replicate, List.cons_append, List.nil_append]
    have l1 : decide ((1 : Int) ≤ (n : Int)) = true := decide_eq_true (by omega)
    have l2 : decide ((n : Int) ≤ 24) = true := decide_eq_true (by omega)
    simp only [ap_iSub, ap_addD, ap_mulD, ap_iLt, ap_iLe, ap_iGt, ap_iGe, ap_iMod, ap_iDiv, ap_ifR, ap_nS, ap_nB, ap_kD, ap_aN, ap_tY, ap_oN, ap_oS, ap_rT, ap_xS, ap_bkS, ap_ctS, ap_noS, ap_rN, ap_frS, ap_mN, ap_shR, ap_seqS, ap_iteS, ap_cmpT, ap_setS, ap_setN, ap_nilS, ap_res1, ap_res2, ap_refIxR, ap_rputS, ap_consR, ap_callR, ap_biR, ap_isiR, ap_bAndR, ap_bNotR, ap_bOrR, ap_chR, ap_chT, ap_truR, ap_tNotR, ap_tAndR, ap_tOrR, ap_seqR, ap_rngR1, ap_rngR2, ap_enumR, ap_sliceR, ap_tupR, ap_lstR, ap_starR, ap_augS, ap_asgS, ap_par2, ap_ownM, ap_valM, ap_appS, ap_extS, ap_putS, ap_revR, rb_ok, rn_ok, ro_ok, tr_some, getS, getB, toRes, List.getElem?_cons_succ, List.getElem?_cons_zero, ty_tup, if_true, lenG, List.length_map, ni_len, m.len, l1, l2, List.length_cons, List.length_nil, move_in_ok m (by omega)]
  rw [d_is_move, pureF_ok (by simp [noRefs, D.noRef, noRefs_ints]) r]
theorem idle_ok {n : Nat} (hn : n ≤ 1000) (h : HS) : d_idle_in [.int (n : Nat)] h = .ok (mv (List.range n)) h := by
  have r : fnR 1 b_idle_in [.int (n : Nat)] [] = .ok (mv (List.range n)) [] := by
    rw [ap_fnR, b_idle_in]
    have lr := tupRg_ok (fe := nS 0) (τ := [.val (.int (n : Nat))]) (h := []) (n := n) rfl (by omega)
    simp only [List.map_cons, List.map_nil, List.length_cons, List.length_nil, List.replicate, List.cons_append, List.nil_append, Nat.zero_add, Nat.sub_self]
    simp only [ap_iSub, ap_addD, ap_mulD, ap_iLt, ap_iLe, ap_iGt, ap_iGe, ap_iMod, ap_iDiv, ap_ifR, ap_nS, ap_nB, ap_kD, ap_aN, ap_tY, ap_oN, ap_oS, ap_rT, ap_xS, ap_bkS, ap_ctS, ap_noS, ap_rN, ap_frS, ap_mN, ap_shR, ap_seqS, ap_iteS, ap_cmpT, ap_setS, ap_setN, ap_nilS, ap_res1, ap_res2, ap_refIxR, ap_rputS, ap_consR, ap_callR, ap_biR, ap_isiR, ap_bAndR, ap_bNotR, ap_bOrR, ap_chR, ap_chT, ap_truR, ap_tNotR, ap_tAndR, ap_tOrR, ap_seqR, ap_rngR1, ap_rngR2, ap_enumR, ap_sliceR, ap_tupR, ap_lstR, ap_starR, ap_augS, ap_asgS, ap_par2, ap_ownM, ap_valM, ap_appS, ap_extS, ap_putS, ap_revR, rb_ok, rn_ok, ro_ok, tr_some, getS, getB, toRes, List.getElem?_cons_succ, List.getElem?_cons_zero, lr]
  rw [d_idle_in, pureF_ok (by simp [noRefs, D.noRef]) r]
theorem behind_in_ok {n : Nat} {p q : List Nat} (m : Mv n p) (m' : Mv n q) (hn : n ≤ 100) (h : HS) : d_behind_in [mv p, mv q] h = .ok (mv (seqM p q)) h := by
  have fl : fits p.length = true := fits_of (by rw [m.len]; omega)
  have e : lcL (gN 2) tY (res2 atD (nS 1) (nS 2)) [.val (mv p), .val (mv q), .un] (p.map fun i => .int (i : Nat)) [] = .ok (p.map fun i => .int (ap q i : Nat)) [] := by
    refine lcL_all (fun i : Nat => .int (i : Nat)) _ _ fun i hi => ⟨_, rfl, ?_⟩
    have a := at_tup (ni_get (ap_get (p := q) (i := i) (by rw [m'.len]; exact m.lt i hi)))
    simp only [ap_iSub, ap_addD, ap_mulD, ap_iLt, ap_iLe, ap_iGt, ap_iGe, ap_iMod, ap_iDiv, ap_ifR, ap_nS, ap_nB, ap_kD, ap_aN, ap_tY, ap_oN, ap_oS, ap_rT, ap_xS, ap_bkS, ap_ctS, ap_noS, ap_rN, ap_frS, ap_mN, ap_shR, ap_seqS, ap_iteS, ap_cmpT, ap_setS, ap_setN, ap_nilS, ap_res1, ap_res2, ap_refIxR, ap_rputS, ap_consR, ap_callR, ap_biR, ap_isiR, ap_bAndR, ap_bNotR, ap_bOrR, ap_chR, ap_chT, ap_truR, ap_tNotR, ap_tAndR, ap_tOrR, ap_seqR, ap_rngR1, ap_rngR2, ap_enumR, ap_sliceR, ap_tupR, ap_lstR, ap_starR, ap_augS, ap_asgS, ap_par2, ap_ownM, ap_valM, ap_appS, ap_extS, ap_putS, ap_revR, rb_ok, rn_ok, ro_ok, tr_some, getS, getB, toRes, List.set, List.getElem?_cons_succ, List.getElem?_cons_zero, a]
  have a1 : lcR (seqR (nS 0)) [2] (gN 2) tY (res2 atD (nS 1) (nS 2)) [.val (mv p), .val (mv q), .un] [] = .ok (.lst ((ni (seqM p q)).map .int)) [] := by
    rw [← ni_map] at e
    simp only [ap_iSub, ap_addD, ap_mulD, ap_iLt, ap_iLe, ap_iGt, ap_iGe, ap_iMod, ap_iDiv, ap_ifR, ap_nS, ap_nB, ap_kD, ap_aN, ap_tY, ap_oN, ap_oS, ap_rT, ap_xS, ap_bkS, ap_ctS, ap_noS, ap_rN, ap_frS, ap_mN, ap_shR, ap_seqS, ap_iteS, ap_cmpT, ap_setS, ap_setN, ap_nilS, ap_res1, ap_res2, ap_refIxR, ap_rputS, ap_consR, ap_callR, ap_biR, ap_isiR, ap_bAndR, ap_bNotR, ap_bOrR, ap_chR, ap_chT, ap_truR, ap_tNotR, ap_tAndR, ap_tOrR, ap_seqR, ap_rngR1, ap_rngR2, ap_enumR, ap_sliceR, ap_tupR, ap_lstR, ap_starR, ap_augS, ap_asgS, ap_par2, ap_ownM, ap_valM, ap_appS, ap_extS, ap_putS, ap_revR, rb_ok, rn_ok, ro_ok, tr_some, getS, getB, toRes, ap_lcR, List.getElem?_cons_zero, List.getElem?_cons_succ, List.length_map, ni_len, fl, if_true, wipeT, List.set, e]
    rw [ni_map, List.map_map]; rfl
  have r : fnR 3 b_behind_in [mv p, mv q] [] = .ok (mv (seqM p q)) [] := by
    rw [ap_fnR, b_behind_in]
    simp only [List.map_cons, List.map_nil, List.length_cons, List.length_nil, List.replicate, List.cons_append, List.nil_append]
    simp only [ap_iSub, ap_addD, ap_mulD, ap_iLt, ap_iLe, ap_iGt, ap_iGe, ap_iMod, ap_iDiv, ap_ifR, ap_nS, ap_nB, ap_kD, ap_aN, ap_tY, ap_oN, ap_oS, ap_rT, ap_xS, ap_bkS, ap_ctS, ap_noS, ap_rN, ap_frS, ap_mN, ap_shR, ap_seqS, ap_iteS, ap_cmpT, ap_setS, ap_setN, ap_nilS, ap_res1, ap_res2, ap_refIxR, ap_rputS, ap_consR, ap_callR, ap_biR, ap_isiR, ap_bAndR, ap_bNotR, ap_bOrR, ap_chR, ap_chT, ap_truR, ap_tNotR, ap_tAndR, ap_tOrR, ap_seqR, ap_rngR1, ap_rngR2, ap_enumR, ap_sliceR, ap_tupR, ap_lstR, ap_starR, ap_augS, ap_asgS, ap_par2, ap_ownM, ap_valM, ap_appS, ap_extS, ap_putS, ap_revR, rb_ok, rn_ok, ro_ok, tr_some, getS, getB, toRes, a1, tupG]
  rw [d_behind_in, pureF_ok (by simp [noRefs, D.noRef, noRefs_ints]) r]
theorem cyc_while {n : Nat} {p : List Nat} {cs : List (List Nat)} (m : Mv n p) (hn : n ≤ 100) (P : Cy.Prt (ap p) n cs) (fd : List D) (s3 : Sl) : ∀ (F x : Nat) (r : List Nat) (y : Nat), Cy.Way (ap p) n cs x r y → n < r.length + F + 1 →
    ∃ r', Cy.Way (ap p) n cs x r' x ∧ whileS (tNotR (truR (res2 atD (nB 1) (nS 5)))) (seqS (putS 1 (nS 5) (kD (.bl true)))
    (seqS (appS 4 (nS 5))
    (setS 5 (res2 atD (nS 0) (nS 5))))) F [.val (mv p), .own (mb n (cs.flatten ++ x :: r)), .own fd, s3, .own ((ni (x :: r)).map .int), .val (.int (y : Nat))] [] =
      .nx [.val (mv p), .own (mb n (cs.flatten ++ x :: r')), .own fd, s3, .own ((ni (x :: r')).map .int), .val (.int (x : Nat))] []
  | 0, x, r, y, w, hF => by have := Cy.way_len w; omega
  | F + 1, x, r, y, w, hF => by
    obtain ⟨w1, w2, w3⟩ := Cy.way_meets m.inj P w
    have g := at_lst (mb_get (n := n) (S := cs.flatten ++ x :: r) w1)
    by_cases e : y = x
    · subst e
      refine ⟨r, w, ?_⟩
      have d : decide (y ∈ cs.flatten ++ y :: r) = true := decide_eq_true (by simp)
      rw [d] at g
      rw [ap_whileS]
      simp only [ap_iSub, ap_addD, ap_mulD, ap_iLt, ap_iLe, ap_iGt, ap_iGe, ap_iMod, ap_iDiv, ap_ifR, ap_nS, ap_nB, ap_kD, ap_aN, ap_tY, ap_oN, ap_oS, ap_rT, ap_xS, ap_bkS, ap_ctS, ap_noS, ap_rN, ap_frS, ap_mN, ap_shR, ap_seqS, ap_iteS, ap_cmpT, ap_setS, ap_setN, ap_nilS, ap_res1, ap_res2, ap_refIxR, ap_rputS, ap_consR, ap_callR, ap_biR, ap_isiR, ap_bAndR, ap_bNotR, ap_bOrR, ap_chR, ap_chT, ap_truR, ap_tNotR, ap_tAndR, ap_tOrR, ap_seqR, ap_rngR1, ap_rngR2, ap_enumR, ap_sliceR, ap_tupR, ap_lstR, ap_starR, ap_augS, ap_asgS, ap_par2, ap_ownM, ap_valM, ap_appS, ap_extS, ap_putS, ap_revR, rb_ok, rn_ok, ro_ok, tr_some, getS, getB, toRes, List.getElem?_cons_succ, List.getElem?_cons_zero, g, D.tru, Bool.not_true, Bool.false_eq_true, if_false]
    · have ny : ¬ y ∈ cs.flatten ++ x :: r := fun q => by
        rcases List.mem_append.1 q with q | q
        · exact w2 q
        · exact e (w3.1 q)
      rw [decide_eq_false ny] at g
      obtain ⟨r', w', ih⟩ := cyc_while m hn P fd s3 F x (r ++ [y]) (ap p y) (Cy.way_step m.inj P w e) (by rw [List.length_append]; simp; omega)
      refine ⟨r', w', ?_⟩
      have ix : L2.ixN (mb n (cs.flatten ++ x :: r)).length (y : Nat) = some y := ixN_nat (by rw [mb_len]; exact w1)
      have st := mb_set (n := n) (S := cs.flatten ++ x :: r) w1
      have gp := at_tup (ni_get (ap_get (p := p) (i := y) (by rw [m.len]; exact w1)))
      have hl : ((ni (x :: r)).map D.int).length < sizeLine := by
        rw [List.length_map, ni_len, List.length_cons]
        have := Cy.way_len w
        exact Nat.lt_trans (by omega) sl1000000
      have e1 : (ni (x :: (r ++ [y]))).map D.int = (ni (x :: r)).map D.int ++ [.int (y : Nat)] := by
        rw [show x :: (r ++ [y]) = (x :: r) ++ [y] from rfl, ni_app, List.map_append]; rfl
      have e2 : cs.flatten ++ x :: (r ++ [y]) = (cs.flatten ++ x :: r) ++ [y] := by simp
      rw [e1, e2] at ih
      rw [ap_whileS]
      simp only [ap_iSub, ap_addD, ap_mulD, ap_iLt, ap_iLe, ap_iGt, ap_iGe, ap_iMod, ap_iDiv, ap_ifR, ap_nS, ap_nB, ap_kD, ap_aN, ap_tY, ap_oN, ap_oS, ap_rT, ap_xS, ap_bkS, ap_ctS, ap_noS, ap_rN, ap_frS, ap_mN, ap_shR, ap_seqS, ap_iteS, ap_cmpT, ap_setS, ap_setN, ap_nilS, ap_res1, ap_res2, ap_refIxR, ap_rputS, ap_consR, ap_callR, ap_biR, ap_isiR, ap_bAndR, ap_bNotR, ap_bOrR, ap_chR, ap_chT, ap_truR, ap_tNotR, ap_tAndR, ap_tOrR, ap_seqR, ap_rngR1, ap_rngR2, ap_enumR, ap_sliceR, ap_tupR, ap_lstR, ap_starR, ap_augS, ap_asgS, ap_par2, ap_ownM, ap_valM, ap_appS, ap_extS, ap_putS, ap_revR, rb_ok, rn_ok, ro_ok, tr_some, getS, getB, toRes, List.getElem?_cons_succ, List.getElem?_cons_zero, g, D.tru, Bool.not_false, if_true, ix, st, List.set, decide_eq_true hl, gp]
      exact ih
theorem cycles_ok {n : Nat} {p : List Nat} (m : Mv n p) (hn : n ≤ 60) : ∃ cs : List (List Nat), Cy.Dec (ap p) n cs ∧ ∀ h, d_cycles_in [mv p] h = .ok (.lst (cs.map mv)) h := by
  have f1 : fits 1 = true := fits_of (by decide)
  have f0 : fits 0 = true := fits_of (by decide)
  obtain ⟨τ2, h2, e, ⟨cs, s3, s4, s5, rfl, P, hd⟩, rfl⟩ := forS_inv (fun i : Nat => .int (0 + (i : Nat))) (fun done τ h => (∃ (cs : List (List Nat)) (s3 s4 s5 : Sl), τ = [.val (mv p), .own (mb n cs.flatten), .own (cs.map mv), s3, s4, s5] ∧ Cy.Prt (ap p) n cs ∧ ∀ i ∈ done, i ∈ cs.flatten) ∧ h = [])
    (g := gN 3) (b := iteS (tNotR (truR (res2 atD (nB 1) (nS 3)))) (seqS (par2 4 5 (ownM (lstR aN) (valM (nS 3) mN)))
    (seqS (whileS (tNotR (truR (res2 atD (nB 1) (nS 5)))) (seqS (putS 1 (nS 5) (kD (.bl true)))
    (seqS (appS 4 (nS 5))
    (setS 5 (res2 atD (nS 0) (nS 5))))) 64)
    (appS 2 (biR tupG (consR (nB 4) aN))))) nilS) (List.range n) [] [.val (mv p), .own (mb n []), .own [], .un, .un, .un] [] ⟨⟨[], _, _, _, rfl, Cy.prt_nil, fun i hi => by cases hi⟩, rfl⟩ fun done x τ h hi hx => by
      obtain ⟨⟨cs, s3, s4, s5, rfl, P, hd⟩, rfl⟩ := hi
      have hx := List.mem_range.1 hx
      have g := at_lst (mb_get (n := n) (S := cs.flatten) hx)
      by_cases mx : x ∈ cs.flatten
      · rw [decide_eq_true mx] at g
        refine ⟨[.val (mv p), .own (mb n cs.flatten), .own (cs.map mv), .val (.int (x : Nat)), s4, s5], _, _, by simp [gN], ?_, ⟨cs, .val (.int (x : Nat)), s4, s5, rfl, P, fun i hi => ?_⟩, rfl⟩
        · rw [ap_iteS]
          simp only [ap_iSub, ap_addD, ap_mulD, ap_iLt, ap_iLe, ap_iGt, ap_iGe, ap_iMod, ap_iDiv, ap_ifR, ap_nS, ap_nB, ap_kD, ap_aN, ap_tY, ap_oN, ap_oS, ap_rT, ap_xS, ap_bkS, ap_ctS, ap_noS, ap_rN, ap_frS, ap_mN, ap_shR, ap_seqS, ap_iteS, ap_cmpT, ap_setS, ap_setN, ap_nilS, ap_res1, ap_res2, ap_refIxR, ap_rputS, ap_consR, ap_callR, ap_biR, ap_isiR, ap_bAndR, ap_bNotR, ap_bOrR, ap_chR, ap_chT, ap_truR, ap_tNotR, ap_tAndR, ap_tOrR, ap_seqR, ap_rngR1, ap_rngR2, ap_enumR, ap_sliceR, ap_tupR, ap_lstR, ap_starR, ap_augS, ap_asgS, ap_par2, ap_ownM, ap_valM, ap_appS, ap_extS, ap_putS, ap_revR, rb_ok, rn_ok, ro_ok, tr_some, getS, getB, toRes, List.getElem?_cons_succ, List.getElem?_cons_zero, g, D.tru, Bool.not_true, Bool.false_eq_true, if_false]
        · rcases List.mem_append.1 hi with hi | hi
          · exact hd i hi
          · simp only [List.mem_singleton] at hi; rw [hi]; exact mx
      · rw [decide_eq_false mx] at g
        obtain ⟨r', w', ew⟩ := cyc_while m (by omega) P (cs.map mv) (.val (.int (x : Nat))) 63 x [] (ap p x) (Cy.way_start hx mx) (by simp; omega)
        have P' := Cy.way_done P w'
        refine ⟨[.val (mv p), .own (mb n cs.flatten), .own (cs.map mv), .val (.int (x : Nat)), s4, s5], [.val (mv p), .own (mb n (cs.flatten ++ x :: r')), .own ((cs ++ [x :: r']).map mv), .val (.int (x : Nat)), .own ((ni (x :: r')).map .int), .val (.int (x : Nat))], [], by simp [gN], ?_, ⟨cs ++ [x :: r'], .val (.int (x : Nat)), .own ((ni (x :: r')).map .int), .val (.int (x : Nat)), by simp, P', fun i hi => ?_⟩, rfl⟩
        · have ix : L2.ixN (mb n cs.flatten).length (x : Nat) = some x := ixN_nat (by rw [mb_len]; exact hx)
          have st := mb_set (n := n) (S := cs.flatten) hx
          have gp := at_tup (ni_get (ap_get (p := p) (i := x) (by rw [m.len]; exact hx)))
          have hl : (cs.map mv).length < sizeLine := by
            rw [List.length_map]
            have l1 : ∀ c ∈ cs, 1 ≤ c.length := fun c hc => by
              have := P.cyc c hc
              cases c with
              | nil => exact this.elim
              | cons a c => simp
            have l2 : cs.length ≤ cs.flatten.length := by
              clear P' P w' ew st ix g mx hd
              induction cs with
              | nil => simp
              | cons c cs ih =>
                have h1 := l1 c List.mem_cons_self
                have h2 := ih fun d hd => l1 d (List.mem_cons_of_mem _ hd)
                rw [List.flatten_cons, List.length_append, List.length_cons]
                omega
            have l3 := Cy.nodup_sub P.nd P.lt
            exact Nat.lt_trans (by omega) sl1000000
          have s1 : par2 4 5 (ownM (lstR aN) (valM (nS 3) mN)) [.val (mv p), .own (mb n cs.flatten), .own (cs.map mv), .val (.int (x : Nat)), s4, s5] [] = .nx [.val (mv p), .own (mb n cs.flatten), .own (cs.map mv), .val (.int (x : Nat)), .own [], .val (.int (x : Nat))] [] := by
            simp only [ap_iSub, ap_addD, ap_mulD, ap_iLt, ap_iLe, ap_iGt, ap_iGe, ap_iMod, ap_iDiv, ap_ifR, ap_nS, ap_nB, ap_kD, ap_aN, ap_tY, ap_oN, ap_oS, ap_rT, ap_xS, ap_bkS, ap_ctS, ap_noS, ap_rN, ap_frS, ap_mN, ap_shR, ap_seqS, ap_iteS, ap_cmpT, ap_setS, ap_setN, ap_nilS, ap_res1, ap_res2, ap_refIxR, ap_rputS, ap_consR, ap_callR, ap_biR, ap_isiR, ap_bAndR, ap_bNotR, ap_bOrR, ap_chR, ap_chT, ap_truR, ap_tNotR, ap_tAndR, ap_tOrR, ap_seqR, ap_rngR1, ap_rngR2, ap_enumR, ap_sliceR, ap_tupR, ap_lstR, ap_starR, ap_augS, ap_asgS, ap_par2, ap_ownM, ap_valM, ap_appS, ap_extS, ap_putS, ap_revR, rb_ok, rn_ok, ro_ok, tr_some, getS, getB, toRes, List.getElem?_cons_succ, List.getElem?_cons_zero, List.length_nil, f0, if_true, ownSl, List.set]
          have s2 : whileS (tNotR (truR (res2 atD (nB 1) (nS 5)))) (seqS (putS 1 (nS 5) (kD (.bl true)))
    (seqS (appS 4 (nS 5))
    (setS 5 (res2 atD (nS 0) (nS 5))))) 64 [.val (mv p), .own (mb n cs.flatten), .own (cs.map mv), .val (.int (x : Nat)), .own [], .val (.int (x : Nat))] [] = .nx [.val (mv p), .own (mb n (cs.flatten ++ x :: r')), .own (cs.map mv), .val (.int (x : Nat)), .own ((ni (x :: r')).map .int), .val (.int (x : Nat))] [] := by
            have z : decide (([] : List D).length < sizeLine) = true := decide_eq_true (Nat.lt_trans (by decide) sl1000000)
            have t : tNotR (truR (res2 atD (nB 1) (nS 5))) [.val (mv p), .own (mb n cs.flatten), .own (cs.map mv), .val (.int (x : Nat)), .own [], .val (.int (x : Nat))] [] = .ok true [] := by
              simp only [ap_iSub, ap_addD, ap_mulD, ap_iLt, ap_iLe, ap_iGt, ap_iGe, ap_iMod, ap_iDiv, ap_ifR, ap_nS, ap_nB, ap_kD, ap_aN, ap_tY, ap_oN, ap_oS, ap_rT, ap_xS, ap_bkS, ap_ctS, ap_noS, ap_rN, ap_frS, ap_mN, ap_shR, ap_seqS, ap_iteS, ap_cmpT, ap_setS, ap_setN, ap_nilS, ap_res1, ap_res2, ap_refIxR, ap_rputS, ap_consR, ap_callR, ap_biR, ap_isiR, ap_bAndR, ap_bNotR, ap_bOrR, ap_chR, ap_chT, ap_truR, ap_tNotR, ap_tAndR, ap_tOrR, ap_seqR, ap_rngR1, ap_rngR2, ap_enumR, ap_sliceR, ap_tupR, ap_lstR, ap_starR, ap_augS, ap_asgS, ap_par2, ap_ownM, ap_valM, ap_appS, ap_extS, ap_putS, ap_revR, rb_ok, rn_ok, ro_ok, tr_some, getS, getB, toRes, List.getElem?_cons_succ, List.getElem?_cons_zero, g, D.tru, Bool.not_false]
            have b : seqS (putS 1 (nS 5) (kD (.bl true))) (seqS (appS 4 (nS 5)) (setS 5 (res2 atD (nS 0) (nS 5)))) [.val (mv p), .own (mb n cs.flatten), .own (cs.map mv), .val (.int (x : Nat)), .own [], .val (.int (x : Nat))] [] = .nx [.val (mv p), .own (mb n (cs.flatten ++ [x])), .own (cs.map mv), .val (.int (x : Nat)), .own ((ni [x]).map .int), .val (.int (ap p x : Nat))] [] := by
              simp only [ap_iSub, ap_addD, ap_mulD, ap_iLt, ap_iLe, ap_iGt, ap_iGe, ap_iMod, ap_iDiv, ap_ifR, ap_nS, ap_nB, ap_kD, ap_aN, ap_tY, ap_oN, ap_oS, ap_rT, ap_xS, ap_bkS, ap_ctS, ap_noS, ap_rN, ap_frS, ap_mN, ap_shR, ap_seqS, ap_iteS, ap_cmpT, ap_setS, ap_setN, ap_nilS, ap_res1, ap_res2, ap_refIxR, ap_rputS, ap_consR, ap_callR, ap_biR, ap_isiR, ap_bAndR, ap_bNotR, ap_bOrR, ap_chR, ap_chT, ap_truR, ap_tNotR, ap_tAndR, ap_tOrR, ap_seqR, ap_rngR1, ap_rngR2, ap_enumR, ap_sliceR, ap_tupR, ap_lstR, ap_starR, ap_augS, ap_asgS, ap_par2, ap_ownM, ap_valM, ap_appS, ap_extS, ap_putS, ap_revR, rb_ok, rn_ok, ro_ok, tr_some, getS, getB, toRes, List.getElem?_cons_succ, List.getElem?_cons_zero, if_true, ix, st, List.set, z, gp]
              rfl
            rw [while_t (n := 63) t b]
            exact ew
          have t : tNotR (truR (res2 atD (nB 1) (nS 3))) [.val (mv p), .own (mb n cs.flatten), .own (cs.map mv), .val (.int (x : Nat)), s4, s5] [] = .ok true [] := by
            simp only [ap_iSub, ap_addD, ap_mulD, ap_iLt, ap_iLe, ap_iGt, ap_iGe, ap_iMod, ap_iDiv, ap_ifR, ap_nS, ap_nB, ap_kD, ap_aN, ap_tY, ap_oN, ap_oS, ap_rT, ap_xS, ap_bkS, ap_ctS, ap_noS, ap_rN, ap_frS, ap_mN, ap_shR, ap_seqS, ap_iteS, ap_cmpT, ap_setS, ap_setN, ap_nilS, ap_res1, ap_res2, ap_refIxR, ap_rputS, ap_consR, ap_callR, ap_biR, ap_isiR, ap_bAndR, ap_bNotR, ap_bOrR, ap_chR, ap_chT, ap_truR, ap_tNotR, ap_tAndR, ap_tOrR, ap_seqR, ap_rngR1, ap_rngR2, ap_enumR, ap_sliceR, ap_tupR, ap_lstR, ap_starR, ap_augS, ap_asgS, ap_par2, ap_ownM, ap_valM, ap_appS, ap_extS, ap_putS, ap_revR, rb_ok, rn_ok, ro_ok, tr_some, getS, getB, toRes, List.getElem?_cons_succ, List.getElem?_cons_zero, g, D.tru, Bool.not_false]
          rw [ite_t t, seq_nx s1, seq_nx s2]
          simp only [ap_iSub, ap_addD, ap_mulD, ap_iLt, ap_iLe, ap_iGt, ap_iGe, ap_iMod, ap_iDiv, ap_ifR, ap_nS, ap_nB, ap_kD, ap_aN, ap_tY, ap_oN, ap_oS, ap_rT, ap_xS, ap_bkS, ap_ctS, ap_noS, ap_rN, ap_frS, ap_mN, ap_shR, ap_seqS, ap_iteS, ap_cmpT, ap_setS, ap_setN, ap_nilS, ap_res1, ap_res2, ap_refIxR, ap_rputS, ap_consR, ap_callR, ap_biR, ap_isiR, ap_bAndR, ap_bNotR, ap_bOrR, ap_chR, ap_chT, ap_truR, ap_tNotR, ap_tAndR, ap_tOrR, ap_seqR, ap_rngR1, ap_rngR2, ap_enumR, ap_sliceR, ap_tupR, ap_lstR, ap_starR, ap_augS, ap_asgS, ap_par2, ap_ownM, ap_valM, ap_appS, ap_extS, ap_putS, ap_revR, rb_ok, rn_ok, ro_ok, tr_some, getS, getB, toRes, List.getElem?_cons_succ, List.getElem?_cons_zero, decide_eq_true hl, tupG, if_true, List.set, List.map_append, List.map_cons, List.map_nil]
        · rw [List.flatten_append, List.mem_append]
          rcases List.mem_append.1 hi with hi | hi
          · exact .inl (hd i hi)
          · simp only [List.mem_singleton] at hi
            subst hi
            exact .inr (by simp)
  refine ⟨cs, Cy.prt_dec P fun x hx => hd x (List.mem_append_right _ (List.mem_range.2 hx)), fun h => ?_⟩
  have rp := rep_ok (x := .bl false) (n := n) (by omega)
  rw [mb_nil] at rp
  have r : fnR 6 b_cycles_in [mv p] [] = .ok (.lst (cs.map mv)) [] := by
    refine fn_rt (τ := [.val (mv p), .un, .un, .un, .un, .un]) rfl ?_
    rw [b_cycles_in]
    have e0 : par2 1 2 (ownM (res2 repL (lstR (consR (kD (.bl false)) aN)) (biR lenG (consR (nS 0) aN))) (ownM (lstR aN) mN)) [.val (mv p), .un, .un, .un, .un, .un] [] = .nx [.val (mv p), .own (mb n []), .own [], .un, .un, .un] [] := by
      simp only [ap_iSub, ap_addD, ap_mulD, ap_iLt, ap_iLe, ap_iGt, ap_iGe, ap_iMod, ap_iDiv, ap_ifR, ap_nS, ap_nB, ap_kD, ap_aN, ap_tY, ap_oN, ap_oS, ap_rT, ap_xS, ap_bkS, ap_ctS, ap_noS, ap_rN, ap_frS, ap_mN, ap_shR, ap_seqS, ap_iteS, ap_cmpT, ap_setS, ap_setN, ap_nilS, ap_res1, ap_res2, ap_refIxR, ap_rputS, ap_consR, ap_callR, ap_biR, ap_isiR, ap_bAndR, ap_bNotR, ap_bOrR, ap_chR, ap_chT, ap_truR, ap_tNotR, ap_tAndR, ap_tOrR, ap_seqR, ap_rngR1, ap_rngR2, ap_enumR, ap_sliceR, ap_tupR, ap_lstR, ap_starR, ap_augS, ap_asgS, ap_par2, ap_ownM, ap_valM, ap_appS, ap_extS, ap_putS, ap_revR, rb_ok, rn_ok, ro_ok, tr_some, getS, getB, toRes, List.getElem?_cons_succ, List.getElem?_cons_zero, List.length_cons, List.length_nil, Nat.zero_add, f1, f0, if_true, lenG, List.length_map, ni_len, m.len, rp, ownSl, List.set]
    have ln : biR lenG (consR (nS 0) aN) [.val (mv p), .own (mb n []), .own [], .un, .un, .un] [] = .ok (.int (n : Nat)) [] := by
      simp only [ap_iSub, ap_addD, ap_mulD, ap_iLt, ap_iLe, ap_iGt, ap_iGe, ap_iMod, ap_iDiv, ap_ifR, ap_nS, ap_nB, ap_kD, ap_aN, ap_tY, ap_oN, ap_oS, ap_rT, ap_xS, ap_bkS, ap_ctS, ap_noS, ap_rN, ap_frS, ap_mN, ap_shR, ap_seqS, ap_iteS, ap_cmpT, ap_setS, ap_setN, ap_nilS, ap_res1, ap_res2, ap_refIxR, ap_rputS, ap_consR, ap_callR, ap_biR, ap_isiR, ap_bAndR, ap_bNotR, ap_bOrR, ap_chR, ap_chT, ap_truR, ap_tNotR, ap_tAndR, ap_tOrR, ap_seqR, ap_rngR1, ap_rngR2, ap_enumR, ap_sliceR, ap_tupR, ap_lstR, ap_starR, ap_augS, ap_asgS, ap_par2, ap_ownM, ap_valM, ap_appS, ap_extS, ap_putS, ap_revR, rb_ok, rn_ok, ro_ok, tr_some, getS, getB, toRes, List.getElem?_cons_succ, List.getElem?_cons_zero, lenG, List.length_map, ni_len, m.len]
    rw [seq_nx e0, seq_nx (for_of (rng1_of ln (by omega)) e)]
    simp only [ap_frS, ap_rT, ap_nS, frzT, getS, List.getElem?_cons_succ, List.getElem?_cons_zero, List.set, ro_ok]
  rw [d_cycles_in, pureF_ok (by simp [noRefs, D.noRef, noRefs_ints]) r]
theorem least_in_ok {n : Nat} {p : List Nat} (m : Mv n p) (hn : n ≤ 24) (h : HS) : d_least_in [mv p] h = .ok (.int ((n : Int) - (Cy.ncyc (ap p) n : Nat))) h := by
  obtain ⟨cs, d, e⟩ := cycles_ok m (by omega)
  have r : fnR 1 b_least_in [mv p] [] = .ok (.int ((n : Int) - (Cy.ncyc (ap p) n : Nat))) [] := by
    refine fn_rt (τ := [.val (mv p)]) rfl ?_
    rw [b_least_in]
    simp only [ap_iSub, ap_addD, ap_mulD, ap_iLt, ap_iLe, ap_iGt, ap_iGe, ap_iMod, ap_iDiv, ap_ifR, ap_nS, ap_nB, ap_kD, ap_aN, ap_tY, ap_oN, ap_oS, ap_rT, ap_xS, ap_bkS, ap_ctS, ap_noS, ap_rN, ap_frS, ap_mN, ap_shR, ap_seqS, ap_iteS, ap_cmpT, ap_setS, ap_setN, ap_nilS, ap_res1, ap_res2, ap_refIxR, ap_rputS, ap_consR, ap_callR, ap_biR, ap_isiR, ap_bAndR, ap_bNotR, ap_bOrR, ap_chR, ap_chT, ap_truR, ap_tNotR, ap_tAndR, ap_tOrR, ap_seqR, ap_rngR1, ap_rngR2, ap_enumR, ap_sliceR, ap_tupR, ap_lstR, ap_starR, ap_augS, ap_asgS, ap_par2, ap_ownM, ap_valM, ap_appS, ap_extS, ap_putS, ap_revR, rb_ok, rn_ok, ro_ok, tr_some, getS, getB, toRes, List.getElem?_cons_succ, List.getElem?_cons_zero, List.length_cons, List.length_nil, if_true, e, lenG, List.length_map, ni_len, m.len, Cy.dec_len d]
  rw [d_least_in, pureF_ok (by simp [noRefs, D.noRef, noRefs_ints]) r]
theorem shuf_step {α : Type} (f : α → D) (items : D) (fd lf : List α) (hz : fd.length + lf.length ≤ 1000) (hp0 : 0 < lf.length) {h : HS} {k : Nat} (hd : IsDice h k) (s4 : Sl) :
    ∃ (j : Nat) (x : α) (h' : HS), lf[j]? = some x ∧ IsDice h' k ∧ appPopS 3 2 (callR 2 d__law_roll (consR (nS 0) (consR (biR lenG (consR (nB 2) aN)) aN))) [.val (.ref k), .val items, .own (lf.map f), .own (fd.map f), s4] h = .nx [.val (.ref k), .val items, .own ((lf.eraseIdx j).map f), .own ((fd ++ [x]).map f), s4] h' := by
  obtain ⟨i, h1, e1, d1, i0, i1⟩ := roll_ok (m := (lf.length : Nat)) hd (by omega) (by omega)
  obtain ⟨j, rfl⟩ : ∃ j : Nat, i = (j : Nat) := ⟨i.toNat, by omega⟩
  have hj : j < lf.length := by omega
  have gj : (lf.map f)[j]? = some (f lf[j]) := by rw [List.getElem?_map, List.getElem?_eq_getElem hj]; rfl
  have pn := popN_at gj (by rw [List.length_map]; omega)
  have z : (fd.map f).length < sizeLine := by
    rw [List.length_map]
    exact Nat.lt_trans (show fd.length < 1000000 by omega) sl1000000
  refine ⟨j, lf[j], h1, List.getElem?_eq_getElem hj, d1, ?_⟩
  have ec : callR 2 d__law_roll (consR (nS 0) (consR (biR lenG (consR (nB 2) aN)) aN)) [.val (.ref k), .val items, .own (lf.map f), .own (fd.map f), s4] h = .ok (.int (j : Nat)) h1 := by
    rw [roll_eq]
    simp only [ap_iSub, ap_addD, ap_mulD, ap_iLt, ap_iLe, ap_iGt, ap_iGe, ap_iMod, ap_iDiv, ap_ifR, ap_nS, ap_nB, ap_kD, ap_aN, ap_tY, ap_oN, ap_oS, ap_rT, ap_xS, ap_bkS, ap_ctS, ap_noS, ap_rN, ap_frS, ap_mN, ap_shR, ap_seqS, ap_iteS, ap_cmpT, ap_setS, ap_setN, ap_nilS, ap_res1, ap_res2, ap_refIxR, ap_rputS, ap_consR, ap_callR, ap_biR, ap_isiR, ap_bAndR, ap_bNotR, ap_bOrR, ap_chR, ap_chT, ap_truR, ap_tNotR, ap_tAndR, ap_tOrR, ap_seqR, ap_rngR1, ap_rngR2, ap_enumR, ap_sliceR, ap_tupR, ap_lstR, ap_starR, ap_augS, ap_asgS, ap_par2, ap_ownM, ap_valM, ap_appS, ap_extS, ap_putS, ap_revR, rb_ok, rn_ok, ro_ok, tr_some, getS, getB, toRes, List.getElem?_cons_succ, List.getElem?_cons_zero, List.length_cons, List.length_nil, if_true, lenG, List.length_map, e1]
  rw [appPop_of (i := 3) (j := 2) (xs := fd.map f) (ys := lf.map f) rfl rfl ec pn z (by decide), erase_map]
  simp only [List.set, List.map_append, List.map_cons, List.map_nil]
theorem shuffled_ok {α : Type} (f : α → D) (l : List α) (hz : l.length ≤ 1000) {h : HS} {k : Nat} (hd : IsDice h k) : ∃ (l' : List α) (h' : HS), d__law_shuffled [.ref k, .lst (l.map f)] h = .ok (.lst (l'.map f)) h' ∧ IsDice h' k ∧ l'.Perm l := by
  obtain ⟨τ2, h2, e, fd, lf, s4, rfl, hd2, hp, hl⟩ := forS_at (fun i : Nat => .int (0 + (i : Nat))) (List.range l.length) (fun done τ h => ∃ (fd lf : List α) (s4 : Sl), τ = [.val (.ref k), .val (.lst (l.map f)), .own (lf.map f), .own (fd.map f), s4] ∧ IsDice h k ∧ (fd ++ lf).Perm l ∧ lf.length + done.length = l.length)
    (g := gN 4) (b := appPopS 3 2 (callR 2 d__law_roll (consR (nS 0) (consR (biR lenG (consR (nB 2) aN)) aN)))) (fun done x r τ h ea hi => by
      obtain ⟨fd, lf, s4, rfl, hd, hp, hl⟩ := hi
      have hlen : done.length < l.length := by
        have := congrArg List.length ea
        rw [List.length_range, List.length_append, List.length_cons] at this
        omega
      have hl3 := hp.length_eq
      rw [List.length_append] at hl3
      obtain ⟨j, y, h1, gj, d1, es⟩ := shuf_step f (.lst (l.map f)) fd lf (by omega) (by omega) hd (.val (.int (x : Nat)))
      have hj := (List.getElem?_eq_some_iff.mp gj).1
      refine ⟨[.val (.ref k), .val (.lst (l.map f)), .own (lf.map f), .own (fd.map f), .val (.int (x : Nat))], [.val (.ref k), .val (.lst (l.map f)), .own ((lf.eraseIdx j).map f), .own ((fd ++ [y]).map f), .val (.int (x : Nat))], h1, by simp [gN], es, ⟨_, _, _, rfl, d1, ?_, ?_⟩⟩
      · rw [List.append_assoc]
        exact ((erase_perm gj).append_left fd).trans hp
      · rw [List.length_eraseIdx_of_lt hj, List.length_append, List.length_cons, List.length_nil]
        omega) (List.range l.length) [] [.val (.ref k), .val (.lst (l.map f)), .own (l.map f), .own ([].map f), .un] h rfl ⟨[], l, _, rfl, hd, .refl _, by simp⟩
  have h0 : lf = [] := by
    rw [List.length_range] at hl
    exact List.length_eq_zero_iff.mp (by omega)
  subst h0
  rw [List.append_nil] at hp
  refine ⟨fd, h2, ?_, hd2, hp⟩
  have f0 : fits 0 = true := fits_of (by decide)
  refine fn_rt (τ := [.val (.ref k), .val (.lst (l.map f)), .un, .un, .un]) rfl ?_
  rw [b__law_shuffled]
  have e0 : par2 2 3 (ownM (biR listG (consR (nS 1) aN)) (ownM (lstR aN) mN)) [.val (.ref k), .val (.lst (l.map f)), .un, .un, .un] h = .nx [.val (.ref k), .val (.lst (l.map f)), .own (l.map f), .own ([].map f), .un] h := by
    simp only [ap_iSub, ap_addD, ap_mulD, ap_iLt, ap_iLe, ap_iGt, ap_iGe, ap_iMod, ap_iDiv, ap_ifR, ap_nS, ap_nB, ap_kD, ap_aN, ap_tY, ap_oN, ap_oS, ap_rT, ap_xS, ap_bkS, ap_ctS, ap_noS, ap_rN, ap_frS, ap_mN, ap_shR, ap_seqS, ap_iteS, ap_cmpT, ap_setS, ap_setN, ap_nilS, ap_res1, ap_res2, ap_refIxR, ap_rputS, ap_consR, ap_callR, ap_biR, ap_isiR, ap_bAndR, ap_bNotR, ap_bOrR, ap_chR, ap_chT, ap_truR, ap_tNotR, ap_tAndR, ap_tOrR, ap_seqR, ap_rngR1, ap_rngR2, ap_enumR, ap_sliceR, ap_tupR, ap_lstR, ap_starR, ap_augS, ap_asgS, ap_par2, ap_ownM, ap_valM, ap_appS, ap_extS, ap_putS, ap_revR, rb_ok, rn_ok, ro_ok, tr_some, getS, getB, toRes, List.getElem?_cons_succ, List.getElem?_cons_zero, List.length_nil, f0, if_true, listG, ownSl, List.set, List.map_nil]
  have ln : biR lenG (consR (nS 1) aN) [.val (.ref k), .val (.lst (l.map f)), .own (l.map f), .own ([].map f), .un] h = .ok (.int (l.length : Nat)) h := by
    simp only [ap_iSub, ap_addD, ap_mulD, ap_iLt, ap_iLe, ap_iGt, ap_iGe, ap_iMod, ap_iDiv, ap_ifR, ap_nS, ap_nB, ap_kD, ap_aN, ap_tY, ap_oN, ap_oS, ap_rT, ap_xS, ap_bkS, ap_ctS, ap_noS, ap_rN, ap_frS, ap_mN, ap_shR, ap_seqS, ap_iteS, ap_cmpT, ap_setS, ap_setN, ap_nilS, ap_res1, ap_res2, ap_refIxR, ap_rputS, ap_consR, ap_callR, ap_biR, ap_isiR, ap_bAndR, ap_bNotR, ap_bOrR, ap_chR, ap_chT, ap_truR, ap_tNotR, ap_tAndR, ap_tOrR, ap_seqR, ap_rngR1, ap_rngR2, ap_enumR, ap_sliceR, ap_tupR, ap_lstR, ap_starR, ap_augS, ap_asgS, ap_par2, ap_ownM, ap_valM, ap_appS, ap_extS, ap_putS, ap_revR, rb_ok, rn_ok, ro_ok, tr_some, getS, getB, toRes, List.getElem?_cons_succ, List.getElem?_cons_zero, lenG, List.length_map]
  rw [seq_nx e0, seq_nx (for_of (rng1_of ln (by omega)) e)]
  simp only [ap_frS, ap_rT, ap_nS, frzT, getS, List.getElem?_cons_succ, List.getElem?_cons_zero, List.set, ro_ok]
theorem move_drawn_ok {n : Nat} (hn : n ≤ 100) {h : HS} {k : Nat} (hd : IsDice h k) : ∃ p h', d__law_move_drawn [.ref k, .int (n : Nat)] h = .ok (mv p) h' ∧ IsDice h' k ∧ Mv n p := by
  obtain ⟨p, h', e, hd', hp⟩ := shuffled_ok (fun i : Nat => .int (i : Nat)) (List.range n) (by rw [List.length_range]; omega) hd
  rw [← ni_map, ← ni_map] at e
  refine ⟨p, h', ?_, hd', .of_perm hp⟩
  refine fn_rt (τ := [.val (.ref k), .val (.int (n : Nat))]) rfl ?_
  rw [b__law_move_drawn]
  have lr := lstRg_ok (fe := nS 1) (τ := [.val (.ref k), .val (.int (n : Nat))]) (h := h) (n := n) rfl (by omega)
  simp only [ap_iSub, ap_addD, ap_mulD, ap_iLt, ap_iLe, ap_iGt, ap_iGe, ap_iMod, ap_iDiv, ap_ifR, ap_nS, ap_nB, ap_kD, ap_aN, ap_tY, ap_oN, ap_oS, ap_rT, ap_xS, ap_bkS, ap_ctS, ap_noS, ap_rN, ap_frS, ap_mN, ap_shR, ap_seqS, ap_iteS, ap_cmpT, ap_setS, ap_setN, ap_nilS, ap_res1, ap_res2, ap_refIxR, ap_rputS, ap_consR, ap_callR, ap_biR, ap_isiR, ap_bAndR, ap_bNotR, ap_bOrR, ap_chR, ap_chT, ap_truR, ap_tNotR, ap_tAndR, ap_tOrR, ap_seqR, ap_rngR1, ap_rngR2, ap_enumR, ap_sliceR, ap_tupR, ap_lstR, ap_starR, ap_augS, ap_asgS, ap_par2, ap_ownM, ap_valM, ap_appS, ap_extS, ap_putS, ap_revR, rb_ok, rn_ok, ro_ok, tr_some, getS, getB, toRes, List.getElem?_cons_succ, List.getElem?_cons_zero, List.length_cons, List.length_nil, if_true, lr, e, tupG]

theorem lbehind_eq : d__law_behind = d_behind_in := by kernel_rfl
theorem eq_int (x y : Int) : eqD (.int x) (.int y) = some (.bl (decide (x = y))) := by unfold eqD; rw [eqB_int]; rfl
theorem ne_int (x y : Int) : neD (.int x) (.int y) = some (.bl (!decide (x = y))) := by unfold neD; rw [eqB_int]; rfl
/-! ### the kind: as many members as cycles -/
theorem kind_while {n : Nat} {p : List Nat} {cs : List (List Nat)} (m : Mv n p) (hn : n ≤ 100) (P : Cy.Prt (ap p) n cs) (s1 : Sl) : ∀ (F x : Nat) (r : List Nat) (y : Nat), Cy.Way (ap p) n cs x r y → n < r.length + F + 1 →
    ∃ r', Cy.Way (ap p) n cs x r' x ∧ whileS (cmpT notInA (nS 5) (nB 2)) (seqS (appS 2 (nS 5))
    (par2 4 5 (valM (res2 addD (nS 4) (kD (.int 1))) (valM (res2 atD (nS 0) (nS 5)) mN)))) F [.val (mv p), s1, .own ((ni (cs.flatten ++ x :: r)).map .int), .val (.int (x : Nat)), .val (.int ((r.length : Nat) + 1 : Int)), .val (.int (y : Nat))] [] =
      .nx [.val (mv p), s1, .own ((ni (cs.flatten ++ x :: r')).map .int), .val (.int (x : Nat)), .val (.int ((r'.length : Nat) + 1 : Int)), .val (.int (x : Nat))] []
  | 0, x, r, y, w, hF => by have := Cy.way_len w; omega
  | F + 1, x, r, y, w, hF => by
    obtain ⟨w1, w2, w3⟩ := Cy.way_meets m.inj P w
    have g := notIn_lst y (cs.flatten ++ x :: r)
    by_cases e : y = x
    · subst e
      refine ⟨r, w, ?_⟩
      rw [decide_eq_true (show y ∈ cs.flatten ++ y :: r by simp)] at g
      refine while_f ?_
      simp only [ap_iSub, ap_addD, ap_mulD, ap_iLt, ap_iLe, ap_iGt, ap_iGe, ap_iMod, ap_iDiv, ap_ifR, ap_nS, ap_nB, ap_kD, ap_aN, ap_tY, ap_oN, ap_oS, ap_rT, ap_xS, ap_bkS, ap_ctS, ap_noS, ap_rN, ap_frS, ap_mN, ap_shR, ap_seqS, ap_iteS, ap_cmpT, ap_setS, ap_setN, ap_nilS, ap_res1, ap_res2, ap_refIxR, ap_rputS, ap_consR, ap_callR, ap_biR, ap_isiR, ap_bAndR, ap_bNotR, ap_bOrR, ap_chR, ap_chT, ap_truR, ap_tNotR, ap_tAndR, ap_tOrR, ap_seqR, ap_rngR1, ap_rngR2, ap_enumR, ap_sliceR, ap_tupR, ap_lstR, ap_starR, ap_augS, ap_asgS, ap_par2, ap_ownM, ap_valM, ap_appS, ap_extS, ap_putS, ap_revR, rb_ok, rn_ok, ro_ok, tr_some, getS, getB, toRes, List.getElem?_cons_succ, List.getElem?_cons_zero, g, Bool.not_true]
    · have ny : y ∉ cs.flatten ++ x :: r := fun h => (List.mem_append.1 h).elim w2 fun h => e (w3.1 h)
      rw [decide_eq_false ny] at g
      obtain ⟨r', w', ih⟩ := kind_while m hn P s1 F x (r ++ [y]) (ap p y) (Cy.way_step m.inj P w e) (by rw [List.length_append]; simp; omega)
      refine ⟨r', w', ?_⟩
      have gp := at_tup (ni_get (ap_get (p := p) (i := y) (by rw [m.len]; exact w1)))
      have l3 := Cy.nodup_sub P.nd P.lt
      have hl : ((ni (cs.flatten ++ x :: r)).map D.int).length < sizeLine := by
        rw [List.length_map, ni_len, List.length_append, List.length_cons]
        have := Cy.way_len w
        exact Nat.lt_trans (by omega) sl1000000
      have e1 : (ni (cs.flatten ++ x :: (r ++ [y]))).map D.int = (ni (cs.flatten ++ x :: r)).map D.int ++ [.int (y : Nat)] := by
        rw [show cs.flatten ++ x :: (r ++ [y]) = (cs.flatten ++ x :: r) ++ [y] by simp, ni_app, List.map_append]; rfl
      have e2 : (((r ++ [y]).length : Nat) : Int) = (r.length : Int) + 1 := by rw [List.length_append]; simp
      rw [e1, e2] at ih
      rw [← ih]
      refine while_t (h1 := []) ?_ ?_
      · simp only [ap_iSub, ap_addD, ap_mulD, ap_iLt, ap_iLe, ap_iGt, ap_iGe, ap_iMod, ap_iDiv, ap_ifR, ap_nS, ap_nB, ap_kD, ap_aN, ap_tY, ap_oN, ap_oS, ap_rT, ap_xS, ap_bkS, ap_ctS, ap_noS, ap_rN, ap_frS, ap_mN, ap_shR, ap_seqS, ap_iteS, ap_cmpT, ap_setS, ap_setN, ap_nilS, ap_res1, ap_res2, ap_refIxR, ap_rputS, ap_consR, ap_callR, ap_biR, ap_isiR, ap_bAndR, ap_bNotR, ap_bOrR, ap_chR, ap_chT, ap_truR, ap_tNotR, ap_tAndR, ap_tOrR, ap_seqR, ap_rngR1, ap_rngR2, ap_enumR, ap_sliceR, ap_tupR, ap_lstR, ap_starR, ap_augS, ap_asgS, ap_par2, ap_ownM, ap_valM, ap_appS, ap_extS, ap_putS, ap_revR, rb_ok, rn_ok, ro_ok, tr_some, getS, getB, toRes, List.getElem?_cons_succ, List.getElem?_cons_zero, g, Bool.not_false]
      · simp only [ap_iSub, ap_addD, ap_mulD, ap_iLt, ap_iLe, ap_iGt, ap_iGe, ap_iMod, ap_iDiv, ap_ifR, ap_nS, ap_nB, ap_kD, ap_aN, ap_tY, ap_oN, ap_oS, ap_rT, ap_xS, ap_bkS, ap_ctS, ap_noS, ap_rN, ap_frS, ap_mN, ap_shR, ap_seqS, ap_iteS, ap_cmpT, ap_setS, ap_setN, ap_nilS, ap_res1, ap_res2, ap_refIxR, ap_rputS, ap_consR, ap_callR, ap_biR, ap_isiR, ap_bAndR, ap_bNotR, ap_bOrR, ap_chR, ap_chT, ap_truR, ap_tNotR, ap_tAndR, ap_tOrR, ap_seqR, ap_rngR1, ap_rngR2, ap_enumR, ap_sliceR, ap_tupR, ap_lstR, ap_starR, ap_augS, ap_asgS, ap_par2, ap_ownM, ap_valM, ap_appS, ap_extS, ap_putS, ap_revR, rb_ok, rn_ok, ro_ok, tr_some, getS, getB, toRes, List.getElem?_cons_succ, List.getElem?_cons_zero, List.set, decide_eq_true hl, if_true, gp]
theorem lot_of_ok (ks : List Int) (h : HS) : d__law_lot_of [.lst (ks.map .int)] h = .ok (.tup ((sortI ks).reverse.map .int)) h := by
  have r : fnR 1 b__law_lot_of [.lst (ks.map .int)] [] = .ok (.tup ((sortI ks).reverse.map .int)) [] := by
    refine fn_rt (τ := [.val (.lst (ks.map .int))]) rfl ?_
    have s : sortsG [.lst (ks.map .int)] = some (.lst ((sortI ks).map .int)) := by
      simp only [sortsG, sortLG, Sw.ints_map, Option.map_some, Option.some_or]
    rw [b__law_lot_of]
    simp only [ap_iSub, ap_addD, ap_mulD, ap_iLt, ap_iLe, ap_iGt, ap_iGe, ap_iMod, ap_iDiv, ap_ifR, ap_nS, ap_nB, ap_kD, ap_aN, ap_tY, ap_oN, ap_oS, ap_rT, ap_xS, ap_bkS, ap_ctS, ap_noS, ap_rN, ap_frS, ap_mN, ap_shR, ap_seqS, ap_iteS, ap_cmpT, ap_setS, ap_setN, ap_nilS, ap_res1, ap_res2, ap_refIxR, ap_rputS, ap_consR, ap_callR, ap_biR, ap_isiR, ap_bAndR, ap_bNotR, ap_bOrR, ap_chR, ap_chT, ap_truR, ap_tNotR, ap_tAndR, ap_tOrR, ap_seqR, ap_rngR1, ap_rngR2, ap_enumR, ap_sliceR, ap_tupR, ap_lstR, ap_starR, ap_augS, ap_asgS, ap_par2, ap_ownM, ap_valM, ap_appS, ap_extS, ap_putS, ap_revR, rb_ok, rn_ok, ro_ok, tr_some, getS, getB, toRes, List.getElem?_cons_zero, s, tupG]
    rw [List.map_reverse]
  rw [d__law_lot_of, pureF_ok (by simp [noRefs, D.noRef, noRefs_ints]) r]
theorem cs_len {f : Nat → Nat} {n : Nat} {cs : List (List Nat)} (P : Cy.Prt f n cs) : cs.length ≤ n := by
  have l3 := Cy.nodup_sub P.nd P.lt
  have l1 : ∀ c ∈ cs, 1 ≤ c.length := fun c hc => by
    have := P.cyc c hc
    cases c with
    | nil => exact this.elim
    | cons a c => simp
  have l2 : cs.length ≤ cs.flatten.length := by
    clear l3 P
    induction cs with
    | nil => simp
    | cons c cs ih =>
      have h1 := l1 c List.mem_cons_self
      have h2 := ih fun d hd => l1 d (List.mem_cons_of_mem _ hd)
      rw [List.flatten_cons, List.length_append, List.length_cons]
      omega
  omega
abbrev kindB : DS := seqS (par2 4 5 (valM (kD (.int 0)) (valM (nS 3) mN)))
    (seqS (whileS (cmpT notInA (nS 5) (nB 2)) (seqS (appS 2 (nS 5))
    (par2 4 5 (valM (res2 addD (nS 4) (kD (.int 1))) (valM (res2 atD (nS 0) (nS 5)) mN)))) 64)
    (iteS (cmpT iGt (nS 4) (kD (.int 0))) (appS 1 (nS 4)) nilS))
theorem kind_ok {n : Nat} {p : List Nat} (m : Mv n p) (hn : n ≤ 60) : ∃ ks : List Int, ks.length = Cy.ncyc (ap p) n ∧ ∀ h, d__law_kind [mv p] h = .ok (.tup (ks.map .int)) h := by
  have f0 : fits 0 = true := fits_of (by decide)
  obtain ⟨τ2, h2, e, ⟨cs, ks, s3, s4, s5, rfl, P, hk, hd⟩, rfl⟩ := forS_inv (fun i : Nat => .int (0 + (i : Nat))) (fun done τ h => (∃ (cs : List (List Nat)) (ks : List Int) (s3 s4 s5 : Sl), τ = [.val (mv p), .own (ks.map .int), .own ((ni cs.flatten).map .int), s3, s4, s5] ∧ Cy.Prt (ap p) n cs ∧ ks.length = cs.length ∧ ∀ i ∈ done, i ∈ cs.flatten) ∧ h = [])
    (g := gN 3) (b := kindB) (List.range n) [] [.val (mv p), .own [], .own [], .un, .un, .un] [] ⟨⟨[], [], _, _, _, rfl, Cy.prt_nil, rfl, fun i hi => by cases hi⟩, rfl⟩ fun done x τ h hi hx => by
      obtain ⟨⟨cs, ks, s3, s4, s5, rfl, P, hk, hd⟩, rfl⟩ := hi
      have hx := List.mem_range.1 hx
      have g := notIn_lst x cs.flatten
      have s0 : par2 4 5 (valM (kD (.int 0)) (valM (nS 3) mN)) [.val (mv p), .own (ks.map .int), .own ((ni cs.flatten).map .int), .val (.int (x : Nat)), s4, s5] [] = .nx [.val (mv p), .own (ks.map .int), .own ((ni cs.flatten).map .int), .val (.int (x : Nat)), .val (.int 0), .val (.int (x : Nat))] [] := rfl
      by_cases mx : x ∈ cs.flatten
      · rw [decide_eq_true mx] at g
        refine ⟨[.val (mv p), .own (ks.map .int), .own ((ni cs.flatten).map .int), .val (.int (x : Nat)), s4, s5], [.val (mv p), .own (ks.map .int), .own ((ni cs.flatten).map .int), .val (.int (x : Nat)), .val (.int 0), .val (.int (x : Nat))], [], by simp [gN], ?_, ⟨cs, ks, _, _, _, rfl, P, hk, fun i hi => ?_⟩, rfl⟩
        · have s1 : whileS (cmpT notInA (nS 5) (nB 2)) (seqS (appS 2 (nS 5))
              (par2 4 5 (valM (res2 addD (nS 4) (kD (.int 1))) (valM (res2 atD (nS 0) (nS 5)) mN)))) 64 [.val (mv p), .own (ks.map .int), .own ((ni cs.flatten).map .int), .val (.int (x : Nat)), .val (.int 0), .val (.int (x : Nat))] [] = .nx [.val (mv p), .own (ks.map .int), .own ((ni cs.flatten).map .int), .val (.int (x : Nat)), .val (.int 0), .val (.int (x : Nat))] [] := by
            refine while_f ?_
            simp only [ap_iSub, ap_addD, ap_mulD, ap_iLt, ap_iLe, ap_iGt, ap_iGe, ap_iMod, ap_iDiv, ap_ifR, ap_nS, ap_nB, ap_kD, ap_aN, ap_tY, ap_oN, ap_oS, ap_rT, ap_xS, ap_bkS, ap_ctS, ap_noS, ap_rN, ap_frS, ap_mN, ap_shR, ap_seqS, ap_iteS, ap_cmpT, ap_setS, ap_setN, ap_nilS, ap_res1, ap_res2, ap_refIxR, ap_rputS, ap_consR, ap_callR, ap_biR, ap_isiR, ap_bAndR, ap_bNotR, ap_bOrR, ap_chR, ap_chT, ap_truR, ap_tNotR, ap_tAndR, ap_tOrR, ap_seqR, ap_rngR1, ap_rngR2, ap_enumR, ap_sliceR, ap_tupR, ap_lstR, ap_starR, ap_augS, ap_asgS, ap_par2, ap_ownM, ap_valM, ap_appS, ap_extS, ap_putS, ap_revR, rb_ok, rn_ok, ro_ok, tr_some, getS, getB, toRes, List.getElem?_cons_succ, List.getElem?_cons_zero, g, Bool.not_true]
          show kindB _ _ = _
          unfold kindB
          rw [seq_nx s0, seq_nx s1]
          rfl
        · rcases List.mem_append.1 hi with hi | hi
          · exact hd i hi
          · simp only [List.mem_singleton] at hi; rw [hi]; exact mx
      · rw [decide_eq_false mx] at g
        obtain ⟨r', w', ew⟩ := kind_while m (by omega) P (.own (ks.map .int)) 63 x [] (ap p x) (Cy.way_start hx mx) (by simp; omega)
        have P' := Cy.way_done P w'
        have l3 := Cy.nodup_sub P.nd P.lt
        have l4 := cs_len P
        have gp := at_tup (ni_get (ap_get (p := p) (i := x) (by rw [m.len]; exact hx)))
        have hl : ((ni cs.flatten).map D.int).length < sizeLine := by
          rw [List.length_map, ni_len]
          exact Nat.lt_trans (by omega) sl1000000
        have hl2 : (ks.map D.int).length < sizeLine := by
          rw [List.length_map, hk]
          exact Nat.lt_trans (by omega) sl1000000
        have e1 : (ni (cs.flatten ++ [x])).map D.int = (ni cs.flatten).map D.int ++ [.int (x : Nat)] := by rw [ni_app, List.map_append]; rfl
        have ee : (cs ++ [x :: r']).flatten = cs.flatten ++ x :: r' := by rw [List.flatten_append]; simp
        refine ⟨[.val (mv p), .own (ks.map .int), .own ((ni cs.flatten).map .int), .val (.int (x : Nat)), s4, s5], [.val (mv p), .own ((ks ++ [((r'.length : Nat) + 1 : Int)]).map .int), .own ((ni (cs ++ [x :: r']).flatten).map .int), .val (.int (x : Nat)), .val (.int ((r'.length : Nat) + 1 : Int)), .val (.int (x : Nat))], [], by simp [gN], ?_, ⟨cs ++ [x :: r'], _, _, _, _, rfl, P', by rw [List.length_append, List.length_append, hk]; rfl, fun i hi => ?_⟩, rfl⟩
        · have s1 : whileS (cmpT notInA (nS 5) (nB 2)) (seqS (appS 2 (nS 5))
              (par2 4 5 (valM (res2 addD (nS 4) (kD (.int 1))) (valM (res2 atD (nS 0) (nS 5)) mN)))) 64 [.val (mv p), .own (ks.map .int), .own ((ni cs.flatten).map .int), .val (.int (x : Nat)), .val (.int 0), .val (.int (x : Nat))] [] = .nx [.val (mv p), .own (ks.map .int), .own ((ni (cs.flatten ++ x :: r')).map .int), .val (.int (x : Nat)), .val (.int ((r'.length : Nat) + 1 : Int)), .val (.int (x : Nat))] [] := by
            rw [← ew]
            refine while_t (h1 := []) ?_ ?_
            · simp only [ap_iSub, ap_addD, ap_mulD, ap_iLt, ap_iLe, ap_iGt, ap_iGe, ap_iMod, ap_iDiv, ap_ifR, ap_nS, ap_nB, ap_kD, ap_aN, ap_tY, ap_oN, ap_oS, ap_rT, ap_xS, ap_bkS, ap_ctS, ap_noS, ap_rN, ap_frS, ap_mN, ap_shR, ap_seqS, ap_iteS, ap_cmpT, ap_setS, ap_setN, ap_nilS, ap_res1, ap_res2, ap_refIxR, ap_rputS, ap_consR, ap_callR, ap_biR, ap_isiR, ap_bAndR, ap_bNotR, ap_bOrR, ap_chR, ap_chT, ap_truR, ap_tNotR, ap_tAndR, ap_tOrR, ap_seqR, ap_rngR1, ap_rngR2, ap_enumR, ap_sliceR, ap_tupR, ap_lstR, ap_starR, ap_augS, ap_asgS, ap_par2, ap_ownM, ap_valM, ap_appS, ap_extS, ap_putS, ap_revR, rb_ok, rn_ok, ro_ok, tr_some, getS, getB, toRes, List.getElem?_cons_succ, List.getElem?_cons_zero, g, Bool.not_false]
            · simp only [ap_iSub, ap_addD, ap_mulD, ap_iLt, ap_iLe, ap_iGt, ap_iGe, ap_iMod, ap_iDiv, ap_ifR, ap_nS, ap_nB, ap_kD, ap_aN, ap_tY, ap_oN, ap_oS, ap_rT, ap_xS, ap_bkS, ap_ctS, ap_noS, ap_rN, ap_frS, ap_mN, ap_shR, ap_seqS, ap_iteS, ap_cmpT, ap_setS, ap_setN, ap_nilS, ap_res1, ap_res2, ap_refIxR, ap_rputS, ap_consR, ap_callR, ap_biR, ap_isiR, ap_bAndR, ap_bNotR, ap_bOrR, ap_chR, ap_chT, ap_truR, ap_tNotR, ap_tAndR, ap_tOrR, ap_seqR, ap_rngR1, ap_rngR2, ap_enumR, ap_sliceR, ap_tupR, ap_lstR, ap_starR, ap_augS, ap_asgS, ap_par2, ap_ownM, ap_valM, ap_appS, ap_extS, ap_putS, ap_revR, rb_ok, rn_ok, ro_ok, tr_some, getS, getB, toRes, List.getElem?_cons_succ, List.getElem?_cons_zero, List.set, decide_eq_true hl, if_true, gp, e1, List.length_nil]
              rfl
          have pos : (0 : Int) < (r'.length : Nat) + 1 := by omega
          show kindB _ _ = _
          unfold kindB
          rw [seq_nx s0, seq_nx s1, ite_t (h' := []), ee]
          · simp only [ap_iSub, ap_addD, ap_mulD, ap_iLt, ap_iLe, ap_iGt, ap_iGe, ap_iMod, ap_iDiv, ap_ifR, ap_nS, ap_nB, ap_kD, ap_aN, ap_tY, ap_oN, ap_oS, ap_rT, ap_xS, ap_bkS, ap_ctS, ap_noS, ap_rN, ap_frS, ap_mN, ap_shR, ap_seqS, ap_iteS, ap_cmpT, ap_setS, ap_setN, ap_nilS, ap_res1, ap_res2, ap_refIxR, ap_rputS, ap_consR, ap_callR, ap_biR, ap_isiR, ap_bAndR, ap_bNotR, ap_bOrR, ap_chR, ap_chT, ap_truR, ap_tNotR, ap_tAndR, ap_tOrR, ap_seqR, ap_rngR1, ap_rngR2, ap_enumR, ap_sliceR, ap_tupR, ap_lstR, ap_starR, ap_augS, ap_asgS, ap_par2, ap_ownM, ap_valM, ap_appS, ap_extS, ap_putS, ap_revR, rb_ok, rn_ok, ro_ok, tr_some, getS, getB, toRes, List.getElem?_cons_succ, List.getElem?_cons_zero, List.set, decide_eq_true hl2, if_true, List.map_append, List.map_cons, List.map_nil]
          · simp only [ap_iSub, ap_addD, ap_mulD, ap_iLt, ap_iLe, ap_iGt, ap_iGe, ap_iMod, ap_iDiv, ap_ifR, ap_nS, ap_nB, ap_kD, ap_aN, ap_tY, ap_oN, ap_oS, ap_rT, ap_xS, ap_bkS, ap_ctS, ap_noS, ap_rN, ap_frS, ap_mN, ap_shR, ap_seqS, ap_iteS, ap_cmpT, ap_setS, ap_setN, ap_nilS, ap_res1, ap_res2, ap_refIxR, ap_rputS, ap_consR, ap_callR, ap_biR, ap_isiR, ap_bAndR, ap_bNotR, ap_bOrR, ap_chR, ap_chT, ap_truR, ap_tNotR, ap_tAndR, ap_tOrR, ap_seqR, ap_rngR1, ap_rngR2, ap_enumR, ap_sliceR, ap_tupR, ap_lstR, ap_starR, ap_augS, ap_asgS, ap_par2, ap_ownM, ap_valM, ap_appS, ap_extS, ap_putS, ap_revR, rb_ok, rn_ok, ro_ok, tr_some, getS, getB, toRes, List.getElem?_cons_succ, List.getElem?_cons_zero, decide_eq_true pos]
        · rw [ee, List.mem_append]
          rcases List.mem_append.1 hi with hi | hi
          · exact .inl (hd i hi)
          · simp only [List.mem_singleton] at hi
            rw [hi]
            exact .inr List.mem_cons_self
  have dc := Cy.prt_dec P fun x hx => hd x (List.mem_append_right _ (List.mem_range.2 hx))
  refine ⟨(sortI ks).reverse, by rw [List.length_reverse, (sortI_perm ks).length_eq, hk, Cy.dec_len dc], fun h => ?_⟩
  have r : fnR 6 b__law_kind [mv p] [] = .ok (.tup ((sortI ks).reverse.map .int)) [] := by
    refine fn_rt (τ := [.val (mv p), .un, .un, .un, .un, .un]) rfl ?_
    have e0 : par2 1 2 (ownM (lstR aN) (ownM (lstR aN) mN)) [.val (mv p), .un, .un, .un, .un, .un] [] = .nx [.val (mv p), .own [], .own [], .un, .un, .un] [] := by
      simp only [ap_iSub, ap_addD, ap_mulD, ap_iLt, ap_iLe, ap_iGt, ap_iGe, ap_iMod, ap_iDiv, ap_ifR, ap_nS, ap_nB, ap_kD, ap_aN, ap_tY, ap_oN, ap_oS, ap_rT, ap_xS, ap_bkS, ap_ctS, ap_noS, ap_rN, ap_frS, ap_mN, ap_shR, ap_seqS, ap_iteS, ap_cmpT, ap_setS, ap_setN, ap_nilS, ap_res1, ap_res2, ap_refIxR, ap_rputS, ap_consR, ap_callR, ap_biR, ap_isiR, ap_bAndR, ap_bNotR, ap_bOrR, ap_chR, ap_chT, ap_truR, ap_tNotR, ap_tAndR, ap_tOrR, ap_seqR, ap_rngR1, ap_rngR2, ap_enumR, ap_sliceR, ap_tupR, ap_lstR, ap_starR, ap_augS, ap_asgS, ap_par2, ap_ownM, ap_valM, ap_appS, ap_extS, ap_putS, ap_revR, rb_ok, rn_ok, ro_ok, tr_some, getS, getB, toRes, List.getElem?_cons_succ, List.getElem?_cons_zero, List.length_cons, List.length_nil, f0, if_true, ownSl, List.set]
    have ln : biR lenG (consR (nS 0) aN) [.val (mv p), .own [], .own [], .un, .un, .un] [] = .ok (.int (n : Nat)) [] := by
      simp only [ap_iSub, ap_addD, ap_mulD, ap_iLt, ap_iLe, ap_iGt, ap_iGe, ap_iMod, ap_iDiv, ap_ifR, ap_nS, ap_nB, ap_kD, ap_aN, ap_tY, ap_oN, ap_oS, ap_rT, ap_xS, ap_bkS, ap_ctS, ap_noS, ap_rN, ap_frS, ap_mN, ap_shR, ap_seqS, ap_iteS, ap_cmpT, ap_setS, ap_setN, ap_nilS, ap_res1, ap_res2, ap_refIxR, ap_rputS, ap_consR, ap_callR, ap_biR, ap_isiR, ap_bAndR, ap_bNotR, ap_bOrR, ap_chR, ap_chT, ap_truR, ap_tNotR, ap_tAndR, ap_tOrR, ap_seqR, ap_rngR1, ap_rngR2, ap_enumR, ap_sliceR, ap_tupR, ap_lstR, ap_starR, ap_augS, ap_asgS, ap_par2, ap_ownM, ap_valM, ap_appS, ap_extS, ap_putS, ap_revR, rb_ok, rn_ok, ro_ok, tr_some, getS, getB, toRes, List.getElem?_cons_succ, List.getElem?_cons_zero, lenG, List.length_map, ni_len, m.len]
    rw [b__law_kind, seq_nx e0, seq_nx (for_of (rng1_of ln (by omega)) e)]
    simp only [ap_frS, ap_rT, ap_callR, ap_consR, ap_aN, ap_nS, frzT, getS, List.getElem?_cons_succ, List.getElem?_cons_zero, List.set, rb_ok, List.length_cons, List.length_nil, if_true, lot_of_ok, ro_ok]
  rw [d__law_kind, pureF_ok (by simp [noRefs, D.noRef, noRefs_ints]) r]
end G_k76

namespace G_k76
open PySem PySem.Spec PyProof.Rows L2 Sw Gs
abbrev rowD (ms : List (List Nat)) : D := .tup (ms.map mv)
theorem noRowL (ms : List (List Nat)) : noRefs (ms.map mv) = true := noRefsM mv ms fun x _ => noRef_mv x
structure Rw (n : Nat) (ms : List (List Nat)) : Prop where
  h1 : 1 ≤ n
  hn : n ≤ 24
  mv : ∀ m ∈ ms, Mv n m
  hz : ms.length ≤ 100
/-! ### products -/
theorem prod_snoc {n : Nat} {ms : List (List Nat)} {x : List Nat} : prodM n (ms ++ [x]) = seqM (prodM n ms) x := prod_last
theorem product_ok {n : Nat} {ms : List (List Nat)} (R : Rw n ms) (h : HS) : d_product_of_moves [.int (n : Nat), rowD ms] h = .ok (mv (prodM n ms)) h := by
  have hn := R.hn
  have r : fnR 4 b_product_of_moves [.int (n : Nat), rowD ms] [] = .ok (mv (prodM n ms)) [] := by
    refine fn_rt (τ := [.val (.int (n : Nat)), .val (rowD ms), .un, .un]) rfl ?_
    have s0 : setS 2 (callR 1 d_idle_in (consR (nS 0) aN)) [.val (.int (n : Nat)), .val (rowD ms), .un, .un] [] = .nx [.val (.int (n : Nat)), .val (rowD ms), .val (mv (List.range n)), .un] [] := by
      simp only [ap_iSub, ap_addD, ap_mulD, ap_iLt, ap_iLe, ap_iGt, ap_iGe, ap_iMod, ap_iDiv, ap_ifR, ap_nS, ap_nB, ap_kD, ap_aN, ap_tY, ap_oN, ap_oS, ap_rT, ap_xS, ap_bkS, ap_ctS, ap_noS, ap_rN, ap_frS, ap_mN, ap_shR, ap_seqS, ap_iteS, ap_cmpT, ap_setS, ap_setN, ap_nilS, ap_res1, ap_res2, ap_refIxR, ap_rputS, ap_consR, ap_callR, ap_biR, ap_isiR, ap_bAndR, ap_bNotR, ap_bOrR, ap_chR, ap_chT, ap_truR, ap_tNotR, ap_tAndR, ap_tOrR, ap_seqR, ap_rngR1, ap_rngR2, ap_enumR, ap_sliceR, ap_tupR, ap_lstR, ap_starR, ap_augS, ap_asgS, ap_par2, ap_ownM, ap_valM, ap_appS, ap_extS, ap_putS, ap_revR, rb_ok, rn_ok, ro_ok, tr_some, getS, getB, toRes, List.getElem?_cons_succ, List.getElem?_cons_zero, List.length_cons, List.length_nil, if_true, idle_ok (show n ≤ 1000 by omega), List.set]
    obtain ⟨τ2, h2, e, rfl, s, rfl⟩ := forS_at (g := gN 3) (b := setS 2 (callR 2 d_behind_in (consR (nS 2) (consR (nS 3) aN)))) mv ms (fun done τ h => h = [] ∧ ∃ s, τ = [.val (.int (n : Nat)), .val (rowD ms), .val (mv (prodM n done)), s]) (fun done x rr τ h ea hi => by
      obtain ⟨rfl, s, rfl⟩ := hi
      have mx : Mv n x := R.mv x (by rw [ea]; simp)
      have md : Mv n (prodM n done) := Gs.prod_mv fun y hy => R.mv y (by rw [ea]; simp [hy])
      refine ⟨_, _, [], rfl, ?_, rfl, .val (mv x), rfl⟩
      rw [prod_snoc]
      simp only [ap_iSub, ap_addD, ap_mulD, ap_iLt, ap_iLe, ap_iGt, ap_iGe, ap_iMod, ap_iDiv, ap_ifR, ap_nS, ap_nB, ap_kD, ap_aN, ap_tY, ap_oN, ap_oS, ap_rT, ap_xS, ap_bkS, ap_ctS, ap_noS, ap_rN, ap_frS, ap_mN, ap_shR, ap_seqS, ap_iteS, ap_cmpT, ap_setS, ap_setN, ap_nilS, ap_res1, ap_res2, ap_refIxR, ap_rputS, ap_consR, ap_callR, ap_biR, ap_isiR, ap_bAndR, ap_bNotR, ap_bOrR, ap_chR, ap_chT, ap_truR, ap_tNotR, ap_tAndR, ap_tOrR, ap_seqR, ap_rngR1, ap_rngR2, ap_enumR, ap_sliceR, ap_tupR, ap_lstR, ap_starR, ap_augS, ap_asgS, ap_par2, ap_ownM, ap_valM, ap_appS, ap_extS, ap_putS, ap_revR, rb_ok, rn_ok, ro_ok, tr_some, getS, getB, toRes, List.set, List.getElem?_cons_succ, List.getElem?_cons_zero, List.length_cons, List.length_nil, if_true, behind_in_ok md mx (by omega)]) ms [] [.val (.int (n : Nat)), .val (rowD ms), .val (mv (List.range n)), .un] [] rfl ⟨rfl, _, rfl⟩
    rw [b_product_of_moves, seq_nx s0, seq_nx (for_of rfl e)]
    rfl
  rw [d_product_of_moves, pureF_ok (by simp [noRefs, D.noRef, noRowL]) r]
theorem lproduct_ok {n : Nat} {ms : List (List Nat)} (R : Rw n ms) (h : HS) : d__law_le_product [.int (n : Nat), rowD ms] h = .ok (mv (prodM n ms)) h := by
  have hn := R.hn
  have r : fnR 4 b__law_le_product [.int (n : Nat), rowD ms] [] = .ok (mv (prodM n ms)) [] := by
    refine fn_rt (τ := [.val (.int (n : Nat)), .val (rowD ms), .un, .un]) rfl ?_
    have lr := tupRg_ok (fe := nS 0) (τ := [.val (.int (n : Nat)), .val (rowD ms), .un, .un]) (h := []) (n := n) rfl (by omega)
    have s0 : setS 2 (tupRg (rg1 (nS 0))) [.val (.int (n : Nat)), .val (rowD ms), .un, .un] [] = .nx [.val (.int (n : Nat)), .val (rowD ms), .val (mv (List.range n)), .un] [] := by
      rw [ap_setS, lr, ro_ok]; rfl
    obtain ⟨τ2, h2, e, rfl, s, rfl⟩ := forS_at (g := gN 3) (b := setS 2 (callR 2 d__law_behind (consR (nS 2) (consR (nS 3) aN)))) mv ms (fun done τ h => h = [] ∧ ∃ s, τ = [.val (.int (n : Nat)), .val (rowD ms), .val (mv (prodM n done)), s]) (fun done x rr τ h ea hi => by
      obtain ⟨rfl, s, rfl⟩ := hi
      have mx : Mv n x := R.mv x (by rw [ea]; simp)
      have md : Mv n (prodM n done) := Gs.prod_mv fun y hy => R.mv y (by rw [ea]; simp [hy])
      refine ⟨_, _, [], rfl, ?_, rfl, .val (mv x), rfl⟩
      rw [prod_snoc, lbehind_eq]
      simp only [ap_iSub, ap_addD, ap_mulD, ap_iLt, ap_iLe, ap_iGt, ap_iGe, ap_iMod, ap_iDiv, ap_ifR, ap_nS, ap_nB, ap_kD, ap_aN, ap_tY, ap_oN, ap_oS, ap_rT, ap_xS, ap_bkS, ap_ctS, ap_noS, ap_rN, ap_frS, ap_mN, ap_shR, ap_seqS, ap_iteS, ap_cmpT, ap_setS, ap_setN, ap_nilS, ap_res1, ap_res2, ap_refIxR, ap_rputS, ap_consR, ap_callR, ap_biR, ap_isiR, ap_bAndR, ap_bNotR, ap_bOrR, ap_chR, ap_chT, ap_truR, ap_tNotR, ap_tAndR, ap_tOrR, ap_seqR, ap_rngR1, ap_rngR2, ap_enumR, ap_sliceR, ap_tupR, ap_lstR, ap_starR, ap_augS, ap_asgS, ap_par2, ap_ownM, ap_valM, ap_appS, ap_extS, ap_putS, ap_revR, rb_ok, rn_ok, ro_ok, tr_some, getS, getB, toRes, List.set, List.getElem?_cons_succ, List.getElem?_cons_zero, List.length_cons, List.length_nil, if_true, behind_in_ok md mx (by omega)]) ms [] [.val (.int (n : Nat)), .val (rowD ms), .val (mv (List.range n)), .un] [] rfl ⟨rfl, _, rfl⟩
    rw [b__law_le_product, seq_nx s0, seq_nx (for_of rfl e)]
    rfl
  rw [d__law_le_product, pureF_ok (by simp [noRefs, D.noRef, noRowL]) r]
/-! ### labels -/
def lsN (n : Nat) (L : Nat → Nat) : List Nat := (List.range n).map L
abbrev lsD (n : Nat) (L : Nat → Nat) : D := .lst ((ni (lsN n L)).map .int)
theorem ls_get {n : Nat} {L : Nat → Nat} {i : Nat} (h : i < n) : ((ni (lsN n L)).map D.int)[i]? = some (.int (L i : Nat)) := ni_get (by rw [lsN, List.getElem?_map, List.getElem?_range h]; rfl)
theorem ls_len (n : Nat) (L : Nat → Nat) : (lsN n L).length = n := by rw [lsN, List.length_map, List.length_range]
/-- a comprehension over the labels -/
theorem lcN {n : Nat} (hn : n ≤ 100) {L : Nat → Nat} (F : Nat → D) {te : DE} {τ : List Sl} (h2 : τ[2]? = some (.val (lsD n L))) (H : ∀ i, i < n → ∃ τ1, gN 8 (.int (L i : Nat)) (wipeT τ [8]) = some τ1 ∧ te τ1 [] = .ok (F (L i)) []) :
    lcR (seqR (nS 2)) [8] (gN 8) tY te τ [] = .ok (.lst ((lsN n L).map F)) [] := by
  have e : lcL (gN 8) tY te (wipeT τ [8]) ((lsN n L).map fun x => .int (x : Nat)) [] = .ok ((lsN n L).map F) [] := by
    refine lcL_all (fun x : Nat => .int (x : Nat)) F _ fun x hx => ?_
    obtain ⟨i, hi, rfl⟩ := List.mem_map.1 hx
    exact H i (List.mem_range.1 hi)
  have fl : fits (lsN n L).length = true := fits_of (by rw [ls_len]; omega)
  rw [← ni_map] at e
  rw [ap_lcR, ap_seqR, ap_nS]
  simp only [getS, h2, rb_ok, List.length_map, ni_len, fl, if_true, e, rn_ok]
theorem ls_map (n : Nat) (L : Nat → Nat) (f : Nat → Nat) : D.lst ((lsN n L).map fun x => .int (f x : Nat)) = lsD n fun i => f (L i) := by
  rw [lsD, ni_map, lsN, lsN, List.map_map, List.map_map]; rfl
/-! ### the law's joined places -/
abbrev jB : DS := seqS (asgS (gT (gConsT (gN 6) (gConsT (gN 7) gNilT))) (tupR (consR (res2 atD (nS 2) (nS 4)) (consR (res2 atD (nS 2) (nS 5)) aN))))
    (setS 2 (lcR (seqR (nS 2)) [8] (gN 8) tY (ifR (cmpT inA (nS 8) (tupR (consR (nS 6) (consR (nS 7) aN)))) (biR minsG (consR (nS 6) (consR (nS 7) aN))) (nS 8))))
theorem mins_nat (a b : Nat) : minsG [.int (a : Nat), .int (b : Nat)] = some (.int ((min a b : Nat) : Int)) := by
  have e : (if (b : Int) < (a : Int) then (b : Int) else (a : Int)) = ((min a b : Nat) : Int) := by split <;> omega
  simp only [minsG, minG, Option.some_or, e]
theorem fts2 : fits (0 + 1 + 1) = true := fits_of (by decide)
theorem j_step {n : Nat} (hn : n ≤ 24) {L : Nat → Nat} {i g : Nat} (hi : i < n) (hg : g < n) (S0 S1 S3 s6 s7 s8 : Sl) :
    jB [S0, S1, .val (lsD n L), S3, .val (.int (i : Nat)), .val (.int (g : Nat)), s6, s7, s8] [] = .nx [S0, S1, .val (lsD n fun x => mrg [L i, L g] (min (L i) (L g)) (L x)), S3, .val (.int (i : Nat)), .val (.int (g : Nat)), .val (.int (L i : Nat)), .val (.int (L g : Nat)), s8] [] := by
  have a1 := at_lst (ls_get (L := L) hi)
  have a2 := at_lst (ls_get (L := L) hg)
  have s0 : asgS (gT (gConsT (gN 6) (gConsT (gN 7) gNilT))) (tupR (consR (res2 atD (nS 2) (nS 4)) (consR (res2 atD (nS 2) (nS 5)) aN))) [S0, S1, .val (lsD n L), S3, .val (.int (i : Nat)), .val (.int (g : Nat)), s6, s7, s8] [] = .nx [S0, S1, .val (lsD n L), S3, .val (.int (i : Nat)), .val (.int (g : Nat)), .val (.int (L i : Nat)), .val (.int (L g : Nat)), s8] [] := by
    simp only [ap_iSub, ap_addD, ap_mulD, ap_iLt, ap_iLe, ap_iGt, ap_iGe, ap_iMod, ap_iDiv, ap_ifR, ap_nS, ap_nB, ap_kD, ap_aN, ap_tY, ap_oN, ap_oS, ap_rT, ap_xS, ap_bkS, ap_ctS, ap_noS, ap_rN, ap_frS, ap_mN, ap_shR, ap_seqS, ap_iteS, ap_cmpT, ap_setS, ap_setN, ap_nilS, ap_res1, ap_res2, ap_refIxR, ap_rputS, ap_consR, ap_callR, ap_biR, ap_isiR, ap_bAndR, ap_bNotR, ap_bOrR, ap_chR, ap_chT, ap_truR, ap_tNotR, ap_tAndR, ap_tOrR, ap_seqR, ap_rngR1, ap_rngR2, ap_enumR, ap_sliceR, ap_tupR, ap_lstR, ap_starR, ap_augS, ap_asgS, ap_par2, ap_ownM, ap_valM, ap_appS, ap_extS, ap_putS, ap_revR, rb_ok, rn_ok, ro_ok, tr_some, getS, getB, toRes, List.getElem?_cons_succ, List.getElem?_cons_zero, a1, a2, List.length_cons, List.length_nil, fts2, if_true]
    rfl
  have c := lcN (n := n) (by omega) (L := L) (fun x => .int (mrg [L i, L g] (min (L i) (L g)) x : Nat)) (te := ifR (cmpT inA (nS 8) (tupR (consR (nS 6) (consR (nS 7) aN)))) (biR minsG (consR (nS 6) (consR (nS 7) aN))) (nS 8))
    (τ := [S0, S1, .val (lsD n L), S3, .val (.int (i : Nat)), .val (.int (g : Nat)), .val (.int (L i : Nat)), .val (.int (L g : Nat)), s8]) rfl fun k hk => by
      refine ⟨_, rfl, ?_⟩
      have it : inA (.int (L k : Nat)) (.tup [.int (L i : Nat), .int (L g : Nat)]) = some (.bl (decide (L k ∈ [L i, L g]))) := in_tup (L k) [L i, L g]
      by_cases m : L k ∈ [L i, L g]
      · rw [decide_eq_true m] at it
        have e : mrg [L i, L g] (min (L i) (L g)) (L k) = min (L i) (L g) := if_pos m
        simp only [ap_iSub, ap_addD, ap_mulD, ap_iLt, ap_iLe, ap_iGt, ap_iGe, ap_iMod, ap_iDiv, ap_ifR, ap_nS, ap_nB, ap_kD, ap_aN, ap_tY, ap_oN, ap_oS, ap_rT, ap_xS, ap_bkS, ap_ctS, ap_noS, ap_rN, ap_frS, ap_mN, ap_shR, ap_seqS, ap_iteS, ap_cmpT, ap_setS, ap_setN, ap_nilS, ap_res1, ap_res2, ap_refIxR, ap_rputS, ap_consR, ap_callR, ap_biR, ap_isiR, ap_bAndR, ap_bNotR, ap_bOrR, ap_chR, ap_chT, ap_truR, ap_tNotR, ap_tAndR, ap_tOrR, ap_seqR, ap_rngR1, ap_rngR2, ap_enumR, ap_sliceR, ap_tupR, ap_lstR, ap_starR, ap_augS, ap_asgS, ap_par2, ap_ownM, ap_valM, ap_appS, ap_extS, ap_putS, ap_revR, rb_ok, rn_ok, ro_ok, tr_some, getS, getB, toRes, wipeT, List.set, List.getElem?_cons_succ, List.getElem?_cons_zero, List.length_cons, List.length_nil, fts2, if_true, it, mins_nat, e]
      · rw [decide_eq_false m] at it
        have e : mrg [L i, L g] (min (L i) (L g)) (L k) = L k := if_neg m
        simp only [ap_iSub, ap_addD, ap_mulD, ap_iLt, ap_iLe, ap_iGt, ap_iGe, ap_iMod, ap_iDiv, ap_ifR, ap_nS, ap_nB, ap_kD, ap_aN, ap_tY, ap_oN, ap_oS, ap_rT, ap_xS, ap_bkS, ap_ctS, ap_noS, ap_rN, ap_frS, ap_mN, ap_shR, ap_seqS, ap_iteS, ap_cmpT, ap_setS, ap_setN, ap_nilS, ap_res1, ap_res2, ap_refIxR, ap_rputS, ap_consR, ap_callR, ap_biR, ap_isiR, ap_bAndR, ap_bNotR, ap_bOrR, ap_chR, ap_chT, ap_truR, ap_tNotR, ap_tAndR, ap_tOrR, ap_seqR, ap_rngR1, ap_rngR2, ap_enumR, ap_sliceR, ap_tupR, ap_lstR, ap_starR, ap_augS, ap_asgS, ap_par2, ap_ownM, ap_valM, ap_appS, ap_extS, ap_putS, ap_revR, rb_ok, rn_ok, ro_ok, tr_some, getS, getB, toRes, wipeT, List.set, List.getElem?_cons_succ, List.getElem?_cons_zero, List.length_cons, List.length_nil, fts2, if_true, it, Bool.false_eq_true, if_false, e]
  rw [ls_map] at c
  show jB _ _ = _
  unfold jB
  rw [seq_nx s0, ap_setS, c, ro_ok]
  rfl
theorem l_joined_ok {n : Nat} {ms : List (List Nat)} (R : Rw n ms) : ∃ S L, Lab n S L ∧ (∀ M, Goes S M ↔ ∀ m ∈ ms, Along n m M) ∧ ∀ h, d__law_joined [.int (n : Nat), rowD ms] h = .ok (lsD n L) h := by
  have hn := R.hn
  obtain ⟨τ2, h2, e, rfl, S, L, s3, s4, s5, s6, s7, s8, rfl, lb, gs⟩ := forS_at (g := gN 3) (b := forR (enumR (nS 3)) (gT (gConsT (gN 4) (gConsT (gN 5) gNilT))) jB) mv ms (fun done τ h => h = [] ∧ ∃ (S : List (Nat × Nat)) (L : Nat → Nat) (s3 s4 s5 s6 s7 s8 : Sl), τ = [.val (.int (n : Nat)), .val (rowD ms), .val (lsD n L), s3, s4, s5, s6, s7, s8] ∧ Lab n S L ∧ ∀ M, Goes S M ↔ ∀ m ∈ done, Along n m M) (fun done m rr τ h ea hi => by
    obtain ⟨rfl, S, L, s3, s4, s5, s6, s7, s8, rfl, lb, gs⟩ := hi
    have mm : Mv n m := R.mv m (by rw [ea]; simp)
    obtain ⟨τ3, h3, e3, rfl, S', L', s4', s5', s6', s7', s8', rfl, lb', gs'⟩ := forS_at (g := gT (gConsT (gN 4) (gConsT (gN 5) gNilT))) (b := jB) (fun i : Nat => .tup [.int (i : Nat), .int (ap m i : Nat)]) (List.range n) (fun dn τ h => h = [] ∧ ∃ (S' : List (Nat × Nat)) (L' : Nat → Nat) (s4 s5 s6 s7 s8 : Sl), τ = [.val (.int (n : Nat)), .val (rowD ms), .val (lsD n L'), .val (mv m), s4, s5, s6, s7, s8] ∧ Lab n S' L' ∧ ∀ M, Goes S' M ↔ (∀ m ∈ done, Along n m M) ∧ ∀ i ∈ dn, M (ap m i) = M i) (fun dn i rr τ h ea hi => by
      obtain ⟨rfl, S', L', s4, s5, s6, s7, s8, rfl, lb', gs'⟩ := hi
      have hi : i < n := List.mem_range.1 (by rw [ea]; simp)
      have hg := mm.ap_lt hi
      refine ⟨_, _, [], rfl, j_step hn hi hg _ _ _ _ _ _, rfl, prs [i, ap m i] ++ S', _, _, _, _, _, _, rfl, lab_mrg lb' (c := [i, ap m i]) (t := min (L' i) (L' (ap m i))) (fun a ha => ?_) (by
          have : min (L' i) (L' (ap m i)) = L' i ∨ min (L' i) (L' (ap m i)) = L' (ap m i) := by omega
          simp only [List.map_cons, List.map_nil, List.mem_cons, List.not_mem_nil, or_false]
          exact this) (fun x hx => ?_), fun M => ?_⟩
      · have : a = i ∨ a = ap m i := by simpa using ha
        rcases this with z | z <;> rw [z] <;> assumption
      · have : x = L' i ∨ x = L' (ap m i) := by simpa using hx
        omega
      · rw [goes_app, gs']
        constructor
        · rintro ⟨g1, g2, g3⟩
          refine ⟨g2, fun j hj => ?_⟩
          rcases List.mem_append.1 hj with hj | hj
          · exact g3 j hj
          · have : j = i := by simpa using hj
            rw [this]
            exact (g1 (i, ap m i) (mem_prs.2 ⟨by simp, by simp⟩)).symm
        · rintro ⟨g2, g3⟩
          refine ⟨fun s hs => ?_, g2, fun j hj => g3 j (List.mem_append_left _ hj)⟩
          have q := g3 i (by simp)
          obtain ⟨s1, s2⟩ := s
          obtain ⟨h1, h2⟩ := mem_prs.1 hs
          have h1 : s1 = i ∨ s1 = ap m i := by simpa using h1
          have h2 : s2 = i ∨ s2 = ap m i := by simpa using h2
          show M s1 = M s2
          rcases h1 with z | z <;> rcases h2 with y | y <;> rw [z, y] <;> first | rfl | exact q | exact q.symm) (List.range n) [] [.val (.int (n : Nat)), .val (rowD ms), .val (lsD n L), .val (mv m), s4, s5, s6, s7, s8] [] rfl ⟨rfl, S, L, _, _, _, _, _, rfl, lb, fun M => by rw [gs]; exact ⟨fun q => ⟨q, fun i hi => by cases hi⟩, fun q => q.1⟩⟩
    have it : enumR (nS 3) [.val (.int (n : Nat)), .val (rowD ms), .val (lsD n L), .val (mv m), s4, s5, s6, s7, s8] [] = .ok ((List.range n).map fun i : Nat => .tup [.int (i : Nat), .int (ap m i : Nat)]) [] := by
      simp only [ap_iSub, ap_addD, ap_mulD, ap_iLt, ap_iLe, ap_iGt, ap_iGe, ap_iMod, ap_iDiv, ap_ifR, ap_nS, ap_nB, ap_kD, ap_aN, ap_tY, ap_oN, ap_oS, ap_rT, ap_xS, ap_bkS, ap_ctS, ap_noS, ap_rN, ap_frS, ap_mN, ap_shR, ap_seqS, ap_iteS, ap_cmpT, ap_setS, ap_setN, ap_nilS, ap_res1, ap_res2, ap_refIxR, ap_rputS, ap_consR, ap_callR, ap_biR, ap_isiR, ap_bAndR, ap_bNotR, ap_bOrR, ap_chR, ap_chT, ap_truR, ap_tNotR, ap_tAndR, ap_tOrR, ap_seqR, ap_rngR1, ap_rngR2, ap_enumR, ap_sliceR, ap_tupR, ap_lstR, ap_starR, ap_augS, ap_asgS, ap_par2, ap_ownM, ap_valM, ap_appS, ap_extS, ap_putS, ap_revR, rb_ok, rn_ok, ro_ok, tr_some, getS, getB, toRes, List.getElem?_cons_succ, List.getElem?_cons_zero]
      rw [enum_mv, mm.len]
    refine ⟨_, _, [], rfl, for_of it e3, rfl, S', L', _, _, _, _, _, _, rfl, lb', fun M => ?_⟩
    rw [gs']
    constructor
    · rintro ⟨g1, g2⟩ x hx
      rcases List.mem_append.1 hx with hx | hx
      · exact g1 x hx
      · have : x = m := by simpa using hx
        rw [this]
        exact fun i hi => g2 i (List.mem_range.2 hi)
    · intro q
      exact ⟨fun x hx => q x (List.mem_append_left _ hx), fun i hi => q m (by simp) i (List.mem_range.1 hi)⟩) ms [] [.val (.int (n : Nat)), .val (rowD ms), .val (lsD n fun i => i), .un, .un, .un, .un, .un, .un] [] rfl ⟨rfl, [], _, _, _, _, _, _, _, rfl, lab_id n, fun M => ⟨fun _ m hm => (by cases hm), fun _ s hs => (by cases hs)⟩⟩
  refine ⟨S, L, lb, gs, fun h => ?_⟩
  have r : fnR 9 b__law_joined [.int (n : Nat), rowD ms] [] = .ok (lsD n L) [] := by
    refine fn_rt (τ := [.val (.int (n : Nat)), .val (rowD ms), .un, .un, .un, .un, .un, .un, .un]) rfl ?_
    have lr := lstRg_ok (fe := nS 0) (τ := [.val (.int (n : Nat)), .val (rowD ms), .un, .un, .un, .un, .un, .un, .un]) (h := []) (n := n) rfl (by omega)
    have e0 : lsD n (fun i => i) = .lst ((ni (List.range n)).map .int) := by rw [lsD, lsN, List.map_id']
    have s0 : setS 2 (lstRg (rg1 (nS 0))) [.val (.int (n : Nat)), .val (rowD ms), .un, .un, .un, .un, .un, .un, .un] [] = .nx [.val (.int (n : Nat)), .val (rowD ms), .val (lsD n fun i => i), .un, .un, .un, .un, .un, .un] [] := by
      rw [ap_setS, lr, ro_ok, e0]; rfl
    rw [b__law_joined, seq_nx s0, seq_nx (for_of rfl e)]
    rfl
  rw [d__law_joined, pureF_ok (by simp [noRefs, D.noRef, noRowL]) r]
end G_k76

namespace G_k76
open PySem PySem.Spec PyProof.Rows L2 Sw Gs
/-! ### dicts of ints -/
theorem keys_map {k : Key} {v : D} : ∀ kvs : List (Key × D), intKeys (kvs.map fun kv => if kv.1 = k then (kv.1, v) else kv) = intKeys kvs
  | [] => rfl
  | (.inl i, d) :: r => by
    rw [List.map_cons]
    by_cases h : (Sum.inl i : Key) = k
    · rw [if_pos h]
      show (intKeys _).map _ = (intKeys r).map _
      rw [keys_map r]
    · rw [if_neg h]
      show (intKeys _).map _ = (intKeys r).map _
      rw [keys_map r]
  | (.inr s, d) :: r => by
    rw [List.map_cons]
    by_cases h : (Sum.inr s : Key) = k
    · rw [if_pos h]; rfl
    · rw [if_neg h]; rfl
theorem lk_map {k j : Key} {v : D} : ∀ kvs : List (Key × D), (lk (kvs.map fun kv => if kv.1 = k then (kv.1, v) else kv) j).isSome = (lk kvs j).isSome
  | [] => rfl
  | p :: r => by
    rw [List.map_cons]
    by_cases h : p.1 = k
    · rw [if_pos h, lk, lk]
      by_cases e : p.1 = j
      · rw [if_pos e, if_pos e]; rfl
      · rw [if_neg e, if_neg e, lk_map r]
    · rw [if_neg h, lk, lk]
      by_cases e : p.1 = j
      · rw [if_pos e, if_pos e]
      · rw [if_neg e, if_neg e, lk_map r]
theorem keys_app {i : Int} {v : D} : ∀ kvs : List (Key × D), intKeys (kvs ++ [(.inl i, v)]) = (intKeys kvs).map (· ++ [i])
  | [] => rfl
  | (.inl j, d) :: r => by
    show (intKeys (r ++ _)).map _ = ((intKeys r).map _).map _
    rw [keys_app r, Option.map_map, Option.map_map]; rfl
  | (.inr s, d) :: r => rfl
theorem lk_app {k j : Key} {v : D} : ∀ kvs : List (Key × D), (lk (kvs ++ [(k, v)]) j).isSome = ((lk kvs j).isSome || decide (k = j))
  | [] => by
    show (lk [(k, v)] j).isSome = _
    rw [lk, lk]
    by_cases e : k = j
    · rw [if_pos e, decide_eq_true e]; rfl
    · rw [if_neg e, decide_eq_false e]; rfl
  | p :: r => by
    rw [List.cons_append, lk, lk]
    by_cases e : p.1 = j
    · rw [if_pos e, if_pos e]; simp
    · rw [if_neg e, if_neg e, lk_app r]
/-- a dict with these int keys -/
structure Kv (kvs : List (Key × D)) (ks : List Int) : Prop where
  keys : intKeys kvs = some ks
  at_ : ∀ x : Int, (lk kvs (.inl x)).isSome = decide (x ∈ ks)
theorem kv_pk {kvs : List (Key × D)} {ks : List Int} (h : Kv kvs ks) (y : Int) (v : D) : ∃ ks', Kv (pk kvs (.inl y) v) ks' ∧ ∀ x, x ∈ ks' ↔ x = y ∨ x ∈ ks := by
  unfold pk
  rw [h.at_ y]
  by_cases m : y ∈ ks
  · rw [decide_eq_true m, if_pos rfl]
    refine ⟨ks, ⟨by rw [keys_map, h.keys], fun x => by rw [lk_map, h.at_]⟩, fun x => ⟨.inr, fun q => q.elim (fun z => z ▸ m) id⟩⟩
  · rw [decide_eq_false m, if_neg Bool.false_ne_true]
    refine ⟨ks ++ [y], ⟨by rw [keys_app, h.keys]; rfl, fun x => ?_⟩, fun x => ?_⟩
    · rw [lk_app, h.at_]
      by_cases e : x = y
      · subst e; simp
      · have e1 : (Sum.inl y : Key) ≠ .inl x := fun z => e (by cases z; rfl)
        simp [e, e1]
    · rw [List.mem_append]
      constructor
      · rintro (q | q)
        · exact .inr q
        · exact .inl (by simpa using q)
      · rintro (q | q)
        · exact .inr (by simp [q])
        · exact .inl q
theorem dc_loop {n : Nat} {L : Nat → Nat} {τ : List Sl} {tk tv : DE} : ∀ (c : List Nat) (acc : List (Key × D)) (ks : List Int), (∀ a ∈ c, a < n) → (∀ a, a < n → tk (τ.set 7 (.val (.int (a : Nat)))) [] = .ok (.int (L a : Nat)) [] ∧ tv (τ.set 7 (.val (.int (a : Nat)))) [] = .ok (.bl true) []) → Kv acc ks →
    ∃ kvs ks', dcL (gN 7) tY tk tv τ (c.map fun a => .int (a : Nat)) acc [] = .ok kvs [] ∧ Kv kvs ks' ∧ ∀ x, x ∈ ks' ↔ (∃ a ∈ c, x = (L a : Nat)) ∨ x ∈ ks
  | [], acc, ks, _, _, h => ⟨acc, ks, rfl, h, fun x => ⟨.inr, fun q => q.elim (fun ⟨a, ha, _⟩ => by cases ha) id⟩⟩
  | a :: c, acc, ks, ha, H, h => by
    obtain ⟨h1, h2⟩ := H a (ha a List.mem_cons_self)
    obtain ⟨ks1, k1, m1⟩ := kv_pk h ((L a : Nat) : Int) (.bl true)
    obtain ⟨kvs, ks', e, k', m'⟩ := dc_loop (tk := tk) (tv := tv) c _ ks1 (fun b hb => ha b (List.mem_cons_of_mem _ hb)) H k1
    refine ⟨kvs, ks', ?_, k', fun x => ?_⟩
    · rw [← e, List.map_cons]
      show (match gN 7 (.int (a : Nat)) τ with | none => Res.bad | some τ1 => _) = _
      rw [show gN 7 (.int (a : Nat)) τ = some (τ.set 7 (.val (.int (a : Nat)))) from rfl]
      show ((tY (τ.set 7 (.val (.int (a : Nat)))) []).nox.bind fun b h1 => _) = _
      rw [show tY (τ.set 7 (.val (.int (a : Nat)))) [] = .ok true [] from rfl]
      show ((tk (τ.set 7 (.val (.int (a : Nat)))) []).nox.bind fun y h2 => _) = _
      rw [h1]
      show ((tv (τ.set 7 (.val (.int (a : Nat)))) []).nox.bind fun y h2 => _) = _
      rw [h2]
      rfl
    · rw [m', m1]
      constructor
      · rintro (⟨b, hb, eb⟩ | eb | q)
        · exact .inl ⟨b, List.mem_cons_of_mem _ hb, eb⟩
        · exact .inl ⟨a, List.mem_cons_self, eb⟩
        · exact .inr q
      · rintro (⟨b, hb, eb⟩ | q)
        · rcases List.mem_cons.1 hb with hh | hb
          · exact .inr (.inl (by rw [eb, hh]))
          · exact .inl ⟨b, hb, eb⟩
        · exact .inr (.inr q)
/-! ### the program's joined places -/
abbrev pB : DS := seqS (setS 5 (dcR (seqR (nS 4)) [7] (gN 7) tY (res2 atD (nS 2) (nS 7)) (kD (.bl true))))
    (seqS (setS 6 (biR minKG (consR (nS 5) aN)))
    (setS 2 (lcR (seqR (nS 2)) [8] (gN 8) tY (ifR (cmpT dIn (nS 8) (nS 5)) (nS 6) (nS 8)))))
theorem ap_dcR (fi : DA) (vs : List Nat) (g : GT) (ft : DT) (fk fv : DE) (τ : List Sl) (h : HS) : dcR fi vs g ft fk fv τ h = ((fi τ h).bind fun items h1 => if fits items.length then (dcL g ft fk fv (wipeT τ vs) items [] h1).nox.bind fun kvs h2 => .ok (.dK kvs) h2 else .bad) := id rfl
theorem p_step {n : Nat} (hn : n ≤ 24) {L : Nat → Nat} {c : List Nat} (hc : ∀ a ∈ c, a < n) (ne : c ≠ []) (hz : c.length ≤ 100) (S0 S1 S3 s5 s6 s7 s8 : Sl) :
    ∃ t s5' , t ∈ c.map L ∧ (∀ x ∈ c.map L, t ≤ x) ∧ pB [S0, S1, .val (lsD n L), S3, .val (mv c), s5, s6, s7, s8] [] = .nx [S0, S1, .val (lsD n fun x => mrg (c.map L) t (L x)), S3, .val (mv c), s5', .val (.int (t : Nat)), s7, s8] [] := by
  obtain ⟨kvs, ks, e, kv, mk⟩ := dc_loop (n := n) (L := L) (τ := [S0, S1, .val (lsD n L), S3, .val (mv c), s5, s6, .un, s8]) (tk := res2 atD (nS 2) (nS 7)) (tv := kD (.bl true)) c [] [] hc (fun a ha => by
    have a1 := at_lst (ls_get (L := L) ha)
    constructor
    · simp only [ap_iSub, ap_addD, ap_mulD, ap_iLt, ap_iLe, ap_iGt, ap_iGe, ap_iMod, ap_iDiv, ap_ifR, ap_nS, ap_nB, ap_kD, ap_aN, ap_tY, ap_oN, ap_oS, ap_rT, ap_xS, ap_bkS, ap_ctS, ap_noS, ap_rN, ap_frS, ap_mN, ap_shR, ap_seqS, ap_iteS, ap_cmpT, ap_setS, ap_setN, ap_nilS, ap_res1, ap_res2, ap_refIxR, ap_rputS, ap_consR, ap_callR, ap_biR, ap_isiR, ap_bAndR, ap_bNotR, ap_bOrR, ap_chR, ap_chT, ap_truR, ap_tNotR, ap_tAndR, ap_tOrR, ap_seqR, ap_rngR1, ap_rngR2, ap_enumR, ap_sliceR, ap_tupR, ap_lstR, ap_starR, ap_augS, ap_asgS, ap_par2, ap_ownM, ap_valM, ap_appS, ap_extS, ap_putS, ap_revR, rb_ok, rn_ok, ro_ok, tr_some, getS, getB, toRes, List.set, List.getElem?_cons_succ, List.getElem?_cons_zero, a1]
    · rfl) ⟨rfl, fun x => rfl⟩
  have fl : fits c.length = true := fits_of (by omega)
  obtain ⟨a0, c', rfl⟩ := List.exists_cons_of_ne_nil ne
  have nk : ks ≠ [] := fun z => by
    have : ((L a0 : Nat) : Int) ∈ ks := (mk _).2 (.inl ⟨a0, List.mem_cons_self, rfl⟩)
    rw [z] at this; cases this
  obtain ⟨k0, kr, rfl⟩ := List.exists_cons_of_ne_nil nk
  obtain ⟨g1, g2, g3⟩ := leastI_ok kr k0
  have lm : leastI k0 kr ∈ k0 :: kr := g1.elim (fun z => by rw [z]; exact List.mem_cons_self) fun z => List.mem_cons_of_mem _ z
  obtain ⟨a, ha, ea⟩ : ∃ a ∈ a0 :: c', leastI k0 kr = (L a : Nat) := ((mk _).1 lm).resolve_right fun z => by cases z
  have lle : ∀ x ∈ (a0 :: c').map L, L a ≤ x := fun x hx => by
    obtain ⟨b, hb, rfl⟩ := List.mem_map.1 hx
    have : ((L b : Nat) : Int) ∈ k0 :: kr := (mk _).2 (.inl ⟨b, hb, rfl⟩)
    have : leastI k0 kr ≤ (L b : Nat) := (List.mem_cons.1 this).elim (fun z => by rw [z]; exact g2) (g3 _)
    omega
  have mg : minKG [.dK kvs] = some (.int (L a : Nat)) := by
    show (match intKeys kvs with | some (n :: ns) => some (D.int (leastI n ns)) | _ => none) = _
    rw [kv.keys, ← ea]
  refine ⟨L a, .val (.dK kvs), List.mem_map.2 ⟨a, ha, rfl⟩, lle, ?_⟩
  have s0 : setS 5 (dcR (seqR (nS 4)) [7] (gN 7) tY (res2 atD (nS 2) (nS 7)) (kD (.bl true))) [S0, S1, .val (lsD n L), S3, .val (mv (a0 :: c')), s5, s6, s7, s8] [] = .nx [S0, S1, .val (lsD n L), S3, .val (mv (a0 :: c')), .val (.dK kvs), s6, s7, s8] [] := by
    rw [← ni_map] at e
    simp only [ap_iSub, ap_addD, ap_mulD, ap_iLt, ap_iLe, ap_iGt, ap_iGe, ap_iMod, ap_iDiv, ap_ifR, ap_nS, ap_nB, ap_kD, ap_aN, ap_tY, ap_oN, ap_oS, ap_rT, ap_xS, ap_bkS, ap_ctS, ap_noS, ap_rN, ap_frS, ap_mN, ap_shR, ap_seqS, ap_iteS, ap_cmpT, ap_setS, ap_setN, ap_nilS, ap_res1, ap_res2, ap_refIxR, ap_rputS, ap_consR, ap_callR, ap_biR, ap_isiR, ap_bAndR, ap_bNotR, ap_bOrR, ap_chR, ap_chT, ap_truR, ap_tNotR, ap_tAndR, ap_tOrR, ap_seqR, ap_rngR1, ap_rngR2, ap_enumR, ap_sliceR, ap_tupR, ap_lstR, ap_starR, ap_augS, ap_asgS, ap_par2, ap_ownM, ap_valM, ap_appS, ap_extS, ap_putS, ap_revR, rb_ok, rn_ok, ro_ok, tr_some, getS, getB, toRes, ap_dcR, List.getElem?_cons_succ, List.getElem?_cons_zero, List.length_map, ni_len, fl, if_true, wipeT, List.set, e]
  have s1 : setS 6 (biR minKG (consR (nS 5) aN)) [S0, S1, .val (lsD n L), S3, .val (mv (a0 :: c')), .val (.dK kvs), s6, s7, s8] [] = .nx [S0, S1, .val (lsD n L), S3, .val (mv (a0 :: c')), .val (.dK kvs), .val (.int (L a : Nat)), s7, s8] [] := by
    simp only [ap_iSub, ap_addD, ap_mulD, ap_iLt, ap_iLe, ap_iGt, ap_iGe, ap_iMod, ap_iDiv, ap_ifR, ap_nS, ap_nB, ap_kD, ap_aN, ap_tY, ap_oN, ap_oS, ap_rT, ap_xS, ap_bkS, ap_ctS, ap_noS, ap_rN, ap_frS, ap_mN, ap_shR, ap_seqS, ap_iteS, ap_cmpT, ap_setS, ap_setN, ap_nilS, ap_res1, ap_res2, ap_refIxR, ap_rputS, ap_consR, ap_callR, ap_biR, ap_isiR, ap_bAndR, ap_bNotR, ap_bOrR, ap_chR, ap_chT, ap_truR, ap_tNotR, ap_tAndR, ap_tOrR, ap_seqR, ap_rngR1, ap_rngR2, ap_enumR, ap_sliceR, ap_tupR, ap_lstR, ap_starR, ap_augS, ap_asgS, ap_par2, ap_ownM, ap_valM, ap_appS, ap_extS, ap_putS, ap_revR, rb_ok, rn_ok, ro_ok, tr_some, getS, getB, toRes, List.getElem?_cons_succ, List.getElem?_cons_zero, mg, List.set]
  have cc := lcN (n := n) (by omega) (L := L) (fun x => .int (mrg ((a0 :: c').map L) (L a) x : Nat)) (te := ifR (cmpT dIn (nS 8) (nS 5)) (nS 6) (nS 8))
    (τ := [S0, S1, .val (lsD n L), S3, .val (mv (a0 :: c')), .val (.dK kvs), .val (.int (L a : Nat)), s7, s8]) rfl fun k hk => by
      refine ⟨_, rfl, ?_⟩
      have it : dIn (.int (L k : Nat)) (.dK kvs) = some (.bl (decide (((L k : Nat) : Int) ∈ k0 :: kr))) := by
        show some (D.bl (lk kvs (.inl ((L k : Nat) : Int))).isSome) = _
        rw [kv.at_]
      have iff : ((L k : Nat) : Int) ∈ k0 :: kr ↔ L k ∈ (a0 :: c').map L := by
        rw [mk]
        constructor
        · rintro (⟨b, hb, eb⟩ | q)
          · have : L k = L b := by omega
            rw [this]
            exact List.mem_map.2 ⟨b, hb, rfl⟩
          · cases q
        · intro q
          obtain ⟨b, hb, eb⟩ := List.mem_map.1 q
          exact .inl ⟨b, hb, by rw [eb]⟩
      by_cases m : L k ∈ (a0 :: c').map L
      · rw [decide_eq_true (iff.2 m)] at it
        have e : mrg ((a0 :: c').map L) (L a) (L k) = L a := if_pos m
        simp only [ap_iSub, ap_addD, ap_mulD, ap_iLt, ap_iLe, ap_iGt, ap_iGe, ap_iMod, ap_iDiv, ap_ifR, ap_nS, ap_nB, ap_kD, ap_aN, ap_tY, ap_oN, ap_oS, ap_rT, ap_xS, ap_bkS, ap_ctS, ap_noS, ap_rN, ap_frS, ap_mN, ap_shR, ap_seqS, ap_iteS, ap_cmpT, ap_setS, ap_setN, ap_nilS, ap_res1, ap_res2, ap_refIxR, ap_rputS, ap_consR, ap_callR, ap_biR, ap_isiR, ap_bAndR, ap_bNotR, ap_bOrR, ap_chR, ap_chT, ap_truR, ap_tNotR, ap_tAndR, ap_tOrR, ap_seqR, ap_rngR1, ap_rngR2, ap_enumR, ap_sliceR, ap_tupR, ap_lstR, ap_starR, ap_augS, ap_asgS, ap_par2, ap_ownM, ap_valM, ap_appS, ap_extS, ap_putS, ap_revR, rb_ok, rn_ok, ro_ok, tr_some, getS, getB, toRes, wipeT, List.set, List.getElem?_cons_succ, List.getElem?_cons_zero, it, if_true, e]
      · rw [decide_eq_false fun z => m (iff.1 z)] at it
        have e : mrg ((a0 :: c').map L) (L a) (L k) = L k := if_neg m
        simp only [ap_iSub, ap_addD, ap_mulD, ap_iLt, ap_iLe, ap_iGt, ap_iGe, ap_iMod, ap_iDiv, ap_ifR, ap_nS, ap_nB, ap_kD, ap_aN, ap_tY, ap_oN, ap_oS, ap_rT, ap_xS, ap_bkS, ap_ctS, ap_noS, ap_rN, ap_frS, ap_mN, ap_shR, ap_seqS, ap_iteS, ap_cmpT, ap_setS, ap_setN, ap_nilS, ap_res1, ap_res2, ap_refIxR, ap_rputS, ap_consR, ap_callR, ap_biR, ap_isiR, ap_bAndR, ap_bNotR, ap_bOrR, ap_chR, ap_chT, ap_truR, ap_tNotR, ap_tAndR, ap_tOrR, ap_seqR, ap_rngR1, ap_rngR2, ap_enumR, ap_sliceR, ap_tupR, ap_lstR, ap_starR, ap_augS, ap_asgS, ap_par2, ap_ownM, ap_valM, ap_appS, ap_extS, ap_putS, ap_revR, rb_ok, rn_ok, ro_ok, tr_some, getS, getB, toRes, wipeT, List.set, List.getElem?_cons_succ, List.getElem?_cons_zero, it, Bool.false_eq_true, if_false, e]
  rw [ls_map] at cc
  show pB _ _ = _
  unfold pB
  rw [seq_nx s0, seq_nx s1, ap_setS, cc, ro_ok]
  rfl
open Classical in
/-- whether all places are joined -/
noncomputable def cn (n : Nat) (ms : List (List Nat)) : Bool := decide (conn n ms)
open Classical in
theorem cn_t {n : Nat} {ms : List (List Nat)} (h : conn n ms) : cn n ms = true := decide_eq_true h
open Classical in
theorem cn_f {n : Nat} {ms : List (List Nat)} (h : ¬ conn n ms) : cn n ms = false := decide_eq_false h
theorem cyc_ne {f : Nat → Nat} {c : List Nat} (h : Cy.Cyc f c) : c ≠ [] := fun z => by subst z; exact h
theorem joins_ok {n : Nat} {ms : List (List Nat)} (R : Rw n ms) (h : HS) : d_does_join_all [.int (n : Nat), rowD ms] h = .ok (.bl (cn n ms)) h := by
  have hn := R.hn
  obtain ⟨τ2, h2, e, rfl, S, L, s3, s4, s5, s6, s7, s8, rfl, lb, gs⟩ := forS_at (g := gN 3) (b := forR (seqR (callR 1 d_cycles_in (consR (nS 3) aN))) (gN 4) pB) mv ms (fun done τ h => h = [] ∧ ∃ (S : List (Nat × Nat)) (L : Nat → Nat) (s3 s4 s5 s6 s7 s8 : Sl), τ = [.val (.int (n : Nat)), .val (rowD ms), .val (lsD n L), s3, s4, s5, s6, s7, s8] ∧ Lab n S L ∧ ∀ M, Goes S M ↔ ∀ m ∈ done, Along n m M) (fun done m rr τ h ea hi => by
    obtain ⟨rfl, S, L, s3, s4, s5, s6, s7, s8, rfl, lb, gs⟩ := hi
    have mm : Mv n m := R.mv m (by rw [ea]; simp)
    obtain ⟨cs, dc, ec⟩ := cycles_ok mm (by omega)
    obtain ⟨τ3, h3, e3, rfl, S', L', s4', s5', s6', s7', s8', rfl, lb', gs'⟩ := forS_at (g := gN 4) (b := pB) mv cs (fun dn τ h => h = [] ∧ ∃ (S' : List (Nat × Nat)) (L' : Nat → Nat) (s4 s5 s6 s7 s8 : Sl), τ = [.val (.int (n : Nat)), .val (rowD ms), .val (lsD n L'), .val (mv m), s4, s5, s6, s7, s8] ∧ Lab n S' L' ∧ ∀ M, Goes S' M ↔ (∀ m ∈ done, Along n m M) ∧ Goes (dn.flatMap prs) M) (fun dn c rr τ h ea hi => by
      obtain ⟨rfl, S', L', s4, s5, s6, s7, s8, rfl, lb', gs'⟩ := hi
      have cm : c ∈ cs := by rw [ea]; simp
      have hc : ∀ a ∈ c, a < n := fun a ha => (dc.all a).1 (List.mem_flatten.2 ⟨c, cm, ha⟩)
      have hz : c.length ≤ 100 := by
        have := Cy.nodup_sub (Cy.nodup_of_flat dc.nd cm) hc
        omega
      obtain ⟨t, s5', t1, t2, ep⟩ := p_step hn hc (cyc_ne (dc.cyc c cm)) hz (.val (.int (n : Nat))) (.val (rowD ms)) (.val (mv m)) s5 s6 s7 s8 (L := L')
      refine ⟨_, _, [], rfl, ep, rfl, prs c ++ S', _, _, _, _, _, _, rfl, lab_mrg lb' hc t1 t2, fun M => ?_⟩
      rw [goes_app, gs', List.flatMap_append, goes_app, List.flatMap_cons, List.flatMap_nil, List.append_nil]
      exact ⟨fun ⟨a, b, c⟩ => ⟨b, c, a⟩, fun ⟨b, c, a⟩ => ⟨a, b, c⟩⟩) cs [] [.val (.int (n : Nat)), .val (rowD ms), .val (lsD n L), .val (mv m), s4, s5, s6, s7, s8] [] rfl ⟨rfl, S, L, _, _, _, _, _, rfl, lb, fun M => by rw [gs]; exact ⟨fun q => ⟨q, fun i hi => by cases hi⟩, fun q => q.1⟩⟩
    have it : seqR (callR 1 d_cycles_in (consR (nS 3) aN)) [.val (.int (n : Nat)), .val (rowD ms), .val (lsD n L), .val (mv m), s4, s5, s6, s7, s8] [] = .ok (cs.map mv) [] := by
      simp only [ap_iSub, ap_addD, ap_mulD, ap_iLt, ap_iLe, ap_iGt, ap_iGe, ap_iMod, ap_iDiv, ap_ifR, ap_nS, ap_nB, ap_kD, ap_aN, ap_tY, ap_oN, ap_oS, ap_rT, ap_xS, ap_bkS, ap_ctS, ap_noS, ap_rN, ap_frS, ap_mN, ap_shR, ap_seqS, ap_iteS, ap_cmpT, ap_setS, ap_setN, ap_nilS, ap_res1, ap_res2, ap_refIxR, ap_rputS, ap_consR, ap_callR, ap_biR, ap_isiR, ap_bAndR, ap_bNotR, ap_bOrR, ap_chR, ap_chT, ap_truR, ap_tNotR, ap_tAndR, ap_tOrR, ap_seqR, ap_rngR1, ap_rngR2, ap_enumR, ap_sliceR, ap_tupR, ap_lstR, ap_starR, ap_augS, ap_asgS, ap_par2, ap_ownM, ap_valM, ap_appS, ap_extS, ap_putS, ap_revR, rb_ok, rn_ok, ro_ok, tr_some, getS, getB, toRes, List.getElem?_cons_succ, List.getElem?_cons_zero, List.length_cons, List.length_nil, if_true, ec]
    refine ⟨_, _, [], rfl, for_of it e3, rfl, S', L', _, _, _, _, _, _, rfl, lb', fun M => ?_⟩
    rw [gs', along_rings dc]
    constructor
    · rintro ⟨g1, g2⟩ x hx
      rcases List.mem_append.1 hx with hx | hx
      · exact g1 x hx
      · have : x = m := by simpa using hx
        rw [this]
        exact g2
    · intro q
      exact ⟨fun x hx => q x (List.mem_append_left _ hx), q m (by simp)⟩) ms [] [.val (.int (n : Nat)), .val (rowD ms), .val (lsD n fun i => i), .un, .un, .un, .un, .un, .un] [] rfl ⟨rfl, [], _, _, _, _, _, _, _, rfl, lab_id n, fun M => ⟨fun _ m hm => (by cases hm), fun _ s hs => (by cases hs)⟩⟩
  have r : fnR 9 b_does_join_all [.int (n : Nat), rowD ms] [] = .ok (.bl (cn n ms)) [] := by
    refine fn_rt (τ := [.val (.int (n : Nat)), .val (rowD ms), .un, .un, .un, .un, .un, .un, .un]) rfl ?_
    have lr := lstRg_ok (fe := nS 0) (τ := [.val (.int (n : Nat)), .val (rowD ms), .un, .un, .un, .un, .un, .un, .un]) (h := []) (n := n) rfl (by omega)
    have e0 : lsD n (fun i => i) = .lst ((ni (List.range n)).map .int) := by rw [lsD, lsN, List.map_id']
    have s0 : setS 2 (lstRg (rg1 (nS 0))) [.val (.int (n : Nat)), .val (rowD ms), .un, .un, .un, .un, .un, .un, .un] [] = .nx [.val (.int (n : Nat)), .val (rowD ms), .val (lsD n fun i => i), .un, .un, .un, .un, .un, .un] [] := by
      rw [ap_setS, lr, ro_ok, e0]; rfl
    have cc := lcN (n := n) (by omega) (L := L) (fun x => .bl (decide (x = 0))) (te := res2 eqD (nS 8) (kD (.int 0))) (τ := [.val (.int (n : Nat)), .val (rowD ms), .val (lsD n L), s3, s4, s5, s6, s7, s8]) rfl fun k hk => by
      refine ⟨_, rfl, ?_⟩
      have e1 : eqD (.int (L k : Nat)) (.int 0) = some (.bl (decide (L k = 0))) := by
        have q : decide (((L k : Nat) : Int) = 0) = decide (L k = 0) := decide_eq_decide.mpr (by omega)
        rw [eq_int, q]
      simp only [ap_iSub, ap_addD, ap_mulD, ap_iLt, ap_iLe, ap_iGt, ap_iGe, ap_iMod, ap_iDiv, ap_ifR, ap_nS, ap_nB, ap_kD, ap_aN, ap_tY, ap_oN, ap_oS, ap_rT, ap_xS, ap_bkS, ap_ctS, ap_noS, ap_rN, ap_frS, ap_mN, ap_shR, ap_seqS, ap_iteS, ap_cmpT, ap_setS, ap_setN, ap_nilS, ap_res1, ap_res2, ap_refIxR, ap_rputS, ap_consR, ap_callR, ap_biR, ap_isiR, ap_bAndR, ap_bNotR, ap_bOrR, ap_chR, ap_chT, ap_truR, ap_tNotR, ap_tAndR, ap_tOrR, ap_seqR, ap_rngR1, ap_rngR2, ap_enumR, ap_sliceR, ap_tupR, ap_lstR, ap_starR, ap_augS, ap_asgS, ap_par2, ap_ownM, ap_valM, ap_appS, ap_extS, ap_putS, ap_revR, rb_ok, rn_ok, ro_ok, tr_some, getS, getB, toRes, wipeT, List.set, List.getElem?_cons_succ, List.getElem?_cons_zero, e1]
    have ag : allG [.lst ((lsN n L).map fun x => .bl (decide (x = 0)))] = some (.bl (cn n ms)) := by
      have e2 : ((lsN n L).map fun x => D.bl (decide (x = 0))) = ((lsN n L).map fun x => decide (x = 0)).map .bl := by rw [List.map_map]; rfl
      rw [e2]
      simp only [allG, bools_all, Option.map_some]
      have z := lab_zero R.h1 lb gs
      have iff : (∀ i, i < n → L i = 0) ↔ ((lsN n L).map fun x => decide (x = 0)).all id = true := by
        rw [List.all_map, List.all_eq_true, lsN]
        constructor
        · intro q x hx
          obtain ⟨i, hi, rfl⟩ := List.mem_map.1 hx
          exact decide_eq_true (q i (List.mem_range.1 hi))
        · intro q i hi
          exact of_decide_eq_true (q (L i) (List.mem_map.2 ⟨i, List.mem_range.2 hi, rfl⟩))
      have fin : ((lsN n L).map fun x => decide (x = 0)).all id = cn n ms := by
        by_cases cc : conn n ms
        · rw [cn_t cc]
          exact iff.1 (z.2 cc)
        · rw [cn_f cc, Bool.eq_false_iff]
          exact fun w => cc (z.1 (iff.2 w))
      rw [fin]
    rw [b_does_join_all, seq_nx s0, seq_nx (for_of rfl e), ap_rT, ap_biR, ap_consR, cc, rb_ok, ap_aN, rb_ok, rb_ok, ag]
    rfl
  rw [d_does_join_all, pureF_ok (by simp [noRefs, D.noRef, noRowL]) r]
end G_k76

namespace G_k76
open PySem PySem.Spec PyProof.Rows L2 Sw Gs
/-! ### moves undone -/
theorem idx_map (p : List Nat) (i : Nat) : (ni p).idxOf (i : Int) = p.idxOf i := by
  induction p with
  | nil => rfl
  | cons a p ih =>
    show ((a : Int) :: ni p).idxOf (i : Int) = (a :: p).idxOf i
    rw [List.idxOf_cons, List.idxOf_cons, ih]
    by_cases h : a = i
    · subst h; simp
    · have e1 : ((a : Int) == (i : Int)) = false := beq_eq_false_iff_ne.2 (by omega)
      have e2 : (a == i) = false := beq_eq_false_iff_ne.2 h
      rw [e1, e2]
theorem index_ok {n : Nat} {p : List Nat} (m : Mv n p) {i : Nat} (hi : i < n) : indexV (mv p) (.int (i : Nat)) = some (.int (p.idxOf i : Nat)) := by
  have hm : (i : Int) ∈ ni p := mem_ni.2 (mem_mv m hi)
  show ((intsD ((ni p).map .int)).bind fun ns => if (i : Int) ∈ ns then some (D.int (ns.idxOf (i : Int) : Nat)) else none) = _
  rw [Sw.ints_map, Option.bind_some, if_pos hm, idx_map]
theorem ap_indexR (fa fb : DE) (τ : List Sl) (h : HS) : indexR fa fb τ h = ((fa τ h).bind fun x h1 => if isTup x then (fb τ h1).bind fun y h2 => toRes (indexV x y) h2 else .bad) := id rfl
theorem undone_ok {n : Nat} {p : List Nat} (m : Mv n p) (hn : n ≤ 100) (h : HS) : d__law_undone [mv p] h = .ok (mv (Gs.inv n p)) h := by
  have r : fnR 2 b__law_undone [mv p] [] = .ok (mv (Gs.inv n p)) [] := by
    refine fn_rt (τ := [.val (mv p), .un]) rfl ?_
    have e : lcL (gN 1) tY (indexR (nS 0) (nS 1)) [.val (mv p), .un] ((List.range n).map fun i : Nat => .int (0 + (i : Nat))) [] = .ok ((List.range n).map fun i => .int (p.idxOf i : Nat)) [] := by
      refine lcL_all (fun i : Nat => .int (0 + (i : Nat))) _ _ fun i hi => ⟨_, rfl, ?_⟩
      have hi := List.mem_range.1 hi
      have ix := index_ok m hi
      simp only [ap_iSub, ap_addD, ap_mulD, ap_iLt, ap_iLe, ap_iGt, ap_iGe, ap_iMod, ap_iDiv, ap_ifR, ap_nS, ap_nB, ap_kD, ap_aN, ap_tY, ap_oN, ap_oS, ap_rT, ap_xS, ap_bkS, ap_ctS, ap_noS, ap_rN, ap_frS, ap_mN, ap_shR, ap_seqS, ap_iteS, ap_cmpT, ap_setS, ap_setN, ap_nilS, ap_res1, ap_res2, ap_refIxR, ap_rputS, ap_consR, ap_callR, ap_biR, ap_isiR, ap_bAndR, ap_bNotR, ap_bOrR, ap_chR, ap_chT, ap_truR, ap_tNotR, ap_tAndR, ap_tOrR, ap_seqR, ap_rngR1, ap_rngR2, ap_enumR, ap_sliceR, ap_tupR, ap_lstR, ap_starR, ap_augS, ap_asgS, ap_par2, ap_ownM, ap_valM, ap_appS, ap_extS, ap_putS, ap_revR, rb_ok, rn_ok, ro_ok, tr_some, getS, getB, toRes, ap_indexR, isTup, List.set, List.getElem?_cons_succ, List.getElem?_cons_zero, Int.zero_add, if_true, ix]
    have ln : biR lenG (consR (nS 0) aN) [.val (mv p), .un] [] = .ok (.int (n : Nat)) [] := by
      simp only [ap_iSub, ap_addD, ap_mulD, ap_iLt, ap_iLe, ap_iGt, ap_iGe, ap_iMod, ap_iDiv, ap_ifR, ap_nS, ap_nB, ap_kD, ap_aN, ap_tY, ap_oN, ap_oS, ap_rT, ap_xS, ap_bkS, ap_ctS, ap_noS, ap_rN, ap_frS, ap_mN, ap_shR, ap_seqS, ap_iteS, ap_cmpT, ap_setS, ap_setN, ap_nilS, ap_res1, ap_res2, ap_refIxR, ap_rputS, ap_consR, ap_callR, ap_biR, ap_isiR, ap_bAndR, ap_bNotR, ap_bOrR, ap_chR, ap_chT, ap_truR, ap_tNotR, ap_tAndR, ap_tOrR, ap_seqR, ap_rngR1, ap_rngR2, ap_enumR, ap_sliceR, ap_tupR, ap_lstR, ap_starR, ap_augS, ap_asgS, ap_par2, ap_ownM, ap_valM, ap_appS, ap_extS, ap_putS, ap_revR, rb_ok, rn_ok, ro_ok, tr_some, getS, getB, toRes, List.getElem?_cons_succ, List.getElem?_cons_zero, lenG, List.length_map, ni_len, m.len]
    have fl : fits n = true := fits_of (by omega)
    have a1 : lcR (rngR1 (biR lenG (consR (nS 0) aN))) [1] (gN 1) tY (indexR (nS 0) (nS 1)) [.val (mv p), .un] [] = .ok (.lst ((ni (Gs.inv n p)).map .int)) [] := by
      rw [ap_lcR, rng1_of ln (by omega)]
      simp only [rb_ok, List.length_map, List.length_range, fl, if_true, wipeT, List.set, e, rn_ok]
      rw [ni_map, Gs.inv, List.map_map]; rfl
    rw [b__law_undone]
    simp only [ap_iSub, ap_addD, ap_mulD, ap_iLt, ap_iLe, ap_iGt, ap_iGe, ap_iMod, ap_iDiv, ap_ifR, ap_nS, ap_nB, ap_kD, ap_aN, ap_tY, ap_oN, ap_oS, ap_rT, ap_xS, ap_bkS, ap_ctS, ap_noS, ap_rN, ap_frS, ap_mN, ap_shR, ap_seqS, ap_iteS, ap_cmpT, ap_setS, ap_setN, ap_nilS, ap_res1, ap_res2, ap_refIxR, ap_rputS, ap_consR, ap_callR, ap_biR, ap_isiR, ap_bAndR, ap_bNotR, ap_bOrR, ap_chR, ap_chT, ap_truR, ap_tNotR, ap_tAndR, ap_tOrR, ap_seqR, ap_rngR1, ap_rngR2, ap_enumR, ap_sliceR, ap_tupR, ap_lstR, ap_starR, ap_augS, ap_asgS, ap_par2, ap_ownM, ap_valM, ap_appS, ap_extS, ap_putS, ap_revR, rb_ok, rn_ok, ro_ok, tr_some, getS, getB, toRes, a1, tupG]
  rw [d__law_undone, pureF_ok (by simp [noRefs, D.noRef, noRefs_ints]) r]
/-! ### carried moves -/
theorem carried_ok {n : Nat} {p q : List Nat} (m : Mv n p) (mq : Mv n q) (hn : n ≤ 100) (h : HS) : d__law_le_carried [mv p, mv q] h = .ok (mv (car n q p)) h := by
  have z0 : (List.replicate n [D.int 0]).flatten = (ni (List.replicate n 0)).map .int := by
    rw [ni, List.map_replicate, List.map_replicate, List.flatten_replicate_singleton]; rfl
  obtain ⟨τ2, h2, e, ⟨r0, s3, s4, rfl, hl, hq⟩, rfl⟩ := forS_inv (fun i : Nat => .tup [.int (i : Nat), .int (ap p i : Nat)]) (fun done τ h => (∃ (r : List Nat) (s3 s4 : Sl), τ = [.val (mv p), .val (mv q), .own ((ni r).map .int), s3, s4] ∧ r.length = n ∧ ∀ i ∈ done, i < n ∧ ap r (ap q i) = ap q (ap p i)) ∧ h = [])
    (g := gT (gConsT (gN 3) (gConsT (gN 4) gNilT))) (b := putS 2 (res2 atD (nS 1) (nS 3)) (res2 atD (nS 1) (nS 4))) (List.range n) [] [.val (mv p), .val (mv q), .own ((ni (List.replicate n 0)).map .int), .un, .un] []
    ⟨⟨_, _, _, rfl, by rw [List.length_replicate], fun i hi => by cases hi⟩, rfl⟩ fun done x τ h hi hx => by
      obtain ⟨⟨r, s3, s4, rfl, hl, hr⟩, rfl⟩ := hi
      have hx := List.mem_range.1 hx
      have hp := m.ap_lt hx
      have hq := mq.ap_lt hx
      have g1 := at_tup (ni_get (ap_get (p := q) (i := x) (by rw [mq.len]; exact hx)))
      have g2 := at_tup (ni_get (ap_get (p := q) (i := ap p x) (by rw [mq.len]; exact hp)))
      refine ⟨[.val (mv p), .val (mv q), .own ((ni r).map .int), .val (.int (x : Nat)), .val (.int (ap p x : Nat))], [.val (mv p), .val (mv q), .own ((ni (r.set (ap q x) (ap q (ap p x)))).map .int), .val (.int (x : Nat)), .val (.int (ap p x : Nat))], [], rfl, ?_, ⟨_, _, _, rfl, by rw [List.length_set]; exact hl, fun i hi => ?_⟩, rfl⟩
      · have ix : L2.ixN ((ni r).map D.int).length (ap q x : Nat) = some (ap q x) := ixN_nat (by rw [List.length_map, ni_len, hl]; exact hq)
        have st : ((ni r).map D.int).set (ap q x) (.int (ap q (ap p x) : Nat)) = (ni (r.set (ap q x) (ap q (ap p x)))).map .int := by
          rw [ni_map, ni_map, List.map_set]
        simp only [ap_iSub, ap_addD, ap_mulD, ap_iLt, ap_iLe, ap_iGt, ap_iGe, ap_iMod, ap_iDiv, ap_ifR, ap_nS, ap_nB, ap_kD, ap_aN, ap_tY, ap_oN, ap_oS, ap_rT, ap_xS, ap_bkS, ap_ctS, ap_noS, ap_rN, ap_frS, ap_mN, ap_shR, ap_seqS, ap_iteS, ap_cmpT, ap_setS, ap_setN, ap_nilS, ap_res1, ap_res2, ap_refIxR, ap_rputS, ap_consR, ap_callR, ap_biR, ap_isiR, ap_bAndR, ap_bNotR, ap_bOrR, ap_chR, ap_chT, ap_truR, ap_tNotR, ap_tAndR, ap_tOrR, ap_seqR, ap_rngR1, ap_rngR2, ap_enumR, ap_sliceR, ap_tupR, ap_lstR, ap_starR, ap_augS, ap_asgS, ap_par2, ap_ownM, ap_valM, ap_appS, ap_extS, ap_putS, ap_revR, rb_ok, rn_ok, ro_ok, tr_some, getS, getB, toRes, List.getElem?_cons_succ, List.getElem?_cons_zero, g1, g2, ix, st, List.set]
      · have hr' := ap_upd (r := r) (k := ap q x) (x := ap q (ap p x)) (by rw [hl]; exact hq)
        rw [hr']
        rcases List.mem_append.1 hi with hi | hi
        · obtain ⟨h1, h2⟩ := hr i hi
          refine ⟨h1, ?_⟩
          split
          · rename_i e
            rw [mq.inj.inj i x h1 hx e]
          · exact h2
        · simp only [List.mem_singleton] at hi
          subst hi
          exact ⟨hx, if_pos rfl⟩
  have er : r0 = car n q p := ap_ext (by rw [hl, (car_mv mq m).len]) fun j hj => by
    rw [hl] at hj
    obtain ⟨i, hi, rfl⟩ := mq.onto hj
    rw [(hq i (List.mem_append_right _ (List.mem_range.2 hi))).2, car_at mq hi]
  have em := enum_mv p
  rw [m.len] at em
  have f1 : fits 1 = true := fits_of (by decide)
  have rp := rep_ok (x := .int 0) (n := n) (by omega)
  rw [z0] at rp
  have r : fnR 5 b__law_le_carried [mv p, mv q] [] = .ok (mv (car n q p)) [] := by
    refine fn_rt (τ := [.val (mv p), .val (mv q), .un, .un, .un]) rfl ?_
    have s0 : setN 2 (res2 repL (lstR (consR (kD (.int 0)) aN)) (biR lenG (consR (nS 0) aN))) [.val (mv p), .val (mv q), .un, .un, .un] [] = .nx [.val (mv p), .val (mv q), .own ((ni (List.replicate n 0)).map .int), .un, .un] [] := by
      simp only [ap_iSub, ap_addD, ap_mulD, ap_iLt, ap_iLe, ap_iGt, ap_iGe, ap_iMod, ap_iDiv, ap_ifR, ap_nS, ap_nB, ap_kD, ap_aN, ap_tY, ap_oN, ap_oS, ap_rT, ap_xS, ap_bkS, ap_ctS, ap_noS, ap_rN, ap_frS, ap_mN, ap_shR, ap_seqS, ap_iteS, ap_cmpT, ap_setS, ap_setN, ap_nilS, ap_res1, ap_res2, ap_refIxR, ap_rputS, ap_consR, ap_callR, ap_biR, ap_isiR, ap_bAndR, ap_bNotR, ap_bOrR, ap_chR, ap_chT, ap_truR, ap_tNotR, ap_tAndR, ap_tOrR, ap_seqR, ap_rngR1, ap_rngR2, ap_enumR, ap_sliceR, ap_tupR, ap_lstR, ap_starR, ap_augS, ap_asgS, ap_par2, ap_ownM, ap_valM, ap_appS, ap_extS, ap_putS, ap_revR, rb_ok, rn_ok, ro_ok, tr_some, getS, getB, toRes, List.getElem?_cons_succ, List.getElem?_cons_zero, List.length_cons, List.length_nil, Nat.zero_add, f1, if_true, lenG, List.length_map, ni_len, m.len, rp, ownSl, List.set]
    have it : enumR (nS 0) [.val (mv p), .val (mv q), .own ((ni (List.replicate n 0)).map .int), .un, .un] [] = .ok ((List.range n).map fun i : Nat => .tup [.int (i : Nat), .int (ap p i : Nat)]) [] := by
      simp only [ap_iSub, ap_addD, ap_mulD, ap_iLt, ap_iLe, ap_iGt, ap_iGe, ap_iMod, ap_iDiv, ap_ifR, ap_nS, ap_nB, ap_kD, ap_aN, ap_tY, ap_oN, ap_oS, ap_rT, ap_xS, ap_bkS, ap_ctS, ap_noS, ap_rN, ap_frS, ap_mN, ap_shR, ap_seqS, ap_iteS, ap_cmpT, ap_setS, ap_setN, ap_nilS, ap_res1, ap_res2, ap_refIxR, ap_rputS, ap_consR, ap_callR, ap_biR, ap_isiR, ap_bAndR, ap_bNotR, ap_bOrR, ap_chR, ap_chT, ap_truR, ap_tNotR, ap_tAndR, ap_tOrR, ap_seqR, ap_rngR1, ap_rngR2, ap_enumR, ap_sliceR, ap_tupR, ap_lstR, ap_starR, ap_augS, ap_asgS, ap_par2, ap_ownM, ap_valM, ap_appS, ap_extS, ap_putS, ap_revR, rb_ok, rn_ok, ro_ok, tr_some, getS, getB, toRes, List.getElem?_cons_succ, List.getElem?_cons_zero, em]
    rw [b__law_le_carried, seq_nx s0, seq_nx (for_of it e), er]
    simp only [ap_iSub, ap_addD, ap_mulD, ap_iLt, ap_iLe, ap_iGt, ap_iGe, ap_iMod, ap_iDiv, ap_ifR, ap_nS, ap_nB, ap_kD, ap_aN, ap_tY, ap_oN, ap_oS, ap_rT, ap_xS, ap_bkS, ap_ctS, ap_noS, ap_rN, ap_frS, ap_mN, ap_shR, ap_seqS, ap_iteS, ap_cmpT, ap_setS, ap_setN, ap_nilS, ap_res1, ap_res2, ap_refIxR, ap_rputS, ap_consR, ap_callR, ap_biR, ap_isiR, ap_bAndR, ap_bNotR, ap_bOrR, ap_chR, ap_chT, ap_truR, ap_tNotR, ap_tAndR, ap_tOrR, ap_seqR, ap_rngR1, ap_rngR2, ap_enumR, ap_sliceR, ap_tupR, ap_lstR, ap_starR, ap_augS, ap_asgS, ap_par2, ap_ownM, ap_valM, ap_appS, ap_extS, ap_putS, ap_revR, rb_ok, rn_ok, ro_ok, tr_some, getS, getB, toRes, List.getElem?_cons_succ, List.getElem?_cons_zero, tupG]
  rw [d__law_le_carried, pureF_ok (by simp [noRefs, D.noRef, noRefs_ints]) r]
/-! ### the genus -/
theorem lleast_ok {n : Nat} {p : List Nat} (m : Mv n p) (hn : n ≤ 24) (h : HS) : d__law_le_least [mv p] h = .ok (.int ((n : Int) - (Cy.ncyc (ap p) n : Nat))) h := by
  obtain ⟨ks, hk, ek⟩ := kind_ok m (by omega)
  have r : fnR 1 b__law_le_least [mv p] [] = .ok (.int ((n : Int) - (Cy.ncyc (ap p) n : Nat))) [] := by
    refine fn_rt (τ := [.val (mv p)]) rfl ?_
    rw [b__law_le_least]
    simp only [ap_iSub, ap_addD, ap_mulD, ap_iLt, ap_iLe, ap_iGt, ap_iGe, ap_iMod, ap_iDiv, ap_ifR, ap_nS, ap_nB, ap_kD, ap_aN, ap_tY, ap_oN, ap_oS, ap_rT, ap_xS, ap_bkS, ap_ctS, ap_noS, ap_rN, ap_frS, ap_mN, ap_shR, ap_seqS, ap_iteS, ap_cmpT, ap_setS, ap_setN, ap_nilS, ap_res1, ap_res2, ap_refIxR, ap_rputS, ap_consR, ap_callR, ap_biR, ap_isiR, ap_bAndR, ap_bNotR, ap_bOrR, ap_chR, ap_chT, ap_truR, ap_tNotR, ap_tAndR, ap_tOrR, ap_seqR, ap_rngR1, ap_rngR2, ap_enumR, ap_sliceR, ap_tupR, ap_lstR, ap_starR, ap_augS, ap_asgS, ap_par2, ap_ownM, ap_valM, ap_appS, ap_extS, ap_putS, ap_revR, rb_ok, rn_ok, ro_ok, tr_some, getS, getB, toRes, List.getElem?_cons_succ, List.getElem?_cons_zero, List.length_cons, List.length_nil, if_true, ek, lenG, List.length_map, ni_len, m.len, hk]
  rw [d__law_le_least, pureF_ok (by simp [noRefs, D.noRef, noRefs_ints]) r]
theorem sum_needs {n : Nat} : ∀ ms : List (List Nat), (ms.map fun m => (n : Int) - (Cy.ncyc (ap m) n : Nat)).sum = (needs n ms : Nat)
  | [] => rfl
  | m :: ms => by
    have := Cy.ncyc_le (ap m) n
    have ih := sum_needs (n := n) ms
    unfold needs at *
    rw [List.map_cons, List.sum_cons, ih, List.map_cons, List.sum_cons]
    omega
theorem sums_L (T : List Int) : sumsG [.lst (T.map .int)] = some (.int T.sum) := by
  simp only [sumsG, sumG, sumTG, Sw.ints_map, Option.some_or, Option.map_some]
/-- the sum of least numbers, by a comprehension in slot k -/
theorem needs_lc {n : Nat} {ms : List (List Nat)} (R : Rw n ms) {φ : DF} (hφ : ∀ m, Mv n m → φ [mv m] [] = .ok (.int ((n : Int) - (Cy.ncyc (ap m) n : Nat))) []) {k : Nat} {τ : List Sl} (h1 : τ[1]? = some (.val (rowD ms))) (hk : k < τ.length) :
    biR sumsG (consR (lcR (seqR (nS 1)) [k] (gN k) tY (callR 1 φ (consR (nS k) aN))) aN) τ [] = .ok (.int (needs n ms : Nat)) [] := by
  have e : lcL (gN k) tY (callR 1 φ (consR (nS k) aN)) (wipeT τ [k]) (ms.map mv) [] = .ok (ms.map fun m => .int ((n : Int) - (Cy.ncyc (ap m) n : Nat))) [] := by
    refine lcL_all mv _ _ fun m hm => ⟨(wipeT τ [k]).set k (.val (mv m)), by simp [gN, wipeT, hk], ?_⟩
    have hg : ((wipeT τ [k]).set k (.val (mv m)))[k]? = some (.val (mv m)) := by
      rw [List.getElem?_set_self]
      simp [wipeT, hk]
    rw [ap_callR, ap_consR, ap_nS]
    simp only [getS, hg, rb_ok, ap_aN, List.length_cons, List.length_nil, if_true, hφ m (R.mv m hm)]
  have hz := R.hz
  have fl : fits ms.length = true := fits_of (by omega)
  have a1 : lcR (seqR (nS 1)) [k] (gN k) tY (callR 1 φ (consR (nS k) aN)) τ [] = .ok (.lst ((ms.map fun m => (n : Int) - (Cy.ncyc (ap m) n : Nat)).map .int)) [] := by
    rw [ap_lcR, ap_seqR, ap_nS]
    simp only [getS, h1, rb_ok, List.length_map, fl, if_true, e, rn_ok]
    rw [List.map_map]; rfl
  rw [ap_biR, ap_consR, a1, rb_ok, ap_aN, rb_ok, rb_ok, sums_L, sum_needs]
  rfl
noncomputable def gI (n : Nat) (ms : List (List Nat)) : Int := ((needs n ms : Int) - ((n : Int) - 2 + (Cy.ncyc (ap (prodM n ms)) n : Nat))).fdiv 2
noncomputable def gen (n : Nat) (ms : List (List Nat)) : D := if cn n ms = true then .int (gI n ms) else .non
theorem div2 (x : Int) : divOk x 2 = true := by
  unfold divOk
  decide +kernel
theorem Rw.prod {n : Nat} {ms : List (List Nat)} (R : Rw n ms) : Mv n (prodM n ms) := Gs.prod_mv R.mv
theorem genus_in_ok {n : Nat} {ms : List (List Nat)} (R : Rw n ms) (h : HS) : d_genus_in [.int (n : Nat), rowD ms] h = .ok (gen n ms) h := by
  have hn := R.hn
  obtain ⟨cs, dc, ec⟩ := cycles_ok R.prod (by omega)
  have r : fnR 4 b_genus_in [.int (n : Nat), rowD ms] [] = .ok (gen n ms) [] := by
    refine fn_rt (τ := [.val (.int (n : Nat)), .val (rowD ms), .un, .un]) rfl ?_
    rw [b_genus_in]
    have t : tNotR (truR (callR 2 d_does_join_all (consR (nS 0) (consR (nS 1) aN)))) [.val (.int (n : Nat)), .val (rowD ms), .un, .un] [] = .ok (!cn n ms) [] := by
      simp only [ap_iSub, ap_addD, ap_mulD, ap_iLt, ap_iLe, ap_iGt, ap_iGe, ap_iMod, ap_iDiv, ap_ifR, ap_nS, ap_nB, ap_kD, ap_aN, ap_tY, ap_oN, ap_oS, ap_rT, ap_xS, ap_bkS, ap_ctS, ap_noS, ap_rN, ap_frS, ap_mN, ap_shR, ap_seqS, ap_iteS, ap_cmpT, ap_setS, ap_setN, ap_nilS, ap_res1, ap_res2, ap_refIxR, ap_rputS, ap_consR, ap_callR, ap_biR, ap_isiR, ap_bAndR, ap_bNotR, ap_bOrR, ap_chR, ap_chT, ap_truR, ap_tNotR, ap_tAndR, ap_tOrR, ap_seqR, ap_rngR1, ap_rngR2, ap_enumR, ap_sliceR, ap_tupR, ap_lstR, ap_starR, ap_augS, ap_asgS, ap_par2, ap_ownM, ap_valM, ap_appS, ap_extS, ap_putS, ap_revR, rb_ok, rn_ok, ro_ok, tr_some, getS, getB, toRes, List.getElem?_cons_succ, List.getElem?_cons_zero, List.length_cons, List.length_nil, if_true, joins_ok R, D.tru]
    by_cases c : cn n ms = true
    · rw [c] at t
      have s0 : iteS (tNotR (truR (callR 2 d_does_join_all (consR (nS 0) (consR (nS 1) aN))))) (rT (kD .non)) nilS [.val (.int (n : Nat)), .val (rowD ms), .un, .un] [] = .nx [.val (.int (n : Nat)), .val (rowD ms), .un, .un] [] := by
        rw [ite_f (show _ = Res.ok false [] from t)]; rfl
      have s1 : setS 2 (biR lenG (consR (callR 1 d_cycles_in (consR (callR 2 d_product_of_moves (consR (nS 0) (consR (nS 1) aN))) aN)) aN)) [.val (.int (n : Nat)), .val (rowD ms), .un, .un] [] = .nx [.val (.int (n : Nat)), .val (rowD ms), .val (.int (Cy.ncyc (ap (prodM n ms)) n : Nat)), .un] [] := by
        simp only [ap_iSub, ap_addD, ap_mulD, ap_iLt, ap_iLe, ap_iGt, ap_iGe, ap_iMod, ap_iDiv, ap_ifR, ap_nS, ap_nB, ap_kD, ap_aN, ap_tY, ap_oN, ap_oS, ap_rT, ap_xS, ap_bkS, ap_ctS, ap_noS, ap_rN, ap_frS, ap_mN, ap_shR, ap_seqS, ap_iteS, ap_cmpT, ap_setS, ap_setN, ap_nilS, ap_res1, ap_res2, ap_refIxR, ap_rputS, ap_consR, ap_callR, ap_biR, ap_isiR, ap_bAndR, ap_bNotR, ap_bOrR, ap_chR, ap_chT, ap_truR, ap_tNotR, ap_tAndR, ap_tOrR, ap_seqR, ap_rngR1, ap_rngR2, ap_enumR, ap_sliceR, ap_tupR, ap_lstR, ap_starR, ap_augS, ap_asgS, ap_par2, ap_ownM, ap_valM, ap_appS, ap_extS, ap_putS, ap_revR, rb_ok, rn_ok, ro_ok, tr_some, getS, getB, toRes, List.getElem?_cons_succ, List.getElem?_cons_zero, List.length_cons, List.length_nil, if_true, product_ok R, ec, lenG, List.length_map, Cy.dec_len dc, List.set]
      have nl := needs_lc R (φ := d_least_in) (fun m hm => least_in_ok hm hn []) (k := 3) (τ := [.val (.int (n : Nat)), .val (rowD ms), .val (.int (Cy.ncyc (ap (prodM n ms)) n : Nat)), .un]) rfl (by simp)
      have g : gen n ms = .int (gI n ms) := if_pos c
      rw [seq_nx s0, seq_nx s1, g, ap_rT, ap_res2, ap_res2, nl]
      simp only [ap_iSub, ap_addD, ap_mulD, ap_iLt, ap_iLe, ap_iGt, ap_iGe, ap_iMod, ap_iDiv, ap_ifR, ap_nS, ap_nB, ap_kD, ap_aN, ap_tY, ap_oN, ap_oS, ap_rT, ap_xS, ap_bkS, ap_ctS, ap_noS, ap_rN, ap_frS, ap_mN, ap_shR, ap_seqS, ap_iteS, ap_cmpT, ap_setS, ap_setN, ap_nilS, ap_res1, ap_res2, ap_refIxR, ap_rputS, ap_consR, ap_callR, ap_biR, ap_isiR, ap_bAndR, ap_bNotR, ap_bOrR, ap_chR, ap_chT, ap_truR, ap_tNotR, ap_tAndR, ap_tOrR, ap_seqR, ap_rngR1, ap_rngR2, ap_enumR, ap_sliceR, ap_tupR, ap_lstR, ap_starR, ap_augS, ap_asgS, ap_par2, ap_ownM, ap_valM, ap_appS, ap_extS, ap_putS, ap_revR, rb_ok, rn_ok, ro_ok, tr_some, getS, getB, toRes, List.getElem?_cons_succ, List.getElem?_cons_zero, div2, if_true]
      rfl
    · have c' : cn n ms = false := by simpa using c
      rw [c'] at t
      have s0 : iteS (tNotR (truR (callR 2 d_does_join_all (consR (nS 0) (consR (nS 1) aN))))) (rT (kD .non)) nilS [.val (.int (n : Nat)), .val (rowD ms), .un, .un] [] = .rt .non [] := by
        rw [ite_t (show _ = Res.ok true [] from t)]; rfl
      rw [seq_rt s0, show gen n ms = .non from if_neg c]
  rw [d_genus_in, pureF_ok (by simp [noRefs, D.noRef, noRowL]) r]
end G_k76

namespace G_k76
open PySem PySem.Spec PyProof.Rows L2 Sw Gs
theorem fold_max : ∀ (l : List Int) (m : Int), 0 < l.foldl max m ↔ 0 < m ∨ ∃ x ∈ l, 0 < x
  | [], m => by simp
  | y :: l, m => by
    rw [List.foldl_cons, fold_max l]
    constructor
    · rintro (h | ⟨x, hx, h⟩)
      · by_cases z : 0 < m
        · exact .inl z
        · exact .inr ⟨y, List.mem_cons_self, by omega⟩
      · exact .inr ⟨x, List.mem_cons_of_mem _ hx, h⟩
    · rintro (h | ⟨x, hx, h⟩)
      · exact .inl (by omega)
      · rcases List.mem_cons.1 hx with rfl | hx
        · exact .inl (by omega)
        · exact .inr ⟨x, hx, h⟩
theorem maxs_ls {n : Nat} (h1 : 1 ≤ n) (L : Nat → Nat) : ∃ M : Int, maxsG [lsD n L] = some (.int M) ∧ (0 < M ↔ ∃ i, i < n ∧ L i ≠ 0) := by
  obtain ⟨a, r, e⟩ : ∃ a r, lsN n L = a :: r := by
    have := ls_len n L
    match lsN n L, this with
    | a :: r, _ => exact ⟨a, r, rfl⟩
    | [], h => simp at h; omega
  refine ⟨(ni r).foldl max (a : Int), ?_, ?_⟩
  · have e1 : maxG [lsD n L] = none := rfl
    have e2 : mxTG max [lsD n L] = none := rfl
    have e3 : mxLG max [lsD n L] = some (.int ((ni r).foldl max (a : Int))) := by
      show (intsD ((ni (lsN n L)).map .int)).bind (foldI max) = _
      rw [Sw.ints_map, e]; rfl
    simp only [maxsG, e1, e2, e3, Option.none_or]
  · rw [fold_max]
    have mem : ∀ x : Nat, x ∈ lsN n L ↔ x = a ∨ x ∈ r := fun x => by rw [e]; simp
    constructor
    · rintro (h | ⟨x, hx, h⟩)
      · obtain ⟨i, hi, ei⟩ := List.mem_map.1 ((mem a).2 (.inl rfl))
        exact ⟨i, List.mem_range.1 hi, by rw [ei]; omega⟩
      · obtain ⟨y, hy, rfl⟩ := List.mem_map.1 hx
        obtain ⟨i, hi, ei⟩ := List.mem_map.1 ((mem y).2 (.inr hy))
        exact ⟨i, List.mem_range.1 hi, by rw [ei]; omega⟩
    · rintro ⟨i, hi, h⟩
      rcases (mem (L i)).1 (List.mem_map.2 ⟨i, List.mem_range.2 hi, rfl⟩) with q | q
      · exact .inl (by omega)
      · exact .inr ⟨(L i : Nat), List.mem_map.2 ⟨L i, q, rfl⟩, by omega⟩
theorem lgenus_ok {n : Nat} {ms : List (List Nat)} (R : Rw n ms) (h : HS) : d__law_le_genus [.int (n : Nat), rowD ms] h = .ok (gen n ms) h := by
  have hn := R.hn
  obtain ⟨S, L, lb, gs, ej⟩ := l_joined_ok R
  obtain ⟨M, eM, hM⟩ := maxs_ls R.h1 L
  obtain ⟨ks, hk, ek⟩ := kind_ok R.prod (by omega)
  have z := lab_zero R.h1 lb gs
  have r : fnR 4 b__law_le_genus [.int (n : Nat), rowD ms] [] = .ok (gen n ms) [] := by
    refine fn_rt (τ := [.val (.int (n : Nat)), .val (rowD ms), .un, .un]) rfl ?_
    rw [b__law_le_genus]
    by_cases c : conn n ms
    · have g0 : ¬ (0 < M) := fun w => by
        obtain ⟨i, hi, ne⟩ := hM.1 w
        exact ne (z.2 c i hi)
      have s0 : iteS (cmpT iGt (biR maxsG (consR (callR 2 d__law_joined (consR (nS 0) (consR (nS 1) aN))) aN)) (kD (.int 0))) (rT (kD .non)) nilS [.val (.int (n : Nat)), .val (rowD ms), .un, .un] [] = .nx [.val (.int (n : Nat)), .val (rowD ms), .un, .un] [] := by
        rw [ite_f (h' := [])]
        · rfl
        · simp only [ap_iSub, ap_addD, ap_mulD, ap_iLt, ap_iLe, ap_iGt, ap_iGe, ap_iMod, ap_iDiv, ap_ifR, ap_nS, ap_nB, ap_kD, ap_aN, ap_tY, ap_oN, ap_oS, ap_rT, ap_xS, ap_bkS, ap_ctS, ap_noS, ap_rN, ap_frS, ap_mN, ap_shR, ap_seqS, ap_iteS, ap_cmpT, ap_setS, ap_setN, ap_nilS, ap_res1, ap_res2, ap_refIxR, ap_rputS, ap_consR, ap_callR, ap_biR, ap_isiR, ap_bAndR, ap_bNotR, ap_bOrR, ap_chR, ap_chT, ap_truR, ap_tNotR, ap_tAndR, ap_tOrR, ap_seqR, ap_rngR1, ap_rngR2, ap_enumR, ap_sliceR, ap_tupR, ap_lstR, ap_starR, ap_augS, ap_asgS, ap_par2, ap_ownM, ap_valM, ap_appS, ap_extS, ap_putS, ap_revR, rb_ok, rn_ok, ro_ok, tr_some, getS, getB, toRes, List.getElem?_cons_succ, List.getElem?_cons_zero, List.length_cons, List.length_nil, if_true, ej, eM, decide_eq_false g0]
      have nl := needs_lc R (φ := d__law_le_least) (fun m hm => lleast_ok hm hn []) (k := 3) (τ := [.val (.int (n : Nat)), .val (rowD ms), .un, .un]) rfl (by simp)
      have s1 : setS 2 (biR sumsG (consR (lcR (seqR (nS 1)) [3] (gN 3) tY (callR 1 d__law_le_least (consR (nS 3) aN))) aN)) [.val (.int (n : Nat)), .val (rowD ms), .un, .un] [] = .nx [.val (.int (n : Nat)), .val (rowD ms), .val (.int (needs n ms : Nat)), .un] [] := by
        rw [ap_setS, nl, ro_ok]; rfl
      have g : gen n ms = .int (gI n ms) := if_pos (cn_t c)
      have e : (needs n ms : Int) - (n : Int) + 2 - (Cy.ncyc (ap (prodM n ms)) n : Nat) = (needs n ms : Int) - ((n : Int) - 2 + (Cy.ncyc (ap (prodM n ms)) n : Nat)) := by omega
      rw [seq_nx s0, seq_nx s1, g, gI, ← e]
      simp only [ap_iSub, ap_addD, ap_mulD, ap_iLt, ap_iLe, ap_iGt, ap_iGe, ap_iMod, ap_iDiv, ap_ifR, ap_nS, ap_nB, ap_kD, ap_aN, ap_tY, ap_oN, ap_oS, ap_rT, ap_xS, ap_bkS, ap_ctS, ap_noS, ap_rN, ap_frS, ap_mN, ap_shR, ap_seqS, ap_iteS, ap_cmpT, ap_setS, ap_setN, ap_nilS, ap_res1, ap_res2, ap_refIxR, ap_rputS, ap_consR, ap_callR, ap_biR, ap_isiR, ap_bAndR, ap_bNotR, ap_bOrR, ap_chR, ap_chT, ap_truR, ap_tNotR, ap_tAndR, ap_tOrR, ap_seqR, ap_rngR1, ap_rngR2, ap_enumR, ap_sliceR, ap_tupR, ap_lstR, ap_starR, ap_augS, ap_asgS, ap_par2, ap_ownM, ap_valM, ap_appS, ap_extS, ap_putS, ap_revR, rb_ok, rn_ok, ro_ok, tr_some, getS, getB, toRes, List.getElem?_cons_succ, List.getElem?_cons_zero, List.length_cons, List.length_nil, if_true, lproduct_ok R, ek, lenG, List.length_map, hk, div2]
    · have g0 : 0 < M := hM.2 (by
        refine Classical.byContradiction fun w => c (z.1 fun i hi => ?_)
        exact Classical.byContradiction fun ne => w ⟨i, hi, ne⟩)
      have s0 : iteS (cmpT iGt (biR maxsG (consR (callR 2 d__law_joined (consR (nS 0) (consR (nS 1) aN))) aN)) (kD (.int 0))) (rT (kD .non)) nilS [.val (.int (n : Nat)), .val (rowD ms), .un, .un] [] = .rt .non [] := by
        rw [ite_t (h' := [])]
        · rfl
        · simp only [ap_iSub, ap_addD, ap_mulD, ap_iLt, ap_iLe, ap_iGt, ap_iGe, ap_iMod, ap_iDiv, ap_ifR, ap_nS, ap_nB, ap_kD, ap_aN, ap_tY, ap_oN, ap_oS, ap_rT, ap_xS, ap_bkS, ap_ctS, ap_noS, ap_rN, ap_frS, ap_mN, ap_shR, ap_seqS, ap_iteS, ap_cmpT, ap_setS, ap_setN, ap_nilS, ap_res1, ap_res2, ap_refIxR, ap_rputS, ap_consR, ap_callR, ap_biR, ap_isiR, ap_bAndR, ap_bNotR, ap_bOrR, ap_chR, ap_chT, ap_truR, ap_tNotR, ap_tAndR, ap_tOrR, ap_seqR, ap_rngR1, ap_rngR2, ap_enumR, ap_sliceR, ap_tupR, ap_lstR, ap_starR, ap_augS, ap_asgS, ap_par2, ap_ownM, ap_valM, ap_appS, ap_extS, ap_putS, ap_revR, rb_ok, rn_ok, ro_ok, tr_some, getS, getB, toRes, List.getElem?_cons_succ, List.getElem?_cons_zero, List.length_cons, List.length_nil, if_true, ej, eM, decide_eq_true g0]
      rw [seq_rt s0, show gen n ms = .non from if_neg (by rw [cn_f c]; simp)]
  rw [d__law_le_genus, pureF_ok (by simp [noRefs, D.noRef, noRowL]) r]
theorem parity_ok {n : Nat} {ms : List (List Nat)} (R : Rw n ms) (c : cn n ms = true) (h : HS) : d__law_parity_right [.int (n : Nat), rowD ms] h = .ok (.bl true) h := by
  have hn := R.hn
  have c : conn n ms := Classical.byContradiction fun w => by rw [cn_f w] at c; cases c
  obtain ⟨q1, q2⟩ := rh R.h1 R.mv c
  obtain ⟨ks, hk, ek⟩ := kind_ok R.prod (by omega)
  have r : fnR 5 b__law_parity_right [.int (n : Nat), rowD ms] [] = .ok (.bl true) [] := by
    refine fn_rt (τ := [.val (.int (n : Nat)), .val (rowD ms), .un, .un, .un]) rfl ?_
    have nl := needs_lc R (φ := d__law_le_least) (fun m hm => lleast_ok hm hn []) (k := 4) (τ := [.val (.int (n : Nat)), .val (rowD ms), .un, .un, .un]) rfl (by simp)
    have s0 : setS 2 (biR sumsG (consR (lcR (seqR (nS 1)) [4] (gN 4) tY (callR 1 d__law_le_least (consR (nS 4) aN))) aN)) [.val (.int (n : Nat)), .val (rowD ms), .un, .un, .un] [] = .nx [.val (.int (n : Nat)), .val (rowD ms), .val (.int (needs n ms : Nat)), .un, .un] [] := by
      rw [ap_setS, nl, ro_ok]; rfl
    generalize hr : (needs n ms : Int) - (n : Int) + 2 - (Cy.ncyc (ap (prodM n ms)) n : Nat) = rest
    have s1 : setS 3 (res2 iSub (res2 addD (res2 iSub (nS 2) (nS 0)) (kD (.int 2))) (biR lenG (consR (callR 1 d__law_kind (consR (callR 2 d__law_le_product (consR (nS 0) (consR (nS 1) aN))) aN)) aN))) [.val (.int (n : Nat)), .val (rowD ms), .val (.int (needs n ms : Nat)), .un, .un] [] = .nx [.val (.int (n : Nat)), .val (rowD ms), .val (.int (needs n ms : Nat)), .val (.int rest), .un] [] := by
      rw [← hr]
      simp only [ap_iSub, ap_addD, ap_mulD, ap_iLt, ap_iLe, ap_iGt, ap_iGe, ap_iMod, ap_iDiv, ap_ifR, ap_nS, ap_nB, ap_kD, ap_aN, ap_tY, ap_oN, ap_oS, ap_rT, ap_xS, ap_bkS, ap_ctS, ap_noS, ap_rN, ap_frS, ap_mN, ap_shR, ap_seqS, ap_iteS, ap_cmpT, ap_setS, ap_setN, ap_nilS, ap_res1, ap_res2, ap_refIxR, ap_rputS, ap_consR, ap_callR, ap_biR, ap_isiR, ap_bAndR, ap_bNotR, ap_bOrR, ap_chR, ap_chT, ap_truR, ap_tNotR, ap_tAndR, ap_tOrR, ap_seqR, ap_rngR1, ap_rngR2, ap_enumR, ap_sliceR, ap_tupR, ap_lstR, ap_starR, ap_augS, ap_asgS, ap_par2, ap_ownM, ap_valM, ap_appS, ap_extS, ap_putS, ap_revR, rb_ok, rn_ok, ro_ok, tr_some, getS, getB, toRes, List.getElem?_cons_succ, List.getElem?_cons_zero, List.length_cons, List.length_nil, if_true, lproduct_ok R, ek, lenG, List.length_map, hk, List.set]
    have ge : (0 : Int) ≤ rest := by omega
    have md : modOk rest 2 = true := by unfold modOk; decide
    have fm : rest.fmod 2 = 0 := by rw [Int.fmod_eq_emod_of_nonneg _ (by decide)]; omega
    have e0 : eqD (.int 0) (.int 0) = some (.bl true) := eq_int 0 0
    rw [b__law_parity_right, seq_nx s0, seq_nx s1]
    simp only [ap_iSub, ap_addD, ap_mulD, ap_iLt, ap_iLe, ap_iGt, ap_iGe, ap_iMod, ap_iDiv, ap_ifR, ap_nS, ap_nB, ap_kD, ap_aN, ap_tY, ap_oN, ap_oS, ap_rT, ap_xS, ap_bkS, ap_ctS, ap_noS, ap_rN, ap_frS, ap_mN, ap_shR, ap_seqS, ap_iteS, ap_cmpT, ap_setS, ap_setN, ap_nilS, ap_res1, ap_res2, ap_refIxR, ap_rputS, ap_consR, ap_callR, ap_biR, ap_isiR, ap_bAndR, ap_bNotR, ap_bOrR, ap_chR, ap_chT, ap_truR, ap_tNotR, ap_tAndR, ap_tOrR, ap_seqR, ap_rngR1, ap_rngR2, ap_enumR, ap_sliceR, ap_tupR, ap_lstR, ap_starR, ap_augS, ap_asgS, ap_par2, ap_ownM, ap_valM, ap_appS, ap_extS, ap_putS, ap_revR, rb_ok, rn_ok, ro_ok, tr_some, getS, getB, toRes, List.getElem?_cons_succ, List.getElem?_cons_zero, decide_eq_true ge, if_true, md, fm, e0]
  rw [d__law_parity_right, pureF_ok (by simp [noRefs, D.noRef, noRowL]) r]
theorem any_false {α : Type} (l : List α) : anyG [.lst ((l.map fun _ => false).map .bl)] = some (.bl false) := by
  have al : (l.map fun _ => false).any id = false := by
    rw [List.any_eq_false]; intro x m; obtain ⟨_, _, rfl⟩ := List.mem_map.1 m; simp
  simp only [anyG, bools_all, Option.map_some, al]
theorem row_genus_ok {n : Nat} {m0 : List Nat} {rest : List (List Nat)} (R : Rw n (m0 :: rest)) (hz : (m0 :: rest).length ≤ 8) (h : HS) : d_genus_of_row [rowD (m0 :: rest)] h = .ok (gen n (m0 :: rest)) h := by
  have hn := R.hn
  generalize hms : m0 :: rest = ms at *
  have fl : fits ms.length = true := fits_of (by omega)
  have r : fnR 2 b_genus_of_row [rowD ms] [] = .ok (gen n ms) [] := by
    refine fn_rt (τ := [.val (rowD ms), .un]) rfl ?_
    have e : lcL (gN 1) tY (callR 1 d_is_move (consR (nS 1) aN)) [.val (rowD ms), .un] (ms.map mv) [] = .ok (ms.map fun _ => .bl true) [] := by
      refine lcL_all mv _ _ fun m hm => ⟨_, rfl, ?_⟩
      simp only [ap_iSub, ap_addD, ap_mulD, ap_iLt, ap_iLe, ap_iGt, ap_iGe, ap_iMod, ap_iDiv, ap_ifR, ap_nS, ap_nB, ap_kD, ap_aN, ap_tY, ap_oN, ap_oS, ap_rT, ap_xS, ap_bkS, ap_ctS, ap_noS, ap_rN, ap_frS, ap_mN, ap_shR, ap_seqS, ap_iteS, ap_cmpT, ap_setS, ap_setN, ap_nilS, ap_res1, ap_res2, ap_refIxR, ap_rputS, ap_consR, ap_callR, ap_biR, ap_isiR, ap_bAndR, ap_bNotR, ap_bOrR, ap_chR, ap_chT, ap_truR, ap_tNotR, ap_tAndR, ap_tOrR, ap_seqR, ap_rngR1, ap_rngR2, ap_enumR, ap_sliceR, ap_tupR, ap_lstR, ap_starR, ap_augS, ap_asgS, ap_par2, ap_ownM, ap_valM, ap_appS, ap_extS, ap_putS, ap_revR, rb_ok, rn_ok, ro_ok, tr_some, getS, getB, toRes, List.set, List.getElem?_cons_succ, List.getElem?_cons_zero, List.length_cons, List.length_nil, if_true, is_move_ok (R.mv m hm) R.h1 hn]
    have a1 : lcR (seqR (nS 0)) [1] (gN 1) tY (callR 1 d_is_move (consR (nS 1) aN)) [.val (rowD ms), .un] [] = .ok (.lst ((ms.map fun _ => true).map .bl)) [] := by
      rw [ap_lcR, ap_seqR, ap_nS]
      simp only [getS, List.getElem?_cons_zero, rb_ok, List.length_map, fl, if_true, wipeT, List.set, e, rn_ok]
      rw [List.map_map]; rfl
    have z0 : atD (rowD ms) (.int 0) = some (mv m0) := at_tup (i := 0) (by rw [← hms]; rfl)
    have l0 : lenG [mv m0] = some (.int (n : Nat)) := by
      simp only [lenG, List.length_map, ni_len, (R.mv m0 (by rw [← hms]; simp)).len]
    have nn : neD (.int (n : Nat)) (.int (n : Nat)) = some (.bl false) := ne_same (cmp_int _) (by decide)
    have e2 : lcL (gN 1) tY (res2 neD (biR lenG (consR (nS 1) aN)) (biR lenG (consR (res2 atD (nS 0) (kD (.int 0))) aN))) [.val (rowD ms), .un] (ms.map mv) [] = .ok (ms.map fun _ => .bl false) [] := by
      refine lcL_all mv _ _ fun m hm => ⟨_, rfl, ?_⟩
      have lm : lenG [mv m] = some (.int (n : Nat)) := by simp only [lenG, List.length_map, ni_len, (R.mv m hm).len]
      simp only [ap_iSub, ap_addD, ap_mulD, ap_iLt, ap_iLe, ap_iGt, ap_iGe, ap_iMod, ap_iDiv, ap_ifR, ap_nS, ap_nB, ap_kD, ap_aN, ap_tY, ap_oN, ap_oS, ap_rT, ap_xS, ap_bkS, ap_ctS, ap_noS, ap_rN, ap_frS, ap_mN, ap_shR, ap_seqS, ap_iteS, ap_cmpT, ap_setS, ap_setN, ap_nilS, ap_res1, ap_res2, ap_refIxR, ap_rputS, ap_consR, ap_callR, ap_biR, ap_isiR, ap_bAndR, ap_bNotR, ap_bOrR, ap_chR, ap_chT, ap_truR, ap_tNotR, ap_tAndR, ap_tOrR, ap_seqR, ap_rngR1, ap_rngR2, ap_enumR, ap_sliceR, ap_tupR, ap_lstR, ap_starR, ap_augS, ap_asgS, ap_par2, ap_ownM, ap_valM, ap_appS, ap_extS, ap_putS, ap_revR, rb_ok, rn_ok, ro_ok, tr_some, getS, getB, toRes, List.set, List.getElem?_cons_succ, List.getElem?_cons_zero, lm, z0, l0, nn]
    have a2 : lcR (seqR (nS 0)) [1] (gN 1) tY (res2 neD (biR lenG (consR (nS 1) aN)) (biR lenG (consR (res2 atD (nS 0) (kD (.int 0))) aN))) [.val (rowD ms), .un] [] = .ok (.lst ((ms.map fun _ => false).map .bl)) [] := by
      rw [ap_lcR, ap_seqR, ap_nS]
      simp only [getS, List.getElem?_cons_zero, rb_ok, List.length_map, fl, if_true, wipeT, List.set, e2, rn_ok]
      rw [List.map_map]; rfl
    have p1 : (1 : Int) ≤ (ms.length : Nat) := by rw [← hms, List.length_cons]; omega
    have p2 : ((ms.length : Nat) : Int) ≤ 8 := by omega
    have s0 : iteS (tOrR (tNotR (truR (isiR "tuple" (nS 0)))) (tOrR (tNotR (chT iLe iLe (kD (.int 1)) (biR lenG (consR (nS 0) aN)) (kD (.int 8)))) (tNotR (truR (biR allG (consR (lcR (seqR (nS 0)) [1] (gN 1) tY (callR 1 d_is_move (consR (nS 1) aN))) aN)))))) noS nilS [.val (rowD ms), .un] [] = .nx [.val (rowD ms), .un] [] := by
      rw [ite_f (h' := [])]
      · rfl
      · simp only [ap_iSub, ap_addD, ap_mulD, ap_iLt, ap_iLe, ap_iGt, ap_iGe, ap_iMod, ap_iDiv, ap_ifR, ap_nS, ap_nB, ap_kD, ap_aN, ap_tY, ap_oN, ap_oS, ap_rT, ap_xS, ap_bkS, ap_ctS, ap_noS, ap_rN, ap_frS, ap_mN, ap_shR, ap_seqS, ap_iteS, ap_cmpT, ap_setS, ap_setN, ap_nilS, ap_res1, ap_res2, ap_refIxR, ap_rputS, ap_consR, ap_callR, ap_biR, ap_isiR, ap_bAndR, ap_bNotR, ap_bOrR, ap_chR, ap_chT, ap_truR, ap_tNotR, ap_tAndR, ap_tOrR, ap_seqR, ap_rngR1, ap_rngR2, ap_enumR, ap_sliceR, ap_tupR, ap_lstR, ap_starR, ap_augS, ap_asgS, ap_par2, ap_ownM, ap_valM, ap_appS, ap_extS, ap_putS, ap_revR, rb_ok, rn_ok, ro_ok, tr_some, getS, getB, toRes, List.getElem?_cons_succ, List.getElem?_cons_zero, ty_tup, D.tru, Bool.not_true, Bool.false_eq_true, if_false, lenG, List.length_map, decide_eq_true p1, decide_eq_true p2, if_true, a1, all_true]
    have s1 : iteS (truR (biR anyG (consR (lcR (seqR (nS 0)) [1] (gN 1) tY (res2 neD (biR lenG (consR (nS 1) aN)) (biR lenG (consR (res2 atD (nS 0) (kD (.int 0))) aN)))) aN))) noS nilS [.val (rowD ms), .un] [] = .nx [.val (rowD ms), .un] [] := by
      rw [ite_f (h' := [])]
      · rfl
      · rw [ap_truR, ap_biR, ap_consR, a2, rb_ok, ap_aN, rb_ok, rb_ok, any_false]
        rfl
    rw [b_genus_of_row, seq_nx s0, seq_nx s1]
    simp only [ap_iSub, ap_addD, ap_mulD, ap_iLt, ap_iLe, ap_iGt, ap_iGe, ap_iMod, ap_iDiv, ap_ifR, ap_nS, ap_nB, ap_kD, ap_aN, ap_tY, ap_oN, ap_oS, ap_rT, ap_xS, ap_bkS, ap_ctS, ap_noS, ap_rN, ap_frS, ap_mN, ap_shR, ap_seqS, ap_iteS, ap_cmpT, ap_setS, ap_setN, ap_nilS, ap_res1, ap_res2, ap_refIxR, ap_rputS, ap_consR, ap_callR, ap_biR, ap_isiR, ap_bAndR, ap_bNotR, ap_bOrR, ap_chR, ap_chT, ap_truR, ap_tNotR, ap_tAndR, ap_tOrR, ap_seqR, ap_rngR1, ap_rngR2, ap_enumR, ap_sliceR, ap_tupR, ap_lstR, ap_starR, ap_augS, ap_asgS, ap_par2, ap_ownM, ap_valM, ap_appS, ap_extS, ap_putS, ap_revR, rb_ok, rn_ok, ro_ok, tr_some, getS, getB, toRes, List.getElem?_cons_succ, List.getElem?_cons_zero, List.length_cons, List.length_nil, if_true, z0, l0, genus_in_ok R]
  rw [d_genus_of_row, pureF_ok (by simp [noRefs, D.noRef, noRowL]) r]
/-! ### the genus stays -/
theorem gen_eq {n : Nat} {ms ms' : List (List Nat)} (c : conn n ms' ↔ conn n ms) (e : needs n ms' = needs n ms) (p : Cy.ncyc (ap (prodM n ms')) n = Cy.ncyc (ap (prodM n ms)) n) : gen n ms' = gen n ms := by
  have h1 : cn n ms' = cn n ms := by
    by_cases k : conn n ms
    · rw [cn_t k, cn_t (c.2 k)]
    · rw [cn_f k, cn_f fun w => k (c.1 w)]
  have h2 : gI n ms' = gI n ms := by rw [gI, gI, e, p]
  rw [gen, gen, h1, h2]
theorem gen_car {n : Nat} {ms : List (List Nat)} (R : Rw n ms) {q : List Nat} (mq : Mv n q) : gen n (ms.map (car n q)) = gen n ms :=
  gen_eq (conn_car R.h1 mq R.mv) (needs_car R.h1 mq R.mv) (by rw [prod_car mq R.mv, cyc_car R.h1 mq R.prod])
theorem gen_turn {n : Nat} {ms : List (List Nat)} {g : List Nat} (t : Trn n ms g) : gen n (tc n ms g :: ms) = gen n (ms ++ [g]) := gen_eq t.conn t.needs (by rw [t.prod])
end G_k76

namespace G_k76
open PySem PySem.Spec PyProof.Rows L2 Sw Gs
theorem gen_ne {n : Nat} {ms : List (List Nat)} : neD (gen n ms) (gen n ms) = some (.bl false) := by
  unfold gen
  split
  · exact ne_same (cmp_int _) (by decide)
  · exact ne_same cmp_non (by decide)
theorem gen_eqd {n : Nat} {ms : List (List Nat)} : eqD (gen n ms) (gen n ms) = some (.bl true) := by
  unfold gen
  split
  · exact eq_same (cmp_int _) (by decide)
  · exact eq_same cmp_non (by decide)
theorem gen_non {n : Nat} {ms : List (List Nat)} : notNonD (gen n ms) .non = some (.bl (cn n ms)) := by
  unfold gen
  by_cases c : cn n ms = true
  · rw [if_pos c, c]; rfl
  · rw [if_neg c]
    have : cn n ms = false := by simpa using c
    rw [this]; rfl
theorem row_last {ms : List (List Nat)} {g : List Nat} : atD (rowD (ms ++ [g])) (.int (-1)) = some (mv g) := by
  show L2.atI ((ms ++ [g]).map mv) (-1) = _
  unfold L2.atI L2.ixN
  rw [if_neg (by decide), List.length_map, List.length_append, if_pos (by simp; omega)]
  rw [Option.bind_some]
  have : ((-1 : Int) + ((ms.length + [g].length : Nat) : Int)).toNat = ms.length := by simp; omega
  rw [this, List.map_append]
  rw [List.getElem?_append_right (by simp)]
  simp
theorem row_cut {ms : List (List Nat)} {g : List Nat} : sliceD (rowD (ms ++ [g])) none (some (-1)) = some (rowD ms) := by
  show some (D.tup (Sw.cutD ((ms ++ [g]).map mv) none (some (-1)))) = _
  congr 2
  unfold Sw.cutD
  have e : HT.sIx ((ms ++ [g]).map mv).length ((ms ++ [g]).map mv).length (some (-1)) = ms.length := by
    show (if (-1 : Int) < 0 then ((-1 : Int) + (((ms ++ [g]).map mv).length : Nat)).toNat else min (-1 : Int).toNat ((ms ++ [g]).map mv).length) = ms.length
    rw [if_pos (by decide), List.length_map, List.length_append]
    simp; omega
  rw [HT.sIx_none, e, List.drop_zero, Nat.sub_zero, List.map_append]
  exact List.take_left' (by rw [List.length_map])
theorem eq_mv (p : List Nat) : eqD (mv p) (mv p) = some (.bl true) := eq_same (cmp_ints (ni p)) (by decide)
abbrev T9 (k n : Nat) (s2 s3 s4 s5 s6 s7 s8 : Sl) : List Sl := [.val (.ref k), .val (.int (n : Nat)), s2, s3, s4, s5, s6, s7, s8]
theorem row_drawn {n : Nat} (hn : n ≤ 24) {h : HS} {k : Nat} (hd : IsDice h k) (s2 s3 s4 s5 s6 s7 s8 : Sl) :
    ∃ ms h', t__law_right_1 (T9 k n s2 s3 s4 s5 s6 s7 s8) h = .nx (T9 k n (.val (rowD ms)) s3 s4 s5 s6 s7 s8) h' ∧ IsDice h' k ∧ (∀ m ∈ ms, Mv n m) ∧ 1 ≤ ms.length ∧ ms.length ≤ 5 := by
  obtain ⟨r, h1, e1, d1, r0, r1⟩ := roll_ok (m := 5) hd (by decide) (by decide)
  obtain ⟨j, rfl⟩ : ∃ j : Nat, r = (j : Nat) := ⟨r.toNat, by omega⟩
  have it : rngR1 (res2 addD (kD (.int 1)) (callR 2 d__law_roll (consR (nS 0) (consR (kD (.int 5)) aN)))) (T9 k n s2 s3 s4 s5 s6 s7 s8) h = .ok ((List.range (j + 1)).map fun i : Nat => .int (0 + (i : Nat))) h1 := by
    refine rng1_of ?_ (by omega)
    rw [roll_eq]
    have e : (1 : Int) + (j : Nat) = ((j + 1 : Nat) : Int) := by omega
    simp only [ap_iSub, ap_addD, ap_mulD, ap_iLt, ap_iLe, ap_iGt, ap_iGe, ap_iMod, ap_iDiv, ap_ifR, ap_nS, ap_nB, ap_kD, ap_aN, ap_tY, ap_oN, ap_oS, ap_rT, ap_xS, ap_bkS, ap_ctS, ap_noS, ap_rN, ap_frS, ap_mN, ap_shR, ap_seqS, ap_iteS, ap_cmpT, ap_setS, ap_setN, ap_nilS, ap_res1, ap_res2, ap_refIxR, ap_rputS, ap_consR, ap_callR, ap_biR, ap_isiR, ap_bAndR, ap_bNotR, ap_bOrR, ap_chR, ap_chT, ap_truR, ap_tNotR, ap_tAndR, ap_tOrR, ap_seqR, ap_rngR1, ap_rngR2, ap_enumR, ap_sliceR, ap_tupR, ap_lstR, ap_starR, ap_augS, ap_asgS, ap_par2, ap_ownM, ap_valM, ap_appS, ap_extS, ap_putS, ap_revR, rb_ok, rn_ok, ro_ok, tr_some, getS, getB, toRes, List.getElem?_cons_succ, List.getElem?_cons_zero, List.length_cons, List.length_nil, if_true, e1, e]
  obtain ⟨ds, h2, el, d2, hl, hr⟩ := lcL_inv (g := gN 7) (te := callR 2 d__law_move_drawn (consR (nS 0) (consR (nS 1) aN))) (τ := T9 k n s2 s3 s4 s5 s6 .un s8) (fun i : Nat => .int (0 + (i : Nat))) (fun h => IsDice h k) (fun d => ∃ m, d = mv m ∧ Mv n m) (List.range (j + 1)) h1 d1 fun x hx h hd => by
    obtain ⟨p, h', e, hd', m⟩ := move_drawn_ok (n := n) (by omega) hd
    refine ⟨_, mv p, h', rfl, ?_, hd', p, rfl, m⟩
    simp only [ap_iSub, ap_addD, ap_mulD, ap_iLt, ap_iLe, ap_iGt, ap_iGe, ap_iMod, ap_iDiv, ap_ifR, ap_nS, ap_nB, ap_kD, ap_aN, ap_tY, ap_oN, ap_oS, ap_rT, ap_xS, ap_bkS, ap_ctS, ap_noS, ap_rN, ap_frS, ap_mN, ap_shR, ap_seqS, ap_iteS, ap_cmpT, ap_setS, ap_setN, ap_nilS, ap_res1, ap_res2, ap_refIxR, ap_rputS, ap_consR, ap_callR, ap_biR, ap_isiR, ap_bAndR, ap_bNotR, ap_bOrR, ap_chR, ap_chT, ap_truR, ap_tNotR, ap_tAndR, ap_tOrR, ap_seqR, ap_rngR1, ap_rngR2, ap_enumR, ap_sliceR, ap_tupR, ap_lstR, ap_starR, ap_augS, ap_asgS, ap_par2, ap_ownM, ap_valM, ap_appS, ap_extS, ap_putS, ap_revR, rb_ok, rn_ok, ro_ok, tr_some, getS, getB, toRes, List.set, List.getElem?_cons_succ, List.getElem?_cons_zero, List.length_cons, List.length_nil, if_true, e]
  obtain ⟨ms, rfl, hm⟩ := all_of hr
  rw [List.length_map, List.length_range] at hl
  have fl : fits (j + 1) = true := fits_of (by omega)
  refine ⟨ms, h2, ?_, d2, hm, by omega, by omega⟩
  have a1 : lcR (rngR1 (res2 addD (kD (.int 1)) (callR 2 d__law_roll (consR (nS 0) (consR (kD (.int 5)) aN))))) [7] (gN 7) tY (callR 2 d__law_move_drawn (consR (nS 0) (consR (nS 1) aN))) (T9 k n s2 s3 s4 s5 s6 s7 s8) h = .ok (.lst (ms.map mv)) h2 := by
    rw [ap_lcR, it]
    simp only [rb_ok, List.length_map, List.length_range, fl, if_true, wipeT, List.set, el, rn_ok]
  rw [t__law_right_1, ap_setS, ap_biR, ap_consR, a1]
  simp only [ap_iSub, ap_addD, ap_mulD, ap_iLt, ap_iLe, ap_iGt, ap_iGe, ap_iMod, ap_iDiv, ap_ifR, ap_nS, ap_nB, ap_kD, ap_aN, ap_tY, ap_oN, ap_oS, ap_rT, ap_xS, ap_bkS, ap_ctS, ap_noS, ap_rN, ap_frS, ap_mN, ap_shR, ap_seqS, ap_iteS, ap_cmpT, ap_setS, ap_setN, ap_nilS, ap_res1, ap_res2, ap_refIxR, ap_rputS, ap_consR, ap_callR, ap_biR, ap_isiR, ap_bAndR, ap_bNotR, ap_bOrR, ap_chR, ap_chT, ap_truR, ap_tNotR, ap_tAndR, ap_tOrR, ap_seqR, ap_rngR1, ap_rngR2, ap_enumR, ap_sliceR, ap_tupR, ap_lstR, ap_starR, ap_augS, ap_asgS, ap_par2, ap_ownM, ap_valM, ap_appS, ap_extS, ap_putS, ap_revR, rb_ok, rn_ok, ro_ok, tr_some, getS, getB, toRes, tupG, List.set]
theorem right_ok {h : HS} {k : Nat} (hd : IsDice h k) : ∃ h', d__law_right [.ref k] h = .ok (.bl true) h' ∧ IsDice h' k := by
  obtain ⟨r, h1, e1, d1, r0, r1⟩ := roll_ok (m := 6) hd (by decide) (by decide)
  obtain ⟨n, hn⟩ : ∃ n : Nat, 1 + r = (n : Nat) := ⟨(1 + r).toNat, by omega⟩
  have n1 : 1 ≤ n := by omega
  have n6 : n ≤ 6 := by omega
  have s0 : t__law_right_0 [.val (.ref k), .un, .un, .un, .un, .un, .un, .un, .un] h = .nx (T9 k n .un .un .un .un .un .un .un) h1 := by
    rw [t__law_right_0, roll_eq]
    simp only [ap_iSub, ap_addD, ap_mulD, ap_iLt, ap_iLe, ap_iGt, ap_iGe, ap_iMod, ap_iDiv, ap_ifR, ap_nS, ap_nB, ap_kD, ap_aN, ap_tY, ap_oN, ap_oS, ap_rT, ap_xS, ap_bkS, ap_ctS, ap_noS, ap_rN, ap_frS, ap_mN, ap_shR, ap_seqS, ap_iteS, ap_cmpT, ap_setS, ap_setN, ap_nilS, ap_res1, ap_res2, ap_refIxR, ap_rputS, ap_consR, ap_callR, ap_biR, ap_isiR, ap_bAndR, ap_bNotR, ap_bOrR, ap_chR, ap_chT, ap_truR, ap_tNotR, ap_tAndR, ap_tOrR, ap_seqR, ap_rngR1, ap_rngR2, ap_enumR, ap_sliceR, ap_tupR, ap_lstR, ap_starR, ap_augS, ap_asgS, ap_par2, ap_ownM, ap_valM, ap_appS, ap_extS, ap_putS, ap_revR, rb_ok, rn_ok, ro_ok, tr_some, getS, getB, toRes, List.getElem?_cons_succ, List.getElem?_cons_zero, List.length_cons, List.length_nil, if_true, e1, hn, List.set]
  obtain ⟨ms0, h2, s1, d2, hm0, hl1, hl2⟩ := row_drawn (n := n) (by omega) d1 .un .un .un .un .un .un .un
  obtain ⟨c, h3, e3, d3, c0, c1⟩ := roll_ok (m := 2) d2 (by decide) (by decide)
  -- the row, maybe with one more move
  obtain ⟨ms, s2, hm, hz1, hz2⟩ : ∃ ms, t__law_right_2 (T9 k n (.val (rowD ms0)) .un .un .un .un .un .un) h2 = .nx (T9 k n (.val (rowD ms)) .un .un .un .un .un .un) h3 ∧ (∀ m ∈ ms, Mv n m) ∧ 1 ≤ ms.length ∧ ms.length ≤ 6 := by
    obtain ⟨m0, rest, rfl⟩ : ∃ a b, ms0 = a :: b := by
      match ms0, hl1 with
      | a :: b, _ => exact ⟨a, b, rfl⟩
    have mm0 := hm0 m0 List.mem_cons_self
    have z0 : atD (rowD (m0 :: rest)) (.int 0) = some (mv m0) := at_tup (i := 0) rfl
    have ct : cmpT eqD (callR 2 d__law_roll (consR (nS 0) (consR (kD (.int 2)) aN))) (kD (.int 0)) (T9 k n (.val (rowD (m0 :: rest))) .un .un .un .un .un .un) h2 = .ok (decide (c = 0)) h3 := by
      rw [roll_eq]
      simp only [ap_iSub, ap_addD, ap_mulD, ap_iLt, ap_iLe, ap_iGt, ap_iGe, ap_iMod, ap_iDiv, ap_ifR, ap_nS, ap_nB, ap_kD, ap_aN, ap_tY, ap_oN, ap_oS, ap_rT, ap_xS, ap_bkS, ap_ctS, ap_noS, ap_rN, ap_frS, ap_mN, ap_shR, ap_seqS, ap_iteS, ap_cmpT, ap_setS, ap_setN, ap_nilS, ap_res1, ap_res2, ap_refIxR, ap_rputS, ap_consR, ap_callR, ap_biR, ap_isiR, ap_bAndR, ap_bNotR, ap_bOrR, ap_chR, ap_chT, ap_truR, ap_tNotR, ap_tAndR, ap_tOrR, ap_seqR, ap_rngR1, ap_rngR2, ap_enumR, ap_sliceR, ap_tupR, ap_lstR, ap_starR, ap_augS, ap_asgS, ap_par2, ap_ownM, ap_valM, ap_appS, ap_extS, ap_putS, ap_revR, rb_ok, rn_ok, ro_ok, tr_some, getS, getB, toRes, List.getElem?_cons_succ, List.getElem?_cons_zero, List.length_cons, List.length_nil, if_true, e3, eq_int]
    by_cases cz : c = 0
    · rw [decide_eq_true cz] at ct
      have f1 : fits (0 + 1) = true := fits_of (by decide)
      have ca : addD (rowD (m0 :: rest)) (.tup [mv (Gs.inv n m0)]) = some (rowD ((m0 :: rest) ++ [Gs.inv n m0])) := by
        have fa : fits ((m0 :: rest).length + 1) = true := fits_of (by omega)
        show (if fits (((m0 :: rest).map mv).length + 1) = true then some (D.tup ((m0 :: rest).map mv ++ [mv (Gs.inv n m0)])) else none) = _
        rw [List.length_map, fa, if_pos rfl, rowD, List.map_append]; rfl
      refine ⟨(m0 :: rest) ++ [Gs.inv n m0], ?_, fun m hm => ?_, by simp, by rw [List.length_append]; simp at *; omega⟩
      · rw [t__law_right_2, ite_t ct]
        simp only [ap_iSub, ap_addD, ap_mulD, ap_iLt, ap_iLe, ap_iGt, ap_iGe, ap_iMod, ap_iDiv, ap_ifR, ap_nS, ap_nB, ap_kD, ap_aN, ap_tY, ap_oN, ap_oS, ap_rT, ap_xS, ap_bkS, ap_ctS, ap_noS, ap_rN, ap_frS, ap_mN, ap_shR, ap_seqS, ap_iteS, ap_cmpT, ap_setS, ap_setN, ap_nilS, ap_res1, ap_res2, ap_refIxR, ap_rputS, ap_consR, ap_callR, ap_biR, ap_isiR, ap_bAndR, ap_bNotR, ap_bOrR, ap_chR, ap_chT, ap_truR, ap_tNotR, ap_tAndR, ap_tOrR, ap_seqR, ap_rngR1, ap_rngR2, ap_enumR, ap_sliceR, ap_tupR, ap_lstR, ap_starR, ap_augS, ap_asgS, ap_par2, ap_ownM, ap_valM, ap_appS, ap_extS, ap_putS, ap_revR, rb_ok, rn_ok, ro_ok, tr_some, getS, getB, toRes, List.getElem?_cons_succ, List.getElem?_cons_zero, List.length_cons, List.length_nil, if_true, z0, undone_ok mm0 (show n ≤ 100 by omega), f1, ca, List.set]
      · rcases List.mem_append.1 hm with hm | hm
        · exact hm0 m hm
        · have : m = Gs.inv n m0 := by simpa using hm
          rw [this]; exact Gs.inv_mv mm0
    · rw [decide_eq_false cz] at ct
      exact ⟨m0 :: rest, by rw [t__law_right_2, ite_f ct]; rfl, hm0, hl1, by omega⟩
  have R : Rw n ms := ⟨n1, by omega, hm, by omega⟩
  obtain ⟨by_, h4, e4, d4, mb⟩ := move_drawn_ok (n := n) (by omega) d3
  have hrow : ∀ {ms : List (List Nat)}, Rw n ms → 1 ≤ ms.length → ms.length ≤ 8 → ∀ h, d_genus_of_row [rowD ms] h = .ok (gen n ms) h := fun {ms} R l1 l8 h => by
    match ms, l1, R, l8 with
    | a :: b, _, R, l8 => exact row_genus_ok R l8 h
  have s3 : t__law_right_3 (T9 k n (.val (rowD ms)) .un .un .un .un .un .un) h3 = .nx (T9 k n (.val (rowD ms)) (.val (gen n ms)) .un .un .un .un .un) h3 := by
    rw [t__law_right_3]
    simp only [ap_iSub, ap_addD, ap_mulD, ap_iLt, ap_iLe, ap_iGt, ap_iGe, ap_iMod, ap_iDiv, ap_ifR, ap_nS, ap_nB, ap_kD, ap_aN, ap_tY, ap_oN, ap_oS, ap_rT, ap_xS, ap_bkS, ap_ctS, ap_noS, ap_rN, ap_frS, ap_mN, ap_shR, ap_seqS, ap_iteS, ap_cmpT, ap_setS, ap_setN, ap_nilS, ap_res1, ap_res2, ap_refIxR, ap_rputS, ap_consR, ap_callR, ap_biR, ap_isiR, ap_bAndR, ap_bNotR, ap_bOrR, ap_chR, ap_chT, ap_truR, ap_tNotR, ap_tAndR, ap_tOrR, ap_seqR, ap_rngR1, ap_rngR2, ap_enumR, ap_sliceR, ap_tupR, ap_lstR, ap_starR, ap_augS, ap_asgS, ap_par2, ap_ownM, ap_valM, ap_appS, ap_extS, ap_putS, ap_revR, rb_ok, rn_ok, ro_ok, tr_some, getS, getB, toRes, List.getElem?_cons_succ, List.getElem?_cons_zero, List.length_cons, List.length_nil, if_true, lgenus_ok R, List.set]
  have s4 : t__law_right_4 (T9 k n (.val (rowD ms)) (.val (gen n ms)) .un .un .un .un .un) h3 = .nx (T9 k n (.val (rowD ms)) (.val (gen n ms)) .un .un .un .un .un) h3 := by
    have g0 := hrow R hz1 (by omega) h3
    rw [t__law_right_4, ite_f (h' := h3)]
    · rfl
    · by_cases c : cn n ms = true
      · simp only [ap_iSub, ap_addD, ap_mulD, ap_iLt, ap_iLe, ap_iGt, ap_iGe, ap_iMod, ap_iDiv, ap_ifR, ap_nS, ap_nB, ap_kD, ap_aN, ap_tY, ap_oN, ap_oS, ap_rT, ap_xS, ap_bkS, ap_ctS, ap_noS, ap_rN, ap_frS, ap_mN, ap_shR, ap_seqS, ap_iteS, ap_cmpT, ap_setS, ap_setN, ap_nilS, ap_res1, ap_res2, ap_refIxR, ap_rputS, ap_consR, ap_callR, ap_biR, ap_isiR, ap_bAndR, ap_bNotR, ap_bOrR, ap_chR, ap_chT, ap_truR, ap_tNotR, ap_tAndR, ap_tOrR, ap_seqR, ap_rngR1, ap_rngR2, ap_enumR, ap_sliceR, ap_tupR, ap_lstR, ap_starR, ap_augS, ap_asgS, ap_par2, ap_ownM, ap_valM, ap_appS, ap_extS, ap_putS, ap_revR, rb_ok, rn_ok, ro_ok, tr_some, getS, getB, toRes, List.getElem?_cons_succ, List.getElem?_cons_zero, List.length_cons, List.length_nil, if_true, g0, gen_ne, Bool.false_eq_true, if_false, gen_non, c, parity_ok R c, D.tru, Bool.not_true]
      · have c' : cn n ms = false := by simpa using c
        simp only [ap_iSub, ap_addD, ap_mulD, ap_iLt, ap_iLe, ap_iGt, ap_iGe, ap_iMod, ap_iDiv, ap_ifR, ap_nS, ap_nB, ap_kD, ap_aN, ap_tY, ap_oN, ap_oS, ap_rT, ap_xS, ap_bkS, ap_ctS, ap_noS, ap_rN, ap_frS, ap_mN, ap_shR, ap_seqS, ap_iteS, ap_cmpT, ap_setS, ap_setN, ap_nilS, ap_res1, ap_res2, ap_refIxR, ap_rputS, ap_consR, ap_callR, ap_biR, ap_isiR, ap_bAndR, ap_bNotR, ap_bOrR, ap_chR, ap_chT, ap_truR, ap_tNotR, ap_tAndR, ap_tOrR, ap_seqR, ap_rngR1, ap_rngR2, ap_enumR, ap_sliceR, ap_tupR, ap_lstR, ap_starR, ap_augS, ap_asgS, ap_par2, ap_ownM, ap_valM, ap_appS, ap_extS, ap_putS, ap_revR, rb_ok, rn_ok, ro_ok, tr_some, getS, getB, toRes, List.getElem?_cons_succ, List.getElem?_cons_zero, List.length_cons, List.length_nil, if_true, g0, gen_ne, Bool.false_eq_true, if_false, gen_non, c']
  have s5 : t__law_right_5 (T9 k n (.val (rowD ms)) (.val (gen n ms)) .un .un .un .un .un) h3 = .nx (T9 k n (.val (rowD ms)) (.val (gen n ms)) (.val (mv by_)) .un .un .un .un) h4 := by
    rw [t__law_right_5]
    simp only [ap_iSub, ap_addD, ap_mulD, ap_iLt, ap_iLe, ap_iGt, ap_iGe, ap_iMod, ap_iDiv, ap_ifR, ap_nS, ap_nB, ap_kD, ap_aN, ap_tY, ap_oN, ap_oS, ap_rT, ap_xS, ap_bkS, ap_ctS, ap_noS, ap_rN, ap_frS, ap_mN, ap_shR, ap_seqS, ap_iteS, ap_cmpT, ap_setS, ap_setN, ap_nilS, ap_res1, ap_res2, ap_refIxR, ap_rputS, ap_consR, ap_callR, ap_biR, ap_isiR, ap_bAndR, ap_bNotR, ap_bOrR, ap_chR, ap_chT, ap_truR, ap_tNotR, ap_tAndR, ap_tOrR, ap_seqR, ap_rngR1, ap_rngR2, ap_enumR, ap_sliceR, ap_tupR, ap_lstR, ap_starR, ap_augS, ap_asgS, ap_par2, ap_ownM, ap_valM, ap_appS, ap_extS, ap_putS, ap_revR, rb_ok, rn_ok, ro_ok, tr_some, getS, getB, toRes, List.getElem?_cons_succ, List.getElem?_cons_zero, List.length_cons, List.length_nil, if_true, e4, List.set]
  have fl : fits ms.length = true := fits_of (by omega)
  have Rc : Rw n (ms.map (car n by_)) := ⟨n1, by omega, fun m hm' => by
    obtain ⟨x, hx, rfl⟩ := List.mem_map.1 hm'
    exact car_mv mb (hm x hx), by rw [List.length_map]; omega⟩
  have s6 : t__law_right_6 (T9 k n (.val (rowD ms)) (.val (gen n ms)) (.val (mv by_)) .un .un .un .un) h4 = .nx (T9 k n (.val (rowD ms)) (.val (gen n ms)) (.val (mv by_)) .un .un .un .un) h4 := by
    have e : lcL (gN 8) tY (callR 2 d__law_le_carried (consR (nS 8) (consR (nS 4) aN))) (T9 k n (.val (rowD ms)) (.val (gen n ms)) (.val (mv by_)) .un .un .un .un) (ms.map mv) h4 = .ok (ms.map fun m => mv (car n by_ m)) h4 := by
      refine lcL_all mv _ _ fun m hm' => ⟨_, rfl, ?_⟩
      simp only [ap_iSub, ap_addD, ap_mulD, ap_iLt, ap_iLe, ap_iGt, ap_iGe, ap_iMod, ap_iDiv, ap_ifR, ap_nS, ap_nB, ap_kD, ap_aN, ap_tY, ap_oN, ap_oS, ap_rT, ap_xS, ap_bkS, ap_ctS, ap_noS, ap_rN, ap_frS, ap_mN, ap_shR, ap_seqS, ap_iteS, ap_cmpT, ap_setS, ap_setN, ap_nilS, ap_res1, ap_res2, ap_refIxR, ap_rputS, ap_consR, ap_callR, ap_biR, ap_isiR, ap_bAndR, ap_bNotR, ap_bOrR, ap_chR, ap_chT, ap_truR, ap_tNotR, ap_tAndR, ap_tOrR, ap_seqR, ap_rngR1, ap_rngR2, ap_enumR, ap_sliceR, ap_tupR, ap_lstR, ap_starR, ap_augS, ap_asgS, ap_par2, ap_ownM, ap_valM, ap_appS, ap_extS, ap_putS, ap_revR, rb_ok, rn_ok, ro_ok, tr_some, getS, getB, toRes, List.set, List.getElem?_cons_succ, List.getElem?_cons_zero, List.length_cons, List.length_nil, if_true, carried_ok (hm m hm') mb (show n ≤ 100 by omega)]
    have a1 : lcR (seqR (nS 2)) [8] (gN 8) tY (callR 2 d__law_le_carried (consR (nS 8) (consR (nS 4) aN))) (T9 k n (.val (rowD ms)) (.val (gen n ms)) (.val (mv by_)) .un .un .un .un) h4 = .ok (.lst ((ms.map (car n by_)).map mv)) h4 := by
      rw [ap_lcR, ap_seqR, ap_nS]
      simp only [getS, List.getElem?_cons_succ, List.getElem?_cons_zero, rb_ok, List.length_map, fl, if_true, wipeT, List.set, e, rn_ok]
      rw [List.map_map]; rfl
    have g0 := hrow Rc (by rw [List.length_map]; exact hz1) (by rw [List.length_map]; omega) h4
    rw [gen_car R mb] at g0
    rw [t__law_right_6, ite_f (h' := h4)]
    · rfl
    · rw [ap_cmpT, ap_res2, ap_callR, ap_consR, ap_biR, ap_consR, a1]
      simp only [ap_iSub, ap_addD, ap_mulD, ap_iLt, ap_iLe, ap_iGt, ap_iGe, ap_iMod, ap_iDiv, ap_ifR, ap_nS, ap_nB, ap_kD, ap_aN, ap_tY, ap_oN, ap_oS, ap_rT, ap_xS, ap_bkS, ap_ctS, ap_noS, ap_rN, ap_frS, ap_mN, ap_shR, ap_seqS, ap_iteS, ap_cmpT, ap_setS, ap_setN, ap_nilS, ap_res1, ap_res2, ap_refIxR, ap_rputS, ap_consR, ap_callR, ap_biR, ap_isiR, ap_bAndR, ap_bNotR, ap_bOrR, ap_chR, ap_chT, ap_truR, ap_tNotR, ap_tAndR, ap_tOrR, ap_seqR, ap_rngR1, ap_rngR2, ap_enumR, ap_sliceR, ap_tupR, ap_lstR, ap_starR, ap_augS, ap_asgS, ap_par2, ap_ownM, ap_valM, ap_appS, ap_extS, ap_putS, ap_revR, rb_ok, rn_ok, ro_ok, tr_some, getS, getB, toRes, tupG, List.getElem?_cons_succ, List.getElem?_cons_zero, List.length_cons, List.length_nil, if_true, g0, gen_ne]
  obtain ⟨init, g, rfl⟩ : ∃ a b, ms = a ++ [b] := by
    have : ms ≠ [] := fun z => by rw [z] at hz1; simp at hz1
    exact ⟨ms.dropLast, ms.getLast this, (List.dropLast_concat_getLast this).symm⟩
  have t : Trn n init g := ⟨n1, fun x hx => hm x (List.mem_append_left _ hx), hm g (by simp)⟩
  have s7 : t__law_right_7 (T9 k n (.val (rowD (init ++ [g]))) (.val (gen n (init ++ [g]))) (.val (mv by_)) .un .un .un .un) h4 = .nx (T9 k n (.val (rowD (init ++ [g]))) (.val (gen n (init ++ [g]))) (.val (mv by_)) (.val (mv (Gs.inv n (PP n init g)))) .un .un .un) h4 := by
    rw [t__law_right_7]
    simp only [ap_iSub, ap_addD, ap_mulD, ap_iLt, ap_iLe, ap_iGt, ap_iGe, ap_iMod, ap_iDiv, ap_ifR, ap_nS, ap_nB, ap_kD, ap_aN, ap_tY, ap_oN, ap_oS, ap_rT, ap_xS, ap_bkS, ap_ctS, ap_noS, ap_rN, ap_frS, ap_mN, ap_shR, ap_seqS, ap_iteS, ap_cmpT, ap_setS, ap_setN, ap_nilS, ap_res1, ap_res2, ap_refIxR, ap_rputS, ap_consR, ap_callR, ap_biR, ap_isiR, ap_bAndR, ap_bNotR, ap_bOrR, ap_chR, ap_chT, ap_truR, ap_tNotR, ap_tAndR, ap_tOrR, ap_seqR, ap_rngR1, ap_rngR2, ap_enumR, ap_sliceR, ap_tupR, ap_lstR, ap_starR, ap_augS, ap_asgS, ap_par2, ap_ownM, ap_valM, ap_appS, ap_extS, ap_putS, ap_revR, rb_ok, rn_ok, ro_ok, tr_some, getS, getB, toRes, List.getElem?_cons_succ, List.getElem?_cons_zero, List.length_cons, List.length_nil, if_true, lproduct_ok R, undone_ok R.prod (show n ≤ 100 by omega), List.set]
  have ca : addD (.tup [mv (tc n init g)]) (rowD init) = some (rowD (tc n init g :: init)) := by
    have hl : init.length ≤ 6 := by rw [List.length_append] at hz2; omega
    have fa : fits (1 + init.length) = true := fits_of (by omega)
    show (if fits (1 + (init.map mv).length) = true then some (D.tup ([mv (tc n init g)] ++ init.map mv)) else none) = _
    rw [List.length_map, fa, if_pos rfl]; rfl
  have f1 : fits (0 + 1) = true := fits_of (by decide)
  have s8 : t__law_right_8 (T9 k n (.val (rowD (init ++ [g]))) (.val (gen n (init ++ [g]))) (.val (mv by_)) (.val (mv (Gs.inv n (PP n init g)))) .un .un .un) h4 = .nx (T9 k n (.val (rowD (init ++ [g]))) (.val (gen n (init ++ [g]))) (.val (mv by_)) (.val (mv (Gs.inv n (PP n init g)))) (.val (rowD (tc n init g :: init))) .un .un) h4 := by
    have cr := carried_ok t.mg (Gs.inv_mv t.mP) (show n ≤ 100 by omega) h4
    rw [t__law_right_8]
    simp only [ap_iSub, ap_addD, ap_mulD, ap_iLt, ap_iLe, ap_iGt, ap_iGe, ap_iMod, ap_iDiv, ap_ifR, ap_nS, ap_nB, ap_kD, ap_aN, ap_tY, ap_oN, ap_oS, ap_rT, ap_xS, ap_bkS, ap_ctS, ap_noS, ap_rN, ap_frS, ap_mN, ap_shR, ap_seqS, ap_iteS, ap_cmpT, ap_setS, ap_setN, ap_nilS, ap_res1, ap_res2, ap_refIxR, ap_rputS, ap_consR, ap_callR, ap_biR, ap_isiR, ap_bAndR, ap_bNotR, ap_bOrR, ap_chR, ap_chT, ap_truR, ap_tNotR, ap_tAndR, ap_tOrR, ap_seqR, ap_rngR1, ap_rngR2, ap_enumR, ap_sliceR, ap_tupR, ap_lstR, ap_starR, ap_augS, ap_asgS, ap_par2, ap_ownM, ap_valM, ap_appS, ap_extS, ap_putS, ap_revR, rb_ok, rn_ok, ro_ok, tr_some, getS, getB, toRes, negD, List.getElem?_cons_succ, List.getElem?_cons_zero, List.length_cons, List.length_nil, if_true, row_last, cr, f1, row_cut, ca, List.set]
  have Rt : Rw n (tc n init g :: init) := ⟨n1, by omega, fun m hm' => (List.mem_cons.1 hm').elim (fun e => e ▸ t.mc) (t.hx m), by rw [List.length_cons]; rw [List.length_append] at hz2; omega⟩
  refine ⟨h4, ?_, d4⟩
  refine fn_rt (τ := [.val (.ref k), .un, .un, .un, .un, .un, .un, .un, .un]) rfl ?_
  have s9 : t__law_right_9 (T9 k n (.val (rowD (init ++ [g]))) (.val (gen n (init ++ [g]))) (.val (mv by_)) (.val (mv (Gs.inv n (PP n init g)))) (.val (rowD (tc n init g :: init))) .un .un) h4 = .rt (.bl true) h4 := by
    have g0 := hrow Rt (by simp) (by rw [List.length_cons]; rw [List.length_append] at hz2; omega) h4
    rw [gen_turn t] at g0
    have lp := lproduct_ok Rt h4
    rw [t.prod] at lp
    rw [t__law_right_9]
    simp only [ap_iSub, ap_addD, ap_mulD, ap_iLt, ap_iLe, ap_iGt, ap_iGe, ap_iMod, ap_iDiv, ap_ifR, ap_nS, ap_nB, ap_kD, ap_aN, ap_tY, ap_oN, ap_oS, ap_rT, ap_xS, ap_bkS, ap_ctS, ap_noS, ap_rN, ap_frS, ap_mN, ap_shR, ap_seqS, ap_iteS, ap_cmpT, ap_setS, ap_setN, ap_nilS, ap_res1, ap_res2, ap_refIxR, ap_rputS, ap_consR, ap_callR, ap_biR, ap_isiR, ap_bAndR, ap_bNotR, ap_bOrR, ap_chR, ap_chT, ap_truR, ap_tNotR, ap_tAndR, ap_tOrR, ap_seqR, ap_rngR1, ap_rngR2, ap_enumR, ap_sliceR, ap_tupR, ap_lstR, ap_starR, ap_augS, ap_asgS, ap_par2, ap_ownM, ap_valM, ap_appS, ap_extS, ap_putS, ap_revR, rb_ok, rn_ok, ro_ok, tr_some, getS, getB, toRes, List.getElem?_cons_succ, List.getElem?_cons_zero, List.length_cons, List.length_nil, if_true, lp, lproduct_ok R, eq_mv, g0, gen_eqd]
  rw [b__law_right, seq_nx s0, seq_nx s1, seq_nx s2, seq_nx s3, seq_nx s4, seq_nx s5, seq_nx s6, seq_nx s7, seq_nx s8, s9]
theorem tail_ok (S s1 s2 s3 s4 : Sl) (h : HS) : seqS t_law_1 t_law_2 [S, s1, s2, s3, s4] h = .rt (.bl true) h := by kernel_rfl
theorem body_ok (ns : List Int) (x : Nat) (u1 u2 u3 u4 : Sl) (h : HS) : ∃ v2 v3 h', seqS (setS 2 (callR 2 d__law_dice (consR (nS 0) (consR (nS 1) aN))))
    (forR (rngR1 (kD (.int 4))) (gN 3) (iteS (tNotR (truR (callR 1 d__law_right (consR (nS 2) aN)))) (rT (kD (.bl false))) nilS)) [.val (.frl (ns.map .int)), .val (.int (x : Nat)), u2, u3, u4] h = .nx [.val (.frl (ns.map .int)), .val (.int (x : Nat)), v2, v3, u4] h' := by
  obtain ⟨L, c, e1⟩ := dice_ok (h := h) (ns := ns) (i := x)
  have s1 : setS 2 (callR 2 d__law_dice (consR (nS 0) (consR (nS 1) aN))) [.val (.frl (ns.map .int)), .val (.int (x : Nat)), u2, u3, u4] h = .nx [.val (.frl (ns.map .int)), .val (.int (x : Nat)), .val (.ref h.length), u3, u4] (h ++ [[.int L, .int c, .int 0]]) := by
    rw [dice_eq]
    simp only [ap_iSub, ap_addD, ap_mulD, ap_iLt, ap_iLe, ap_iGt, ap_iGe, ap_iMod, ap_iDiv, ap_ifR, ap_nS, ap_nB, ap_kD, ap_aN, ap_tY, ap_oN, ap_oS, ap_rT, ap_xS, ap_bkS, ap_ctS, ap_noS, ap_rN, ap_frS, ap_mN, ap_shR, ap_seqS, ap_iteS, ap_cmpT, ap_setS, ap_setN, ap_nilS, ap_res1, ap_res2, ap_refIxR, ap_rputS, ap_consR, ap_callR, ap_biR, ap_isiR, ap_bAndR, ap_bNotR, ap_bOrR, ap_chR, ap_chT, ap_truR, ap_tNotR, ap_tAndR, ap_tOrR, ap_seqR, ap_rngR1, ap_rngR2, ap_enumR, ap_sliceR, ap_tupR, ap_lstR, ap_starR, ap_augS, ap_asgS, ap_par2, ap_ownM, ap_valM, ap_appS, ap_extS, ap_putS, ap_revR, rb_ok, rn_ok, ro_ok, tr_some, getS, getB, toRes, List.getElem?_cons_succ, List.getElem?_cons_zero, List.length_cons, List.length_nil, if_true, e1, List.set]
  obtain ⟨τ2, h2, e, hd2, s, rfl⟩ := forS_at (g := gN 3) (b := iteS (tNotR (truR (callR 1 d__law_right (consR (nS 2) aN)))) (rT (kD (.bl false))) nilS)
    (fun i : Nat => .int (0 + (i : Nat))) (List.range 4) (fun done τ hh => IsDice hh h.length ∧ ∃ s, τ = [.val (.frl (ns.map .int)), .val (.int (x : Nat)), .val (.ref h.length), s, u4]) (fun done y rr τ hh ea hi => by
      obtain ⟨hd, s, rfl⟩ := hi
      obtain ⟨h1, e1, d1⟩ := right_ok hd
      refine ⟨_, _, h1, rfl, ?_, d1, .val (.int (0 + (y : Nat))), rfl⟩
      rw [ite_f (h' := h1)]
      · rfl
      · simp only [ap_iSub, ap_addD, ap_mulD, ap_iLt, ap_iLe, ap_iGt, ap_iGe, ap_iMod, ap_iDiv, ap_ifR, ap_nS, ap_nB, ap_kD, ap_aN, ap_tY, ap_oN, ap_oS, ap_rT, ap_xS, ap_bkS, ap_ctS, ap_noS, ap_rN, ap_frS, ap_mN, ap_shR, ap_seqS, ap_iteS, ap_cmpT, ap_setS, ap_setN, ap_nilS, ap_res1, ap_res2, ap_refIxR, ap_rputS, ap_consR, ap_callR, ap_biR, ap_isiR, ap_bAndR, ap_bNotR, ap_bOrR, ap_chR, ap_chT, ap_truR, ap_tNotR, ap_tAndR, ap_tOrR, ap_seqR, ap_rngR1, ap_rngR2, ap_enumR, ap_sliceR, ap_tupR, ap_lstR, ap_starR, ap_augS, ap_asgS, ap_par2, ap_ownM, ap_valM, ap_appS, ap_extS, ap_putS, ap_revR, rb_ok, rn_ok, ro_ok, tr_some, getS, getB, toRes, List.set, List.getElem?_cons_succ, List.getElem?_cons_zero, List.length_cons, List.length_nil, if_true, e1, D.tru, Bool.not_true]) (List.range 4) [] [.val (.frl (ns.map .int)), .val (.int (x : Nat)), .val (.ref h.length), u3, u4] (h ++ [[.int L, .int c, .int 0]]) rfl ⟨IsDice.last, u3, rfl⟩
  have it : rngR1 (kD (.int 4)) [.val (.frl (ns.map .int)), .val (.int (x : Nat)), .val (.ref h.length), u3, u4] (h ++ [[.int L, .int c, .int 0]]) = .ok ((List.range 4).map fun i : Nat => .int (0 + (i : Nat))) (h ++ [[.int L, .int c, .int 0]]) := by kernel_rfl
  exact ⟨_, s, h2, by rw [seq_nx s1, for_of it e]⟩
theorem law0_ok (ns : List Int) (s1 s2 s3 s4 : Sl) (h : HS) : ∃ u1 u2 u3 h', t_law_0 [.val (.frl (ns.map .int)), s1, s2, s3, s4] h = .nx [.val (.frl (ns.map .int)), u1, u2, u3, s4] h' := by
  obtain ⟨K, hK, hK1⟩ := spots_ok 3 (by decide) (by decide) ns [s1, s2, s3, s4] h
  obtain ⟨τ2, h2, e, u1, u2, u3, rfl⟩ := forS_at (fun i : Nat => .int (0 + (i : Nat))) (List.range K) (fun done τ h => ∃ s1 s2 s3, τ = [.val (.frl (ns.map .int)), s1, s2, s3, s4])
    (g := gN 1) (b := seqS (setS 2 (callR 2 d__law_dice (consR (nS 0) (consR (nS 1) aN))))
    (forR (rngR1 (kD (.int 4))) (gN 3) (iteS (tNotR (truR (callR 1 d__law_right (consR (nS 2) aN)))) (rT (kD (.bl false))) nilS))) (fun done x r τ h ea hi => by
      obtain ⟨u1, u2, u3, rfl⟩ := hi
      obtain ⟨v2, v3, h', eb⟩ := body_ok ns x u1 u2 u3 s4 h
      refine ⟨[.val (.frl (ns.map .int)), .val (.int (x : Nat)), u2, u3, s4], _, h', ?_, eb, ⟨_, _, _, rfl⟩⟩
      simp [gN]) (List.range K) [] [.val (.frl (ns.map .int)), s1, s2, s3, s4] h rfl ⟨_, _, _, rfl⟩
  refine ⟨u1, u2, u3, h2, ?_⟩
  rw [t_law_0]
  exact for_of (rng1_of hK (by omega)) e
theorem math (ns : List Int) (hl : ns.length ≤ 63) : ∃ h, fnR 5 b_law [.frl (ns.map .int)] [] = .ok (.bl true) h := by
  obtain ⟨u1, u2, u3, h', e⟩ := law0_ok ns .un .un .un .un []
  refine ⟨h', ?_⟩
  rw [ap_fnR, b_law]
  simp only [List.map_cons, List.map_nil, List.length_cons, List.length_nil, List.replicate, List.cons_append, List.nil_append]
  rw [seq_nx e, tail_ok]
end G_k76

open PySem PySem.W PySem.Calls PyProof.Rows Sw
theorem PySem.Challenge.cw_swapsheets_k76_whole_genus_of_rows_of_mo_holds : PySem.Challenge.rw_swapsheets_k76_whole_genus_of_rows_of_mo.Holds := by
  w_on; o_law
  refine HandSHeadRun.head_any (r := PySem.W.OpenLaw.row PySem.Challenge.rw_swapsheets_k76_whole_genus_of_rows_of_mo) (q := PySem.W.view (PySem.W.OpenLaw.row PySem.Challenge.rw_swapsheets_k76_whole_genus_of_rows_of_mo).prog [37]) (H := G_k76.hk) (ob := G_k76.ob) (M := 6000) (loose := G_k76.loose) (d := HandSHeadRun.topDef (PySem.W.OpenLaw.row PySem.Challenge.rw_swapsheets_k76_whole_genus_of_rows_of_mo).prog 37) (kwd := []) G_k76.ob_eq
    (by kernel_rfl) (fun s => by kernel_rfl) G_k76.run (by kernel_rfl) (by kernel_rfl) (by kernel_rfl) (by rfl) (by first | assumption | decide +kernel) (by decide +kernel) ⟨rfl, rfl, rfl, rfl, rfl, by decide +kernel⟩ ?hw ?hc
  case hw => w_witness2
  case hc =>
    refine Sw.walk_end (l := PySem.Challenge.rw_swapsheets_k76_whole_genus_of_rows_of_mo) (n := 63) (k := 7) (x := "_law_script") rfl (by decide) (by kernel_rfl) ⟨rfl, by decide, by decide⟩ ?F
    intro w mg fa h Y G hmg0
    obtain ⟨K, KX, c⟩ := Y
    have hmg : mg ("law" : PySem.Str) = some (.ref fa) := by
      have e : (HandSHeadRun.topDef (PySem.W.OpenLaw.row PySem.Challenge.rw_swapsheets_k76_whole_genus_of_rows_of_mo).prog 37).name = ("law" : PySem.Str) := by kernel_rfl
      rw [← e]
      exact hmg0
    obtain ⟨fd, hb, hF⟩ := law_facts (P := PySem.Challenge.rw_swapsheets_k76_whole_genus_of_rows_of_mo.prog) (w := w) KX G c hmg 27 45 (st := G_k76.s_law) (fb := G_k76.b_law) rfl rfl G_k76.sc_law (fun _ _ _ _ _ _ us hl => match us, hl with | [_], _ => rfl) (fun g T => G_k76.body_law T)
    exact ⟨K, fd, spOf ⟨PySem.Challenge.rw_swapsheets_k76_whole_genus_of_rows_of_mo.prog, w, K, mg, h⟩ 1 (fnR 5 G_k76.b_law), KX, hb, fun H a ns hl hO hS => law_sp hO hS (G_k76.math ns hl), fun base i1 i2 => hF base i1 i2⟩
