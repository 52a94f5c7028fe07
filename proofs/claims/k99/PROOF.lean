import PyProof.Rows.All
import Wide.All
import OpenK.AllK
import Wide.FinOn
import HandS.ForMost
import HandS.ForExc
import HandS.Walk
import HandS.Flow
import HandS.DictComp
import HandS.DictTup
import HandS.Conv
import HandS.Deep
import HandS.TryMany
import HandS.Strs
import HandS.More
import KE.KDictKeyed
import HandS.IsInst
import HandS.SortInts
import HandS.TupAny
import HandS.Style
import KE.KDictPairs
import KE.SortKeyed
import HandS.WordsExc
import HandS.Small
import HandS.TryOnly
import HandS.ExcOwn
import PyProof.DictTable
import HandS.Defaults
import PyProof.Rows.AssignMoreSeq
import HandS.HeadEnd
import HandS.Head2
import HandS.HeadHook4
import HandS.Words
import PyProof.ExcBaseAll.ValueError
import KE.GoesEnum
import KE.GoesMore
import KE.GoesZip
import HandS.Star
import KE.KDictSum
import KE.KDictCopyH
import PySem.Challenge.RW_listworlds_k99_whole_logs_of_steps
set_option Elab.async false
set_option linter.all false
set_option maxRecDepth 100000
section
/-! PD1: data without a heap (D), how it lies in the heap (Rp), the words for a def's slots (Slot, EnvOk). -/
namespace PD
open PySem PySem.Spec L2
open PyProof.Rows hiding St
open PySem.PyData (strOk)

/-- plain data -/
inductive D where
  | non | bl (b : Bool) | int (i : Int) | str (x : Str)
  | tup (xs : List D) | lst (xs : List D)
  | dct (kvs : List (D × D)) | dctT (kvs : List (D × D))
  | fn (x : Str)
  /-- the script: a list of ints that is read alone -/
  | scr (ns : List Int)
  deriving Inhabited

/-- an end: a value, an own exception, or what is not spoken of -/
inductive R (α : Type) where
  | ok (a : α) | exc (e : Str) | bad
  deriving Inhabited
namespace R
@[irreducible] def bind {α β : Type} : R α → (α → R β) → R β
  | .ok a, f => f a
  | .exc e, _ => .exc e
  | .bad, _ => .bad
def neg : R Bool → R Bool
  | .ok b => .ok (!b)
  | .exc e => .exc e
  | .bad => .bad
@[simp] theorem neg_ok (b : Bool) : (R.ok b).neg = .ok (!b) := rfl
@[simp] theorem neg_exc (e : Str) : (R.exc e : R Bool).neg = .exc e := rfl
@[simp] theorem neg_bad : (R.bad : R Bool).neg = .bad := rfl
instance : Monad R where
  pure := .ok
  bind := R.bind
variable {α β γ : Type}
@[simp] theorem bind_ok (a : α) (f : α → R β) : (R.ok a).bind f = f a := by unfold R.bind; rfl
@[simp] theorem bind_exc (e : Str) (f : α → R β) : (R.exc e : R α).bind f = .exc e := by unfold R.bind; rfl
@[simp] theorem bind_bad (f : α → R β) : (R.bad : R α).bind f = .bad := by unfold R.bind; rfl
theorem bind_assoc (m : R α) (f : α → R β) (g : β → R γ) : (m.bind f).bind g = m.bind fun x => (f x).bind g := by cases m <;> simp
@[simp] theorem pure_eq (a : α) : (pure a : R α) = .ok a := rfl
@[simp] theorem bind_eq (m : R α) (f : α → R β) : (m >>= f) = m.bind f := rfl
theorem bind_eq_ok {m : R α} {f : α → R β} {b : β} (h : m.bind f = .ok b) : ∃ a, m = .ok a ∧ f a = .ok b := by
  cases m with
  | ok a => rw [bind_ok] at h; exact ⟨a, rfl, h⟩
  | exc e => rw [bind_exc] at h; cases h
  | bad => rw [bind_bad] at h; cases h
theorem bind_eq_exc {m : R α} {f : α → R β} {e : Str} (h : m.bind f = .exc e) : m = .exc e ∨ ∃ a, m = .ok a ∧ f a = .exc e := by
  cases m with
  | ok a => rw [bind_ok] at h; exact .inr ⟨a, rfl, h⟩
  | exc e => rw [bind_exc] at h; cases h; exact .inl rfl
  | bad => rw [bind_bad] at h; cases h
end R

/-- a module's names, and the world (whose hashes of texts the keys of dicts bear) -/
structure MG where
  g : Str → Option Value
  w : World
instance : CoeFun MG fun _ => Str → Option Value := ⟨MG.g⟩
/-- a key of a flat dict -/
def IsKey : D → Key → Prop
  | .int i, k => k = .inl i
  | .str x, k => k = .inr x ∧ strOk x = true
  | _, _ => False
mutual
/-- a key of any depth -/
def D.nk : D → Option NestedKey
  | .non => some .none
  | .bl b => some (.num (if b = true then 1 else 0))
  | .int i => some (.num i)
  | .str x => some (.text x)
  | .tup ds => (D.nkL ds).map .tup
  | _ => none
def D.nkL : List D → Option (List NestedKey)
  | [] => some []
  | d :: ds => match D.nk d, D.nkL ds with
    | some k, some ks => some (k :: ks)
    | _, _ => none
end
/-- a tuple that is a key -/
def D.nkT : D → Option NestedKey
  | .tup ds => match D.nk (.tup ds) with
    | some k => if k.depth ≤ 8 then some k else none
    | none => none
  | _ => none
def entN (w : World) (x : NestedKey × Addr × Value) : DictEntry := ⟨x.1.hash w, .ref x.2.1, x.2.2⟩
/-- a dict with such keys, by its object -/
def TD (w : World) (p : Addr) (es : List (NestedKey × Addr × V)) (h : Heap) : Prop := es.length ≤ sizeLine ∧ (p == sysModules) = false ∧ ∃ xs : List (NestedKey × Addr × Value),
  Paired (fun (a : NestedKey × Addr × V) (b : NestedKey × Addr × Value) => a.1 = b.1 ∧ a.2.1 = b.2.1 ∧ RelV a.2.2 b.2.2) es xs ∧
  ∃ o ds ep, h.get? p = some o ∧ o.ExactDict ∧ o.data = .dict ds ep ∧ ds.toList = xs.map (entN w) ∧ (xs.map (·.1)).Nodup

/-- a tuple at a, its object known: it bears no dict of its own -/
def TpT (K : PySem.W.Frag) (H : Hp) (a : Addr) (vs : List V) : Prop :=
  (∃ o, H a = some (.frz o (.tup vs)) ∧ o.dict = none) ∨
    ∃ (o : Obj) (its : Array Value) (n : Nat), K.lookup a = some o ∧ o.cls = .type "tuple" ∧ o.dict = none ∧ o.data = .seq its n ∧ its.size ≤ sizeLine ∧ Vals vs its.toList
theorem TpT.sq {K : PySem.W.Frag} {H : Hp} {a : Addr} {vs : List V} (h : TpT K H a vs) : SqT K H a vs := by
  rcases h with ⟨o, h, _⟩ | ⟨o, its, n, h1, h2, _, h3, h4, h5⟩
  · exact .inl (.inr ⟨o, h⟩)
  · exact .inr ⟨o, its, n, h1, h2, h3, h4, h5⟩
/-- the script at a -/
def ScT (K : PySem.W.Frag) (H : Hp) (a : Addr) (ns : List Int) : Prop :=
  (∃ o, H a = some (.frz o (.lst (ns.map V.int)))) ∨
    ∃ (o : Obj) (its : Array Value) (n : Nat), K.lookup a = some o ∧ o.cls = .type "list" ∧ o.dict = none ∧ o.data = .seq its n ∧ its.size ≤ sizeLine ∧ Vals (ns.map V.int) its.toList
theorem ScT.sq {K : PySem.W.Frag} {H : Hp} {a : Addr} {ns : List Int} (h : ScT K H a ns) : SqL K H a (ns.map V.int) := by
  rcases h with ⟨o, h⟩ | ⟨o, its, n, h⟩
  · exact .inl (.inr ⟨o, h⟩)
  · exact .inr ⟨o, its, n, h⟩
section
variable (K : PySem.W.Frag) (mg : MG) (H : Hp)
mutual
/-- the value v is the datum d, in H: what is made of it never changes -/
def Rp : D → V → Prop
  | .non, v => v = .non
  | .bl b, v => v = .bl b
  | .int i, v => v = .int i
  | .str x, v => v = .str x ∧ strOk x = true
  | .tup ds, v => ∃ a vs, v = .ref a ∧ TpT K H a vs ∧ RpL ds vs
  | .lst ds, v => ∃ a vs, v = .ref a ∧ (∃ o, H a = some (.frz o (.lst vs))) ∧ RpL ds vs
  | .dct kvs, v => ∃ a es, v = .ref a ∧ (∃ o, H a = some (.frz o (.dK es))) ∧ RpK kvs es
  | .dctT kvs, v => ∃ a es, v = .ref a ∧ (∃ o, H a = some (.frz o (.ext (TD mg.w a es)))) ∧ RpT kvs es
  | .fn x, v => ∃ a, v = .ref a ∧ mg x = some (.ref a)
  | .scr ns, v => ∃ a, v = .ref a ∧ ScT K H a ns
def RpL : List D → List V → Prop
  | [], vs => vs = []
  | d :: ds, vs => ∃ v r, vs = v :: r ∧ Rp d v ∧ RpL ds r
def RpK : List (D × D) → List (Key × V) → Prop
  | [], es => es = []
  | (k, d) :: r, es => ∃ κ v s, es = (κ, v) :: s ∧ IsKey k κ ∧ Rp d v ∧ RpK r s
def RpT : List (D × D) → List (NestedKey × Addr × V) → Prop
  | [], es => es = []
  | (k, d) :: r, es => ∃ κ b v s, es = (κ, b, v) :: s ∧ k.nkT = some κ ∧ Rp k (.ref b) ∧ Rp d v ∧ RpT r s
end
end

/-! ### where data stays -/
section
variable {K : PySem.W.Frag} {mg : MG} {H H' : Hp}
/-- what is locked stays -/
def Fz (H H' : Hp) : Prop := ∀ a o u, H a = some (.frz o u) → H' a = some (.frz o u)
theorem Fz.of_same (e : Same H H') : Fz H H' := fun _ _ _ r => e _ _ r
theorem Fz.refl : Fz H H := fun _ _ _ r => r
theorem Fz.trans {H1 : Hp} (a : Fz H H1) (b : Fz H1 H') : Fz H H' := fun _ _ _ r => b _ _ _ (a _ _ _ r)
theorem TpT.stay {a : Addr} {vs : List V} (e : Fz H H') (h : TpT K H a vs) : TpT K H' a vs := by
  rcases h with ⟨o, h, d⟩ | h
  · exact .inl ⟨o, e _ _ _ h, d⟩
  · exact .inr h
mutual
theorem Rp.stay (e : Fz H H') : ∀ {d : D} {v : V}, Rp K mg H d v → Rp K mg H' d v
  | .non, v, h => by unfold Rp at h ⊢; exact h
  | .bl b, v, h => by unfold Rp at h ⊢; exact h
  | .int i, v, h => by unfold Rp at h ⊢; exact h
  | .str x, v, h => by unfold Rp at h ⊢; exact h
  | .tup ds, v, h => by
    unfold Rp at h ⊢
    obtain ⟨a, vs, e1, e2, e3⟩ := h
    exact ⟨a, vs, e1, TpT.stay e e2, RpL.stay e e3⟩
  | .lst ds, v, h => by
    unfold Rp at h ⊢
    obtain ⟨a, vs, e1, ⟨o, e2⟩, e3⟩ := h
    exact ⟨a, vs, e1, ⟨o, e _ _ _ e2⟩, RpL.stay e e3⟩
  | .dct kvs, v, h => by
    unfold Rp at h ⊢
    obtain ⟨a, vs, e1, ⟨o, e2⟩, e3⟩ := h
    exact ⟨a, vs, e1, ⟨o, e _ _ _ e2⟩, RpK.stay e e3⟩
  | .dctT kvs, v, h => by
    unfold Rp at h ⊢
    obtain ⟨a, vs, e1, ⟨o, e2⟩, e3⟩ := h
    exact ⟨a, vs, e1, ⟨o, e _ _ _ e2⟩, RpT.stay e e3⟩
  | .fn x, v, h => by unfold Rp at h ⊢; exact h
  | .scr ns, v, h => by
    unfold Rp at h ⊢
    obtain ⟨a, e1, e2⟩ := h
    refine ⟨a, e1, ?_⟩
    rcases e2 with ⟨o, e2⟩ | e2
    · exact .inl ⟨o, e _ _ _ e2⟩
    · exact .inr e2
theorem RpL.stay (e : Fz H H') : ∀ {ds : List D} {vs : List V}, RpL K mg H ds vs → RpL K mg H' ds vs
  | [], vs, h => by unfold RpL at h ⊢; exact h
  | d :: ds, vs, h => by
    unfold RpL at h ⊢
    obtain ⟨v, r, e1, e2, e3⟩ := h
    exact ⟨v, r, e1, Rp.stay e e2, RpL.stay e e3⟩
theorem RpK.stay (e : Fz H H') : ∀ {ds : List (D × D)} {vs : List (Key × V)}, RpK K mg H ds vs → RpK K mg H' ds vs
  | [], vs, h => by unfold RpK at h ⊢; exact h
  | (k, d) :: ds, vs, h => by
    unfold RpK at h ⊢
    obtain ⟨κ, v, r, e1, e0, e2, e3⟩ := h
    exact ⟨κ, v, r, e1, e0, Rp.stay e e2, RpK.stay e e3⟩
theorem RpT.stay (e : Fz H H') : ∀ {ds : List (D × D)} {vs : List (NestedKey × Addr × V)}, RpT K mg H ds vs → RpT K mg H' ds vs
  | [], vs, h => by unfold RpT at h ⊢; exact h
  | (k, d) :: ds, vs, h => by
    unfold RpT at h ⊢
    obtain ⟨κ, b, v, r, e1, e0, e4, e2, e3⟩ := h
    exact ⟨κ, b, v, r, e1, e0, Rp.stay e e4, Rp.stay e e2, RpT.stay e e3⟩
end
theorem Rp.same {d : D} {v : V} (e : Same H H') (h : Rp K mg H d v) : Rp K mg H' d v := h.stay (Fz.of_same e)
theorem RpL.same {d : List D} {v : List V} (e : Same H H') (h : RpL K mg H d v) : RpL K mg H' d v := h.stay (Fz.of_same e)

theorem RpL.nil {vs : List V} : RpL K mg H [] vs ↔ vs = [] := by unfold RpL; rfl
theorem RpL.cons {d : D} {ds : List D} {vs : List V} : RpL K mg H (d :: ds) vs ↔ ∃ v r, vs = v :: r ∧ Rp K mg H d v ∧ RpL K mg H ds r := by rw [RpL]
theorem RpL.length : ∀ {ds : List D} {vs : List V}, RpL K mg H ds vs → vs.length = ds.length
  | [], vs, h => by rw [RpL.nil] at h; rw [h]; rfl
  | d :: ds, vs, h => by
    rw [RpL.cons] at h
    obtain ⟨v, r, e, _, h⟩ := h
    rw [e, List.length_cons, List.length_cons, RpL.length h]
theorem RpL.get : ∀ {ds : List D} {vs : List V} {i : Nat} {d : D}, RpL K mg H ds vs → ds[i]? = some d → ∃ v, vs[i]? = some v ∧ Rp K mg H d v
  | [], _, _, _, _, e => by simp at e
  | d :: ds, vs, 0, d', h, e => by
    rw [RpL.cons] at h
    obtain ⟨v, r, e1, h1, h⟩ := h
    simp at e; subst e
    exact ⟨v, by simp [e1], h1⟩
  | d :: ds, vs, i + 1, d', h, e => by
    rw [RpL.cons] at h
    obtain ⟨v, r, e1, h1, h⟩ := h
    obtain ⟨v', q1, q2⟩ := RpL.get (i := i) h (by simpa using e)
    exact ⟨v', by simpa [e1] using q1, q2⟩
theorem RpL.getV : ∀ {ds : List D} {vs : List V} {i : Nat} {v : V}, RpL K mg H ds vs → vs[i]? = some v → ∃ d, ds[i]? = some d ∧ Rp K mg H d v := fun {ds vs i v} h e => by
  have hl := h.length
  have hi : i < ds.length := by rw [← hl]; exact (List.getElem?_eq_some_iff.mp e).1
  obtain ⟨v', q1, q2⟩ := h.get (i := i) (d := ds[i]) (by simp [hi])
  rw [e] at q1; cases q1
  exact ⟨ds[i], by simp [hi], q2⟩
theorem RpL.append : ∀ {ds es : List D} {vs ws : List V}, RpL K mg H ds vs → RpL K mg H es ws → RpL K mg H (ds ++ es) (vs ++ ws)
  | [], es, vs, ws, h, q => by rw [RpL.nil] at h; subst h; exact q
  | d :: ds, es, vs, ws, h, q => by
    rw [RpL.cons] at h
    obtain ⟨v, r, e1, h1, h⟩ := h
    subst e1
    exact RpL.cons.mpr ⟨v, r ++ ws, rfl, h1, h.append q⟩
theorem RpL.take : ∀ {ds : List D} {vs : List V} (n : Nat), RpL K mg H ds vs → RpL K mg H (ds.take n) (vs.take n)
  | _, _, 0, _ => RpL.nil.mpr rfl
  | [], vs, n + 1, h => by rw [RpL.nil] at h; subst h; exact RpL.nil.mpr rfl
  | d :: ds, vs, n + 1, h => by
    rw [RpL.cons] at h
    obtain ⟨v, r, e1, h1, h⟩ := h
    subst e1
    exact RpL.cons.mpr ⟨v, r.take n, rfl, h1, h.take n⟩
theorem RpL.drop : ∀ {ds : List D} {vs : List V} (n : Nat), RpL K mg H ds vs → RpL K mg H (ds.drop n) (vs.drop n)
  | _, _, 0, h => h
  | [], vs, n + 1, h => by rw [RpL.nil] at h; subst h; exact RpL.nil.mpr rfl
  | d :: ds, vs, n + 1, h => by
    rw [RpL.cons] at h
    obtain ⟨v, r, e1, h1, h⟩ := h
    subst e1
    exact h.drop n
theorem RpL.set : ∀ {ds : List D} {vs : List V} (n : Nat) {d : D} {v : V}, RpL K mg H ds vs → Rp K mg H d v → RpL K mg H (ds.set n d) (vs.set n v)
  | [], vs, n, d, v, h, _ => by rw [RpL.nil] at h; subst h; exact RpL.nil.mpr rfl
  | _ :: ds, vs, 0, d, v, h, q => by
    rw [RpL.cons] at h
    obtain ⟨v', r, e1, h1, h⟩ := h
    subst e1
    exact RpL.cons.mpr ⟨v, r, rfl, q, h⟩
  | d' :: ds, vs, n + 1, d, v, h, q => by
    rw [RpL.cons] at h
    obtain ⟨v', r, e1, h1, h⟩ := h
    subst e1
    exact RpL.cons.mpr ⟨v', r.set n v, rfl, h1, h.set n q⟩
theorem RpL.one {d : D} {v : V} (h : Rp K mg H d v) : RpL K mg H [d] [v] := RpL.cons.mpr ⟨v, [], rfl, h, RpL.nil.mpr rfl⟩
end

/-! ### the slots of a def -/
/-- un: nothing is known; fz: a datum that stays; ow: a list or dict of one's own, that may be changed (t: the one that was handed in); vw: such a one, that is read alone -/
inductive Slot where
  | un | fz (d : D) | ow (t : Nat) (d : D) | vw (d : D)
  /-- a thing that stood at the def's entry: read alone -/
  | gv (d : D)
abbrev SEnv := List Slot

/-- the content of a list, of a dict at p -/
def Own (K : PySem.W.Frag) (mg : MG) (H : Hp) (p : Addr) : D → Prop
  | .lst ds => ∃ vs, H p = some (.lst vs) ∧ RpL K mg H ds vs
  | .dct kvs => ∃ es, H p = some (.dK es) ∧ RpK K mg H kvs es
  | .dctT kvs => ∃ es, H p = some (.ext (TD mg.w p es)) ∧ RpT K mg H kvs es
  | _ => False
/-- a datum that is read: a list, a dict may be one's own -/
def Vw (K : PySem.W.Frag) (mg : MG) (H : Hp) : D → V → Prop
  | .lst ds, v => ∃ a vs, v = .ref a ∧ Rd H a (.lst vs) ∧ RpL K mg H ds vs
  | .dct kvs, v => ∃ a es, v = .ref a ∧ Rd H a (.dK es) ∧ RpK K mg H kvs es
  | .dctT kvs, v => ∃ a es, v = .ref a ∧ Rd H a (.ext (TD mg.w a es)) ∧ RpT K mg H kvs es
  | d, v => Rp K mg H d v

/-- what a body is judged in: K, mg the module's; G: the heap that stays; E: which exceptions may come, where; X: anywhere; p: the thing that was handed in to be changed; ro: a new thing is returned -/
structure DC where
  K : PySem.W.Frag
  mg : MG
  G : Hp
  B : Hp
  E : Str → SEnv → Prop
  X : Str → Prop
  xe : ∀ e Γ, X e → E e Γ
  p : Nat → Addr
  ro : Bool := false
  two : Bool := false

def SlOk (c : DC) (O : Addr → Prop) (H : Hp) : Slot → Option (Option V) → Prop
  | .un, _ => True
  | .fz d, s => ∃ v, s = some (some v) ∧ Rp c.K c.mg H d v
  | .ow t d, s => ∃ p, s = some (some (.ref p)) ∧ O p ∧ (t ≠ 0 → p = c.p t) ∧ Own c.K c.mg H p d
  | .vw d, s => ∃ v, s = some (some v) ∧ Vw c.K c.mg H d v
  | .gv d, s => ∃ v, s = some (some v) ∧ Vw c.K c.mg c.B d v
structure EnvOk (c : DC) (O : Addr → Prop) (Γ : SEnv) (σ : St) (H : Hp) : Prop where
  kp : ∀ b o, (c.G b = some o ∨ c.B b = some o) → H b = some o ∧ ¬ O b
  on : ∀ b, O b → ∃ o, H b = some o
  sl : ∀ (i : Nat) s, Γ[i]? = some s → SlOk c O H s σ[i]?
  ln : Γ.length ≤ σ.length
  uq : ∀ (i j : Nat) t d u e p, Γ[i]? = some (.ow t d) → Γ[j]? = some (.ow u e) → σ[i]? = some (some (.ref p)) → σ[j]? = some (some (.ref p)) → i = j
def isBox : HO → Prop
  | .lst _ => True
  | .dK _ => True
  | .ext _ => True
  | _ => False
section
variable {c : DC} {O : Addr → Prop} {Γ : SEnv} {σ : St} {H H' : Hp} {K : PySem.W.Frag} {mg : MG} {p : Addr} {d : D} {v : V}
theorem Own.stay (e : Fz H H') (hp : ∀ o, H p = some o → H' p = some o) (h : Own K mg H p d) : Own K mg H' p d := by
  cases d with
  | lst ds => obtain ⟨vs, h1, h2⟩ := h; exact ⟨vs, hp _ h1, h2.stay e⟩
  | dct kvs => obtain ⟨vs, h1, h2⟩ := h; exact ⟨vs, hp _ h1, h2.stay e⟩
  | dctT kvs => obtain ⟨vs, h1, h2⟩ := h; exact ⟨vs, hp _ h1, h2.stay e⟩
  | _ => exact h
theorem Own.same (e : Same H H') (h : Own K mg H p d) : Own K mg H' p d := h.stay (Fz.of_same e) fun _ r => e _ _ r
theorem Rd.same {a : Addr} {u : HO} (e : Same H H') (h : Rd H a u) : Rd H' a u := h.elim (fun r => .inl (e _ _ r)) fun ⟨o, r⟩ => .inr ⟨o, e _ _ r⟩
theorem Vw.stay (e : Fz H H') (hb : ∀ a o, H a = some o → isBox o → H' a = some o) (h : Vw K mg H d v) : Vw K mg H' d v := by
  cases d with
  | lst ds => obtain ⟨a, vs, h0, h1, h2⟩ := h; exact ⟨a, vs, h0, h1.elim (fun r => .inl (hb _ _ r trivial)) fun ⟨o, r⟩ => .inr ⟨o, e _ _ _ r⟩, h2.stay e⟩
  | dct kvs => obtain ⟨a, vs, h0, h1, h2⟩ := h; exact ⟨a, vs, h0, h1.elim (fun r => .inl (hb _ _ r trivial)) fun ⟨o, r⟩ => .inr ⟨o, e _ _ _ r⟩, h2.stay e⟩
  | dctT kvs => obtain ⟨a, vs, h0, h1, h2⟩ := h; exact ⟨a, vs, h0, h1.elim (fun r => .inl (hb _ _ r trivial)) fun ⟨o, r⟩ => .inr ⟨o, e _ _ _ r⟩, h2.stay e⟩
  | _ => exact Rp.stay e h
theorem Vw.same (e : Same H H') (h : Vw K mg H d v) : Vw K mg H' d v := h.stay (Fz.of_same e) fun _ _ r _ => e _ _ r
theorem Vw.of (h : Rp K mg H d v) : Vw K mg H d v := by
  cases d with
  | lst ds => rw [Rp] at h; obtain ⟨a, vs, h0, h1, h2⟩ := h; exact ⟨a, vs, h0, .inr h1, h2⟩
  | dct kvs => rw [Rp] at h; obtain ⟨a, vs, h0, h1, h2⟩ := h; exact ⟨a, vs, h0, .inr h1, h2⟩
  | dctT kvs => rw [Rp] at h; obtain ⟨a, vs, h0, h1, h2⟩ := h; exact ⟨a, vs, h0, .inr h1, h2⟩
  | _ => exact h
theorem Vw.own (h : Own K mg H p d) : Vw K mg H d (.ref p) := by
  cases d with
  | lst ds => obtain ⟨vs, h1, h2⟩ := h; exact ⟨p, vs, rfl, .inl h1, h2⟩
  | dct kvs => obtain ⟨vs, h1, h2⟩ := h; exact ⟨p, vs, rfl, .inl h1, h2⟩
  | dctT kvs => obtain ⟨vs, h1, h2⟩ := h; exact ⟨p, vs, rfl, .inl h1, h2⟩
  | _ => exact h.elim
theorem Own.box (h : Own K mg H p d) : ∃ o, H p = some o ∧ isBox o := by
  cases d with
  | lst ds => obtain ⟨vs, h1, h2⟩ := h; exact ⟨_, h1, trivial⟩
  | dct kvs => obtain ⟨vs, h1, h2⟩ := h; exact ⟨_, h1, trivial⟩
  | dctT kvs => obtain ⟨vs, h1, h2⟩ := h; exact ⟨_, h1, trivial⟩
  | _ => exact h.elim
theorem Own.at (h : Own K mg H p d) : ∃ o, H p = some o := let ⟨o, e, _⟩ := h.box; ⟨o, e⟩
/-- what is locked stays when a box changes -/
theorem fz_upd {o o' : HO} (hp : H p = some o) (b : isBox o) : Fz H (upd H p o') := fun a ob u r => by
  have n : a ≠ p := fun e => by
    subst e
    rw [hp] at r; cases r; exact b
  rw [upd_ne n]; exact r
/-- an own thing that is locked -/
theorem Own.lock {o : HO} {ob : Obj} (h : Own K mg H p d) (e : H p = some o) : Rp K mg (upd H p (.frz ob o)) d (.ref p) := by
  obtain ⟨o', e', b⟩ := h.box
  rw [e] at e'; cases e'
  have fz : Fz H (upd H p (.frz ob o)) := fz_upd e b
  cases d with
  | lst ds => obtain ⟨vs, h1, h2⟩ := h; rw [e] at h1; cases h1; rw [Rp]; exact ⟨p, vs, rfl, ⟨ob, upd_same⟩, h2.stay fz⟩
  | dct kvs => obtain ⟨vs, h1, h2⟩ := h; rw [e] at h1; cases h1; rw [Rp]; exact ⟨p, vs, rfl, ⟨ob, upd_same⟩, h2.stay fz⟩
  | dctT kvs => obtain ⟨vs, h1, h2⟩ := h; rw [e] at h1; cases h1; rw [Rp]; exact ⟨p, vs, rfl, ⟨ob, upd_same⟩, h2.stay fz⟩
  | _ => exact h.elim
theorem box_mut {o : HO} (b : isBox o) : Mut (some o) := by cases o <;> first | trivial | exact b.elim

theorem SlOk.same {s : Slot} {x : Option (Option V)} (e : Same H H') (h : SlOk c O H s x) : SlOk c O H' s x := by
  cases s with
  | un => trivial
  | fz d => obtain ⟨v, h1, h2⟩ := h; exact ⟨v, h1, h2.same e⟩
  | ow t d => obtain ⟨v, h1, h3, h4, h2⟩ := h; exact ⟨v, h1, h3, h4, h2.same e⟩
  | vw d => obtain ⟨v, h1, h2⟩ := h; exact ⟨v, h1, h2.same e⟩
  | gv d => exact h
theorem EnvOk.same (h : EnvOk c O Γ σ H) (e : Same H H') : EnvOk c O Γ σ H' :=
  ⟨fun b o q => ⟨e b o (h.kp b o q).1, (h.kp b o q).2⟩, fun b q => let ⟨o, r⟩ := h.on b q; ⟨o, e _ _ r⟩, fun i s q => (h.sl i s q).same e, h.ln, h.uq⟩
/-- a new address -/
abbrev Plus (O : Addr → Prop) (p : Addr) : Addr → Prop := fun b => O b ∨ b = p
theorem EnvOk.noO (h : EnvOk c O Γ σ H) (n : H p = none) : ¬ O p := fun z => by
  obtain ⟨o, q⟩ := h.on p z
  rw [q] at n; cases n
/-- the env where p (new, in H') is one's own too -/
theorem EnvOk.plus (h : EnvOk c O Γ σ H) (n : H p = none) (e : Same H H') (hp : ∃ o, H' p = some o) : EnvOk c (Plus O p) Γ σ H' := by
  refine ⟨fun b o q => ⟨e b o (h.kp b o q).1, ?_⟩, ?_, fun i s q => ?_, h.ln, h.uq⟩
  · rintro (z | z)
    · exact (h.kp b o q).2 z
    · subst z
      have := (h.kp _ _ q).1
      rw [n] at this; cases this
  · rintro b (z | z)
    · obtain ⟨o, r⟩ := h.on b z; exact ⟨o, e _ _ r⟩
    · subst z; exact hp
  · have k := (h.sl i s q).same e
    cases s with
    | un => trivial
    | fz d => exact k
    | ow t d => obtain ⟨v, h1, h3, h4, h2⟩ := k; exact ⟨v, h1, .inl h3, h4, h2⟩
    | vw d => exact k
    | gv d => exact k
theorem EnvOk.set_cases {i j : Nat} {s t : Slot} (h : (Γ.set i t)[j]? = some s) : (j = i ∧ s = t ∧ i < Γ.length) ∨ (j ≠ i ∧ Γ[j]? = some s) := by
  by_cases e : j = i
  · subst e
    by_cases hl : j < Γ.length
    · rw [List.getElem?_set_self hl] at h; cases h; exact .inl ⟨rfl, rfl, hl⟩
    · rw [List.getElem?_eq_none (by simpa using hl)] at h; cases h
  · rw [List.getElem?_set_ne (Ne.symm e)] at h; exact .inr ⟨e, h⟩
/-- a datum is stored -/
theorem EnvOk.setFz (h : EnvOk c O Γ σ H) (i : Nat) (r : Rp c.K c.mg H d v) : EnvOk c O (Γ.set i (.fz d)) (σ.set i (some v)) H := by
  refine ⟨h.kp, h.on, fun j s q => ?_, by simpa using h.ln, fun j k t1 e1 t2 e2 p q1 q2 q3 q4 => ?_⟩
  · rcases EnvOk.set_cases q with ⟨rfl, rfl, hl⟩ | ⟨n, q⟩
    · exact ⟨v, by rw [List.getElem?_set_self (Nat.lt_of_lt_of_le hl h.ln)], r⟩
    · rw [List.getElem?_set_ne (Ne.symm n)]; exact h.sl j s q
  · rcases EnvOk.set_cases q1 with ⟨_, z, _⟩ | ⟨n1, q1⟩
    · cases z
    rcases EnvOk.set_cases q2 with ⟨_, z, _⟩ | ⟨n2, q2⟩
    · cases z
    rw [List.getElem?_set_ne (Ne.symm n1)] at q3
    rw [List.getElem?_set_ne (Ne.symm n2)] at q4
    exact h.uq j k _ _ _ _ p q1 q2 q3 q4
/-- nothing is told of a slot any more -/
theorem EnvOk.setUn (h : EnvOk c O Γ σ H) (i : Nat) {x : Option V} : EnvOk c O (Γ.set i .un) (σ.set i x) H := by
  refine ⟨h.kp, h.on, fun j s q => ?_, by simpa using h.ln, fun j k t1 e1 t2 e2 p q1 q2 q3 q4 => ?_⟩
  · rcases EnvOk.set_cases q with ⟨rfl, rfl, hl⟩ | ⟨n, q⟩
    · trivial
    · rw [List.getElem?_set_ne (Ne.symm n)]; exact h.sl j s q
  · rcases EnvOk.set_cases q1 with ⟨_, z, _⟩ | ⟨n1, q1⟩
    · cases z
    rcases EnvOk.set_cases q2 with ⟨_, z, _⟩ | ⟨n2, q2⟩
    · cases z
    rw [List.getElem?_set_ne (Ne.symm n1)] at q3
    rw [List.getElem?_set_ne (Ne.symm n2)] at q4
    exact h.uq j k _ _ _ _ p q1 q2 q3 q4
/-- a new own thing at p is stored: no slot holds p yet -/
theorem EnvOk.setOw (h : EnvOk c O Γ σ H) (i : Nat) (ho : O p) (r : Own c.K c.mg H p d) (nw : ∀ (j : Nat) t e, Γ[j]? = some (.ow t e) → σ[j]? ≠ some (some (.ref p))) : EnvOk c O (Γ.set i (.ow 0 d)) (σ.set i (some (.ref p))) H := by
  refine ⟨h.kp, h.on, fun j s q => ?_, by simpa using h.ln, fun j k t1 e1 t2 e2 p' q1 q2 q3 q4 => ?_⟩
  · rcases EnvOk.set_cases q with ⟨rfl, rfl, hl⟩ | ⟨n, q⟩
    · exact ⟨p, by rw [List.getElem?_set_self (Nat.lt_of_lt_of_le hl h.ln)], ho, (fun z => absurd rfl z), r⟩
    · rw [List.getElem?_set_ne (Ne.symm n)]; exact h.sl j s q
  · rcases EnvOk.set_cases q1 with ⟨rfl, _, hl1⟩ | ⟨n1, r1⟩
    · rcases EnvOk.set_cases q2 with ⟨rfl, _, _⟩ | ⟨n2, r2⟩
      · rfl
      · rw [List.getElem?_set_self (Nat.lt_of_lt_of_le hl1 h.ln)] at q3
        rw [List.getElem?_set_ne (Ne.symm n2)] at q4
        cases q3
        exact absurd q4 (nw _ _ _ r2)
    · rcases EnvOk.set_cases q2 with ⟨rfl, _, hl2⟩ | ⟨n2, r2⟩
      · rw [List.getElem?_set_self (Nat.lt_of_lt_of_le hl2 h.ln)] at q4
        rw [List.getElem?_set_ne (Ne.symm n1)] at q3
        cases q4
        exact absurd q3 (nw _ _ _ r1)
      · rw [List.getElem?_set_ne (Ne.symm n1)] at q3
        rw [List.getElem?_set_ne (Ne.symm n2)] at q4
        exact h.uq j k _ _ _ _ p' r1 r2 q3 q4
theorem EnvOk.fresh (h : EnvOk c O Γ σ H) (n : H p = none) : ∀ (j : Nat) t e, Γ[j]? = some (.ow t e) → σ[j]? ≠ some (some (.ref p)) := fun j t e q z => by
  obtain ⟨p', h1, _, _, h3⟩ := h.sl j _ q
  rw [z] at h1; cases h1
  obtain ⟨o, h4⟩ := h3.at
  rw [n] at h4; cases h4
theorem set_self {α : Type} {l : List α} {i : Nat} {x : α} (h : l[i]? = some x) : l.set i x = l := by
  obtain ⟨hl, e⟩ := List.getElem?_eq_some_iff.mp h
  rw [← e, List.set_getElem_self]
/-- an own thing at p is changed to o', its slot gets s -/
theorem EnvOk.chg (h : EnvOk c O Γ σ H) {i : Nat} {o' : HO} {s : Slot} {t : Nat} (q : Γ[i]? = some (.ow t d)) (e : σ[i]? = some (some (.ref p)))
    (hv : ∀ (j : Nat) e, Γ[j]? ≠ some (.vw e)) (r : SlOk c O (upd H p o') s (some (some (.ref p)))) : EnvOk c O (Γ.set i s) σ (upd H p o') := by
  obtain ⟨p', h1, h2, h4, h3⟩ := h.sl i _ q
  rw [e] at h1; cases h1
  obtain ⟨o, hp, bx⟩ := h3.box
  have st : Fz H (upd H p o') := fz_upd hp bx
  refine ⟨fun b ob z => ?_, fun b z => ?_, fun j s' z => ?_, by simpa using h.ln, fun j k t1 e1 t2 e2 p' q1 q2 q3 q4 => ?_⟩
  · obtain ⟨z1, z2⟩ := h.kp b ob z
    have n : b ≠ p := fun w => z2 (by rw [w]; exact h2)
    exact ⟨by rw [upd_ne n]; exact z1, z2⟩
  · by_cases n : b = p
    · rw [n, upd_same]; exact ⟨_, rfl⟩
    · rw [upd_ne n]; exact h.on b z
  · rcases EnvOk.set_cases z with ⟨rfl, rfl, hl⟩ | ⟨n, z⟩
    · rw [e]; exact r
    · have k := h.sl j s' z
      cases s' with
      | un => trivial
      | fz d' => obtain ⟨v, k1, k2⟩ := k; exact ⟨v, k1, k2.stay st⟩
      | ow t' d' =>
        obtain ⟨p', k1, k2, k4, k3⟩ := k
        have ne : p' ≠ p := fun w => by
          subst w
          exact n (h.uq _ _ _ _ _ _ p' z q k1 e)
        exact ⟨p', k1, k2, k4, Own.stay st (fun o w => by rw [upd_ne ne]; exact w) k3⟩
      | vw d' => exact absurd z (hv j d')
      | gv d' => exact k
  · have ow1 : ∀ {j : Nat} {t1 : Nat} {e1 : D}, (Γ.set i s)[j]? = some (.ow t1 e1) → ∃ t2 e2, Γ[j]? = some (.ow t2 e2) := fun {j t1 e1} q' => by
      rcases EnvOk.set_cases q' with ⟨rfl, _, _⟩ | ⟨_, r1⟩
      · exact ⟨_, _, q⟩
      · exact ⟨_, _, r1⟩
    obtain ⟨_, _, r1⟩ := ow1 q1
    obtain ⟨_, _, r2⟩ := ow1 q2
    exact h.uq j k _ _ _ _ p' r1 r2 q3 q4
theorem EnvOk.change (h : EnvOk c O Γ σ H) {i : Nat} {o' : HO} {d' : D} {t : Nat} (q : Γ[i]? = some (.ow t d)) (e : σ[i]? = some (some (.ref p)))
    (hv : ∀ (j : Nat) e, Γ[j]? ≠ some (.vw e)) (r : Own c.K c.mg (upd H p o') p d') : EnvOk c O (Γ.set i (.ow t d')) σ (upd H p o') := by
  obtain ⟨p', h1, h2, h4, h3⟩ := h.sl i _ q
  rw [e] at h1; cases h1
  exact h.chg q e hv ⟨p, rfl, h2, h4, r⟩
/-- Γ' says no more than Γ -/
def Wk : SEnv → SEnv → Prop
  | _, [] => True
  | [], _ => False
  | _ :: Γ, .un :: Γ' => Wk Γ Γ'
  | s :: Γ, s' :: Γ' => s = s' ∧ Wk Γ Γ'
theorem Wk.get : ∀ {Γ Γ' : SEnv}, Wk Γ Γ' → ∀ {i : Nat} {s : Slot}, Γ'[i]? = some s → s = .un ∨ Γ[i]? = some s
  | _, [], _, _, _, e => by simp at e
  | [], _ :: _, h, _, _, _ => h.elim
  | t :: Γ, .un :: Γ', h, 0, s, e => by simp at e; exact .inl e.symm
  | t :: Γ, .un :: Γ', h, i + 1, s, e => by simpa using Wk.get (Γ := Γ) (Γ' := Γ') h (i := i) (s := s) (by simpa using e)
  | t :: Γ, .fz d :: Γ', h, 0, s, e => by simp at e; exact .inr (by rw [← e, ← h.1]; rfl)
  | t :: Γ, .fz d :: Γ', h, i + 1, s, e => by simpa using Wk.get (Γ := Γ) (Γ' := Γ') h.2 (i := i) (s := s) (by simpa using e)
  | t :: Γ, .ow u d :: Γ', h, 0, s, e => by simp at e; exact .inr (by rw [← e, ← h.1]; rfl)
  | t :: Γ, .ow u d :: Γ', h, i + 1, s, e => by simpa using Wk.get (Γ := Γ) (Γ' := Γ') h.2 (i := i) (s := s) (by simpa using e)
  | t :: Γ, .vw d :: Γ', h, 0, s, e => by simp at e; exact .inr (by rw [← e, ← h.1]; rfl)
  | t :: Γ, .vw d :: Γ', h, i + 1, s, e => by simpa using Wk.get (Γ := Γ) (Γ' := Γ') h.2 (i := i) (s := s) (by simpa using e)
  | t :: Γ, .gv d :: Γ', h, 0, s, e => by simp at e; exact .inr (by rw [← e, ← h.1]; rfl)
  | t :: Γ, .gv d :: Γ', h, i + 1, s, e => by simpa using Wk.get (Γ := Γ) (Γ' := Γ') h.2 (i := i) (s := s) (by simpa using e)
theorem Wk.len : ∀ {Γ Γ' : SEnv}, Wk Γ Γ' → Γ'.length ≤ Γ.length
  | _, [], _ => Nat.zero_le _
  | [], _ :: _, h => h.elim
  | t :: Γ, .un :: Γ', h => Nat.succ_le_succ (Wk.len (Γ := Γ) h)
  | t :: Γ, .fz d :: Γ', h => Nat.succ_le_succ (Wk.len (Γ := Γ) h.2)
  | t :: Γ, .ow u d :: Γ', h => Nat.succ_le_succ (Wk.len (Γ := Γ) h.2)
  | t :: Γ, .vw d :: Γ', h => Nat.succ_le_succ (Wk.len (Γ := Γ) h.2)
  | t :: Γ, .gv d :: Γ', h => Nat.succ_le_succ (Wk.len (Γ := Γ) h.2)
theorem EnvOk.weak (h : EnvOk c O Γ σ H) {Γ' : SEnv} (w : Wk Γ Γ') : EnvOk c O Γ' σ H :=
  ⟨h.kp, h.on, fun i s q => (w.get q).elim (fun e => by rw [e]; trivial) fun q => h.sl i s q, Nat.le_trans w.len h.ln, fun i j t d u e p q1 q2 q3 q4 => by
    rcases w.get q1 with z | q1
    · cases z
    rcases w.get q2 with z | q2
    · cases z
    exact h.uq i j _ _ _ _ p q1 q2 q3 q4⟩
end
end PD
end

section
/-! PD2: judgements over data: expressions. -/
namespace PD
open PySem PySem.Spec L2
open PyProof.Rows hiding St
open PySem.PyData (strOk)

/-- a weaker reading -/
theorem pe_imp {X : Cx} {e : Expr} {t t' : TE} (h : PE X e t) (i : ∀ σ H Q, t' σ H Q → t σ H Q) : PE X e t' := ⟨fun pins s σ H Q I q => h.run pins s σ H Q I (i σ H Q q)⟩
theorem pt_imp {X : Cx} {e : Expr} {t t' : TT} (h : PT X e t) (i : ∀ σ H Q, t' σ H Q → t σ H Q) : PT X e t' := ⟨fun pins s σ H Q I q => h.run pins s σ H Q I (i σ H Q q)⟩
theorem pw_imp {X : Cx} {e : Expr} {t t' : TT} (h : PW X e t) (i : ∀ σ H Q, t' σ H Q → t σ H Q) : PW X e t' := ⟨fun wh pins s σ H Q I q => h.run wh pins s σ H Q I (i σ H Q q)⟩
theorem pa_imp {X : Cx} {e : List Expr} {t t' : TA} (h : PA X e t) (i : ∀ σ H Q, t' σ H Q → t σ H Q) : PA X e t' := ⟨fun pos pins s σ H Q I q => h.run pos pins s σ H Q I (i σ H Q q)⟩
theorem ps_imp {X : Cx} {e : Stmt} {t t' : TS} (h : PS X e t) (i : ∀ Dn σ H, t' Dn σ H → t Dn σ H) : PS X e t' := ⟨fun pins s σ H Q I q => h.run pins s σ H Q I (i Q σ H q)⟩
theorem pss_imp {X : Cx} {e : List Stmt} {t t' : TS} (h : PSs X e t) (i : ∀ Dn σ H, t' Dn σ H → t Dn σ H) : PSs X e t' := ⟨fun pins s σ H Q I q => h.run pins s σ H Q I (i Q σ H q)⟩

/-! ### readings -/
/-- the ends of a reading: a value by A, an exception by E, nothing else -/
def RE {α : Type} (m : R α) (A : α → Prop) (E : Str → Prop) : Prop := match m with
  | .ok a => A a
  | .exc e => E e
  | .bad => False
section
variable {α β : Type}
theorem RE.imp {m : R α} {A A' : α → Prop} {E : Str → Prop} (h : RE m A E) (i : ∀ a, A a → A' a) : RE m A' E := by
  cases m with
  | ok a => exact i a h
  | exc e => exact h
  | bad => exact h
theorem RE.bind {m : R α} {f : α → R β} {A : β → Prop} {E : Str → Prop} (h : RE (m.bind f) A E) : RE m (fun a => RE (f a) A E) E := by
  cases m with
  | ok a => rw [R.bind_ok] at h; exact h
  | exc e => rw [R.bind_exc] at h; exact h
  | bad => rw [R.bind_bad] at h; exact h
theorem RE.okk {a : α} {f : α → R β} {A : β → Prop} {E : Str → Prop} (h : RE ((R.ok a).bind f) A E) : RE (f a) A E := by rw [R.bind_ok] at h; exact h
theorem RE.badd {f : α → R β} {A : β → Prop} {E : Str → Prop} (h : RE (R.bad.bind f) A E) : False := by rw [R.bind_bad] at h; exact h
theorem RE.bind' {m : R α} {f : α → R β} {A : β → Prop} {E : Str → Prop} (h : RE m (fun a => RE (f a) A E) E) : RE (m.bind f) A E := by
  cases m with
  | ok a => rw [R.bind_ok]; exact h
  | exc e => rw [R.bind_exc]; exact h
  | bad => rw [R.bind_bad]; exact h
end
section
variable (c : DC) (Γ : SEnv)
/-- a datum that stays -/
def tR (m : R D) : TE := fun σ H Q => ∃ O, EnvOk c O Γ σ H ∧ RE m (fun d => ∀ v H', Same H H' → Rp c.K c.mg H' d v → Q v H') (fun e => c.E e Γ)
/-- a datum that is read -/
def tV (m : R D) : TE := fun σ H Q => ∃ O, EnvOk c O Γ σ H ∧ RE m (fun d => ∀ v H', Same H H' → Vw c.K c.mg H' d v → Q v H') (fun e => c.E e Γ)
/-- a new list, a new dict -/
def tO (m : R D) : TE := fun σ H Q => ∃ O, EnvOk c O Γ σ H ∧ RE m (fun d => ∀ p H', Same H H' → H p = none → Own c.K c.mg H' p d → Q (.ref p) H') (fun e => c.E e Γ)
def tA (m : R (List D)) : TA := fun σ H Q => ∃ O, EnvOk c O Γ σ H ∧ RE m (fun ds => ∀ vs H', Same H H' → RpL c.K c.mg H' ds vs → Q vs H') (fun e => c.E e Γ)
def tT (m : R Bool) : TT := fun σ H Q => ∃ O, EnvOk c O Γ σ H ∧ RE m (fun b => ∀ H', Same H H' → Q b H') (fun e => c.E e Γ)
end
/-- a datum that stays, or a new list, a new dict -/
def Mx (c : DC) (H H' : Hp) (d : D) (v : V) : Prop := Rp c.K c.mg H' d v ∨ ∃ p, v = .ref p ∧ H p = none ∧ Own c.K c.mg H' p d
section
variable (c : DC) (Γ : SEnv)
def tM (m : R D) : TE := fun σ H Q => ∃ O, EnvOk c O Γ σ H ∧ RE m (fun d => ∀ v H', Same H H' → Mx c H H' d v → Q v H') (fun e => c.E e Γ)
end
def JM (c : DC) (X : Cx) (Γ : SEnv) (e : Expr) (m : R D) : Prop := PE X e (tM c Γ m)
def JE (c : DC) (X : Cx) (Γ : SEnv) (e : Expr) (m : R D) : Prop := PE X e (tR c Γ m)
def JV (c : DC) (X : Cx) (Γ : SEnv) (e : Expr) (m : R D) : Prop := PE X e (tV c Γ m)
def JO (c : DC) (X : Cx) (Γ : SEnv) (e : Expr) (m : R D) : Prop := PE X e (tO c Γ m)
def JT (c : DC) (X : Cx) (Γ : SEnv) (e : Expr) (m : R Bool) : Prop := PT X e (tT c Γ m)
def JW (c : DC) (X : Cx) (Γ : SEnv) (e : Expr) (m : R Bool) : Prop := PW X e (tT c Γ m)
structure JA (c : DC) (X : Cx) (Γ : SEnv) (es : List Expr) (m : R (List D)) : Prop where
  pa : PA X es (tA c Γ m)
  len : ∀ ds, m = .ok ds → ds.length = es.length

section
variable {c : DC} {X : Cx} {Γ : SEnv} {a b e : Expr} {es : List Expr} {m ma mb : R D} {pos : Pos}
theorem JE.v (h : JE c X Γ e m) : JV c X Γ e m := pe_imp h fun σ H Q ⟨O, ok, q⟩ => ⟨O, ok, q.imp fun d k v H' s r => k v H' s (Vw.of r)⟩
theorem JO.v (h : JO c X Γ e m) : JV c X Γ e m := pe_imp h fun σ H Q ⟨O, ok, q⟩ => ⟨O, ok, q.imp fun d k p H' s n r => k _ H' s (Vw.own r)⟩
theorem JE.mx (h : JE c X Γ e m) : JM c X Γ e m := pe_imp h fun σ H Q ⟨O, ok, q⟩ => ⟨O, ok, q.imp fun d k v H' s r => k v H' s (.inl r)⟩
theorem JO.mx (h : JO c X Γ e m) : JM c X Γ e m := pe_imp h fun σ H Q ⟨O, ok, q⟩ => ⟨O, ok, q.imp fun d k p H' s n r => k _ H' s (.inr ⟨p, rfl, n, r⟩)⟩
theorem JM.v (h : JM c X Γ e m) : JV c X Γ e m := pe_imp h fun σ H Q ⟨O, ok, q⟩ => ⟨O, ok, q.imp fun d k v H' s r => k _ H' s (by
  rcases r with r | ⟨p, rfl, _, r⟩
  · exact Vw.of r
  · exact Vw.own r)⟩
/-- a new list, a new dict is locked: it stays from now on -/
theorem JM.je (h : JM c X Γ e m) : JE c X Γ e m := by
  refine ⟨fun pins s σ H Q I ⟨O, ok, q⟩ => thn (h.run pins s σ H (fun v H' => ∃ d, Same H H' ∧ Mx c H H' d v ∧ ∀ v H', Same H H' → Rp c.K c.mg H' d v → Q v H') I ⟨O, ok, q.imp fun d k v H' s r => ⟨d, s, r, k⟩⟩) fun u s1 ⟨v, H1, I1, rv, d, sm, r, k⟩ => ?_⟩
  rcases r with r | ⟨p, ev, n, r⟩
  · exact ⟨_, _, I1, rv, k _ _ sm r⟩
  · subst ev
    obtain ⟨o, ho, b⟩ := r.box
    obtain ⟨od, I2⟩ := I1.lock ho (box_mut b)
    exact ⟨_, _, I2, rv, k _ _ (fun b o z => by rw [upd_ne (ne_of_none z n)]; exact sm b o z) (r.lock ho)⟩
theorem JO.je (h : JO c X Γ e m) : JE c X Γ e m := h.mx.je

/-! ### names, constants -/
theorem je_var (i : Nat) {d : D} {x : Str} (g : Γ[i]? = some (.fz d) := by rfl) (hN : X.N[i]? = some x := by rfl) (hv : Vis X.env.scope x := by first | exact Or.inl rfl | exact Or.inr (Or.inl rfl) | exact Or.inr (Or.inr rfl))
    (hd : (x == ("__debug__" : Str)) = false := by decide) (hcd : (x == ("__classdict__" : Str)) = false := by decide) : JE c X Γ (.Name x pos) (.ok d) :=
  pe_imp (pe_var hN hv hd hcd) fun σ H Q ⟨O, ok, q⟩ => by
    obtain ⟨v, h1, h2⟩ := ok.sl i _ g
    exact ⟨v, h1, q v H (Same.refl H) h2⟩
theorem jv_fz (i : Nat) {d : D} {x : Str} (g : Γ[i]? = some (.fz d) := by rfl) (hN : X.N[i]? = some x := by rfl) (hv : Vis X.env.scope x := by first | exact Or.inl rfl | exact Or.inr (Or.inl rfl) | exact Or.inr (Or.inr rfl))
    (hd : (x == ("__debug__" : Str)) = false := by decide) (hcd : (x == ("__classdict__" : Str)) = false := by decide) : JV c X Γ (.Name x pos) (.ok d) := (je_var i g hN hv hd hcd).v
theorem jv_ow (i : Nat) {t : Nat} {d : D} {x : Str} (g : Γ[i]? = some (.ow t d) := by rfl) (hN : X.N[i]? = some x := by rfl) (hv : Vis X.env.scope x := by first | exact Or.inl rfl | exact Or.inr (Or.inl rfl) | exact Or.inr (Or.inr rfl))
    (hd : (x == ("__debug__" : Str)) = false := by decide) (hcd : (x == ("__classdict__" : Str)) = false := by decide) : JV c X Γ (.Name x pos) (.ok d) :=
  pe_imp (pe_var hN hv hd hcd) fun σ H Q ⟨O, ok, q⟩ => by
    obtain ⟨v, h1, _, _, h2⟩ := ok.sl i _ g
    exact ⟨_, h1, q _ H (Same.refl H) (Vw.own h2)⟩
theorem jv_vw (i : Nat) {d : D} {x : Str} (g : Γ[i]? = some (.vw d) := by rfl) (hN : X.N[i]? = some x := by rfl) (hv : Vis X.env.scope x := by first | exact Or.inl rfl | exact Or.inr (Or.inl rfl) | exact Or.inr (Or.inr rfl))
    (hd : (x == ("__debug__" : Str)) = false := by decide) (hcd : (x == ("__classdict__" : Str)) = false := by decide) : JV c X Γ (.Name x pos) (.ok d) :=
  pe_imp (pe_var hN hv hd hcd) fun σ H Q ⟨O, ok, q⟩ => by
    obtain ⟨v, h1, h2⟩ := ok.sl i _ g
    exact ⟨_, h1, q _ H (Same.refl H) h2⟩
theorem jv_gv (i : Nat) {d : D} {x : Str} (g : Γ[i]? = some (.gv d) := by rfl) (hN : X.N[i]? = some x := by rfl) (hv : Vis X.env.scope x := by first | exact Or.inl rfl | exact Or.inr (Or.inl rfl) | exact Or.inr (Or.inr rfl))
    (hd : (x == ("__debug__" : Str)) = false := by decide) (hcd : (x == ("__classdict__" : Str)) = false := by decide) : JV c X Γ (.Name x pos) (.ok d) :=
  pe_imp (pe_var hN hv hd hcd) fun σ H Q ⟨O, ok, q⟩ => by
    obtain ⟨v, h1, h2⟩ := ok.sl i _ g
    exact ⟨_, h1, q _ H (Same.refl H) (h2.same fun a o z => (ok.kp a o (.inr z)).1)⟩
theorem je_int {i j} : JE c X Γ (.Constant (.int i) j pos) (.ok (.int i)) := pe_imp pe_int fun σ H Q ⟨O, ok, q⟩ => q _ H (Same.refl H) (by rw [Rp])
theorem je_bl {i j} : JE c X Γ (.Constant (.bool i) j pos) (.ok (.bl i)) := pe_imp pe_bl fun σ H Q ⟨O, ok, q⟩ => q _ H (Same.refl H) (by rw [Rp])
theorem je_non {j} : JE c X Γ (.Constant .none j pos) (.ok .non) := pe_imp pe_non fun σ H Q ⟨O, ok, q⟩ => q _ H (Same.refl H) (by rw [Rp])
theorem je_str {x j} (hx : strOk x = true := by decide +kernel) : JE c X Γ (.Constant (.str x) j pos) (.ok (.str x)) := pe_imp pe_str fun σ H Q ⟨O, ok, q⟩ => q _ H (Same.refl H) (by rw [Rp]; exact ⟨rfl, hx⟩)

/-! ### argument lists, displays -/
theorem ja_nil : JA c X Γ [] (.ok []) := ⟨pa_imp pa_nil fun σ H Q ⟨O, ok, q⟩ => q [] H (Same.refl H) (RpL.nil.mpr rfl), fun ds h => by cases h; rfl⟩
theorem ja_cons {ms : R (List D)} (ha : JE c X Γ e m) (hr : JA c X Γ es ms) (hs : starEach (e :: es) X.env = (false, eval e X.env) :: starEach es X.env := by rfl) : JA c X Γ (e :: es) (m.bind fun d => ms.bind fun ds => .ok (d :: ds)) := by
  refine ⟨pa_imp (pa_cons ha hr.pa hs) fun σ H Q ⟨O, ok, q⟩ => ⟨O, ok, q.bind.imp fun d k v H1 s1 r1 => ⟨O, ok.same s1, k.bind.imp fun ds k2 vs H2 s2 r2 => ?_⟩⟩, fun ds h => ?_⟩
  · exact k2 (v :: vs) H2 (s1.trans s2) (RpL.cons.mpr ⟨v, vs, rfl, r1.same s2, r2⟩)
  · obtain ⟨d, _, h⟩ := R.bind_eq_ok h
    obtain ⟨r, h1, h⟩ := R.bind_eq_ok h
    cases h
    rw [List.length_cons, List.length_cons, hr.len r h1]
theorem small {n : Nat} (h : n ≤ 10000) : n ≤ sizeLine := by rw [sizeLine_eq]; omega
/-- a display of a tuple: its object is known -/
def tTupF (t : TA) : TE := fun σ H Q => t σ H fun xs H1 => xs.length ≤ sizeLine ∧ ∀ p o, H1 p = none → o.dict = none → Q (.ref p) (upd H1 p (.frz o (.tup xs)))
/-- a new tuple is laid, its object known -/
theorem laid_tup {pins : List (Addr × Obj)} {σ : St} {H : Hp} {s : Shared} {xs : List V} {us : List Value} {n : Nat} {t' : Nat} (I : Inv X pins σ H s) (r : Vals xs us) (z : xs.length ≤ sizeLine) :
    Inv X pins σ (upd H s.heap.objs.size (.frz { cls := .type "tuple", data := .seq us.toArray n } (.tup xs))) { s with heap := s.heap.push { cls := .type "tuple", data := .seq us.toArray n }, toks := t' } :=
  I.laid (fun b u e => Heap.get?_push_of_some _ e) (Nat.le_refl _) ⟨Heap.get?_push_size _ rfl, z, us, r, ⟨_, Heap.get?_push_size _ rfl, rfl, n, rfl⟩⟩
theorem pe_tupF {t : TA} {x1} (h : PA X es t) : PE X (.Tuple es x1 pos) (tTupF t) := by
  refine ⟨fun pins s σ H Q I hq => wpAny_Tuple_spliced (thn (h.run pos pins s σ H _ I hq) fun us s1 ⟨xs, H1, I1, r, z, q⟩ => ⟨by rw [← r.length]; exact z, ?_⟩)⟩
  exact ⟨.ref s1.heap.objs.size, _, laid_tup I1 r z, rfl, q _ _ (I1.hok.fresh (Nat.le_refl _)) rfl⟩
theorem je_tup {ms : R (List D)} {k} (h : JA c X Γ es ms) (hl : es.length ≤ 10000 := by decide) : JE c X Γ (.Tuple es k pos) (ms.bind fun ds => .ok (.tup ds)) := by
  refine pe_imp (pe_tupF h.pa) fun σ H Q ⟨O, ok, q⟩ => ⟨O, ok, ?_⟩
  have q := q.bind
  cases ms with
  | bad => exact q
  | exc e => exact q
  | ok ds =>
    intro vs H' s r
    refine ⟨by rw [r.length, h.len ds rfl]; exact small hl, fun p o n dn => q _ _ (s.trans fun b o z => by rw [upd_ne (ne_of_none z n)]; exact z) ?_⟩
    rw [Rp]
    exact ⟨p, vs, rfl, .inl ⟨o, upd_same, dn⟩, r.same fun b o z => by rw [upd_ne (ne_of_none z n)]; exact z⟩
theorem same_new {H : Hp} {p : Addr} {o : HO} (n : H p = none) : Same H (upd H p o) := fun b o z => by rw [upd_ne (ne_of_none z n)]; exact z
theorem own_new {H : Hp} {p : Addr} {K : PySem.W.Frag} {mg : MG} {ds : List D} {vs : List V} (n : H p = none) (r : RpL K mg H ds vs) :
    Own K mg (upd H p (.lst vs)) p (.lst ds) := ⟨vs, upd_same, r.same (same_new n)⟩
theorem jo_lst {ms : R (List D)} (h : JA c X Γ es ms) (hl : es.length ≤ 10000 := by decide) : JO c X Γ (.List es pos) (ms.bind fun ds => .ok (.lst ds)) := by
  refine pe_imp (pe_lst h.pa) fun σ H Q ⟨O, ok, q⟩ => ⟨O, ok, ?_⟩
  have q := q.bind
  cases ms with
  | bad => exact q
  | exc e => exact q
  | ok ds =>
    intro vs H' s r
    refine ⟨by rw [r.length, h.len ds rfl]; exact small hl, fun p n => q p _ (s.trans (same_new n)) (s.free n) (own_new n r)⟩
theorem jo_dnew : JO c X Γ (.Dict [] [] pos) (.ok (.dct [])) := pe_imp pe_dnewK fun σ H Q ⟨O, ok, q⟩ p n => q p _ (same_new n) n ⟨[], upd_same, by rw [RpK]⟩

/-! ### operators -/
/-- f is what the operation g does on data -/
def Op2 (c : DC) (X : Cx) (g : Value → Value → Sem Value) (f : D → D → R D) : Prop := ∃ r : R2, OpR X g r ∧
  (∀ {O Γ σ H x y dx dy d} {Q : VK}, EnvOk c O Γ σ H → Vw c.K c.mg H dx x → Vw c.K c.mg H dy y → f dx dy = .ok d → (∀ v H', Same H H' → Rp c.K c.mg H' d v → Q v H') → r x y H Q) ∧ ∀ x y e, f x y ≠ .exc e
/-- .. giving what stays, or a new list -/
def Op2M (c : DC) (X : Cx) (g : Value → Value → Sem Value) (f : D → D → R D) : Prop := ∃ r : R2, OpR X g r ∧
  (∀ {O Γ σ H x y dx dy d} {Q : VK}, EnvOk c O Γ σ H → Vw c.K c.mg H dx x → Vw c.K c.mg H dy y → f dx dy = .ok d → (∀ v H', Same H H' → Mx c H H' d v → Q v H') → r x y H Q) ∧ ∀ x y e, f x y ≠ .exc e
/-- .. giving a new list -/
def Op2O (c : DC) (X : Cx) (g : Value → Value → Sem Value) (f : D → D → R D) : Prop := ∃ r : R2, OpR X g r ∧
  (∀ {O Γ σ H x y dx dy d} {Q : VK}, EnvOk c O Γ σ H → Vw c.K c.mg H dx x → Vw c.K c.mg H dy y → f dx dy = .ok d → (∀ p H', Same H H' → H p = none → Own c.K c.mg H' p d → Q (.ref p) H') → r x y H Q) ∧ ∀ x y e, f x y ≠ .exc e
/-- .. giving a truth -/
def Op2B (c : DC) (X : Cx) (g : Value → Value → Sem Value) (f : D → D → R Bool) : Prop := ∃ r : R2, OpR X g r ∧
  (∀ {O Γ σ H x y dx dy d} {Q : VK}, EnvOk c O Γ σ H → Vw c.K c.mg H dx x → Vw c.K c.mg H dy y → f dx dy = .ok d → Q (.bl d) H → r x y H Q) ∧ ∀ x y e, f x y ≠ .exc e
theorem je_op {op : Operator} {f : D → D → R D} (hf : Op2 c X (binaryOp op) f) (ha : JV c X Γ a ma) (hb : JV c X Γ b mb) : JE c X Γ (.BinOp a op b pos) (ma.bind fun x => mb.bind fun y => f x y) := by
  obtain ⟨r, ho, hr, hx⟩ := hf
  refine pe_imp (pe_op ho ha hb) fun σ H Q ⟨O, ok, q⟩ => ⟨O, ok, q.bind.imp fun dx k x H1 s1 r1 => ⟨O, ok.same s1, k.bind.imp fun dy k2 y H2 s2 r2 => ?_⟩⟩
  cases e : f dx dy with
  | ok d =>
    rw [e] at k2
    exact hr ((ok.same s1).same s2) (r1.same s2) r2 e fun v H' s r => k2 v H' ((s1.trans s2).trans s) r
  | exc z => exact absurd e (hx dx dy z)
  | bad => rw [e] at k2; exact k2.elim
theorem jm_op {op : Operator} {f : D → D → R D} (hf : Op2M c X (binaryOp op) f) (ha : JV c X Γ a ma) (hb : JV c X Γ b mb) : JM c X Γ (.BinOp a op b pos) (ma.bind fun x => mb.bind fun y => f x y) := by
  obtain ⟨r, ho, hr, hx⟩ := hf
  refine pe_imp (pe_op ho ha hb) fun σ H Q ⟨O, ok, q⟩ => ⟨O, ok, q.bind.imp fun dx k x H1 s1 r1 => ⟨O, ok.same s1, k.bind.imp fun dy k2 y H2 s2 r2 => ?_⟩⟩
  cases e : f dx dy with
  | ok d =>
    rw [e] at k2
    refine hr ((ok.same s1).same s2) (r1.same s2) r2 e fun v H' s r => k2 v H' ((s1.trans s2).trans s) ?_
    rcases r with r | ⟨p, ev, n, r⟩
    · exact .inl r
    · exact .inr ⟨p, ev, (s1.trans s2).free n, r⟩
  | exc z => exact absurd e (hx dx dy z)
  | bad => rw [e] at k2; exact k2.elim
theorem jo_op {op : Operator} {f : D → D → R D} (hf : Op2O c X (binaryOp op) f) (ha : JV c X Γ a ma) (hb : JV c X Γ b mb) : JO c X Γ (.BinOp a op b pos) (ma.bind fun x => mb.bind fun y => f x y) := by
  obtain ⟨r, ho, hr, hx⟩ := hf
  refine pe_imp (pe_op ho ha hb) fun σ H Q ⟨O, ok, q⟩ => ⟨O, ok, q.bind.imp fun dx k x H1 s1 r1 => ⟨O, ok.same s1, k.bind.imp fun dy k2 y H2 s2 r2 => ?_⟩⟩
  cases e : f dx dy with
  | ok d =>
    rw [e] at k2
    exact hr ((ok.same s1).same s2) (r1.same s2) r2 e fun p H' s n r => k2 p H' ((s1.trans s2).trans s) ((s1.trans s2).free n) r
  | exc z => exact absurd e (hx dx dy z)
  | bad => rw [e] at k2; exact k2.elim
theorem je_cmp {op : CmpOp} {f : D → D → R Bool} (hf : Op2B c X (compareOp op) f) (ha : JV c X Γ a ma) (hb : JV c X Γ b mb) (hm : behindInMarks op b = false := by first | exact nomark _ | rfl) :
    JE c X Γ (.Compare a [op] [b] pos) ((ma.bind fun x => mb.bind fun y => f x y).bind fun t => .ok (.bl t)) := by
  obtain ⟨r, ho, hr, hx⟩ := hf
  refine pe_imp (pe_cmpR ho ha hb hm) fun σ H Q ⟨O, ok, q⟩ => ⟨O, ok, q.bind.bind.imp fun dx k x H1 s1 r1 => ⟨O, ok.same s1, k.bind.imp fun dy k2 y H2 s2 r2 => ?_⟩⟩
  cases e : f dx dy with
  | ok d =>
    rw [e] at k2
    exact hr ((ok.same s1).same s2) (r1.same s2) r2 e (k2 (.bl d) H2 (s1.trans s2) (by rw [Rp]))
  | exc z => exact absurd e (hx dx dy z)
  | bad => rw [e] at k2; exact k2.elim
theorem jt_cmp {op : CmpOp} {f : D → D → R Bool} (hf : Op2B c X (compareOp op) f) (ha : JV c X Γ a ma) (hb : JV c X Γ b mb) (hm : behindInMarks op b = false := by first | exact nomark _ | rfl) :
    JT c X Γ (.Compare a [op] [b] pos) (ma.bind fun x => mb.bind fun y => f x y) := by
  obtain ⟨r, ho, hr, hx⟩ := hf
  refine pt_imp (pt_cmpR ho ha hb hm) fun σ H Q ⟨O, ok, q⟩ => ⟨O, ok, q.bind.imp fun dx k x H1 s1 r1 => ⟨O, ok.same s1, k.bind.imp fun dy k2 y H2 s2 r2 => ?_⟩⟩
  cases e : f dx dy with
  | ok d =>
    rw [e] at k2
    exact hr (Q := fun z H' => ∃ k, z = .bl k ∧ Q k H') ((ok.same s1).same s2) (r1.same s2) r2 e ⟨d, rfl, k2 H2 (s1.trans s2)⟩
  | exc z => exact absurd e (hx dx dy z)
  | bad => rw [e] at k2; exact k2.elim
/-- a < b < c -/
theorem jt_chain {op op' : CmpOp} {e3 : Expr} {mc : R D} {f f' : D → D → R Bool} (hf : Op2B c X (compareOp op) f) (hf' : Op2B c X (compareOp op') f') (ha : JV c X Γ a ma) (hb : JV c X Γ b mb) (hc : JV c X Γ e3 mc) (hm : lastMarks [op, op'] [b, e3] = false := by rfl) :
    JT c X Γ (.Compare a [op, op'] [b, e3] pos) (ma.bind fun x => mb.bind fun y => (f x y).bind fun t => if t = true then mc.bind fun z => f' y z else .ok false) := by
  obtain ⟨r, ho, hr, hx⟩ := hf
  obtain ⟨r', ho', hr', hx'⟩ := hf'
  refine pt_imp (pt_chain ho ho' ha hb hc hm) fun σ H Q ⟨O, ok, q⟩ => ⟨O, ok, q.bind.imp fun dx k x H1 s1 r1 => ⟨O, ok.same s1, k.bind.imp fun dy k2 y H2 s2 r2 => ?_⟩⟩
  cases e : f dx dy with
  | ok d =>
    rw [e, R.bind_ok] at k2
    refine hr ((ok.same s1).same s2) (r1.same s2) r2 e ⟨d, rfl, ?_⟩
    cases d with
    | false => exact ⟨false, rfl, k2 H2 (s1.trans s2)⟩
    | true =>
      refine ⟨O, (ok.same s1).same s2, RE.imp (RE.bind k2) fun dz k3 z H3 s3 r3 => ?_⟩
      cases e' : f' dy dz with
      | ok d' =>
        rw [e'] at k3
        exact hr' (((ok.same s1).same s2).same s3) (r2.same s3) r3 e' ⟨d', rfl, k3 H3 ((s1.trans s2).trans s3)⟩
      | exc z => exact absurd e' (hx' dy dz z)
      | bad => rw [e'] at k3; exact k3.elim
  | exc z => exact absurd e (hx dx dy z)
  | bad => rw [e, R.bind_bad] at k2; exact k2.elim
/-! ### tests -/
def asB : D → R Bool
  | .bl b => .ok b
  | _ => .bad
/-- an expression whose value is a truth, as a test -/
theorem jt_val (h : JE c X Γ e m) (he : ∀ whole, isTrue e X.env whole = (do let v ← whole; standAt e.pos; holding [v] (truthy v)) := by intro _; rfl) : JT c X Γ e (m.bind asB) := by
  refine pt_imp (pt_val h he) fun σ H Q ⟨O, ok, q⟩ => ⟨O, ok, q.bind.imp fun d k v H' s r => ?_⟩
  cases d with
  | bl b => rw [Rp] at r; exact ⟨b, r, k H' s⟩
  | _ => exact k.elim
theorem jt_not {mt : R Bool} (h : JT c X Γ e mt) : JT c X Γ (.UnaryOp .Not e pos) (mt.bind fun t => .ok (!t)) :=
  pt_imp (pt_not h) fun σ H Q ⟨O, ok, q⟩ => ⟨O, ok, q.bind.imp fun t k H' s => k H' s⟩
theorem jw_and1 {mt : R Bool} (h : JT c X Γ e mt) : JW c X Γ (.BoolOp .And [e] pos) mt := pw_and1 h
theorem jw_or1 {mt : R Bool} (h : JT c X Γ e mt) : JW c X Γ (.BoolOp .Or [e] pos) mt := pw_or1 h
theorem jw_and {ta tb : R Bool} {rest : List Expr} (ha : JT c X Γ a ta) (hb : JW c X Γ (.BoolOp .And (b :: rest) pos) tb) : JW c X Γ (.BoolOp .And (a :: b :: rest) pos) (ta.bind fun t => if t = true then tb else .ok false) := by
  refine pw_imp (pw_and ha hb) fun σ H Q ⟨O, ok, q⟩ => ⟨O, ok, q.bind.imp fun t k H' s => ?_⟩
  cases t with
  | true => exact ⟨O, ok.same s, RE.imp k fun b k H2 s2 => k H2 (s.trans s2)⟩
  | false => exact k H' s
theorem jw_or {ta tb : R Bool} {rest : List Expr} (ha : JT c X Γ a ta) (hb : JW c X Γ (.BoolOp .Or (b :: rest) pos) tb) : JW c X Γ (.BoolOp .Or (a :: b :: rest) pos) (ta.bind fun t => if t = true then .ok true else tb) := by
  refine pw_imp (pw_or ha hb) fun σ H Q ⟨O, ok, q⟩ => ⟨O, ok, q.bind.imp fun t k H' s => ?_⟩
  cases t with
  | true => exact k H' s
  | false => exact ⟨O, ok.same s, RE.imp k fun b k H2 s2 => k H2 (s.trans s2)⟩
theorem jt_w {mt : R Bool} (h : JW c X Γ e mt) : JT c X Γ e mt := h.pt
/-- and, or as values (truths) -/
theorem je_one {op} (h : JE c X Γ e m) : JE c X Γ (.BoolOp op [e] pos) m := pe_one h
theorem je_and {rest : List Expr} (ha : JE c X Γ a ma) (hb : JE c X Γ (.BoolOp .And (b :: rest) pos) mb) : JE c X Γ (.BoolOp .And (a :: b :: rest) pos) ((ma.bind asB).bind fun t => if t = true then mb else .ok (.bl false)) := by
  refine pe_imp (pe_and ha hb) fun σ H Q ⟨O, ok, q⟩ => ⟨O, ok, q.bind.bind.imp fun d k v H' s r => ?_⟩
  cases d with
  | bl b =>
    rw [Rp] at r
    refine ⟨b, r, ?_⟩
    cases b with
    | true => exact ⟨O, ok.same s, RE.imp k fun d k v H2 s2 => k v H2 (s.trans s2)⟩
    | false => exact k _ H' s (by rw [Rp])
  | _ => exact (show False from k).elim
theorem je_or {rest : List Expr} (ha : JE c X Γ a ma) (hb : JE c X Γ (.BoolOp .Or (b :: rest) pos) mb) : JE c X Γ (.BoolOp .Or (a :: b :: rest) pos) ((ma.bind asB).bind fun t => if t = true then .ok (.bl true) else mb) := by
  refine pe_imp (pe_or ha hb) fun σ H Q ⟨O, ok, q⟩ => ⟨O, ok, q.bind.bind.imp fun d k v H' s r => ?_⟩
  cases d with
  | bl b =>
    rw [Rp] at r
    refine ⟨b, r, ?_⟩
    cases b with
    | true => exact k _ H' s (by rw [Rp])
    | false => exact ⟨O, ok.same s, RE.imp k fun d k v H2 s2 => k v H2 (s.trans s2)⟩
  | _ => exact (show False from k).elim
theorem je_not (ha : JE c X Γ a ma) : JE c X Γ (.UnaryOp .Not a pos) ((ma.bind asB).bind fun t => .ok (.bl (!t))) := by
  refine pe_imp (pe_not ha) fun σ H Q ⟨O, ok, q⟩ => ⟨O, ok, q.bind.bind.imp fun d k v H' s r => ?_⟩
  cases d with
  | bl b => rw [Rp] at r; exact ⟨b, r, k _ H' s (by rw [Rp])⟩
  | _ => exact (show False from k).elim
theorem je_if {t : Expr} {mt : R Bool} (ht : JT c X Γ t mt) (ha : JE c X Γ a ma) (hb : JE c X Γ b mb) : JE c X Γ (.IfExp t a b pos) (mt.bind fun t => if t = true then ma else mb) := by
  refine pe_imp (pe_ifExp ht ha hb) fun σ H Q ⟨O, ok, q⟩ => ⟨O, ok, q.bind.imp fun t k H' s => ?_⟩
  cases t with
  | true => exact ⟨O, ok.same s, RE.imp k fun d k v H2 s2 => k v H2 (s.trans s2)⟩
  | false => exact ⟨O, ok.same s, RE.imp k fun d k v H2 s2 => k v H2 (s.trans s2)⟩
theorem jv_if {t : Expr} {mt : R Bool} (ht : JT c X Γ t mt) (ha : JV c X Γ a ma) (hb : JV c X Γ b mb) : JV c X Γ (.IfExp t a b pos) (mt.bind fun t => if t = true then ma else mb) := by
  refine pe_imp (pe_ifExp ht ha hb) fun σ H Q ⟨O, ok, q⟩ => ⟨O, ok, q.bind.imp fun t k H' s => ?_⟩
  cases t with
  | true => exact ⟨O, ok.same s, RE.imp k fun d k v H2 s2 => k v H2 (s.trans s2)⟩
  | false => exact ⟨O, ok.same s, RE.imp k fun d k v H2 s2 => k v H2 (s.trans s2)⟩
end
end PD
end

section
/-! PD3: what Python's operations do on data. -/
namespace PD
open PySem PySem.Spec L2
open PyProof.Rows hiding St
open PySem.PyData (strOk)

/-! ### equality -/
mutual
def D.py : D → PyData
  | .non => .none
  | .bl b => .bool b
  | .int i => .int i
  | .str x => .str x
  | .tup ds => .tuple (D.pyL ds)
  | .lst ds => .list (D.pyL ds)
  | .dct _ => .dict []
  | .dctT _ => .dict []
  | .fn _ => .dict []
  | .scr _ => .dict []
def D.pyL : List D → List PyData
  | [] => []
  | d :: ds => d.py :: D.pyL ds
end
mutual
/-- plain, no deeper than n -/
def D.pl : D → Nat → Bool
  | .non, _ => true
  | .bl _, _ => true
  | .int _, _ => true
  | .str _, _ => true
  | .tup ds, n => match n with
    | 0 => false
    | n + 1 => D.plL ds n
  | .lst ds, n => match n with
    | 0 => false
    | n + 1 => D.plL ds n
  | .dct _, _ => false
  | .dctT _, _ => false
  | .fn _, _ => false
  | .scr _, _ => false
def D.plL : List D → Nat → Bool
  | [], _ => true
  | d :: ds, n => d.pl n && D.plL ds n
end
mutual
/-- == on data -/
def D.eqv : D → D → Bool
  | .non, e => match e with
    | .non => true
    | _ => false
  | .bl a, e => match e with
    | .bl b => a == b
    | .int j => (if a then 1 else 0) == j
    | _ => false
  | .int i, e => match e with
    | .bl b => i == (if b then 1 else 0)
    | .int j => i == j
    | _ => false
  | .str x, e => match e with
    | .str y => x == y
    | _ => false
  | .tup xs, e => match e with
    | .tup ys => D.eqvL xs ys
    | _ => false
  | .lst xs, e => match e with
    | .lst ys => D.eqvL xs ys
    | _ => false
  | .dct _, _ => false
  | .dctT _, _ => false
  | .fn _, _ => false
  | .scr _, _ => false
def D.eqvL : List D → List D → Bool
  | [], ys => match ys with
    | [] => true
    | _ => false
  | x :: xs, ys => match ys with
    | [] => false
    | y :: ys => x.eqv y && D.eqvL xs ys
end
mutual
theorem D.eqv_py : ∀ a b : D, PyData.eqv a.py b.py = a.eqv b
  | .non, b => by cases b <;> simp only [D.py, D.eqv, PyData.eqv]
  | .bl x, b => by cases b <;> simp only [D.py, D.eqv, PyData.eqv]
  | .int x, b => by cases b <;> simp only [D.py, D.eqv, PyData.eqv]
  | .str x, b => by cases b <;> simp only [D.py, D.eqv, PyData.eqv]
  | .tup xs, b => by
    cases b <;> simp only [D.py, D.eqv, PyData.eqv]
    exact D.eqvL_py xs _
  | .lst xs, b => by
    cases b <;> simp only [D.py, D.eqv, PyData.eqv]
    exact D.eqvL_py xs _
  | .dct _, b => by cases b <;> simp only [D.py, D.eqv, PyData.eqv]
  | .dctT _, b => by cases b <;> simp only [D.py, D.eqv, PyData.eqv]
  | .fn _, b => by cases b <;> simp only [D.py, D.eqv, PyData.eqv]
  | .scr _, b => by cases b <;> simp only [D.py, D.eqv, PyData.eqv]
theorem D.eqvL_py : ∀ xs ys : List D, PyData.eqvAll (D.pyL xs) (D.pyL ys) = D.eqvL xs ys
  | [], [] => by simp only [D.pyL, D.eqvL, PyData.eqvAll]
  | [], _ :: _ => by simp only [D.pyL, D.eqvL, PyData.eqvAll]
  | _ :: _, [] => by simp only [D.pyL, D.eqvL, PyData.eqvAll]
  | x :: xs, y :: ys => by
    simp only [D.pyL, D.eqvL, PyData.eqvAll]
    rw [D.eqv_py x y, D.eqvL_py xs ys]
end
section
variable {K : PySem.W.Frag} {mg : MG} {H : Hp}
mutual
theorem Rp.dp : ∀ (d : D) (n : Nat) (v : V), d.pl n = true → Rp K mg H d v → Dp K H v d.py
  | .non, n, v, p, h => by rw [Rp] at h; subst h; rw [D.py]; exact .non
  | .bl b, n, v, p, h => by rw [Rp] at h; subst h; rw [D.py]; exact .bl b
  | .int b, n, v, p, h => by rw [Rp] at h; subst h; rw [D.py]; exact .int b
  | .str b, n, v, p, h => by rw [Rp] at h; rw [h.1, D.py]; exact .str b
  | .tup ds, 0, v, p, h => by simp [D.pl] at p
  | .lst ds, 0, v, p, h => by simp [D.pl] at p
  | .tup ds, n + 1, v, p, h => by
    rw [Rp] at h
    obtain ⟨a, vs, e, h1, h2⟩ := h
    rw [e, D.py]
    exact .tup h1.sq (RpL.dp ds n vs (by simpa [D.pl] using p) h2)
  | .lst ds, n + 1, v, p, h => by
    rw [Rp] at h
    obtain ⟨a, vs, e, h1, h2⟩ := h
    rw [e, D.py]
    exact .lst (.inl (.inr h1)) (RpL.dp ds n vs (by simpa [D.pl] using p) h2)
  | .dct _, n, v, p, h => by simp [D.pl] at p
  | .dctT _, n, v, p, h => by simp [D.pl] at p
  | .fn _, n, v, p, h => by simp [D.pl] at p
theorem RpL.dp : ∀ (ds : List D) (n : Nat) (vs : List V), D.plL ds n = true → RpL K mg H ds vs → DpAll K H vs (D.pyL ds)
  | [], n, vs, p, h => by rw [RpL.nil] at h; subst h; rw [D.pyL]; exact .nil
  | d :: ds, n, vs, p, h => by
    rw [RpL.cons] at h
    obtain ⟨v, r, e, h1, h2⟩ := h
    rw [D.plL, Bool.and_eq_true] at p
    rw [e, D.pyL]
    exact .cons (Rp.dp d n v p.1 h1) (RpL.dp ds n r p.2 h2)
end
theorem Vw.dp {d : D} {n : Nat} {v : V} (p : d.pl n = true) (h : Vw K mg H d v) : Dp K H v d.py := by
  cases d with
  | lst ds =>
    obtain ⟨a, vs, e, h1, h2⟩ := h
    cases n with
    | zero => simp [D.pl] at p
    | succ n =>
      rw [e, D.py]
      exact .lst (.inl h1) (RpL.dp ds n vs (by simpa [D.pl] using p) h2)
  | dct _ => simp [D.pl] at p
  | dctT _ => simp [D.pl] at p
  | non => exact Rp.dp (K := K) (mg := mg) (H := H) _ n v p h
  | bl _ => exact Rp.dp (K := K) (mg := mg) (H := H) _ n v p h
  | int _ => exact Rp.dp (K := K) (mg := mg) (H := H) _ n v p h
  | str _ => exact Rp.dp (K := K) (mg := mg) (H := H) _ n v p h
  | tup _ => exact Rp.dp (K := K) (mg := mg) (H := H) _ n v p h
  | fn _ => exact Rp.dp (K := K) (mg := mg) (H := H) _ n v p h
  | scr _ => exact Rp.dp (K := K) (mg := mg) (H := H) _ n v p h
mutual
theorem Rp.lay : ∀ (d : D) (n : Nat) (v : V), d.pl n = true → Rp K mg H d v → d.py.canLay0 = true ∧ d.py.depth ≤ n
  | .non, n, v, p, h => by rw [D.py]; simp [PyData.canLay0, PyData.depth]
  | .bl b, n, v, p, h => by rw [D.py]; simp [PyData.canLay0, PyData.depth]
  | .int b, n, v, p, h => by rw [D.py]; simp [PyData.canLay0, PyData.depth]
  | .str b, n, v, p, h => by rw [Rp] at h; rw [D.py]; simp [PyData.canLay0, PyData.depth, h.2]
  | .tup ds, 0, v, p, h => by simp [D.pl] at p
  | .lst ds, 0, v, p, h => by simp [D.pl] at p
  | .tup ds, n + 1, v, p, h => by
    rw [Rp] at h
    obtain ⟨a, vs, e, h1, h2⟩ := h
    obtain ⟨q1, q2⟩ := RpL.lay ds n vs (by simpa [D.pl] using p) h2
    rw [D.py]
    simp only [PyData.canLay0, PyData.depth]
    exact ⟨q1, by omega⟩
  | .lst ds, n + 1, v, p, h => by
    rw [Rp] at h
    obtain ⟨a, vs, e, h1, h2⟩ := h
    obtain ⟨q1, q2⟩ := RpL.lay ds n vs (by simpa [D.pl] using p) h2
    rw [D.py]
    simp only [PyData.canLay0, PyData.depth]
    exact ⟨q1, by omega⟩
  | .dct _, n, v, p, h => by simp [D.pl] at p
  | .dctT _, n, v, p, h => by simp [D.pl] at p
  | .fn _, n, v, p, h => by simp [D.pl] at p
theorem RpL.lay : ∀ (ds : List D) (n : Nat) (vs : List V), D.plL ds n = true → RpL K mg H ds vs → PyData.canLayAll0 (D.pyL ds) = true ∧ PyData.depthAll (D.pyL ds) ≤ n
  | [], n, vs, p, h => by rw [D.pyL]; simp [PyData.canLayAll0, PyData.depthAll]
  | d :: ds, n, vs, p, h => by
    rw [RpL.cons] at h
    obtain ⟨v, r, e, h1, h2⟩ := h
    rw [D.plL, Bool.and_eq_true] at p
    obtain ⟨q1, q2⟩ := Rp.lay d n v p.1 h1
    obtain ⟨q3, q4⟩ := RpL.lay ds n r p.2 h2
    rw [D.pyL]
    simp only [PyData.canLayAll0, PyData.depthAll, q1, q3]
    exact ⟨rfl, Nat.max_le.mpr ⟨q2, q4⟩⟩
end
theorem Vw.lay {d : D} {n : Nat} {v : V} (p : d.pl n = true) (h : Vw K mg H d v) : d.py.canLay0 = true ∧ d.py.depth ≤ n := by
  cases d with
  | lst ds =>
    obtain ⟨a, vs, e, h1, h2⟩ := h
    cases n with
    | zero => simp [D.pl] at p
    | succ n =>
      obtain ⟨q1, q2⟩ := RpL.lay ds n vs (by simpa [D.pl] using p) h2
      rw [D.py]
      simp only [PyData.canLay0, PyData.depth]
      exact ⟨q1, by omega⟩
  | dct _ => simp [D.pl] at p
  | dctT _ => simp [D.pl] at p
  | non => exact Rp.lay (K := K) (mg := mg) (H := H) _ n v p h
  | bl _ => exact Rp.lay (K := K) (mg := mg) (H := H) _ n v p h
  | int _ => exact Rp.lay (K := K) (mg := mg) (H := H) _ n v p h
  | str _ => exact Rp.lay (K := K) (mg := mg) (H := H) _ n v p h
  | tup _ => exact Rp.lay (K := K) (mg := mg) (H := H) _ n v p h
  | fn _ => exact Rp.lay (K := K) (mg := mg) (H := H) _ n v p h
  | scr _ => exact Rp.lay (K := K) (mg := mg) (H := H) _ n v p h
theorem Vw.shaped {d : D} {v : V} (p : d.pl 60 = true) (h : Vw K mg H d v) : SeqAt.shaped d.py = true := by
  obtain ⟨a, b⟩ := Vw.lay p h
  unfold SeqAt.shaped
  rw [a, Bool.true_and]
  exact decide_eq_true (by omega)
end
def dEq (a b : D) : R Bool := if a.pl 60 = true ∧ b.pl 60 = true then .ok (a.eqv b) else .bad
def dNe (a b : D) : R Bool := if a.pl 60 = true ∧ b.pl 60 = true then .ok (!a.eqv b) else .bad
section
variable {c : DC} {X : Cx}
/-- what holds of the context: K and the names are X's; there is room -/
structure Cok (c : DC) (X : Cx) : Prop where
  K : X.K = c.K
  mg : X.mg = c.mg.g
  w : X.w = c.mg.w
  calm : X.calm = true
  un : X.A.units + 200 < cLine
  gd : X.A.guards = some []
  nd : X.N.Nodup
theorem Cok.MG (S : Cok c X) : (⟨X.mg, X.w⟩ : MG) = c.mg := by rw [S.mg, S.w]
theorem o_eq (S : Cok c X) : Op2B c X (compareOp .Eq) dEq := by
  refine ⟨_, op_eqD (by have := S.un; omega), fun {O Γ σ H x y dx dy d Q} ok v1 v2 e q => ?_, fun x y e => by unfold dEq; split <;> simp⟩
  unfold dEq at e
  split at e
  · rename_i h
    cases e
    exact ⟨dx.py, dy.py, by rw [S.K]; exact v1.dp h.1, by rw [S.K]; exact v2.dp h.2, v1.shaped h.1, v2.shaped h.2, by rw [D.eqv_py]; exact q⟩
  · cases e
theorem o_ne (S : Cok c X) : Op2B c X (compareOp .NotEq) dNe := by
  refine ⟨_, op_neD (by have := S.un; omega), fun {O Γ σ H x y dx dy d Q} ok v1 v2 e q => ?_, fun x y e => by unfold dNe; split <;> simp⟩
  unfold dNe at e
  split at e
  · rename_i h
    cases e
    exact ⟨dx.py, dy.py, by rw [S.K]; exact v1.dp h.1, by rw [S.K]; exact v2.dp h.2, v1.shaped h.1, v2.shaped h.2, by rw [D.eqv_py]; exact q⟩
  · cases e
end

/-! ### keys, lookups -/
/-- a key that is an int or a text -/
def D.isK : D → Bool
  | .int _ => true
  | .str _ => true
  | _ => false
def D.keq : D → D → Bool
  | .int i, .int j => decide (i = j)
  | .str x, .str y => decide (x = y)
  | _, _ => false
def dlook (eq : D → D → Bool) (kvs : List (D × D)) (k : D) : Option D := (kvs.find? fun p => eq p.1 k).map (·.2)
def dput (eq : D → D → Bool) (kvs : List (D × D)) (k v : D) : List (D × D) :=
  if (kvs.any fun p => eq p.1 k) = true then kvs.map (fun p => if eq p.1 k = true then (p.1, v) else p) else kvs ++ [(k, v)]
def ddrop (eq : D → D → Bool) (kvs : List (D × D)) (k : D) : List (D × D) := kvs.filter fun p => !eq p.1 k
section
variable {K : PySem.W.Frag} {mg : MG} {H : Hp}
theorem IsKey.keq {d e : D} {k l : Key} (h : IsKey d k) (q : IsKey e l) : d.keq e = decide (k = l) := by
  cases d with
  | int i =>
    have h' : k = .inl i := h
    subst h'
    cases e with
    | int j =>
      have q' : l = .inl j := q
      subst q'
      by_cases z : i = j
      · subst z; simp [D.keq]
      · simp [D.keq, z]
    | str y =>
      have q' : l = .inr y ∧ _ := q
      rw [q'.1]; simp [D.keq]
    | _ => exact q.elim
  | str x =>
    have h' : k = .inr x ∧ _ := h
    rw [h'.1]
    cases e with
    | int j =>
      have q' : l = .inl j := q
      subst q'
      simp [D.keq]
    | str y =>
      have q' : l = .inr y ∧ _ := q
      rw [q'.1]
      by_cases z : x = y
      · subst z; simp [D.keq]
      · simp [D.keq, z]
    | _ => exact q.elim
  | _ => exact h.elim
/-- a table of data beside a table of values -/
def TabOk {κ : Type} (IK : D → κ → Prop) (P : D → V → Prop) : List (D × D) → List (κ × V) → Prop
  | [], es => es = []
  | (k, d) :: r, es => ∃ κ v s, es = (κ, v) :: s ∧ IK k κ ∧ P d v ∧ TabOk IK P r s
theorem RpK.tab : ∀ {kvs : List (D × D)} {es : List (Key × V)}, RpK K mg H kvs es ↔ TabOk IsKey (Rp K mg H) kvs es
  | [], es => by rw [RpK, TabOk]
  | (k, d) :: r, es => by
    rw [RpK, TabOk]
    constructor
    · rintro ⟨κ, v, s, h1, h2, h3, h4⟩; exact ⟨κ, v, s, h1, h2, h3, RpK.tab.mp h4⟩
    · rintro ⟨κ, v, s, h1, h2, h3, h4⟩; exact ⟨κ, v, s, h1, h2, h3, RpK.tab.mpr h4⟩
section
variable {κ : Type} [DecidableEq κ] {IK : D → κ → Prop} {P : D → V → Prop} {eq : D → D → Bool} (hq : ∀ (d e : D) (k l : κ), IK d k → IK e l → eq d e = decide (k = l))
include hq
theorem TabOk.look {k : D} {l : κ} (hk : IK k l) : ∀ {kvs : List (D × D)} {es : List (κ × V)}, TabOk IK P kvs es → (dlook eq kvs k = none ∧ valV es l = none) ∨ ∃ d v, dlook eq kvs k = some d ∧ valV es l = some v ∧ P d v
  | [], es, h => by
    have h' : es = [] := h
    subst h'
    exact .inl ⟨rfl, rfl⟩
  | (k', d) :: r, es, h => by
    obtain ⟨κ', v, s, e, h1, h2, h3⟩ := h
    subst e
    have z := hq _ _ _ _ h1 hk
    by_cases c : κ' = l
    · rw [decide_eq_true c] at z
      exact .inr ⟨d, v, by simp [dlook, List.find?_cons, z], valV_pos c, h2⟩
    · rw [decide_eq_false c] at z
      have w : dlook eq ((k', d) :: r) k = dlook eq r k := by simp [dlook, List.find?_cons, z]
      rw [w, valV_neg (p := (κ', v)) c]
      exact TabOk.look hk h3
theorem TabOk.any {k : D} {l : κ} (hk : IK k l) : ∀ {kvs : List (D × D)} {es : List (κ × V)}, TabOk IK P kvs es → (kvs.any fun p => eq p.1 k) = es.any fun p => decide (p.1 = l)
  | [], es, h => by
    have h' : es = [] := h
    subst h'
    rfl
  | (k', d) :: r, es, h => by
    obtain ⟨κ', v, s, e, h1, h2, h3⟩ := h
    subst e
    rw [List.any_cons, List.any_cons, TabOk.any hk h3, hq _ _ _ _ h1 hk]
theorem TabOk.map {k : D} {l : κ} {d : D} {v : V} (hk : IK k l) (hv : P d v) : ∀ {kvs : List (D × D)} {es : List (κ × V)}, TabOk IK P kvs es →
    TabOk IK P (kvs.map fun p => if eq p.1 k = true then (p.1, d) else p) (es.map fun kv => if kv.1 = l then (kv.1, v) else kv)
  | [], es, h => by
    have h' : es = [] := h
    subst h'
    exact rfl
  | (k', d') :: r, es, h => by
    obtain ⟨κ', v', s, e, h1, h2, h3⟩ := h
    subst e
    have z := hq _ _ _ _ h1 hk
    show TabOk IK P ((if eq k' k = true then (k', d) else (k', d')) :: _) ((if κ' = l then (κ', v) else (κ', v')) :: _)
    by_cases c : κ' = l
    · rw [decide_eq_true c] at z
      rw [if_pos z, if_pos c]
      exact ⟨κ', v, _, rfl, h1, hv, TabOk.map hk hv h3⟩
    · rw [decide_eq_false c] at z
      rw [if_neg (by rw [z]; exact Bool.false_ne_true), if_neg c]
      exact ⟨κ', v', _, rfl, h1, h2, TabOk.map hk hv h3⟩
omit hq in
omit [DecidableEq κ] in
theorem TabOk.snoc {k : D} {l : κ} {d : D} {v : V} (hk : IK k l) (hv : P d v) : ∀ {kvs : List (D × D)} {es : List (κ × V)}, TabOk IK P kvs es → TabOk IK P (kvs ++ [(k, d)]) (es ++ [(l, v)])
  | [], es, h => by
    have h' : es = [] := h
    subst h'
    exact ⟨l, v, [], rfl, hk, hv, rfl⟩
  | (k', d') :: r, es, h => by
    obtain ⟨κ', v', s, e, h1, h2, h3⟩ := h
    subst e
    exact ⟨κ', v', _, rfl, h1, h2, TabOk.snoc hk hv h3⟩
theorem TabOk.put {k : D} {l : κ} {d : D} {v : V} (hk : IK k l) (hv : P d v) {kvs : List (D × D)} {es : List (κ × V)} (h : TabOk IK P kvs es) : TabOk IK P (dput eq kvs k d) (putK es l v) := by
  unfold dput putK
  rw [TabOk.any hq hk h]
  split
  · exact TabOk.map hq hk hv h
  · exact TabOk.snoc hk hv h
theorem TabOk.drop {k : D} {l : κ} (hk : IK k l) : ∀ {kvs : List (D × D)} {es : List (κ × V)}, TabOk IK P kvs es → TabOk IK P (ddrop eq kvs k) (dropK es l)
  | [], es, h => by
    have h' : es = [] := h
    subst h'
    exact rfl
  | (k', d') :: r, es, h => by
    obtain ⟨κ', v', s, e, h1, h2, h3⟩ := h
    subst e
    have z := hq _ _ _ _ h1 hk
    rw [show ddrop eq ((k', d') :: r) k = (if (!eq k' k) = true then (k', d') :: ddrop eq r k else ddrop eq r k) from List.filter_cons, show dropK ((κ', v') :: s) l = (if decide (κ' ≠ l) = true then (κ', v') :: dropK s l else dropK s l) from List.filter_cons]
    by_cases c : κ' = l
    · rw [decide_eq_true c] at z
      rw [z, if_neg (by simp), if_neg (by simp [c])]
      exact TabOk.drop hk h3
    · rw [decide_eq_false c] at z
      rw [z, if_pos (by simp), if_pos (by simp [c])]
      exact ⟨κ', v', _, rfl, h1, h2, TabOk.drop hk h3⟩
omit hq in
omit [DecidableEq κ] in
theorem TabOk.length : ∀ {kvs : List (D × D)} {es : List (κ × V)}, TabOk IK P kvs es → es.length = kvs.length
  | [], es, h => by
    have h' : es = [] := h
    subst h'
    rfl
  | (k', d') :: r, es, h => by
    obtain ⟨κ', v', s, e, h1, h2, h3⟩ := h
    subst e
    rw [List.length_cons, List.length_cons, TabOk.length h3]
end
/-- a datum that is a key stands as one -/
theorem Rp.key {d : D} {v : V} (h : Rp K mg H d v) (k : d.isK = true) : ∃ l, IsKey d l ∧ v = kV l := by
  cases d with
  | int i => rw [Rp] at h; exact ⟨.inl i, rfl, h⟩
  | str x => rw [Rp] at h; exact ⟨.inr x, ⟨rfl, h.2⟩, h.1⟩
  | _ => simp [D.isK] at k
end

/-! ### in -/
def strIn (x y : Str) : Bool := !(Builtin.Str.occurrences y x 0 y.length 1).isEmpty
def dIn (x s : D) : R Bool := match s with
  | .str y => (match x with
    | .str z => .ok (strIn z y)
    | _ => .bad)
  | .tup ds => if x.pl 60 = true ∧ D.plL ds 60 = true then .ok (ds.any fun z => z.eqv x) else .bad
  | .lst ds => if x.pl 60 = true ∧ D.plL ds 60 = true then .ok (ds.any fun z => z.eqv x) else .bad
  | .dct kvs => if x.isK = true then .ok (dlook D.keq kvs x).isSome else .bad
  | _ => .bad
def dNotIn (x s : D) : R Bool := (dIn x s).neg
theorem pyL_any (x : D) : ∀ ds : List D, ((D.pyL ds).any fun y => PyData.eqv y x.py) = ds.any fun z => z.eqv x
  | [] => by rw [D.pyL]; rfl
  | d :: ds => by rw [D.pyL, List.any_cons, List.any_cons, pyL_any x ds, D.eqv_py]
section
variable {c : DC} {X : Cx}
def rInTD (K : PySem.W.Frag) (neg : Bool) : R2 := fun x y H Q => ∃ d ds, Dp K H x d ∧ Dp K H y (.tuple ds) ∧ SeqAt.shaped d = true ∧ SeqAt.shaped (.tuple ds) = true ∧ Q (.bl (if neg then !ds.any fun z => PyData.eqv z d else ds.any fun z => PyData.eqv z d)) H
theorem room_tup {d : PyData} {ds : List PyData} {A : Around} (sd : SeqAt.shaped d = true) (hu : A.units + 65 < cLine) : A.units + 1 + min (PyData.depthAll ds) d.depth < cLine := by
  have := SeqAt.depth_of_shaped sd
  have := Nat.min_le_right (PyData.depthAll ds) d.depth
  omega
theorem op_inTD (hu : X.A.units + 65 < cLine) : OpR X (compareOp .In) (rInTD X.K false) := by
  intro pins s σ H x y v u Q I rx ry h
  obtain ⟨d, ds, hd, he, sd, se, q⟩ := h
  obtain ⟨as, r1⟩ := Dp.reads I d x v hd rx
  obtain ⟨bs, r2⟩ := Dp.reads I (.tuple ds) y u he ry
  exact SeqAt.in_tuple_reads r2 r1 (by have := SeqAt.canLay_of_shaped se; simpa [PyData.canLay0] using this) (SeqAt.canLay_of_shaped sd) (room_tup sd hu) ⟨.bl _, H, I, rfl, q⟩
theorem op_notInTD (hu : X.A.units + 65 < cLine) : OpR X (compareOp .NotIn) (rInTD X.K true) := by
  intro pins s σ H x y v u Q I rx ry h
  obtain ⟨d, ds, hd, he, sd, se, q⟩ := h
  obtain ⟨as, r1⟩ := Dp.reads I d x v hd rx
  obtain ⟨bs, r2⟩ := Dp.reads I (.tuple ds) y u he ry
  exact SeqAt.notIn_tuple_reads r2 r1 (by have := SeqAt.canLay_of_shaped se; simpa [PyData.canLay0] using this) (SeqAt.canLay_of_shaped sd) (room_tup sd hu) ⟨.bl _, H, I, rfl, q⟩
def rInDct : R2 := fun x y H Q => ∃ a o, y = .ref a ∧ DGet H a x o ∧ Q (.bl o.isSome) H
def rNotInDct : R2 := fun x y H Q => ∃ a o, y = .ref a ∧ DGet H a x o ∧ Q (.bl (!o.isSome)) H
theorem op_inDct (hu : X.A.units + 65 < cLine) : OpR X (compareOp .In) rInDct := by
  intro pins s σ H x y v u Q I rx ry h
  obtain ⟨a, o, rfl, g, q⟩ := h
  cases ry
  exact d_in (by omega) I g rx fun s' I' => ⟨.bl _, H, I', rfl, q⟩
theorem op_notInDct (hu : X.A.units + 65 < cLine) : OpR X (compareOp .NotIn) rNotInDct := by
  intro pins s σ H x y v u Q I rx ry h
  obtain ⟨a, o, rfl, g, q⟩ := h
  cases ry
  exact d_notIn (by omega) I g rx fun s' I' => ⟨.bl _, H, I', rfl, q⟩
theorem dget_of {K : PySem.W.Frag} {mg : MG} {H : Hp} {kvs : List (D × D)} {k : D} {v vk : V} (h : Vw K mg H (.dct kvs) v) (hk : Vw K mg H k vk) (i : k.isK = true) :
    ∃ a, v = .ref a ∧ ((dlook D.keq kvs k = none ∧ DGet H a vk none) ∨ ∃ d w, dlook D.keq kvs k = some d ∧ DGet H a vk (some w) ∧ Rp K mg H d w) := by
  obtain ⟨a, es, rfl, h1, h2⟩ := h
  have hk' : Rp K mg H k vk := by cases k <;> first | exact hk | simp [D.isK] at i
  obtain ⟨l, k1, k2⟩ := hk'.key i
  subst k2
  refine ⟨a, rfl, ?_⟩
  rcases TabOk.look (IK := IsKey) (eq := D.keq) (fun _ _ _ _ a b => IsKey.keq a b) k1 (RpK.tab.mp h2) with ⟨e1, e2⟩ | ⟨d, w, e1, e2, e3⟩
  · exact .inl ⟨e1, .inl ⟨es, l, h1, rfl, e2.symm⟩⟩
  · exact .inr ⟨d, w, e1, .inl ⟨es, l, h1, rfl, e2.symm⟩, e3⟩
theorem o_in (S : Cok c X) : Op2B c X (compareOp .In) dIn := by
  have hu : X.A.units + 65 < cLine := by have := S.un; omega
  refine ⟨_, (op_in_str.or (op_inD hu)).or ((op_inTD hu).or (op_inDct hu)), fun {O Γ σ H x y dx dy d Q} ok v1 v2 e q => ?_, fun x y e => ?_⟩
  · cases dy with
    | str y' =>
      cases dx with
      | str z =>
        cases e
        have v1 : Rp c.K c.mg H (.str z) x := v1
        have v2 : Rp c.K c.mg H (.str y') y := v2
        rw [Rp] at v1 v2
        exact .inl (.inl ⟨z, y', v1.1, v2.1, q⟩)
      | _ => cases e
    | tup ds =>
      simp only [dIn] at e
      split at e
      · rename_i h
        cases e
        have p2 : (D.tup ds).pl 61 = true := by rw [D.pl]; exact h.2
        have l2 := Vw.lay p2 v2
        refine .inr (.inl ⟨dx.py, D.pyL ds, by rw [S.K]; exact v1.dp h.1, ?_, v1.shaped h.1, ?_, ?_⟩)
        · have := v2.dp p2
          rw [D.py] at this
          rw [S.K]; exact this
        · rw [D.py] at l2
          unfold SeqAt.shaped
          rw [l2.1, Bool.true_and]
          exact decide_eq_true (by have := l2.2; omega)
        · simp only [Bool.false_eq_true, if_false]
          rw [pyL_any]; exact q
      · cases e
    | lst ds =>
      simp only [dIn] at e
      split at e
      · rename_i h
        cases e
        have p2 : (D.lst ds).pl 61 = true := by rw [D.pl]; exact h.2
        have l2 := Vw.lay p2 v2
        refine .inl (.inr ⟨dx.py, D.pyL ds, by rw [S.K]; exact v1.dp h.1, ?_, v1.shaped h.1, ?_, ?_⟩)
        · have := v2.dp p2
          rw [D.py] at this
          rw [S.K]; exact this
        · rw [D.py] at l2
          unfold SeqAt.shaped
          rw [l2.1, Bool.true_and]
          exact decide_eq_true (by have := l2.2; omega)
        · rw [pyL_any]; exact q
      · cases e
    | dct kvs =>
      simp only [dIn] at e
      split at e
      · rename_i h
        cases e
        obtain ⟨a, rfl, g⟩ := dget_of v2 v1 h
        rcases g with ⟨g1, g2⟩ | ⟨d, w, g1, g2, _⟩
        · rw [g1] at q
          exact .inr (.inr ⟨a, none, rfl, g2, q⟩)
        · rw [g1] at q
          exact .inr (.inr ⟨a, some w, rfl, g2, q⟩)
      · cases e
    | _ => cases e
  · unfold dIn
    split <;> (try split) <;> simp
theorem o_notIn (S : Cok c X) : Op2B c X (compareOp .NotIn) dNotIn := by
  have hu : X.A.units + 65 < cLine := by have := S.un; omega
  refine ⟨_, (op_notIn_str.or (op_notInD hu)).or ((op_notInTD hu).or (op_notInDct hu)), fun {O Γ σ H x y dx dy d Q} ok v1 v2 e q => ?_, fun x y e => ?_⟩
  · unfold dNotIn at e
    cases dy with
    | str y' =>
      cases dx with
      | str z =>
        cases e
        have v1 : Rp c.K c.mg H (.str z) x := v1
        have v2 : Rp c.K c.mg H (.str y') y := v2
        rw [Rp] at v1 v2
        exact .inl (.inl ⟨z, y', v1.1, v2.1, q⟩)
      | _ => cases e
    | tup ds =>
      simp only [dIn] at e
      split at e
      · rename_i h
        cases e
        have p2 : (D.tup ds).pl 61 = true := by rw [D.pl]; exact h.2
        have l2 := Vw.lay p2 v2
        refine .inr (.inl ⟨dx.py, D.pyL ds, by rw [S.K]; exact v1.dp h.1, ?_, v1.shaped h.1, ?_, ?_⟩)
        · have := v2.dp p2
          rw [D.py] at this
          rw [S.K]; exact this
        · rw [D.py] at l2
          unfold SeqAt.shaped
          rw [l2.1, Bool.true_and]
          exact decide_eq_true (by have := l2.2; omega)
        · simp only [if_true]
          rw [pyL_any]; exact q
      · cases e
    | lst ds =>
      simp only [dIn] at e
      split at e
      · rename_i h
        cases e
        have p2 : (D.lst ds).pl 61 = true := by rw [D.pl]; exact h.2
        have l2 := Vw.lay p2 v2
        refine .inl (.inr ⟨dx.py, D.pyL ds, by rw [S.K]; exact v1.dp h.1, ?_, v1.shaped h.1, ?_, ?_⟩)
        · have := v2.dp p2
          rw [D.py] at this
          rw [S.K]; exact this
        · rw [D.py] at l2
          unfold SeqAt.shaped
          rw [l2.1, Bool.true_and]
          exact decide_eq_true (by have := l2.2; omega)
        · rw [pyL_any]; exact q
      · cases e
    | dct kvs =>
      simp only [dIn] at e
      split at e
      · rename_i h
        cases e
        obtain ⟨a, rfl, g⟩ := dget_of v2 v1 h
        rcases g with ⟨g1, g2⟩ | ⟨d, w, g1, g2, _⟩
        · rw [g1] at q
          exact .inr (.inr ⟨a, none, rfl, g2, q⟩)
        · rw [g1] at q
          exact .inr (.inr ⟨a, some w, rfl, g2, q⟩)
      · cases e
    | _ => cases e
  · unfold dNotIn dIn
    split <;> (try split) <;> simp
end
end PD
end

section
/-! PD4: arithmetic, order, subscripts, slices, conversions on data. -/
namespace PD
open PySem PySem.Spec L2
open PyProof.Rows hiding St
open PySem.PyData (strOk)

section
variable {K : PySem.W.Frag} {mg : MG} {H : Hp} {v : V}
theorem Vw.int {i : Int} (h : Vw K mg H (.int i) v) : v = .int i := by
  have h' : Rp K mg H (.int i) v := h
  rw [Rp] at h'; exact h'
theorem Vw.str {x : Str} (h : Vw K mg H (.str x) v) : v = .str x ∧ strOk x = true := by
  have h' : Rp K mg H (.str x) v := h
  rw [Rp] at h'; exact h'
theorem Vw.bl {x : Bool} (h : Vw K mg H (.bl x) v) : v = .bl x := by
  have h' : Rp K mg H (.bl x) v := h
  rw [Rp] at h'; exact h'
theorem Vw.non (h : Vw K mg H .non v) : v = .non := by
  have h' : Rp K mg H .non v := h
  rw [Rp] at h'; exact h'
theorem Vw.tup {ds : List D} (h : Vw K mg H (.tup ds) v) : ∃ a vs, v = .ref a ∧ TpT K H a vs ∧ RpL K mg H ds vs := by
  have h' : Rp K mg H (.tup ds) v := h
  rw [Rp] at h'; exact h'
theorem Rp.int {i : Int} : Rp K mg H (.int i) (.int i) := by rw [Rp]
theorem Rp.bl {i : Bool} : Rp K mg H (.bl i) (.bl i) := by rw [Rp]
theorem Rp.non : Rp K mg H .non .non := by rw [Rp]
theorem Rp.str {x : Str} (h : strOk x = true) : Rp K mg H (.str x) (.str x) := by rw [Rp]; exact ⟨rfl, h⟩
theorem Rp.tup {a : Addr} {ds : List D} {vs : List V} (h : TpT K H a vs) (r : RpL K mg H ds vs) : Rp K mg H (.tup ds) (.ref a) := by rw [Rp]; exact ⟨a, vs, rfl, h, r⟩
/-- a new tuple -/
theorem Rp.newTup {p : Addr} {o : Obj} {ds : List D} {vs : List V} (n : H p = none) (d : o.dict = none) (r : RpL K mg H ds vs) : Rp K mg (upd H p (.frz o (.tup vs))) (.tup ds) (.ref p) :=
  Rp.tup (.inl ⟨o, upd_same, d⟩) (r.same (same_new n))
end

/-! ### numbers -/
def dAdd : D → D → R D
  | .int i, .int j => .ok (.int (i + j))
  | .str x, .str y => if x.length + y.length ≤ 10000 then .ok (.str (x ++ y)) else .bad
  | .tup xs, .tup ys => if xs.length + ys.length ≤ 1000000 then .ok (.tup (xs ++ ys)) else .bad
  | .lst xs, .lst ys => if xs.length + ys.length ≤ 1000000 then .ok (.lst (xs ++ ys)) else .bad
  | _, _ => .bad
def dCat : D → D → R D
  | .lst xs, .lst ys => if xs.length + ys.length ≤ 1000000 then .ok (.lst (xs ++ ys)) else .bad
  | _, _ => .bad
def dSub : D → D → R D
  | .int i, .int j => .ok (.int (i - j))
  | _, _ => .bad
def dMul : D → D → R D
  | .int i, .int j => if (-(2 ^ 64) < i ∧ i < 2 ^ 64) ∨ (-(2 ^ 64) < j ∧ j < 2 ^ 64) then .ok (.int (i * j)) else .bad
  | _, _ => .bad
def dMod : D → D → R D
  | .int i, .int j => if j ≠ 0 then .ok (.int (i.fmod j)) else .bad
  | _, _ => .bad
def dFdiv : D → D → R D
  | .int i, .int j => if j ≠ 0 ∧ j.natAbs < 1073741824 then .ok (.int (i.fdiv j)) else .bad
  | _, _ => .bad
def dPow : D → D → R D
  | .int i, .int j => if 0 ≤ j ∧ j ≤ 1000000 ∧ i.natAbs < 2 ^ 64 then .ok (.int (i ^ j.toNat)) else .bad
  | _, _ => .bad
def dNeg : D → R D
  | .int i => .ok (.int (-i))
  | _ => .bad
theorem strOk_append {x y : Str} (hx : strOk x = true) (hy : strOk y = true) : strOk (x ++ y) = true := by
  unfold strOk at *
  show ((x.cps ++ y.cps).all fun c => decide (c < 1114112)) = true
  rw [Array.all_append, hx, hy]; rfl
section
variable {c : DC} {X : Cx} {Γ : SEnv} {a b e : Expr} {es : List Expr} {m ma mb : R D} {pos : Pos}
def rCatF (K : PySem.W.Frag) : R2 := fun x y H Q => ∃ a b xs ys, x = .ref a ∧ y = .ref b ∧ SqT K H a xs ∧ SqT K H b ys ∧ xs.length + ys.length ≤ sizeLine ∧
  (xs = [] → Q (.ref b) H) ∧ (xs ≠ [] → ys = [] → Q (.ref a) H) ∧ (xs ≠ [] → ys ≠ [] → ∀ p o, H p = none → o.dict = none → Q (.ref p) (upd H p (.frz o (.tup (xs ++ ys)))))
theorem op_catF : OpR X (binaryOp .Add) (rCatF X.K) := by
  intro pins s σ H x y v u Q I rx ry h
  obtain ⟨a, b, xs, ys, rfl, rfl, ha, hb, hz, q0, q1, q2⟩ := h
  by_cases hx : xs = []
  · subst hx
    cases rx
    cases ry
    obtain ⟨its, r1, p1, _⟩ := I.tuple ha
    obtain ⟨its2, r2, p2, _⟩ := I.tuple hb
    cases r1
    exact cat_tup0 p1 p2 ⟨.ref b, H, I, rfl, q0 rfl⟩
  · cases rx
    cases ry
    obtain ⟨its, r1, p1, _⟩ := I.tuple ha
    obtain ⟨its2, r2, p2, _⟩ := I.tuple hb
    refine HT.cat_tup p1 p2 (fun z => hx (r1.nil_iff.mp z)) (fun z => ⟨.ref a, H, I, rfl, q1 hx (r2.nil_iff.mp z)⟩) (fun z => ?_) (by rw [← r1.length, ← r2.length]; exact hz)
    exact ⟨.ref s.heap.objs.size, _, laid_tup I (r1.append r2) (by rw [List.length_append]; exact hz), rfl, q2 hx (fun w => z (r2.nil_iff.mpr w)) _ _ (I.hok.fresh (Nat.le_refl _)) rfl⟩
theorem Inv.lstR {pins : List (Addr × Obj)} {σ : St} {H : Hp} {s : Shared} {l : Addr} {xs : List V} (I : Inv X pins σ H s) (h : Rd H l (.lst xs)) : xs.length ≤ sizeLine ∧ ∃ (its : List Value) (n : Nat), Vals xs its ∧ xs.length = its.length ∧ s.heap.get? l = some { cls := .type "list", data := .seq its.toArray n } := by
  obtain ⟨z, its, n, r, e⟩ := (show ObjOk X.prog X.w H s.heap l (.lst xs) from h.ok I.hok)
  exact ⟨z, its, n, r, r.length, e⟩
def rCatR : R2 := fun x y H Q => ∃ l b xs zs, x = .ref l ∧ y = .ref b ∧ Rd H l (.lst xs) ∧ Rd H b (.lst zs) ∧ xs.length + zs.length ≤ sizeLine ∧ ∀ p, H p = none → Q (.ref p) (upd H p (.lst (xs ++ zs)))
theorem op_catR : OpR X (binaryOp .Add) rCatR := by
  intro pins s σ H x y v u Q I rx ry h
  obtain ⟨l, b, xs, zs, rfl, rfl, hH, hB, hz, q⟩ := h
  cases rx
  cases ry
  obtain ⟨z, its, n, r, hl, e⟩ := Inv.lstR I hH
  obtain ⟨z2, its2, n2, r2, hl2, e2⟩ := Inv.lstR I hB
  refine PySem.P.add_list e e2 ?_ (by rw [List.size_toArray, List.size_toArray]; omega)
  rw [show its.toArray ++ its2.toArray = (its ++ its2).toArray by simp]
  exact ⟨.ref _, _, I.lnew (t' := s.toks) (r.append r2) (by rw [List.length_append]; omega), rfl, q _ I.fresh⟩
theorem o_add (S : Cok c X) : Op2M c X (binaryOp .Add) dAdd := by
  refine ⟨_, (op_add.or op_add_str).or (op_catF.or op_catR), fun {O Γ σ H x y dx dy d Q} ok v1 v2 e q => ?_, fun x y e => ?_⟩
  · unfold dAdd at e
    split at e
    · cases e
      exact .inl (.inl ⟨_, _, v1.int, v2.int, q _ H (Same.refl H) (.inl .int)⟩)
    · split at e
      · rename_i x' y' h
        cases e
        exact .inl (.inr ⟨_, _, v1.str.1, v2.str.1, by rw [sizeLine_eq]; omega, q _ H (Same.refl H) (.inl (.str (strOk_append v1.str.2 v2.str.2)))⟩)
      · cases e
    · split at e
      · rename_i xs ys h
        cases e
        obtain ⟨p1, w1, rfl, t1, l1⟩ := v1.tup
        obtain ⟨p2, w2, rfl, t2, l2⟩ := v2.tup
        refine .inr (.inl ⟨p1, p2, w1, w2, rfl, rfl, by rw [S.K]; exact t1.sq, by rw [S.K]; exact t2.sq, by rw [l1.length, l2.length, sizeLine_eq]; omega, fun z => ?_, fun _ z => ?_, fun _ _ p o n dn => ?_⟩)
        · subst z
          have : xs = [] := List.eq_nil_of_length_eq_zero l1.length.symm
          subst this
          exact q _ H (Same.refl H) (.inl (.tup t2 l2))
        · subst z
          have : ys = [] := List.eq_nil_of_length_eq_zero l2.length.symm
          subst this
          rw [List.append_nil] at q
          exact q _ H (Same.refl H) (.inl (.tup t1 l1))
        · exact q _ _ (same_new n) (.inl (.newTup n dn (l1.append l2)))
      · cases e
    · split at e
      · rename_i xs ys h
        cases e
        obtain ⟨p1, w1, rfl, t1, l1⟩ := v1
        obtain ⟨p2, w2, rfl, t2, l2⟩ := v2
        refine .inr (.inr ⟨p1, p2, w1, w2, rfl, rfl, t1, t2, by rw [l1.length, l2.length, sizeLine_eq]; omega, fun p n => ?_⟩)
        exact q _ _ (same_new n) (.inr ⟨p, rfl, n, own_new n (l1.append l2)⟩)
      · cases e
    · cases e
  · unfold dAdd
    split <;> (try split) <;> simp
theorem o_cat (S : Cok c X) : Op2O c X (binaryOp .Add) dCat := by
  refine ⟨_, op_catR, fun {O Γ σ H x y dx dy d Q} ok v1 v2 e q => ?_, fun x y e => ?_⟩
  · unfold dCat at e
    split at e
    · split at e
      · rename_i xs ys h
        cases e
        obtain ⟨p1, w1, rfl, t1, l1⟩ := v1
        obtain ⟨p2, w2, rfl, t2, l2⟩ := v2
        exact ⟨p1, p2, w1, w2, rfl, rfl, t1, t2, by rw [l1.length, l2.length, sizeLine_eq]; omega, fun p n => q p _ (same_new n) n (own_new (K := c.K) (mg := c.mg) n (l1.append l2))⟩
      · cases e
    · cases e
  · unfold dCat
    split <;> (try split) <;> simp
theorem o_sub : Op2 c X (binaryOp .Sub) dSub := by
  refine ⟨_, op_sub, fun {O Γ σ H x y dx dy d Q} ok v1 v2 e q => ?_, fun x y e => by unfold dSub; split <;> simp⟩
  unfold dSub at e
  split at e
  · cases e
    exact ⟨_, _, v1.int, v2.int, q _ H (Same.refl H) .int⟩
  · cases e
theorem o_mul : Op2 c X (binaryOp .Mult) dMul := by
  refine ⟨_, op_mul, fun {O Γ σ H x y dx dy d Q} ok v1 v2 e q => ?_, fun x y e => by unfold dMul; split <;> (try split) <;> simp⟩
  unfold dMul at e
  split at e
  · split at e
    · rename_i h
      cases e
      exact ⟨_, _, v1.int, v2.int, h, q _ H (Same.refl H) .int⟩
    · cases e
  · cases e
theorem o_mod : Op2 c X (binaryOp .Mod) dMod := by
  refine ⟨_, op_modN, fun {O Γ σ H x y dx dy d Q} ok v1 v2 e q => ?_, fun x y e => by unfold dMod; split <;> (try split) <;> simp⟩
  unfold dMod at e
  split at e
  · split at e
    · rename_i h
      cases e
      exact ⟨_, _, v1.int, v2.int, h, q _ H (Same.refl H) .int⟩
    · cases e
  · cases e
theorem o_fdiv : Op2 c X (binaryOp .FloorDiv) dFdiv := by
  refine ⟨_, op_fdivN, fun {O Γ σ H x y dx dy d Q} ok v1 v2 e q => ?_, fun x y e => by unfold dFdiv; split <;> (try split) <;> simp⟩
  unfold dFdiv at e
  split at e
  · split at e
    · rename_i h
      cases e
      exact ⟨_, _, v1.int, v2.int, h, q _ H (Same.refl H) .int⟩
    · cases e
  · cases e
theorem o_pow : Op2 c X (binaryOp .Pow) dPow := by
  refine ⟨_, op_pow, fun {O Γ σ H x y dx dy d Q} ok v1 v2 e q => ?_, fun x y e => by unfold dPow; split <;> (try split) <;> simp⟩
  unfold dPow at e
  split at e
  · split at e
    · rename_i h
      cases e
      exact ⟨_, _, v1.int, v2.int, h, q _ H (Same.refl H) .int⟩
    · cases e
  · cases e
theorem je_neg (ha : JV c X Γ a ma) : JE c X Γ (.UnaryOp .USub a pos) (ma.bind dNeg) :=
  pe_imp (pe_un un_neg ha) fun σ H Q ⟨O, ok, q⟩ => ⟨O, ok, q.bind.imp fun d k v H' s r => by
    cases d with
    | int i => exact ⟨i, r.int, k _ H' s .int⟩
    | _ => exact k.elim⟩

/-! ### order -/
def strLt (x y : Str) : Bool := decide (x.cps.toList < y.cps.toList)
def dLt : D → D → R Bool
  | .int i, .int j => .ok (decide (i < j))
  | .str x, .str y => .ok (strLt x y)
  | _, _ => .bad
def dLe : D → D → R Bool
  | .int i, .int j => .ok (decide (i ≤ j))
  | .str x, .str y => .ok (!strLt y x)
  | _, _ => .bad
def dGt : D → D → R Bool
  | .int i, .int j => .ok (decide (j < i))
  | .str x, .str y => .ok (strLt y x)
  | _, _ => .bad
def dGe : D → D → R Bool
  | .int i, .int j => .ok (decide (j ≤ i))
  | .str x, .str y => .ok (!strLt x y)
  | _, _ => .bad
theorem o_lt : Op2B c X (compareOp .Lt) dLt := by
  refine ⟨_, op_lt.or op_lt_str, fun {O Γ σ H x y dx dy d Q} ok v1 v2 e q => ?_, fun x y e => by unfold dLt; split <;> simp⟩
  unfold dLt at e
  split at e
  · cases e; exact .inl ⟨_, _, v1.int, v2.int, q⟩
  · cases e; exact .inr ⟨_, _, v1.str.1, v2.str.1, q⟩
  · cases e
theorem o_le : Op2B c X (compareOp .LtE) dLe := by
  refine ⟨_, op_le.or op_le_str, fun {O Γ σ H x y dx dy d Q} ok v1 v2 e q => ?_, fun x y e => by unfold dLe; split <;> simp⟩
  unfold dLe at e
  split at e
  · cases e; exact .inl ⟨_, _, v1.int, v2.int, q⟩
  · cases e; exact .inr ⟨_, _, v1.str.1, v2.str.1, q⟩
  · cases e
theorem o_gt : Op2B c X (compareOp .Gt) dGt := by
  refine ⟨_, op_gt.or op_gt_str, fun {O Γ σ H x y dx dy d Q} ok v1 v2 e q => ?_, fun x y e => by unfold dGt; split <;> simp⟩
  unfold dGt at e
  split at e
  · cases e; exact .inl ⟨_, _, v1.int, v2.int, q⟩
  · cases e; exact .inr ⟨_, _, v1.str.1, v2.str.1, q⟩
  · cases e
theorem o_ge : Op2B c X (compareOp .GtE) dGe := by
  refine ⟨_, op_ge.or op_ge_str, fun {O Γ σ H x y dx dy d Q} ok v1 v2 e q => ?_, fun x y e => by unfold dGe; split <;> simp⟩
  unfold dGe at e
  split at e
  · cases e; exact .inl ⟨_, _, v1.int, v2.int, q⟩
  · cases e; exact .inr ⟨_, _, v1.str.1, v2.str.1, q⟩
  · cases e
/-- is None, is True, is False -/
def D.isNon : D → Bool
  | .non => true
  | _ => false
def dIs (x y : D) : R Bool := match y with
  | .non => .ok x.isNon
  | .bl b => (match x with
    | .bl a => .ok (decide (a = b))
    | _ => .bad)
  | _ => .bad
def dIsNot (x y : D) : R Bool := (dIs x y).neg
theorem Vw.isNon {K : PySem.W.Frag} {mg : MG} {H : Hp} {v : V} {d : D} (h : Vw K mg H d v) : decide (v = .non) = d.isNon := by
  cases d with
  | non => rw [h.non]; rfl
  | bl b => rw [h.bl]; rfl
  | int b => rw [h.int]; rfl
  | str b => rw [h.str.1]; rfl
  | tup ds => obtain ⟨a, vs, rfl, _⟩ := h.tup; rfl
  | lst ds => obtain ⟨a, vs, rfl, _⟩ := h; rfl
  | dct ds => obtain ⟨a, vs, rfl, _⟩ := h; rfl
  | dctT ds => obtain ⟨a, vs, rfl, _⟩ := h; rfl
  | fn x =>
    have h' : Rp K mg H (.fn x) v := h
    rw [Rp] at h'
    obtain ⟨a, rfl, _⟩ := h'; rfl
  | scr x =>
    have h' : Rp K mg H (.scr x) v := h
    rw [Rp] at h'
    obtain ⟨a, rfl, _⟩ := h'; rfl
theorem o_is : Op2B c X (compareOp .Is) dIs := by
  refine ⟨_, op_isN.or op_isBl, fun {O Γ σ H x y dx dy d Q} ok v1 v2 e q => ?_, fun x y e => by unfold dIs; split <;> (try split) <;> simp⟩
  unfold dIs at e
  split at e
  · cases e; exact .inl ⟨v2.non, by rw [v1.isNon]; exact q⟩
  · split at e
    · cases e; exact .inr ⟨_, _, v1.bl, v2.bl, q⟩
    · cases e
  · cases e
theorem o_isNot : Op2B c X (compareOp .IsNot) dIsNot := by
  refine ⟨_, op_notN.or op_notBl, fun {O Γ σ H x y dx dy d Q} ok v1 v2 e q => ?_, fun x y e => by unfold dIsNot dIs; split <;> (try split) <;> simp⟩
  unfold dIsNot dIs at e
  split at e
  · cases e; exact .inl ⟨v2.non, by rw [v1.isNon]; exact q⟩
  · split at e
    · cases e; exact .inr ⟨_, _, v1.bl, v2.bl, q⟩
    · cases e
  · cases e

/-! ### subscripts -/
def dIx (s i : D) : R D := match s with
  | .tup ds => (match i with
    | .int k => (match atI ds k with
      | some d => .ok d
      | none => .bad)
    | _ => .bad)
  | .lst ds => (match i with
    | .int k => (match atI ds k with
      | some d => .ok d
      | none => .bad)
    | _ => .bad)
  | .str x => (match i with
    | .int k => if x.length ≤ 10000 then (match atI x.cps.toList k with
        | some z => .ok (.str ⟨#[z]⟩)
        | none => .bad) else .bad
    | _ => .bad)
  | .dct kvs => if i.isK = true then (match dlook D.keq kvs i with
      | some d => .ok d
      | none => .bad) else .bad
  | _ => .bad
def rIxD : R2 := fun x y H Q => ∃ a v, x = .ref a ∧ DGet H a y (some v) ∧ Q v H
theorem ix_dct (hu : X.A.units + 1 < cLine) : IxR X rIxD := by
  intro value slice pins s σ H x y v u Q I rx ry h hs
  obtain ⟨a, w, rfl, g, q⟩ := h
  obtain rfl : v = Value.ref a := rx
  exact tail_any (dict_typeIs I g) PySem.F.slot_dict_getitem.lookup (d_getItem hu I g ry fun w' s3 I3 rw' => ⟨w, H, I3, rw', q⟩) hs
theorem RpL.at {K : PySem.W.Frag} {mg : MG} {H : Hp} {ds : List D} {vs : List V} {k : Int} {d : D} (r : RpL K mg H ds vs) (h : atI ds k = some d) : ∃ v, atI vs k = some v ∧ Rp K mg H d v := by
  unfold atI at h ⊢
  rw [r.length]
  obtain ⟨j, h1, h2⟩ := Option.bind_eq_some_iff.mp h
  obtain ⟨v, q1, q2⟩ := r.get h2
  exact ⟨v, by rw [h1]; exact q1, q2⟩
theorem strOk_at {x : Str} {k : Int} {z : Nat} (hx : strOk x = true) (h : atI x.cps.toList k = some z) : strOk ⟨#[z]⟩ = true := by
  unfold atI at h
  obtain ⟨j, h1, h2⟩ := Option.bind_eq_some_iff.mp h
  have hm : z ∈ x.cps.toList := List.mem_of_getElem? h2
  unfold strOk at hx ⊢
  rw [Array.all_eq_true_iff_forall_mem] at hx
  have := hx z (by simpa using hm)
  simp [this]
theorem je_ix (S : Cok c X) (ha : JV c X Γ a ma) (hb : JV c X Γ b mb) (hs : PlainIx b := by exact fun _ _ => rfl) : JE c X Γ (.Subscript a b pos) (ma.bind fun x => mb.bind fun y => dIx x y) := by
  have hu : X.A.units + 1 < cLine := by have := S.un; omega
  refine pe_imp (pe_ix (ix_seq.or (ix_dct hu)) ha hb hs) fun σ H Q ⟨O, ok, q⟩ => ⟨O, ok, q.bind.imp fun dx k x H1 s1 r1 => ⟨O, ok.same s1, k.bind.imp fun dy k2 y H2 s2 r2 => ?_⟩⟩
  have r1 := r1.same s2
  unfold dIx at k2
  split at k2
  · split at k2
    · split at k2
      · rename_i ds _ i d e
        obtain ⟨p, vs, rfl, t, l⟩ := r1.tup
        obtain ⟨v, e1, e2⟩ := l.at e
        exact .inl (.inr (.inl ⟨p, vs, _, v, rfl, r2.int, by rw [S.K]; exact t.sq, e1, k2 v H2 (s1.trans s2) e2⟩))
      · exact k2.elim
    · exact k2.elim
  · split at k2
    · split at k2
      · rename_i ds _ i d e
        obtain ⟨p, vs, rfl, t, l⟩ := r1
        obtain ⟨v, e1, e2⟩ := l.at e
        exact .inl (.inl ⟨p, vs, _, v, rfl, r2.int, .inl t, e1, k2 v H2 (s1.trans s2) e2⟩)
      · exact k2.elim
    · exact k2.elim
  · split at k2
    · split at k2
      · split at k2
        · rename_i x _ i hl _ z e
          exact .inl (.inr (.inr ⟨_, _, z, r1.str.1, r2.int, small hl, e, k2 _ H2 (s1.trans s2) (.str (strOk_at r1.str.2 e))⟩))
        · exact k2.elim
      · exact k2.elim
    · exact k2.elim
  · split at k2
    · split at k2
      · rename_i kvs hi _ d e
        obtain ⟨a, rfl, g⟩ := dget_of r1 r2 hi
        rcases g with ⟨g1, _⟩ | ⟨d', w, g1, g2, g3⟩
        · rw [e] at g1; cases g1
        · rw [e] at g1; cases g1
          exact .inr ⟨a, w, rfl, g2, k2 w H2 (s1.trans s2) g3⟩
      · exact k2.elim
    · exact k2.elim
  · exact k2.elim

/-! ### slices -/
/-- the items lo .. hi - 1 -/
def cutD {α : Type} (xs : List α) (lo hi : Option Int) : List α := (xs.drop (HT.sIx xs.length 0 lo)).take (HT.sIx xs.length xs.length hi - HT.sIx xs.length 0 lo)
theorem RpL.cut {K : PySem.W.Frag} {mg : MG} {H : Hp} {ds : List D} {vs : List V} (r : RpL K mg H ds vs) (lo hi : Option Int) : RpL K mg H (cutD ds lo hi) (cutV vs lo hi) := by
  unfold cutD cutV
  rw [r.length]
  exact (r.drop _).take _
/-- a part of a slice: none, or an int -/
def JP (c : DC) (X : Cx) (Γ : SEnv) (e : Option Expr) (m : R (Option Int)) : Prop :=
  PO X e fun σ H Q => ∃ O, EnvOk c O Γ σ H ∧ RE m (fun b => ∀ H', Same H H' → Q b H') (fun e => c.E e Γ)
def asI : D → R (Option Int)
  | .int i => .ok (some i)
  | _ => .bad
theorem jp_none : JP c X Γ none (.ok none) := ⟨fun pins s σ H Q I ⟨O, ok, q⟩ => (po_none (X := X)).run pins s σ H Q I (q H (Same.refl H))⟩
theorem jp_some (h : JE c X Γ e m) : JP c X Γ (some e) (m.bind asI) := ⟨fun pins s σ H Q I ⟨O, ok, q⟩ => (po_some h).run pins s σ H Q I ⟨O, ok, q.bind.imp fun d k v H' s r => by
  cases d with
  | int i => exact ⟨i, (Vw.of r).int, k H' s⟩
  | _ => exact k.elim⟩⟩
def dSl (s : D) (lo hi : Option Int) : R D := match s with
  | .tup ds => .ok (.tup (cutD ds lo hi))
  | .lst ds => .ok (.lst (cutD ds lo hi))
  | .scr ns => .ok (.lst ((cutD ns lo hi).map .int))
  | _ => .bad
def dSlL (s : D) (lo hi : Option Int) : R D := match s with
  | .lst ds => .ok (.lst (cutD ds lo hi))
  | .scr ns => .ok (.lst ((cutD ns lo hi).map .int))
  | _ => .bad
theorem RpL.ints {K : PySem.W.Frag} {mg : MG} {H : Hp} : ∀ ns : List Int, RpL K mg H (ns.map D.int) (ns.map V.int)
  | [] => RpL.nil.mpr rfl
  | n :: ns => RpL.cons.mpr ⟨_, _, rfl, Rp.int, RpL.ints ns⟩
theorem Vw.scr {K : PySem.W.Frag} {mg : MG} {H : Hp} {v : V} {ns : List Int} (h : Vw K mg H (.scr ns) v) : ∃ a, v = .ref a ∧ ScT K H a ns := by
  have h' : Rp K mg H (.scr ns) v := h
  rwa [Rp] at h'
def rSlF (K : PySem.W.Frag) : V → Option Int → Option Int → Hp → VK → Prop := fun x lo hi H Q => ∃ a xs, x = .ref a ∧ SqT K H a xs ∧
  (cutV xs lo hi = xs → Q (.ref a) H) ∧ (∀ p o, H p = none → o.dict = none → Q (.ref p) (upd H p (.frz o (.tup (cutV xs lo hi)))))
theorem sl_tupF : SlR X (rSlF X.K) := by
  intro pins s σ H x v vl vu lo hi sl Q I rx hs pl pu h
  obtain ⟨a, xs, rfl, hx, q1, q2⟩ := h
  obtain rfl : v = Value.ref a := rx
  obtain ⟨its, r, ht, hz⟩ := I.tuple hx
  have hlen : its.toArray.size = xs.length := by rw [List.size_toArray]; exact r.length.symm
  refine ⟨"tuple", _, PyProof.Rows.slot_tuple_getitem.lookup, ht.typeIs, ?_⟩
  by_cases hw : HT.sIx xs.length 0 lo = 0 ∧ HT.sIx xs.length xs.length hi = xs.length
  · refine getItem_tuple_whole ht hs pl pu (by rw [hlen]; exact hw) ⟨.ref a, H, I, rfl, q1 ?_⟩
    unfold cutV
    rw [hw.1, hw.2]; simp
  · refine HT.getItem_tuple_cut ht hs pl pu (by rw [hlen]; exact hw) ?_ (by rw [hlen]; exact hz)
    rw [hlen]
    exact ⟨.ref s.heap.objs.size, _, laid_tup I ((r.drop (HT.sIx xs.length 0 lo)).take (HT.sIx xs.length xs.length hi - HT.sIx xs.length 0 lo)) (Nat.le_trans (cutV_length xs lo hi) hz), rfl, q2 _ _ (I.hok.fresh (Nat.le_refl _)) rfl⟩
theorem jm_sl (S : Cok c X) {lo hi : Option Expr} {ml mh : R (Option Int)} {p2 : Pos} (ha : JV c X Γ a ma) (hl : JP c X Γ lo ml) (hh : JP c X Γ hi mh) : JM c X Γ (.Subscript a (.Slice lo hi none p2) pos) (ma.bind fun x => ml.bind fun l => mh.bind fun h => dSl x l h) := by
  refine pe_imp (pe_slice (sl_tupF.or sl_list) ha hl hh) fun σ H Q ⟨O, ok, q⟩ => ⟨O, ok, q.bind.imp fun dx k x H1 s1 r1 => ⟨O, ok.same s1, k.bind.imp fun l k2 H2 s2 => ⟨O, (ok.same s1).same s2, k2.bind.imp fun h k3 H3 s3 => ?_⟩⟩⟩
  have r1 := (r1.same s2).same s3
  have s := (s1.trans s2).trans s3
  unfold dSl at k3
  split at k3
  · obtain ⟨p, vs, rfl, t, w⟩ := r1.tup
    refine .inl ⟨p, vs, rfl, by rw [S.K]; exact t.sq, fun z => ?_, fun p o n dn => ?_⟩
    · have w2 := w.cut l h
      rw [z] at w2
      exact k3 _ H3 s (.inl (.tup t w2))
    · exact k3 _ _ (s.trans (same_new n)) (.inl (.newTup n dn (w.cut l h)))
  · obtain ⟨p, vs, rfl, t, w⟩ := r1
    refine .inr ⟨p, vs, rfl, .inl t, fun p n => ?_⟩
    exact k3 _ _ (s.trans (same_new n)) (.inr ⟨p, rfl, s.free n, own_new n (w.cut l h)⟩)
  · rename_i _ ns _
    obtain ⟨p, rfl, t⟩ := r1.scr
    refine .inr ⟨p, _, rfl, by rw [S.K]; exact t.sq, fun p n => k3 _ _ (s.trans (same_new n)) (.inr ⟨p, rfl, s.free n, own_new (K := c.K) (mg := c.mg) n ?_⟩)⟩
    have e : cutV (ns.map V.int) l h = (cutD ns l h).map V.int := by unfold cutV cutD; simp only [List.length_map, List.map_take, List.map_drop]
    rw [e]
    exact RpL.ints _
  · exact k3.elim
theorem jo_sl (S : Cok c X) {lo hi : Option Expr} {ml mh : R (Option Int)} {p2 : Pos} (ha : JV c X Γ a ma) (hl : JP c X Γ lo ml) (hh : JP c X Γ hi mh) : JO c X Γ (.Subscript a (.Slice lo hi none p2) pos) (ma.bind fun x => ml.bind fun l => mh.bind fun h => dSlL x l h) := by
  refine pe_imp (pe_slice sl_list ha hl hh) fun σ H Q ⟨O, ok, q⟩ => ⟨O, ok, q.bind.imp fun dx k x H1 s1 r1 => ⟨O, ok.same s1, k.bind.imp fun l k2 H2 s2 => ⟨O, (ok.same s1).same s2, k2.bind.imp fun h k3 H3 s3 => ?_⟩⟩⟩
  have r1 := (r1.same s2).same s3
  have s := (s1.trans s2).trans s3
  unfold dSlL at k3
  split at k3
  · obtain ⟨p, vs, rfl, t, w⟩ := r1
    exact ⟨p, vs, rfl, .inl t, fun p n => k3 _ _ (s.trans (same_new n)) (s.free n) (own_new (K := c.K) (mg := c.mg) n (w.cut l h))⟩
  · rename_i _ ns _
    obtain ⟨p, rfl, t⟩ := r1.scr
    refine ⟨p, _, rfl, by rw [S.K]; exact t.sq, fun p n => k3 _ _ (s.trans (same_new n)) (s.free n) (own_new (K := c.K) (mg := c.mg) n ?_)⟩
    have e : cutV (ns.map V.int) l h = (cutD ns l h).map V.int := by unfold cutV cutD; simp only [List.length_map, List.map_take, List.map_drop]
    rw [e]
    exact RpL.ints _
  · exact k3.elim
end
end PD
end

section
/-! PD5: calls of built-in functions, types, methods. -/
namespace PD
open PySem PySem.Spec L2
open PyProof.Rows hiding St
open PySem.PyData (strOk)

section
variable {c : DC} {X : Cx} {Γ : SEnv} {a b e : Expr} {es : List Expr} {m ma mb : R D} {pos p pos2 : Pos} {x : Str} {id T : String}

/-- f is what the call of fv does on one datum -/
def Cal1 (c : DC) (X : Cx) (fv : Value) (f : D → R D) : Prop := ∃ r : List V → Hp → VK → Prop, CallR X fv r ∧
  (∀ {O Γ σ H v d d'} {Q : VK}, EnvOk c O Γ σ H → Vw c.K c.mg H d v → f d = .ok d' → (∀ v' H', Same H H' → Rp c.K c.mg H' d' v' → Q v' H') → r [v] H Q) ∧ ∀ d e, f d ≠ .exc e
/-- .. giving a new list, a new dict -/
def Cal1O (c : DC) (X : Cx) (fv : Value) (f : D → R D) : Prop := ∃ r : List V → Hp → VK → Prop, CallR X fv r ∧
  (∀ {O Γ σ H v d d'} {Q : VK}, EnvOk c O Γ σ H → Vw c.K c.mg H d v → f d = .ok d' → (∀ p H', Same H H' → H p = none → Own c.K c.mg H' p d' → Q (.ref p) H') → r [v] H Q) ∧ ∀ d e, f d ≠ .exc e

theorem je_cB {f : D → R D} (hc : Cal1 c X (.builtin id) f) (ha : JV c X Γ e m) (hg : Gl X x) (hm : X.mg x = none) (hv : bootBuiltins x = some (.builtin id)) (hn : x ≠ "__name__" := by decide) (hdb : (x == ("__debug__" : Str)) = false := by decide)
    (he : starEach [e] X.env = (false, eval e X.env) :: starEach [] X.env := by rfl) (hpl : (backTo pos (starEach [] X.env)).any (·.1) = false := by rfl) : JE c X Γ (.Call (.Name x p) [e] [] pos) (m.bind f) := by
  obtain ⟨r, hr, hf, hx⟩ := hc
  refine pe_imp (pe_callB hr hg hm hv (pa_cons ha pa_nil he) hn hdb he hpl) fun σ H Q ⟨O, ok, q⟩ => ⟨O, ok, q.bind.imp fun d k v H1 s1 r1 => ?_⟩
  cases e : f d with
  | ok d' => rw [e] at k; exact hf (ok.same s1) r1 e fun v' H' s r => k v' H' (s1.trans s) r
  | exc z => exact absurd e (hx d z)
  | bad => rw [e] at k; exact k.elim
theorem jo_cB {f : D → R D} (hc : Cal1O c X (.builtin id) f) (ha : JV c X Γ e m) (hg : Gl X x) (hm : X.mg x = none) (hv : bootBuiltins x = some (.builtin id)) (hn : x ≠ "__name__" := by decide) (hdb : (x == ("__debug__" : Str)) = false := by decide)
    (he : starEach [e] X.env = (false, eval e X.env) :: starEach [] X.env := by rfl) (hpl : (backTo pos (starEach [] X.env)).any (·.1) = false := by rfl) : JO c X Γ (.Call (.Name x p) [e] [] pos) (m.bind f) := by
  obtain ⟨r, hr, hf, hx⟩ := hc
  refine pe_imp (pe_callB hr hg hm hv (pa_cons ha pa_nil he) hn hdb he hpl) fun σ H Q ⟨O, ok, q⟩ => ⟨O, ok, q.bind.imp fun d k v H1 s1 r1 => ?_⟩
  cases e : f d with
  | ok d' => rw [e] at k; exact hf (ok.same s1) r1 e fun v' H' s n r => k v' H' (s1.trans s) (s1.free n) r
  | exc z => exact absurd e (hx d z)
  | bad => rw [e] at k; exact k.elim
theorem je_cT {f : D → R D} (hc : Cal1 c X (.type T) f) (ha : JV c X Γ e m) (hg : Gl X x) (hm : X.mg x = none) (hv : bootBuiltins x = some (.type T)) (hn : x ≠ "__name__" := by decide) (hdb : (x == ("__debug__" : Str)) = false := by decide)
    (he : starEach [e] X.env = (false, eval e X.env) :: starEach [] X.env := by rfl) (hpl : (backTo pos (starEach [] X.env)).any (·.1) = false := by rfl) : JE c X Γ (.Call (.Name x p) [e] [] pos) (m.bind f) := by
  obtain ⟨r, hr, hf, hx⟩ := hc
  refine pe_imp (pe_callTy hr hg hm hv (pa_cons ha pa_nil he) hn hdb he hpl) fun σ H Q ⟨O, ok, q⟩ => ⟨O, ok, q.bind.imp fun d k v H1 s1 r1 => ?_⟩
  cases e : f d with
  | ok d' => rw [e] at k; exact hf (ok.same s1) r1 e fun v' H' s r => k v' H' (s1.trans s) r
  | exc z => exact absurd e (hx d z)
  | bad => rw [e] at k; exact k.elim
theorem jo_cT {f : D → R D} (hc : Cal1O c X (.type T) f) (ha : JV c X Γ e m) (hg : Gl X x) (hm : X.mg x = none) (hv : bootBuiltins x = some (.type T)) (hn : x ≠ "__name__" := by decide) (hdb : (x == ("__debug__" : Str)) = false := by decide)
    (he : starEach [e] X.env = (false, eval e X.env) :: starEach [] X.env := by rfl) (hpl : (backTo pos (starEach [] X.env)).any (·.1) = false := by rfl) : JO c X Γ (.Call (.Name x p) [e] [] pos) (m.bind f) := by
  obtain ⟨r, hr, hf, hx⟩ := hc
  refine pe_imp (pe_callTy hr hg hm hv (pa_cons ha pa_nil he) hn hdb he hpl) fun σ H Q ⟨O, ok, q⟩ => ⟨O, ok, q.bind.imp fun d k v H1 s1 r1 => ?_⟩
  cases e : f d with
  | ok d' => rw [e] at k; exact hf (ok.same s1) r1 e fun v' H' s n r => k v' H' (s1.trans s) (s1.free n) r
  | exc z => exact absurd e (hx d z)
  | bad => rw [e] at k; exact k.elim

/-! ### len -/
def dLen : D → R D
  | .tup ds => .ok (.int ds.length)
  | .lst ds => .ok (.int ds.length)
  | .dct kvs => .ok (.int kvs.length)
  | .str x => if x.length ≤ sizeLine then .ok (.int x.length) else .bad
  | _ => .bad
theorem call_lenR : CallR X (.builtin "len") (fun xs H Q => ∃ a kvs, xs = [V.ref a] ∧ Rd H a (.dK kvs) ∧ Q (.int kvs.length) H) := by
  intro pins s σ H xs us Q I r q
  obtain ⟨a, kvs, ex, hd, q⟩ := q
  subst ex
  obtain ⟨u, eu, rx⟩ := vals1 r
  subst eu
  cases rx
  obtain ⟨z, lo, vs, rel, dd⟩ := dk_rd I.hok hd
  have hl := rel.length
  have hz := line63
  refine PySem.call_len_dict lo dd (by omega) ?_
  exact ⟨.int kvs.length, H, I.tok _, ⟨s.toks + 1, by rw [hl]⟩, q⟩
theorem c_len (S : Cok c X) : Cal1 c X (.builtin "len") dLen := by
  refine ⟨_, (call_len_seq.or call_len_str).or call_lenR, fun {O Γ σ H v d d' Q} ok r e q => ?_, fun d e => by unfold dLen; split <;> (try split) <;> simp⟩
  unfold dLen at e
  split at e
  · cases e
    obtain ⟨a, vs, rfl, t, w⟩ := r.tup
    exact .inl (.inl ⟨a, vs, rfl, .inr (by rw [S.K]; exact t.sq), by rw [w.length]; exact q _ H (Same.refl H) Rp.int⟩)
  · cases e
    obtain ⟨a, vs, rfl, t, w⟩ := r
    exact .inl (.inl ⟨a, vs, rfl, .inl (.inl t), by rw [w.length]; exact q _ H (Same.refl H) Rp.int⟩)
  · cases e
    obtain ⟨a, vs, rfl, t, w⟩ := r
    exact .inr ⟨a, vs, rfl, t, by rw [(RpK.tab.mp w).length]; exact q _ H (Same.refl H) Rp.int⟩
  · split at e
    · cases e
      rename_i h
      exact .inl (.inr ⟨_, by rw [r.str.1], h, q _ H (Same.refl H) Rp.int⟩)
    · cases e
  · cases e

/-! ### int, abs -/
def dInt : D → R D
  | .int i => .ok (.int i)
  | .bl b => .ok (.int (if b then 1 else 0))
  | _ => .bad
theorem c_int : Cal1 c X (.type "int") dInt := by
  refine ⟨_, call_int1, fun {O Γ σ H v d d' Q} ok r e q => ?_, fun d e => by unfold dInt; split <;> simp⟩
  unfold dInt at e
  split at e
  · cases e; exact .inl ⟨_, by rw [r.int], q _ H (Same.refl H) Rp.int⟩
  · cases e; exact .inr ⟨_, by rw [r.bl], q _ H (Same.refl H) Rp.int⟩
  · cases e
def dAbs : D → R D
  | .int i => .ok (.int (if i < 0 then -i else i))
  | _ => .bad
theorem c_abs : Cal1 c X (.builtin "abs") dAbs := by
  refine ⟨_, call_abs, fun {O Γ σ H v d d' Q} ok r e q => ?_, fun d e => by unfold dAbs; split <;> simp⟩
  unfold dAbs at e
  split at e
  · cases e; exact ⟨_, by rw [r.int], q _ H (Same.refl H) Rp.int⟩
  · cases e

/-! ### tuple, list -/
def keysD (kvs : List (D × D)) : List D := kvs.map (·.1)
theorem RpK.keys {K : PySem.W.Frag} {mg : MG} {H : Hp} : ∀ {kvs : List (D × D)} {es : List (Key × V)}, RpK K mg H kvs es → RpL K mg H (keysD kvs) (es.map fun kv => kV kv.1)
  | [], es, h => by rw [RpK] at h; rw [h]; exact RpL.nil.mpr rfl
  | (k, d) :: r, es, h => by
    rw [RpK] at h
    obtain ⟨κ, v, s, e, hk, hv, h⟩ := h
    rw [e]
    refine RpL.cons.mpr ⟨kV κ, _, rfl, ?_, RpK.keys h⟩
    cases k with
    | int i => have : κ = .inl i := hk; rw [this]; exact Rp.int
    | str x => obtain ⟨q1, q2⟩ : κ = .inr x ∧ strOk x = true := hk; rw [q1]; exact Rp.str q2
    | _ => exact hk.elim
def dTuple : D → R D
  | .tup ds => .ok (.tup ds)
  | .lst ds => .ok (.tup ds)
  | .dct kvs => .ok (.tup (keysD kvs))
  | _ => .bad
/-- tuple(l): the new tuple's object is known -/
theorem call_tupleF : CallR X (.type "tuple") (fun xs H Q => ∃ p ys, xs = [.ref p] ∧ SqL X.K H p ys ∧ ∀ l o, H l = none → o.dict = none → Q (.ref l) (upd H l (.frz o (.tup ys)))) := by
  intro pins s σ H xs us Q I r h
  obtain ⟨p, ys, rfl, hq, q⟩ := h
  obtain ⟨u, rfl, rx⟩ := vals1 r
  cases rx
  obtain ⟨its, r', pl, hz⟩ := I.list hq
  have hlen := r'.length
  refine call_tuple_list pl.isList (fun h' kp => ?_) (by simp only [List.size_toArray] <;> omega)
  have I1 : Inv X pins σ H { s with heap := h' } := I.kept (t' := s.toks) kp
  exact ⟨.ref h'.objs.size, _, laid_tup (t' := s.toks) (n := 0) I1 r' hz, rfl, q _ _ (I1.hok.fresh (Nat.le_refl _)) rfl⟩
theorem code_tuple_new_src {prog : Program} {w : World} {A : Around} {E : Value → Shared → Prop} {s : Shared} {T : String} {a d : Addr} {n : Nat} {P : Nat → Value → Prop} {OK : Heap → Prop} {Q₁ : Value → Shared → Prop}
    (S : PySem.W.KdlSrc prog w T a d n P OK) (hh : A.handled = none) (ok : OK s.heap) (hlen : n ≤ sizeLine)
    (h : ∀ (h' : Heap) (tk : Nat) (acc : Array Value), (∀ b o, s.heap.get? b = some o → h'.get? b = some o) → ItemsOf P acc n →
      Q₁ (.ref h'.objs.size) { s with heap := h'.push { cls := .type "tuple", data := .seq acc }, toks := tk }) :
    codeAny (model prog w) A (.call (.builtin "tuple.__new__") ⟨[.type "tuple", .ref a], []⟩) (wants Q₁ E) s := by
  refine codeAny_of_tree ?_
  show wpAny _ A.in1 (do checkBuiltinCall "tuple.__new__" ⟨[.type "tuple", .ref a], []⟩; again (.builtin "tuple.__new__" ⟨[.type "tuple", .ref a], []⟩)) _ _ s
  refine wpAny_bind (wpAny_of_eq (F.newCall_tuple_1 _) (wpAny_pure ⟨plainId_quiet F.plain_tuple_new _, codeAny_builtin F.entry_tuple_new ?_⟩))
  rw [Around.under_plainId F.plain_tuple_new _]
  have hsub := sub_tuple_self
  have hinit := init_tuple_lookup
  have hmh := madeHere_tuple
  have hTI := S.type s ok
  have hnt := S.notTuple
  have hnl := S.notList
  have hh1 : A.in1.handled = none := hh
  wp_walk using wpAny_typeOf hTI, PySem.W.kdu_collect (A := A.in1) S hh1 ok hlen
  intro h' tk acc hk hacc
  show wpAny _ _ (Builtin.Tuple.tupleExact acc.toList.toArray >>= fun v => ret v) _ _ _
  unfold Builtin.Tuple.tupleExact
  refine wpAny_bind (wpAny_newObj_type ?_ (by show acc.toList.toArray.size ≤ sizeLine; simp only [Array.toArray_toList]; rw [hacc.1]; exact hlen))
  refine wpAny_pure ?_
  rw [show acc.toList.toArray = acc by simp]
  exact h h' tk acc hk hacc
theorem call_tuple_src {prog : Program} {w : World} {A : Around} {E : Value → Shared → Prop} {s : Shared} {T : String} {a d : Addr} {n : Nat} {P : Nat → Value → Prop} {OK : Heap → Prop} {Q : Value → Shared → Prop}
    (S : PySem.W.KdlSrc prog w T a d n P OK) (hh : A.handled = none) (ok : OK s.heap) (hlen : n ≤ sizeLine)
    (hQ : ∀ (h' : Heap) (tk : Nat) (acc : Array Value), (∀ b o, s.heap.get? b = some o → h'.get? b = some o) → ItemsOf P acc n →
      Q (.ref h'.objs.size) { s with heap := h'.push { cls := .type "tuple", data := .seq acc }, toks := tk }) :
    wpAny (model prog w) A (call (.type "tuple") [.ref a]) Q E s := by
  refine callType_codes (Q₁ := fun obj s₁ => s₁.TypeIs obj "tuple" ∧ Q obj s₁) F.called_tuple (F.typeCall_tuple_1 _) F.entry_object_init
    (code_tuple_new_src (A := A.in1) S hh ok hlen fun h' tk acc hk hacc => ⟨⟨_, Heap.get?_push_size _ rfl, rfl⟩, hQ h' tk acc hk hacc⟩) fun obj s₁ h₁ => ?_
  exact ⟨h₁.1, F.args_object_init_2 obj _, object_init_meets F.called_tuple.init.lookup F.called_tuple.made (by decide) prog w A.in1 _ s₁ ⟨h₁.1, rfl, h₁.2⟩⟩
/-- the keys of a dict, as they are walked -/
theorem keys_walked {P : Program} {w : World} {kvs : List (Key × V)} {vs : List (Key × Value)} {acc : Array Value} (r : KV kvs vs)
    (h : ItemsOf (fun i v => ∃ k y, vs[i]? = some (k, y) ∧ (mixKind P w).is k v = true) acc vs.length) : Vals (kvs.map fun kv => kV kv.1) acc.toList := by
  refine vals_of_at (by have h1 := h.1; have h2 := r.length; simp only [List.length_map, Array.length_toList]; omega) fun j x w' h1 h2 => ?_
  obtain ⟨k, y, hky, hi⟩ := h.2 j w' (by rw [← Array.getElem?_toList]; exact h2)
  have e1 : (kvs.map (·.1))[j]? = some k := by rw [KV.keys r, List.getElem?_map, hky]; rfl
  have e2 : (kvs.map fun kv => kV kv.1)[j]? = some (kV k) := by
    have e3 : (kvs.map fun kv => kV kv.1) = (kvs.map (·.1)).map kV := by rw [List.map_map]; rfl
    rw [e3, List.getElem?_map, e1]; rfl
  rw [e2] at h1
  cases h1
  exact keyIs_rel hi
theorem call_tupleD (hc : X.calm = true) : CallR X (.type "tuple") (fun xs H Q => ∃ p kvs, xs = [.ref p] ∧ Rd H p (.dK kvs) ∧ ∀ l o, H l = none → o.dict = none → Q (.ref l) (upd H l (.frz o (.tup (kvs.map fun kv => kV kv.1))))) := by
  intro pins s σ H xs us Q I r h
  obtain ⟨p, kvs, rfl, hd, q⟩ := h
  obtain ⟨u, rfl, rx⟩ := vals1 r
  cases rx
  obtain ⟨z, lo, vs, rel, dd⟩ := dk_rd I.hok hd
  obtain ⟨ep, hat⟩ := dd.dictAt
  have hl : kvs.length = vs.length := rel.length
  refine call_tuple_src (PySem.W.kdl_dict (knd := mixKind X.prog X.w) (kvs := vs) (ep := ep) lo) (I.ok.hd hc) hat (by rw [← hl]; exact z) fun h' tk acc kp hacc => ?_
  have I1 : Inv X pins σ H { s with heap := h', toks := tk } := I.kept kp
  have hv := keys_walked rel hacc
  have := laid_tup (t' := tk) (n := 0) I1 hv (by rw [List.length_map]; exact z)
  simp only [Array.toArray_toList] at this
  exact ⟨.ref h'.objs.size, _, this, rfl, q _ _ (I1.hok.fresh (Nat.le_refl _)) rfl⟩
theorem c_tuple (S : Cok c X) : Cal1 c X (.type "tuple") dTuple := by
  refine ⟨_, (call_tupleT.or call_tupleF).or (call_tupleD S.calm), fun {O Γ σ H v d d' Q} ok r e q => ?_, fun d e => by unfold dTuple; split <;> simp⟩
  unfold dTuple at e
  split at e
  · cases e
    obtain ⟨a, vs, rfl, t, w⟩ := r.tup
    exact .inl (.inl ⟨a, vs, rfl, by rw [S.K]; exact t.sq, q _ H (Same.refl H) (Rp.tup t w)⟩)
  · cases e
    obtain ⟨a, vs, rfl, t, w⟩ := r
    exact .inl (.inr ⟨a, vs, rfl, .inl t, fun l o n d => q _ _ (same_new n) (Rp.newTup n d w)⟩)
  · cases e
    obtain ⟨a, vs, rfl, t, w⟩ := r
    exact .inr ⟨a, vs, rfl, t, fun l o n d => q _ _ (same_new n) (Rp.newTup n d w.keys)⟩
  · cases e
def dListOf : D → R D
  | .tup ds => .ok (.lst ds)
  | .lst ds => .ok (.lst ds)
  | .dct kvs => .ok (.lst (keysD kvs))
  | _ => .bad
theorem c_list (S : Cok c X) : Cal1O c X (.type "list") dListOf := by
  refine ⟨_, call_list_of.or (call_listD S.calm), fun {O Γ σ H v d d' Q} ok r e q => ?_, fun d e => by unfold dListOf; split <;> simp⟩
  unfold dListOf at e
  split at e
  · cases e
    obtain ⟨a, vs, rfl, t, w⟩ := r.tup
    exact .inl ⟨a, vs, rfl, .inr (by rw [S.K]; exact t.sq), fun l n => q _ _ (same_new n) n (own_new n w)⟩
  · cases e
    obtain ⟨a, vs, rfl, t, w⟩ := r
    exact .inl ⟨a, vs, rfl, .inl (.inl t), fun l n => q _ _ (same_new n) n (own_new n w)⟩
  · cases e
    obtain ⟨a, vs, rfl, t, w⟩ := r
    exact .inr ⟨a, vs, rfl, t, fun l n => q _ _ (same_new n) n (own_new n w.keys)⟩
  · cases e
end
end PD
end

section
/-! PD6: all, any, min, max, sum, isinstance, repr, d.get, xs.index, dict(..), sorted(..). -/
namespace PD
open PySem PySem.Spec L2
open PyProof.Rows hiding St
open PySem.PyData (strOk)

section
variable {c : DC} {X : Cx} {Γ : SEnv} {a b e : Expr} {es : List Expr} {m ma mb : R D} {pos p pos2 : Pos} {x : Str} {idn T : String}
variable {K : PySem.W.Frag} {mg : MG} {H : Hp}

/-! ### lists of truths, of ints -/
def D.boolsOf : List D → Option (List Bool)
  | [] => some []
  | .bl b :: r => (D.boolsOf r).map (b :: ·)
  | _ :: _ => none
def D.intsOf : List D → Option (List Int)
  | [] => some []
  | .int b :: r => (D.intsOf r).map (b :: ·)
  | _ :: _ => none
theorem RpL.bools : ∀ {ds : List D} {bs : List Bool} {vs : List V}, D.boolsOf ds = some bs → RpL K mg H ds vs → vs = bs.map V.bl
  | [], bs, vs, h, r => by cases h; rw [RpL.nil] at r; rw [r]; rfl
  | .bl b :: ds, bs, vs, h, r => by
    obtain ⟨bs', h1, rfl⟩ := Option.map_eq_some_iff.mp h
    rw [RpL.cons] at r
    obtain ⟨v, r', e, h2, r⟩ := r
    rw [Rp] at h2
    rw [e, h2, RpL.bools h1 r]; rfl
theorem RpL.intsV : ∀ {ds : List D} {bs : List Int} {vs : List V}, D.intsOf ds = some bs → RpL K mg H ds vs → vs = bs.map V.int
  | [], bs, vs, h, r => by cases h; rw [RpL.nil] at r; rw [r]; rfl
  | .int b :: ds, bs, vs, h, r => by
    obtain ⟨bs', h1, rfl⟩ := Option.map_eq_some_iff.mp h
    rw [RpL.cons] at r
    obtain ⟨v, r', e, h2, r⟩ := r
    rw [Rp] at h2
    rw [e, h2, RpL.intsV h1 r]; rfl
theorem D.boolsOf_map (bs : List Bool) : D.boolsOf (bs.map .bl) = some bs := by induction bs with
  | nil => rfl
  | cons b r ih => simp [D.boolsOf, ih]
theorem D.intsOf_map (bs : List Int) : D.intsOf (bs.map .int) = some bs := by induction bs with
  | nil => rfl
  | cons b r ih => simp [D.intsOf, ih]
def dAll : D → R D
  | .lst ds => match D.boolsOf ds with
    | some bs => .ok (.bl (bs.all id))
    | none => .bad
  | _ => .bad
def dAny : D → R D
  | .lst ds => match D.boolsOf ds with
    | some bs => .ok (.bl (bs.any id))
    | none => .bad
  | _ => .bad
theorem c_all (S : Cok c X) : Cal1 c X (.builtin "all") dAll := by
  refine ⟨_, cr_all S.calm, fun {O Γ σ H v d d' Q} ok r e q => ?_, fun d e => by unfold dAll; split <;> (try split) <;> simp⟩
  unfold dAll at e
  split at e
  · split at e
    · rename_i bs hb
      cases e
      obtain ⟨a, vs, rfl, t, w⟩ := r
      have := w.bools hb
      subst this
      exact ⟨a, bs, rfl, .inl t, q _ H (Same.refl H) Rp.bl⟩
    · cases e
  · cases e
theorem c_any (S : Cok c X) : Cal1 c X (.builtin "any") dAny := by
  refine ⟨_, cr_any S.calm, fun {O Γ σ H v d d' Q} ok r e q => ?_, fun d e => by unfold dAny; split <;> (try split) <;> simp⟩
  unfold dAny at e
  split at e
  · split at e
    · rename_i bs hb
      cases e
      obtain ⟨a, vs, rfl, t, w⟩ := r
      have := w.bools hb
      subst this
      exact ⟨a, bs, rfl, .inl t, q _ H (Same.refl H) Rp.bl⟩
    · cases e
  · cases e
def minI : List Int → Option Int
  | [] => none
  | x :: r => some (r.foldl min x)
def maxI : List Int → Option Int
  | [] => none
  | x :: r => some (r.foldl max x)
theorem foldl_min (r : List Int) : ∀ x : Int, (r.foldl min x = x ∨ r.foldl min x ∈ r) ∧ r.foldl min x ≤ x ∧ ∀ y ∈ r, r.foldl min x ≤ y := by
  induction r with
  | nil => intro x; simp
  | cons a r ih =>
    intro x
    obtain ⟨h1, h2, h3⟩ := ih (min x a)
    rw [List.foldl_cons]
    refine ⟨?_, by omega, fun y hy => ?_⟩
    · rcases h1 with h1 | h1
      · rw [h1]
        rcases Int.le_total x a with q | q
        · left; omega
        · right; rw [show min x a = a by omega]; exact List.mem_cons_self ..
      · right; exact List.mem_cons_of_mem _ h1
    · rcases List.mem_cons.mp hy with rfl | hy
      · omega
      · exact h3 y hy
theorem foldl_max (r : List Int) : ∀ x : Int, (r.foldl max x = x ∨ r.foldl max x ∈ r) ∧ x ≤ r.foldl max x ∧ ∀ y ∈ r, y ≤ r.foldl max x := by
  induction r with
  | nil => intro x; simp
  | cons a r ih =>
    intro x
    obtain ⟨h1, h2, h3⟩ := ih (max x a)
    rw [List.foldl_cons]
    refine ⟨?_, by omega, fun y hy => ?_⟩
    · rcases h1 with h1 | h1
      · rw [h1]
        rcases Int.le_total x a with q | q
        · right; rw [show max x a = a by omega]; exact List.mem_cons_self ..
        · left; omega
      · right; exact List.mem_cons_of_mem _ h1
    · rcases List.mem_cons.mp hy with rfl | hy
      · omega
      · exact h3 y hy
theorem minI_eq {ns : List Int} {m k : Int} (h : minI ns = some k) (h1 : m ∈ ns) (h2 : ∀ y ∈ ns, m ≤ y) : m = k := by
  cases ns with
  | nil => cases h
  | cons a r =>
    cases h
    obtain ⟨q1, q2, q3⟩ := foldl_min r a
    have hk : r.foldl min a ∈ a :: r := by
      rcases q1 with q1 | q1
      · rw [q1]; exact List.mem_cons_self ..
      · exact List.mem_cons_of_mem _ q1
    have := h2 _ hk
    rcases List.mem_cons.mp h1 with rfl | h1
    · omega
    · have := q3 _ h1; omega
theorem maxI_eq {ns : List Int} {m k : Int} (h : maxI ns = some k) (h1 : m ∈ ns) (h2 : ∀ y ∈ ns, y ≤ m) : m = k := by
  cases ns with
  | nil => cases h
  | cons a r =>
    cases h
    obtain ⟨q1, q2, q3⟩ := foldl_max r a
    have hk : r.foldl max a ∈ a :: r := by
      rcases q1 with q1 | q1
      · rw [q1]; exact List.mem_cons_self ..
      · exact List.mem_cons_of_mem _ q1
    have := h2 _ hk
    rcases List.mem_cons.mp h1 with rfl | h1
    · omega
    · have := q3 _ h1; omega
def dMin : D → R D
  | .lst ds => match D.intsOf ds with
    | some bs => (match minI bs with
      | some k => .ok (.int k)
      | none => .bad)
    | none => .bad
  | _ => .bad
def dMax : D → R D
  | .lst ds => match D.intsOf ds with
    | some bs => (match maxI bs with
      | some k => .ok (.int k)
      | none => .bad)
    | none => .bad
  | _ => .bad
def dSum : D → R D
  | .lst ds => match D.intsOf ds with
    | some bs => .ok (.int bs.sum)
    | none => .bad
  | _ => .bad
theorem c_min (S : Cok c X) : Cal1 c X (.builtin "min") dMin := by
  refine ⟨_, cr_min S.calm, fun {O Γ σ H v d d' Q} ok r e q => ?_, fun d e => by unfold dMin; split <;> (try split) <;> (try split) <;> simp⟩
  unfold dMin at e
  split at e
  · split at e
    · rename_i bs hb
      split at e
      · rename_i k hk
        cases e
        obtain ⟨a, vs, rfl, t, w⟩ := r
        have := w.intsV hb
        subst this
        refine ⟨a, bs, rfl, .inl t, ?_, fun m h1 h2 => by rw [minI_eq hk h1 h2]; exact q _ H (Same.refl H) Rp.int⟩
        cases bs with
        | nil => cases hk
        | cons _ _ => simp
      · cases e
    · cases e
  · cases e
theorem c_max (S : Cok c X) : Cal1 c X (.builtin "max") dMax := by
  refine ⟨_, cr_max S.calm, fun {O Γ σ H v d d' Q} ok r e q => ?_, fun d e => by unfold dMax; split <;> (try split) <;> (try split) <;> simp⟩
  unfold dMax at e
  split at e
  · split at e
    · rename_i bs hb
      split at e
      · rename_i k hk
        cases e
        obtain ⟨a, vs, rfl, t, w⟩ := r
        have := w.intsV hb
        subst this
        refine ⟨a, bs, rfl, .inl t, ?_, fun m h1 h2 => by rw [maxI_eq hk h1 h2]; exact q _ H (Same.refl H) Rp.int⟩
        cases bs with
        | nil => cases hk
        | cons _ _ => simp
      · cases e
    · cases e
  · cases e
theorem c_sum (S : Cok c X) : Cal1 c X (.builtin "sum") dSum := by
  refine ⟨_, cr_sum S.calm, fun {O Γ σ H v d d' Q} ok r e q => ?_, fun d e => by unfold dSum; split <;> (try split) <;> simp⟩
  unfold dSum at e
  split at e
  · split at e
    · rename_i bs hb
      cases e
      obtain ⟨a, vs, rfl, t, w⟩ := r
      have := w.intsV hb
      subst this
      exact ⟨a, bs, rfl, .inl t, q _ H (Same.refl H) Rp.int⟩
    · cases e
  · cases e

/-! ### isinstance(x, T) -/
def D.ty : D → Option String
  | .non => some "NoneType"
  | .bl _ => some "bool"
  | .int _ => some "int"
  | .str _ => some "str"
  | .tup _ => some "tuple"
  | .lst _ => some "list"
  | .dct _ => some "dict"
  | _ => none
/-- the built-in types that are asked for -/
inductive Ty where
  | int | bool | str | tuple | list | dict
def Ty.name : Ty → String
  | .int => "int"
  | .bool => "bool"
  | .str => "str"
  | .tuple => "tuple"
  | .list => "list"
  | .dict => "dict"
def isTy : Ty → D → Option Bool
  | .int, .int _ => some true
  | .int, .bl _ => some true
  | .bool, .bl _ => some true
  | .str, .str _ => some true
  | .tuple, .tup _ => some true
  | .list, .lst _ => some true
  | .dict, .dct _ => some true
  | _, .dctT _ => none
  | _, .fn _ => none
  | _, .scr _ => none
  | _, _ => some false
def dIsI (T : Ty) (d : D) : R D := match isTy T d with
  | some b => .ok (.bl b)
  | none => .bad
theorem isTy_ok {T : Ty} {d : D} {b : Bool} (h : isTy T d = some b) : ∃ t, d.ty = some t ∧ kitB t T.name = some b := by
  cases T <;> cases d <;> simp only [isTy] at h <;> first | (cases h; exact ⟨_, rfl, by decide +kernel⟩) | cases h
theorem Vw.tyX {d : D} {v : V} {t : String} (h : Vw K mg H d v) (e : d.ty = some t) : TyX K H v (.type t) := by
  cases d with
  | non => cases e; rw [h.non]; exact .base .non
  | bl b => cases e; rw [h.bl]; exact .base (.bl b)
  | int b => cases e; rw [h.int]; exact .base (.int b)
  | str b => cases e; rw [h.str.1]; exact .base (.str b)
  | tup ds =>
    cases e
    obtain ⟨a, vs, rfl, t, w⟩ := h.tup
    rcases t with ⟨o, t, _⟩ | ⟨o, its, n, t, c, _⟩
    · exact .fTuple t
    · exact .kTuple t c
  | lst ds =>
    cases e
    obtain ⟨a, vs, rfl, t, w⟩ := h
    rcases t with t | ⟨o, t⟩
    · exact .base (.lst t)
    · exact .base (.frz t)
  | dct ds =>
    cases e
    obtain ⟨a, vs, rfl, t, w⟩ := h
    rcases t with t | ⟨o, t⟩
    · exact .base (.dK t)
    · exact .fDict t
  | dctT _ => cases e
  | fn _ => cases e
  | scr _ => cases e
theorem je_isi (S : Cok c X) {T : Str} {n : Ty} {p3 : Pos} (ha : JV c X Γ e m) (hg : Gl X "isinstance") (hm : X.mg "isinstance" = none) (hg2 : Gl X T) (hm2 : X.mg T = none) (hT : bootBuiltins T = some (.type n.name))
    (he : starEach [e, .Name T p3] X.env = (false, eval e X.env) :: starEach [.Name T p3] X.env := by rfl) (he2 : starEach [.Name T p3] X.env = (false, eval (.Name T p3) X.env) :: starEach [] X.env := by rfl)
    (hpl : (backTo pos (starEach [.Name T p3] X.env)).any (·.1) = false := by rfl) (hn : T ≠ "__name__" := by decide) (hdb : (T == ("__debug__" : Str)) = false := by decide) :
    JE c X Γ (.Call (.Name "isinstance" p) [e, .Name T p3] [] pos) (m.bind (dIsI n)) := by
  refine pe_imp (pe_callB call_isi hg hm boot_isinstance (pa_cons ha (pa_cons (pe_bltn (v := .ty n.name) hg2 hm2 hT rfl hn hdb) pa_nil he2) he) (by decide) (by decide) he hpl) fun σ H Q ⟨O, ok, q⟩ => ⟨O, ok, q.bind.imp fun d k v H1 s1 r1 => ?_⟩
  unfold dIsI at k
  split at k
  · rename_i b hb
    obtain ⟨t, ht, hb⟩ := isTy_ok hb
    exact ⟨v, .ty n.name, .type t, .type n.name, b, rfl, .ty n.name, by rw [S.K]; exact r1.tyX ht, kit_ty hb, k _ H1 s1 Rp.bl⟩
  · exact k.elim
end
end PD
end

section
/-! PD7: repr, xs.index, d.get. -/
namespace PD
open PySem PySem.Spec L2
open PyProof.Rows hiding St
open PySem.PyData (strOk)

section
variable {c : DC} {X : Cx} {Γ : SEnv} {a b e o : Expr} {es : List Expr} {m ma mb mo : R D} {pos p pos2 p1 p2 apos cpos : Pos} {x : Str} {idn T : String}
variable {K : PySem.W.Frag} {mg : MG} {H : Hp}

/-! ### repr(a) == repr(b) -/
def D.shows (d : D) : Bool := d.pl 60 && d.py.showable && decide (d.py.shown.length ≤ sizeLine)
def dShown (x : D) : R Str := if x.shows = true then .ok x.py.shown else .bad
def rRepr (K : PySem.W.Frag) : List V → Hp → VK → Prop := fun vs H Q => ∃ v d, vs = [v] ∧ Dp K H v d ∧ SeqAt.shaped d = true ∧ d.showable = true ∧ d.shown.length ≤ sizeLine ∧ Q (.str d.shown) H
theorem call_reprD (S : Cok c X) : CallR X (.builtin "repr") (rRepr X.K) := by
  intro pins s σ H vs us Q I r h
  obtain ⟨v, d, rfl, hd, sh, hs, hz, q⟩ := h
  obtain ⟨u, rfl, rx⟩ := vals1 r
  obtain ⟨as, r1⟩ := Dp.reads I d v u hd rx
  have hnd : d.hasDict = false := PyData.hasDict_of_canLay d (SeqAt.canLay_of_shaped sh)
  have hdep : d.depth ≤ 64 := by
    unfold SeqAt.shaped at sh
    rw [Bool.and_eq_true] at sh
    have := of_decide_eq_true sh.2
    omega
  have hu := S.un
  have big : ∀ w, u = .ref w → wpAny (model X.prog X.w) X.A (call (.builtin "repr") [u]) (EP X pins σ Q) X.xe s := fun w e => by
    subst e
    exact repr_of_reads' r1 hs (PyData.noDict_hsm hnd) S.gd (by omega) (fun _ _ e => e) (fun h' u tk hk => ⟨.str d.shown, H, I.kept hk, ⟨_, rfl⟩, q⟩) hz
  cases hd with
  | non =>
    cases (show u = Value.none from rx)
    exact PySem.P.repr_of_none ⟨.str _, H, I.tok _, ⟨_, rfl⟩, by simpa only [PyData.shown] using q⟩
  | bl y =>
    cases (show u = Value.bool y from rx)
    exact PySem.P.repr_of_bool ⟨.str _, H, I.tok _, ⟨_, rfl⟩, by simpa only [PyData.shown] using q⟩
  | int i =>
    obtain ⟨t, rfl⟩ := (show ∃ t, u = Value.int i t from rx)
    exact PySem.P.repr_of_int (by simpa only [PyData.showable, decide_eq_true_eq] using hs) ⟨.str _, H, I.tok _, ⟨_, rfl⟩, by simpa only [PyData.shown] using q⟩
  | str y =>
    obtain ⟨t, rfl⟩ := (show ∃ t, u = Value.str y t from rx)
    exact PySem.P.repr_of_str ⟨.str _, H, I.tok _, ⟨_, rfl⟩, by simpa only [PyData.shown] using q⟩ (by simpa only [PyData.shown] using hz)
  | lst _ _ => exact big _ rx
  | tup _ _ => exact big _ rx
theorem str_beq {i j : Str} : (i == j) = decide (i = j) := by
  by_cases h : i = j
  · rw [decide_eq_true h, h]; exact beq_self_eq_true j
  · rw [decide_eq_false h]; exact beq_eq_false_iff_ne.mpr h
theorem je_reprEq (S : Cok c X) (ha : JV c X Γ a ma) (hb : JV c X Γ b mb) (hg : Gl X "repr") (hm : X.mg "repr" = none)
    (he : starEach [a] X.env = (false, eval a X.env) :: starEach [] X.env := by rfl) (he2 : starEach [b] X.env = (false, eval b X.env) :: starEach [] X.env := by rfl)
    (hpl : (backTo p1 (starEach [] X.env)).any (·.1) = false := by rfl) (hpl2 : (backTo p2 (starEach [] X.env)).any (·.1) = false := by rfl)
    (hmk : behindInMarks .Eq (.Call (.Name "repr" p) [b] [] p2) = false := by first | exact nomark _ | rfl) :
    JE c X Γ (.Compare (.Call (.Name "repr" pos2) [a] [] p1) [.Eq] [.Call (.Name "repr" p) [b] [] p2] pos) ((ma.bind fun x => (dShown x).bind fun s => mb.bind fun y => (dShown y).bind fun t => .ok (decide (s = t))).bind fun t => .ok (.bl t)) := by
  refine pe_imp (pe_cmpR op_eq (pe_callB (call_reprD S) hg hm boot_repr (pa_cons ha pa_nil he) (by decide) (by decide) he hpl) (pe_callB (call_reprD S) hg hm boot_repr (pa_cons hb pa_nil he2) (by decide) (by decide) he2 hpl2) hmk)
    fun σ H Q ⟨O, ok, q⟩ => ⟨O, ok, q.bind.bind.imp fun dx k x H1 s1 r1 => ?_⟩
  have f : ∀ {z : D} {v : V} {H1 : Hp}, z.shows = true → Vw c.K c.mg H1 z v → ∀ {Q : VK}, Q (.str z.py.shown) H1 → rRepr X.K [v] H1 Q := fun {z v H1} h r Q q => by
    unfold D.shows at h
    rw [Bool.and_eq_true, Bool.and_eq_true] at h
    exact ⟨v, z.py, rfl, by rw [S.K]; exact r.dp h.1.1, r.shaped h.1.1, h.1.2, of_decide_eq_true h.2, q⟩
  unfold dShown at k
  split at k
  · rename_i hx
    rw [R.bind_ok] at k
    show rRepr X.K [x] H1 (fun x H1 => tCB (rRepr X.K) (tCons (tV c Γ mb) tNil) σ H1 fun y H2 => rEq x y H2 Q)
    refine f hx r1 ?_
    refine ⟨O, ok.same s1, (show RE mb _ _ from RE.bind k).imp fun dy k2 y H2 s2 r2 => ?_⟩
    split at k2
    · rename_i hy
      show rRepr X.K [y] H2 (fun y H2 => rEq (.str dx.py.shown) y H2 Q)
      refine f hy r2 ?_
      refine ⟨rfl, ?_⟩
      rw [dec_str, str_beq]
      rw [R.bind_ok] at k2
      exact k2 _ H2 (s1.trans s2) Rp.bl
    · rw [R.bind_bad] at k2; exact k2.elim
  · rw [R.bind_bad] at k; exact k.elim

/-! ### methods of any object -/
/-- the value is of type T, in a heap -/
def okT (K : PySem.W.Frag) (mg : MG) (T : String) (x : V) (H : Hp) : Prop := ∃ d, Vw K mg H d x ∧ d.ty = some T
theorem okT.is {pins : List (Addr × Obj)} {σ : St} {H : Hp} {s : Shared} {x : V} {v : Value} (I : Inv X pins σ H s) (r : RelV x v) (ty : okT X.K mg T x H) :
    s.TypeIs v T ∧ ∀ a, v = .ref a → ∃ ob, s.heap.get? a = some ob ∧ ob.dict = none := by
  obtain ⟨d, h, e⟩ := ty
  cases d with
  | non =>
    cases e; rw [h.non] at r
    cases (show v = Value.none from r)
    exact ⟨typeIs_none s, fun _ e => nomatch e⟩
  | bl b =>
    cases e; rw [h.bl] at r
    cases (show v = Value.bool b from r)
    exact ⟨PySem.typeIs_bool s b, fun _ e => nomatch e⟩
  | int b =>
    cases e; rw [h.int] at r
    obtain ⟨t, rfl⟩ := r
    exact ⟨typeIs_int s b t, fun _ e => nomatch e⟩
  | str b =>
    cases e; rw [h.str.1] at r
    obtain ⟨t, rfl⟩ := r
    exact ⟨typeIs_str s b t, fun _ e => nomatch e⟩
  | tup ds =>
    cases e
    obtain ⟨a, vs, rfl, t, w⟩ := h.tup
    cases r
    rcases t with ⟨o, t, dn⟩ | ⟨o, its, n, t, cl, dn, _⟩
    · obtain ⟨e, _, its, _, o', e', cl, _⟩ := (show ObjOk X.prog X.w H s.heap a (.frz o (.tup vs)) from I.hok a _ t)
      rw [e] at e'; cases e'
      exact ⟨⟨o, e, cl⟩, fun b z => by cases z; exact ⟨o, e, dn⟩⟩
    · exact ⟨⟨o, I.kIn _ _ t, cl⟩, fun b z => by cases z; exact ⟨o, I.kIn _ _ t, dn⟩⟩
  | lst ds =>
    cases e
    obtain ⟨a, vs, rfl, t, w⟩ := h
    cases r
    obtain ⟨_, its, n, _, e⟩ := (show ObjOk X.prog X.w H s.heap a (.lst vs) from t.ok I.hok)
    exact ⟨⟨_, e, rfl⟩, fun b z => by cases z; exact ⟨_, e, rfl⟩⟩
  | dct kvs =>
    cases e
    obtain ⟨a, es, rfl, t, w⟩ := h
    cases r
    obtain ⟨_, _, vs, _, o, _, _, e, ex, _⟩ := dk_rd I.hok t
    exact ⟨⟨o, e, ex.1⟩, fun b z => by cases z; exact ⟨o, e, ex.2.1⟩⟩
  | dctT _ => cases e
  | fn _ => cases e
  | scr _ => cases e
def tBG (K : PySem.W.Frag) (mg : MG) (T : String) (r : V → List V → Hp → VK → Prop) (to : TE) (t : TA) : TE := fun σ H Q => to σ H fun x H1 => okT K mg T x H1 ∧ t σ H1 fun xs H2 => r x xs H2 Q
theorem pe_bg {name : Str} {r : V → List V → Hp → VK → Prop} {to : TE} {t : TA} (pa : PlainAttrs T) (slot : PySem.Slot T name idn) (hty : typeOf (.builtin idn) = pure (.type "method_descriptor")) (hm : MtR X idn r) (ho : PE X o to) (ha : PA X (e :: es) t)
    (hbase : attributeBase o name X.env (eval o X.env) = eval o X.env := by rfl)
    (hfew : ((backTo cpos (starEach (e :: es) X.env)).all (fun x => !x.1) && (backToKw cpos (keywordEach [] X.env)).all (fun x => x.1.isSome)
      && decide ((e :: es).length + ([] : List Keyword).length + (if ([] : List Keyword).isEmpty then 0 else 1) < 30)) = true := by rfl)
    (hline : (apos.endLine == cpos.line) = true := by rfl) (hs : starEach (e :: es) X.env = (false, eval e X.env) :: starEach es X.env := by rfl) (hplain : (backTo cpos (starEach es X.env)).any (·.1) = false := by rfl) :
    PE X (.Call (.Attribute o name apos) (e :: es) [] cpos) (tBG X.K mg T r to t) := by
  refine ⟨fun pins s σ H Q I h => ?_⟩
  refine wpAny_Call_method_late hbase hfew hline rfl (thn (ho.run pins s σ H _ I h) fun v s1 ⟨x, H1, I1, r1, ty, q1⟩ => ?_)
  obtain ⟨h1, h2⟩ := ty.is I1 r1
  refine ⟨T, idn, pa, slot, hty, h1, h2, ?_⟩
  have hA := ha.run cpos pins s1 σ H1 _ I1 q1
  rw [hs] at hA ⊢
  refine Calls.callWith_builtin (by show (false || (backTo cpos (starEach es X.env)).any (·.1)) = false; rw [hplain] <;> rfl) (Calls.evalArgs_plain ?_)
  exact thn hA fun us s2 ⟨vs, H2, I2, r2, q2⟩ => hm pins s2 σ H2 x vs v us Q I2 r1 r2 q2
def tBG0 (K : PySem.W.Frag) (mg : MG) (T : String) (r : V → List V → Hp → VK → Prop) (to : TE) : TE := fun σ H Q => to σ H fun x H1 => okT K mg T x H1 ∧ r x [] H1 Q
theorem pe_bg0 {name : Str} {r : V → List V → Hp → VK → Prop} {to : TE} (pa : PlainAttrs T) (slot : PySem.Slot T name idn) (hty : typeOf (.builtin idn) = pure (.type "method_descriptor")) (hm : MtR X idn r) (ho : PE X o to)
    (hbase : attributeBase o name X.env (eval o X.env) = eval o X.env := by rfl) (hline : (apos.endLine == cpos.line) = true := by rfl) : PE X (.Call (.Attribute o name apos) [] [] cpos) (tBG0 X.K mg T r to) := by
  refine ⟨fun pins s σ H Q I h => ?_⟩
  refine wpAny_Call_method0_late hbase hline (thn (ho.run pins s σ H _ I h) fun v s1 ⟨x, H1, I1, r1, ty, q1⟩ => ?_)
  obtain ⟨h1, h2⟩ := ty.is I1 r1
  exact ⟨T, idn, pa, slot, hty, h1, h2, Calls.callWith_builtin rfl (PySem.evalArgs_none (hm pins s1 σ H1 x [] v [] Q I1 r1 .nil q1))⟩

/-! ### xs.index(x) -/
def dIndexL (ds : List D) (x : D) : R D := if D.plL ds 59 = true ∧ x.pl 60 = true then (match ds.findIdx? (fun z => z.eqv x) with
  | some j => .ok (.int (j : Nat))
  | none => .bad) else .bad
def dIndex : D → D → R D
  | .lst ds, x => dIndexL ds x
  | .tup ds, x => dIndexL ds x
  | _, _ => .bad
/-- t.index(x): the first place of an equal one -/
def rIndexT (K : PySem.W.Frag) : V → List V → Hp → VK → Prop := fun x xs H Q => ∃ (a : Addr) (y : V) (d : PyData) (ds : List PyData) (j : Nat) (z : PyData), x = V.ref a ∧ xs = [y] ∧ Dp K H (V.ref a) (.tuple ds) ∧ Dp K H y d ∧
  SeqAt.shaped (.tuple ds) = true ∧ SeqAt.shaped d = true ∧ ds[j]? = some z ∧ PyData.eqv z d = true ∧ (∀ (m : Nat) (z' : PyData), m < j → ds[m]? = some z' → PyData.eqv z' d = false) ∧ Q (.int (j : Nat)) H
theorem mt_indexT (hu : X.A.units + 65 < cLine) : MtR X "tuple.index" (rIndexT X.K) := by
  intro pins s σ H x xs v us Q I rx rxs h
  obtain ⟨a, y, d, ds, j, z, rfl, rfl, hl, hy, sl, sd, hz, hzj, hno, q⟩ := h
  cases rx
  obtain ⟨uy, rfl, ry⟩ := rxs.one
  obtain ⟨bs, r1⟩ := Dp.reads I d y uy hy ry
  have hxs : PyData.canLayAll0 ds = true := SeqAt.canLay_of_shaped sl
  have hroom : X.A.units + 1 + min (PyData.depthAll ds) d.depth < cLine := room_tup sd hu
  cases hl with
  | tup hs ha =>
    obtain ⟨its, rv, ⟨⟨cls, dd, data, sls⟩, ho, hc, n, hdt⟩, hlen⟩ := I.tuple hs
    simp only at hc hdt
    subst hc hdt
    obtain ⟨as, h4⟩ := Dp.readsAll I ds _ its ha rv
    have hn : its.length = ds.length := SeqAt.ReadsAll.length ds its as h4
    have hmap : its.map (SeqAt.readOf s.heap) = ds := SeqAt.readsAll_map ds its as hxs h4
    obtain ⟨hjd, _⟩ := List.getElem?_eq_some_iff.mp hz
    have hj : j < its.toArray.size := by simp; omega
    have at_ : ∀ (m : Nat) (hm : m < its.toArray.size) (z' : PyData), ds[m]? = some z' → SeqAt.readOf s.heap its.toArray[m] = z' := by
      intro m hm z' hz'
      have hml : m < its.length := by simpa using hm
      rw [← hmap, List.getElem?_map, List.getElem?_eq_getElem hml] at hz'
      have e1 : SeqAt.readOf s.heap its[m] = z' := Option.some.inj (show some (SeqAt.readOf s.heap its[m]) = some z' from hz')
      simpa using e1
    refine call_meets PySem.F.slot_tuple_index ⟨_, ho, rfl⟩ PySem.F.entry_tuple_index (PySem.F.args_tuple_index_2 _ _)
      (TI.tuple_indexAt a its.toArray n dd sls uy (fun u => PyData.eqv (SeqAt.readOf s.heap u) d) j hj ?_ ?_) ⟨ho, SeqAt.items_eqAt (vs := its.toArray) (show ReadsAll s.heap its.toArray.toList ds as from h4) r1 hxs (SeqAt.canLay_of_shaped sd) hroom, ?_⟩
    · show PyData.eqv (SeqAt.readOf s.heap its.toArray[j]) d = true
      rw [at_ j hj z hz]
      exact hzj
    · intro m hm hmj
      have hmd : m < ds.length := by omega
      have hz' : ds[m]? = some ds[m] := List.getElem?_eq_getElem hmd
      show PyData.eqv (SeqAt.readOf s.heap its.toArray[m]) d = false
      rw [at_ m hm _ hz']
      exact hno m _ hmj hz'
    · exact ⟨.int (j : Nat), H, I.tok _, ⟨_, rfl⟩, q⟩
theorem pyL_get (ds : List D) (j : Nat) : (D.pyL ds)[j]? = ds[j]?.map D.py := by
  induction ds generalizing j with
  | nil => simp [D.pyL]
  | cons d r ih => cases j with
    | zero => simp [D.pyL]
    | succ j => simp [D.pyL, ih]
theorem findIdx_some {ds : List D} {f : D → Bool} {j : Nat} (h : ds.findIdx? f = some j) : ∃ z, ds[j]? = some z ∧ f z = true ∧ ∀ (m : Nat) z', m < j → ds[m]? = some z' → f z' = false := by
  rw [List.findIdx?_eq_some_iff_getElem] at h
  obtain ⟨hj, h1, h2⟩ := h
  refine ⟨ds[j], by simp [hj], h1, fun m z' hm e => ?_⟩
  obtain ⟨hl, e⟩ := List.getElem?_eq_some_iff.mp e
  have := h2 m hm
  rw [e] at this
  simpa using this
def dSeq : D → R (List D)
  | .lst ds => .ok ds
  | .tup ds => .ok ds
  | _ => .bad
theorem je_index (S : Cok c X) (ho : JV c X Γ o mo) (ha : JE c X Γ e m)
    (hbase : attributeBase o "index" X.env (eval o X.env) = eval o X.env := by rfl)
    (hfew : ((backTo cpos (starEach [e] X.env)).all (fun x => !x.1) && (backToKw cpos (keywordEach [] X.env)).all (fun x => x.1.isSome)
      && decide ([e].length + ([] : List Keyword).length + (if ([] : List Keyword).isEmpty then 0 else 1) < 30)) = true := by rfl)
    (hline : (apos.endLine == cpos.line) = true := by rfl) (hs : starEach [e] X.env = (false, eval e X.env) :: starEach [] X.env := by rfl) (hplain : (backTo cpos (starEach [] X.env)).any (·.1) = false := by rfl) :
    JE c X Γ (.Call (.Attribute o "index" apos) [e] [] cpos) (mo.bind fun x => (dSeq x).bind fun ds => m.bind fun y => dIndexL ds y) := by
  refine ⟨fun pins s σ H Q I ⟨O, ok, q⟩ => ?_⟩
  have hu := S.un
  refine wpAny_Call_method_late hbase hfew hline rfl (thn (ho.run pins s σ H (fun x H1 => Same H H1 ∧ ∃ d, Vw c.K c.mg H1 d x ∧ RE ((dSeq d).bind fun ds => m.bind fun y => dIndexL ds y) (fun d => ∀ v H', Same H H' → Rp c.K c.mg H' d v → Q v H') (fun e => c.E e Γ)) I ⟨O, ok, q.bind.imp fun d k v H1 s1 r1 => ⟨s1, d, r1, k⟩⟩) fun v t1 ⟨x, H1, I1, rx, s1, d, r1, k⟩ => ?_)
  have pick : ∃ (T idn : String) (ds : List D) (r : V → List V → Hp → VK → Prop), d.ty = some T ∧ dSeq d = .ok ds ∧ PlainAttrs T ∧ PySem.Slot T "index" idn ∧ typeOf (.builtin idn) = pure (.type "method_descriptor") ∧ MtR X idn r ∧
      (∀ y vy j H2 Q, Same H1 H2 → Vw c.K c.mg H2 d x → Rp c.K c.mg H2 y vy → D.plL ds 59 = true → y.pl 60 = true → ds.findIdx? (fun z => z.eqv y) = some j → Q (.int (j : Nat)) H2 → r x [vy] H2 Q) := by
    cases d with
    | lst ds =>
      refine ⟨"list", "list.index", ds, _, rfl, rfl, PySem.F.plainAttrs_list, PySem.F.slot_list_index, PySem.F.type_list_index, mt_indexD (by omega), fun y vy j H2 Q s2 rx ry h1 h2 hj q => ?_⟩
      have hp : (D.lst ds).pl 60 = true := by rw [D.pl]; exact h1
      obtain ⟨z, e1, e2, e3⟩ := findIdx_some hj
      obtain ⟨a, vs, ea, t, w⟩ := id rx
      subst ea
      have hd := rx.dp hp
      rw [D.py] at hd
      refine ⟨a, vy, y.py, D.pyL ds, j, z.py, rfl, rfl, by rw [S.K]; exact hd, by rw [S.K]; exact Rp.dp y 60 vy h2 ry, by have := rx.shaped hp; rwa [D.py] at this, (Vw.of ry).shaped h2, by rw [pyL_get, e1]; rfl, by rw [D.eqv_py]; exact e2, fun m z' hm hz => ?_, q⟩
      rw [pyL_get] at hz
      obtain ⟨z0, hz0, rfl⟩ := Option.map_eq_some_iff.mp hz
      rw [D.eqv_py]
      exact e3 m z0 hm hz0
    | tup ds =>
      refine ⟨"tuple", "tuple.index", ds, _, rfl, rfl, PySem.F.plainAttrs_tuple, PySem.F.slot_tuple_index, PySem.F.type_tuple_index, mt_indexT (by omega), fun y vy j H2 Q s2 rx ry h1 h2 hj q => ?_⟩
      have hp : (D.tup ds).pl 60 = true := by rw [D.pl]; exact h1
      obtain ⟨z, e1, e2, e3⟩ := findIdx_some hj
      obtain ⟨a, vs, ea, t, w⟩ := Vw.tup rx
      subst ea
      have hd := rx.dp hp
      rw [D.py] at hd
      refine ⟨a, vy, y.py, D.pyL ds, j, z.py, rfl, rfl, by rw [S.K]; exact hd, by rw [S.K]; exact Rp.dp y 60 vy h2 ry, by have := rx.shaped hp; rwa [D.py] at this, (Vw.of ry).shaped h2, by rw [pyL_get, e1]; rfl, by rw [D.eqv_py]; exact e2, fun m z' hm hz => ?_, q⟩
      rw [pyL_get] at hz
      obtain ⟨z0, hz0, rfl⟩ := Option.map_eq_some_iff.mp hz
      rw [D.eqv_py]
      exact e3 m z0 hm hz0
    | _ => exact (show False from k.bind).elim
  obtain ⟨T, idn, ds, r, hT, hds, pa, slot, hty, hm, hr⟩ := pick
  obtain ⟨h1, h2⟩ := okT.is (mg := c.mg) I1 rx ⟨d, by rw [S.K]; exact r1, hT⟩
  refine ⟨T, idn, pa, slot, hty, h1, h2, ?_⟩
  rw [hds, R.bind_ok] at k
  have hA := ((pa_cons ha pa_nil hs).run cpos pins t1 σ H1 (fun vs H2 => ∃ vy, vs = [vy] ∧ Same H1 H2 ∧ ∃ y, Rp c.K c.mg H2 y vy ∧ RE (dIndexL ds y) (fun d => ∀ v H', Same H H' → Rp c.K c.mg H' d v → Q v H') (fun e => c.E e Γ)) I1
    ⟨O, ok.same s1, (show RE m _ _ from RE.bind k).imp fun y k2 vy H2 s2 r2 => ⟨vy, rfl, s2, y, r2, k2⟩⟩)
  rw [hs] at hA ⊢
  refine Calls.callWith_builtin (by show (false || (backTo cpos (starEach [] X.env)).any (·.1)) = false; rw [hplain] <;> rfl) (Calls.evalArgs_plain ?_)
  refine thn hA fun us t2 ⟨vs, H2, I2, rv, vy, evs, s2, y, ry, k2⟩ => ?_
  subst evs
  unfold dIndexL at k2
  split at k2
  · rename_i hp
    split at k2
    · rename_i j hj
      exact hm pins _ σ H2 x [vy] v us Q I2 rx rv (hr y vy j H2 Q s2 (r1.same s2) ry hp.1 hp.2 hj (k2 _ H2 (s1.trans s2) Rp.int))
    · exact k2.elim
  · exact k2.elim
end
end PD
end

section
/-! PD8: d.get, dict(..). -/
namespace PD
open PySem PySem.Spec L2
open PyProof.Rows hiding St
open PySem.PyData (strOk)

section
variable {c : DC} {X : Cx} {Γ : SEnv} {a b e o : Expr} {es : List Expr} {m ma mb mo : R D} {pos p pos2 p1 p2 apos cpos : Pos} {x : Str} {idn T : String}
variable {K : PySem.W.Frag} {mg : MG} {H : Hp}

/-! ### d.get(k), d.get(k, x) -/
def dDct : D → R (List (D × D))
  | .dct kvs => .ok kvs
  | _ => .bad
def dGetK (kvs : List (D × D)) (k : D) : R (Option D) := if k.isK = true then .ok (dlook D.keq kvs k) else .bad
theorem je_get1 (S : Cok c X) (ho : JV c X Γ o mo) (ha : JE c X Γ e m) (hM : M1 X o "get" apos e cpos := by exact ⟨rfl, rfl, rfl, rfl⟩) :
    JE c X Γ (.Call (.Attribute o "get" apos) [e] [] cpos) (mo.bind fun x => (dDct x).bind fun kvs => m.bind fun k => (dGetK kvs k).bind fun r => .ok (r.getD .non)) := by
  refine pe_imp (pe_dget1 (by have := S.un; omega) ho ha hM) fun σ H Q ⟨O, ok, q⟩ => ⟨O, ok, q.bind.imp fun d k x H1 s1 r1 => ?_⟩
  cases d with
  | dct kvs =>
    obtain ⟨a, es, rfl, t, w⟩ := id r1
    have k := RE.okk k
    refine ⟨a, rfl, .inl ⟨es, t⟩, O, ok.same s1, (show RE m _ _ from RE.bind k).imp fun y k2 vy H2 s2 r2 => ?_⟩
    have r1' := r1.same s2
    unfold dGetK at k2
    split at k2
    · rename_i hk
      rw [R.bind_ok] at k2
      obtain ⟨a', ea, h⟩ := dget_of r1' (Vw.of r2) hk
      cases ea
      rcases h with ⟨e1, g⟩ | ⟨d, w, e1, g, rw'⟩
      · exact ⟨_, g, by rw [e1] at k2; exact k2 _ H2 (s1.trans s2) Rp.non⟩
      · exact ⟨_, g, by rw [e1] at k2; exact k2 _ H2 (s1.trans s2) rw'⟩
    · exact (RE.badd k2).elim
  | _ => exact (RE.badd k).elim
theorem je_get2 (S : Cok c X) {f : Expr} {mf : R D} (ho : JV c X Γ o mo) (ha : JE c X Γ e m) (hf : JE c X Γ f mf) (hM : M2 X o "get" apos e f cpos := by exact ⟨rfl, rfl, rfl, rfl⟩) :
    JE c X Γ (.Call (.Attribute o "get" apos) [e, f] [] cpos) (mo.bind fun x => (dDct x).bind fun kvs => m.bind fun k => mf.bind fun z => (dGetK kvs k).bind fun r => .ok (r.getD z)) := by
  refine pe_imp (pe_dget2 (by have := S.un; omega) ho ha hf hM) fun σ H Q ⟨O, ok, q⟩ => ⟨O, ok, q.bind.imp fun d k x H1 s1 r1 => ?_⟩
  cases d with
  | dct kvs =>
    obtain ⟨a, es, rfl, t, w⟩ := id r1
    have k := RE.okk k
    refine ⟨a, rfl, .inl ⟨es, t⟩, O, ok.same s1, (show RE m _ _ from RE.bind k).imp fun y k2 vy H2 s2 r2 => ⟨O, (ok.same s1).same s2, k2.bind.imp fun z k3 vz H3 s3 r3 => ?_⟩⟩
    have r1' := (r1.same s2).same s3
    unfold dGetK at k3
    split at k3
    · rename_i hk
      rw [R.bind_ok] at k3
      obtain ⟨a', ea, h⟩ := dget_of r1' (Vw.of (r2.same s3)) hk
      cases ea
      rcases h with ⟨e1, g⟩ | ⟨d, w, e1, g, rw'⟩
      · exact ⟨_, g, by rw [e1] at k3; exact k3 _ H3 ((s1.trans s2).trans s3) r3⟩
      · exact ⟨_, g, by rw [e1] at k3; exact k3 _ H3 ((s1.trans s2).trans s3) rw'⟩
    · exact (RE.badd k3).elim
  | _ => exact (RE.badd k).elim

/-! ### dict(xs): pairs, a dict -/
theorem TpT.plain {pins : List (Addr × Obj)} {σ : St} {s : Shared} {a : Addr} {vs : List V} (I : Inv X pins σ H s) (h : TpT X.K H a vs) : vs.length ≤ sizeLine ∧ ∃ its : List Value, Vals vs its ∧ PySem.PlainSeq "tuple" s.heap a its.toArray := by
  rcases h with ⟨o, h, dn⟩ | ⟨o, its, n, hk, cl, dn, hd, hz, r⟩
  · obtain ⟨e, z, its, r, o', e', cl, n, hd⟩ := (show ObjOk X.prog X.w H s.heap a (.frz o (.tup vs)) from I.hok a _ h)
    rw [e] at e'; cases e'
    exact ⟨z, its, r, o, n, e, cl, dn, hd⟩
  · refine ⟨by rw [r.length, Array.length_toList]; exact hz, its.toList, r, o, n, I.kIn _ _ hk, cl, dn, by rw [Array.toArray_toList]; exact hd⟩
theorem pairs_at {pins : List (Addr × Obj)} {σ : St} {s : Shared} (I : Inv X pins σ H s) : ∀ {ps : List Addr} {kvs : List (Key × V)}, Paired (fun p kv => SqT X.K H p [kV kv.1, kv.2]) ps kvs →
    ∃ (prs : List (Key × Value)) (pv : List (Value × Value)), KV kvs prs ∧ prs.length = ps.length ∧ pv.length = ps.length ∧
      ∀ (j : Nat) (u w : Value), pv[j]? = some (u, w) → ∃ (b : Addr) (k : Key), ps[j]? = some b ∧ IsTup s.heap b #[u, w] ∧ prs[j]? = some (k, w) ∧ keyIs k u = true
  | _, _, .nil => ⟨[], [], .nil, rfl, rfl, fun j u w e => by simp at e⟩
  | _, _, .cons (a := p) (b := kv) h t => by
    obtain ⟨prs, pv, r, h1, h2, hp⟩ := pairs_at I t
    obtain ⟨its, rv, ht, _⟩ := I.tuple h
    obtain ⟨u, y, ei, ru, ry⟩ := vals2 rv
    subst ei
    refine ⟨(kv.1, y) :: prs, (u, y) :: pv, .cons ⟨rfl, ry⟩ r, by rw [List.length_cons, List.length_cons, h1], by rw [List.length_cons, List.length_cons, h2], fun j u' w' e => ?_⟩
    cases j with
    | zero =>
      cases e
      exact ⟨p, kv.1, rfl, ht, rfl, kV_is (P := X.prog) (w := X.w) ru⟩
    | succ j =>
      obtain ⟨b, k, e1, e2, e3⟩ := hp j u' w' (by simpa using e)
      exact ⟨b, k, by simpa using e1, e2, by simpa using e3⟩
theorem call_dictT (hcalm : X.calm = true) : CallR X (.type "dict") (fun xs H Q => ∃ (a : Addr) (ps : List Addr) (kvs : List (Key × V)), xs = [.ref a] ∧ TpT X.K H a (ps.map V.ref) ∧ Paired (fun p kv => SqT X.K H p [kV kv.1, kv.2]) ps kvs ∧
    ∀ p, H p = none → Q (.ref p) (upd H p (.dK (mergeK [] kvs)))) := by
  intro pins s σ H xs us Q I r q
  obtain ⟨a, ps, kvs, ex, hq, hp, q⟩ := q
  subst ex
  obtain ⟨u, eu, rx⟩ := vals1 r
  subst eu
  cases rx
  obtain ⟨z, its, rv, pl⟩ := hq.plain I
  have ei := refs_at rv
  subst ei
  rw [List.length_map] at z
  obtain ⟨prs, pv, rel, h1, h2, hpr⟩ := pairs_at I hp
  have items : PySem.PairItems s.heap (ps.map Value.ref).toArray (fun j => (ps[j]?).getD 0) pv := by
    refine ⟨by simp [h2], fun j k v e => ?_⟩
    obtain ⟨b, κ, e1, e2, _⟩ := hpr j k v e
    refine ⟨by simp [e1], .inl ?_⟩
    show s.heap.IsTuple ((ps[j]?).getD 0) #[k, v]
    rw [e1]
    exact e2
  refine PySem.call_dict_pairs (knd := mixKind X.prog X.w) (kvs := prs) (PySem.PairArg.tuple a _ _ pv) (I.ok.hd hcalm) ⟨pl, items⟩ ⟨by rw [h1, h2], fun i key v e => ?_⟩ (by omega) fun h' tk hd' k => ?_
  · obtain ⟨b, κ, _, _, e3, e4⟩ := hpr i key v e
    exact ⟨κ, e3, e4⟩
  · have hm : (s.heap.objs.size == sysModules) = false := beq_eq_false_iff_ne.mpr (Nat.ne_of_gt I.big)
    have hlen : (mergeK [] kvs).length ≤ sizeLine := by
      have := length_mergeK kvs []
      have := rel.length
      simp only [List.length_nil] at *
      omega
    exact ⟨.ref s.heap.objs.size, upd H s.heap.objs.size (.dK (mergeK [] kvs)), I.laid (t' := tk) (fun b o e => k b o (by simp) e) (Nat.le_refl _) (show ObjOk X.prog X.w _ _ _ (.dK (mergeK [] kvs)) from ⟨hlen, hm, merged [] prs, KV.merge rel .nil, hd'⟩), rfl, q _ (I.hok.fresh (Nat.le_refl _))⟩

def pairsOf : List D → Option (List (D × D))
  | [] => some []
  | .tup [k, v] :: r => if k.isK = true then (pairsOf r).map ((k, v) :: ·) else none
  | _ :: _ => none
def mergeD (kvs more : List (D × D)) : List (D × D) := more.foldl (fun acc p => dput D.keq acc p.1 p.2) kvs
theorem RpK.merge : ∀ {more : List (D × D)} {kvs : List (D × D)} {em es : List (Key × V)}, RpK K mg H more em → RpK K mg H kvs es → RpK K mg H (mergeD kvs more) (mergeK es em)
  | [], kvs, em, es, h, q => by rw [RpK] at h; subst h; exact q
  | (k, d) :: r, kvs, em, es, h, q => by
    rw [RpK] at h
    obtain ⟨κ, v, s, e, hk, hv, h⟩ := h
    subst e
    exact RpK.merge (more := r) (es := putK es κ v) h (RpK.tab.mpr (TabOk.put (IK := IsKey) (eq := D.keq) (fun _ _ _ _ a b => IsKey.keq a b) hk hv (RpK.tab.mp q)))
theorem RpL.pairs : ∀ {ds : List D} {kvs : List (D × D)} {vs : List V}, pairsOf ds = some kvs → RpL K mg H ds vs → ∃ (ps : List Addr) (es : List (Key × V)), vs = ps.map V.ref ∧ Paired (fun p kv => SqT K H p [kV kv.1, kv.2]) ps es ∧ RpK K mg H kvs es
  | [], kvs, vs, h, r => by
    cases h
    rw [RpL.nil] at r
    exact ⟨[], [], r, .nil, by rw [RpK]⟩
  | d :: ds, kvs, vs, h, r => by
    unfold pairsOf at h
    split at h
    · rename_i e; cases e
    · rename_i k v r' e
      cases e
      split at h
      · rename_i hk
        obtain ⟨kvs', h1, rfl⟩ := Option.map_eq_some_iff.mp h
        rw [RpL.cons] at r
        obtain ⟨v0, vr, e1, h2, r⟩ := r
        obtain ⟨ps, es, e3, hp, hr⟩ := RpL.pairs h1 r
        rw [Rp] at h2
        obtain ⟨b, ws, eb, hb, hw⟩ := h2
        rw [RpL.cons] at hw
        obtain ⟨vk, wr, ew, rk, hw⟩ := hw
        rw [RpL.cons] at hw
        obtain ⟨vv, wr', ew', rv, hw⟩ := hw
        rw [RpL.nil] at hw
        subst ew ew' hw
        obtain ⟨l, k1, k2⟩ := rk.key hk
        subst k2
        refine ⟨b :: ps, (l, vv) :: es, by rw [e1, eb, e3]; rfl, .cons hb.sq hp, ?_⟩
        rw [RpK]
        exact ⟨l, vv, es, rfl, k1, rv, hr⟩
      · cases h
    · cases h
def dDictOf : D → R D
  | .tup ds => match pairsOf ds with
    | some kvs => .ok (.dct (mergeD [] kvs))
    | none => .bad
  | .lst ds => match pairsOf ds with
    | some kvs => .ok (.dct (mergeD [] kvs))
    | none => .bad
  | .dct kvs => .ok (.dct kvs)
  | _ => .bad
theorem own_newK {H : Hp} {p : Addr} {ds : List (D × D)} {vs : List (Key × V)} (n : H p = none) (r : RpK K mg H ds vs) :
    Own K mg (upd H p (.dK vs)) p (.dct ds) := ⟨vs, upd_same, r.stay (Fz.of_same (same_new n))⟩
theorem c_dict (S : Cok c X) : Cal1O c X (.type "dict") dDictOf := by
  refine ⟨_, ((call_dictT S.calm).or (call_dictP S.calm)).or call_dictD, fun {O Γ σ H v d d' Q} ok r e q => ?_, fun d e => by unfold dDictOf; split <;> (try split) <;> simp⟩
  unfold dDictOf at e
  split at e
  · split at e
    · rename_i kvs hk
      cases e
      obtain ⟨a, vs, rfl, t, w⟩ := r.tup
      obtain ⟨ps, es, e1, hp, hr⟩ := w.pairs hk
      subst e1
      exact .inl (.inl ⟨a, ps, es, rfl, by rw [S.K]; exact t, by rw [S.K]; exact hp, fun p n => q _ _ (same_new n) n (own_newK n (RpK.merge hr (by rw [RpK])))⟩)
    · cases e
  · split at e
    · rename_i kvs hk
      cases e
      obtain ⟨a, vs, rfl, t, w⟩ := r
      obtain ⟨ps, es, e1, hp, hr⟩ := w.pairs hk
      subst e1
      exact .inl (.inr ⟨a, ps, es, rfl, .inl t, by rw [S.K]; exact hp, fun p n => q _ _ (same_new n) n (own_newK n (RpK.merge hr (by rw [RpK])))⟩)
    · cases e
  · cases e
    obtain ⟨a, es, rfl, t, w⟩ := r
    exact .inr ⟨a, es, rfl, t, fun p n => q _ _ (same_new n) n (own_newK n w)⟩
  · cases e
end
end PD
end

section
/-! PDK: dicts whose keys are tuples of any depth. -/
namespace PD
open PySem PySem.Spec L2
open PyProof.Rows hiding St
open PySem.PyData (strOk)

section
variable {X : Cx} {pins : List (Addr × Obj)} {σ : St} {H : Hp} {s : Shared} {mg : MG} {w : World} {a p : Addr}
mutual
/-- a datum that is a key, in the heap -/
theorem Rp.nested (I : Inv X pins σ H s) : ∀ (d : D) (v : V) (u : Value) (κ : NestedKey), Rp X.K mg H d v → d.nk = some κ → RelV v u → NestedIs s.heap κ u
  | .non, v, u, κ, h, e, r => by
    rw [Rp] at h; subst h
    rw [D.nk] at e; cases e
    cases (show u = Value.none from r); exact .none
  | .bl b, v, u, κ, h, e, r => by
    rw [Rp] at h; subst h
    rw [D.nk] at e; cases e
    cases (show u = Value.bool b from r); exact .bool rfl
  | .int i, v, u, κ, h, e, r => by
    rw [Rp] at h; subst h
    rw [D.nk] at e; cases e
    obtain ⟨t, rfl⟩ := r; exact .int i t
  | .str x, v, u, κ, h, e, r => by
    rw [Rp] at h; obtain ⟨rfl, _⟩ := h
    rw [D.nk] at e; cases e
    obtain ⟨t, rfl⟩ := r; exact .text x t
  | .tup ds, v, u, κ, h, e, r => by
    rw [Rp] at h
    obtain ⟨a, vs, rfl, t, hw⟩ := h
    cases (show u = Value.ref a from r)
    rw [D.nk] at e
    obtain ⟨ks, ek, rfl⟩ := Option.map_eq_some_iff.mp e
    obtain ⟨its, rv, ⟨o, ho, hc, n, hd⟩, _⟩ := I.tuple t.sq
    exact .tup ho hc hd (by simpa using RpL.nested I ds vs its ks hw ek rv)
  | .lst _, _, _, _, _, e, _ => by rw [D.nk] at e <;> first | cases e | simp
  | .dct _, _, _, _, _, e, _ => by rw [D.nk] at e <;> first | cases e | simp
  | .dctT _, _, _, _, _, e, _ => by rw [D.nk] at e <;> first | cases e | simp
  | .fn _, _, _, _, _, e, _ => by rw [D.nk] at e <;> first | cases e | simp
  | .scr _, _, _, _, _, e, _ => by rw [D.nk] at e <;> first | cases e | simp
theorem RpL.nested (I : Inv X pins σ H s) : ∀ (ds : List D) (vs : List V) (us : List Value) (ks : List NestedKey), RpL X.K mg H ds vs → D.nkL ds = some ks → Vals vs us → NestedAll s.heap ks us
  | [], vs, us, ks, h, e, r => by
    rw [RpL.nil] at h; subst h
    rw [D.nkL] at e; cases e
    cases r; exact .nil
  | d :: ds, vs, us, ks, h, e, r => by
    rw [RpL.cons] at h
    obtain ⟨v, q, rfl, h1, h2⟩ := h
    rw [D.nkL] at e
    split at e
    · rename_i k ks' e1 e2
      cases e
      cases r with
      | cons r1 r2 => exact .cons (Rp.nested I d _ _ _ h1 e1 r1) (RpL.nested I ds _ _ _ h2 e2 r2)
    · cases e
end
theorem nkT_some {d : D} {κ : NestedKey} (h : d.nkT = some κ) : d.nk = some κ ∧ κ.depth ≤ 8 := by
  unfold D.nkT at h
  split at h
  · split at h
    · rename_i k e
      split at h
      · cases h; exact ⟨e, by assumption⟩
      · cases h
    · cases h
  · cases h
theorem Rp.key8 (I : Inv X pins σ H s) {d : D} {κ : NestedKey} (h : Rp X.K mg H d (.ref a)) (e : d.nkT = some κ) : (nestedKind X.prog X.w).is s.heap κ a :=
  ⟨Rp.nested I d _ _ κ h (nkT_some e).1 rfl, (nkT_some e).2⟩
theorem TD.stay {es : List (NestedKey × Addr × V)} {h1 h2 : Heap} (t : TD w p es h1) (k : ∀ o, h1.get? p = some o → h2.get? p = some o) : TD w p es h2 :=
  let ⟨z, lo, xs, pr, o, ds, ep, ho, r⟩ := t; ⟨z, lo, xs, pr, o, ds, ep, k _ ho, r⟩
theorem TD.objOk {es : List (NestedKey × Addr × V)} {h : Heap} {P : Program} (t : TD w p es h) : ObjOk P w H h p (.ext (TD w p es)) :=
  ⟨t, let ⟨_, _, _, _, o, _, _, ho, _⟩ := t; ⟨o, ho⟩, fun _ _ t k => t.stay k⟩
theorem td_at {es : List (NestedKey × Addr × V)} (I : Inv X pins σ H s) (h : Rd H a (.ext (TD w a es))) : TD w a es s.heap := by
  have := h.ok I.hok
  exact this.1
/-- the pairs of es, of kvs -/
theorem RpT.keysAre {K : PySem.W.Frag} : ∀ {kvs : List (D × D)} {es : List (NestedKey × Addr × V)}, RpT K mg H kvs es → ∀ x ∈ es, ∃ d, Rp K mg H d (.ref x.2.1) ∧ d.nkT = some x.1
  | [], es, h, x, hx => by rw [RpT] at h; subst h; cases hx
  | (k, d) :: r, es, h, x, hx => by
    rw [RpT] at h
    obtain ⟨κ, b, v, s, rfl, h1, h2, h3, h4⟩ := h
    rcases List.mem_cons.mp hx with rfl | hx
    · exact ⟨k, h2, h1⟩
    · exact RpT.keysAre h4 x hx
theorem RpT.length {K : PySem.W.Frag} : ∀ {kvs : List (D × D)} {es : List (NestedKey × Addr × V)}, RpT K mg H kvs es → es.length = kvs.length
  | [], es, h => by rw [RpT] at h; subst h; rfl
  | (k, d) :: r, es, h => by
    rw [RpT] at h
    obtain ⟨κ, b, v, s, rfl, h1, h2, h3, h4⟩ := h
    rw [List.length_cons, List.length_cons, RpT.length h4]
theorem paired_mem {α β : Type} {F : α → β → Prop} : ∀ {l : List α} {m : List β}, Paired F l m → ∀ y ∈ m, ∃ x ∈ l, F x y
  | _, _, .nil, y, hy => by cases hy
  | _, _, .cons h t, y, hy => by
    rcases List.mem_cons.mp hy with rfl | hy
    · exact ⟨_, List.mem_cons_self, h⟩
    · obtain ⟨x, hx, r⟩ := paired_mem t y hy
      exact ⟨x, List.mem_cons_of_mem _ hx, r⟩
abbrev TR : NestedKey × Addr × V → NestedKey × Addr × Value → Prop := fun a b => a.1 = b.1 ∧ a.2.1 = b.2.1 ∧ RelV a.2.2 b.2.2
/-- the dict at a, for the kit's rules -/
theorem td_of {kvs : List (D × D)} {es : List (NestedKey × Addr × V)} (hw : mg.w = X.w) (I : Inv X pins σ H s) (h : Rd H a (.ext (TD mg.w a es))) (r : RpT X.K mg H kvs es) :
    es.length ≤ sizeLine ∧ (a == sysModules) = false ∧ ∃ xs, Paired TR es xs ∧ s.heap.DictOfH (nestedKind X.prog X.w) a xs := by
  obtain ⟨z, lo, xs, pr, o, ds, ep, ho, hx, hd, he, hn⟩ := td_at I h
  rw [hw] at he
  refine ⟨z, lo, xs, pr, o, ds, ep, ho, hx, hd, he, fun x hx => ?_, hn⟩
  obtain ⟨y, hy, e1, e2, _⟩ := paired_mem pr x hx
  obtain ⟨d, rd, ek⟩ := r.keysAre y hy
  rw [← e1, ← e2]
  exact rd.key8 I ek
def storedV (xs : List (NestedKey × Addr × V)) (k : NestedKey) (a : Addr) (v : V) : List (NestedKey × Addr × V) :=
  if (xs.any fun x => decide (x.1 = k)) = true then xs.map fun x => if x.1 = k then (x.1, x.2.1, v) else x else xs ++ [(k, a, v)]
theorem paired_any {k : NestedKey} : ∀ {es : List (NestedKey × Addr × V)} {xs : List (NestedKey × Addr × Value)}, Paired TR es xs → (es.any fun x => decide (x.1 = k)) = (atKey xs k).isSome
  | _, _, .nil => rfl
  | _, _, .cons (a := e) (b := x) h t => by
    unfold atKey
    rw [List.any_cons, List.find?_cons, h.1]
    by_cases q : x.1 = k
    · simp [q]
    · simp only [q, decide_false, Bool.false_or]
      exact paired_any t
theorem paired_map {α β α' β' : Type} {F : α → β → Prop} {G : α' → β' → Prop} {f : α → α'} {g : β → β'} (k : ∀ a b, F a b → G (f a) (g b)) : ∀ {l : List α} {m : List β}, Paired F l m → Paired G (l.map f) (m.map g)
  | _, _, .nil => .nil
  | _, _, .cons h t => .cons (k _ _ h) (paired_map k t)
theorem paired_stored {es : List (NestedKey × Addr × V)} {xs : List (NestedKey × Addr × Value)} {k : NestedKey} {b : Addr} {v : V} {u : Value} (h : Paired TR es xs) (r : RelV v u) : Paired TR (storedV es k b v) (storedH xs k b u) := by
  unfold storedV storedH
  rw [paired_any h]
  split
  · refine paired_map (fun e x q => ?_) h
    unfold putAt
    by_cases z : x.1 = k
    · have z' : e.1 = k := q.1.trans z
      simp only [z, z', if_true]
      exact ⟨rfl, q.2.1, r⟩
    · have z' : ¬ e.1 = k := fun h => z (q.1.symm.trans h)
      simp only [z, z', if_false]
      exact q
  · exact h.snoc ⟨rfl, rfl, r⟩
/-- keys that are tuples: alike -/
def D.keqN (d e : D) : Bool := match d.nkT, e.nkT with
  | some x, some y => decide (x = y)
  | _, _ => false
theorem keqN_eq {d e : D} {k l : NestedKey} (h : d.nkT = some k) (q : e.nkT = some l) : d.keqN e = decide (k = l) := by
  unfold D.keqN
  rw [h, q]
theorem RpT.any {K : PySem.W.Frag} {k : D} {κ : NestedKey} (hk : k.nkT = some κ) : ∀ {kvs : List (D × D)} {es : List (NestedKey × Addr × V)}, RpT K mg H kvs es → (kvs.any fun p => p.1.keqN k) = es.any fun p => decide (p.1 = κ)
  | [], es, h => by rw [RpT] at h; subst h; rfl
  | (l, d) :: r, es, h => by
    rw [RpT] at h
    obtain ⟨μ, b, v, s, rfl, h1, h2, h3, h4⟩ := h
    rw [List.any_cons, List.any_cons, keqN_eq h1 hk, RpT.any hk h4]
theorem RpT.snoc {K : PySem.W.Frag} {k d : D} {κ : NestedKey} {b : Addr} {v : V} (hk : k.nkT = some κ) (rk : Rp K mg H k (.ref b)) (rv : Rp K mg H d v) : ∀ {kvs : List (D × D)} {es : List (NestedKey × Addr × V)}, RpT K mg H kvs es → RpT K mg H (kvs ++ [(k, d)]) (es ++ [(κ, b, v)])
  | [], es, h => by
    rw [RpT] at h; subst h
    show RpT K mg H [(k, d)] [(κ, b, v)]
    rw [RpT]
    exact ⟨κ, b, v, [], rfl, hk, rk, rv, by rw [RpT]⟩
  | (l, d') :: r, es, h => by
    rw [RpT] at h
    obtain ⟨μ, b', v', s, rfl, h1, h2, h3, h4⟩ := h
    show RpT K mg H ((l, d') :: (r ++ [(k, d)])) ((μ, b', v') :: (s ++ [(κ, b, v)]))
    rw [RpT]
    exact ⟨μ, b', v', _, rfl, h1, h2, h3, RpT.snoc hk rk rv h4⟩
theorem RpT.map {K : PySem.W.Frag} {k d : D} {κ : NestedKey} {v : V} (hk : k.nkT = some κ) (rv : Rp K mg H d v) : ∀ {kvs : List (D × D)} {es : List (NestedKey × Addr × V)}, RpT K mg H kvs es →
    RpT K mg H (kvs.map fun p => if p.1.keqN k = true then (p.1, d) else p) (es.map fun x => if x.1 = κ then (x.1, x.2.1, v) else x)
  | [], es, h => by rw [RpT] at h; subst h; show RpT K mg H [] []; rw [RpT]
  | (l, d') :: r, es, h => by
    rw [RpT] at h
    obtain ⟨μ, b', v', s, rfl, h1, h2, h3, h4⟩ := h
    rw [List.map_cons, List.map_cons, keqN_eq h1 hk]
    by_cases z : μ = κ
    · rw [if_pos (by simpa using z), if_pos z, RpT]
      exact ⟨μ, b', v, _, rfl, h1, h2, rv, RpT.map hk rv h4⟩
    · rw [if_neg (by simpa using z), if_neg z, RpT]
      exact ⟨μ, b', v', _, rfl, h1, h2, h3, RpT.map hk rv h4⟩
theorem RpT.put {K : PySem.W.Frag} {k d : D} {κ : NestedKey} {b : Addr} {v : V} {kvs : List (D × D)} {es : List (NestedKey × Addr × V)} (h : RpT K mg H kvs es) (hk : k.nkT = some κ) (rk : Rp K mg H k (.ref b)) (rv : Rp K mg H d v) : RpT K mg H (dput D.keqN kvs k d) (storedV es κ b v) := by
  unfold dput storedV
  rw [RpT.any hk h]
  split
  · exact RpT.map hk rv h
  · exact RpT.snoc hk rk rv h
theorem length_storedV {es : List (NestedKey × Addr × V)} {κ : NestedKey} {b : Addr} {v : V} : (storedV es κ b v).length ≤ es.length + 1 := by
  unfold storedV
  split
  · rw [List.length_map]; omega
  · rw [List.length_append]; simp
def rSetT (K : PySem.W.Frag) (mg : MG) : TSet := fun o i v H Q => ∃ a kvs es b k κ, o = .ref a ∧ i = .ref b ∧ H a = some (.ext (TD mg.w a es)) ∧ RpT K mg H kvs es ∧ Rp K mg H k (.ref b) ∧ k.nkT = some κ ∧ es.length < sizeLine ∧ Q (upd H a (.ext (TD mg.w a (storedV es κ b v))))
theorem set_dictT (hu : X.A.units + 100 < cLine) (hw : mg.w = X.w) : PSet X (rSetT X.K mg) := by
  intro pins s σ H o i v ov iv u Q I ro ri rv ⟨a, kvs, es, b, k, κ, eo, ei, e, rt, rk, ek, hl, q⟩
  subst eo ei
  cases (show ov = Value.ref a from ro)
  cases (show iv = Value.ref b from ri)
  obtain ⟨z, lo, xs, pr, dd⟩ := td_of hw I (.inl e) rt
  refine wpAny_setItem_heap (knd := nestedKind X.prog X.w) (hsz := by rw [← Paired.length pr]; exact z) (by show X.A.units + 1 + 8 < cLine; omega) (rk.key8 I ek) dd fun h' dd' hs => ?_
  obtain ⟨ob, ds, ep, hq, h2, h3, h4, _, h5⟩ := dd'
  refine ⟨_, d_write I (by rw [e]; exact True.intro) hs ⟨ob, hq⟩ (TD.objOk (P := X.prog) (w := mg.w) (es := storedV es κ b v) ⟨by have := length_storedV (es := es) (κ := κ) (b := b) (v := v); omega, lo, _, paired_stored pr rv, ob, ds, ep, hq, h2, h3, by rw [hw]; exact h4, h5⟩ |> fun z => by rw [hw] at z ⊢; exact z), q⟩

/-! ### what is walked -/
theorem td_frz {o : Obj} {es : List (NestedKey × Addr × V)} (I : Inv X pins σ H s) (h : H a = some (.frz o (.ext (TD w a es)))) :
    (a == sysModules) = false ∧ es.length ≤ sizeLine ∧ s.heap.get? a = some o ∧ o.ExactDict ∧ ∃ (ds : Array DictEntry) (ep : Nat), o.data = .dict ds ep ∧ ds.size = es.length ∧ ∀ (i : Nat) x, es[i]? = some x → ∃ en : DictEntry, ds[i]? = some en ∧ en.key = .ref x.2.1 := by
  obtain ⟨hg, ⟨z, lo, xs, pr, o', ds, ep, ho, hx, hd, he, _⟩, _⟩ := I.hok a _ h
  rw [hg] at ho; cases ho
  have l2 := Paired.length pr
  refine ⟨lo, z, hg, hx, ds, ep, hd, by rw [← Array.length_toList, he, List.length_map]; exact l2.symm, fun i x e => ?_⟩
  obtain ⟨y, ey, _, q, _⟩ := paired_get pr e
  have k : ds.toList[i]? = (xs[i]?).map (entN w) := by rw [he, List.getElem?_map]
  rw [ey, Array.getElem?_toList] at k
  exact ⟨_, k, by show Value.ref y.2.1 = _; rw [q]⟩
/-- the keys of the dict at d, each its own tuple -/
def Itn (w : World) (d : Addr) (o : Obj) (es : List (NestedKey × Addr × V)) : It :=
  ⟨fun i H => H d = some (.frz o (.ext (TD w d es))) ∧ i < es.length, fun i H x H' => H' = H ∧ ∃ e, es[i]? = some e ∧ x = .ref e.2.1, fun i H => H d = some (.frz o (.ext (TD w d es))) ∧ es.length ≤ i⟩
theorem turn_keysN {P : Program} {w w' : World} {K : PySem.W.Frag} {tg : Expr} {d : Addr} {o : Obj} {ds : Array DictEntry} {ep : Nat} {es : List (NestedKey × Addr × V)} (it : Addr) (hod : o.data = .dict ds ep) :
    Turn P w K tg (Itn w' d o es) [it] it (fun i h => h.IsKeyIter it d i es.length ep) := by
  have T := turn_keysT (P := P) (w := w) (K := K) (tg := tg) (d := d) (kvs := []) it hod
  refine ⟨T.mem, fun i h st b hb => ?_, fun i h h' st k => ?_, fun X hP hw hK hc i pins s σ H E I hf st hg => ?_, fun X hP hw hK hc i pins s σ H E I hf st hg => ?_, fun A i s Q E st h => ?_⟩
  · rcases List.mem_singleton.mp hb with rfl
    obtain ⟨oi, e, c, dd⟩ := st
    exact ⟨oi, e, fun v z => by rw [dd] at z; cases z⟩
  · exact st.at fun oi e => k it (by simp) oi e
  · subst hP hw hK
    obtain ⟨hd, hi⟩ := hg
    obtain ⟨g0, g1, g2, g3, g4, g5⟩ := hf it (by simp)
    obtain ⟨lo, z, hgd, hx, ds', ep', hdt, hsz, ent⟩ := td_frz I hd
    obtain ⟨rfl, rfl⟩ := dict_ep hod hdt
    obtain ⟨en, hen, hkey⟩ := ent i es[i] (List.getElem?_eq_getElem hi)
    refine next_key_item st hgd hdt hsz hen fun h' st' sb => ⟨_, rfl, ?_⟩
    have J : Inv X pins σ H { s with heap := h' } := I.turned (t' := s.toks) (fun b ob hb e => (sb.2 b hb).trans e) g0 g1 g3 g4 g5
    obtain ⟨oi, e, c, dd⟩ := id st'
    exact go_of (s := { s with heap := h' }) e c dd (by decide) ⟨.ref es[i].2.1, H, J, hkey, ⟨rfl, _, List.getElem?_eq_getElem hi, rfl⟩, st', fun b hb => (hf b hb).1⟩
  · subst hP hw hK
    obtain ⟨hd, hi⟩ := hg
    obtain ⟨g0, g1, g2, g3, g4, g5⟩ := hf it (by simp)
    obtain ⟨lo, z, hgd, hx, ds', ep', hdt, hsz, ent⟩ := td_frz I hd
    obtain ⟨rfl, rfl⟩ := dict_ep hod hdt
    exact next_key_end (I.ok.hd hc) st hgd hdt hsz hi fun h' eb => ⟨rfl, I.turned (t' := s.toks) (fun b ob hb e => eb b ob hb e) g0 g1 g3 g4 g5⟩
  · exact wpAny_pyIter_keyiter st h
theorem RpT.keys {K : PySem.W.Frag} : ∀ {kvs : List (D × D)} {es : List (NestedKey × Addr × V)}, RpT K mg H kvs es → RpL K mg H (keysD kvs) (es.map fun e => .ref e.2.1)
  | [], es, h => by rw [RpT] at h; rw [h]; exact RpL.nil.mpr rfl
  | (k, d) :: r, es, h => by
    rw [RpT] at h
    obtain ⟨κ, b, v, s, e, h1, h2, h3, h4⟩ := h
    rw [e]
    exact RpL.cons.mpr ⟨_, _, rfl, h2, RpT.keys h4⟩
/-- the keys, collected -/
theorem td_collect (hc : X.calm = true) {es : List (NestedKey × Addr × V)} (I : Inv X pins σ H s) (h : Rd H a (.ext (TD w a es))) : es.length ≤ sizeLine ∧
    ∀ {R : List Value → Shared → Prop} {E : Value → Shared → Prop}, (∀ its h' tk, Vals (es.map fun e => V.ref e.2.1) its → (∀ b o, s.heap.get? b = some o → h'.get? b = some o) → R its { s with heap := h', toks := tk }) → wpAny (model X.prog X.w) X.A.in1 (collect (.ref a)) R E s := by
  obtain ⟨z, lo, xs, pr, o, ds, ep, ho, hx, hd, he, _⟩ := td_at I h
  have l2 := Paired.length pr
  have l3 : ds.size = xs.length := by rw [← Array.length_toList, he, List.length_map]
  refine ⟨z, fun {R E} hR => ?_⟩
  refine PySem.W.kdu_collect (A := X.A.in1) (kdl_raw (prog := X.prog) (w := X.w) lo hx hd) (I.ok.hd hc) ho (by omega) fun h' tk acc hk hacc => hR _ h' tk ?_ hk
  have ea : acc.toList = xs.map fun x => Value.ref x.2.1 := by
    apply List.ext_getElem?
    intro j
    rw [List.getElem?_map, Array.getElem?_toList]
    cases hj : acc[j]? with
    | none =>
      have h1 := Array.getElem?_eq_none_iff.mp hj
      have h2 : acc.size = ds.size := hacc.1
      rw [List.getElem?_eq_none (by omega)]; rfl
    | some v =>
      obtain ⟨en, hen, hv⟩ := hacc.2 j v hj
      have k : ds.toList[j]? = (xs[j]?).map (entN w) := by rw [he, List.getElem?_map]
      rw [Array.getElem?_toList, hen] at k
      cases hx : xs[j]? with
      | none => rw [hx] at k; cases k
      | some y => rw [hx] at k; cases k; rw [hv]; rfl
  rw [ea]
  exact paired_map (F := TR) (G := L2.RelV) (f := fun e => V.ref e.2.1) (g := fun x => Value.ref x.2.1) (fun e x q => by show Value.ref _ = Value.ref _; rw [q.2.1]) pr
end
section
variable {c : DC} {X : Cx} {Γ : SEnv} {pos : Pos}
theorem jo_dnewT (S : Cok c X) : JO c X Γ (.Dict [] [] pos) (.ok (.dctT [])) := by
  refine ⟨fun pins s σ H Q I ⟨O, ok, q⟩ => ?_⟩
  have t : TD c.mg.w s.heap.objs.size [] (s.heap.push { cls := .type "dict", data := .dict #[] }) := ⟨Nat.zero_le _, beq_eq_false_iff_ne.mpr (Ne.symm (Nat.ne_of_lt I.big)), [], .nil, _, #[], 0, Heap.get?_push_size _ rfl, ⟨rfl, rfl, rfl⟩, rfl, rfl, List.nodup_nil⟩
  have n := I.hok.fresh (Nat.le_refl s.heap.objs.size)
  exact wpAny_Dict_empty ⟨.ref s.heap.objs.size, _, I.laid (a := s.heap.objs.size) (o := .ext (TD c.mg.w s.heap.objs.size [])) (t' := s.toks) (fun _ _ q => Heap.get?_push_of_some _ q) (Nat.le_refl _) (by rw [← S.w] at t ⊢; exact t.objOk), rfl,
    (show ∀ p H', Same H H' → H p = none → Own c.K c.mg H' p (.dctT []) → Q (.ref p) H' from q) _ _ (same_new n) n ⟨[], upd_same, by rw [RpT]⟩⟩
end
end PD
end

section
/-! PD9: sorted(..). -/
namespace PD
open PySem PySem.Spec L2
open PyProof.Rows hiding St
open PySem.PyData (strOk)
open PySem.W (EachIs AllAlike Sortable alike dataLt dataLe dataKind SortsAt sortVals KeyedOut sortingHeap)

section
variable {c : DC} {X : Cx} {Γ : SEnv} {a b e o : Expr} {es : List Expr} {m ma mb mo : R D} {pos p pos2 p1 p2 apos cpos : Pos} {x : Str} {idn T : String}
variable {K : PySem.W.Frag} {mg : MG} {H : Hp}

def D.leD (x y : D) : Bool := !dataLt y.py x.py
def D.tupB : D → Bool
  | .tup (_ :: _) => true
  | _ => false
def D.atmB : D → Bool
  | .non => false
  | .tup _ => false
  | _ => true
def sortOk (ds : List D) : Bool := D.plL ds 59 && (ds.all fun x => ds.all fun y => alike x.py y.py) && (ds.all D.tupB || ds.all D.atmB)
def dSortL (ds : List D) : R D := if sortOk ds = true then .ok (.lst (ds.mergeSort D.leD)) else .bad
def dSorted : D → R D
  | .lst ds => dSortL ds
  | .tup ds => dSortL ds
  | .dct kvs => dSortL (keysD kvs)
  | .dctT kvs => dSortL (keysD kvs)
  | _ => .bad

theorem plL_mem {n : Nat} : ∀ {ds : List D}, D.plL ds n = true → ∀ d ∈ ds, d.pl n = true
  | [], _, d, h => by simp at h
  | x :: ds, p, d, h => by
    rw [D.plL, Bool.and_eq_true] at p
    rcases List.mem_cons.mp h with rfl | h
    · exact p.1
    · exact plL_mem p.2 d h
/-- what is sorted: the items of the thing at a -/
def SrtSrc (K : PySem.W.Frag) (H : Hp) (a : Addr) (ys : List V) : Prop := SqL K H a ys ∨ TpT K H a ys ∨ (∃ kvs, Rd H a (.dK kvs) ∧ ys = kvs.map fun kv => kV kv.1) ∨ ∃ w es, Rd H a (.ext (TD w a es)) ∧ ys = es.map fun e => .ref e.2.1
def rSortD (K : PySem.W.Frag) (mg : MG) : List V → Hp → VK → Prop := fun vs H Q => ∃ (a : Addr) (bs : List (V × D)), vs = [.ref a] ∧ SrtSrc K H a (bs.map (·.1)) ∧ (∀ b ∈ bs, Rp K mg H b.2 b.1) ∧ sortOk (bs.map (·.2)) = true ∧
  ∀ p, H p = none → Q (.ref p) (upd H p (.lst ((bs.mergeSort (dataLe false fun b => b.2.py)).map (·.1))))
theorem each_vals {bs : List (V × D)} : ∀ {us : List Value}, EachIs (fun u (b : V × D) => RelV b.1 u) us bs → Vals (bs.map (·.1)) us := by
  intro us h
  induction h with
  | nil => exact .nil
  | cons h t ih => exact .cons h ih
theorem vals_each : ∀ {bs : List (V × D)} {us : List Value}, Vals (bs.map (·.1)) us → EachIs (fun u (b : V × D) => RelV b.1 u) us bs
  | [], us, h => by cases h; exact .nil
  | b :: bs, us, h => by
    rw [List.map_cons] at h
    cases h with
    | cons h t => exact .cons h (vals_each t)
theorem collect_tup {prog : Program} {w : World} {A : Around} {E : Value → Shared → Prop} {s : Shared} {l : Addr} {vs : List Value} {R : List Value → Shared → Prop} (hl : IsTup s.heap l vs.toArray) (hz : vs.length ≤ sizeLine)
    (h : ∀ h' tk, (∀ b o, s.heap.get? b = some o → h'.get? b = some o) → R vs { s with heap := h', toks := tk }) : wpAny (model prog w) A (collect (.ref l)) R E s := by
  obtain ⟨o, ho, hc, n, hd⟩ := id hl
  unfold collect
  refine wpAny_bind (wpAny_runValue (codeAny_builtin entry_proto_collect' ?_))
  show wpAny _ _ (do again (.builtin "list.__iadd__" ⟨[← newList [], .ref l], []⟩)) _ _ s
  refine wpAny_bind (wpAny_newList (wpAny_pure ⟨Code.quiet_builtin _ (by decide +kernel), codeAny_builtin entry_list_iadd' ?_⟩))
  show wpAny _ _ (Builtin.List.listExtendWith (.ref s.heap.objs.size) (.ref l) (.ref s.heap.objs.size)) _ _ { s with heap := s.heap.push (seqObj "list" #[] 0) }
  unfold Builtin.List.listExtendWith
  have ho' : (s.heap.push (seqObj "list" #[] 0)).get? l = some o := Heap.get?_push_of_some _ ho
  refine wpAny_bind (wpAny_typeOf (T := "tuple") ⟨o, ho', hc⟩ ?_)
  have ht : (Value.type "tuple" == Value.type "tuple") = true := by rfl
  rw [if_pos (by rw [ht]; simp)]
  refine wpAny_bind (listItems_at ho' hd ?_)
  refine wpAny_bind (listItems_at (xs := #[]) (n := 0) (Heap.get?_push_size _ rfl) rfl ?_)
  rw [if_neg (by simp)]
  refine wpAny_bind (listUpdate_at (xs := #[]) (n := 0) (Heap.get?_push_size _ rfl) rfl ?_ (Nat.zero_le _) (by show (#[] ++ vs.toArray).size ≤ sizeLine + 1; simp only [Array.size_append, List.size_toArray, List.length_nil]; omega))
  refine wpAny_pure ?_
  show wpAny (model prog w) A (do
      let o ← load s.heap.objs.size
      match o.data with
      | .seq xs _ => pure xs.toList
      | _ => unsupported "internal:collect") R E { s with heap := (s.heap.push (seqObj "list" #[] 0)).update s.heap.objs.size (Obj.mapSeq (· ++ vs.toArray)) }
  refine wpAny_bind (wpAny_load (get?_update_seq (Heap.get?_push_size _ rfl) _) ?_)
  show wpAny _ _ (pure ((#[] : Array Value) ++ vs.toArray).toList) R E _
  rw [show ((#[] : Array Value) ++ vs.toArray).toList = vs by simp]
  refine wpAny_pure (h _ _ fun b o e => ?_)
  rw [Heap.get?_update_ne _ _ _ _ (Nat.ne_of_lt (Heap.lt_size e))]
  exact Heap.get?_push_of_some _ e
theorem src_collect (hc : X.calm = true) {pins : List (Addr × Obj)} {σ : St} {s : Shared} {a : Addr} {ys : List V} (I : Inv X pins σ H s) (h : SrtSrc X.K H a ys) : ys.length ≤ sizeLine ∧
    ∀ {R : List Value → Shared → Prop} {E : Value → Shared → Prop}, (∀ its h' tk, Vals ys its → (∀ b o, s.heap.get? b = some o → h'.get? b = some o) → R its { s with heap := h', toks := tk }) → wpAny (model X.prog X.w) X.A.in1 (collect (.ref a)) R E s := by
  rcases h with h | h | ⟨kvs, h, rfl⟩ | ⟨w, es, h, rfl⟩
  · obtain ⟨its, rv, hl, hz⟩ := I.list h
    refine ⟨hz, fun {R E} hR => ?_⟩
    refine collect_list hl.isList (hR its _ s.toks rv fun b o e => ?_) (by rw [← rv.length]; exact hz)
    rw [Heap.get?_update_ne _ _ _ _ (Nat.ne_of_lt (Heap.lt_size e))]
    exact Heap.get?_push_of_some _ e
  · obtain ⟨its, rv, hl, hz⟩ := I.tuple h.sq
    exact ⟨hz, fun {R E} hR => collect_tup hl (by rw [← rv.length]; exact hz) fun h' tk k => hR its h' tk rv k⟩
  · obtain ⟨z, lo, vs, rel, dd⟩ := dk_rd I.hok h
    obtain ⟨ep, hat⟩ := dd.dictAt
    have hl : kvs.length = vs.length := rel.length
    refine ⟨by rw [List.length_map]; exact z, fun {R E} hR => ?_⟩
    exact PySem.W.kdu_collect (A := X.A.in1) (PySem.W.kdl_dict (knd := mixKind X.prog X.w) (kvs := vs) (ep := ep) lo) (I.ok.hd hc) hat (by omega) fun h' tk acc hk hacc => hR _ h' tk (keys_walked rel hacc) hk
  · obtain ⟨z, k⟩ := td_collect hc I h
    exact ⟨by rw [List.length_map]; exact z, k⟩
theorem dataLe_mem {bs : List (V × D)} {u : V × D} (h : u ∈ bs.mergeSort (dataLe false fun b => b.2.py)) : u ∈ bs := (List.mergeSort_perm bs _).mem_iff.mp h
theorem sort_zip (bs : List (V × D)) : (bs.mergeSort (dataLe false fun b => b.2.py)).map (·.2) = (bs.map (·.2)).mergeSort D.leD :=
  List.map_mergeSort fun a _ b _ => rfl
theorem pyL_map : ∀ ds : List D, D.pyL ds = ds.map D.py
  | [] => by rw [D.pyL]; rfl
  | d :: ds => by rw [D.pyL, pyL_map ds]; rfl
theorem sortable_of {ds : List D} (h : (ds.all D.tupB || ds.all D.atmB) = true) (n : Nat) (p : D.plL ds n = true) : Sortable (ds.map D.py) := by
  rw [Bool.or_eq_true] at h
  rcases h with h | h
  · refine .inl fun d hd => ?_
    obtain ⟨z, hz, rfl⟩ := List.mem_map.mp hd
    have := List.all_eq_true.mp h z hz
    cases z with
    | tup xs =>
      cases xs with
      | nil => cases this
      | cons y r => exact ⟨y.py, D.pyL r, by rw [D.py, D.pyL]⟩
    | _ => cases this
  · refine .inr fun d hd => ?_
    obtain ⟨z, hz, rfl⟩ := List.mem_map.mp hd
    have := List.all_eq_true.mp h z hz
    cases z with
    | non => cases this
    | tup _ => cases this
    | _ => rw [D.py]; exact ⟨(nomatch ·), fun xs => (nomatch ·)⟩
theorem call_sortD (S : Cok c X) : CallR X (.builtin "sorted") (rSortD X.K mg) := by
  intro pins s σ H vs us Q I r q
  obtain ⟨a, bs, ex, hsrc, hrp, hok, q⟩ := q
  subst ex
  obtain ⟨u, eu, rx⟩ := vals1 r
  subst eu
  cases rx
  have hu := S.un
  obtain ⟨hz, hcol⟩ := src_collect S.calm I hsrc
  unfold sortOk at hok
  rw [Bool.and_eq_true, Bool.and_eq_true] at hok
  obtain ⟨⟨hpl, hal⟩, hsk⟩ := hok
  refine Calls.call_function_entry PyProof.Rows.kind_sorted PyProof.Rows.plain_sorted PyProof.Rows.entry_sorted (PyProof.Rows.args_sorted1 _) ?_
  unfold Builtin.«sorted»
  refine wpAny_bind (m := checkCount "sorted" 1 1 _) (wpAny_pure ?_)
  refine wpAny_bind (hcol fun its h' tk rv keep => ?_)
  have hil : its.length ≤ sizeLine := by rw [← rv.length]; exact hz
  have I1 : Inv X pins σ H { s with heap := h', toks := tk } := I.kept keep
  refine wpAny_bind (wpAny_newList ?_ hil)
  have hoL : (h'.push (seqObj "list" its.toArray 0)).get? h'.objs.size = some (seqObj "list" its.toArray 0) := Heap.get?_push_size _ rfl
  show wpAny _ _ _ _ _ { s with heap := h'.push (seqObj "list" its.toArray 0), toks := tk }
  have I2 : Inv X pins σ H { s with heap := sortingHeap (h'.push (seqObj "list" its.toArray 0)) h'.objs.size its, toks := tk } :=
    I.kept fun b o e => PySem.W.sortingHeap_old (Nat.ne_of_lt (Heap.lt_size (keep b o e))) (Heap.get?_push_of_some _ (keep b o e))
  have each : EachIs (fun v d => ∃ as, Reads (sortingHeap (h'.push (seqObj "list" its.toArray 0)) h'.objs.size its) v d as) its ((bs.map (·.2)).map D.py) := by
    have g : ∀ (bs : List (V × D)) (its : List Value), (∀ b ∈ bs, Rp X.K mg H b.2 b.1) → D.plL (bs.map (·.2)) 59 = true → Vals (bs.map (·.1)) its →
        EachIs (fun v d => ∃ as, Reads (sortingHeap (h'.push (seqObj "list" its.toArray 0)) h'.objs.size its) v d as) its ((bs.map (·.2)).map D.py) ∨ True := fun _ _ _ _ _ => .inr trivial
    have g : ∀ (bs : List (V × D)) (us : List Value), (∀ b ∈ bs, Rp X.K mg H b.2 b.1) → D.plL (bs.map (·.2)) 59 = true → Vals (bs.map (·.1)) us →
        EachIs (fun v d => ∃ as, Reads (sortingHeap (h'.push (seqObj "list" its.toArray 0)) h'.objs.size its) v d as) us ((bs.map (·.2)).map D.py) := by
      intro bs
      induction bs with
      | nil => intro us _ _ r; cases r; exact .nil
      | cons b bs ih =>
        intro us hb hp r
        rw [List.map_cons] at r
        cases r with
        | cons r t =>
          rw [List.map_cons, D.plL, Bool.and_eq_true] at hp
          exact .cons (Dp.reads I2 b.2.py b.1 _ (Rp.dp b.2 59 b.1 hp.1 (hb b List.mem_cons_self)) r) (ih _ (fun b' h => hb b' (List.mem_cons_of_mem _ h)) hp.2 t)
    exact g bs its hrp hpl rv
  have halike : AllAlike ((bs.map (·.2)).map D.py) := fun d hd d' hd' => by
    obtain ⟨x, hx, rfl⟩ := List.mem_map.mp hd
    obtain ⟨y, hy, rfl⟩ := List.mem_map.mp hd'
    exact List.all_eq_true.mp (List.all_eq_true.mp hal x hx) y hy
  have hsort : Sortable ((bs.map (·.2)).map D.py) := sortable_of hsk 59 hpl
  have hdep : ∀ d, d ∈ (bs.map (·.2)).map D.py → d.depth ≤ 60 := fun d hd => by
    obtain ⟨x, hx, rfl⟩ := List.mem_map.mp hd
    obtain ⟨b, hb, rfl⟩ := List.mem_map.mp hx
    have := (Rp.lay b.2 59 b.1 (plL_mem hpl _ hx) (hrp b hb)).2
    omega
  have SA := SortsAt.data (prog := X.prog) (w := X.w) (A := X.A.in1.in1) (s := { s with heap := sortingHeap (h'.push (seqObj "list" its.toArray 0)) h'.objs.size its, toks := tk }) each halike hsort (fun d hd => by
    have := hdep d hd
    show X.A.units + 1 + 1 + d.depth < cLine
    omega)
  obtain ⟨out, eo⟩ : ∃ out, out = sortVals (dataKind (sortingHeap (h'.push (seqObj "list" its.toArray 0)) h'.objs.size its) ((bs.map (·.2)).map D.py)) false its its := ⟨_, rfl⟩
  refine wpAny_bind (wpAny_holding (wpAny_call_entry PyProof.Rows.slot_list_sort ⟨_, hoL, rfl⟩ PyProof.Rows.entry_list_sort
    (PySem.W.list_sort_vals (s := { s with heap := h'.push (seqObj "list" its.toArray 0), toks := tk }) hoL SA hil ⟨_, rfl, ?_⟩) (PyProof.Rows.args_list_sort _)))
  rw [← eo]
  obtain ⟨e', he'⟩ := PyProof.Rows.sortedHeap_at (vs := its) (out := out.toArray) hoL
  have ko : KeyedOut false ((bs.map (·.2)).map D.py) its out := ⟨_, its, halike, eo, each⟩
  rw [show (bs.map (·.2)).map D.py = bs.map fun b => b.2.py by rw [List.map_map]; rfl] at ko
  have hout := PySem.W.keyedOut_each (R := fun u (b : V × D) => RelV b.1 u) (bs := bs) (fun b => b.2.py) (rev := false) ko (vals_each rv)
  have hlen : ((bs.mergeSort (dataLe false fun b => b.2.py)).map (·.1)).length ≤ sizeLine := by
    rw [List.length_map, List.length_mergeSort]
    rw [List.length_map] at hz
    exact hz
  refine wpAny_pure ⟨_, rfl, .ref h'.objs.size, upd H h'.objs.size (.lst _), I1.laid (t' := tk) (fun b u e => ?_) (Nat.le_refl _)
    (show ObjOk X.prog X.w _ _ _ (.lst _) from ⟨hlen, _, e', each_vals hout, he'⟩), rfl, q _ (I1.hok.fresh (Nat.le_refl _))⟩
  have hb : b < h'.objs.size := Heap.lt_size e
  rw [PyProof.Rows.sortedHeap_old (Nat.ne_of_lt hb) (by rw [size_push']; exact Nat.lt_succ_of_lt hb)]
  exact Heap.get?_push_of_some _ e
theorem RpL.zip : ∀ {ds : List D} {vs : List V}, RpL K mg H ds vs → ∃ bs : List (V × D), bs.map (·.1) = vs ∧ bs.map (·.2) = ds ∧ ∀ b ∈ bs, Rp K mg H b.2 b.1
  | [], vs, h => by rw [RpL.nil] at h; exact ⟨[], h.symm, rfl, fun b h => by simp at h⟩
  | d :: ds, vs, h => by
    rw [RpL.cons] at h
    obtain ⟨v, r, e, h1, h⟩ := h
    obtain ⟨bs, e1, e2, e3⟩ := h.zip
    refine ⟨(v, d) :: bs, by rw [e, ← e1]; rfl, by rw [← e2]; rfl, fun b hb => ?_⟩
    rcases List.mem_cons.mp hb with rfl | hb
    · exact h1
    · exact e3 b hb
theorem RpL.unzip : ∀ {bs : List (V × D)}, (∀ b ∈ bs, Rp K mg H b.2 b.1) → RpL K mg H (bs.map (·.2)) (bs.map (·.1))
  | [], h => RpL.nil.mpr rfl
  | b :: bs, h => RpL.cons.mpr ⟨b.1, bs.map (·.1), rfl, h b List.mem_cons_self, RpL.unzip fun b' h' => h b' (List.mem_cons_of_mem _ h')⟩
theorem c_sorted (S : Cok c X) : Cal1O c X (.builtin "sorted") dSorted := by
  refine ⟨_, call_sortD (mg := c.mg) S, fun {O Γ σ H v d d' Q} ok r e q => ?_, fun d e => by unfold dSorted dSortL; split <;> (try split) <;> simp⟩
  have fin : ∀ {ds : List D} {vs : List V} {a : Addr}, dSortL ds = .ok d' → RpL c.K c.mg H ds vs → SrtSrc c.K H a vs → rSortD X.K c.mg [.ref a] H Q := fun {ds vs a} e w src => by
    unfold dSortL at e
    split at e
    · rename_i hs
      cases e
      obtain ⟨bs, e1, e2, e3⟩ := w.zip
      subst e1 e2
      refine ⟨a, bs, rfl, by rw [S.K]; exact src, by rw [S.K]; exact e3, hs, fun p n => q p _ (same_new n) n (own_new n ?_)⟩
      rw [← sort_zip]
      exact RpL.unzip fun b hb => e3 b (dataLe_mem hb)
    · cases e
  unfold dSorted at e
  split at e
  · obtain ⟨a, vs, rfl, t, w⟩ := r
    exact fin e w (.inl (.inl t))
  · obtain ⟨a, vs, rfl, t, w⟩ := r.tup
    exact fin e w (.inr (.inl t))
  · obtain ⟨a, es, rfl, t, w⟩ := r
    exact fin e w.keys (.inr (.inr (.inl ⟨es, t, rfl⟩)))
  · obtain ⟨a, es, rfl, t, w⟩ := r
    exact fin e w.keys (.inr (.inr (.inr ⟨_, es, t, rfl⟩)))
  · cases e
end
end PD
end

section
/-! PD10: what is walked; comprehensions. -/
namespace PD
open PySem PySem.Spec L2
open PyProof.Rows hiding St
open PySem.PyData (strOk)

/-- a datum, a tuple's object perhaps unknown -/
def Vt (K : PySem.W.Frag) (mg : MG) (H : Hp) : D → V → Prop
  | .tup ds, v => ∃ a vs, v = .ref a ∧ SqT K H a vs ∧ RpL K mg H ds vs
  | d, v => Rp K mg H d v
def Yd (c : DC) (loose : Bool) (H : Hp) (d : D) (v : V) : Prop := if loose = true then Vt c.K c.mg H d v else Rp c.K c.mg H d v
theorem Vt.of {K : PySem.W.Frag} {mg : MG} {H : Hp} {d : D} {v : V} (h : Rp K mg H d v) : Vt K mg H d v := by
  cases d with
  | tup ds => rw [Rp] at h; obtain ⟨a, vs, e, t, w⟩ := h; exact ⟨a, vs, e, t.sq, w⟩
  | _ => exact h
theorem Yd.of {c : DC} {H : Hp} {d : D} {v : V} {l : Bool} (h : Rp c.K c.mg H d v) : Yd c l H d v := by
  unfold Yd
  split
  · exact Vt.of h
  · exact h
/-- J walks the data ds, from H1 on, while rel holds -/
structure WalkD (c : DC) (loose : Bool) (rel : Hp → Hp → Prop) (J : It) (ds : List D) (H1 : Hp) : Prop where
  goes : ∀ i H, i < ds.length → rel H1 H → J.go i H
  stops : ∀ H, rel H1 H → J.stop ds.length H
  yields : ∀ i H v H', i < ds.length → rel H1 H → J.yld i H v H' → ∃ d, ds[i]? = some d ∧ Same H H' ∧ Yd c loose H' d v
  size : ds.length ≤ sizeLine
theorem WalkD.same {c : DC} {loose : Bool} {J : It} {ds : List D} {H1 : Hp} (w : WalkD c loose Fz J ds H1) : WalkD c loose Same J ds H1 :=
  ⟨fun i H h r => w.goes i H h (Fz.of_same r), fun H r => w.stops H (Fz.of_same r), fun i H v H' h r => w.yields i H v H' h (Fz.of_same r), w.size⟩
theorem WalkD.walk {c : DC} {loose : Bool} {rel : Hp → Hp → Prop} {J : It} {ds : List D} {H1 : Hp} (w : WalkD c loose rel J ds H1) : Walk J ds.length (fun H => rel H1 H) (fun i H x H' => J.yld i H x H') :=
  ⟨fun i H h r => w.goes i H h r, fun H r => w.stops H r, fun _ _ _ _ _ _ y => y⟩
def tI (c : DC) (Γ : SEnv) (loose : Bool) (rel : Hp → Hp → Prop) (m : R (List D)) : TI := fun σ H R => ∃ O, EnvOk c O Γ σ H ∧ RE m (fun ds => ∀ J H1, Same H H1 → WalkD c loose rel J ds H1 → R J H1) (fun e => c.E e Γ)
def JI (loose : Bool) (rel : Hp → Hp → Prop) (c : DC) (X : Cx) (Γ : SEnv) (tg e : Expr) (m : R (List D)) : Prop := PI X tg e (tI c Γ loose rel m)
theorem pi_imp {X : Cx} {tg e : Expr} {t t' : TI} (h : PI X tg e t) (i : ∀ σ H Q, t' σ H Q → t σ H Q) : PI X tg e t' := ⟨fun pins s σ H Q I q => h.run pins s σ H Q I (i σ H Q q)⟩
section
variable {c : DC} {X : Cx} {Γ : SEnv} {tg a b e o : Expr} {es : List Expr} {m ma mb mo : R D} {pos p pos2 p1 p2 apos cpos : Pos} {x : Str} {loose : Bool}
theorem JI.same {m : R (List D)} (h : JI loose Fz c X Γ tg e m) : JI loose Same c X Γ tg e m := pi_imp h fun σ H R ⟨O, ok, q⟩ => ⟨O, ok, q.imp fun ds k J H1 s w => k J H1 s w.same⟩

/-! ### what may be walked -/
theorem iter_list {pins : List (Addr × Obj)} {σ : St} {H : Hp} {s : Shared} {R : It → Hp → Prop} {a : Addr} {xs : List V} (I : Inv X pins σ H s) (h : SqL X.K H a xs) (q : R (Itl X.K a) H) :
    wpAny (model X.prog X.w) X.A (pyIter (.ref a)) (PIE X pins σ tg R) X.xe s := by
  obtain ⟨its, rv, p, hz⟩ := I.list h
  refine wpAny_pyIter_list p.isList ?_
  exact pi_one (tk := s.toks) I _ (turn_list a _) ⟨_, Heap.get?_push_size _ rfl, rfl, rfl⟩ q
theorem iter_tup {pins : List (Addr × Obj)} {σ : St} {H : Hp} {s : Shared} {R : It → Hp → Prop} {a : Addr} {xs : List V} (I : Inv X pins σ H s) (h : SqT X.K H a xs) (q : R (Itt X.K a) H) :
    wpAny (model X.prog X.w) X.A (pyIter (.ref a)) (PIE X pins σ tg R) X.xe s := by
  obtain ⟨its, rv, p, hz⟩ := I.tuple h
  refine wpAny_pyIter_tuple (show s.heap.IsTuple a its.toArray from p) ?_
  exact pi_one (tk := s.toks) I _ (turn_tuple a _) ⟨_, Heap.get?_push_size _ rfl, rfl, rfl⟩ q
theorem iter_keysD {pins : List (Addr × Obj)} {σ : St} {H : Hp} {s : Shared} {R : It → Hp → Prop} {d : Addr} {o : Obj} {kvs : List (Key × V)} (I : Inv X pins σ H s) (h : H d = some (.frz o (.dK kvs))) (q : R (Itk d o kvs) H) :
    wpAny (model X.prog X.w) X.A (pyIter (.ref d)) (PIE X pins σ tg R) X.xe s := by
  obtain ⟨hs, hgd, hx, es, ep, vs, hdt, hsz, kv, hm⟩ := I.frzK h
  refine iter_keys hs hgd hx hdt (pi_one (tk := s.toks) I _ (turn_keys _ hdt) ⟨_, Heap.get?_push_size _ rfl, rfl, ?_⟩ q)
  rw [hsz] <;> rfl
theorem iter_str {pins : List (Addr × Obj)} {σ : St} {H : Hp} {s : Shared} {R : It → Hp → Prop} {z : Str} {t : Tok} (I : Inv X pins σ H s) (q : R (Its z) H) :
    wpAny (model X.prog X.w) X.A (pyIter (.str z t)) (PIE X pins σ tg R) X.xe s := by
  cases ha : z.cps.all (· < 128)
  · exact wpAny_pyIter_wide ha (pi_one (tk := s.toks) I _ (turn_str _ z t "str_iterator" (.inr rfl)) ⟨_, Heap.get?_push_size _ rfl, rfl, rfl⟩ q)
  · exact wpAny_pyIter_ascii ha (pi_one (tk := s.toks) I _ (turn_str _ z t "str_ascii_iterator" (.inl rfl)) ⟨_, Heap.get?_push_size _ rfl, rfl, rfl⟩ q)
def charsD (x : Str) : List D := x.cps.toList.map fun z => .str ⟨#[z]⟩
def dIter : D → R (List D)
  | .lst ds => .ok ds
  | .tup ds => .ok ds
  | .dct kvs => .ok (keysD kvs)
  | .dctT kvs => .ok (keysD kvs)
  | .str x => if x.cps.size ≤ sizeLine then .ok (charsD x) else .bad
  | _ => .bad
/-- a list or a tuple of one's own too -/
def dIterV : D → R (List D)
  | .lst ds => .ok ds
  | .tup ds => .ok ds
  | .str x => if x.cps.size ≤ sizeLine then .ok (charsD x) else .bad
  | _ => .bad
theorem SqT.fz {K : PySem.W.Frag} {H H' : Hp} {a : Addr} {vs : List V} (e : Fz H H') (h : TpT K H a vs) : SqT K H' a vs := (h.stay e).sq
theorem walkD_tup {H1 : Hp} {a : Addr} {vs : List V} {ds : List D} (t : TpT c.K H1 a vs) (w : RpL c.K c.mg H1 ds vs) (z : vs.length ≤ sizeLine) : WalkD c false Fz (Itt c.K a) ds H1 := by
  refine ⟨fun i H h r => ?_, fun H r => ⟨vs, SqT.fz r t, by rw [w.length]; exact Nat.le_refl _⟩, fun i H v H' h r y => ?_, by rw [← w.length]; exact z⟩
  · rw [← w.length] at h
    exact ⟨vs, vs[i], SqT.fz r t, by simp [h]⟩
  · obtain ⟨e, y⟩ := y
    subst e
    obtain ⟨d, h1, h2⟩ := (w.stay r).getV (y vs (SqT.fz r t))
    exact ⟨d, h1, Same.refl _, h2⟩
theorem walkD_lst {rel : Hp → Hp → Prop} {H1 : Hp} {a : Addr} {vs : List V} {ds : List D} (hr : ∀ H, rel H1 H → Fz H1 H ∧ SqL c.K H a vs) (w : RpL c.K c.mg H1 ds vs) (z : vs.length ≤ sizeLine) : WalkD c false rel (Itl c.K a) ds H1 := by
  refine ⟨fun i H h r => ?_, fun H r => ⟨vs, (hr H r).2, by rw [w.length]; exact Nat.le_refl _⟩, fun i H v H' h r y => ?_, by rw [← w.length]; exact z⟩
  · rw [← w.length] at h
    exact ⟨vs, vs[i], (hr H r).2, by simp [h]⟩
  · obtain ⟨e, y⟩ := y
    subst e
    obtain ⟨d, h1, h2⟩ := (w.stay (hr _ r).1).getV (y vs (hr _ r).2)
    exact ⟨d, h1, Same.refl _, h2⟩
theorem walkD_keys {H1 : Hp} {a : Addr} {o : Obj} {es : List (Key × V)} {kvs : List (D × D)} (t : H1 a = some (.frz o (.dK es))) (w : RpK c.K c.mg H1 kvs es) (z : es.length ≤ sizeLine) : WalkD c false Fz (Itk a o es) (keysD kvs) H1 := by
  have wk := w.keys
  have hl : (keysD kvs).length = es.length := by rw [← wk.length, List.length_map]
  refine ⟨fun i H h r => ⟨r _ _ _ t, by rw [← hl]; exact h⟩, fun H r => ⟨r _ _ _ t, by rw [hl]; exact Nat.le_refl _⟩, fun i H v H' h r y => ?_, by rw [hl]; exact z⟩
  obtain ⟨e, k, u, h1, h2⟩ := y
  subst e
  obtain ⟨d, g1, g2⟩ := (wk.stay r).getV (i := i) (v := v) (by rw [List.getElem?_map, h1, h2]; rfl)
  exact ⟨d, g1, Same.refl _, g2⟩
theorem iter_keysN {pins : List (Addr × Obj)} {σ : St} {H : Hp} {s : Shared} {R : It → Hp → Prop} {d : Addr} {o : Obj} {w : World} {es : List (NestedKey × Addr × V)} (I : Inv X pins σ H s) (h : H d = some (.frz o (.ext (TD w d es)))) (q : R (Itn w d o es) H) :
    wpAny (model X.prog X.w) X.A (pyIter (.ref d)) (PIE X pins σ tg R) X.xe s := by
  obtain ⟨lo, z, hg, hx, ds, ep, hd, hz, _⟩ := td_frz I h
  refine iter_keys lo hg hx hd (pi_one (tk := s.toks) I _ (turn_keysN _ hd) ⟨_, Heap.get?_push_size _ rfl, rfl, ?_⟩ q)
  rw [hz] <;> rfl
theorem walkD_keysN {H1 : Hp} {a : Addr} {o : Obj} {es : List (NestedKey × Addr × V)} {kvs : List (D × D)} (t : H1 a = some (.frz o (.ext (TD c.mg.w a es)))) (w : RpT c.K c.mg H1 kvs es) (z : es.length ≤ sizeLine) : WalkD c false Fz (Itn c.mg.w a o es) (keysD kvs) H1 := by
  have wk := w.keys
  have hl : (keysD kvs).length = es.length := by rw [← wk.length, List.length_map]
  refine ⟨fun i H h r => ⟨r _ _ _ t, by rw [← hl]; exact h⟩, fun H r => ⟨r _ _ _ t, by rw [hl]; exact Nat.le_refl _⟩, fun i H v H' h r y => ?_, by rw [hl]; exact z⟩
  obtain ⟨e, k, h1, h2⟩ := y
  subst e
  obtain ⟨d, g1, g2⟩ := (wk.stay r).getV (i := i) (v := v) (by rw [List.getElem?_map, h1, h2]; rfl)
  exact ⟨d, g1, Same.refl _, g2⟩
theorem strOk_one {x : Str} {z : Nat} (hx : strOk x = true) (h : z ∈ x.cps.toList) : strOk ⟨#[z]⟩ = true := by
  unfold strOk at hx ⊢
  rw [Array.all_eq_true'] at hx
  have := hx z (by simpa using h)
  simpa using this
theorem walkD_str {H1 : Hp} {x : Str} (hx : strOk x = true) (z : x.cps.size ≤ sizeLine) : WalkD c false Fz (Its x) (charsD x) H1 := by
  have hl : (charsD x).length = x.cps.size := by unfold charsD; rw [List.length_map, Array.length_toList]
  refine ⟨fun i H h r => by rw [hl] at h; exact h, fun H r => by rw [hl]; exact Nat.le_refl _, fun i H v H' h r y => ?_, by rw [hl]; exact z⟩
  obtain ⟨e, k, h1, h2⟩ := y
  subst e
  have h3 : x.cps.toList[i]? = some k := by simpa using h1
  refine ⟨.str ⟨#[k]⟩, by unfold charsD; rw [List.getElem?_map, h3]; rfl, Same.refl _, ?_⟩
  show Rp c.K c.mg H' (.str ⟨#[k]⟩) v
  rw [h2]
  exact Rp.str (strOk_one hx (List.mem_of_getElem? h3))
theorem ji_fz (S : Cok c X) (ha : JE c X Γ e m) : JI false Fz c X Γ tg e (m.bind dIter) := by
  refine ⟨fun pins s σ H R I ⟨O, ok, q⟩ => ?_⟩
  refine thn (ha.run pins s σ H (fun v H' => ∃ d, Same H H' ∧ Rp c.K c.mg H' d v ∧ RE (dIter d) (fun ds => ∀ J H1, Same H H1 → WalkD c false Fz J ds H1 → R J H1) (fun e => c.E e Γ)) I ⟨O, ok, q.bind.imp fun d k v H' s r => ⟨d, s, r, k⟩⟩) fun u s1 ⟨v, H1, I1, rv, d, sm, r, k⟩ => ?_
  unfold dIter at k
  split at k
  · rw [Rp] at r
    obtain ⟨a, vs, ea, ⟨ob, t⟩, w⟩ := r
    subst ea
    cases rv
    refine iter_list I1 (by rw [S.K]; exact .inl (.inr ⟨ob, t⟩)) ?_
    rw [S.K]
    exact k _ H1 sm (walkD_lst (fun H r => ⟨r, .inl (.inr ⟨ob, r _ _ _ t⟩)⟩) w (I1.list (a := a) (xs := vs) (.inl (.inr ⟨ob, t⟩))).choose_spec.2.2)
  · rw [Rp] at r
    obtain ⟨a, vs, ea, t, w⟩ := r
    subst ea
    cases rv
    refine iter_tup I1 (by rw [S.K]; exact t.sq) ?_
    rw [S.K]
    have t' : TpT X.K H1 a vs := by rw [S.K]; exact t
    exact k _ H1 sm (walkD_tup t w (I1.tuple t'.sq).choose_spec.2.2)
  · rw [Rp] at r
    obtain ⟨a, es, ea, ⟨ob, t⟩, w⟩ := r
    subst ea
    cases rv
    refine iter_keysD I1 t ?_
    exact k _ H1 sm (walkD_keys t w (show ObjOk X.prog X.w H1 s1.heap a (.frz ob (.dK es)) from I1.hok a _ t).2.1)
  · rw [Rp] at r
    obtain ⟨a, es, ea, ⟨ob, t⟩, w⟩ := r
    subst ea
    cases rv
    refine iter_keysN I1 t ?_
    exact k _ H1 sm (walkD_keysN t w (td_frz I1 t).2.1)
  · split at k
    · rename_i hz
      rw [Rp] at r
      obtain ⟨rfl, hx⟩ := r
      obtain ⟨t, rfl⟩ := rv
      exact iter_str I1 (k _ H1 sm (walkD_str hx hz))
    · exact k.elim
  · exact k.elim
/-- over what may be one's own: it must stay as it is -/
theorem ji_vw (S : Cok c X) (ha : JV c X Γ e m) : JI false Same c X Γ tg e (m.bind dIterV) := by
  refine ⟨fun pins s σ H R I ⟨O, ok, q⟩ => ?_⟩
  refine thn (ha.run pins s σ H (fun v H' => ∃ d, Same H H' ∧ Vw c.K c.mg H' d v ∧ RE (dIterV d) (fun ds => ∀ J H1, Same H H1 → WalkD c false Same J ds H1 → R J H1) (fun e => c.E e Γ)) I ⟨O, ok, q.bind.imp fun d k v H' s r => ⟨d, s, r, k⟩⟩) fun u s1 ⟨v, H1, I1, rv, d, sm, r, k⟩ => ?_
  unfold dIterV at k
  split at k
  · obtain ⟨a, vs, ea, t, w⟩ := r
    subst ea
    cases rv
    refine iter_list I1 (by rw [S.K]; exact .inl t) ?_
    rw [S.K]
    exact k _ H1 sm (walkD_lst (fun H r => ⟨Fz.of_same r, .inl (Rd.same r t)⟩) w (I1.list (a := a) (xs := vs) (.inl t)).choose_spec.2.2)
  · obtain ⟨a, vs, ea, t, w⟩ := r.tup
    subst ea
    cases rv
    refine iter_tup I1 (by rw [S.K]; exact t.sq) ?_
    rw [S.K]
    have t' : TpT X.K H1 a vs := by rw [S.K]; exact t
    exact k _ H1 sm (walkD_tup t w (I1.tuple t'.sq).choose_spec.2.2).same
  · split at k
    · rename_i hz
      obtain ⟨rfl, hx⟩ := r.str
      obtain ⟨t, rfl⟩ := rv
      exact iter_str I1 (k _ H1 sm (walkD_str hx hz).same)
    · exact k.elim
  · exact k.elim
def dRange (lo hi : Int) : R (List D) := if -(2 ^ 62) ≤ lo ∧ lo < 2 ^ 62 ∧ -(2 ^ 62) ≤ hi ∧ hi < 2 ^ 62 ∧ (hi - lo).toNat ≤ sizeLine then .ok ((List.range (hi - lo).toNat).map fun i => .int (lo + (i : Nat))) else .bad
def dRng1 : D → R (List D)
  | .int j => dRange 0 j
  | _ => .bad
def dRng2 : D → D → R (List D)
  | .int i, .int j => dRange i j
  | _, _ => .bad
theorem walkD_range {H1 : Hp} {lo : Int} {n : Nat} (z : n ≤ sizeLine) : WalkD c false Fz (Itr lo n) ((List.range n).map fun i => .int (lo + (i : Nat))) H1 := by
  have hl : ((List.range n).map fun i => D.int (lo + (i : Nat))).length = n := by rw [List.length_map, List.length_range]
  refine ⟨fun i H h r => by rw [hl] at h; exact h, fun H r => by rw [hl]; exact Nat.le_refl _, fun i H v H' h r y => ?_, by rw [hl]; exact z⟩
  obtain ⟨e, y⟩ := y
  subst e y
  rw [hl] at h
  exact ⟨.int (lo + (i : Nat)), by rw [List.getElem?_map, List.getElem?_range h]; rfl, Same.refl _, (Rp.int (K := c.K) (mg := c.mg) (H := H') (i := lo + (i : Nat)))⟩
theorem ji_range1 (ha : JE c X Γ a ma) (hg : Gl X "range") (hm : X.mg "range" = none) (hs : starEach [a] X.env = [(false, eval a X.env)] := by rfl) : JI false Fz c X Γ tg (.Call (.Name "range" p) [a] [] pos) (ma.bind dRng1) := by
  refine pi_imp (pi_range1 hg hm (pa_cons ha pa_nil hs) hs) fun σ H R ⟨O, ok, q⟩ => ⟨O, ok, q.bind.imp fun d k v H1 s1 r1 => ?_⟩
  cases d with
  | int j =>
    rw [Rp] at r1
    subst r1
    have k' : RE (dRange 0 j) (fun ds => ∀ J H1, Same H H1 → WalkD c false Fz J ds H1 → R J H1) (fun e => c.E e Γ) := k
    unfold dRange at k'
    split at k'
    · rename_i h
      refine ⟨j, rfl, h.2.2.1, h.2.2.2.1, ?_⟩
      have := k' (Itr 0 (j - 0).toNat) H1 s1 (walkD_range h.2.2.2.2)
      simpa using this
    · exact k'.elim
  | _ => exact (show False from k).elim
theorem ji_range2 (ha : JE c X Γ a ma) (hb : JE c X Γ b mb) (hg : Gl X "range") (hm : X.mg "range" = none) (hs : starEach [a, b] X.env = [(false, eval a X.env), (false, eval b X.env)] := by rfl) (hs2 : starEach [b] X.env = [(false, eval b X.env)] := by rfl) :
    JI false Fz c X Γ tg (.Call (.Name "range" p) [a, b] [] pos) (ma.bind fun x => mb.bind fun y => dRng2 x y) := by
  refine pi_imp (pi_range2 hg hm (pa_cons ha (pa_cons hb pa_nil hs2) (by rw [hs, hs2])) hs hs2) fun σ H R ⟨O, ok, q⟩ => ⟨O, ok, q.bind.imp fun d k v H1 s1 r1 => ⟨O, ok.same s1, k.bind.imp fun d2 k2 v2 H2 s2 r2 => ?_⟩⟩
  unfold dRng2 at k2
  split at k2
  · rw [Rp] at r1 r2
    subst r1 r2
    unfold dRange at k2
    split at k2
    · rename_i h
      exact ⟨_, _, rfl, ⟨h.1, h.2.1, h.2.2.1, h.2.2.2.1⟩, k2 _ H2 (s1.trans s2) (walkD_range h.2.2.2.2)⟩
    · exact k2.elim
  · exact k2.elim
def enumD (ds : List D) : List D := ds.zipIdx.map fun p => .tup [.int (p.2 : Nat), p.1]
def dEnum : D → R (List D)
  | .lst ds => if ds.length ≤ sizeLine then .ok (enumD ds) else .bad
  | _ => .bad
theorem enumD_get {ds : List D} {i : Nat} {d : D} (h : ds[i]? = some d) : (enumD ds)[i]? = some (.tup [.int (i : Nat), d]) := by
  unfold enumD
  rw [List.getElem?_map, List.getElem?_zipIdx, h]
  simp
theorem walkD_enum {rel : Hp → Hp → Prop} {H1 : Hp} {a : Addr} {vs : List V} {ds : List D} (hr : ∀ H, rel H1 H → Fz H1 H ∧ SqL c.K H a vs) (w : RpL c.K c.mg H1 ds vs) (z : vs.length ≤ sizeLine) : WalkD c true rel (Ite c.K a) (enumD ds) H1 := by
  have hl : (enumD ds).length = ds.length := by unfold enumD; rw [List.length_map, List.length_zipIdx]
  have W := walk_enum (K := c.K) (a := a) (xs := vs)
  refine ⟨fun i H h r => W.goes i H (by rw [hl, ← w.length] at h; exact h) (hr H r).2, fun H r => by rw [hl, ← w.length]; exact W.stops H (hr H r).2, fun i H v H' h r y => ?_, by rw [hl, ← w.length]; exact z⟩
  have hi : i < vs.length := by rw [hl, ← w.length] at h; exact h
  obtain ⟨T, x, y', ev, n, e, e1, e2⟩ := W.yields i H v H' hi (hr H r).2 y
  cases e1
  obtain ⟨d, g1, g2⟩ := (w.stay (hr H r).1).getV e2
  subst ev e
  refine ⟨_, enumD_get g1, same_new n, ?_⟩
  exact ⟨T, _, rfl, .inl (.inl upd_same), RpL.cons.mpr ⟨_, _, rfl, Rp.int, RpL.one (g2.same (same_new n))⟩⟩
theorem ji_enum {elts : List Expr} {kk : Nat} {tpos : Pos} (S : Cok c X) (ha : JE c X Γ e m) (hg : Gl X "enumerate") (hm : X.mg "enumerate" = none) (hs : starEach [e] X.env = [(false, eval e X.env)] := by rfl) :
    JI true Fz c X Γ (.Tuple elts kk tpos) (.Call (.Name "enumerate" p) [e] [] pos) (m.bind dEnum) := by
  refine pi_imp (pi_enum hg hm (pa_cons ha pa_nil hs) hs) fun σ H R ⟨O, ok, q⟩ => ⟨O, ok, q.bind.imp fun d k v H1 s1 r1 => ?_⟩
  unfold dEnum at k
  split at k
  · split at k
    · rename_i h
      rw [Rp] at r1
      obtain ⟨a, vs, rfl, ⟨ob, t⟩, w⟩ := r1
      refine ⟨a, vs, rfl, .inl (.inr ⟨ob, t⟩), ?_⟩
      rw [S.K]
      exact k _ H1 s1 (walkD_enum (fun H r => ⟨r, .inl (.inr ⟨ob, r _ _ _ t⟩)⟩) w (by rw [w.length]; exact h))
    · exact k.elim
  · exact k.elim
def itemsD (kvs : List (D × D)) : List D := kvs.map fun p => .tup [p.1, p.2]
def dItems : D → R (List D)
  | .dct kvs => if kvs.length ≤ sizeLine then .ok (itemsD kvs) else .bad
  | _ => .bad
def valsD (kvs : List (D × D)) : List D := kvs.map (·.2)
def dVals : D → R (List D)
  | .dct kvs => if kvs.length ≤ sizeLine then .ok (valsD kvs) else .bad
  | _ => .bad
theorem RpK.vals {K : PySem.W.Frag} {mg : MG} {H : Hp} : ∀ {kvs : List (D × D)} {es : List (Key × V)}, RpK K mg H kvs es → RpL K mg H (valsD kvs) (es.map (·.2))
  | [], es, h => by rw [RpK] at h; rw [h]; exact RpL.nil.mpr rfl
  | (k, d) :: r, es, h => by
    rw [RpK] at h
    obtain ⟨κ, v, s, e, hk, hv, h⟩ := h
    rw [e]
    exact RpL.cons.mpr ⟨v, _, rfl, hv, RpK.vals h⟩
theorem ji_items {elts : List Expr} {kk : Nat} {tpos : Pos} (ha : JE c X Γ e m) (hbase : attributeBase e "items" X.env (eval e X.env) = eval e X.env := by rfl) (hline : (apos.endLine == cpos.line) = true := by rfl) :
    JI true Fz c X Γ (.Tuple elts kk tpos) (.Call (.Attribute e "items" apos) [] [] cpos) (m.bind dItems) := by
  refine pi_imp (pi_items ha hbase hline) fun σ H R ⟨O, ok, q⟩ => ⟨O, ok, q.bind.imp fun d k v H1 s1 r1 => ?_⟩
  unfold dItems at k
  split at k
  · rename_i kvs
    split at k
    · rename_i h
      rw [Rp] at r1
      obtain ⟨a, es, rfl, ⟨ob, t⟩, w⟩ := r1
      have wk := w.keys
      have wv := w.vals
      have hl : es.length = kvs.length := by have := wv.length; unfold valsD at this; simpa using this
      have W := walk_items (d := a) (o := ob) (kvs := es)
      have hil : (itemsD kvs).length = es.length := by unfold itemsD; rw [List.length_map, hl]
      refine ⟨a, ob, es, rfl, t, k _ H1 s1 ⟨fun i H h r => W.goes i H (by rw [← hil]; exact h) (r _ _ _ t), fun H r => by rw [hil]; exact W.stops H (r _ _ _ t), fun i H v H' h r y => ?_, by rw [hil, hl]; exact h⟩⟩
      have hi : i < es.length := by rw [← hil]; exact h
      obtain ⟨T, x, y', ev, n, e, e1, e2⟩ := W.yields i H v H' hi (r _ _ _ t) y
      obtain ⟨d1, g1, g2⟩ := (wk.stay r).getV (i := i) (v := x) (by rw [List.getElem?_map]; exact e1)
      obtain ⟨d2, g3, g4⟩ := (wv.stay r).getV (i := i) (v := y') (by rw [List.getElem?_map]; exact e2)
      subst ev e
      have gi : (itemsD kvs)[i]? = some (.tup [d1, d2]) := by
        unfold keysD at g1
        unfold valsD at g3
        unfold itemsD
        rw [List.getElem?_map] at g1 g3 ⊢
        cases hk : kvs[i]? with
        | none => rw [hk] at g1; cases g1
        | some p => rw [hk] at g1 g3; cases g1; cases g3; rfl
      exact ⟨_, gi, same_new n, T, _, rfl, .inl (.inl upd_same), RpL.cons.mpr ⟨_, _, rfl, g2.same (same_new n), RpL.one (g4.same (same_new n))⟩⟩
    · exact k.elim
  · exact k.elim
theorem ji_vals (ha : JE c X Γ e m) (hbase : attributeBase e "values" X.env (eval e X.env) = eval e X.env := by rfl) (hline : (apos.endLine == cpos.line) = true := by rfl) :
    JI false Fz c X Γ tg (.Call (.Attribute e "values" apos) [] [] cpos) (m.bind dVals) := by
  refine pi_imp (pi_values ha hbase hline) fun σ H R ⟨O, ok, q⟩ => ⟨O, ok, q.bind.imp fun d k v H1 s1 r1 => ?_⟩
  unfold dVals at k
  split at k
  · rename_i kvs
    split at k
    · rename_i h
      rw [Rp] at r1
      obtain ⟨a, es, rfl, ⟨ob, t⟩, w⟩ := r1
      have wv := w.vals
      have hl : es.length = (valsD kvs).length := by have := wv.length; simpa using this
      have W := walk_values (d := a) (o := ob) (kvs := es)
      refine ⟨a, ob, es, rfl, t, k _ H1 s1 ⟨fun i H h r => W.goes i H (by rw [hl]; exact h) (r _ _ _ t), fun H r => by rw [← hl]; exact W.stops H (r _ _ _ t), fun i H v H' h r y => ?_, by unfold valsD; rw [List.length_map]; exact h⟩⟩
      have hi : i < es.length := by rw [hl]; exact h
      obtain ⟨e, κ, e1⟩ := W.yields i H v H' hi (r _ _ _ t) y
      subst e
      obtain ⟨d2, g3, g4⟩ := (wv.stay r).getV (i := i) (v := v) (by rw [List.getElem?_map, e1]; rfl)
      exact ⟨_, g3, Same.refl _, g4⟩
    · exact k.elim
  · exact k.elim
end
end PD
end

section
/-! PD11: targets, comprehensions. -/
namespace PD
open PySem PySem.Spec L2
open PyProof.Rows hiding St
open PySem.PyData (strOk)

/-! ### targets -/
/-- only slots of is are changed -/
def Chg (is : List Nat) (σ σ' : St) : Prop := ∀ vs : List Nat, (∀ i ∈ is, i ∈ vs) → wipe σ' vs = wipe σ vs
theorem wipe_comm {σ : St} {i : Nat} {x : Option V} : ∀ {vs : List Nat}, i ∉ vs → wipe (σ.set i x) vs = (wipe σ vs).set i x
  | [], _ => rfl
  | v :: vs, h => by
    simp only [List.mem_cons, not_or] at h
    unfold wipe
    rw [wipe_comm h.2, List.set_comm _ _ h.1]
theorem wipe_setIn {σ : St} {i : Nat} {x : Option V} : ∀ {vs : List Nat}, i ∈ vs → wipe (σ.set i x) vs = wipe σ vs
  | v :: vs, h => by
    unfold wipe
    by_cases hi : i ∈ vs
    · rw [wipe_setIn hi]
    · have e : i = v := by
        rcases List.mem_cons.mp h with e | e
        · exact e
        · exact absurd e hi
      subst e
      rw [wipe_comm hi, List.set_set]
theorem Chg.refl {is : List Nat} {σ : St} : Chg is σ σ := fun _ _ => rfl
theorem Chg.set {is : List Nat} {σ : St} {i : Nat} {x : Option V} (h : i ∈ is) : Chg is σ (σ.set i x) := fun vs hv => wipe_setIn (hv i h)
theorem Chg.trans {is : List Nat} {σ σ1 σ2 : St} (a : Chg is σ σ1) (b : Chg is σ1 σ2) : Chg is σ σ2 := fun vs hv => (b vs hv).trans (a vs hv)
theorem Chg.mono {is js : List Nat} {σ σ1 : St} (a : Chg is σ σ1) (h : ∀ i ∈ is, i ∈ js) : Chg js σ σ1 := fun vs hv => a vs fun i hi => hv i (h i hi)
theorem Chg.wiped {σ : St} : ∀ vs : List Nat, Chg vs σ (wipe σ vs)
  | [] => Chg.refl
  | v :: vs => ((Chg.wiped vs).mono fun i hi => List.mem_cons_of_mem _ hi).trans (Chg.set (List.mem_cons_self ..))
theorem wipe_idem (σ : St) (vs : List Nat) : wipe (wipe σ vs) vs = wipe σ vs := Chg.wiped vs vs fun _ h => h
/-- what a target does with a datum: taken apart by un, stored by up -/
def SG (c : DC) (loose : Bool) (is : List Nat) (g : TG) {α : Type} (un : D → R α) (up : α → SEnv → SEnv) : Prop :=
  (∀ {O Γ σ H d v a} {Q : St → Hp → Prop}, EnvOk c O Γ σ H → Yd c loose H d v → un d = .ok a → (∀ σ', Chg is σ σ' → EnvOk c O (up a Γ) σ' H → Q σ' H) → g v σ H Q) ∧ ∀ d e, un d ≠ .exc e
section
variable {c : DC}
theorem sg_name (i : Nat) : SG c false [i] (gName i) R.ok (fun d Γ => Γ.set i (.fz d)) := by
  refine ⟨fun {O Γ σ H d v a Q} ok y e q => ?_, fun d e => by simp⟩
  cases e
  exact q _ (Chg.set (List.mem_singleton.mpr rfl)) (ok.setFz i y)
def un2 : D → R (D × D)
  | .tup [a, b] => .ok (a, b)
  | _ => .bad
def un3 : D → R (D × D × D)
  | .tup [a, b, e] => .ok (a, b, e)
  | _ => .bad
theorem Yd.sq {l : Bool} {H : Hp} {ds : List D} {v : V} (h : Yd c l H (.tup ds) v) : ∃ a vs, v = .ref a ∧ SqT c.K H a vs ∧ RpL c.K c.mg H ds vs := by
  unfold Yd at h
  split at h
  · exact h
  · rw [Rp] at h; obtain ⟨a, vs, e, t, w⟩ := h; exact ⟨a, vs, e, t.sq, w⟩
theorem sg_two {l : Bool} (i j : Nat) : SG c l [i, j] (gTup c.K 2 (gCons (gName i) (gCons (gName j) gNil))) un2 (fun p Γ => (Γ.set i (.fz p.1)).set j (.fz p.2)) := by
  refine ⟨fun {O Γ σ H d v a Q} ok y e q => ?_, fun d e => by unfold un2; split <;> simp⟩
  unfold un2 at e
  split at e
  · cases e
    obtain ⟨a, vs, rfl, t, w⟩ := y.sq
    obtain ⟨v1, r, rfl, h1, w⟩ := RpL.cons.mp w
    obtain ⟨v2, r, rfl, h2, w⟩ := RpL.cons.mp w
    rw [RpL.nil] at w
    subst w
    exact ⟨a, _, rfl, t, rfl, v1, _, rfl, v2, _, rfl, rfl, q _ ((Chg.set (by simp)).trans (Chg.set (by simp))) ((ok.setFz i h1).setFz j h2)⟩
  · cases e
theorem sg_three {l : Bool} (i j k : Nat) : SG c l [i, j, k] (gTup c.K 3 (gCons (gName i) (gCons (gName j) (gCons (gName k) gNil)))) un3 (fun p Γ => ((Γ.set i (.fz p.1)).set j (.fz p.2.1)).set k (.fz p.2.2)) := by
  refine ⟨fun {O Γ σ H d v a Q} ok y e q => ?_, fun d e => by unfold un3; split <;> simp⟩
  unfold un3 at e
  split at e
  · cases e
    obtain ⟨a, vs, rfl, t, w⟩ := y.sq
    obtain ⟨v1, r, rfl, h1, w⟩ := RpL.cons.mp w
    obtain ⟨v2, r, rfl, h2, w⟩ := RpL.cons.mp w
    obtain ⟨v3, r, rfl, h3, w⟩ := RpL.cons.mp w
    rw [RpL.nil] at w
    subst w
    exact ⟨a, _, rfl, t, rfl, v1, _, rfl, v2, _, rfl, v3, _, rfl, rfl, q _ (((Chg.set (by simp)).trans (Chg.set (by simp))).trans (Chg.set (by simp))) (((ok.setFz i h1).setFz j h2).setFz k h3)⟩
  · cases e
/-- (t1, t2), targets of any form -/
theorem sg_pair {l : Bool} {is js : List Nat} {g1 g2 : TG} {α β : Type} {u1 : D → R α} {u2 : D → R β} {p1 : α → SEnv → SEnv} {p2 : β → SEnv → SEnv} (s1 : SG c false is g1 u1 p1) (s2 : SG c false js g2 u2 p2) :
    SG c l (is ++ js) (gTup c.K 2 (gCons g1 (gCons g2 gNil))) (fun d => (un2 d).bind fun p => (u1 p.1).bind fun x => (u2 p.2).bind fun y => .ok (x, y)) (fun p Γ => p2 p.2 (p1 p.1 Γ)) := by
  refine ⟨fun {O Γ σ H d v a Q} ok y e q => ?_, fun d e h => ?_⟩
  · obtain ⟨⟨d1, d2⟩, e1, e⟩ := R.bind_eq_ok e
    obtain ⟨x, e2, e⟩ := R.bind_eq_ok e
    obtain ⟨z, e3, e⟩ := R.bind_eq_ok e
    cases e
    unfold un2 at e1
    split at e1
    · cases e1
      obtain ⟨a, vs, rfl, t, w⟩ := y.sq
      obtain ⟨v1, r, rfl, h1, w⟩ := RpL.cons.mp w
      obtain ⟨v2, r, rfl, h2, w⟩ := RpL.cons.mp w
      rw [RpL.nil] at w
      subst w
      refine ⟨a, _, rfl, t, rfl, v1, _, rfl, s1.1 ok h1 e2 fun σ1 c1 ok1 => ⟨v2, _, rfl, s2.1 ok1 h2 e3 fun σ2 c2 ok2 => ⟨rfl, q σ2 ?_ ok2⟩⟩⟩
      exact (c1.mono fun i hi => List.mem_append_left _ hi).trans (c2.mono fun i hi => List.mem_append_right _ hi)
    · cases e1
  · rcases R.bind_eq_exc h with h | ⟨p, _, h⟩
    · unfold un2 at h; split at h <;> cases h
    · rcases R.bind_eq_exc h with h | ⟨x, _, h⟩
      · exact s1.2 _ _ h
      · rcases R.bind_eq_exc h with h | ⟨y, _, h⟩
        · exact s2.2 _ _ h
        · cases h
end

/-! ### a block's context -/
/-- the env within a comprehension: own things are read alone, the block's names are unknown -/
def Slot.view : Slot → Slot
  | .ow _ d => .vw d
  | .gv d => .vw d
  | s => s
def SEnv.wipe (Γ : SEnv) : List Nat → SEnv
  | [] => Γ
  | v :: vs => (SEnv.wipe Γ vs).set v .un
def SEnv.inn (Γ : SEnv) (vs : List Nat) : SEnv := SEnv.wipe (Γ.map Slot.view) vs
def DC.inn (c : DC) : DC := { c with G := fun _ => none, B := fun _ => none, E := fun _ _ => False, X := fun _ => False, xe := fun _ _ h => h }
section
variable {c : DC} {O : Addr → Prop} {Γ : SEnv} {σ : St} {H H' : Hp} {X : Cx}
theorem EnvOk.view (h : EnvOk c O Γ σ H) : EnvOk c.inn (fun _ => False) (Γ.map Slot.view) σ H := by
  refine ⟨fun b o q => (nomatch (show (none : Option HO) = some o from q.elim id id)), fun b z => z.elim, fun i s q => ?_, (by rw [List.length_map]; exact h.ln), fun i j t d u e p q1 => ?_⟩
  · rw [List.getElem?_map] at q
    obtain ⟨s', q', rfl⟩ := Option.map_eq_some_iff.mp q
    have k := h.sl i s' q'
    cases s' with
    | un => trivial
    | fz d => exact k
    | ow t d => obtain ⟨p, e, _, _, r⟩ := k; exact ⟨_, e, Vw.own r⟩
    | vw d => exact k
    | gv d => obtain ⟨v, e, r⟩ := k; exact ⟨v, e, r.same fun a o q => (h.kp a o (.inr q)).1⟩
  · rw [List.getElem?_map] at q1
    obtain ⟨s', _, z⟩ := Option.map_eq_some_iff.mp q1
    cases s' <;> cases z
theorem EnvOk.wiped (h : EnvOk c O Γ σ H) : ∀ vs : List Nat, EnvOk c O (SEnv.wipe Γ vs) (L2.wipe σ vs) H
  | [] => h
  | v :: vs => (h.wiped vs).setUn v
theorem EnvOk.inn (h : EnvOk c O Γ σ H) (vs : List Nat) : EnvOk c.inn (fun _ => False) (Γ.inn vs) (L2.wipe σ vs) H := h.view.wiped vs
theorem Cok.blk (S : Cok c X) {s : Shared} {H : Hp} {scope : Scope} {cenv : Env} {fp : List Addr} : Cok c.inn (X.blk s H scope cenv fp) := ⟨S.K, S.mg, S.w, S.calm, S.un, S.gd, S.nd⟩
end

/-! ### [elt for target in iter if test] -/
def nox {α : Type} : R α → R α
  | .exc _ => .bad
  | m => m
def compR (f : D → R (Option D)) : List D → R (List D)
  | [] => .ok []
  | d :: r => (nox (f d)).bind fun o => (compR f r).bind fun l => .ok (match o with
    | none => l
    | some x => x :: l)
/-- a clause's tests -/
def JTs (c : DC) (X : Cx) (Γ : SEnv) (ifs : List Expr) (m : R Bool) : Prop := PTs X ifs (tT c Γ m)
theorem jts_nil {c : DC} {X : Cx} {Γ : SEnv} : JTs c X Γ [] (.ok true) := ⟨fun pins s σ H Q I ⟨O, ok, q⟩ => pts_nil.run pins s σ H Q I (q H (Same.refl H))⟩
theorem jts_one {c : DC} {X : Cx} {Γ : SEnv} {e : Expr} {m : R Bool} (h : JT c X Γ e m) : JTs c X Γ [e] m := pts_one h
theorem RE.nox {α : Type} {m : R α} {A : α → Prop} {E : Str → Prop} (h : RE (nox m) A E) : ∃ a, m = .ok a ∧ A a := by
  cases m with
  | ok a => exact ⟨a, rfl, h⟩
  | exc e => exact h.elim
  | bad => exact h.elim
section
variable {c : DC} {X : Cx} {Γ : SEnv} {loose : Bool} {α : Type} {tg iter elt kx vx : Expr} {ifs : List Expr} {scope : Scope} {own : List (Str × Nat)} {pos : Pos} {is : List Nat} {g : TG} {un : D → R α} {up : α → SEnv → SEnv} {mi : R (List D)} {mt : α → R Bool} {me mk mv : α → R D}
theorem tlc_of {vs : List Nat} (sg : SG c.inn loose is g un up) (his : ∀ i ∈ is, i ∈ vs) : ∀ σ H Q,
    tO c Γ (mi.bind fun ds => (compR (fun d => (un d).bind fun a => (mt a).bind fun t => if t = true then (me a).bind fun x => .ok (some x) else .ok none) ds).bind fun l => .ok (.lst l)) σ H Q →
    tLc (tI c Γ loose Same mi) g (fun σ H Q => ∃ a, tT c.inn (up a (Γ.inn vs)) (mt a) σ H Q) (fun σ H Q => ∃ a, tR c.inn (up a (Γ.inn vs)) (me a) σ H Q) vs σ H Q := by
  refine fun σ H Q ⟨O, okE, q⟩ => ⟨O, okE, q.bind.imp fun ds k J H1 s1 w => ?_⟩
  intro D nD
  refine lc_it (g := g) (tt := fun σ H Q => ∃ a, tT c.inn (up a (Γ.inn (vs))) (mt a) σ H Q) (te := fun σ H Q => ∃ a, tR c.inn (up a (Γ.inn (vs))) (me a) σ H Q) (vs := vs) (σ := σ) (H1 := H1) (D := D) (Qd := fun H => Q (.ref D) H) w.walk (fun i H' => Same H1 H' ∧ ∃ acc out, H' D = some (.lst acc) ∧ RpL c.K c.mg H' out acc ∧ out.length ≤ i ∧
    RE (compR (fun d => (un d).bind fun a => (mt a).bind fun t => if t = true then (me a).bind fun x => .ok (some x) else .ok none) (ds.drop i)) (fun rest => ∀ p H'', Same H H'' → H p = none → Own c.K c.mg H'' p (.lst (out ++ rest)) → Q (.ref p) H'') (fun e => c.E e Γ)) ?_ ?_ ?_ ?_
  · exact ⟨same_new nD, [], [], upd_same, RpL.nil.mpr rfl, Nat.le_refl _, (show RE (compR _ ds) _ _ from RE.bind k).imp fun l k => k⟩
  · exact fun i H' _ h => h.1
  · rintro i x H2 H3 hi2 ⟨sm, acc, out, hD, hr, hlen, k2⟩ y
    obtain ⟨d, hd, s2, yd⟩ := w.yields i H2 x H3 hi2 sm y
    have hdrop : ds.drop i = d :: ds.drop (i + 1) := by
      obtain ⟨hl, e⟩ := List.getElem?_eq_some_iff.mp hd
      rw [List.drop_eq_getElem_cons hl, e]
    rw [hdrop, compR] at k2
    obtain ⟨op, hf, k3⟩ := RE.nox (RE.bind k2)
    obtain ⟨a, hu, hf⟩ := R.bind_eq_ok hf
    obtain ⟨t, htv, hf⟩ := R.bind_eq_ok hf
    have sm3 : Same H1 H3 := sm.trans s2
    have ok3 : EnvOk c.inn (fun _ => False) (Γ.inn (vs)) (L2.wipe σ (vs)) H3 := ((okE.same s1).same sm3).inn _
    refine sg.1 ok3 yd hu fun σ' chg ok' => ⟨(chg _ his).trans (wipe_idem _ _), a, fun _ => False, ok', ?_⟩
    rw [htv]
    intro H4 s4
    have hD4 : H4 D = some (.lst acc) := s4 _ _ (s2 _ _ hD)
    have hr4 : RpL c.K c.mg H4 out acc := (hr.same s2).same s4
    cases t with
    | false =>
      cases hf
      rw [if_neg (by simp)]
      refine ⟨sm3.trans s4, acc, out, hD4, hr4, by omega, (show RE (compR _ (ds.drop (i + 1))) _ _ from RE.bind k3).imp fun l k => k⟩
    | true =>
      rw [if_pos rfl] at hf ⊢
      obtain ⟨z, hz, hf⟩ := R.bind_eq_ok hf
      cases hf
      refine ⟨a, fun _ => False, ok'.same s4, ?_⟩
      rw [hz]
      intro v5 H5 s5 r5
      have hD5 : H5 D = some (.lst acc) := s5 _ _ hD4
      have fz := fz_upd (o' := .lst (acc ++ [v5])) hD5 trivial
      have hl : out.length = acc.length := hr4.length.symm
      have hz := w.size
      refine ⟨acc, hD5, by omega, fun b ob hb => ?_, acc ++ [v5], out ++ [z], upd_same, ((hr4.same s5).append (RpL.one r5)).stay fz, by rw [List.length_append, List.length_singleton]; omega, (show RE (compR _ (ds.drop (i + 1))) _ _ from RE.bind k3).imp fun l k => ?_⟩
      · rw [upd_ne (ne_of_none hb nD)]
        exact s5 _ _ (s4 _ _ (sm3 _ _ hb))
      · have k : ∀ p H'', Same H H'' → H p = none → Own c.K c.mg H'' p (.lst (out ++ z :: l)) → Q (.ref p) H'' := k
        intro p H'' e1 e2 e3
        rw [List.append_assoc] at e3
        exact k p H'' e1 e2 e3
  · rintro H' ⟨sm, acc, out, hD, hr, hlen, k2⟩
    rw [List.drop_length, compR] at k2
    have k2 : ∀ p H'', Same H H'' → H p = none → Own c.K c.mg H'' p (.lst (out ++ [])) → Q (.ref p) H'' := k2
    refine k2 D H' (s1.trans sm) (s1.free nD) ?_
    rw [List.append_nil]
    exact ⟨acc, hD, hr⟩
theorem jo_lc (S : Cok c X) (hi : JI loose Same c X Γ tg iter mi) (sg : SG c.inn loose is g un up) (ok : BlkOk X.N X.env.scope scope own) (his : ∀ i ∈ is, i ∈ own.map (·.2))
    (hg : ∀ (s : Shared) (H : Hp) (C : Addr) (cl : List (Str × Addr)) (fp : List Addr), Cok c.inn (X.blk s H scope (compEnvC scope cl C X.env) fp) → PG (X.blk s H scope (compEnvC scope cl C X.env) fp) tg g)
    (ht : ∀ (s : Shared) (H : Hp) (C : Addr) (cl : List (Str × Addr)) (fp : List Addr), Cok c.inn (X.blk s H scope (compEnvC scope cl C X.env) fp) → ∀ a : α, JTs c.inn (X.blk s H scope (compEnvC scope cl C X.env) fp) (up a (Γ.inn (own.map (·.2)))) ifs (mt a))
    (he : ∀ (s : Shared) (H : Hp) (C : Addr) (cl : List (Str × Addr)) (fp : List Addr), Cok c.inn (X.blk s H scope (compEnvC scope cl C X.env) fp) → ∀ a : α, JE c.inn (X.blk s H scope (compEnvC scope cl C X.env) fp) (up a (Γ.inn (own.map (·.2)))) elt (me a))
    (hs : ∀ x, foldedSetIterable iter X.env x = pure x := by intro _; rfl) :
    JO c X Γ (.ListComp elt [⟨tg, iter, ifs, 0⟩] scope pos) (mi.bind fun ds => (compR (fun d => (un d).bind fun a => (mt a).bind fun t => if t = true then (me a).bind fun x => .ok (some x) else .ok none) ds).bind fun l => .ok (.lst l)) :=
  pe_imp (pe_lc S.calm S.nd hi ok (fun s H C cl fp => hg s H C cl fp S.blk) (fun s H C cl fp => ⟨fun pins t σ H' Q I ⟨a, q⟩ => (ht s H C cl fp S.blk a).run pins t σ H' Q I q⟩) (fun s H C cl fp => ⟨fun pins t σ H' Q I ⟨a, q⟩ => (he s H C cl fp S.blk a).run pins t σ H' Q I q⟩) hs) (tlc_of sg his)
/-! ### {k: v for target in iter if test} -/
def dcompR (f : D → R (Option (D × D))) : List D → List (D × D) → R (List (D × D))
  | [], acc => .ok acc
  | d :: r, acc => (nox (f d)).bind fun o => match o with
    | none => dcompR f r acc
    | some p => if p.1.isK = true then dcompR f r (dput D.keq acc p.1 p.2) else .bad
theorem dc_it {J : It} {n : Nat} {G : Hp → Prop} {Y : Nat → Hp → V → Hp → Prop} (w : Walk J n G Y) {g : TG} {tt : TT} {tk tv : TE} {vs : List Nat} {σ : St} {H1 : Hp} {D : Addr} {Qd : Hp → Prop} (Pv : Nat → Hp → Prop) (h0 : Pv 0 (upd H1 D (.dK []))) (hG : ∀ i H, i ≤ n → Pv i H → G H)
    (hs : ∀ i x H H', i < n → Pv i H → Y i H x H' → g x (wipe σ vs) H' fun σ2 H2 => wipe σ2 vs = wipe σ vs ∧ tt σ2 H2 fun b H3 =>
      if b = true then tk σ2 H3 fun y H4 => tv σ2 H4 fun z H5 => ∃ kvs k, y = kV k ∧ H5 D = some (.dK kvs) ∧ kvs.length < sizeLine ∧ Pv (i + 1) (upd H5 D (.dK (putK kvs k z))) else Pv (i + 1) H3) (hd : ∀ H, Pv n H → Qd H) :
    ∃ W : Nat → Nat → Hp → Prop, (∃ m, W 0 m (upd H1 D (.dK []))) ∧ ∀ i m H, W i m H →
      (J.stop i H ∧ Qd H) ∨ (J.go i H ∧ ∃ Nx : Hp → Prop, (∀ H', Nx H' → ∃ m', m' < m ∧ W (i + 1) m' H') ∧ ∀ x H', J.yld i H x H' → g x (wipe σ vs) H' fun σ2 H2 => wipe σ2 vs = wipe σ vs ∧ tt σ2 H2 fun b H3 =>
        if b = true then tk σ2 H3 fun y H4 => tv σ2 H4 fun z H5 => ∃ kvs k, y = kV k ∧ H5 D = some (.dK kvs) ∧ kvs.length < sizeLine ∧ Nx (upd H5 D (.dK (putK kvs k z))) else Nx H3) := by
  refine ⟨fun i m H => m = n - i ∧ i ≤ n ∧ Pv i H, ⟨n, by simp, Nat.zero_le _, h0⟩, ?_⟩
  rintro i m H ⟨rfl, hi, p⟩
  have q := hG i H hi p
  by_cases hlt : i < n
  · exact .inr ⟨w.goes i H hlt q, Pv (i + 1), fun H' p' => ⟨n - (i + 1), by omega, rfl, hlt, p'⟩, fun x H' y => hs i x H H' hlt p (w.yields i H x H' hlt q y)⟩
  · have e : i = n := by omega
    subst e
    exact .inl ⟨w.stops H q, hd H p⟩
theorem dput_length (eq : D → D → Bool) (kvs : List (D × D)) (k v : D) : (dput eq kvs k v).length ≤ kvs.length + 1 := by
  unfold dput
  split
  · rw [List.length_map]; omega
  · rw [List.length_append, List.length_singleton]; exact Nat.le_refl _
theorem RpK.put {K : PySem.W.Frag} {mg : MG} {H : Hp} {kvs : List (D × D)} {es : List (Key × V)} {k d : D} {l : Key} {v : V} (h : RpK K mg H kvs es) (hk : IsKey k l) (hv : Rp K mg H d v) : RpK K mg H (dput D.keq kvs k d) (putK es l v) :=
  RpK.tab.mpr (TabOk.put (IK := IsKey) (eq := D.keq) (fun _ _ _ _ a b => IsKey.keq a b) hk hv (RpK.tab.mp h))
theorem tdc_of {vs : List Nat} (sg : SG c.inn loose is g un up) (his : ∀ i ∈ is, i ∈ vs) : ∀ σ H Q,
    tO c Γ (mi.bind fun ds => (dcompR (fun d => (un d).bind fun a => (mt a).bind fun t => if t = true then (mk a).bind fun x => (mv a).bind fun y => .ok (some (x, y)) else .ok none) ds []).bind fun l => .ok (.dct l)) σ H Q →
    tDc (tI c Γ loose Same mi) g (fun σ H Q => ∃ a, tT c.inn (up a (Γ.inn vs)) (mt a) σ H Q) (fun σ H Q => ∃ a, tR c.inn (up a (Γ.inn vs)) (mk a) σ H Q) (fun σ H Q => ∃ a, tR c.inn (up a (Γ.inn vs)) (mv a) σ H Q) vs σ H Q := by
  refine fun σ H Q ⟨O, okE, q⟩ => ⟨O, okE, q.bind.imp fun ds k J H1 s1 w => ?_⟩
  intro D nD
  refine dc_it (g := g) (tt := fun σ H Q => ∃ a, tT c.inn (up a (Γ.inn (vs))) (mt a) σ H Q) (tk := fun σ H Q => ∃ a, tR c.inn (up a (Γ.inn (vs))) (mk a) σ H Q) (tv := fun σ H Q => ∃ a, tR c.inn (up a (Γ.inn (vs))) (mv a) σ H Q) (vs := vs) (σ := σ) (H1 := H1) (D := D) (Qd := fun H => Q (.ref D) H) w.walk
    (fun i H' => Same H1 H' ∧ ∃ es out, H' D = some (.dK es) ∧ RpK c.K c.mg H' out es ∧ out.length ≤ i ∧
    RE (dcompR (fun d => (un d).bind fun a => (mt a).bind fun t => if t = true then (mk a).bind fun x => (mv a).bind fun y => .ok (some (x, y)) else .ok none) (ds.drop i) out) (fun rest => ∀ p H'', Same H H'' → H p = none → Own c.K c.mg H'' p (.dct rest) → Q (.ref p) H'') (fun e => c.E e Γ)) ?_ ?_ ?_ ?_
  · exact ⟨same_new nD, [], [], upd_same, by rw [RpK], Nat.le_refl _, (show RE (dcompR _ ds []) _ _ from RE.bind k).imp fun l k => k⟩
  · exact fun i H' _ h => h.1
  · rintro i x H2 H3 hi2 ⟨sm, acc, out, hD, hr, hlen, k2⟩ y
    obtain ⟨d, hd, s2, yd⟩ := w.yields i H2 x H3 hi2 sm y
    have hdrop : ds.drop i = d :: ds.drop (i + 1) := by
      obtain ⟨hl, e⟩ := List.getElem?_eq_some_iff.mp hd
      rw [List.drop_eq_getElem_cons hl, e]
    rw [hdrop, dcompR] at k2
    obtain ⟨op, hf, k3⟩ := RE.nox (RE.bind k2)
    obtain ⟨a, hu, hf⟩ := R.bind_eq_ok hf
    obtain ⟨t, htv, hf⟩ := R.bind_eq_ok hf
    have sm3 : Same H1 H3 := sm.trans s2
    have ok3 : EnvOk c.inn (fun _ => False) (Γ.inn (vs)) (L2.wipe σ (vs)) H3 := ((okE.same s1).same sm3).inn _
    refine sg.1 ok3 yd hu fun σ' chg ok' => ⟨(chg _ his).trans (wipe_idem _ _), a, fun _ => False, ok', ?_⟩
    rw [htv]
    intro H4 s4
    have hD4 : H4 D = some (.dK acc) := s4 _ _ (s2 _ _ hD)
    have hr4 : RpK c.K c.mg H4 out acc := hr.stay (Fz.of_same (s2.trans s4))
    cases t with
    | false =>
      cases hf
      rw [if_neg (by simp)]
      exact ⟨sm3.trans s4, acc, out, hD4, hr4, by omega, k3⟩
    | true =>
      rw [if_pos rfl] at hf ⊢
      obtain ⟨zk, hzk, hf⟩ := R.bind_eq_ok hf
      obtain ⟨z, hz, hf⟩ := R.bind_eq_ok hf
      cases hf
      refine ⟨a, fun _ => False, ok'.same s4, ?_⟩
      rw [hzk]
      intro vk H5 s5 rk
      refine ⟨a, fun _ => False, (ok'.same s4).same s5, ?_⟩
      rw [hz]
      intro v6 H6 s6 r6
      have hD6 : H6 D = some (.dK acc) := s6 _ _ (s5 _ _ hD4)
      by_cases hK : zk.isK = true
      · obtain ⟨l, kl, ek⟩ := rk.key hK
        have k4 : RE (if zk.isK = true then dcompR (fun d => (un d).bind fun a => (mt a).bind fun t => if t = true then (mk a).bind fun x => (mv a).bind fun y => .ok (some (x, y)) else .ok none) (ds.drop (i + 1)) (dput PD.D.keq out zk z) else .bad) (fun rest => ∀ p H'', Same H H'' → H p = none → Own c.K c.mg H'' p (.dct rest) → Q (.ref p) H'') (fun e => c.E e Γ) := k3
        rw [if_pos hK] at k4
        have fz := fz_upd (o' := .dK (putK acc l v6)) hD6 trivial
        have hl : acc.length = out.length := (RpK.tab.mp hr4).length
        have hsz := w.size
        have hpl := dput_length PD.D.keq out zk z
        refine ⟨acc, l, ek, hD6, by omega, fun b ob hb => ?_, putK acc l v6, _, upd_same, RpK.stay fz ((hr4.stay (Fz.of_same (s5.trans s6))).put kl r6), by omega, k4⟩
        rw [upd_ne (ne_of_none hb nD)]
        exact s6 _ _ (s5 _ _ (s4 _ _ (sm3 _ _ hb)))
      · have k4 : RE (if zk.isK = true then dcompR (fun d => (un d).bind fun a => (mt a).bind fun t => if t = true then (mk a).bind fun x => (mv a).bind fun y => .ok (some (x, y)) else .ok none) (ds.drop (i + 1)) (dput PD.D.keq out zk z) else .bad) (fun rest => ∀ p H'', Same H H'' → H p = none → Own c.K c.mg H'' p (.dct rest) → Q (.ref p) H'') (fun e => c.E e Γ) := k3
        rw [if_neg hK] at k4
        exact k4.elim
  · rintro H' ⟨sm, acc, out, hD, hr, hlen, k2⟩
    rw [List.drop_length, dcompR] at k2
    exact k2 D H' (s1.trans sm) (s1.free nD) ⟨acc, hD, hr⟩
theorem jo_dc (S : Cok c X) (hi : JI loose Same c X Γ tg iter mi) (sg : SG c.inn loose is g un up) (ok : BlkOk X.N X.env.scope scope own) (his : ∀ i ∈ is, i ∈ own.map (·.2))
    (hg : ∀ (s : Shared) (H : Hp) (C : Addr) (cl : List (Str × Addr)) (fp : List Addr), Cok c.inn (X.blk s H scope (compEnvC scope cl C X.env) fp) → PG (X.blk s H scope (compEnvC scope cl C X.env) fp) tg g)
    (ht : ∀ (s : Shared) (H : Hp) (C : Addr) (cl : List (Str × Addr)) (fp : List Addr), Cok c.inn (X.blk s H scope (compEnvC scope cl C X.env) fp) → ∀ a : α, JTs c.inn (X.blk s H scope (compEnvC scope cl C X.env) fp) (up a (Γ.inn (own.map (·.2)))) ifs (mt a))
    (hk : ∀ (s : Shared) (H : Hp) (C : Addr) (cl : List (Str × Addr)) (fp : List Addr), Cok c.inn (X.blk s H scope (compEnvC scope cl C X.env) fp) → ∀ a : α, JE c.inn (X.blk s H scope (compEnvC scope cl C X.env) fp) (up a (Γ.inn (own.map (·.2)))) kx (mk a))
    (he : ∀ (s : Shared) (H : Hp) (C : Addr) (cl : List (Str × Addr)) (fp : List Addr), Cok c.inn (X.blk s H scope (compEnvC scope cl C X.env) fp) → ∀ a : α, JE c.inn (X.blk s H scope (compEnvC scope cl C X.env) fp) (up a (Γ.inn (own.map (·.2)))) vx (mv a))
    (hs : ∀ x, foldedSetIterable iter X.env x = pure x := by intro _; rfl) :
    JO c X Γ (.DictComp kx vx [⟨tg, iter, ifs, 0⟩] scope pos) (mi.bind fun ds => (dcompR (fun d => (un d).bind fun a => (mt a).bind fun t => if t = true then (mk a).bind fun x => (mv a).bind fun y => .ok (some (x, y)) else .ok none) ds []).bind fun l => .ok (.dct l)) :=
  pe_imp (pe_dc S.calm S.nd hi ok (fun s H C cl fp => hg s H C cl fp S.blk) (fun s H C cl fp => ⟨fun pins t σ H' Q I ⟨a, q⟩ => (ht s H C cl fp S.blk a).run pins t σ H' Q I q⟩) (fun s H C cl fp => ⟨fun pins t σ H' Q I ⟨a, q⟩ => (hk s H C cl fp S.blk a).run pins t σ H' Q I q⟩)
    (fun s H C cl fp => ⟨fun pins t σ H' Q I ⟨a, q⟩ => (he s H C cl fp S.blk a).run pins t σ H' Q I q⟩) hs) (tdc_of sg his)
end
end PD
end

section
/-! PD12: statements. -/
namespace PD
open PySem PySem.Spec L2
open PyProof.Rows hiding St
open PySem.PyData (strOk)

/-- how a row of statements ends: falls through, returns (with the thing that was handed in, as it stands then), break, continue -/
inductive Fl (α β : Type) where
  | nx (a : α) | rt (d : D) (io : Option D) | bk (b : β) | ct (b : β)
/-- a row that never falls through -/
def Fl.lift {α β : Type} : Fl Empty β → Fl α β
  | .nx a => a.elim
  | .rt d b => .rt d b
  | .bk b => .bk b
  | .ct b => .ct b
def lft {α β : Type} (m : R (Fl Empty β)) : R (Fl α β) := m.bind fun x => .ok x.lift
def Fl.go {α α' β : Type} (f : α → R (Fl α' β)) : Fl α β → R (Fl α' β)
  | .nx a => f a
  | .rt d b => .ok (.rt d b)
  | .bk b => .ok (.bk b)
  | .ct b => .ok (.ct b)
def IoOk (c : DC) (H : Hp) : Option D → Prop
  | none => True
  | some d => if c.two = true then ∃ a b, d = .tup [a, b] ∧ Own c.K c.mg H (c.p 1) a ∧ Own c.K c.mg H (c.p 2) b else Own c.K c.mg H (c.p 1) d
def RtOk (c : DC) (H : Hp) (d : D) (v : V) : Prop := if c.ro = true then ∃ p, v = .ref p ∧ c.G p = none ∧ Own c.K c.mg H p d else Rp c.K c.mg H d v
theorem IoOk.one {c : DC} {H : Hp} {d : D} (h : c.two = false) (o : Own c.K c.mg H (c.p 1) d) : IoOk c H (some d) := by show (if c.two = true then _ else _); rw [if_neg (by rw [h]; simp)]; exact o
theorem IoOk.only {c : DC} {H : Hp} {d : D} (h : c.two = false) (o : IoOk c H (some d)) : Own c.K c.mg H (c.p 1) d := by
  have o : (if c.two = true then _ else Own c.K c.mg H (c.p 1) d) := o
  rwa [if_neg (by rw [h]; simp)] at o
theorem RtOk.rp {c : DC} {H : Hp} {d : D} {v : V} (h : c.ro = false) (r : Rp c.K c.mg H d v) : RtOk c H d v := by unfold RtOk; rw [if_neg (by rw [h]; simp)]; exact r
section
variable {α β : Type}
def FlOk (c : DC) (en : α → SEnv) (enL : β → SEnv) (H : Hp) (Dn : Ends) : Fl α β → Prop
  | .nx a => ∀ O σ' H', EnvOk c O (en a) σ' H' → Fz H H' → Dn.nx σ' H'
  | .rt d b => ∀ v H', (∀ b o, c.G b = some o → H' b = some o) → Fz H H' → RtOk c H' d v → IoOk c H' b → Dn.rt v H'
  | .bk b => ∀ O σ' H', EnvOk c O (enL b) σ' H' → Fz H H' → Dn.bk σ' H'
  | .ct b => ∀ O σ' H', EnvOk c O (enL b) σ' H' → Fz H H' → Dn.ct σ' H'
def tS (c : DC) (en : α → SEnv) (enL : β → SEnv) (Γ : SEnv) (m : R (Fl α β)) : TS := fun Dn σ H => ∃ O, EnvOk c O Γ σ H ∧ RE m (FlOk c en enL H Dn) (fun e => c.X e)
def JN (c : DC) (X : Cx) (en : α → SEnv) (enL : β → SEnv) (Γ : SEnv) (sts : List Stmt) (m : R (Fl α β)) : Prop := PSs X sts (tS c en enL Γ m)
end
theorem FlOk.fz {α β : Type} {c : DC} {en : α → SEnv} {enL : β → SEnv} {H H1 : Hp} {Dn : Ends} {fl : Fl α β} (f : Fz H H1) (h : FlOk c en enL H Dn fl) : FlOk c en enL H1 Dn fl := by
  cases fl with
  | nx a => exact fun O σ' H' ok z => h O σ' H' ok (f.trans z)
  | rt d b => exact fun v H' g z => h v H' g (f.trans z)
  | bk a => exact fun O σ' H' ok z => h O σ' H' ok (f.trans z)
  | ct a => exact fun O σ' H' ok z => h O σ' H' ok (f.trans z)
theorem RE.ex {α : Type} {m : R α} {A : α → Prop} {c : DC} {Γ : SEnv} (h : RE m A (fun e => c.X e)) : RE m A (fun e => c.E e Γ) := by
  cases m with
  | ok a => exact h
  | exc e => exact c.xe e Γ h
  | bad => exact h
/-- what a body's context has: exceptions reach what is wished of them -/
structure Exk (c : DC) (X : Cx) (W : WX) : Prop where
  tk : Takes X W
  xw : ∀ e C O Γ σ H, X.mg e = some (.ref C) → EnvOk c O Γ σ H → c.E e Γ → W (.ref C) none σ H
def Po (X : Cx) : Prop := PassesOwn (model X.prog X.w) X.A X.env X.xe
theorem Exk.inn {c : DC} {X : Cx} : Exk c.inn X (fun _ _ _ _ => False) := ⟨takes0, fun _ _ _ _ _ _ _ _ h => h⟩
theorem wk_nil {Γ : SEnv} : Wk Γ [] := by cases Γ <;> trivial
theorem wk_un {s : Slot} {Γ Γ' : SEnv} (h : Wk Γ Γ') : Wk (s :: Γ) (.un :: Γ') := h
theorem wk_eq {s : Slot} {Γ Γ' : SEnv} (h : Wk Γ Γ') : Wk (s :: Γ) (s :: Γ') := by cases s <;> first | exact h | exact ⟨rfl, h⟩
section
variable {α α' β γ : Type} {c : DC} {X : Cx} {Γ : SEnv} {en : α → SEnv} {enL : β → SEnv} {e tg : Expr} {me : R D} {rest : List Stmt} {pos pos' p p' : Pos} {x : Str} {i : Nat} {mr : D → R (Fl α β)}
theorem gkeep {O : Addr → Prop} {σ : St} {H : Hp} (h : EnvOk c O Γ σ H) : ∀ b o, c.G b = some o → H b = some o := fun b o q => (h.kp b o (.inl q)).1
theorem jn_end (a : α) (w : Wk Γ (en a) := by trivial) : JN c X en enL Γ [] (.ok (.nx a)) := pss_imp pss_nil fun Dn σ H ⟨O, ok, q⟩ => q O σ H (ok.weak w) Fz.refl
theorem jn_ret (he : JE c X Γ e me) (ro : c.ro = false := by rfl) : JN c X en enL Γ (.Return (some e) pos :: rest) (me.bind fun d => .ok (.rt d none)) :=
  pss_imp (pss_cons (ps_ret he) pss_never) fun Dn σ H ⟨O, ok, q⟩ => ⟨O, ok, RE.ex (q.bind.imp fun d k v H' s r => k v H' (gkeep (ok.same s)) (Fz.of_same s) (RtOk.rp ro r) trivial)⟩
theorem jn_retN (ro : c.ro = false := by rfl) : JN c X en enL Γ (.Return none pos :: rest) (.ok (.rt .non none)) :=
  pss_imp (pss_cons ps_retN pss_never) fun Dn σ H ⟨O, ok, q⟩ => q .non H (gkeep ok) Fz.refl (RtOk.rp ro Rp.non) trivial
/-- return e, a new thing -/
theorem jn_retO (he : JO c X Γ e me) (ro : c.ro = true := by rfl) : JN c X en enL Γ (.Return (some e) pos :: rest) (me.bind fun d => .ok (.rt d none)) :=
  pss_imp (pss_cons (ps_ret he) pss_never) fun Dn σ H ⟨O, ok, q⟩ => ⟨O, ok, RE.ex (q.bind.imp fun d k p H' s n r => k _ H' (gkeep (ok.same s)) (Fz.of_same s) (by
    unfold RtOk
    rw [if_pos ro]
    refine ⟨p, rfl, ?_, r⟩
    cases hg : c.G p with
    | none => rfl
    | some o => rw [gkeep ok p o hg] at n; cases n) trivial)⟩
/-- return e, and the thing that was handed in, slot j -/
theorem jn_retIo (j : Nat) {b : D} (he : JE c X Γ e me) (g : Γ[j]? = some (.ow 1 b) := by rfl) (ro : c.ro = false := by rfl) (tw : c.two = false := by rfl) : JN c X en enL Γ (.Return (some e) pos :: rest) (me.bind fun d => .ok (.rt d (some b))) :=
  pss_imp (pss_cons (ps_ret he) pss_never) fun Dn σ H ⟨O, ok, q⟩ => ⟨O, ok, RE.ex (q.bind.imp fun d k v H' s r => k v H' (gkeep (ok.same s)) (Fz.of_same s) (RtOk.rp ro r) (by
    obtain ⟨p, _, _, h, o⟩ := (ok.same s).sl j _ g
    rw [h (by decide)] at o
    exact .one tw o))⟩
theorem jn_brk (b : β) (w : Wk Γ (enL b) := by trivial) : JN c X en enL Γ (.Break pos :: rest) (.ok (.bk b)) :=
  pss_imp (pss_cons ps_break pss_never) fun Dn σ H ⟨O, ok, q⟩ => q O σ H (ok.weak w) Fz.refl
theorem jn_ct (b : β) (w : Wk Γ (enL b) := by trivial) : JN c X en enL Γ (.Continue pos :: rest) (.ok (.ct b)) :=
  pss_imp (pss_cons ps_continue pss_never) fun Dn σ H ⟨O, ok, q⟩ => q O σ H (ok.weak w) Fz.refl
theorem jn_pass {m : R (Fl α β)} (hr : JN c X en enL Γ rest m) : JN c X en enL Γ (.Pass pos :: rest) m := pss_imp (pss_cons ps_pass hr) fun Dn σ H q => q
theorem jn_expr (he : JE c X Γ e me) {m : R (Fl α β)} (hr : JN c X en enL Γ rest m) (hs : swapsWith e none pos.line X.env = pure false := by rfl) : JN c X en enL Γ (.Expr e pos :: rest) (me.bind fun _ => m) :=
  pss_imp (pss_cons (ps_expr he hs) hr) fun Dn σ H ⟨O, ok, q⟩ => ⟨O, ok, RE.ex (q.bind.imp fun d k v H' s r => ⟨O, ok.same s, k.imp fun fl f => f.fz (Fz.of_same s)⟩)⟩
theorem pss_ex {A : Type} {X : Cx} {sts : List Stmt} {t : A → TS} (h : ∀ a, PSs X sts (t a)) : PSs X sts (fun Dn σ H => ∃ a, t a Dn σ H) := ⟨fun pins s σ H Q I ⟨a, q⟩ => (h a).run pins s σ H Q I q⟩
theorem pe_setFz {O : Addr → Prop} {σ : St} {H H' : Hp} {d : D} {v : V} {m : R (Fl α β)} {Dn : Ends} (ok : EnvOk c O Γ σ H) (s : Same H H') (r : Rp c.K c.mg H' d v) (k : RE m (FlOk c en enL H Dn) (fun e => c.X e)) :
    tS c en enL (Γ.set i (.fz d)) m Dn (σ.set i (some v)) H' := ⟨O, (ok.same s).setFz i r, k.imp fun fl f => f.fz (Fz.of_same s)⟩
theorem jn_set (S : Cok c X) (i : Nat) (he : JE c X Γ e me) (hr : ∀ d, JN c X en enL (Γ.set i (.fz d)) rest (mr d)) (hi : X.N[i]? = some x := by rfl) (hx : Loc X.env.scope x := by first | exact Or.inl rfl | exact Or.inr rfl) (hs : swapsWith e (some (.Name x pos')) pos.line X.env = pure false := by rfl)
    (hf : X.fn x = true ∨ X.env.scope.names.lookup x = some .local := by first | exact .inl rfl | exact .inr rfl) : JN c X en enL Γ (.Assign [.Name x pos'] e pos :: rest) (me.bind mr) :=
  pss_imp (pss_cons (ps_set S.nd hi hx he hs hf) (pss_ex hr)) fun Dn σ H ⟨O, ok, q⟩ => ⟨O, ok, RE.ex (q.bind.imp fun d k v H' s r => ⟨d, pe_setFz ok s r k⟩)⟩
theorem tS_setOw {O : Addr → Prop} {σ : St} {H H' : Hp} {d : D} {p : Addr} {m : R (Fl α β)} {Dn : Ends} (ok : EnvOk c O Γ σ H) (s : Same H H') (n : H p = none) (r : Own c.K c.mg H' p d) (k : RE m (FlOk c en enL H Dn) (fun e => c.X e)) :
    tS c en enL (Γ.set i (.ow 0 d)) m Dn (σ.set i (some (.ref p))) H' :=
  ⟨_, (ok.plus n s r.at).setOw i (.inr rfl) r (ok.fresh n), k.imp fun fl f => f.fz (Fz.of_same s)⟩
theorem jn_setO (S : Cok c X) (i : Nat) (he : JO c X Γ e me) (hr : ∀ d, JN c X en enL (Γ.set i (.ow 0 d)) rest (mr d)) (hi : X.N[i]? = some x := by rfl) (hx : Loc X.env.scope x := by first | exact Or.inl rfl | exact Or.inr rfl) (hs : swapsWith e (some (.Name x pos')) pos.line X.env = pure false := by rfl)
    (hf : X.fn x = true ∨ X.env.scope.names.lookup x = some .local := by first | exact .inl rfl | exact .inr rfl) : JN c X en enL Γ (.Assign [.Name x pos'] e pos :: rest) (me.bind mr) :=
  pss_imp (pss_cons (ps_set S.nd hi hx he hs hf) (pss_ex hr)) fun Dn σ H ⟨O, ok, q⟩ => ⟨O, ok, RE.ex (q.bind.imp fun d k p H' s n r => ⟨d, tS_setOw ok s n r k⟩)⟩
/-- if: a row that never falls through; no else -/
theorem jn_guard {t : Expr} {ps : List Stmt} {mt : R Bool} {mp : R (Fl Empty β)} {m : R (Fl α β)} (ht : JT c X Γ t mt) (hp : JN c X (fun a : Empty => a.elim) enL Γ ps mp) (hr : JN c X en enL Γ rest m) :
    JN c X en enL Γ (.If t ps [] pos :: rest) (mt.bind fun t => if t = true then lft mp else m) := by
  refine pss_imp (pss_cons (ps_if ht hp pss_nil) hr) fun Dn σ H ⟨O, ok, q⟩ => ⟨O, ok, RE.ex (q.bind.imp fun t k H' s => ?_)⟩
  cases t with
  | true =>
    rw [if_pos rfl] at k ⊢
    refine ⟨O, ok.same s, (show RE mp _ _ from RE.bind k).imp fun fl f => ?_⟩
    cases fl with
    | nx a => exact a.elim
    | rt d b => exact FlOk.fz (c := c) (en := en) (enL := enL) (fl := .rt d b) (Fz.of_same s) f
    | bk b => exact FlOk.fz (c := c) (en := en) (enL := enL) (fl := .bk b) (Fz.of_same s) f
    | ct b => exact FlOk.fz (c := c) (en := en) (enL := enL) (fl := .ct b) (Fz.of_same s) f
  | false =>
    rw [if_neg (by simp)] at k ⊢
    exact ⟨O, ok.same s, k.imp fun fl f => f.fz (Fz.of_same s)⟩
/-- if, whose arms may fall through -/
theorem jn_if {t : Expr} {ps qs : List Stmt} {mt : R Bool} {mp mq : R (Fl α' β)} (enJ : α' → SEnv) {mr : α' → R (Fl α β)} (ht : JT c X Γ t mt) (hp : JN c X enJ enL Γ ps mp) (hq : JN c X enJ enL Γ qs mq) (hr : ∀ a, JN c X en enL (enJ a) rest (mr a)) :
    JN c X en enL Γ (.If t ps qs pos :: rest) ((mt.bind fun t => if t = true then mp else mq).bind (Fl.go mr)) := by
  refine pss_imp (pss_cons (ps_if ht hp hq) (pss_ex hr)) fun Dn σ H ⟨O, ok, q⟩ => ⟨O, ok, RE.ex (q.bind.bind.imp fun t k H' s => ?_)⟩
  have key : ∀ {m : R (Fl α' β)}, RE m (fun fl => RE (fl.go mr) (FlOk c en enL H Dn) fun e => c.X e) (fun e => c.X e) → RE m (FlOk c enJ enL H' { Dn with nx := fun σ H => ∃ a, tS c en enL (enJ a) (mr a) Dn σ H }) fun e => c.X e := fun h => h.imp fun fl f => by
    cases fl with
    | nx a => exact fun O' σ' H2 ok' z => ⟨a, O', ok', (show RE (mr a) _ _ from f).imp fun fl f => f.fz ((Fz.of_same s).trans z)⟩
    | rt d b => exact FlOk.fz (c := c) (en := en) (enL := enL) (fl := .rt d b) (Fz.of_same s) f
    | bk b => exact FlOk.fz (c := c) (en := en) (enL := enL) (fl := .bk b) (Fz.of_same s) f
    | ct b => exact FlOk.fz (c := c) (en := en) (enL := enL) (fl := .ct b) (Fz.of_same s) f
  cases t with
  | true => exact (show tS c _ enL Γ mp _ _ _ from ⟨O, ok.same s, key k⟩)
  | false => exact (show tS c _ enL Γ mq _ _ _ from ⟨O, ok.same s, key k⟩)
/-- if, else: both never fall through -/
theorem jn_ifX {t : Expr} {ps qs : List Stmt} {mt : R Bool} {mp mq : R (Fl Empty β)} (ht : JT c X Γ t mt) (hp : JN c X (fun a : Empty => a.elim) enL Γ ps mp) (hq : JN c X (fun a : Empty => a.elim) enL Γ qs mq) :
    JN c X en enL Γ (.If t ps qs pos :: rest) (mt.bind fun t => if t = true then lft mp else lft mq) := by
  refine pss_imp (pss_cons (ps_if ht hp hq) pss_never) fun Dn σ H ⟨O, ok, q⟩ => ⟨O, ok, RE.ex (q.bind.imp fun t k H' s => ?_)⟩
  have key : ∀ {m : R (Fl Empty β)}, RE (lft m) (FlOk c en enL H Dn) (fun e => c.X e) → RE m (FlOk c (fun a : Empty => a.elim) enL H' { Dn with nx := tNever Dn }) fun e => c.X e := fun h => (RE.bind h).imp fun fl f => by
    cases fl with
    | nx a => exact a.elim
    | rt d b => exact FlOk.fz (c := c) (en := en) (enL := enL) (fl := .rt d b) (Fz.of_same s) f
    | bk b => exact FlOk.fz (c := c) (en := en) (enL := enL) (fl := .bk b) (Fz.of_same s) f
    | ct b => exact FlOk.fz (c := c) (en := en) (enL := enL) (fl := .ct b) (Fz.of_same s) f
  cases t with
  | true => exact (show tS c _ enL Γ mp _ _ _ from ⟨O, ok.same s, key k⟩)
  | false => exact (show tS c _ enL Γ mq _ _ _ from ⟨O, ok.same s, key k⟩)
end
end PD
end

section
/-! PD13: loops. -/
namespace PD
open PySem PySem.Spec L2
open PyProof.Rows hiding St
open PySem.PyData (strOk)

section
variable {σs β : Type}
def forR (f : D → σs → R (Fl σs σs)) : List D → σs → R (Fl σs β)
  | [], s => .ok (.nx s)
  | d :: r, s => (f d s).bind fun fl => match fl with
    | .nx s' => forR f r s'
    | .ct s' => forR f r s'
    | .bk s' => .ok (.nx s')
    | .rt d b => .ok (.rt d b)
def whileR (t : σs → R Bool) (f : σs → R (Fl σs σs)) : Nat → σs → R (Fl σs β)
  | 0, _ => .bad
  | n + 1, s => (t s).bind fun b => if b = true then (f s).bind fun fl => (match fl with
    | .nx s' => whileR t f n s'
    | .ct s' => whileR t f n s'
    | .bk s' => .ok (.nx s')
    | .rt d b => .ok (.rt d b)) else .ok (.nx s)
end
theorem pt_ex {A : Type} {X : Cx} {e : Expr} {t : A → TT} (h : ∀ a, PT X e (t a)) : PT X e (fun σ H Q => ∃ a, t a σ H Q) := ⟨fun pins s σ H Q I ⟨a, q⟩ => (h a).run pins s σ H Q I q⟩
section
variable {α α' β σs : Type} {c : DC} {X : Cx} {W : WX} {Γ : SEnv} {en : α → SEnv} {enL : β → SEnv} {enS : σs → SEnv} {iter tg e : Expr} {me : R D} {body rest : List Stmt} {pos : Pos} {mr : σs → R (Fl α β)}
theorem jn_for (S : Cok c X) (po : Po X) {loose : Bool} {mi : R (List D)} {is : List Nat} {g : TG} {un : D → R α'} {up : α' → SEnv → SEnv} {mb : α' → σs → R (Fl σs σs)} (enS : σs → SEnv) (s0 : σs)
    (hi : JI loose Fz c X Γ tg iter mi) (sg : SG c loose is g un up) (hg : PG X tg g) (hb : ∀ a s, JN c X enS enS (up a (enS s)) body (mb a s)) (w : Wk Γ (enS s0)) (hr : ∀ s, JN c X en enL (enS s) rest (mr s))
    (hs : ∀ x, foldedSetIterable iter X.env x = pure x := by intro _; rfl) :
    JN c X en enL Γ (.For tg iter body [] pos :: rest) (mi.bind fun ds => (forR (fun d s => (un d).bind fun a => mb a s) ds s0).bind (Fl.go mr)) := by
  refine pss_imp (pss_cons (ps_for po S.calm hi hg (pss_ex fun p : α' × σs => hb p.1 p.2) hs) (pss_ex hr)) fun Dn σ H ⟨O, ok, q⟩ => ⟨O, ok, RE.ex (q.bind.imp fun ds k J H1 s1 w1 => ?_)⟩
  refine for_it (g := g) (tb := fun Dn σ H => ∃ p : α' × σs, tS c enS enS (up p.1 (enS p.2)) (mb p.1 p.2) Dn σ H) (D := { Dn with nx := fun σ H => ∃ s, tS c en enL (enS s) (mr s) Dn σ H }) w1.walk (fun i σ' H' => Fz H1 H' ∧ ∃ O s, EnvOk c O (enS s) σ' H' ∧ RE (forR (fun d s => (un d).bind fun a => mb a s) (ds.drop i) s) (fun fl => RE (fl.go mr) (FlOk c en enL H Dn) fun e => c.X e) fun e => c.X e) ?_ ?_ ?_ ?_
  · exact ⟨Fz.refl, O, s0, (ok.same s1).weak w, RE.bind k⟩
  · exact fun i σ' H' _ h => h.1
  · rintro i x σ' H2 H3 hi2 ⟨fz, O2, s, ok2, k2⟩ y
    obtain ⟨d, hd, s2, yd⟩ := w1.yields i H2 x H3 hi2 fz y
    have hdrop : ds.drop i = d :: ds.drop (i + 1) := by
      obtain ⟨hl, e⟩ := List.getElem?_eq_some_iff.mp hd
      rw [List.drop_eq_getElem_cons hl, e]
    rw [hdrop, forR] at k2
    have k3 := RE.bind k2
    cases hu : un d with
    | exc z => exact absurd hu (sg.2 d z)
    | bad => rw [hu] at k3; exact (RE.badd k3).elim
    | ok a =>
      rw [hu] at k3
      have k3 := RE.okk k3
      refine sg.1 (ok2.same s2) yd hu fun σ2 chg ok3 => ⟨(a, s), O2, ok3, ?_⟩
      refine (show RE (mb a s) _ _ from k3).imp fun fl f => ?_
      have fz3 : Fz H1 H3 := fz.trans (Fz.of_same s2)
      have fzH : Fz H H3 := (Fz.of_same s1).trans fz3
      cases fl with
      | nx s' => exact fun O' σ3 H4 ok4 z => ⟨fz3.trans z, O', s', ok4, f⟩
      | ct s' => exact fun O' σ3 H4 ok4 z => ⟨fz3.trans z, O', s', ok4, f⟩
      | bk s' => exact fun O' σ3 H4 ok4 z => ⟨s', O', ok4, (show RE (mr s') _ _ from f).imp fun fl f => f.fz (fzH.trans z)⟩
      | rt d b => exact fun v H4 g z => (show FlOk c en enL H Dn (.rt d b) from f) v H4 g (fzH.trans z)
  · rintro σ' H' ⟨fz, O2, s, ok2, k2⟩
    rw [List.drop_length, forR] at k2
    exact ⟨s, O2, ok2, (show RE (mr s) _ _ from k2).imp fun fl f => f.fz ((Fz.of_same s1).trans fz)⟩
theorem jn_while (po : Po X) {mt : σs → R Bool} {mb : σs → R (Fl σs σs)} (fuel : Nat) (enS : σs → SEnv) (s0 : σs)
    (ht : ∀ s, JT c X (enS s) e (mt s)) (hb : ∀ s, JN c X enS enS (enS s) body (mb s)) (w : Wk Γ (enS s0)) (hr : ∀ s, JN c X en enL (enS s) rest (mr s)) :
    JN c X en enL Γ (.While e body [] pos :: rest) ((whileR mt mb fuel s0).bind (Fl.go mr)) := by
  refine pss_imp (pss_cons (ps_while po (pt_ex ht) (pss_ex hb)) (pss_ex hr)) fun Dn σ H ⟨O, ok, q⟩ => ?_
  refine ⟨fun m σ' H' => Fz H H' ∧ ∃ O s, EnvOk c O (enS s) σ' H' ∧ RE (whileR mt mb m s) (fun fl => RE (fl.go mr) (FlOk c en enL H Dn) fun e => c.X e) fun e => c.X e, ⟨fuel, Fz.refl, O, s0, ok.weak w, RE.bind q⟩, ?_⟩
  rintro m σ' H2 ⟨fz, O2, s, ok2, k⟩
  cases m with
  | zero => exact (show False from k).elim
  | succ m =>
    rw [whileR] at k
    refine ⟨s, O2, ok2, RE.ex ((RE.bind k).imp fun b k2 H3 s3 => ?_)⟩
    have fz3 : Fz H H3 := fz.trans (Fz.of_same s3)
    cases b with
    | false =>
      rw [if_neg (by simp)] at k2
      exact (show ∃ a, tS c en enL (enS a) (mr a) Dn _ _ from ⟨s, O2, ok2.same s3, (show RE (mr s) _ _ from k2).imp fun fl f => f.fz fz3⟩)
    | true =>
      rw [if_pos rfl] at k2
      show ∃ N : St → Hp → Prop, (∀ σ' H', N σ' H' → ∃ m', _) ∧ ∃ a, tS c enS enS (enS a) (mb a) _ _ _
      refine ⟨fun σ4 H4 => Fz H H4 ∧ ∃ O s, EnvOk c O (enS s) σ4 H4 ∧ RE (whileR mt mb m s) (fun fl => RE (fl.go mr) (FlOk c en enL H Dn) fun e => c.X e) fun e => c.X e, fun σ4 H4 h => ⟨m, Nat.lt_succ_self m, h⟩, s, O2, ok2.same s3, (RE.bind k2).imp fun fl f => ?_⟩
      cases fl with
      | nx s' => exact fun O' σ3 H4 ok4 z => ⟨fz3.trans z, O', s', ok4, f⟩
      | ct s' => exact fun O' σ3 H4 ok4 z => ⟨fz3.trans z, O', s', ok4, f⟩
      | bk s' => exact fun O' σ3 H4 ok4 z => ⟨s', O', ok4, (show RE (mr s') _ _ from f).imp fun fl f => f.fz (fz3.trans z)⟩
      | rt d b => exact fun v H4 g z => (show FlOk c en enL H Dn (.rt d b) from f) v H4 g (fz3.trans z)
end
end PD
end

section
/-! PD14: raise, try, changes of one's own things, several targets. -/
namespace PD
open PySem PySem.Spec L2
open PyProof.Rows hiding St
open PySem.PyData (strOk)

/-- an own exception class without own __init__ -/
structure ExCls (K : PySem.W.Frag) (mg : Str → Option Value) (x : Str) (C : Addr) : Prop where
  ex : ∃ (B newId initId : String) (bmB : List Value), ExcBaseFacts B newId initId bmB ∧ PySem.W.excIn K C bmB newId = true
  gC : mg x = some (.ref C)
  kC : PySem.W.keepIn K (.ref C) = true
  s1 : PySem.W.subIn K (.ref C) (.type "BaseException") = some true
  s2 : PySem.W.typeIn K (.ref C) = some (.type "type")
theorem pmk_0 {X : Cx} {C : Addr} {x : Str} {p pos : Pos} (T : ExCls X.K X.mg x C) (hg : Gl X x) (hdb : (x == ("__debug__" : Str)) = false := by decide) :
    PMk X (.Call (.Name x p) [] [] pos) (fun _ H Q => Q (.ref C) none H) := by
  intro pins s σ H Q I h
  refine wpAny_Call_Name_kw (ld_glob I hg T.gC ?_ hdb)
  refine PySem.W.callWith_K0 I.kIn T.kC ?_
  obtain ⟨B, newId, initId, bmB, F, q⟩ := T.ex
  obtain ⟨bm, N, nm, qn, bs, hdct, sn, sub, ab, col, dd, k0, k1, k2, k3, k5, mN, hC, hN, hni, T2⟩ := exc_obj I.kIn q
  refine wpAny_call_exc_subT F T2 hC hN hni (fun h' e hm => ?_) (by show 0 ≤ sizeLine; exact Nat.zero_le _)
  exact mk_of I hm (raises_own T.s1 T.s2) h (I.hok.gone hm.new)
section
variable {α α' β : Type} {c : DC} {X : Cx} {W : WX} {Γ : SEnv} {en : α → SEnv} {enL : β → SEnv} {e tg o : Expr} {me mk : R D} {rest body : List Stmt} {pos pos' p p' apos cpos : Pos} {x : Str} {i : Nat} {mr : D → R (Fl α β)} {t : Nat} {b : D}
theorem jn_raise (S : Cok c X) (E : Exk c X W) {C : Addr} (T : ExCls X.K X.mg x C) (hg : Gl X x) (hdb : (x == ("__debug__" : Str)) = false := by decide) :
    JN c X en enL Γ (.Raise (some (.Call (.Name x p) [] [] p')) none pos :: rest) (.exc x) :=
  pss_imp (pss_cons (ps_raise S.calm E.tk (pmk_0 T hg hdb)) pss_never) fun Dn σ H ⟨O, ok, q⟩ => E.xw x C O Γ σ H T.gC ok (c.xe x Γ q)

/-! ### (a, b) = e -/
theorem jn_unp (S : Cok c X) {is : List Nat} {g : TG} {un : D → R α'} {up : α' → SEnv → SEnv} {mr : α' → R (Fl α β)} (he : JE c X Γ e me) (sg : SG c false is g un up) (hg : PG X tg g) (hr : ∀ a, JN c X en enL (up a Γ) rest (mr a))
    (hs : swapsWithSole [tg] e pos.line X.env = pure false := by rfl) (hw : swappedStores [tg] e X.env = pure none := by rfl) (h1 : (assignEach [tg] X.env).map (·.2) = [assign tg X.env] := by rfl) :
    JN c X en enL Γ (.Assign [tg] e pos :: rest) (me.bind fun d => (un d).bind mr) :=
  pss_imp (pss_cons (ps_asg he hg hs hw h1) (pss_ex hr)) fun Dn σ H ⟨O, ok, q⟩ => ⟨O, ok, RE.ex (q.bind.imp fun d k v H' s r => by
    cases hu : un d with
    | exc z => exact absurd hu (sg.2 d z)
    | bad => rw [hu] at k; exact (RE.badd k).elim
    | ok a =>
      rw [hu] at k
      have k := RE.okk k
      exact sg.1 (ok.same s) r hu fun σ2 chg ok3 => ⟨a, O, ok3, (show RE (mr a) _ _ from k).imp fun fl f => f.fz (Fz.of_same s)⟩)⟩

/-! ### one's own things changed -/
def SEnv.noVw (Γ : SEnv) : Bool := Γ.all fun s => match s with
  | .vw _ => false
  | _ => true
theorem noVw_get {Γ : SEnv} (h : Γ.noVw = true) : ∀ (j : Nat) e, Γ[j]? ≠ some (.vw e) := fun j e q => by
  have := List.all_eq_true.mp h _ (List.mem_of_getElem? q)
  cases this
/-- the raw name -/
theorem pe_own (i : Nat) (hN : X.N[i]? = some x) (hv : Vis X.env.scope x) (hd : (x == ("__debug__" : Str)) = false) (hcd : (x == ("__classdict__" : Str)) = false) : PE X (.Name x pos) (fun σ H Q => ∃ v, σ[i]? = some (some v) ∧ Q v H) :=
  pe_imp (pe_var hN hv hd hcd) fun σ H Q q => q
theorem tS_change {O : Addr → Prop} {σ : St} {H H' : Hp} {d' : D} {q : Addr} {o' : HO} {m : R (Fl α β)} {Dn : Ends} (ok : EnvOk c O Γ σ H) (s : Same H H') (g : Γ[i]? = some (.ow t b)) (e : σ[i]? = some (some (.ref q))) (nv : Γ.noVw = true)
    (r : Own c.K c.mg (upd H' q o') q d') (k : RE m (FlOk c en enL H Dn) (fun e => c.X e)) : tS c en enL (Γ.set i (.ow t d')) m Dn σ (upd H' q o') := by
  have ok' := ok.same s
  obtain ⟨p', h1, h2, _, h3⟩ := ok'.sl i _ g
  rw [e] at h1; cases h1
  obtain ⟨o, hp, bx⟩ := h3.box
  exact ⟨O, ok'.change g e (noVw_get nv) r, k.imp fun fl f => f.fz ((Fz.of_same s).trans (fz_upd hp bx))⟩
def dLst : D → R (List D)
  | .lst ds => .ok ds
  | _ => .bad
def appL (ds : List D) (d : D) : R D := if ds.length < sizeLine then .ok (.lst (ds ++ [d])) else .bad
/-- x.append(e) -/
theorem jn_append (i : Nat) (he : JE c X Γ e me) (hr : ∀ b', JN c X en enL (Γ.set i (.ow t b')) rest (mr b')) (g : Γ[i]? = some (.ow t b) := by rfl) (nv : Γ.noVw = true := by rfl) (hN : X.N[i]? = some x := by rfl) (hv : Vis X.env.scope x := by first | exact Or.inl rfl | exact Or.inr (Or.inl rfl))
    (hd : (x == ("__debug__" : Str)) = false := by decide) (hcd : (x == ("__classdict__" : Str)) = false := by decide)
    (hbase : attributeBase (.Name x p) "append" X.env (eval (.Name x p) X.env) = eval (.Name x p) X.env := by rfl)
    (hfew : ((backTo cpos (starEach [e] X.env)).all (fun x => !x.1) && (backToKw cpos (keywordEach [] X.env)).all (fun x => x.1.isSome)
      && decide ([e].length + ([] : List Keyword).length + (if ([] : List Keyword).isEmpty then 0 else 1) < 30)) = true := by rfl)
    (hline : (apos.endLine == cpos.line) = true := by rfl) (hs : starEach [e] X.env = (false, eval e X.env) :: starEach [] X.env := by rfl) (hplain : (backTo cpos (starEach [] X.env)).any (·.1) = false := by rfl)
    (hsw : swapsWith (.Call (.Attribute (.Name x p) "append" apos) [e] [] cpos) none pos.line X.env = pure false := by rfl) :
    JN c X en enL Γ (.Expr (.Call (.Attribute (.Name x p) "append" apos) [e] [] cpos) pos :: rest) ((dLst b).bind fun ds => me.bind fun d => (appL ds d).bind mr) := by
  refine pss_imp (pss_cons (ps_expr (pe_bm PySem.F.plainAttrs_list PySem.F.slot_list_append PySem.F.type_list_append mt_append (pe_own i hN hv hd hcd) (pa_cons he pa_nil hs) hbase hfew hline hs hplain) hsw) (pss_ex hr)) fun Dn σ H ⟨O, ok, q⟩ => ?_
  cases b with
  | lst ds =>
    obtain ⟨q0, e1, h2, _, vs, h3, h4⟩ := ok.sl i _ g
    have q := RE.okk q
    refine ⟨_, e1, .inl ⟨rfl, vs, .inl (.inl h3)⟩, O, ok, RE.ex ((show RE me _ _ from RE.bind q).imp fun d k v H' s r => ?_)⟩
    have k : RE ((appL ds d).bind mr) (FlOk c en enL H Dn) (fun e => c.X e) := k
    unfold appL at k
    split at k
    · rename_i hz
      have k := RE.okk k
      refine ⟨q0, vs, v, rfl, rfl, s _ _ h3, by rw [h4.length]; exact hz, .lst (ds ++ [d]), ?_⟩
      exact tS_change ok s g e1 nv ⟨_, upd_same, ((h4.same s).append (RpL.one r)).stay (fz_upd (s _ _ h3) trivial)⟩ k
    · exact (RE.badd k).elim
  | _ => exact (RE.badd q).elim
/-- x.extend(e): e a list -/
def extL (ds : List D) : D → R D
  | .lst es => if ds.length + es.length ≤ sizeLine then .ok (.lst (ds ++ es)) else .bad
  | _ => .bad
def rExtR : V → List V → Hp → VK → Prop := fun x vs H Q => ∃ l b xs zs, x = .ref l ∧ vs = [.ref b] ∧ H l = some (.lst xs) ∧ Rd H b (.lst zs) ∧ l ≠ b ∧ xs.length + zs.length ≤ sizeLine ∧ Q .non (upd H l (.lst (xs ++ zs)))
/-! ### x[k] = e -/
def putL (ds : List D) (k d : D) : R D := match k with
  | .int i => (match ixN ds.length i with
    | some j => .ok (.lst (ds.set j d))
    | none => .bad)
  | _ => .bad
def putK' (kvs : List (D × D)) (k d : D) : R D := if k.isK = true ∧ kvs.length < sizeLine then .ok (.dct (dput D.keq kvs k d)) else .bad
def putT (kvs : List (D × D)) (k d : D) : R D := if k.nkT.isSome = true ∧ kvs.length < sizeLine then .ok (.dctT (dput D.keqN kvs k d)) else .bad
def dPut (b k d : D) : R D := match b with
  | .lst ds => putL ds k d
  | .dct kvs => putK' kvs k d
  | .dctT kvs => putT kvs k d
  | _ => .bad
theorem set_any (S : Cok c X) : PSet X (fun o i v H Q => rSetL o i v H Q ∨ rSetD o i v H Q ∨ rSetT X.K c.mg o i v H Q) := by
  intro pins s σ H o i v ov iv u Q I ro ri rv h
  have hu := S.un
  rcases h with h | h | h
  · exact set_list pins s σ H o i v ov iv u Q I ro ri rv h
  · exact set_dict (by omega) pins s σ H o i v ov iv u Q I ro ri rv h
  · exact set_dictT (mg := c.mg) (by omega) S.w.symm pins s σ H o i v ov iv u Q I ro ri rv h
theorem put_own (S : Cok c X) {O : Addr → Prop} {σ : St} {H H' : Hp} {q : Addr} {k d b' : D} {vk v : V} {m : R (Fl α β)} {Dn : Ends} (ok : EnvOk c O Γ σ H) (s : Same H H') (g : Γ[i]? = some (.ow t b)) (e1 : σ[i]? = some (some (.ref q))) (nv : Γ.noVw = true)
    (rk : Rp c.K c.mg H' k vk) (r : Rp c.K c.mg H' d v) (hp : dPut b k d = .ok b') (kk : RE m (FlOk c en enL H Dn) (fun e => c.X e)) :
    rSetL (.ref q) vk v H' (fun H'' => tS c en enL (Γ.set i (.ow t b')) m Dn σ H'') ∨ rSetD (.ref q) vk v H' (fun H'' => tS c en enL (Γ.set i (.ow t b')) m Dn σ H'') ∨ rSetT X.K c.mg (.ref q) vk v H' (fun H'' => tS c en enL (Γ.set i (.ow t b')) m Dn σ H'') := by
  obtain ⟨q0, e2, h2, _, h3⟩ := (ok.same s).sl i _ g
  rw [e1] at e2; cases e2
  unfold dPut at hp
  split at hp
  · obtain ⟨vs, h3, h4⟩ := h3
    unfold putL at hp
    split at hp
    · split at hp
      · rename_i j hj
        cases hp
        rw [Rp] at rk
        refine .inl ⟨q, vs, _, j, rfl, rk, h3, by rw [h4.length]; exact hj, ?_⟩
        exact tS_change ok s g e1 nv ⟨_, upd_same, (h4.set j r).stay (fz_upd h3 trivial)⟩ kk
      · cases hp
    · cases hp
  · obtain ⟨es, h3, h4⟩ := h3
    unfold putK' at hp
    split at hp
    · rename_i hk
      cases hp
      obtain ⟨l, k1, k2⟩ := rk.key hk.1
      refine .inr (.inl ⟨q, _, rfl, .inl ⟨es, l, h3, k2, by rw [(RpK.tab.mp h4).length]; exact hk.2, rfl⟩, ?_⟩)
      exact tS_change ok s g e1 nv ⟨_, upd_same, RpK.stay (fz_upd h3 trivial) (h4.put k1 r)⟩ kk
    · cases hp
  · obtain ⟨es, h3, h4⟩ := h3
    unfold putT at hp
    split at hp
    · rename_i hk
      cases hp
      obtain ⟨κ, ek⟩ := Option.isSome_iff_exists.mp hk.1
      obtain ⟨ds, b, rfl, z⟩ : ∃ ds b, k = .tup ds ∧ vk = .ref b := by
        cases k with
        | tup ds => rw [Rp] at rk; obtain ⟨b, _, e, _⟩ := rk; exact ⟨ds, b, rfl, e⟩
        | _ => cases ek
      subst z
      refine .inr (.inr ⟨q, _, es, b, _, κ, rfl, rfl, h3, by rw [S.K]; exact h4, by rw [S.K]; exact rk, ek, by rw [h4.length]; exact hk.2, ?_⟩)
      exact tS_change ok s g e1 nv ⟨_, upd_same, RpT.stay (fz_upd h3 trivial) (h4.put ek rk r)⟩ kk
    · cases hp
  · cases hp
theorem jn_store (S : Cok c X) (i : Nat) {ek : Expr} (he : JE c X Γ e me) (hk : JE c X Γ ek mk) (hr : ∀ b', JN c X en enL (Γ.set i (.ow t b')) rest (mr b')) (g : Γ[i]? = some (.ow t b) := by rfl) (nv : Γ.noVw = true := by rfl) (hN : X.N[i]? = some x := by rfl) (hv : Vis X.env.scope x := by first | exact Or.inl rfl | exact Or.inr (Or.inl rfl))
    (hd : (x == ("__debug__" : Str)) = false := by decide) (hcd : (x == ("__classdict__" : Str)) = false := by decide)
    (ha : ∀ v, assign (.Subscript (.Name x p) ek p') X.env v = (do
      let ov ← holding [v] (eval (.Name x p) X.env)
      let iv ← holding [v, ov] (eval ek X.env)
      standAt p'
      holding [v, ov, iv] (setItem ov iv v)
      release [v, ov, iv] []) := by intro _; rfl)
    (hs : swapsWithSole [.Subscript (.Name x p) ek p'] e pos.line X.env = pure false := by rfl) (hw : swappedStores [.Subscript (.Name x p) ek p'] e X.env = pure none := by rfl)
    (h1 : (assignEach [.Subscript (.Name x p) ek p'] X.env).map (·.2) = [assign (.Subscript (.Name x p) ek p') X.env] := by rfl) :
    JN c X en enL Γ (.Assign [.Subscript (.Name x p) ek p'] e pos :: rest) (me.bind fun d => mk.bind fun k => (dPut b k d).bind mr) := by
  refine pss_imp (pss_cons (ps_asg he (pg_sub (pe_own i hN hv hd hcd) hk (set_any S) ha) hs hw h1) (pss_ex hr)) fun Dn σ H ⟨O, ok, q⟩ => ⟨O, ok, RE.ex (q.bind.imp fun d k v H1 s1 r1 => ?_)⟩
  obtain ⟨q0, e1, _⟩ := ok.sl i _ g
  refine ⟨_, e1, O, ok.same s1, RE.ex ((show RE mk _ _ from RE.bind k).imp fun dk k2 vk H2 s2 r2 => ?_)⟩
  cases hp : dPut b dk d with
  | exc z => unfold dPut putL putK' putT at hp; split at hp <;> (try split at hp) <;> (try split at hp) <;> cases hp
  | bad => rw [hp] at k2; exact (RE.badd k2).elim
  | ok b' =>
    rw [hp] at k2
    have k2 := RE.okk k2
    rcases put_own S ok (s1.trans s2) g e1 nv r2 (r1.same s2) hp k2 with z | z | z
    · obtain ⟨p, xs, k, j, a1, a2, a3, a4, a5⟩ := z
      exact .inl ⟨p, xs, k, j, a1, a2, a3, a4, b', a5⟩
    · obtain ⟨a, H', a1, a2, a3⟩ := z
      exact .inr (.inl ⟨a, H', a1, a2, b', a3⟩)
    · obtain ⟨a, kvs, es, b, k, κ, a1, a2, a3, a4, a5, a6, a7, a8⟩ := z
      exact .inr (.inr ⟨a, kvs, es, b, k, κ, a1, a2, a3, a4, a5, a6, a7, b', a8⟩)
end
end PD
end

section
/-! PD15: dict displays; update, extend; freezing; names op= e; several targets at once. -/
namespace PD
open PySem PySem.Spec L2
open PyProof.Rows hiding St
open PySem.PyData (strOk)

section
variable {K : PySem.W.Frag} {mg : MG} {H : Hp}
structure PPs (X : Cx) (pos : Pos) (ks : List (Option Expr)) (vs : List Expr) (t : St → Hp → (List (V × V) → Hp → Prop) → Prop) : Prop where
  run : ∀ (pins : List (Addr × Obj)) (s : Shared) (σ : St) (H : Hp) (Q : List (V × V) → Hp → Prop), Inv X pins σ H s → t σ H Q →
    wpAny (model X.prog X.w) X.A (evalPairs (pairTrees ks vs X.env pos)) (fun us s' => ∃ xs H', Inv X pins σ H' s' ∧ Paired (fun (x : V × V) (u : Value × Value) => RelV x.1 u.1 ∧ RelV x.2 u.2) xs us ∧ Q xs H') X.xe s
def PairsRp (K : PySem.W.Frag) (mg : MG) (H : Hp) : List (D × D) → List (V × V) → Prop
  | [], xs => xs = []
  | p :: r, xs => ∃ x s, xs = x :: s ∧ Rp K mg H p.1 x.1 ∧ Rp K mg H p.2 x.2 ∧ PairsRp K mg H r s
def tP (c : DC) (Γ : SEnv) (m : R (List (D × D))) : St → Hp → (List (V × V) → Hp → Prop) → Prop := fun σ H Q => ∃ O, EnvOk c O Γ σ H ∧ RE m (fun kvs => ∀ xs H', Same H H' → PairsRp c.K c.mg H' kvs xs → Q xs H') (fun e => c.E e Γ)
def JPs (c : DC) (X : Cx) (Γ : SEnv) (pos : Pos) (ks : List (Option Expr)) (vs : List Expr) (m : R (List (D × D))) : Prop := PPs X pos ks vs (tP c Γ m)
variable {c : DC} {X : Cx} {Γ : SEnv} {pos : Pos} {k v : Expr} {ks : List (Option Expr)} {vs : List Expr} {mk mv : R D} {m : R (List (D × D))}
theorem jps_nil : JPs c X Γ pos [] [] (.ok []) := ⟨fun pins s σ H Q I ⟨O, ok, q⟩ => pairTrees_nil_walk ⟨[], H, I, .nil, q [] H (Same.refl H) rfl⟩⟩
theorem jps_cons (hk : JE c X Γ k mk) (hv : JE c X Γ v mv) (hr : JPs c X Γ pos ks vs m) : JPs c X Γ pos (some k :: ks) (v :: vs) (mk.bind fun x => mv.bind fun y => m.bind fun r => .ok ((x, y) :: r)) := by
  refine ⟨fun pins s σ H Q I ⟨O, ok, q⟩ => pairTrees_cons_walk ?_⟩
  refine thn (hk.run pins s σ H (fun vk H1 => Same H H1 ∧ ∃ dk, Rp c.K c.mg H1 dk vk ∧ RE (mv.bind fun y => m.bind fun r => .ok ((dk, y) :: r)) (fun kvs => ∀ xs H', Same H H' → PairsRp c.K c.mg H' kvs xs → Q xs H') (fun e => c.E e Γ)) I ⟨O, ok, q.bind.imp fun d kk v H' s r => ⟨s, d, r, kk⟩⟩) fun uk s1 ⟨vk, H1, I1, rk, e1, dk, r1, k1⟩ => ?_
  refine thn (hv.run pins s1 σ H1 (fun vv H2 => Same H1 H2 ∧ ∃ dv, Rp c.K c.mg H2 dv vv ∧ RE (m.bind fun r => .ok ((dk, dv) :: r)) (fun kvs => ∀ xs H', Same H H' → PairsRp c.K c.mg H' kvs xs → Q xs H') (fun e => c.E e Γ)) I1 ⟨O, ok.same e1, (show RE mv _ _ from RE.bind k1).imp fun d kk v H' s r => ⟨s, d, r, kk⟩⟩) fun uv s2 ⟨vv, H2, I2, rv, e2, dv, r2, k2⟩ => ?_
  refine thn (hr.run pins s2 σ H2 (fun xs H3 => Same H2 H3 ∧ ∃ kvs, PairsRp c.K c.mg H3 kvs xs ∧ ∀ xs H', Same H H' → PairsRp c.K c.mg H' ((dk, dv) :: kvs) xs → Q xs H') I2 ⟨O, (ok.same e1).same e2, (show RE m _ _ from RE.bind k2).imp fun d kk xs H' s r => ⟨s, d, r, kk⟩⟩) fun us s3 ⟨xs, H3, I3, rs, e3, kvs, r3, k3⟩ => ?_
  exact ⟨(vk, vv) :: xs, H3, I3, .cons ⟨rk, rv⟩ rs, k3 _ _ ((e1.trans e2).trans e3) ⟨(vk, vv), xs, rfl, (r1.same e2).same e3, r2.same e3, r3⟩⟩
def dDisp (kvs : List (D × D)) : R D := if (kvs.all fun p => p.1.isK) = true ∧ kvs.length ≤ 15 then .ok (.dct (mergeD [] kvs)) else .bad
theorem pairs_key : ∀ {kvs : List (D × D)} {xs : List (V × V)} {us : List (Value × Value)} {P : Program} {w : World}, (kvs.all fun p => p.1.isK) = true → PairsRp K mg H kvs xs → Paired (fun (x : V × V) (u : Value × Value) => RelV x.1 u.1 ∧ RelV x.2 u.2) xs us →
    ∃ (es : List (Key × V)) (prs : List (Key × Value)), RpK K mg H kvs es ∧ KV es prs ∧ Carries (mixKind P w) us prs
  | [], xs, us, P, w, _, h, r => by
    have h : xs = [] := h
    subst h
    cases r
    exact ⟨[], [], by rw [RpK], .nil, trivial⟩
  | p :: kvs, xs, us, P, w, hk, h, r => by
    obtain ⟨x, s, e, h1, h2, h⟩ := h
    subst e
    rw [List.all_cons, Bool.and_eq_true] at hk
    cases r with
    | cons r t =>
      rename_i u us'
      obtain ⟨es, prs, q1, q2, q3⟩ := pairs_key (P := P) (w := w) hk.2 h t
      obtain ⟨l, k1, k2⟩ := h1.key hk.1
      refine ⟨(l, x.2) :: es, (l, u.2) :: prs, ?_, .cons ⟨rfl, r.2⟩ q2, ?_⟩
      · rw [show p = (p.1, p.2) from rfl, RpK]
        exact ⟨l, x.2, es, rfl, k1, h2, q1⟩
      · have r1 := r.1
        rw [k2] at r1
        exact ⟨kV_is (P := P) (w := w) r1, rfl, q3⟩
theorem jo_dict (h : JPs c X Γ pos ks vs m) (hall : ks.all (·.isSome) = true := by rfl) (hl : ks.length = vs.length := by rfl) (h0 : ks ≠ [] := by simp) (hlen : ks.length ≤ 15 := by decide) : JO c X Γ (.Dict ks vs pos) (m.bind dDisp) := by
  refine ⟨fun pins s σ H Q I ⟨O, ok, q⟩ => wpAny_Dict_walk (knd := mixKind X.prog X.w) hall hl h0 hlen ?_⟩
  have n : H s.heap.objs.size = none := I.hok.fresh (Nat.le_refl _)
  have hm : (s.heap.objs.size == sysModules) = false := beq_eq_false_iff_ne.mpr (Nat.ne_of_gt I.big)
  have I1 : Inv X pins σ (upd H s.heap.objs.size (.dK [])) { s with heap := s.heap.push { cls := .type "dict", data := .dict #[] } } :=
    I.laid (t' := s.toks) (fun b o e => Heap.get?_push_of_some _ e) (Nat.le_refl _) (show ObjOk X.prog X.w _ _ _ (.dK []) from ⟨Nat.zero_le _, hm, [], .nil, Heap.DictOf.new s.heap⟩)
  refine thn (h.run pins _ σ _ (fun xs H2 => Same (upd H s.heap.objs.size (.dK [])) H2 ∧ ∃ kvs, PairsRp c.K c.mg H2 kvs xs ∧ RE (dDisp kvs) (fun d => ∀ p H', Same H H' → H p = none → Own c.K c.mg H' p d → Q (.ref p) H') (fun e => c.E e Γ)) I1
    ⟨O, ok.same (same_new n), q.bind.imp fun kvs k xs H2 s2 r2 => ⟨s2, kvs, r2, k⟩⟩) fun us s2 ⟨xs, H2, I2, ru, e2, kvs, r2, k⟩ => ?_
  unfold dDisp at k
  split at k
  · rename_i hk
    obtain ⟨es, prs, q1, q2, q3⟩ := pairs_key (P := X.prog) (w := X.w) hk.1 r2 ru
    have hD : H2 s.heap.objs.size = some (.dK []) := e2 _ _ upd_same
    obtain ⟨_, _, vs0, rel0, dd0⟩ := dk_rd I2.hok (.inl hD)
    cases rel0
    refine ⟨prs, q3, dd0, fun h' dd' sb => ?_⟩
    have hlen2 : (mergeK [] es).length ≤ sizeLine := by
      have a1 := length_mergeK es []
      have a2 := (RpK.tab.mp q1).length
      have a3 := hk.2
      rw [sizeLine_eq]
      simp only [List.length_nil] at a1
      omega
    have he : ∃ q, h'.get? s.heap.objs.size = some q := let ⟨q, _, _, hq, _⟩ := dd'; ⟨q, hq⟩
    have I3 := d_write (t' := s2.toks + us.length) I2 (by rw [hD]; exact True.intro) sb he (dk_new (P := X.prog) (w := X.w) (H' := upd H2 s.heap.objs.size (.dK (mergeK [] es))) hlen2 hm (KV.merge q2 .nil) dd')
    refine ⟨.ref s.heap.objs.size, _, I3, rfl, k _ _ (fun b o e => ?_) n ⟨_, upd_same, RpK.stay (fz_upd hD trivial) (RpK.merge q1 (by rw [RpK]))⟩⟩
    rw [upd_ne (ne_of_none e n)]
    exact e2 _ _ (by rw [upd_ne (ne_of_none e n)]; exact e)
  · exact k.elim
end

/-! ### x.update(e), e a dict -/
section
variable {X : Cx}
def rUpdD : V → List V → Hp → VK → Prop := fun x vs H Q => ∃ d o kvs more, x = .ref d ∧ vs = [.ref o] ∧ H d = some (.dK kvs) ∧ Rd H o (.dK more) ∧ d ≠ o ∧ kvs.length + more.length ≤ sizeLine ∧ Q .non (upd H d (.dK (mergeK kvs more)))
theorem mt_updD : MtR X "dict.update" rUpdD := by
  intro pins s σ H x vs v us Q I rx rv h
  obtain ⟨d, o, kvs, more, rfl, rfl, hd, ho, hne, hz, q⟩ := h
  cases rx
  obtain ⟨u, rfl, ru⟩ := rv.one
  cases ru
  obtain ⟨z1, lo1, vs1, rel1, dd1⟩ := dk_rd I.hok (.inl hd)
  obtain ⟨z2, lo2, vs2, rel2, dd2⟩ := dk_rd I.hok ho
  have l1 := rel1.length
  have l2 := rel2.length
  refine call_meetsIn PySem.F.slot_dict_update dd1.typeIs PySem.F.entry_dict_update (PySem.F.args_dict_update_2 _ _) (meets_dict_update (mixKind X.prog X.w) d o hne lo2) ⟨vs1, vs2, dd1, dd2, by omega, fun h' dd' _ sb => ?_⟩
  have he : ∃ q, h'.get? d = some q := let ⟨q, _, _, hq, _⟩ := dd'; ⟨q, hq⟩
  have hl := length_mergeK more kvs
  exact ⟨.non, _, d_write (t' := s.toks) I (by rw [hd]; exact True.intro) sb he (dk_new (P := X.prog) (w := X.w) (H' := upd H d (.dK (mergeK kvs more))) (by omega) lo1 (KV.merge rel2 rel1) dd'), rfl, q⟩
end
section
variable {α α' β : Type} {c : DC} {X : Cx} {W : WX} {Γ : SEnv} {en : α → SEnv} {enL : β → SEnv} {e tg o : Expr} {me mk : R D} {rest body : List Stmt} {pos pos' p p' apos cpos : Pos} {x : Str} {i : Nat} {mr : D → R (Fl α β)} {t : Nat} {b : D}
def updL (kvs : List (D × D)) : D → R D
  | .dct more => if kvs.length + more.length ≤ sizeLine then .ok (.dct (mergeD kvs more)) else .bad
  | _ => .bad
theorem jn_update (i : Nat) (he : JM c X Γ e me) (hr : ∀ b', JN c X en enL (Γ.set i (.ow t b')) rest (mr b')) (g : Γ[i]? = some (.ow t b) := by rfl) (nv : Γ.noVw = true := by rfl) (hN : X.N[i]? = some x := by rfl) (hv : Vis X.env.scope x := by first | exact Or.inl rfl | exact Or.inr (Or.inl rfl))
    (hd : (x == ("__debug__" : Str)) = false := by decide) (hcd : (x == ("__classdict__" : Str)) = false := by decide)
    (hbase : attributeBase (.Name x p) "update" X.env (eval (.Name x p) X.env) = eval (.Name x p) X.env := by rfl)
    (hfew : ((backTo cpos (starEach [e] X.env)).all (fun x => !x.1) && (backToKw cpos (keywordEach [] X.env)).all (fun x => x.1.isSome)
      && decide ([e].length + ([] : List Keyword).length + (if ([] : List Keyword).isEmpty then 0 else 1) < 30)) = true := by rfl)
    (hline : (apos.endLine == cpos.line) = true := by rfl) (hs : starEach [e] X.env = (false, eval e X.env) :: starEach [] X.env := by rfl) (hplain : (backTo cpos (starEach [] X.env)).any (·.1) = false := by rfl)
    (hsw : swapsWith (.Call (.Attribute (.Name x p) "update" apos) [e] [] cpos) none pos.line X.env = pure false := by rfl) :
    JN c X en enL Γ (.Expr (.Call (.Attribute (.Name x p) "update" apos) [e] [] cpos) pos :: rest) ((dDct b).bind fun kvs => me.bind fun d => (updL kvs d).bind mr) := by
  refine pss_imp (pss_cons (ps_expr (pe_bm PySem.F.plainAttrs_dict PySem.F.slot_dict_update PySem.F.type_dict_update mt_updD (pe_own i hN hv hd hcd) (pa_cons he pa_nil hs) hbase hfew hline hs hplain) hsw) (pss_ex hr)) fun Dn σ H ⟨O, ok, q⟩ => ?_
  cases b with
  | dct kvs =>
    obtain ⟨q0, e1, h2, _, es, h3, h4⟩ := ok.sl i _ g
    have q := RE.okk q
    refine ⟨_, e1, .inr (.inr (.inl ⟨rfl, .inl ⟨es, h3⟩⟩)), O, ok, RE.ex ((show RE me _ _ from RE.bind q).imp fun d kq v H' s r => ?_)⟩
    change RE ((updL kvs d).bind mr) (FlOk c en enL H Dn) (fun e => c.X e) at kq
    unfold updL at kq
    split at kq
    · rename_i more
      split at kq
      · rename_i hz
        have kq := RE.okk kq
        have hb : ∃ a es2, v = .ref a ∧ Rd H' a (.dK es2) ∧ q0 ≠ a ∧ RpK c.K c.mg H' more es2 := by
          rcases r with r | ⟨p, ev, n, r⟩
          · rw [Rp] at r
            obtain ⟨a, es2, ev, ⟨ob, h5⟩, h6⟩ := r
            refine ⟨a, es2, ev, .inr ⟨ob, h5⟩, fun z => ?_, h6⟩
            rw [← z, s _ _ h3] at h5; cases h5
          · obtain ⟨es2, h5, h6⟩ := r
            refine ⟨p, es2, ev, .inl h5, fun z => ?_, h6⟩
            rw [← z, h3] at n; cases n
        obtain ⟨a, es2, ev, h5, hne, h6⟩ := hb
        subst ev
        have l1 := (RpK.tab.mp h4).length
        have l2 := (RpK.tab.mp h6).length
        refine ⟨q0, a, es, es2, rfl, rfl, s _ _ h3, h5, hne, by omega, .dct (mergeD kvs more), ?_⟩
        exact tS_change ok s g e1 nv ⟨_, upd_same, RpK.stay (fz_upd (s _ _ h3) trivial) (RpK.merge h6 (RpK.stay (Fz.of_same s) h4))⟩ kq
      · exact (RE.badd kq).elim
    · exact (RE.badd kq).elim
  | _ => exact (RE.badd q).elim
/-- from here on slot i is left alone -/
theorem jn_frz (i : Nat) {m : R (Fl α β)} (hr : JN c X en enL (Γ.set i (.fz b)) rest m) (g : Γ[i]? = some (.ow t b) := by rfl) (nv : Γ.noVw = true := by rfl) : JN c X en enL Γ rest m := by
  refine ⟨fun pins s σ H Dn I ⟨O, ok, q⟩ => ?_⟩
  obtain ⟨p, e1, h2, _, h3⟩ := ok.sl i _ g
  obtain ⟨o, ho, bx⟩ := h3.box
  obtain ⟨od, I2⟩ := I.lock ho (box_mut bx)
  exact hr.run pins s σ _ Dn I2 ⟨O, ok.chg g e1 (noVw_get nv) ⟨_, rfl, h3.lock ho⟩, q.imp fun fl f => f.fz (fz_upd ho bx)⟩
/-- a row behind something else, Γ told less of -/
theorem jn_weak {Γ' : SEnv} {m : R (Fl α β)} (hr : JN c X en enL Γ' rest m) (w : Wk Γ Γ') : JN c X en enL Γ rest m := pss_imp hr fun Dn σ H ⟨O, ok, q⟩ => ⟨O, ok.weak w, q⟩

/-! ### name = [..] on one line -/
theorem jn_setLc (S : Cok c X) {loose : Bool} {tg iter elt : Expr} {ifs : List Expr} {scope : Scope} {own : List (Str × Nat)} {py : Pos} {is : List Nat} {g : TG} {un : D → R α'} {up : α' → SEnv → SEnv} {mi : R (List D)} {mt : α' → R Bool} {me : α' → R D}
    (i : Nat) (hy : X.N[i]? = some x) (hyl : X.env.scope.names.lookup x = some .local) (hsw : swapsWith (.ListComp elt [⟨tg, iter, ifs, 0⟩] scope pos) (some (.Name x py)) pos'.line X.env = pure true)
    (hi : JI loose Same c X Γ tg iter mi) (sg : SG c.inn loose is g un up) (ok : BlkOk X.N X.env.scope scope own) (his : ∀ i ∈ is, i ∈ own.map (·.2))
    (hg : ∀ (s : Shared) (H : Hp) (C : Addr) (cl : List (Str × Addr)) (fp : List Addr), Cok c.inn (X.blk s H scope (compEnvC scope cl C X.env) fp) → PG (X.blk s H scope (compEnvC scope cl C X.env) fp) tg g)
    (ht : ∀ (s : Shared) (H : Hp) (C : Addr) (cl : List (Str × Addr)) (fp : List Addr), Cok c.inn (X.blk s H scope (compEnvC scope cl C X.env) fp) → ∀ a : α', JTs c.inn (X.blk s H scope (compEnvC scope cl C X.env) fp) (up a (Γ.inn (own.map (·.2)))) ifs (mt a))
    (he : ∀ (s : Shared) (H : Hp) (C : Addr) (cl : List (Str × Addr)) (fp : List Addr), Cok c.inn (X.blk s H scope (compEnvC scope cl C X.env) fp) → ∀ a : α', JE c.inn (X.blk s H scope (compEnvC scope cl C X.env) fp) (up a (Γ.inn (own.map (·.2)))) elt (me a))
    (hr : ∀ d, JN c X en enL (Γ.set i (.ow 0 d)) rest (mr d)) (hs : ∀ x, foldedSetIterable iter X.env x = pure x := by intro _; rfl) :
    JN c X en enL Γ (.Assign [.Name x py] (.ListComp elt [⟨tg, iter, ifs, 0⟩] scope pos) pos' :: rest) ((mi.bind fun ds => (compR (fun d => (un d).bind fun a => (mt a).bind fun t => if t = true then (me a).bind fun x => .ok (some x) else .ok none) ds).bind fun l => .ok (.lst l)).bind mr) :=
  pss_imp (pss_cons (ps_setLc (tt := fun σ H Q => ∃ a, tT c.inn (up a (Γ.inn (own.map (·.2)))) (mt a) σ H Q) (te := fun σ H Q => ∃ a, tR c.inn (up a (Γ.inn (own.map (·.2)))) (me a) σ H Q) S.calm S.nd hy hyl hsw hi ok (fun s H C cl fp => hg s H C cl fp S.blk) (fun s H C cl fp => ⟨fun pins t σ H' Q I ⟨a, q⟩ => (ht s H C cl fp S.blk a).run pins t σ H' Q I q⟩) (fun s H C cl fp => ⟨fun pins t σ H' Q I ⟨a, q⟩ => (he s H C cl fp S.blk a).run pins t σ H' Q I q⟩) hs) (pss_ex hr))
    fun Dn σ H ⟨O, ok, q⟩ => tlc_of sg his σ H (fun x H1 => ∃ d, tS c en enL (Γ.set i (.ow 0 d)) (mr d) Dn (σ.set i (some x)) H1) ⟨O, ok, RE.ex (q.bind.imp fun d k p H' s n r => ⟨d, tS_setOw ok s n r k⟩)⟩

/-- name = {..} by a comprehension on one line -/
theorem ps_setDc {i : Nat} {y : Str} {py : Pos} {kx vx tg iter : Expr} {ifs : List Expr} {scope : Scope} {own : List (Str × Nat)} {pos spos : Pos} {wi : TI} {g : TG} {tt : TT} {tk tv : TE} (hc : X.calm = true) (hN : X.N.Nodup) (hy : X.N[i]? = some y) (hyl : X.env.scope.names.lookup y = some .local)
    (hsw : swapsWith (.DictComp kx vx [⟨tg, iter, ifs, 0⟩] scope pos) (some (.Name y py)) spos.line X.env = pure true) (hi : PI X tg iter wi) (ok : BlkOk X.N X.env.scope scope own)
    (hg : ∀ (s : Shared) (H : Hp) (C : Addr) (cl : List (Str × Addr)) (fp : List Addr), PG (X.blk s H scope (compEnvC scope cl C X.env) fp) tg g) (ht : ∀ (s : Shared) (H : Hp) (C : Addr) (cl : List (Str × Addr)) (fp : List Addr), PTs (X.blk s H scope (compEnvC scope cl C X.env) fp) ifs tt)
    (hk : ∀ (s : Shared) (H : Hp) (C : Addr) (cl : List (Str × Addr)) (fp : List Addr), PE (X.blk s H scope (compEnvC scope cl C X.env) fp) kx tk)
    (he : ∀ (s : Shared) (H : Hp) (C : Addr) (cl : List (Str × Addr)) (fp : List Addr), PE (X.blk s H scope (compEnvC scope cl C X.env) fp) vx tv) (hs : ∀ x, foldedSetIterable iter X.env x = pure x := by intro _; rfl) :
    PS X (.Assign [.Name y py] (.DictComp kx vx [⟨tg, iter, ifs, 0⟩] scope pos) spos) (tAsg (tDc wi g tt tk tv (own.map (·.2))) (gName i)) := by
  refine ⟨fun pins s σ H D I h => ?_⟩
  rw [exec_Assign_Name_used _ _ _ _ hsw]
  refine wpAny_bind (wpAny_standAt (wpAny_bind ?_))
  show wpAny _ X.A (do let _ ← comprehension (.DictComp kx vx [⟨tg, iter, ifs, 0⟩] scope pos) scope X.env (firstIterPos [⟨tg, iter, ifs, 0⟩] pos) newDict false (eval iter X.env) (some (assign (.Name y py) X.env))) _ _ s
  have h : tDc wi g tt tk tv (own.map (·.2)) σ H (fun x H1 => gName i x σ H1 D.nx) := h
  refine wpAny_bind (thn (dc_core (Qf := fun _ s' => SP X pins D .next s') hc hN I hi ok hg ht hk he hs h fun L C s' m H' I' q hn f => ?_) fun _ s' hq => wpAny_pure (wpAny_pure hq))
  show wpAny _ _ (assign (.Name y py) X.env (.ref L)) _ _ _
  refine wpAny_assign_Name (store_ok2 (v := V.ref L) I' hN hy (.inl hyl) rfl (fun s2 I2 ⟨a, sb, ha⟩ => ?_) (.inr hyl))
  obtain ⟨f0, f1, f2, f3, f4, f5⟩ := f
  have haC : C ≠ a := by
    rcases ha with z | z
    · rw [z]; exact f1
    · exact fun e => f4 y a z e.symm
  refine ⟨m, hn.sameBut sb haC, fun h3 sb3 => ?_⟩
  exact ⟨_, H', I2.turned (t' := s2.toks) (fun b o hb e => (sb3.2 b hb).trans e) f0 f1 f3 f4 f5, q⟩
theorem jn_setDc (S : Cok c X) {loose : Bool} {tg iter kx vx : Expr} {ifs : List Expr} {scope : Scope} {own : List (Str × Nat)} {py : Pos} {is : List Nat} {g : TG} {un : D → R α'} {up : α' → SEnv → SEnv} {mi : R (List D)} {mt : α' → R Bool} {mk mv : α' → R D}
    (i : Nat) (hy : X.N[i]? = some x) (hyl : X.env.scope.names.lookup x = some .local) (hsw : swapsWith (.DictComp kx vx [⟨tg, iter, ifs, 0⟩] scope pos) (some (.Name x py)) pos'.line X.env = pure true)
    (hi : JI loose Same c X Γ tg iter mi) (sg : SG c.inn loose is g un up) (ok : BlkOk X.N X.env.scope scope own) (his : ∀ i ∈ is, i ∈ own.map (·.2))
    (hg : ∀ (s : Shared) (H : Hp) (C : Addr) (cl : List (Str × Addr)) (fp : List Addr), Cok c.inn (X.blk s H scope (compEnvC scope cl C X.env) fp) → PG (X.blk s H scope (compEnvC scope cl C X.env) fp) tg g)
    (ht : ∀ (s : Shared) (H : Hp) (C : Addr) (cl : List (Str × Addr)) (fp : List Addr), Cok c.inn (X.blk s H scope (compEnvC scope cl C X.env) fp) → ∀ a : α', JTs c.inn (X.blk s H scope (compEnvC scope cl C X.env) fp) (up a (Γ.inn (own.map (·.2)))) ifs (mt a))
    (hk : ∀ (s : Shared) (H : Hp) (C : Addr) (cl : List (Str × Addr)) (fp : List Addr), Cok c.inn (X.blk s H scope (compEnvC scope cl C X.env) fp) → ∀ a : α', JE c.inn (X.blk s H scope (compEnvC scope cl C X.env) fp) (up a (Γ.inn (own.map (·.2)))) kx (mk a))
    (he : ∀ (s : Shared) (H : Hp) (C : Addr) (cl : List (Str × Addr)) (fp : List Addr), Cok c.inn (X.blk s H scope (compEnvC scope cl C X.env) fp) → ∀ a : α', JE c.inn (X.blk s H scope (compEnvC scope cl C X.env) fp) (up a (Γ.inn (own.map (·.2)))) vx (mv a))
    (hr : ∀ d, JN c X en enL (Γ.set i (.ow 0 d)) rest (mr d)) (hs : ∀ x, foldedSetIterable iter X.env x = pure x := by intro _; rfl) :
    JN c X en enL Γ (.Assign [.Name x py] (.DictComp kx vx [⟨tg, iter, ifs, 0⟩] scope pos) pos' :: rest) ((mi.bind fun ds => (dcompR (fun d => (un d).bind fun a => (mt a).bind fun t => if t = true then (mk a).bind fun x => (mv a).bind fun y => .ok (some (x, y)) else .ok none) ds []).bind fun l => .ok (.dct l)).bind mr) :=
  pss_imp (pss_cons (ps_setDc (tt := fun σ H Q => ∃ a, tT c.inn (up a (Γ.inn (own.map (·.2)))) (mt a) σ H Q) (tk := fun σ H Q => ∃ a, tR c.inn (up a (Γ.inn (own.map (·.2)))) (mk a) σ H Q) (tv := fun σ H Q => ∃ a, tR c.inn (up a (Γ.inn (own.map (·.2)))) (mv a) σ H Q) S.calm S.nd hy hyl hsw hi ok (fun s H C cl fp => hg s H C cl fp S.blk)
      (fun s H C cl fp => ⟨fun pins t σ H' Q I ⟨a, q⟩ => (ht s H C cl fp S.blk a).run pins t σ H' Q I q⟩) (fun s H C cl fp => ⟨fun pins t σ H' Q I ⟨a, q⟩ => (hk s H C cl fp S.blk a).run pins t σ H' Q I q⟩) (fun s H C cl fp => ⟨fun pins t σ H' Q I ⟨a, q⟩ => (he s H C cl fp S.blk a).run pins t σ H' Q I q⟩) hs) (pss_ex hr))
    fun Dn σ H ⟨O, ok, q⟩ => tdc_of sg his σ H (fun x H1 => ∃ d, tS c en enL (Γ.set i (.ow 0 d)) (mr d) Dn (σ.set i (some x)) H1) ⟨O, ok, RE.ex (q.bind.imp fun d k p H' s n r => ⟨d, tS_setOw ok s n r k⟩)⟩

/-! ### a, b = e1, e2: each a datum that stays or a new thing -/
/-- what an argument gives: f: it stays; else it is new -/
def MxA (c : DC) (f : Bool) (H H' : Hp) (d : D) (v : V) : Prop := if f = true then Rp c.K c.mg H' d v else ∃ p, v = .ref p ∧ H p = none ∧ Own c.K c.mg H' p d
def slA (f : Bool) (d : D) : Slot := if f = true then .fz d else .ow 0 d
def tX (c : DC) (Γ : SEnv) (f : Bool) (m : R D) : TE := fun σ H Q => ∃ O, EnvOk c O Γ σ H ∧ RE m (fun d => ∀ v H', Same H H' → MxA c f H H' d v → Q v H') (fun e => c.E e Γ)
def JX (f : Bool) (c : DC) (X : Cx) (Γ : SEnv) (e : Expr) (m : R D) : Prop := PE X e (tX c Γ f m)
theorem JE.jx (h : JE c X Γ e me) : JX true c X Γ e me := pe_imp h fun σ H Q ⟨O, ok, q⟩ => ⟨O, ok, q.imp fun d k v H' s r => k v H' s r⟩
theorem JO.jx (h : JO c X Γ e me) : JX false c X Γ e me := pe_imp h fun σ H Q ⟨O, ok, q⟩ => ⟨O, ok, q.imp fun d k p H' s n r => k _ H' s ⟨p, rfl, n, r⟩⟩
theorem MxA.same {f : Bool} {H H1 H' : Hp} {d : D} {v : V} (s : Same H1 H') (h : MxA c f H H1 d v) : MxA c f H H' d v := by
  unfold MxA at h ⊢
  cases f
  · obtain ⟨p, e, n, r⟩ := h; exact ⟨p, e, n, r.same s⟩
  · exact Rp.same s h
theorem jn_par (S : Cok c X) {f f' : Bool} {a e2 : Expr} {ma m2 : R D} {y : Str} {px py pt pt2 : Pos} {kt k2 : Nat} (i j : Nat) {mr : D → D → R (Fl α β)} (ha : JX f c X Γ a ma) (hb : JX f' c X Γ e2 m2) (hr : ∀ d1 d2, JN c X en enL ((Γ.set i (slA f d1)).set j (slA f' d2)) rest (mr d1 d2))
    (hi : X.N[i]? = some x := by rfl) (hj : X.N[j]? = some y := by rfl) (hij : i ≠ j := by decide) (hx : X.env.scope.names.lookup x = some .local := by rfl) (hy : X.env.scope.names.lookup y = some .local := by rfl)
    (hw : swappedStores [.Tuple [.Name x px, .Name y py] kt pt] (.Tuple [a, e2] k2 pt2) X.env = pure (some [x, y]) := by rfl)
    (hs : swapsWithSole [.Tuple [.Name x px, .Name y py] kt pt] (.Tuple [a, e2] k2 pt2) pos.line X.env = pure false := by rfl)
    (h1 : starEach [a, e2] X.env = (false, eval a X.env) :: starEach [e2] X.env := by rfl) (h2 : starEach [e2] X.env = (false, eval e2 X.env) :: starEach [] X.env := by rfl) :
    JN c X en enL Γ (.Assign [.Tuple [.Name x px, .Name y py] kt pt] (.Tuple [a, e2] k2 pt2) pos :: rest) (ma.bind fun d1 => m2.bind fun d2 => mr d1 d2) := by
  refine pss_imp (pss_cons (ps_par S.calm S.nd hi hj hij hx hy (pa_cons ha (pa_cons hb pa_nil h2) h1) hw hs) (pss_ex fun d : D × D => hr d.1 d.2)) fun Dn σ H ⟨O, ok, q⟩ => ⟨O, ok, RE.ex (q.bind.imp fun d1 k v1 H1 s1 r1 => ⟨O, ok.same s1, RE.ex (k.bind.imp fun d2 k2 v2 H2 s2 r2 => ?_)⟩)⟩
  refine ⟨v1, v2, rfl, (d1, d2), ?_⟩
  have fzz : Fz H H2 := (Fz.of_same s1).trans (Fz.of_same s2)
  have kk := k2.imp fun fl (f : FlOk c en enL H Dn fl) => f.fz fzz
  have r1' := r1.same s2
  -- first slot
  cases f with
  | true =>
    have o1 : EnvOk c O (Γ.set i (.fz d1)) (σ.set i (some v1)) H2 := ((ok.same s1).same s2).setFz i r1'
    cases f' with
    | true => exact ⟨O, o1.setFz j r2, kk⟩
    | false =>
      obtain ⟨p, rfl, n, r⟩ := r2
      have o0 : EnvOk c O (Γ.set i (.fz d1)) (σ.set i (some v1)) H1 := (ok.same s1).setFz i r1
      exact ⟨_, (o0.plus n s2 r.at).setOw j (.inr rfl) r (o0.fresh n), kk⟩
  | false =>
    obtain ⟨p, rfl, n, r⟩ := r1
    have o0 : EnvOk c (Plus O p) (Γ.set i (.ow 0 d1)) (σ.set i (some (.ref p))) H1 := (ok.plus n s1 r.at).setOw i (.inr rfl) r (ok.fresh n)
    cases f' with
    | true => exact ⟨_, (o0.same s2).setFz j r2, kk⟩
    | false =>
      obtain ⟨p', rfl, n', r'⟩ := r2
      exact ⟨_, (o0.plus n' s2 r'.at).setOw j (.inr rfl) r' (o0.fresh n'), kk⟩
end
end PD
end

section
/-! PD16: defs: the promise, the call, the body. (As HandS's FnOk, with what repr asks of the calls around.) -/
namespace PD
open PySem PySem.Spec L2
open PyProof.Rows hiding St
open PySem.PyData (strOk)

/-- a def's promise, where no repr is under way -/
structure FnG (P : Program) (w : World) (K : PySem.W.Frag) (mg : Str → Option Value) (base : Heap) (k : Nat) (f : Addr) (fd : FuncData) (ps : List Str) (sp : Sp) : Prop where
  len : ∀ vs H Q E, sp vs H Q E → vs.length = ps.length
  run : ∀ (A : Around) (outer : List Env) (s : Shared) (H : Hp) (args : Args) (us : List Value) (vs : List V) (Q : VK) (E : XK), Room k A → A.guards = some [] → Env0 P w K mg base A outer s H → BindsTo s fd args (ps.zip us) → Vals vs us → sp vs H Q E →
    codeAny (model P w) A (.call (.ref f) args) (CR (L2.CX P w) outer P w H s Q E) s
theorem FnG.mono {P : Program} {w : World} {K : PySem.W.Frag} {mg : Str → Option Value} {base : Heap} {j k : Nat} {f : Addr} {fd : FuncData} {ps : List Str} {sp : Sp} (F : FnG P w K mg base j f fd ps sp) (h : j ≤ k) : FnG P w K mg base k f fd ps sp :=
  ⟨F.len, fun A outer s H args us vs Q E hr => F.run A outer s H args us vs Q E (hr.mono h)⟩
theorem fnG_of {P : Program} {w : World} {K : PySem.W.Frag} {mg : Str → Option Value} {base : Heap} {k : Nat} {x qual : Str} {params : Arguments} {body : List Stmt} {scope : Scope} {dvs : List V} {kws : List (Str × V)} {f : Addr} {fd : FuncData} {N ps : List Str} {sp : Sp}
    (F : FunD K x qual params body scope dvs kws f fd) (S : FnScope N ps scope) (len : ∀ vs H Q E, sp vs H Q E → vs.length = ps.length)
    (hbody : ∀ (cdv : Value) (A : Around) (outer : List Env) (s : Shared) (H : Hp) (vs : List V) (Q : VK) (E : XK), Room k (A.deeper (envOfC qual scope s.heap.objs.size f cdv)) → A.guards = some [] → sp vs H Q E →
      ∃ t, PSs (cxOf (L2.CX P w) P w K mg base N qual scope f cdv A outer s H E) body t ∧ t { nx := fun _ H' => Q .non H', rt := Q } (start N vs) H) : FnG P w K mg base (k + 1) f fd ps sp := by
  obtain ⟨oc, od, dV, kV, doc, pm, an, cdv, ct, osl, rfl, lk, hcd, _, _⟩ := F.ex
  refine ⟨len, fun A outer s H args us vs Q E hr hg e0 hb r hsp => ?_⟩
  have hl := len _ _ _ _ hsp
  have KX : K.In s.heap := e0.mod.kin.keeps fun b o e => (e0.bs b o e).1
  have lim : s.heap.NoLimit := e0.mod.nolimit.keeps fun b o e => (e0.bs b o e).1
  refine codeAny_call_function hr.depth (KX _ _ lk) rfl S.co S.gen rfl (PySem.W.codeRec_of KX hcd) (hb _ _ _ _ (wpAny_newFunctionEnv_cells S.kind (fun ⟨n, v⟩ hy => ?_) fun env he s1 x => ?_))
  · rcases S.par n (List.of_mem_zip hy).1 with q | q
    · exact .inl q
    · exact .inr ⟨q, PySem.W.cellsFrom_some _ _ _ (.inl q)⟩
  subst he
  refine ⟨lim.keeps x.toInCall.keep, codeAny_func ?_⟩
  obtain ⟨t, ht, hq⟩ := hbody cdv A outer s H vs Q E (hr.deeper _) hg hsp
  have I := inv_start (CX := L2.CX P w) (E := E) S hr.hd e0 hl r x
  refine wpAny_mono (ht.run [] s1 (start N vs) H _ I hq) (fun fl s' hs => ?_) fun e s' hs => hs
  cases fl with
  | ret u => obtain ⟨v, σ', H', J, rv, q⟩ := hs; exact ⟨v, H', J.os, J.bare, J.base, J.hok, rv, q⟩
  | next => obtain ⟨σ', H', J, q⟩ := hs; exact ⟨V.non, H', J.os, J.bare, J.base, J.hok, rfl, q⟩
  | brk => obtain ⟨_, _, _, q⟩ := hs; exact q.elim
  | cont => obtain ⟨_, _, _, q⟩ := hs; exact q.elim
section
variable {X : Cx} {k : Nat} {f : Addr} {fd : FuncData} {ps : List Str} {sp : Sp} {E : St → XK} {x : Str} {p pos : Pos} {e : Expr} {es : List Expr} {t : TA}
theorem run_fnG {pins : List (Addr × Obj)} {σ : St} {H : Hp} {s : Shared} {Q : VK} {us : List Value} {vs : List V} (F : FnG X.prog X.w X.K X.mg X.base k f fd ps sp) (hr : Room k X.A) (hg : X.A.guards = some []) (hb : Binds X.K fd ps []) (hx : PassesAt (L2.CX X.prog X.w) X σ (E σ))
    (I : Inv X pins σ H s) (r : Vals vs us) (h : sp vs H Q (E σ)) : wpAny (model X.prog X.w) X.A (call (.ref f) us) (EP X pins σ Q) X.xe s := by
  have hl : us.length = ps.length := by rw [← r.length]; exact F.len _ _ _ _ h
  have b := hb s us I.kIn (by rw [List.append_nil]; exact hl)
  rw [List.append_nil] at b
  refine wpAny_call (codeAny_mono (F.run X.A X.stack s H ⟨us, []⟩ us vs Q (E σ) hr hg I.env0 b r h) fun r s' hq => ?_)
  cases r with
  | error e => exact hx pins H s e s' I hq
  | ok fl => cases fl with
    | ret u => exact I.after hq
    | _ => exact hq.elim
theorem pe_callG (F : FnG X.prog X.w X.K X.mg X.base k f fd ps sp) (hr : Room k X.A) (hgd : X.A.guards = some []) (hg : Gl X x) (hm : X.mg x = some (.ref f)) (hk : PySem.W.keepIn X.K (.ref f) = true) (hb : Binds X.K fd ps []) (hx : ∀ σ, PassesAt (L2.CX X.prog X.w) X σ (E σ))
    (ha : PA X (e :: es) t) (hdb : (x == ("__debug__" : Str)) = false := by decide) (he : starEach (e :: es) X.env = (false, eval e X.env) :: starEach es X.env := by rfl) (hpl : (backTo pos (starEach es X.env)).any (·.1) = false := by rfl) :
    PE X (.Call (.Name x p) (e :: es) [] pos) (tCallS sp E t) := by
  refine ⟨fun pins s σ H Q I h => wpAny_Call_Name_kw (ld_glob I hg hm ?_ hdb)⟩
  exact PySem.W.callWith_K (h₀ := X.base) I.ok.mod.kin hk (thn (ha.run pos pins s σ H _ I h) fun us s1 ⟨vs, H1, I1, r, q⟩ => ⟨I1.kIn, run_fnG F hr hgd hb (hx σ) I1 r q⟩) he hpl
end

/-! ### a def as a mirror -/
/-- what a def promises: F on data; what is new stays -/
def spD (K : PySem.W.Frag) (mg : MG) (n : Nat) (F : List D → R D) : Sp := fun vs H Q E => ∃ ds, ds.length = n ∧ RpL K mg H ds vs ∧ RE (F ds) (fun d => ∀ v H', Same H H' → Rp K mg H' d v → Q v H') (fun e => ∀ C H', mg e = some (.ref C) → Same H H' → E (.ref C) none H')
/-- the def x keeps the promise F -/
structure FnD (P : Program) (w : World) (K : PySem.W.Frag) (mg : Str → Option Value) (base : Heap) (k : Nat) (x : Str) (n : Nat) (F : List D → R D) : Prop where
  ex : ∃ (f : Addr) (fd : FuncData) (ps : List Str), mg x = some (.ref f) ∧ PySem.W.keepIn K (.ref f) = true ∧ Binds K fd ps [] ∧ ps.length = n ∧ FnG P w K mg base k f fd ps (spD K ⟨mg, w⟩ n F)
theorem FnD.mono {P : Program} {w : World} {K : PySem.W.Frag} {mg : Str → Option Value} {base : Heap} {j k : Nat} {x : Str} {n : Nat} {F : List D → R D} (h : FnD P w K mg base j x n F) (l : j ≤ k) : FnD P w K mg base k x n F :=
  let ⟨f, fd, ps, a, b, c, d, e⟩ := h.ex; ⟨f, fd, ps, a, b, c, d, e.mono l⟩
def ap1 (F : D → R D) : List D → R D
  | [a] => F a
  | _ => .bad
def ap2 (F : D → D → R D) : List D → R D
  | [a, b] => F a b
  | _ => .bad
def ap3 (F : D → D → D → R D) : List D → R D
  | [a, b, c] => F a b c
  | _ => .bad
def ap4 (F : D → D → D → D → R D) : List D → R D
  | [a, b, c, d] => F a b c d
  | _ => .bad
section
variable {c : DC} {X : Cx} {W : WX} {Γ : SEnv} {k j : Nat} {x : Str} {n : Nat} {p pos : Pos} {e e1 e2 e3 e4 : Expr} {es : List Expr} {m1 m2 m3 m4 : R D}
theorem je_call {F : List D → R D} {ms : R (List D)} (S : Cok c X) (Ek : Exk c X W) (hf : FnD X.prog X.w X.K X.mg X.base j x n F) (hr : Room j X.A) (ha : JA c X Γ (e :: es) ms) (hn : (e :: es).length = n) (hg : Gl X x) (hdb : (x == ("__debug__" : Str)) = false)
    (he : starEach (e :: es) X.env = (false, eval e X.env) :: starEach es X.env) (hpl : (backTo pos (starEach es X.env)).any (·.1) = false) : JE c X Γ (.Call (.Name x p) (e :: es) [] pos) (ms.bind F) := by
  obtain ⟨f, fd, ps, hm, hk, hb, hps, FG⟩ := hf.ex
  refine pe_imp (pe_callG FG hr S.gd hg hm hk hb (fun σ => passAt Ek.tk σ) ha.pa hdb he hpl) fun σ H Q ⟨O, ok, q⟩ => ⟨O, ok, ?_⟩
  have q := q.bind
  cases ms with
  | bad => exact q
  | exc z => exact q
  | ok ds =>
    intro vs H1 s1 r1
    refine ⟨ds, (ha.len ds rfl).trans hn, by rw [S.K, S.MG]; exact r1, ?_⟩
    have q' : RE (F ds) (fun d => ∀ v H', Same H H' → Rp c.K c.mg H' d v → Q v H') (fun e => c.E e Γ) := q
    cases hF : F ds with
    | ok d => rw [hF] at q'; exact fun v H' s r => q' v H' (s1.trans s) (by rw [← S.K, ← S.MG]; exact r)
    | exc z => rw [hF] at q'; exact fun C H' hC s => Ek.xw z C O Γ σ H' hC ((ok.same s1).same s) q'
    | bad => rw [hF] at q'; exact q'.elim
theorem je_call1 {F : D → R D} (S : Cok c X) (Ek : Exk c X W) (hf : FnD X.prog X.w X.K X.mg X.base j x 1 (ap1 F)) (hr : Room j X.A) (h1 : JE c X Γ e1 m1) (hg : Gl X x := by rfl) (hdb : (x == ("__debug__" : Str)) = false := by decide)
    (s1 : starEach [e1] X.env = (false, eval e1 X.env) :: starEach [] X.env := by rfl) (hpl : (backTo pos (starEach [] X.env)).any (·.1) = false := by rfl) : JE c X Γ (.Call (.Name x p) [e1] [] pos) (m1.bind F) := by
  have := je_call (p := p) (pos := pos) S Ek hf hr (ja_cons h1 ja_nil s1) rfl hg hdb s1 hpl
  have e : ((m1.bind fun d => (R.ok []).bind fun ds => .ok (d :: ds)).bind (ap1 F)) = m1.bind F := by cases m1 <;> simp only [R.bind_ok, R.bind_exc, R.bind_bad, ap1, ap2, ap3]
  rw [← e]; exact this
theorem je_call2 {F : D → D → R D} (S : Cok c X) (Ek : Exk c X W) (hf : FnD X.prog X.w X.K X.mg X.base j x 2 (ap2 F)) (hr : Room j X.A) (h1 : JE c X Γ e1 m1) (h2 : JE c X Γ e2 m2) (hg : Gl X x := by rfl) (hdb : (x == ("__debug__" : Str)) = false := by decide)
    (s1 : starEach [e1, e2] X.env = (false, eval e1 X.env) :: starEach [e2] X.env := by rfl) (s2 : starEach [e2] X.env = (false, eval e2 X.env) :: starEach [] X.env := by rfl) (hpl : (backTo pos (starEach [e2] X.env)).any (·.1) = false := by rfl) :
    JE c X Γ (.Call (.Name x p) [e1, e2] [] pos) (m1.bind fun a => m2.bind fun b => F a b) := by
  have := je_call (p := p) (pos := pos) S Ek hf hr (ja_cons h1 (ja_cons h2 ja_nil s2) s1) rfl hg hdb s1 hpl
  have e : ((m1.bind fun d => (m2.bind fun d => (R.ok []).bind fun ds => .ok (d :: ds)).bind fun ds => .ok (d :: ds)).bind (ap2 F)) = m1.bind fun a => m2.bind fun b => F a b := by cases m1 <;> cases m2 <;> simp only [R.bind_ok, R.bind_exc, R.bind_bad, ap1, ap2, ap3]
  rw [← e]; exact this
theorem je_call3 {F : D → D → D → R D} (S : Cok c X) (Ek : Exk c X W) (hf : FnD X.prog X.w X.K X.mg X.base j x 3 (ap3 F)) (hr : Room j X.A) (h1 : JE c X Γ e1 m1) (h2 : JE c X Γ e2 m2) (h3 : JE c X Γ e3 m3) (hg : Gl X x := by rfl) (hdb : (x == ("__debug__" : Str)) = false := by decide)
    (s1 : starEach [e1, e2, e3] X.env = (false, eval e1 X.env) :: starEach [e2, e3] X.env := by rfl) (s2 : starEach [e2, e3] X.env = (false, eval e2 X.env) :: starEach [e3] X.env := by rfl) (s3 : starEach [e3] X.env = (false, eval e3 X.env) :: starEach [] X.env := by rfl) (hpl : (backTo pos (starEach [e2, e3] X.env)).any (·.1) = false := by rfl) :
    JE c X Γ (.Call (.Name x p) [e1, e2, e3] [] pos) (m1.bind fun a => m2.bind fun b => m3.bind fun d => F a b d) := by
  have := je_call (p := p) (pos := pos) S Ek hf hr (ja_cons h1 (ja_cons h2 (ja_cons h3 ja_nil s3) s2) s1) rfl hg hdb s1 hpl
  have e : ((m1.bind fun d => (m2.bind fun d => (m3.bind fun d => (R.ok []).bind fun ds => .ok (d :: ds)).bind fun ds => .ok (d :: ds)).bind fun ds => .ok (d :: ds)).bind (ap3 F)) = m1.bind fun a => m2.bind fun b => m3.bind fun d => F a b d := by cases m1 <;> cases m2 <;> cases m3 <;> simp only [R.bind_ok, R.bind_exc, R.bind_bad, ap1, ap2, ap3]
  rw [← e]; exact this
end

/-! ### a def's body -/
def done : R (Fl Unit Empty) → R D
  | .ok (.rt d _) => .ok d
  | .ok (.nx _) => .ok .non
  | .ok (.bk a) => a.elim
  | .ok (.ct a) => a.elim
  | .exc e => .exc e
  | .bad => .bad
def noEn : Empty → SEnv := fun a => a.elim
def unEn : Unit → SEnv := fun _ => []
/-- the slots at a def's entry -/
def env0 (ds : List D) (n : Nat) : SEnv := ds.map .fz ++ List.replicate n .un
/-- the context of a def's body, entered at H, which wishes E of exceptions -/
def dc0 (K : PySem.W.Frag) (mg : MG) (H : Hp) (E : XK) : DC where
  K := K
  mg := mg
  G := H
  B := H
  E := fun e _ => ∀ C H', mg e = some (.ref C) → Same H H' → E (.ref C) none H'
  X := fun e => ∀ C H', mg e = some (.ref C) → Same H H' → E (.ref C) none H'
  xe := fun _ _ h => h
  p := fun _ => 0
theorem env0_ok {K : PySem.W.Frag} {mg : MG} {H : Hp} {E : XK} {N : List Str} {ds : List D} {vs : List V} (r : RpL K mg H ds vs) (h : ds.length ≤ N.length) : EnvOk (dc0 K mg H E) (fun _ => False) (env0 ds (N.length - ds.length)) (start N vs) H := by
  have hl := r.length
  refine ⟨fun b o q => ⟨q.elim id id, fun z => z⟩, fun b z => z.elim, fun i s q => ?_, ?_, fun i j t d u e p q1 => ?_⟩
  · unfold env0 at q
    unfold L2.start
    by_cases hi : i < ds.length
    · rw [List.getElem?_append_left (by simpa using hi), List.getElem?_map] at q
      obtain ⟨d, hd, rfl⟩ := Option.map_eq_some_iff.mp q
      obtain ⟨v, h1, h2⟩ := r.get hd
      refine ⟨v, ?_, h2⟩
      rw [List.getElem?_append_left (by rw [List.length_map, hl]; exact hi), List.getElem?_map, h1]
      rfl
    · rw [List.getElem?_append_right (by simpa using hi), List.getElem?_replicate] at q
      split at q
      · cases q; trivial
      · cases q
  · unfold env0 L2.start
    simp only [List.length_append, List.length_map, List.length_replicate]
    omega
  · unfold env0 at q1
    by_cases hi : i < ds.length
    · rw [List.getElem?_append_left (by simpa using hi), List.getElem?_map] at q1
      obtain ⟨d, _, z⟩ := Option.map_eq_some_iff.mp q1
      cases z
    · rw [List.getElem?_append_right (by simpa using hi), List.getElem?_replicate] at q1
      split at q1 <;> cases q1
/-- the context of a def's body is as the rules want it -/
theorem ctx_ok {P : Program} {w : World} {K : PySem.W.Frag} {mg : Str → Option Value} {base : Heap} {N : List Str} {qual : Str} {scope : Scope} {f : Addr} {cdv : Value} {A : Around} {outer : List Env} {s : Shared} {H : Hp} {E : XK} {k : Nat} (hN : N.Nodup)
    (hr : Room k (A.deeper (envOfC qual scope s.heap.objs.size f cdv))) (hg : A.guards = some []) :
    Cok (dc0 K ⟨mg, w⟩ H E) (cxOf (L2.CX P w) P w K mg base N qual scope f cdv A outer s H E) ∧ Exk (dc0 K ⟨mg, w⟩ H E) (cxOf (L2.CX P w) P w K mg base N qual scope f cdv A outer s H E) (fun cls d _ H => E cls d H) ∧ Po (cxOf (L2.CX P w) P w K mg base N qual scope f cdv A outer s H E) := by
  refine ⟨⟨rfl, rfl, rfl, rfl, ?_, hg, hN⟩, ⟨takes_of rfl rfl rfl rfl, fun e C O Γ σ H' hC ok h => h C H' hC fun b o z => (ok.kp b o (.inl z)).1⟩, passes_of rfl⟩
  have := hr.un
  show (A.deeper (envOfC qual scope s.heap.objs.size f cdv)).units + 200 < cLine
  omega
theorem fnGD_of {P : Program} {w : World} {K : PySem.W.Frag} {mg : Str → Option Value} {base : Heap} {k : Nat} {x qual : Str} {params : Arguments} {body : List Stmt} {scope : Scope} {kws : List (Str × V)} {f : Addr} {fd : FuncData} {N ps : List Str} {n : Nat} {F : List D → R D} (m : List D → R (Fl Unit Empty))
    (Fd : FunD K x qual params body scope [] kws f fd) (S : FnScope N ps scope) (hn : ps.length = n) (hnN : n ≤ N.length) (hF : ∀ ds, ds.length = n → F ds = done (m ds))
    (hbody : ∀ (cdv : Value) (A : Around) (outer : List Env) (s : Shared) (H : Hp) (E : XK), Room k (A.deeper (envOfC qual scope s.heap.objs.size f cdv)) → A.guards = some [] → ∀ ds, ds.length = n →
      JN (dc0 K ⟨mg, w⟩ H E) (cxOf (L2.CX P w) P w K mg base N qual scope f cdv A outer s H E) unEn noEn (env0 ds (N.length - n)) body (m ds)) : FnG P w K mg base (k + 1) f fd ps (spD K ⟨mg, w⟩ n F) := by
  refine fnG_of Fd S (fun vs H Q E ⟨ds, h1, h2, _⟩ => by rw [h2.length, h1, hn]) fun cdv A outer s H vs Q E hr hg ⟨ds, hd, r, q⟩ => ⟨_, hbody cdv A outer s H E hr hg ds hd, fun _ => False, ?_, ?_⟩
  · have := env0_ok (N := N) (E := E) r (by rw [hd]; exact hnN)
    rw [hd] at this
    exact this
  · rw [hF ds hd] at q
    cases hmd : m ds with
    | ok fl =>
      rw [hmd] at q
      cases fl with
      | nx a => exact fun O σ' H' ok z => q .non H' (fun b o e => (ok.kp b o (.inl e)).1) Rp.non
      | bk a => exact a.elim
      | ct a => exact a.elim
      | rt d b => exact fun v H' g z r' _ => q v H' g r'
    | exc e => rw [hmd] at q; exact q
    | bad => rw [hmd] at q; exact q
theorem fnD_of {P : Program} {w : World} {K : PySem.W.Frag} {mg : Str → Option Value} {base : Heap} {k : Nat} {x qual : Str} {params : Arguments} {body : List Stmt} {scope : Scope} {kws : List (Str × V)} {f : Addr} {fd : FuncData} {N ps : List Str} {n : Nat} {F : List D → R D} (m : List D → R (Fl Unit Empty))
    (Fd : FunD K x qual params body scope [] kws f fd) (S : FnScope N ps scope) (hm : mg x = some (.ref f)) (hb : Binds K fd ps []) (hn : ps.length = n) (hnN : n ≤ N.length) (hF : ∀ ds, ds.length = n → F ds = done (m ds))
    (hbody : ∀ (cdv : Value) (A : Around) (outer : List Env) (s : Shared) (H : Hp) (E : XK), Room k (A.deeper (envOfC qual scope s.heap.objs.size f cdv)) → A.guards = some [] → ∀ ds, ds.length = n →
      JN (dc0 K ⟨mg, w⟩ H E) (cxOf (L2.CX P w) P w K mg base N qual scope f cdv A outer s H E) unEn noEn (env0 ds (N.length - n)) body (m ds)) : FnD P w K mg base (k + 1) x n F :=
  ⟨f, fd, ps, hm, Fd.kp, hb, hn, fnGD_of m Fd S hn hnN hF hbody⟩
end PD
end

section
/-! PD17: the module's constants; lists by if; comparisons in a row. -/
namespace PD
open PySem PySem.Spec L2
open PyProof.Rows hiding St
open PySem.PyData (strOk)
section
variable {c : DC} {X : Cx} {Γ : SEnv} {a b e t : Expr} {ma mb : R D} {mt : R Bool} {pos p : Pos} {x : Str}
theorem je_gstr {y : Str} (hg : Gl X x) (hm : ∃ t, X.mg x = some (.str y t)) (hy : strOk y = true) (hd : (x == ("__debug__" : Str)) = false := by decide) : JE c X Γ (.Name x pos) (.ok (.str y)) := by
  obtain ⟨t, hm⟩ := hm
  exact pe_imp (pe_glob (v := .str y) hg hm ⟨t, rfl⟩ hd) fun σ H Q ⟨O, ok, q⟩ => q _ H (Same.refl H) (Rp.str hy)
theorem je_gint {i : Int} (hg : Gl X x) (hm : ∃ t, X.mg x = some (.int i t)) (hd : (x == ("__debug__" : Str)) = false := by decide) : JE c X Γ (.Name x pos) (.ok (.int i)) := by
  obtain ⟨t, hm⟩ := hm
  exact pe_imp (pe_glob (v := .int i) hg hm ⟨t, rfl⟩ hd) fun σ H Q ⟨O, ok, q⟩ => q _ H (Same.refl H) Rp.int
/-- a module's tuple of texts -/
def GTup (K : PySem.W.Frag) (mg : Str → Option Value) (x : Str) (xs : List Str) : Prop :=
  ∃ (a : Addr) (o : Obj) (its : Array Value) (n : Nat), mg x = some (.ref a) ∧ K.lookup a = some o ∧ o.cls = .type "tuple" ∧ o.dict = none ∧ o.data = .seq its n ∧ its.size ≤ sizeLine ∧ Vals (xs.map V.str) its.toList
theorem RpL.strs {K : PySem.W.Frag} {mg : MG} {H : Hp} : ∀ {xs : List Str}, xs.all strOk = true → RpL K mg H (xs.map D.str) (xs.map V.str)
  | [], _ => RpL.nil.mpr rfl
  | x :: xs, h => by
    rw [List.all_cons, Bool.and_eq_true] at h
    exact RpL.cons.mpr ⟨_, _, rfl, Rp.str h.1, RpL.strs h.2⟩
theorem je_gtup {xs : List Str} (S : Cok c X) (hg : Gl X x) (hm : GTup X.K X.mg x xs) (hy : xs.all strOk = true) (hd : (x == ("__debug__" : Str)) = false := by decide) : JE c X Γ (.Name x pos) (.ok (.tup (xs.map .str))) := by
  obtain ⟨a, o, its, n, hm, h1, h2, h3, h4, h5, h6⟩ := hm
  refine pe_imp (pe_glob (v := .ref a) hg hm rfl hd) fun σ H Q ⟨O, ok, q⟩ => q _ H (Same.refl H) ?_
  rw [Rp]
  exact ⟨a, _, rfl, .inr ⟨o, its, n, by rw [← S.K]; exact h1, h2, h3, h4, h5, h6⟩, RpL.strs hy⟩
theorem jo_if (ht : JT c X Γ t mt) (ha : JO c X Γ a ma) (hb : JO c X Γ b mb) : JO c X Γ (.IfExp t a b pos) (mt.bind fun t => if t = true then ma else mb) := by
  refine pe_imp (pe_ifExp ht ha hb) fun σ H Q ⟨O, ok, q⟩ => ⟨O, ok, q.bind.imp fun t k H' s => ?_⟩
  cases t with
  | true => exact ⟨O, ok.same s, RE.imp k fun d k p H2 s2 n => k p H2 (s.trans s2) (s.free n)⟩
  | false => exact ⟨O, ok.same s, RE.imp k fun d k p H2 s2 n => k p H2 (s.trans s2) (s.free n)⟩
end
end PD
end

section
/-! PD18: expressions that change one thing of one's own (a bag); defs that give a new thing, that change what is handed in. -/
namespace PD
open PySem PySem.Spec L2
open PyProof.Rows hiding St
open PySem.PyData (strOk)

/-- all but p stays -/
def ExtP (p : Addr) (H H' : Hp) : Prop := ∀ b o, b ≠ p → H b = some o → H' b = some o
section
variable {c : DC} {O : Addr → Prop} {Γ : SEnv} {σ : St} {H H' : Hp} {i : Nat} {t : Nat} {b b' : D} {p : Addr}
theorem EnvOk.put (h : EnvOk c O Γ σ H) (g : Γ[i]? = some (.ow t b)) (e : σ[i]? = some (some (.ref p))) (nv : Γ.noVw = true) (x : ExtP p H H') (fz : Fz H H') (r : Own c.K c.mg H' p b') : EnvOk c O (Γ.set i (.ow t b')) σ H' := by
  obtain ⟨p', h1, h2, h4, h3⟩ := h.sl i _ g
  rw [e] at h1; cases h1
  refine ⟨fun a ob z => ?_, fun a z => ?_, fun j s' z => ?_, by simpa using h.ln, fun j k t1 e1 t2 e2 q q1 q2 q3 q4 => ?_⟩
  · obtain ⟨z1, z2⟩ := h.kp a ob z
    exact ⟨x _ _ (fun w => z2 (by rw [w]; exact h2)) z1, z2⟩
  · by_cases n : a = p
    · rw [n]; exact r.at
    · obtain ⟨o, ho⟩ := h.on a z; exact ⟨o, x _ _ n ho⟩
  · rcases EnvOk.set_cases z with ⟨rfl, rfl, hl⟩ | ⟨n, z⟩
    · exact ⟨p, e, h2, h4, r⟩
    · have k := h.sl j s' z
      cases s' with
      | un => trivial
      | fz d' => obtain ⟨v, k1, k2⟩ := k; exact ⟨v, k1, k2.stay fz⟩
      | ow t' d' =>
        obtain ⟨p', k1, k2, k4, k3⟩ := k
        have ne : p' ≠ p := fun w => by
          subst w
          exact n (h.uq _ _ _ _ _ _ p' z g k1 e)
        exact ⟨p', k1, k2, k4, Own.stay fz (fun o w => x _ _ ne w) k3⟩
      | vw d' => exact absurd z (noVw_get nv j d')
      | gv d' => exact k
  · have ow1 : ∀ {j : Nat} {t1 : Nat} {e1 : D}, (Γ.set i (.ow t b'))[j]? = some (.ow t1 e1) → ∃ t2 e2, Γ[j]? = some (.ow t2 e2) := fun {j t1 e1} q' => by
      rcases EnvOk.set_cases q' with ⟨rfl, _, _⟩ | ⟨_, r1⟩
      · exact ⟨_, _, g⟩
      · exact ⟨_, _, r1⟩
    obtain ⟨_, _, r1⟩ := ow1 q1
    obtain ⟨_, _, r2⟩ := ow1 q2
    exact h.uq j k _ _ _ _ q r1 r2 q3 q4
end
/-- a datum, slot i being changed on the way -/
def tF (c : DC) (Γ : SEnv) (i : Nat) (t : Nat) (m : R (D × D)) : TE := fun σ H Q => ∃ O, EnvOk c O Γ σ H ∧ RE m (fun r => ∀ v H', EnvOk c O (Γ.set i (.ow t r.2)) σ H' → Fz H H' → Rp c.K c.mg H' r.1 v → Q v H') (fun e => c.E e Γ)
def JF (c : DC) (X : Cx) (Γ : SEnv) (i : Nat) (t : Nat) (e : Expr) (m : R (D × D)) : Prop := PE X e (tF c Γ i t m)
/-- a new list -/
def tFO (c : DC) (Γ : SEnv) (i : Nat) (t : Nat) (m : R (D × D)) : TE := fun σ H Q => ∃ O, EnvOk c O Γ σ H ∧ RE m (fun r => ∀ p H', EnvOk c O (Γ.set i (.ow t r.2)) σ H' → Fz H H' → Own c.K c.mg H' p r.1 → Q (.ref p) H') (fun e => c.E e Γ)
def JFO (c : DC) (X : Cx) (Γ : SEnv) (i : Nat) (t : Nat) (e : Expr) (m : R (D × D)) : Prop := PE X e (tFO c Γ i t m)
def tFA (c : DC) (Γ : SEnv) (i : Nat) (t : Nat) (m : R (List D × D)) : TA := fun σ H Q => ∃ O, EnvOk c O Γ σ H ∧ RE m (fun r => ∀ vs H', EnvOk c O (Γ.set i (.ow t r.2)) σ H' → Fz H H' → RpL c.K c.mg H' r.1 vs → Q vs H') (fun e => c.E e Γ)
/-- the env is told of slot i alone that it changes: what is known of exceptions does not lean on it -/
def EnvI (c : DC) (Γ : SEnv) (i : Nat) (t : Nat) : Prop := ∀ e b, c.E e Γ → c.E e (Γ.set i (.ow t b))
theorem RE.imp2 {α : Type} {m : R α} {A A' : α → Prop} {E E' : Str → Prop} (h : RE m A E) (i : ∀ a, A a → A' a) (j : ∀ e, E e → E' e) : RE m A' E' := by
  cases m with
  | ok a => exact i a h
  | exc e => exact j e h
  | bad => exact h
section
variable {α β : Type} {c : DC} {X : Cx} {W : WX} {Γ : SEnv} {en : α → SEnv} {enL : β → SEnv} {i j k : Nat} {t : Nat} {b : D} {e e1 e2 : Expr} {es : List Expr} {m m1 : R D} {mf : R (D × D)} {mb : D × D → R (D × D)} {pos p p' : Pos} {x y : Str} {idn T : String} {rest : List Stmt}
theorem set_set_ow {d d' : D} : (Γ.set i (.ow t d)).set i (.ow t d') = Γ.set i (.ow t d') := List.set_set ..
theorem jf_pure (h : JE c X Γ e m) (g : Γ[i]? = some (.ow t b) := by rfl) : JF c X Γ i t e (m.bind fun d => .ok (d, b)) :=
  pe_imp h fun σ H Q ⟨O, ok, q⟩ => ⟨O, ok, q.bind.imp fun d k v H' s r => k v H' (by rw [set_self g]; exact ok.same s) (Fz.of_same s) r⟩
theorem jf_op {op : Operator} {f : D → D → R D} (hf : Op2M c X (binaryOp op) f) (ha : JF c X Γ i t e1 mf) (hb : ∀ r : D × D, JF c X (Γ.set i (.ow t r.2)) i t e2 (mb r)) (hE : EnvI c Γ i t := by exact fun _ _ h => h) : JF c X Γ i t (.BinOp e1 op e2 pos) (mf.bind fun r => (mb r).bind fun s => (f r.1 s.1).bind fun d => .ok (d, s.2)) := by
  obtain ⟨r, ho, hr, hx⟩ := hf
  refine ⟨fun pins s σ H Q I ⟨O, ok, q⟩ => ?_⟩
  -- the left operand, then the right one; a new list is locked
  have hB : ∀ (A : D), PE X e2 (fun σ H Q => ∃ r : D × D, tF c (Γ.set i (.ow t r.2)) i t (mb r) σ H Q) := fun _ => ⟨fun pins s σ H Q I ⟨b', q⟩ => (hb b').run pins s σ H Q I q⟩
  refine thn ((pe_op ho ha (hB .non)).run pins s σ H (fun v H' => ∃ d s' H2, Mx c H2 H' d v ∧ Same H2 H' ∧ EnvOk c O (Γ.set i (.ow t s')) σ H2 ∧ Fz H H2 ∧ ∀ v H', EnvOk c O (Γ.set i (.ow t s')) σ H' → Fz H H' → Rp c.K c.mg H' d v → Q v H') I
    ⟨O, ok, q.bind.imp fun r1 k1 v1 H1 ok1 fz1 rp1 => ⟨r1, O, ok1, ?_⟩⟩) fun u s1 ⟨v, H1, I1, rv, d, s', H2, r, sm, ok2, fz2, k⟩ => ?_
  · have conv : RE (mb r1) (fun s2 => RE ((f r1.1 s2.1).bind fun d => .ok (d, s2.2)) (fun r => ∀ v H', EnvOk c O (Γ.set i (.ow t r.2)) σ H' → Fz H H' → Rp c.K c.mg H' r.1 v → Q v H') fun e => c.E e Γ) (fun e => c.E e Γ) := k1.bind
    refine conv.imp2 (fun s2 k2 v2 H2 ok2 fz2 rp2 => ?_) fun e h => hE e _ h
    rw [set_set_ow] at ok2
    cases hd : f r1.1 s2.1 with
    | exc z => exact absurd hd (hx _ _ z)
    | bad => rw [hd] at k2; exact (RE.badd k2).elim
    | ok d =>
      rw [hd] at k2
      have k2 := RE.okk k2
      exact hr ok2 (Vw.of (rp1.stay fz2)) (Vw.of rp2) hd fun v H' s r => ⟨d, s2.2, H2, r, s, ok2, fz1.trans fz2, k2⟩
  · rcases r with r | ⟨p, ev, n, r⟩
    · exact ⟨v, H1, I1, rv, k v H1 (ok2.same sm) (fz2.trans (Fz.of_same sm)) r⟩
    · subst ev
      obtain ⟨o, ho, b⟩ := r.box
      obtain ⟨od, I2⟩ := I1.lock ho (box_mut b)
      have sm2 : Same H2 (upd H1 p (.frz od o)) := fun b o z => by rw [upd_ne (ne_of_none z n)]; exact sm b o z
      exact ⟨_, _, I2, rv, k _ _ (ok2.same sm2) (fz2.trans (Fz.of_same sm2)) (r.lock ho)⟩
/-- arguments, one after another -/
structure JFA (c : DC) (X : Cx) (Γ : SEnv) (i : Nat) (t : Nat) (es : List Expr) (m : R (List D × D)) : Prop where
  pa : PA X es (tFA c Γ i t m)
  len : ∀ r, m = .ok r → r.1.length = es.length
theorem jfa_nil (g : Γ[i]? = some (.ow t b) := by rfl) : JFA c X Γ i t [] (.ok ([], b)) := ⟨pa_imp pa_nil fun σ H Q ⟨O, ok, q⟩ => q [] H (by rw [set_self g]; exact ok) Fz.refl (RpL.nil.mpr rfl), fun r h => by cases h; rfl⟩
theorem jfa_cons {ms : D × D → R (List D × D)} (ha : JF c X Γ i t e mf) (hr : ∀ r : D × D, JFA c X (Γ.set i (.ow t r.2)) i t es (ms r)) (hE : EnvI c Γ i t := by exact fun _ _ h => h) (hs : starEach (e :: es) X.env = (false, eval e X.env) :: starEach es X.env := by rfl) :
    JFA c X Γ i t (e :: es) (mf.bind fun r => (ms r).bind fun s => .ok (r.1 :: s.1, s.2)) := by
  have hB : PA X es (fun σ H Q => ∃ r : D × D, tFA c (Γ.set i (.ow t r.2)) i t (ms r) σ H Q) := ⟨fun pos pins s σ H Q I ⟨b', q⟩ => (hr b').pa.run pos pins s σ H Q I q⟩
  refine ⟨pa_imp (pa_cons ha hB hs) fun σ H Q ⟨O, ok, q⟩ => ⟨O, ok, q.bind.imp fun r1 k1 v1 H1 ok1 fz1 rp1 => ⟨r1, O, ok1, ?_⟩⟩, fun r h => ?_⟩
  · refine (show RE (ms r1) _ _ from k1.bind).imp2 (fun s2 k2 vs H2 ok2 fz2 rp2 => ?_) fun e h => hE e _ h
    rw [set_set_ow] at ok2
    exact (show ∀ vs H', EnvOk c O (Γ.set i (.ow t s2.2)) σ H' → Fz H H' → RpL c.K c.mg H' (r1.1 :: s2.1) vs → Q vs H' from k2) _ _ ok2 (fz1.trans fz2) (RpL.cons.mpr ⟨v1, vs, rfl, rp1.stay fz2, rp2⟩)
  · obtain ⟨r1, _, h⟩ := R.bind_eq_ok h
    obtain ⟨s2, h1, h⟩ := R.bind_eq_ok h
    cases h
    rw [List.length_cons, List.length_cons, (hr r1).len s2 h1]
theorem jf_tup {ms : R (List D × D)} {kk : Nat} (h : JFA c X Γ i t es ms) (hl : es.length ≤ 10000 := by decide) : JF c X Γ i t (.Tuple es kk pos) (ms.bind fun r => .ok (.tup r.1, r.2)) := by
  refine pe_imp (pe_tupF h.pa) fun σ H Q ⟨O, ok, q⟩ => ⟨O, ok, ?_⟩
  have q := q.bind
  cases ms with
  | bad => exact q
  | exc e => exact q
  | ok r =>
    intro vs H' ok' fz rp
    refine ⟨by rw [rp.length, h.len r rfl]; exact small hl, fun p o n dn => q _ _ (ok'.same (same_new n)) (fz.trans (Fz.of_same (same_new n))) ?_⟩
    exact Rp.newTup n dn rp
theorem op2m {g : Value → Value → Sem Value} {f : D → D → R D} (h : Op2 c X g f) : Op2M c X g f := let ⟨r, a, b, d⟩ := h; ⟨r, a, fun ok v1 v2 e q => b ok v1 v2 e fun v H' s r => q v H' s (.inl r), d⟩
theorem jf_cT1 {f : D → R D} (hc : Cal1 c X (.type T) f) (ha : JFO c X Γ i t e mf) (hg : Gl X x := by rfl) (hm : X.mg x = none) (hv : bootBuiltins x = some (.type T)) (hn : x ≠ "__name__" := by decide) (hdb : (x == ("__debug__" : Str)) = false := by decide)
    (he : starEach [e] X.env = (false, eval e X.env) :: starEach [] X.env := by rfl) (hpl : (backTo pos (starEach [] X.env)).any (·.1) = false := by rfl) : JF c X Γ i t (.Call (.Name x p) [e] [] pos) (mf.bind fun r => (f r.1).bind fun d => .ok (d, r.2)) := by
  obtain ⟨r, hr, hf, hx⟩ := hc
  refine pe_imp (pe_callTy hr hg hm hv (pa_cons ha pa_nil he) hn hdb he hpl) fun σ H Q ⟨O, ok, q⟩ => ⟨O, ok, q.bind.imp fun d k p H1 ok1 fz1 r1 => ?_⟩
  cases e : f d.1 with
  | ok d' => rw [e] at k; have k := RE.okk k; exact hf ok1 (Vw.own r1) e fun v' H' s r => k v' H' (ok1.same s) (fz1.trans (Fz.of_same s)) r
  | exc z => exact absurd e (hx _ z)
  | bad => rw [e] at k; exact (RE.badd k).elim
/-! ### statements with such expressions -/
theorem jn_setF (S : Cok c X) (i j : Nat) {mr : D × D → R (Fl α β)} (he : JF c X Γ i t e mf) (hr : ∀ r : D × D, JN c X en enL ((Γ.set i (.ow t r.2)).set j (.fz r.1)) rest (mr r)) (hi : X.N[j]? = some x := by rfl) (hx : Loc X.env.scope x := by first | exact Or.inl rfl | exact Or.inr rfl) (hs : swapsWith e (some (.Name x p')) pos.line X.env = pure false := by rfl)
    (hf : X.fn x = true ∨ X.env.scope.names.lookup x = some .local := by first | exact .inl rfl | exact .inr rfl) : JN c X en enL Γ (.Assign [.Name x p'] e pos :: rest) (mf.bind mr) :=
  pss_imp (pss_cons (ps_set S.nd hi hx he hs hf) (pss_ex hr)) fun Dn σ H ⟨O, ok, q⟩ => ⟨O, ok, RE.ex (q.bind.imp fun r k v H' ok1 fz1 r1 => ⟨r, O, ok1.setFz j r1, k.imp fun fl f => f.fz fz1⟩)⟩
theorem jn_retF (he : JF c X Γ i 1 e mf) (hi : i < Γ.length := by first | decide | exact Nat.zero_lt_succ _ | simp [env0])  (ro : c.ro = false := by rfl) (tw : c.two = false := by rfl) : JN c X en enL Γ (.Return (some e) pos :: rest) (mf.bind fun r => .ok (.rt r.1 (some r.2))) :=
  pss_imp (pss_cons (ps_ret he) pss_never) fun Dn σ H ⟨O, ok, q⟩ => ⟨O, ok, RE.ex (q.bind.imp fun r k v H' ok1 fz1 r1 => k v H' (gkeep ok1) fz1 (RtOk.rp ro r1) (by
    obtain ⟨p, _, _, h, o⟩ := ok1.sl i (.ow 1 r.2) (by rw [List.getElem?_set_self hi])
    rw [h (by decide)] at o
    exact .one tw o))⟩
end

/-! ### defs that change what is handed in as the first argument -/
def spIo (K : PySem.W.Frag) (mg : MG) (n : Nat) (F : D → List D → R (D × D)) : Sp := fun vs H Q E => ∃ (p : Addr) (b : D) (vs' : List V) (ds : List D), vs = .ref p :: vs' ∧ Own K mg H p b ∧ ds.length = n ∧ RpL K mg H ds vs' ∧
  ∃ r, F b ds = .ok r ∧ ∀ v H', ExtP p H H' → Fz H H' → Own K mg H' p r.2 → Rp K mg H' r.1 v → Q v H'
structure FnI (P : Program) (w : World) (K : PySem.W.Frag) (mg : Str → Option Value) (base : Heap) (k : Nat) (x : Str) (n : Nat) (F : D → List D → R (D × D)) : Prop where
  ex : ∃ (f : Addr) (fd : FuncData) (ps : List Str), mg x = some (.ref f) ∧ PySem.W.keepIn K (.ref f) = true ∧ Binds K fd ps [] ∧ ps.length = n + 1 ∧ FnG P w K mg base k f fd ps (spIo K ⟨mg, w⟩ n F)
def api1 (F : D → D → R (D × D)) : D → List D → R (D × D)
  | b, [a] => F b a
  | _, _ => .bad
def api2 (F : D → D → D → R (D × D)) : D → List D → R (D × D)
  | b, [a, d] => F b a d
  | _, _ => .bad
/-! ### defs that give a new thing -/
def spO (K : PySem.W.Frag) (mg : MG) (n : Nat) (F : List D → R D) : Sp := fun vs H Q E => ∃ ds, ds.length = n ∧ RpL K mg H ds vs ∧ ∃ d, F ds = .ok d ∧ ∀ p H', Same H H' → H p = none → Own K mg H' p d → Q (.ref p) H'
structure FnO (P : Program) (w : World) (K : PySem.W.Frag) (mg : Str → Option Value) (base : Heap) (k : Nat) (x : Str) (n : Nat) (F : List D → R D) : Prop where
  ex : ∃ (f : Addr) (fd : FuncData) (ps : List Str), mg x = some (.ref f) ∧ PySem.W.keepIn K (.ref f) = true ∧ Binds K fd ps [] ∧ ps.length = n ∧ FnG P w K mg base k f fd ps (spO K ⟨mg, w⟩ n F)
theorem passE {X : Cx} (σ : St) : PassesAt (L2.CX X.prog X.w) X σ (fun _ _ _ => False) := fun pins H s e s' I h => passL pins σ H s e s' I h
section
variable {c : DC} {X : Cx} {Γ : SEnv} {i j k n : Nat} {t : Nat} {b : D} {e e1 e2 : Expr} {es : List Expr} {pos p p' : Pos} {x y : Str}
theorem jo_callO {F : List D → R D} {ms : R (List D)} (S : Cok c X) (hf : FnO X.prog X.w X.K X.mg X.base j x n F) (hr : Room j X.A) (ha : JA c X Γ (e :: es) ms) (hn : (e :: es).length = n := by rfl) (hg : Gl X x := by rfl) (hdb : (x == ("__debug__" : Str)) = false := by decide)
    (he : starEach (e :: es) X.env = (false, eval e X.env) :: starEach es X.env := by rfl) (hpl : (backTo pos (starEach es X.env)).any (·.1) = false := by rfl) : JO c X Γ (.Call (.Name x p) (e :: es) [] pos) (ms.bind fun ds => nox (F ds)) := by
  obtain ⟨f, fd, ps, hm, hk, hb, hps, FG⟩ := hf.ex
  refine pe_imp (pe_callG FG hr S.gd hg hm hk hb (E := fun _ _ _ _ => False) (fun σ => passE σ) ha.pa hdb he hpl) fun σ H Q ⟨O, ok, q⟩ => ⟨O, ok, ?_⟩
  have q := q.bind
  cases ms with
  | bad => exact q
  | exc z => exact q
  | ok ds =>
    intro vs H1 s1 r1
    obtain ⟨d, hF, q'⟩ := RE.nox (show RE (nox (F ds)) _ _ from q)
    exact ⟨ds, (ha.len ds rfl).trans hn, by rw [S.K, S.MG]; exact r1, d, hF, fun p H' s n r => q' p H' (s1.trans s) (s1.free n) (by rw [← S.K, ← S.MG]; exact r)⟩
theorem jf_callI {F : D → List D → R (D × D)} {ms : R (List D)} (S : Cok c X) (hf : FnI X.prog X.w X.K X.mg X.base j x n F) (hr : Room j X.A) (ha : JA c X Γ es ms) (hn : es.length = n := by rfl) (g : Γ[i]? = some (.ow t b) := by rfl) (nv : Γ.noVw = true := by rfl)
    (hN : X.N[i]? = some y := by rfl) (hv : Vis X.env.scope y := by first | exact Or.inl rfl | exact Or.inr (Or.inl rfl) | exact Or.inr (Or.inr rfl)) (hd : (y == ("__debug__" : Str)) = false := by decide) (hcd : (y == ("__classdict__" : Str)) = false := by decide)
    (hg : Gl X x := by rfl) (hdb : (x == ("__debug__" : Str)) = false := by decide)
    (he : starEach (.Name y p' :: es) X.env = (false, eval (.Name y p') X.env) :: starEach es X.env := by rfl) (hpl : (backTo pos (starEach es X.env)).any (·.1) = false := by rfl) : JF c X Γ i t (.Call (.Name x p) (.Name y p' :: es) [] pos) (ms.bind fun ds => nox (F b ds)) := by
  obtain ⟨f, fd, ps, hm, hk, hb, hps, FG⟩ := hf.ex
  refine pe_imp (pe_callG FG hr S.gd hg hm hk hb (E := fun _ _ _ _ => False) (fun σ => passE σ) (pa_cons (pe_own i hN hv hd hcd) ha.pa he) hdb he hpl) fun σ H Q ⟨O, ok, q⟩ => ?_
  obtain ⟨p0, e1, h2, h4, h3⟩ := ok.sl i _ g
  refine ⟨_, e1, O, ok, ?_⟩
  have q := q.bind
  cases ms with
  | bad => exact q
  | exc z => exact q
  | ok ds =>
    intro vs H1 s1 r1
    obtain ⟨r, hF, q'⟩ := RE.nox (show RE (nox (F b ds)) _ _ from q)
    refine ⟨p0, b, vs, ds, rfl, by rw [S.K, S.MG]; exact h3.same s1, (ha.len ds rfl).trans hn, by rw [S.K, S.MG]; exact r1, r, hF, fun v H' x fz o rp => ?_⟩
    rw [S.K, S.MG] at o rp
    exact q' v H' ((ok.same s1).put g e1 nv x fz o) ((Fz.of_same s1).trans fz) rp
theorem jf_callD {W : WX} {F : List D → R D} {ms : R (List D × D)} (S : Cok c X) (Ek : Exk c X W) (hf : FnD X.prog X.w X.K X.mg X.base j x n F) (hr : Room j X.A) (ha : JFA c X Γ i t (e :: es) ms) (hn : (e :: es).length = n := by rfl) (hE : EnvI c Γ i t := by exact fun _ _ h => h) (hg : Gl X x := by rfl) (hdb : (x == ("__debug__" : Str)) = false := by decide)
    (he : starEach (e :: es) X.env = (false, eval e X.env) :: starEach es X.env := by rfl) (hpl : (backTo pos (starEach es X.env)).any (·.1) = false := by rfl) : JF c X Γ i t (.Call (.Name x p) (e :: es) [] pos) (ms.bind fun r => (F r.1).bind fun d => .ok (d, r.2)) := by
  obtain ⟨f, fd, ps, hm, hk, hb, hps, FG⟩ := hf.ex
  refine pe_imp (pe_callG FG hr S.gd hg hm hk hb (fun σ => passAt Ek.tk σ) ha.pa hdb he hpl) fun σ H Q ⟨O, ok, q⟩ => ⟨O, ok, ?_⟩
  have q := q.bind
  cases ms with
  | bad => exact q
  | exc z => exact q
  | ok r =>
    intro vs H1 ok1 fz1 r1
    refine ⟨r.1, (ha.len r rfl).trans hn, by rw [S.K, S.MG]; exact r1, ?_⟩
    have q' : RE ((F r.1).bind fun d => .ok (d, r.2)) (fun r => ∀ v H', EnvOk c O (Γ.set i (.ow t r.2)) σ H' → Fz H H' → Rp c.K c.mg H' r.1 v → Q v H') (fun e => c.E e Γ) := q
    cases hF : F r.1 with
    | ok d => rw [hF] at q'; have q' := RE.okk q'; exact fun v H' s r => q' v H' (ok1.same s) (fz1.trans (Fz.of_same s)) (by rw [← S.K, ← S.MG]; exact r)
    | exc z => rw [hF, R.bind_exc] at q'; exact fun C H' hC s => Ek.xw z C O _ σ H' hC (ok1.same s) (hE z _ q')
    | bad => rw [hF] at q'; exact (RE.badd q').elim
end
end PD
end

section
/-! PD19: such defs' bodies; comprehensions that change the bag; x[k] += e. -/
namespace PD
open PySem PySem.Spec L2
open PyProof.Rows hiding St
open PySem.PyData (strOk)

def dcI (K : PySem.W.Frag) (mg : MG) (H : Hp) (p : Addr) : DC where
  K := K
  mg := mg
  G := fun b => if b = p then none else H b
  B := fun b => if b = p then none else H b
  E := fun _ _ => False
  X := fun _ => False
  xe := fun _ _ h => h
  p := fun _ => p
def dcO (K : PySem.W.Frag) (mg : MG) (H : Hp) : DC where
  K := K
  mg := mg
  G := H
  B := H
  E := fun _ _ => False
  X := fun _ => False
  xe := fun _ _ h => h
  p := fun _ => 0
  ro := true
def doneI : R (Fl Unit Empty) → R (D × D)
  | .ok (.rt d (some b)) => .ok (d, b)
  | .ok (.rt _ none) => .bad
  | .ok (.nx _) => .bad
  | .ok (.bk a) => a.elim
  | .ok (.ct a) => a.elim
  | .exc e => .exc e
  | .bad => .bad
theorem ctxI_ok {P : Program} {w : World} {K : PySem.W.Frag} {mg : Str → Option Value} {base : Heap} {N : List Str} {qual : Str} {scope : Scope} {f : Addr} {cdv : Value} {A : Around} {outer : List Env} {s : Shared} {H : Hp} {E : XK} {k : Nat} {p : Addr} (hN : N.Nodup)
    (hr : Room k (A.deeper (envOfC qual scope s.heap.objs.size f cdv))) (hg : A.guards = some []) :
    Cok (dcI K ⟨mg, w⟩ H p) (cxOf (L2.CX P w) P w K mg base N qual scope f cdv A outer s H E) ∧ Exk (dcI K ⟨mg, w⟩ H p) (cxOf (L2.CX P w) P w K mg base N qual scope f cdv A outer s H E) (fun cls d _ H => E cls d H) ∧ Po (cxOf (L2.CX P w) P w K mg base N qual scope f cdv A outer s H E) := by
  obtain ⟨S, Ek, po⟩ := ctx_ok (P := P) (w := w) (K := K) (mg := mg) (base := base) (outer := outer) (H := H) (E := E) hN hr hg
  exact ⟨⟨rfl, rfl, rfl, rfl, S.un, hg, hN⟩, ⟨Ek.tk, fun _ _ _ _ _ _ _ _ h => h.elim⟩, po⟩
theorem ctxO_ok {P : Program} {w : World} {K : PySem.W.Frag} {mg : Str → Option Value} {base : Heap} {N : List Str} {qual : Str} {scope : Scope} {f : Addr} {cdv : Value} {A : Around} {outer : List Env} {s : Shared} {H : Hp} {E : XK} {k : Nat} (hN : N.Nodup)
    (hr : Room k (A.deeper (envOfC qual scope s.heap.objs.size f cdv))) (hg : A.guards = some []) :
    Cok (dcO K ⟨mg, w⟩ H) (cxOf (L2.CX P w) P w K mg base N qual scope f cdv A outer s H E) ∧ Exk (dcO K ⟨mg, w⟩ H) (cxOf (L2.CX P w) P w K mg base N qual scope f cdv A outer s H E) (fun cls d _ H => E cls d H) ∧ Po (cxOf (L2.CX P w) P w K mg base N qual scope f cdv A outer s H E) := by
  obtain ⟨S, Ek, po⟩ := ctx_ok (P := P) (w := w) (K := K) (mg := mg) (base := base) (outer := outer) (H := H) (E := E) hN hr hg
  exact ⟨⟨rfl, rfl, rfl, rfl, S.un, hg, hN⟩, ⟨Ek.tk, fun _ _ _ _ _ _ _ _ h => h.elim⟩, po⟩
theorem fnO_of {P : Program} {w : World} {K : PySem.W.Frag} {mg : Str → Option Value} {base : Heap} {k : Nat} {x qual : Str} {params : Arguments} {body : List Stmt} {scope : Scope} {kws : List (Str × V)} {f : Addr} {fd : FuncData} {N ps : List Str} {n : Nat} {F : List D → R D} (m : List D → R (Fl Unit Empty))
    (Fd : FunD K x qual params body scope [] kws f fd) (S : FnScope N ps scope) (hm : mg x = some (.ref f)) (hb : Binds K fd ps []) (hn : ps.length = n) (hnN : n ≤ N.length) (hF : ∀ ds d, ds.length = n → F ds = .ok d → ∃ b, m ds = .ok (.rt d b))
    (hbody : ∀ (cdv : Value) (A : Around) (outer : List Env) (s : Shared) (H : Hp) (E : XK), Room k (A.deeper (envOfC qual scope s.heap.objs.size f cdv)) → A.guards = some [] → ∀ ds, ds.length = n →
      JN (dcO K ⟨mg, w⟩ H) (cxOf (L2.CX P w) P w K mg base N qual scope f cdv A outer s H E) unEn noEn (env0 ds (N.length - n)) body (m ds)) : FnO P w K mg base (k + 1) x n F := by
  refine ⟨f, fd, ps, hm, Fd.kp, hb, hn, fnG_of Fd S (fun vs H Q E ⟨ds, h1, h2, _⟩ => by rw [h2.length, h1, hn]) fun cdv A outer s H vs Q E hr hg ⟨ds, hd, r, d, hFd, q⟩ => ⟨_, hbody cdv A outer s H E hr hg ds hd, fun _ => False, ?_, ?_⟩⟩
  · have := env0_ok (mg := ⟨mg, w⟩) (K := K) (N := N) (E := E) r (by rw [hd]; exact hnN)
    rw [hd] at this
    exact ⟨this.kp, this.on, this.sl, this.ln, this.uq⟩
  · obtain ⟨b, e⟩ := hF ds d hd hFd
    rw [e]
    refine fun v H' g z r' _ => ?_
    obtain ⟨p, ev, n, o⟩ := (show ∃ p, v = .ref p ∧ H p = none ∧ Own K ⟨mg, w⟩ H' p d from r')
    subst ev
    exact q p H' g n o
theorem env0_gv {ds : List D} {n i : Nat} {d : D} (h : (env0 ds n)[i]? = some (.gv d)) : False := by
  unfold env0 at h
  by_cases hi : i < ds.length
  · rw [List.getElem?_append_left (by simpa using hi), List.getElem?_map] at h
    obtain ⟨_, _, z⟩ := Option.map_eq_some_iff.mp h
    cases z
  · rw [List.getElem?_append_right (by simpa using hi), List.getElem?_replicate] at h
    split at h <;> cases h
theorem fnI_of {P : Program} {w : World} {K : PySem.W.Frag} {mg : Str → Option Value} {base : Heap} {k : Nat} {x qual : Str} {params : Arguments} {body : List Stmt} {scope : Scope} {kws : List (Str × V)} {f : Addr} {fd : FuncData} {N ps : List Str} {n : Nat} {F : D → List D → R (D × D)} (m : D → List D → R (Fl Unit Empty))
    (Fd : FunD K x qual params body scope [] kws f fd) (S : FnScope N ps scope) (hm : mg x = some (.ref f)) (hb : Binds K fd ps []) (hn : ps.length = n + 1) (hnN : n + 1 ≤ N.length) (hF : ∀ b ds, ds.length = n → F b ds = doneI (m b ds))
    (hbody : ∀ (cdv : Value) (A : Around) (outer : List Env) (s : Shared) (H : Hp) (E : XK) (p : Addr), Room k (A.deeper (envOfC qual scope s.heap.objs.size f cdv)) → A.guards = some [] → ∀ b ds, ds.length = n →
      JN (dcI K ⟨mg, w⟩ H p) (cxOf (L2.CX P w) P w K mg base N qual scope f cdv A outer s H E) unEn noEn (.ow 1 b :: env0 ds (N.length - (n + 1))) body (m b ds)) : FnI P w K mg base (k + 1) x n F := by
  refine ⟨f, fd, ps, hm, Fd.kp, hb, hn, fnG_of Fd S (fun vs H Q E ⟨p, b, vs', ds, h1, _, h3, h4, _⟩ => by rw [h1, List.length_cons, h4.length, h3, hn]) fun cdv A outer s H vs Q E hr hg ⟨p, b, vs', ds, ev, ho, hd, r, rr, hFd, q⟩ => ⟨_, hbody cdv A outer s H E p hr hg b ds hd, fun a => a = p, ?_, ?_⟩⟩
  · subst ev
    have e0 := env0_ok (mg := ⟨mg, w⟩) (K := K) (E := E) (N := N.drop 1) r (by rw [hd, List.length_drop]; omega)
    have hst : L2.start N (.ref p :: vs') = some (.ref p) :: L2.start (N.drop 1) vs' := by
      unfold L2.start
      rw [List.map_cons, List.cons_append, List.length_drop, List.length_cons]
      congr 2
      congr 1
      omega
    have hΓ : env0 ds (N.length - (n + 1)) = env0 ds ((N.drop 1).length - ds.length) := by
      rw [List.length_drop, hd]
      congr 1
      omega
    rw [hst, hΓ]
    refine ⟨fun a o z => ?_, fun a z => by rw [z]; exact ho.at, fun i s' z => ?_, by simpa using e0.ln, fun i j t1 d1 t2 d2 q' q1 q2 _ _ => ?_⟩
    · have z : (if a = p then none else H a) = some o := z.elim id id
      split at z
      · cases z
      · rename_i h; exact ⟨z, h⟩
    · cases i with
      | zero =>
        cases (show some (Slot.ow 1 b) = some s' from z)
        exact ⟨p, rfl, rfl, fun _ => rfl, ho⟩
      | succ i =>
        have k := e0.sl i s' z
        cases s' with
        | un => trivial
        | fz d => exact k
        | ow t' d => obtain ⟨p', _, h2, _⟩ := k; exact h2.elim
        | vw d => exact k
        | gv d => exact (env0_gv z).elim
    · cases i with
      | succ i =>
        obtain ⟨p', _, h2, _⟩ := e0.sl i _ q1
        exact h2.elim
      | zero => cases j with
        | zero => rfl
        | succ j =>
          obtain ⟨p', _, h2, _⟩ := e0.sl j _ q2
          exact h2.elim
  · rw [hF b ds hd] at hFd
    cases hm' : m b ds with
    | exc z => rw [hm'] at hFd; cases hFd
    | bad => rw [hm'] at hFd; cases hFd
    | ok fl =>
      rw [hm'] at hFd
      cases fl with
      | nx _ => cases hFd
      | bk a => exact a.elim
      | ct a => exact a.elim
      | rt d io => cases io with
        | none => cases hFd
        | some b' =>
          cases hFd
          exact fun v H' g z r' o => q v H' (fun a ob hne e => g a ob (by show (if a = p then none else H a) = some ob; rw [if_neg hne]; exact e)) z (IoOk.only rfl o) r'
/-! ### tuple([elt for target in iter]), elt changing the bag -/
def DC.innG (c : DC) (G : Hp) : DC := { c.inn with G := G }
def compF (f : D → D → R (D × D)) : List D → D → R (List D × D)
  | [], b => .ok ([], b)
  | d :: r, b => (nox (f d b)).bind fun q => (compF f r q.2).bind fun w => .ok (q.1 :: w.1, w.2)
section
variable {α : Type} {c : DC} {X : Cx} {Γ : SEnv} {i : Nat} {t : Nat} {b : D} {loose : Bool} {tg iter elt : Expr} {scope : Scope} {own : List (Str × Nat)} {pos : Pos} {is : List Nat} {g : TG} {un : D → R α} {up : α → SEnv → SEnv} {mi : R (List D)} {me : α → D → R (D × D)}
theorem wiped_other {Γ : SEnv} : ∀ {vs : List Nat}, i ∉ vs → (SEnv.wipe Γ vs)[i]? = Γ[i]?
  | [], _ => rfl
  | v :: vs, h => by
    simp only [List.mem_cons, not_or] at h
    unfold SEnv.wipe
    rw [List.getElem?_set_ne (Ne.symm h.1), wiped_other h.2]
theorem view_noOw {Γ : SEnv} {j : Nat} {u : Nat} {d : D} {vs : List Nat} : (Γ.inn vs)[j]? ≠ some (.ow u d) := by
  have : ∀ vs : List Nat, (SEnv.wipe (Γ.map Slot.view) vs)[j]? ≠ some (.ow u d) := fun vs => by
    induction vs with
    | nil =>
      intro z
      rw [SEnv.wipe, List.getElem?_map] at z
      obtain ⟨s', _, z⟩ := Option.map_eq_some_iff.mp z
      cases s' <;> cases z
    | cons v vs ih =>
      intro z
      unfold SEnv.wipe at z
      rcases EnvOk.set_cases z with ⟨_, z, _⟩ | ⟨_, z⟩
      · cases z
      · exact ih z
  exact this vs
/-- slots but i that are one's own, or read alone, are not told of within -/
def SEnv.only (Γ : SEnv) : SEnv := Γ.map fun s => match s with
  | .fz d => .fz d
  | _ => .un
def SEnv.innI (Γ : SEnv) (vs : List Nat) (i : Nat) (t : Nat) (b : D) : SEnv := (SEnv.wipe Γ.only vs).set i (.ow t b)
theorem EnvOk.innI {O : Addr → Prop} {σ : St} {H : Hp} {p : Addr} {b' : D} {H' : Hp} {vs : List Nat} (h : EnvOk c O Γ σ H) (g : Γ[i]? = some (.ow t b)) (e : σ[i]? = some (some (.ref p))) (fz : Fz H H') (r : Own c.K c.mg H' p b') (hi : i ∉ vs) :
    EnvOk (c.innG fun a => if a = p then none else H' a) (fun a => a = p) (Γ.innI vs i t b') (L2.wipe σ vs) H' := by
  obtain ⟨p', h1, h2, h4, h3⟩ := h.sl i _ g
  rw [e] at h1; cases h1
  have hil : i < (SEnv.wipe Γ.only vs).length := by
    have hw : ∀ (Γ : SEnv) vs, (SEnv.wipe Γ vs).length = Γ.length := fun Γ vs => by
      induction vs with
      | nil => rfl
      | cons v vs ih => unfold SEnv.wipe; rw [List.length_set, ih]
    rw [hw]
    unfold SEnv.only
    rw [List.length_map]
    exact (List.getElem?_eq_some_iff.mp g).1
  have base : ∀ (j : Nat) s, (SEnv.wipe Γ.only vs)[j]? = some s → s = .un ∨ ∃ d, s = .fz d ∧ Γ[j]? = some (.fz d) ∧ j ∉ vs := fun j s => by
    have : ∀ vs : List Nat, (SEnv.wipe Γ.only vs)[j]? = some s → s = .un ∨ ∃ d, s = .fz d ∧ Γ[j]? = some (.fz d) ∧ j ∉ vs := fun vs => by
      induction vs with
      | nil =>
        intro z
        unfold SEnv.wipe SEnv.only at z
        rw [List.getElem?_map] at z
        obtain ⟨s', q1, q2⟩ := Option.map_eq_some_iff.mp z
        cases s' with
        | fz d => exact .inr ⟨d, q2.symm, q1, by simp⟩
        | _ => exact .inl q2.symm
      | cons v vs ih =>
        intro z
        unfold SEnv.wipe at z
        rcases EnvOk.set_cases z with ⟨_, z, _⟩ | ⟨n, z⟩
        · exact .inl z
        · rcases ih z with z | ⟨d, e1, e2, e3⟩
          · exact .inl z
          · exact .inr ⟨d, e1, e2, by simp [n, e3]⟩
    exact this vs
  refine ⟨fun a o z => ?_, fun a z => by rw [z]; exact r.at, fun j s z => ?_, ?_, fun j k t1 d1 t2 d2 q q1 q2 _ _ => ?_⟩
  · have z : (if a = p then none else H' a) = some o := z.elim id (fun z => nomatch (show (none : Option HO) = some o from z))
    split at z
    · cases z
    · rename_i hne; exact ⟨z, hne⟩
  · rcases EnvOk.set_cases z with ⟨rfl, rfl, _⟩ | ⟨n, z⟩
    · exact ⟨p, by rw [wipe_out hi]; exact e, rfl, h4, r⟩
    · rcases base j s z with rfl | ⟨d, rfl, z, hj⟩
      · trivial
      · obtain ⟨v, q1, q2⟩ := h.sl j _ z
        exact ⟨v, by rw [wipe_out hj]; exact q1, q2.stay fz⟩
  · unfold SEnv.innI
    have hw : ∀ (Γ : SEnv) vs, (SEnv.wipe Γ vs).length = Γ.length := fun Γ vs => by
      induction vs with
      | nil => rfl
      | cons v vs ih => unfold SEnv.wipe; rw [List.length_set, ih]
    rw [List.length_set, hw, wipe_length]
    unfold SEnv.only
    rw [List.length_map]
    exact h.ln
  · have one : ∀ {j : Nat} {t1 : Nat} {d1 : D}, (Γ.innI vs i t b')[j]? = some (.ow t1 d1) → j = i := fun {j t1 d1} q => by
      rcases EnvOk.set_cases q with ⟨rfl, _, _⟩ | ⟨_, q⟩
      · rfl
      · rcases base j _ q with z | ⟨d, z, _⟩ <;> cases z
    rw [one q1, one q2]
theorem jfo_lc (S : Cok c X) (hi : JI loose Fz c X Γ tg iter mi) (sg : ∀ G, SG (c.innG G) loose is g un up) (ok : BlkOk X.N X.env.scope scope own) (his : ∀ k ∈ is, k ∈ own.map (·.2)) (hio : i ∉ own.map (·.2))
    (gb : Γ[i]? = some (.ow t b)) (nv : Γ.noVw = true)
    (hg : ∀ (s : Shared) (H : Hp) (C : Addr) (cl : List (Str × Addr)) (fp : List Addr), Cok c.inn (X.blk s H scope (compEnvC scope cl C X.env) fp) → PG (X.blk s H scope (compEnvC scope cl C X.env) fp) tg g)
    (he : ∀ (s : Shared) (H : Hp) (C : Addr) (cl : List (Str × Addr)) (fp : List Addr) (G : Hp), Cok (c.innG G) (X.blk s H scope (compEnvC scope cl C X.env) fp) → ∀ (a : α) (b' : D), JF (c.innG G) (X.blk s H scope (compEnvC scope cl C X.env) fp) (up a (Γ.innI (own.map (·.2)) i t b')) i t elt (me a b'))
    (hget : ∀ a b', (up a (Γ.innI (own.map (·.2)) i t b'))[i]? = some (.ow t b'))
    (hs : ∀ x, foldedSetIterable iter X.env x = pure x := by intro _; rfl) :
    JFO c X Γ i t (.ListComp elt [⟨tg, iter, [], 0⟩] scope pos) (mi.bind fun ds => (compF (fun d b => (un d).bind fun a => me a b) ds b).bind fun w => .ok (.lst w.1, w.2)) := by
  refine pe_imp (pe_lc (te := fun σ H Q => ∃ G a b', tF (c.innG G) (up a (Γ.innI (own.map (·.2)) i t b')) i t (me a b') σ H Q) S.calm S.nd hi ok (fun s H C cl fp => hg s H C cl fp S.blk) (fun s H C cl fp => pts_nil)
    (fun s H C cl fp => ⟨fun pins t σ H' Q I ⟨G, a, b', q⟩ => (he s H C cl fp G ⟨S.K, S.mg, S.w, S.calm, S.un, S.gd, S.nd⟩ a b').run pins t σ H' Q I q⟩) hs) fun σ H Q ⟨O, okE, q⟩ => ⟨O, okE, q.bind.imp fun ds k J H1 s1 w => ?_⟩
  intro D nD
  obtain ⟨p, e1, _, _, ho⟩ := okE.sl i _ gb
  obtain ⟨ob, hob⟩ := ho.at
  have hDp : D ≠ p := fun z => by
    rw [z, s1 _ _ hob] at nD; cases nD
  refine lc_it (g := g) (tt := tYes) (te := fun σ H Q => ∃ G a b', tF (c.innG G) (up a (Γ.innI (own.map (·.2)) i t b')) i t (me a b') σ H Q) (vs := own.map (·.2)) (σ := σ) (H1 := H1) (D := D) (Qd := fun H => Q (.ref D) H) w.walk
    (fun n H' => Fz H1 H' ∧ ExtP p H1 H' ∧ ∃ b' acc out, Own c.K c.mg H' p b' ∧ H' D = some (.lst acc) ∧ RpL c.K c.mg H' out acc ∧ out.length ≤ n ∧
      RE (compF (fun d b => (un d).bind fun a => me a b) (ds.drop n) b') (fun w => ∀ p' H'', EnvOk c O (Γ.set i (.ow t w.2)) σ H'' → Fz H H'' → Own c.K c.mg H'' p' (.lst (out ++ w.1)) → Q (.ref p') H'') (fun e => c.E e Γ)) ?_ ?_ ?_ ?_
  · exact ⟨Fz.of_same (same_new nD), fun a o _ z => same_new nD a o z, b, [], [], (ho.same s1).same (same_new nD), upd_same, RpL.nil.mpr rfl, Nat.le_refl _, (show RE (compF _ ds b) _ _ from RE.bind k).imp fun l k => k⟩
  · exact fun n H' _ h => h.1
  · rintro n x H2 H3 hi2 ⟨fz, xt, b', acc, out, hb, hD, hr, hlen, k2⟩ y
    obtain ⟨d, hd, s2, yd⟩ := w.yields n H2 x H3 hi2 fz y
    have hdrop : ds.drop n = d :: ds.drop (n + 1) := by
      obtain ⟨hl, e⟩ := List.getElem?_eq_some_iff.mp hd
      rw [List.drop_eq_getElem_cons hl, e]
    rw [hdrop, compF] at k2
    obtain ⟨op, hf, k3⟩ := RE.nox (RE.bind k2)
    obtain ⟨a, hu, hf⟩ := R.bind_eq_ok hf
    have hb3 := hb.same s2
    have fzH : Fz H H3 := (Fz.of_same s1).trans (fz.trans (Fz.of_same s2))
    have ok3 := okE.innI gb e1 fzH hb3 hio
    refine (sg _).1 ok3 yd hu fun σ' chg ok' => ⟨(chg _ his).trans (wipe_idem _ _), ?_⟩
    refine ⟨_, a, b', _, ok', ?_⟩
    rw [hf]
    intro v H4 ok4 fz4 rp4
    have hD4 : H4 D = some (.lst acc) := (ok4.kp D _ (.inl (by show (if D = p then none else H3 D) = some _; rw [if_neg hDp]; exact s2 _ _ hD))).1
    have hl := (List.getElem?_eq_some_iff.mp (hget a b')).1
    obtain ⟨p', _, ep, _, ho4⟩ := ok4.sl i (.ow t op.2) (by rw [List.getElem?_set_self hl])
    cases (show p' = p from ep)
    have fzu := fz_upd (o' := .lst (acc ++ [v])) hD4 trivial
    have hlo : out.length = acc.length := hr.length.symm
    have hz := w.size
    refine ⟨acc, hD4, by omega, ((fz.trans (Fz.of_same s2)).trans fz4).trans fzu, fun a' o' hne z => ?_, op.2, acc ++ [v], out ++ [op.1], Own.stay fzu (fun o z => by rw [upd_ne (Ne.symm hDp)]; exact z) ho4, upd_same, ((((hr.same s2).stay fz4).append (RpL.one rp4)).stay fzu), by rw [List.length_append, List.length_singleton]; omega, (show RE (compF _ (ds.drop (n + 1)) op.2) _ _ from RE.bind k3).imp fun l k => ?_⟩
    · rw [upd_ne (ne_of_none z nD)]
      exact (ok4.kp a' o' (.inl (by show (if a' = p then none else H3 a') = some _; rw [if_neg hne]; exact s2 _ _ (xt _ _ hne z)))).1
    · have k : ∀ p' H'', EnvOk c O (Γ.set i (.ow t l.2)) σ H'' → Fz H H'' → Own c.K c.mg H'' p' (.lst (out ++ op.1 :: l.1)) → Q (.ref p') H'' := k
      intro p' H'' e1 e2 e3
      rw [List.append_assoc] at e3
      exact k p' H'' e1 e2 e3
  · rintro H' ⟨fz, xt, b', acc, out, hb, hD, hr, hlen, k2⟩
    rw [List.drop_length, compF] at k2
    have k2 : ∀ p' H'', EnvOk c O (Γ.set i (.ow t b')) σ H'' → Fz H H'' → Own c.K c.mg H'' p' (.lst (out ++ [])) → Q (.ref p') H'' := k2
    refine k2 D H' (okE.put gb e1 nv (fun a o hne z => xt a o hne (s1 _ _ z)) ((Fz.of_same s1).trans fz) hb) ((Fz.of_same s1).trans fz) ?_
    rw [List.append_nil]
    exact ⟨acc, hD, hr⟩
/-! ### x[k] += e, ints -/
end
section
variable {α β : Type} {c : DC} {X : Cx} {Γ : SEnv} {en : α → SEnv} {enL : β → SEnv} {i : Nat} {t : Nat} {b : D} {e ek : Expr} {me mk : R D} {mr : D → R (Fl α β)} {pos p p' : Pos} {x : Str} {rest : List Stmt}
def rGetL : V → V → Hp → VK → Prop := fun o i H Q => ∃ (p : Addr) (xs : List V) (k : Int) (y : V), o = .ref p ∧ i = .int k ∧ Rd H p (.lst xs) ∧ 0 ≤ k ∧ xs[k.toNat]? = some y ∧ Q y H
theorem get_list : PGet X rGetL := by
  intro pins s σ H o i ov iv Q I ro ri h
  obtain ⟨p, xs, k, y, rfl, rfl, hp, h0, hy, q⟩ := h
  cases ro
  obtain ⟨u, rfl⟩ := ri
  obtain ⟨hz, its, n, r, hl, e⟩ := Inv.lstR I hp
  obtain ⟨w, ew, rw'⟩ := r.get hy
  have hlt := (List.getElem?_eq_some_iff.mp hy).1
  have := line63
  exact getItem_listL (s := s) (l := its) ⟨_, e, rfl, n, rfl⟩ h0 (by omega) ew ⟨y, H, I, rw', q⟩
def oldAt (ds : List D) : D → R (Nat × Int)
  | .int k => if 0 ≤ k then (match ds[k.toNat]? with
    | some (.int z) => .ok (k.toNat, z)
    | _ => .bad) else .bad
  | _ => .bad
def addTo (ds : List D) (o : Nat × Int) : D → R D
  | .int y => .ok (.lst (ds.set o.1 (.int (o.2 + y))))
  | _ => .bad
theorem jn_augAdd (S : Cok c X) (i : Nat) (hk : JE c X Γ ek mk) (he : JE c X Γ e me) (hr : ∀ b', JN c X en enL (Γ.set i (.ow t b')) rest (mr b')) (g : Γ[i]? = some (.ow t b) := by rfl) (nv : Γ.noVw = true := by rfl) (hN : X.N[i]? = some x := by rfl)
    (hv : Vis X.env.scope x := by first | exact Or.inl rfl | exact Or.inr (Or.inl rfl)) (hd : (x == ("__debug__" : Str)) = false := by decide) (hcd : (x == ("__classdict__" : Str)) = false := by decide)
    (ha : ∀ ov iv new, augStore ek ov iv new = (do holding [new, ov, iv] (setItem ov iv new); release [new, ov, iv] []; pure .next) := by intros; rfl) :
    JN c X en enL Γ (.AugAssign (.Subscript (.Name x p) ek p') .Add e pos :: rest) ((dLst b).bind fun ds => mk.bind fun k => (oldAt ds k).bind fun o => me.bind fun d => (addTo ds o d).bind mr) := by
  refine pss_imp (pss_cons (ps_augS (pe_own i hN hv hd hcd) hk get_list he ip_add (set_any (by have := S.un; omega)) ha) (pss_ex hr)) fun Dn σ H ⟨O, ok, q⟩ => ?_
  cases b with
  | lst ds =>
    obtain ⟨q0, e1, h2, _, vs, h3, h4⟩ := ok.sl i _ g
    have q := RE.okk q
    refine ⟨_, e1, O, ok, RE.ex ((show RE mk _ _ from RE.bind q).imp fun dk k1 vk H1 s1 r1 => ?_)⟩
    cases ho : oldAt ds dk with
    | bad => rw [ho] at k1; exact (RE.badd k1).elim
    | exc z => unfold oldAt at ho; split at ho <;> (try split at ho) <;> (try split at ho) <;> cases ho
    | ok o =>
      rw [ho] at k1
      have k1 := RE.okk k1
      unfold oldAt at ho
      split at ho
      · split at ho
        · rename_i k h0
          split at ho
          · rename_i z hz
            cases ho
            rw [Rp] at r1
            subst r1
            obtain ⟨vz, hvz, rz⟩ := (h4.same s1).get hz
            rw [Rp] at rz
            subst rz
            refine ⟨q0, vs, k, .int z, rfl, rfl, .inl (s1 _ _ h3), h0, hvz, O, ok.same s1, RE.ex ((show RE me _ _ from RE.bind k1).imp fun d k2 v H2 s2 r2 => ?_)⟩
            cases d with
            | int y =>
              have k2 := RE.okk k2
              rw [Rp] at r2
              subst r2
              refine ⟨z, y, rfl, rfl, .inl ⟨q0, vs, k, k.toNat, rfl, rfl, s2 _ _ (s1 _ _ h3), ?_, .lst (ds.set k.toNat (.int (z + y))), ?_⟩⟩
              · have hl := (List.getElem?_eq_some_iff.mp hvz).1
                unfold ixN
                rw [if_pos h0, if_pos (by omega)]
              · exact tS_change ok (s1.trans s2) g e1 nv ⟨_, upd_same, (((h4.same s1).same s2).set k.toNat Rp.int).stay (fz_upd (s2 _ _ (s1 _ _ h3)) trivial)⟩ k2
            | _ => exact (RE.badd k2).elim
          · cases ho
        · cases ho
      · cases ho
  | _ => exact (RE.badd q).elim
end
end PD
end

section
/-! PD20: try: e; .. except X: .. -/
namespace PD
open PySem PySem.Spec L2
open PyProof.Rows hiding St
open PySem.PyData (strOk)

def DC.tr (c : DC) (G : Hp) (W : WX) : DC :=
  { c with G := G, E := fun e Γ => ∀ C O σ H, c.mg e = some (.ref C) → EnvOk { c with G := G } O Γ σ H → W (.ref C) none σ H, X := fun _ => False, xe := fun _ _ h => h.elim }
/-- the own things that Γ tells of -/
def Held (Γ : SEnv) (σ : St) (a : Addr) : Prop := ∃ (i : Nat) (t : Nat) (d : D), Γ[i]? = some (.ow t d) ∧ σ[i]? = some (some (.ref a))
section
variable {c : DC} {O : Addr → Prop} {Γ : SEnv} {σ : St} {H : Hp}
theorem EnvOk.held (h : EnvOk c O Γ σ H) : EnvOk c (Held Γ σ) Γ σ H ∧ (∀ a, Held Γ σ a → O a ∧ ∃ o, H a = some o ∧ isBox o) := by
  have sub : ∀ a, Held Γ σ a → O a ∧ ∃ o, H a = some o ∧ isBox o := fun a ⟨i, t, d, g, e⟩ => by
    obtain ⟨p, e1, h2, _, h3⟩ := h.sl i _ g
    rw [e] at e1; cases e1
    exact ⟨h2, h3.box⟩
  refine ⟨⟨fun b o q => ⟨(h.kp b o q).1, fun z => (h.kp b o q).2 (sub b z).1⟩, fun b z => let ⟨o, e, _⟩ := (sub b z).2; ⟨o, e⟩, fun i s q => ?_, h.ln, h.uq⟩, sub⟩
  have k := h.sl i s q
  cases s with
  | un => trivial
  | fz d => exact k
  | ow t d => obtain ⟨p, e1, h2, h4, h3⟩ := k; exact ⟨p, e1, ⟨i, t, d, q, e1⟩, h4, h3⟩
  | vw d => exact k
  | gv d => exact k
/-- all that stands, but what Γ tells of as one's own -/
noncomputable def rest0 (Γ : SEnv) (σ : St) (H : Hp) : Hp := fun b => open Classical in if Held Γ σ b then none else H b
theorem EnvOk.toRest (h : EnvOk c O Γ σ H) : EnvOk { c with G := rest0 Γ σ H } (Held Γ σ) Γ σ H := by
  obtain ⟨h1, _⟩ := h.held
  refine ⟨fun b o q => ?_, h1.on, h1.sl, h1.ln, h1.uq⟩
  rcases q with q | q
  rotate_left
  · obtain ⟨z1, z2⟩ := h.kp b o (.inr q)
    exact ⟨z1, fun z => z2 (h.held.2 b z).1⟩
  have q : rest0 Γ σ H b = some o := q
  unfold rest0 at q
  split at q
  · cases q
  · rename_i n; exact ⟨q, n⟩
theorem rest_keep (h : EnvOk c O Γ σ H) {b : Addr} {o : HO} (q : c.G b = some o) : rest0 Γ σ H b = some o := by
  obtain ⟨z1, z2⟩ := h.kp b o (.inl q)
  unfold rest0
  rw [if_neg fun z => z2 (h.held.2 b z).1]
  exact z1
theorem EnvOk.ofRest (h : EnvOk c O Γ σ H) {O2 : Addr → Prop} {Γ2 : SEnv} {σ2 : St} {H2 : Hp} (k : EnvOk { c with G := rest0 Γ σ H } O2 Γ2 σ2 H2) : EnvOk c O2 Γ2 σ2 H2 :=
  ⟨fun b o q => k.kp b o (q.imp (fun q => rest_keep h q) id), k.on, k.sl, k.ln, k.uq⟩
theorem rest_fz (h : EnvOk c O Γ σ H) {H2 : Hp} (k : ∀ b o, rest0 Γ σ H b = some o → H2 b = some o) : Fz H H2 := fun a o u q => k _ _ (by
  unfold rest0
  rw [if_neg fun z => by
    obtain ⟨_, o', e, bx⟩ := h.held.2 a z
    rw [q] at e; cases e; exact bx]
  exact q)
end
section
variable {α α' β : Type} {c : DC} {X : Cx} {W : WX} {Γ : SEnv} {en : α → SEnv} {enL : β → SEnv} {e1 : Expr} {me : R D} {rest rest1 suite : List Stmt} {b₀ : Stmt} {np pos pos' p1 : Pos} {x : Str} {C : Addr}
/-- fm: which exceptions are taken -/
def tryR (fm : Str → Option Bool) (me : R D) (m1 mh : R (Fl α' β)) : R (Fl α' β) := match me with
  | .ok _ => nox m1
  | .exc e => (match fm e with
    | some true => mh
    | some false => .exc e
    | none => .bad)
  | .bad => .bad
theorem jn_try (S : Cok c X) (E : Exk c X W) {m1 mh : R (Fl α' β)} (enJ : α' → SEnv) {mr : α' → R (Fl α β)} (fm : Str → Option Bool) (hC : X.mg x = some (.ref C)) (hg : Gl X x)
    (hm : ∀ e C' b, X.mg e = some (.ref C') → fm e = some b → PySem.W.exmOne X.K (.ref C') (.ref C) = some b)
    (h1 : ∀ (G : Hp) (W' : WX) (pn : List (Addr × Obj)) (xe : Value → Shared → Prop), Cok (c.tr G W') (X.tr pn xe) → Exk (c.tr G W') (X.tr pn xe) W' → Po (X.tr pn xe) → JE (c.tr G W') (X.tr pn xe) Γ e1 me ∧ JN (c.tr G W') (X.tr pn xe) enJ enL Γ rest1 m1)
    (h2 : ∀ (a : Addr) (oe : Obj) (pn : List (Addr × Obj)), JN c (X.suite a ((a, oe) :: pn)) enJ enL Γ (b₀ :: suite) mh)
    (hr : ∀ a, JN c X en enL (enJ a) rest (mr a))
    (hs : X.stack = X.env :: X.outer := by rfl) (hf : X.env.frame = some X.env.locals := by rfl) (hdb : (x == ("__debug__" : Str)) = false := by decide)
    (hsw : ∀ pn xe, swapsWith e1 none p1.line (X.tr pn xe).env = pure false := by intros; rfl) :
    JN c X en enL Γ (.Try (.Expr e1 p1 :: rest1) [.ExceptHandler (some (.Name x np)) none (b₀ :: suite) pos'] [] [] pos :: rest) ((tryR fm me m1 mh).bind (Fl.go mr)) := by
  refine pss_imp (pss_cons (ps_try_only (c := .ref C) (tb := fun W' D σ H => ∃ G, tSeq (tDrop (tR (c.tr G W') Γ me)) (tS (c.tr G W') enJ enL Γ m1) D σ H) (ts := fun a cls d => tS c enJ enL Γ mh) hs hf ⟨hg, hdb, .inl hC⟩ E.tk (fun W' pn xe tk po => ?_) (fun a oe cls d pn _ _ => h2 a oe pn)) (pss_ex hr)) fun Dn σ H ⟨O, ok, q⟩ => ?_
  · have hx : ∀ G, Exk (c.tr G W') (X.tr pn xe) W' := fun G => ⟨tk, fun e C O Γ σ H hC ok h => h C O σ H (by rw [← S.mg]; exact hC) ⟨ok.kp, ok.on, ok.sl, ok.ln, ok.uq⟩⟩
    have hS : ∀ G, Cok (c.tr G W') (X.tr pn xe) := fun G => ⟨S.K, S.mg, S.w, S.calm, S.un, S.gd, S.nd⟩
    exact ⟨fun pins s σ H D I ⟨G, q⟩ => (pss_cons (ps_expr (h1 G W' pn xe (hS G) (hx G) po).1 (hsw pn xe)) (h1 G W' pn xe (hS G) (hx G) po).2).run pins s σ H D I q⟩
  · have okr := ok.toRest
    have okr' : ∀ W', EnvOk (c.tr (rest0 Γ σ H) W') (Held Γ σ) Γ σ H := fun W' => ⟨okr.kp, okr.on, okr.sl, okr.ln, okr.uq⟩
    refine ⟨rest0 Γ σ H, Held Γ σ, okr' _, ?_⟩
    -- what the body's own ends give
    have conv : ∀ {fl : Fl α' β} {H' : Hp} {W'}, Fz H H' → RE (fl.go mr) (FlOk c en enL H Dn) (fun e => c.X e) →
        FlOk (c.tr (rest0 Γ σ H) W') enJ enL H' { Dn with nx := fun σ H => ∃ a, tS c en enL (enJ a) (mr a) Dn σ H } fl := fun {fl H' W'} fz h => by
      have back : ∀ {O2 Γ2 σ2 H2}, EnvOk (c.tr (rest0 Γ σ H) W') O2 Γ2 σ2 H2 → EnvOk c O2 Γ2 σ2 H2 := fun k => ok.ofRest ⟨k.kp, k.on, k.sl, k.ln, k.uq⟩
      cases fl with
      | nx a => exact fun O2 σ2 H2 k z => ⟨a, O2, back k, (show RE (mr a) _ _ from h).imp fun fl f => f.fz (fz.trans z)⟩
      | bk b => exact fun O2 σ2 H2 k z => (show FlOk c en enL H Dn (.bk b) from h) O2 σ2 H2 (back k) (fz.trans z)
      | ct b => exact fun O2 σ2 H2 k z => (show FlOk c en enL H Dn (.ct b) from h) O2 σ2 H2 (back k) (fz.trans z)
      | rt d b => exact fun v H2 g z r io => (show FlOk c en enL H Dn (.rt d b) from h) v H2 (fun b o q => g b o (rest_keep ok q)) (fz.trans z) (by
          unfold RtOk at r ⊢
          split
          · rename_i ro
            rw [if_pos (show (c.tr (rest0 Γ σ H) W').ro = true from ro)] at r
            obtain ⟨p, e, n, o⟩ := r
            refine ⟨p, e, ?_, o⟩
            cases hg : c.G p with
            | none => rfl
            | some ob =>
              have := rest_keep ok hg
              rw [show rest0 Γ σ H p = none from n] at this; cases this
          · rename_i ro
            rwa [if_neg (show ¬ (c.tr (rest0 Γ σ H) W').ro = true from ro)] at r) (by cases b <;> exact io)
    cases me with
    | bad => exact (RE.badd q).elim
    | ok d =>
      have q : RE ((nox m1).bind (Fl.go mr)) (FlOk c en enL H Dn) (fun e => c.X e) := q
      obtain ⟨fl, hfl, q⟩ := RE.nox (RE.bind q)
      refine fun v H' s r => ⟨Held Γ σ, (okr' _).same s, ?_⟩
      rw [hfl]
      exact conv (Fz.of_same s) q
    | exc e =>
      have q : RE ((match fm e with
        | some true => mh
        | some false => .exc e
        | none => .bad).bind (Fl.go mr)) (FlOk c en enL H Dn) (fun e => c.X e) := q
      intro C' O2 σ2 H2 hC' ok2
      have back := ok.ofRest ok2
      have fz : Fz H H2 := rest_fz ok fun b o q => (ok2.kp b o (.inl q)).1
      cases hfe : fm e with
      | none => rw [hfe] at q; exact (RE.badd q).elim
      | some b =>
        rw [hfe] at q
        refine ⟨b, hm e C' b (by rw [S.mg]; exact hC') hfe, fun hb a na => ?_, fun hb => ?_⟩
        · subst hb
          refine ⟨O2, back, (RE.bind (show RE (mh.bind (Fl.go mr)) _ _ from q)).imp fun fl f => ?_⟩
          cases fl with
          | nx a => exact fun O3 σ3 H3 k z => ⟨a, O3, k, (show RE (mr a) _ _ from f).imp fun fl f => f.fz (fz.trans z)⟩
          | rt d b => exact FlOk.fz (c := c) (en := en) (enL := enL) (fl := .rt d b) fz f
          | bk b => exact FlOk.fz (c := c) (en := en) (enL := enL) (fl := .bk b) fz f
          | ct b => exact FlOk.fz (c := c) (en := en) (enL := enL) (fl := .ct b) fz f
        · subst hb
          have q : RE (R.exc e) _ (fun e => c.X e) := RE.bind (show RE ((R.exc e).bind (Fl.go mr)) _ _ from q)
          exact E.xw e C' O2 Γ σ2 H2 (by rw [S.mg]; exact hC') back (c.xe e Γ q)
end
end PD
end

section
/-! PD21: a law's end, for promises that ask that no repr is under way. -/
namespace PD
open PySem PySem.Spec L2
open PyProof.Rows hiding St
open PySem.PyData (strOk)

section
variable {P : Program} {w : World} {K : PySem.W.Frag} {mg mb : Str → Option Value} {k : Nat} {fa a : Addr} {fd : FuncData} {x : Str} {sp : Sp} {s1 : Shared} {vs : List Value} {ns : List Int}
/-- nothing but the script's object is spoken of in H -/
structure Lone (K : PySem.W.Frag) (H : Hp) (a : Addr) (ns : List Int) : Prop where
  all : ∀ b, H b = none ∨ (b = a ∧ K.lookup a = none ∧ ∃ o, H b = some (.frz o (.lst (ns.map V.int))))
  scr : ScT K H a ns
theorem lone_base {H : Hp} (L : Lone K H a ns) (ha : s1.heap.get? a = some { cls := .type "list", data := .seq vs.toArray }) {b : Addr} {o : Obj} (e : s1.heap.get? b = some o) (d : (∃ es ep, o.data = .dict es ep) ∨ K.lookup b = some o) : (hidT s1.heap H).get? b = some o := by
  refine hidT_get e ((L.all b).resolve_right fun ⟨eb, kn, _⟩ => ?_)
  subst eb
  rcases d with ⟨es, ep, d⟩ | d
  · rw [ha] at e
    cases e
    exact nomatch d
  · rw [kn] at d; cases d
theorem lone_ns {H : Hp} (L : Lone K H a ns) (ha : s1.heap.get? a = some { cls := .type "list", data := .seq vs.toArray }) {b : Addr} {m : Str → Option Value} (n : s1.heap.Ns b m) : (hidT s1.heap H).Ns b m :=
  let ⟨o, es, ep, e, d, r⟩ := n; ⟨o, es, ep, lone_base L ha e (.inl ⟨es, ep, d⟩), d, r⟩
theorem run_lone {H : Hp} (L : Lone K H a ns) (hok : HOk P w H s1.heap) (KX : K.In s1.heap) (hns : s1.heap.Ns mainGlobals mg) (hb : s1.heap.Ns builtinsNs mb) (hbb : ∀ x : Str, x ≠ "__name__" → mb x = bootBuiltins x) (hlim : s1.heap.NoLimit) (hg : s1.gens = #[])
    (ha : s1.heap.get? a = some { cls := .type "list", data := .seq vs.toArray }) (hr : Room k callerA)
    (F : ∀ base : Heap, K.In base → base.Ns mainGlobals mg → FnG P w K mg base k fa fd [x] sp) (hbind : ∀ (s : Shared) (u : Value), BindsTo s fd ⟨[u], []⟩ [(x, u)])
    (hsp : sp [.ref a] H (fun v _ => v = .bl true) fun _ _ _ => False) :
    codeAny (model P w) callerA (.call (.ref fa) ⟨[.ref a], []⟩) (fun r s' => r = .ok (.ret (.bool true)) ∧ PySem.OldK s1.heap s'.heap ∧ s'.os = s1.os ∧ PyProof.Rows.AllBare s'.gens) s1 := by
  have noO : ∀ b : Addr, b ∉ ([] : List Addr) := fun b z => by cases z
  have kin : K.In (hidT s1.heap H) := fun b o e => lone_base L ha (KX b o e) (.inr e)
  have gns := lone_ns L ha hns
  have e0 : Env0 P w K mg (hidT s1.heap H) callerA [] s1 H :=
    ⟨rfl, ⟨kin, gns, ⟨mb, lone_ns L ha hb, hbb⟩, let ⟨mc, h1, h2⟩ := hlim; ⟨mc, lone_ns L ha h1, h2⟩⟩, fun b o e => of_hidT e, Nat.le_of_eq (hidT_size _ _), trivial, fun b z => absurd z (noO b), hok, .of_eq hg⟩
  have run := (F _ kin gns).run callerA [] s1 H ⟨[.ref a], []⟩ [.ref a] [.ref a] _ _ hr rfl e0 (hbind s1 (.ref a)) (.cons rfl .nil) hsp
  refine codeAny_mono run fun r s' h => ?_
  match r, h with
  | .error e, h =>
    obtain ⟨_, _, _, _, z⟩ := h
    exact (show False by first | exact z | exact z.elim | simp at z).elim
  | .ok .next, h => exact (show False from h).elim
  | .ok .brk, h => exact (show False from h).elim
  | .ok .cont, h => exact (show False from h).elim
  | .ok (.ret u), ⟨v, H', hos, bare, un, hok', rv, q⟩ =>
    cases (show v = V.bl true from q)
    cases (show u = Value.bool true from rv)
    refine ⟨rfl, PySem.OldK.of_keep fun b o e => ?_, hos, bare⟩
    rcases L.all b with n | ⟨_, _, ob, z⟩
    · exact un.keep b o e n (fun z => noO _ z) (by simp)
    · have g1 := (hok b _ z).1
      rw [e] at g1
      cases g1
      exact (hok' b _ (un.frzs b _ _ z)).1
/-- the law's promise, at the heap behind the top -/
theorem law_callG (KX : K.In s1.heap) (hns : s1.heap.Ns mainGlobals mg) (hb : s1.heap.Ns builtinsNs mb) (hbb : ∀ x : Str, x ≠ "__name__" → mb x = bootBuiltins x) (hlim : s1.heap.NoLimit) (hg : s1.gens = #[])
    (ha : s1.heap.get? a = some { cls := .type "list", data := .seq vs.toArray }) (hi : IntsAre vs ns) (hl : ns.length ≤ sizeLine) (hr : Room k callerA)
    (F : ∀ base : Heap, K.In base → base.Ns mainGlobals mg → FnG P w K mg base k fa fd [x] sp) (hbind : ∀ (s : Shared) (u : Value), BindsTo s fd ⟨[u], []⟩ [(x, u)])
    (hsp : ∀ H : Hp, ScT K H a ns → sp [.ref a] H (fun v _ => v = .bl true) fun _ _ _ => False) :
    codeAny (model P w) callerA (.call (.ref fa) ⟨[.ref a], []⟩) (fun r s' => r = .ok (.ret (.bool true)) ∧ PySem.OldK s1.heap s'.heap ∧ s'.os = s1.os ∧ PyProof.Rows.AllBare s'.gens) s1 := by
  have rv : Vals (ns.map V.int) vs := vals_ints hi
  have lv : vs.length ≤ sizeLine := by rw [← rv.length, List.length_map]; exact hl
  have fin : ∀ H : Hp, Lone K H a ns → HOk P w H s1.heap → codeAny (model P w) callerA (.call (.ref fa) ⟨[.ref a], []⟩) (fun r s' => r = .ok (.ret (.bool true)) ∧ PySem.OldK s1.heap s'.heap ∧ s'.os = s1.os ∧ PyProof.Rows.AllBare s'.gens) s1 :=
    fun H L hok => run_lone L hok KX hns hb hbb hlim hg ha hr F hbind (hsp H L.scr)
  by_cases kn : K.lookup a = none
  · refine fin (fun b => if b = a then some (.frz { cls := .type "list", data := .seq vs.toArray } (.lst (ns.map V.int))) else none) ⟨fun b => ?_, .inl ⟨_, if_pos rfl⟩⟩ fun b u z => ?_
    · by_cases e : b = a
      · exact .inr ⟨e, kn, _, if_pos e⟩
      · exact .inl (if_neg e)
    · have z : (if b = a then some (HO.frz { cls := .type "list", data := .seq vs.toArray } (.lst (ns.map V.int))) else none) = some u := z
      split at z
      · rename_i e
        cases z
        rw [e]
        exact ⟨ha, by rw [List.length_map]; exact hl, vs, _, rv, ha⟩
      · cases z
  · obtain ⟨o, ho⟩ : ∃ o, K.lookup a = some o := by
      cases q : K.lookup a with
      | none => exact absurd q kn
      | some o => exact ⟨o, rfl⟩
    have e := KX a o ho
    rw [ha] at e
    cases e
    exact fin (fun _ => none) ⟨fun _ => .inl rfl, .inr ⟨_, vs.toArray, _, ho, rfl, rfl, rfl, by rw [List.size_toArray]; exact lv, by simpa using rv⟩⟩ fun b u z => nomatch (show (none : Option HO) = some u from z)
/-- a law whose mirror F answers True at every script -/
theorem walk_ofG {l : PySem.W.OpenLaw} {n k : Nat} {q : Program} {loose : List Str} {XP : (Str → Option Value) → Heap → Prop} {YP : World → Heap → Prop} {d : DefRec} {x : Str} {M : List D → R D}
    (hn : l.most = some n) (hn2 : n ≤ sizeLine) (hdf : d.params.defaults = []) (hr : Room k callerA)
    (F : ∀ (w : World) (mg : Str → Option Value) (fa : Addr) (h : Heap), YP w h → h.Ns mainGlobals mg → mg d.name = some (.ref fa) →
      ∃ (K : PySem.W.Frag) (fd : FuncData), K.In h ∧ (∀ (s : Shared) (u : Value), BindsTo s fd ⟨[u], []⟩ [(x, u)]) ∧
        ∀ base : Heap, K.In base → base.Ns mainGlobals mg → FnG l.prog w K mg base k fa fd [x] (spD K ⟨mg, w⟩ 1 M))
    (hM : ∀ ns : List Int, ns.length ≤ n → M [.scr ns] = .ok (.bl true)) :
    PySem.W.WalkO q loose XP YP l.row.toRowW d [] (fun f vs => PySem.call f vs) := by
  refine Att.attach_call hn hdf fun w s0 s1 mg mb fa o pm cd doc a vs ns G Y ho hd hcd hmg hobj hints hlen hg => ?_
  obtain ⟨K, fd, KX, hb, hF⟩ := F w mg fa _ Y G.T.g hmg
  refine law_callG KX G.T.g G.T.b G.T.builtins G.T.nolimit hg hobj hints (Nat.le_trans hlen hn2) hr hF hb fun H t => ⟨[.scr ns], rfl, RpL.one ?_, ?_⟩
  · rw [Rp]; exact ⟨a, rfl, t⟩
  · rw [hM ns hlen]
    exact fun v H' s r => by rw [Rp] at r; exact r
end
end PD
end

section
/-! PD22: what a head tells, as the rules want it. -/
namespace PD
open PySem PySem.Spec L2
open PyProof.Rows hiding St
open PySem.PyData (strOk)

def doneO : R (Fl Unit Empty) → R D
  | .ok (.rt d _) => .ok d
  | .exc e => .exc e
  | _ => .bad
theorem doneO_ok {m : R (Fl Unit Empty)} {d : D} (h : doneO m = .ok d) : ∃ b, m = .ok (.rt d b) := by
  cases m with
  | ok fl =>
    cases fl with
    | rt d' b => cases h; exact ⟨b, rfl⟩
    | nx _ => cases h
    | bk _ => cases h
    | ct _ => cases h
  | exc e => cases h
  | bad => cases h
section
variable {K : PySem.W.Frag} {h : Heap} {mg : Str → Option Value}
/-- a module's tuple of texts, that bears no dict -/
def tupN (K : PySem.W.Frag) (x : Str) (xs : List Str) : Bool := match K.lookup (He.ga K x) with
  | some ⟨.type c, none, .seq its _, _⟩ => decide (c = "tuple") && (decide (its.size ≤ sizeLine) && He.relAll (xs.map V.str) its.toList)
  | _ => false
theorem gtup_of (X : K.In h) (G : h.Ns mainGlobals mg) {x : Str} {xs : List Str} (g : (He.Fa.glo x).ok K = true) (c : tupN K x xs = true) : GTup K mg x xs := by
  unfold tupN at c
  split at c
  · rename_i T its n sl q
    obtain ⟨h1, h2⟩ := He.ba c
    obtain ⟨h3, h4⟩ := He.ba h2
    exact ⟨_, _, its, n, He.glo_ok X G g, q, congrArg Value.type (of_decide_eq_true h1), rfl, rfl, of_decide_eq_true h3, He.relAll_ok h4⟩
  · cases c
theorem exCls_of (X : K.In h) (G : h.Ns mainGlobals mg) {x : Str} (g : (He.Fa.glo x).ok K = true) (e : (He.Fa.exc x).ok K = true) : ∃ C, ExCls K mg x C :=
  let ⟨a, b, c, d⟩ := He.exc_ok e
  ⟨_, ⟨_, _, _, _, PySem.F.excBase_ValueError, a⟩, He.glo_ok X G g, b, c, d⟩
theorem exm_of (X : K.In h) (G : h.Ns mainGlobals mg) {x : Str} (g : (He.Fa.glo x).ok K = true) (e : (He.Fa.exm x x true).ok K = true) (C : Addr) (hC : mg x = some (.ref C)) : PySem.W.exmOne K (.ref C) (.ref C) = some true := by
  have q := He.glo_ok X G g
  rw [hC] at q
  cases q
  exact He.exm_ok e
end
end PD
end

section
/-! PD23: enumerate and zip over lists, tuples, texts. -/
namespace PD
open PySem PySem.Spec L2
open PyProof.Rows hiding St
open PySem.PyData (strOk)

theorem vals_getV : ∀ {xs : List V} {us : List Value} {i : Nat} {u : Value}, Vals xs us → us[i]? = some u → ∃ x, xs[i]? = some x ∧ RelV x u
  | _, _, _, _, .nil, h => by simp at h
  | _, _, 0, u, .cons r _, h => by simp at h; subst h; exact ⟨_, rfl, r⟩
  | _, _, i + 1, u, .cons _ t, h => by
    obtain ⟨x, a, b⟩ := vals_getV t (by simpa using h)
    exact ⟨x, by simpa using a, b⟩
/-- what is walked -/
inductive Sr where
  | l (a : Addr) | t (a : Addr) | x (s : Str) (tk : Tok)
def Sr.val : Sr → Value
  | .l a => .ref a
  | .t a => .ref a
  | .x s tk => .str s tk
def Sr.obj : Sr → Obj
  | .l a => { cls := .type "list_iterator", data := .fields #[.ref a, .int 0 0] }
  | .t a => { cls := .type "tuple_iterator", data := .fields #[.ref a, .int 0 0] }
  | .x s tk => { cls := .type (strIterType s), data := .fields #[.str s tk, .int 0 0] }
def Sr.iP (it : Addr) : Sr → Nat → Heap → Prop
  | .l a, i, h => h.IsListIter it a i
  | .t a, i, h => h.IsTupleIter it a i
  | .x s tk, i, h => h.IsStrIter it (strIterType s) s tk i
def Sr.bs (items : Array Value) : Sr → Heap → Prop
  | .l a, h => h.IsList a items
  | .t a, h => h.IsTuple a items
  | .x _ _, _ => True
def Sr.ad : Sr → List Addr
  | .l a => [a]
  | .t a => [a]
  | .x _ _ => []
def Sr.rv (items : Array Value) (xs : List V) : Sr → Prop
  | .x s _ => xs = s.cps.toList.map fun c => V.str ⟨#[c]⟩
  | _ => Vals xs items.toList
/-- what it yields, in H -/
def SrV (K : PySem.W.Frag) (H : Hp) (xs : List V) : Sr → Prop
  | .l a => SqL K H a xs
  | .t a => SqT K H a xs
  | .x s _ => xs = s.cps.toList.map fun c => V.str ⟨#[c]⟩
theorem Draws.weaken {prog : Program} {w : World} {A : Around} {it : Addr} {fp : List Addr} {n m : Nat} {P P' : Nat → Value → Prop} {St : Nat → Heap → Prop} (D : PySem.Draws prog w A it fp n P St) (e : n = m) (i : ∀ k v, P k v → P' k v) : PySem.Draws prog w A it fp m P' St := by
  subst e
  exact ⟨D.live, D.frame, fun k s Q E hi st hQ => D.item k s Q E hi st fun x h' tk p => hQ x h' tk (i _ _ p), D.done⟩
theorem Sr.draws {prog : Program} {w : World} {A : Around} (hh : A.handled = none) (sr : Sr) {it : Addr} (hne : it ∉ sr.ad) {items : Array Value} {xs : List V} (rv : sr.rv items xs) :
    PySem.Draws prog w A it (it :: sr.ad) xs.length (fun i v => ∃ y, xs[i]? = some y ∧ RelV y v) (fun i h => sr.iP it i h ∧ sr.bs items h) := by
  cases sr with
  | l a =>
    refine Draws.weaken (PySem.Draws.list hh it a (fun e => hne (by simp [Sr.ad, e])) items) (by have := rv.length; simp at this; exact this.symm) fun k v e => ?_
    have rv : Vals xs items.toList := rv
    have : items.toList[k]? = some v := by simpa using e
    obtain ⟨y, h1, h2⟩ := vals_getV rv this
    exact ⟨y, h1, h2⟩
  | t a =>
    refine Draws.weaken (PySem.Draws.tuple hh it a (fun e => hne (by simp [Sr.ad, e])) items) (by have := rv.length; simp at this; exact this.symm) fun k v e => ?_
    have rv : Vals xs items.toList := rv
    have : items.toList[k]? = some v := by simpa using e
    obtain ⟨y, h1, h2⟩ := vals_getV rv this
    exact ⟨y, h1, h2⟩
  | x s tk =>
    have D := PySem.Draws.text (prog := prog) (w := w) hh it s tk
    have rv : xs = s.cps.toList.map fun c => V.str ⟨#[c]⟩ := rv
    have D2 := Draws.weaken (P' := fun i v => ∃ y, xs[i]? = some y ∧ RelV y v) D (by rw [rv]; simp : s.cps.size = xs.length) (fun k v ⟨c, u, e1, e2⟩ => ⟨.str ⟨#[c]⟩, by rw [rv, List.getElem?_map]; simp [e1], by rw [e2]; exact ⟨_, rfl⟩⟩)
    exact ⟨fun i h st => D2.live i h st.1, fun i h h' st k => ⟨D2.frame i h h' st.1 k, trivial⟩, fun i s Q E hi st hQ => D2.item i s Q E hi st.1 fun x h' tk p st' => hQ x h' tk p ⟨st', trivial⟩, fun s Q E st => D2.done s Q E st.1⟩
/-- at each turn: what stands there -/
theorem SrV.bs {X : Cx} {pins : List (Addr × Obj)} {σ : St} {H : Hp} {s : Shared} (I : Inv X pins σ H s) {sr : Sr} {xs : List V} (h : SrV X.K H xs sr) : ∃ items, sr.rv items xs ∧ sr.bs items s.heap := by
  cases sr with
  | l a => obtain ⟨its, rv, p, _⟩ := I.list h; exact ⟨its.toArray, by show Vals _ _; simpa using rv, p.isList⟩
  | t a => obtain ⟨its, rv, p, _⟩ := I.tuple h; exact ⟨its.toArray, by show Vals _ _; simpa using rv, p⟩
  | x s tk => exact ⟨#[], h, trivial⟩
theorem Sr.begins (sr : Sr) (items : Array Value) : Begins sr.val sr.obj (sr.bs items) := by
  cases sr with
  | l a => exact begins_list a items
  | t a => exact begins_tuple a items
  | x s tk => exact begins_text s tk
theorem Sr.first {sr : Sr} {it : Addr} {h : Heap} (e : h.get? it = some sr.obj) : sr.iP it 0 h := by
  cases sr with
  | l a => exact ⟨_, e, rfl, rfl⟩
  | t a => exact ⟨_, e, rfl, rfl⟩
  | x s tk => exact ⟨_, e, rfl, rfl⟩
theorem Sr.iP_obj {sr : Sr} {it : Addr} {i : Nat} {h : Heap} (p : sr.iP it i h) : ∃ o, h.get? it = some o ∧ ∀ v, o.data ≠ .cell v := by
  cases sr with
  | l a => obtain ⟨o, e, _, d⟩ := p; exact ⟨o, e, fun v q => by rw [d] at q; cases q⟩
  | t a => obtain ⟨o, e, _, d⟩ := p; exact ⟨o, e, fun v q => by rw [d] at q; cases q⟩
  | x s tk => obtain ⟨o, e, _, d⟩ := p; exact ⟨o, e, fun v q => by rw [d] at q; cases q⟩
theorem Sr.iP_keep {sr : Sr} {it : Addr} {i : Nat} {h h' : Heap} (p : sr.iP it i h) (k : ∀ o, h.get? it = some o → h'.get? it = some o) : sr.iP it i h' := by
  cases sr with
  | l a => exact p.at fun o q => k o q
  | t a => exact p.at fun o q => k o q
  | x s tk => obtain ⟨o, e, r⟩ := p; exact ⟨o, k o e, r⟩
theorem Sr.ad_lt {sr : Sr} {items : Array Value} {h : Heap} (b : sr.bs items h) : ∀ a ∈ sr.ad, a < h.objs.size := by
  cases sr with
  | l a => intro c hc; have e : c = a := by simpa [Sr.ad] using hc
           subst e; obtain ⟨_, e, _⟩ := b; exact Heap.lt_size e
  | t a => intro c hc; have e : c = a := by simpa [Sr.ad] using hc
           subst e; obtain ⟨_, e, _⟩ := b; exact Heap.lt_size e
  | x s tk => intro c hc; cases hc
/-! ### zip -/
def ItZ (K : PySem.W.Frag) (s1 s2 : Sr) (xs ys : List V) : It :=
  ⟨fun i H => SrV K H xs s1 ∧ SrV K H ys s2 ∧ i < xs.length ∧ i < ys.length,
    fun i H v H' => ∃ T x y, v = .ref T ∧ H T = none ∧ H' = upd H T (.tup [x, y]) ∧ xs[i]? = some x ∧ ys[i]? = some y,
    fun i H => SrV K H xs s1 ∧ SrV K H ys s2 ∧ i ≤ xs.length ∧ i ≤ ys.length ∧ (i = xs.length ∨ i = ys.length)⟩
theorem turn_zipS {P : Program} {w : World} {K : PySem.W.Frag} {elts : List Expr} {kk : Nat} {tpos : Pos} {s1 s2 : Sr} {xs ys : List V} {z TI TO i1 i2 : Addr} (D : ZipSep2 z TI TO i1 i2 (i1 :: s1.ad) (i2 :: s2.ad)) (n1 : i1 ∉ s1.ad) (n2 : i2 ∉ s2.ad) :
    Turn P w K (.Tuple elts kk tpos) (ItZ K s1 s2 xs ys) [z, TI, TO, i1, i2] z (fun i h => IsZip h z TI TO .none ∧ IsTupOf2 h TI (.ref i1) (.ref i2) ∧ (∃ x y, IsTupOf2 h TO x y) ∧ s1.iP i1 i h ∧ s2.iP i2 i h) where
  mem := by simp
  obj := fun i h st c hc => by
    obtain ⟨hz, hTI, ⟨x, y, hTO⟩, h1, h2⟩ := st
    have e' : c = z ∨ c = TI ∨ c = TO ∨ c = i1 ∨ c = i2 := by simpa using hc
    rcases e' with q | q | q | q | q
    · rw [q]; exact ⟨_, hz, fun v q => nomatch q⟩
    · rw [q]; exact ⟨_, hTI, fun v q => nomatch q⟩
    · rw [q]; exact ⟨_, hTO, fun v q => nomatch q⟩
    · rw [q]; exact Sr.iP_obj h1
    · rw [q]; exact Sr.iP_obj h2
  keep := fun i h h' st k => by
    obtain ⟨hz, hTI, ⟨x, y, hTO⟩, h1, h2⟩ := st
    exact ⟨k z (by simp) _ hz, k TI (by simp) _ hTI, ⟨x, y, k TO (by simp) _ hTO⟩, Sr.iP_keep h1 fun o q => k i1 (by simp) o q, Sr.iP_keep h2 fun o q => k i2 (by simp) o q⟩
  item := by
    intro X hP hw hK hc i pins s σ H E I hf st hg
    subst hP hw hK
    obtain ⟨hz, hTI, ⟨x0, y0, hTO⟩, h1, h2⟩ := st
    obtain ⟨v1, v2, l1, l2⟩ := hg
    obtain ⟨it1, rv1, b1⟩ := v1.bs I
    obtain ⟨it2, rv2, b2⟩ := v2.bs I
    have D1 := s1.draws (prog := X.prog) (w := X.w) (A := X.A.in1) (I.ok.hd hc) n1 rv1
    have D2 := s2.draws (prog := X.prog) (w := X.w) (A := X.A.in1) (I.ok.hd hc) n2 rv2
    have hzl : z < s.heap.objs.size := Heap.lt_size hz
    refine wpAny_pyNext_zipD2_item D D1 D2 hz hTI hTO ⟨h1, b1⟩ ⟨h2, b2⟩ l1 l2 fun u u2 h' tk p1 p2 z' TO' st1 st2 hT hsz hk => ?_
    obtain ⟨x, hx, ru⟩ := p1
    obtain ⟨y, hy, ru2⟩ := p2
    refine ⟨_, rfl, wpAny_letOwnedTupleGo_zip (s := { s with heap := h', toks := tk }) z' fun h'' z'' sb => ?_⟩
    have hT2 : h''.get? s.heap.objs.size = some { cls := .type "tuple", data := .seq #[u, u2] } := (sb.2 _ (Nat.ne_of_gt hzl)).trans hT
    have new : ObjOk X.prog X.w (upd H s.heap.objs.size (.tup [x, y])) h'' s.heap.objs.size (.tup [x, y]) :=
      ⟨by show 2 ≤ sizeLine; decide, [u, u2], .cons ru (.cons ru2 .nil), ⟨_, hT2, rfl, _, rfl⟩⟩
    have I1 : Inv X pins σ (upd H s.heap.objs.size (.tup [x, y])) { s with heap := h'', toks := tk } :=
      I.turnedNew (ch := [z, TI, TO, i1, i2]) (fun c o hb q => (sb.2 c (fun q' => hb (by simp [q']))).trans (hk c o (fun q' => hb (by simp [q'])) (fun q' => hb (by simp [q'])) (fun q' => hb (by simp [q'])) (fun q' => hb (by simp [q'])) q)) hf (Nat.le_refl _) new
    refine ⟨.ref s.heap.objs.size, _, I1, rfl, ⟨_, x, y, rfl, I.hok.fresh (Nat.le_refl _), rfl, hx, hy⟩, ⟨z'', ?_, ⟨u, u2, ?_⟩, ?_, ?_⟩, fun c hcm => ?_⟩
    · exact (sb.2 _ D.TIz).trans (hk _ _ D.TIz D.TITO D.TIi1 D.TIi2 hTI)
    · exact (sb.2 _ D.TOz).trans TO'
    · exact Sr.iP_keep st1.1 fun o q => (sb.2 _ D.zi1.symm).trans q
    · exact Sr.iP_keep st2.1 fun o q => (sb.2 _ D.zi2.symm).trans q
    · have hlt : c < s.heap.objs.size := by
        have e' : c = z ∨ c = TI ∨ c = TO ∨ c = i1 ∨ c = i2 := by simpa using hcm
        rcases e' with q | q | q | q | q
        · rw [q]; exact hzl
        · rw [q]; exact Heap.lt_size hTI
        · rw [q]; exact Heap.lt_size hTO
        · rw [q]; obtain ⟨_, e1, _⟩ := Sr.iP_obj h1; exact Heap.lt_size e1
        · rw [q]; obtain ⟨_, e2, _⟩ := Sr.iP_obj h2; exact Heap.lt_size e2
      rw [upd_ne (Nat.ne_of_lt hlt)]
      exact (hf c hcm).1
  done := by
    intro X hP hw hK hc i pins s σ H E I hf st hg
    subst hP hw hK
    obtain ⟨hz, hTI, ⟨x0, y0, hTO⟩, h1, h2⟩ := st
    obtain ⟨v1, v2, l1, l2, hend⟩ := hg
    obtain ⟨it1, rv1, b1⟩ := v1.bs I
    obtain ⟨it2, rv2, b2⟩ := v2.bs I
    have D1 := s1.draws (prog := X.prog) (w := X.w) (A := X.A.in1) (I.ok.hd hc) n1 rv1
    have D2 := s2.draws (prog := X.prog) (w := X.w) (A := X.A.in1) (I.ok.hd hc) n2 rv2
    exact wpAny_pyNext_zipD2_end D D1 D2 hz hTI hTO ⟨h1, b1⟩ ⟨h2, b2⟩ l1 l2 hend fun h' tk hk => ⟨rfl, I.turnedL (t' := tk) (ch := [z, TI, TO, i1, i2]) (fun c o hb q =>
      hk c o (fun q' => hb (by simp [q'])) (fun q' => hb (by simp [q'])) (fun q' => hb (by simp [q'])) (fun q' => hb (by simp [q'])) q) hf⟩
  self := fun A i s Q E st h => wpAny_pyIter_zip st.1 h
def iZipS (K : PySem.W.Frag) (ta : TA) : TI := fun σ H R => ta σ H fun vs H1 => ∃ v1 v2 xs ys, vs = [v1, v2] ∧ (∀ u1, RelV v1 u1 → ∃ s1 : Sr, s1.val = u1 ∧ SrV K H1 xs s1 ∧ ∀ u2, RelV v2 u2 → ∃ s2 : Sr, s2.val = u2 ∧ SrV K H1 ys s2 ∧ R (ItZ K s1 s2 xs ys) H1)
theorem pi_zipS {X : Cx} {e e2 : Expr} {ta : TA} {p pos tpos : Pos} {elts : List Expr} {kk : Nat} (hg : Gl X "zip") (hm : X.mg "zip" = none) (ha : PA X [e, e2] ta)
    (hs : starEach [e, e2] X.env = (false, eval e X.env) :: starEach [e2] X.env := by rfl) (hpl : (backTo pos (starEach [e2] X.env)).any (·.1) = false := by rfl) :
    PI X (.Tuple elts kk tpos) (.Call (.Name "zip" p) [e, e2] [] pos) (iZipS X.K ta) := by
  refine ⟨fun pins s σ H R I h => ?_⟩
  refine Call_ (ld_blt I hg hm PyProof.Rows.boot_zip (PyProof.Rows.callWith_type1 (thn (ha.run pos pins s σ H _ I h) fun us sh ⟨vs, H1, I1, r1, q1⟩ => ?_) hs hpl))
  obtain ⟨v1, v2, xs, ys, ex, q1⟩ := q1
  subst ex
  cases r1 with
  | cons r rr =>
    cases rr with
    | cons r' rr =>
      cases rr
      obtain ⟨s1, e1, h1, q1⟩ := q1 _ r
      obtain ⟨s2, e2, h2, q⟩ := q1 _ r'
      subst e1 e2
      obtain ⟨it1, rv1, b1⟩ := h1.bs I1
      obtain ⟨it2, rv2, b2⟩ := h2.bs I1
      have fresh5 : ∀ c, c ∈ [sh.heap.objs.size + 4, sh.heap.objs.size + 2, sh.heap.objs.size + 3, sh.heap.objs.size, sh.heap.objs.size + 1] → FpOk X pins H1 c := fun c hcm => by
        have e' : c = sh.heap.objs.size + 4 ∨ c = sh.heap.objs.size + 2 ∨ c = sh.heap.objs.size + 3 ∨ c = sh.heap.objs.size ∨ c = sh.heap.objs.size + 1 := by simpa using hcm
        have hle : sh.heap.objs.size ≤ c := by
          rcases e' with z | z | z | z | z <;> rw [z] <;> first | exact Nat.le_add_right _ _ | exact Nat.le_refl _
        exact I1.fpOk hle (I1.hok.fresh hle)
      have l1 := Sr.ad_lt b1
      have l2 := Sr.ad_lt b2
      have ap : ∀ (a j k : Nat), j ≠ k → a + j ≠ a + k := fun a j k h => by omega
      refine zip_begins2 (s1.begins it1) (s2.begins it2) b1 b2 fun h' hz hTI hTO g1 g2 hsz hk => wpAny_pyIter_zip hz ?_
      have I2 : Inv X pins σ H1 { sh with heap := h' } := I1.kept (t' := sh.toks) hk
      have no : ∀ (sr : Sr) (k : Nat), (∀ a ∈ sr.ad, a < sh.heap.objs.size) → sh.heap.objs.size + k ∉ sr.ad := fun sr k hl z => absurd (hl _ z) (Nat.not_lt.mpr (Nat.le_add_right _ _))
      have no1 : ∀ k, sh.heap.objs.size + k ∉ s1.ad := fun k => no s1 k l1
      have no2 : ∀ k, sh.heap.objs.size + k ∉ s2.ad := fun k => no s2 k l2
      have n1 : sh.heap.objs.size ∉ s1.ad := no1 0
      have n2 : sh.heap.objs.size ∉ s2.ad := no2 0
      refine ⟨sh.heap.objs.size + 4, [sh.heap.objs.size + 4, sh.heap.objs.size + 2, sh.heap.objs.size + 3, sh.heap.objs.size, sh.heap.objs.size + 1], _, _, H1, rfl, I2,
        turn_zipS (s1 := s1) (s2 := s2) (xs := xs) (ys := ys) ⟨ap _ 2 4 (by decide), ap _ 3 4 (by decide), ap _ 2 3 (by decide), ap _ 2 0 (by decide), by simp, ?_, ?_, ap _ 2 1 (by decide), by simp, ?_, ?_, ?_, ?_⟩ n1 (no2 1), ⟨hz, hTI, ⟨_, _, hTO⟩, Sr.first g1, Sr.first g2⟩, fresh5, q⟩
      · rw [List.mem_cons]; rintro (e | e)
        · exact ap _ 4 0 (by decide) e
        · exact no1 4 e
      · rw [List.mem_cons]; rintro (e | e)
        · exact ap _ 3 0 (by decide) e
        · exact no1 3 e
      · rw [List.mem_cons]; rintro (e | e)
        · exact ap _ 4 1 (by decide) e
        · exact no2 4 e
      · rw [List.mem_cons]; rintro (e | e)
        · exact ap _ 3 1 (by decide) e
        · exact no2 3 e
      · rw [List.mem_cons]; rintro (e | e)
        · exact ap _ 0 1 (by decide) e
        · exact n2 e
      · rw [List.mem_cons]; rintro (e | e)
        · exact ap _ 1 0 (by decide) e
        · exact no1 1 e
/-! ### enumerate -/
def ItE (K : PySem.W.Frag) (sr : Sr) (xs : List V) : It :=
  ⟨fun i H => SrV K H xs sr ∧ i < xs.length,
    fun i H v H' => ∃ T x, v = .ref T ∧ H T = none ∧ H' = upd H T (.tup [.int (i : Nat), x]) ∧ xs[i]? = some x,
    fun i H => SrV K H xs sr ∧ i = xs.length⟩
theorem turn_enumS {P : Program} {w : World} {K : PySem.W.Frag} {elts : List Expr} {kk : Nat} {tpos : Pos} {sr : Sr} {xs : List V} {e it : Addr} (hne : e ≠ it) (hef : e ∉ sr.ad) (hif : it ∉ sr.ad) :
    Turn P w K (.Tuple elts kk tpos) (ItE K sr xs) [e, it] e (fun i h => (∃ old, IsEnum h e it ((i : Nat) : Int) old) ∧ sr.iP it i h) where
  mem := by simp
  obj := fun i h st b hb => by
    obtain ⟨⟨old, he⟩, h1⟩ := st
    have e' : b = e ∨ b = it := by simpa using hb
    rcases e' with z | z
    · rw [z]; exact ⟨_, he, fun v q => nomatch q⟩
    · rw [z]; exact Sr.iP_obj h1
  keep := fun i h h' st k => let ⟨⟨old, he⟩, hi⟩ := st; ⟨⟨old, k e (by simp) _ he⟩, Sr.iP_keep hi fun o q => k it (by simp) o q⟩
  item := by
    intro X hP hw hK hc i pins s σ H E I hf st hg
    subst hP hw hK
    obtain ⟨⟨old, he⟩, hit⟩ := st
    obtain ⟨v1, l1⟩ := hg
    obtain ⟨its, rv, b1⟩ := v1.bs I
    have D1 := sr.draws (prog := X.prog) (w := X.w) (A := X.A.in1) (I.ok.hd hc) hif rv
    have hel : e < s.heap.objs.size := Heap.lt_size he
    have hil : it < s.heap.objs.size := by obtain ⟨_, q, _⟩ := Sr.iP_obj hit; exact Heap.lt_size q
    refine wpAny_pyNext_enum_itemC D1 he ⟨hit, b1⟩ l1 hne (by rw [List.mem_cons]; rintro (z | z); exact hne z; exact hef z) fun u h' tk p1 ho st1 hT hsz hk => ?_
    obtain ⟨x, hx, ru⟩ := p1
    refine ⟨_, rfl, wpAny_letOwnedTupleGo_enum (s := { s with heap := h', toks := tk + 1 }) ho fun h'' he' sb => ?_⟩
    have hT2 : h''.get? s.heap.objs.size = some { cls := .type "tuple", data := .seq #[.int i tk, u] } := (sb.2 _ (Nat.ne_of_gt hel)).trans hT
    have new : ObjOk X.prog X.w (upd H s.heap.objs.size (.tup [.int (i : Nat), x])) h'' s.heap.objs.size (.tup [.int (i : Nat), x]) :=
      ⟨by show 2 ≤ sizeLine; decide, [.int i tk, u], .cons ⟨_, rfl⟩ (.cons ru .nil), ⟨_, hT2, rfl, _, rfl⟩⟩
    have I1 : Inv X pins σ (upd H s.heap.objs.size (.tup [.int (i : Nat), x])) { s with heap := h'', toks := tk + 1 } :=
      I.turnedNew (ch := [e, it]) (fun b ob hb q => (sb.2 b (fun z => hb (by simp [z]))).trans (hk b ob (fun z => hb (by simp [z])) (fun z => hb (by simp [z])) q)) hf (Nat.le_refl _) new
    refine ⟨.ref s.heap.objs.size, _, I1, rfl, ⟨_, x, rfl, I.hok.fresh (Nat.le_refl _), rfl, hx⟩, ⟨⟨u, ?_⟩, Sr.iP_keep st1.1 fun o q => (sb.2 it (Ne.symm hne)).trans q⟩, fun b hb => ?_⟩
    · have e1 : ((i + 1 : Nat) : Int) = (i : Int) + 1 := by omega
      rw [e1]; exact he'
    · have hb' : b < s.heap.objs.size := by
        have e' : b = e ∨ b = it := by simpa using hb
        rcases e' with z | z
        · rw [z]; exact hel
        · rw [z]; exact hil
      rw [upd_ne (Nat.ne_of_lt hb')]
      exact (hf b hb).1
  done := by
    intro X hP hw hK hc i pins s σ H E I hf st hg
    subst hP hw hK
    obtain ⟨⟨old, he⟩, hit⟩ := st
    obtain ⟨v1, l1⟩ := hg
    obtain ⟨its, rv, b1⟩ := v1.bs I
    have D1 := sr.draws (prog := X.prog) (w := X.w) (A := X.A.in1) (I.ok.hd hc) hif rv
    obtain ⟨f0, f1, f2, f3, f4, f5⟩ := hf it (by simp)
    exact wpAny_pyNext_enum_endD D1 he (show sr.iP it xs.length s.heap ∧ sr.bs its s.heap by rw [← l1]; exact ⟨hit, b1⟩) fun h' eb => ⟨rfl, I.turned (t' := s.toks) (fun b o hb q => eb b o hb q) f0 f1 f3 f4 f5⟩
  self := fun A i s Q E st h => let ⟨⟨_, he⟩, _⟩ := st; wpAny_pyIter_enum he h
set_option maxHeartbeats 1000000 in
theorem meets_enum1 {v : Value} {o : Obj} {H : Heap → Prop} (B : Begins v o H) :
    Meets (Builtin.«enumerate.__new__» ⟨[.type "enumerate", v], []⟩) (fun _ R s => H s.heap ∧
      R (.ok (.ret (.ref (s.heap.push o).objs.size))) { s with heap := (s.heap.push o).push { cls := .type "enumerate", data := .fields #[.none, .bool false, .ref s.heap.objs.size, rawInt 0, .none, .none] } }) :=
  .of_wp fun prog w A R s h => by
    obtain ⟨hp, g, d, tk, os⟩ := s; obtain ⟨h1, h⟩ := h
    have hsub := sub_enumerate
    have q1 : ∀ {A' : Around} {E : Value → Shared → Prop} {Q : Value → Shared → Prop}, Q (.ref hp.objs.size) ⟨hp.push o, g, d, tk, os⟩ → wpAny (model prog w) A' (pyIter v) Q E ⟨hp, g, d, tk, os⟩ :=
      fun q => B.iter prog w _ _ ⟨hp, g, d, tk, os⟩ _ h1 q
    wp_walk using q1
    refine wpAny_stack_any fun st => wpAny_pure ?_
    split
    · rename_i c _ _ _ _ _
      cases (c == Value.type "enumerate")
      · wp_walk using q1
        exact ⟨_, rfl, h⟩
      · wp_walk using q1
        exact ⟨_, rfl, h⟩
    · wp_walk using q1
      exact ⟨_, rfl, h⟩
theorem enum_begins1 {prog : Program} {w : World} {A : Around} {E : Value → Shared → Prop} {s : Shared} {v : Value} {o : Obj} {H : Heap → Prop} {Q : Value → Shared → Prop} (B : Begins v o H) (h1 : H s.heap)
    (h : ∀ h', IsEnum h' (s.heap.objs.size + 1) s.heap.objs.size 0 .none → h'.get? s.heap.objs.size = some o → h'.objs.size = s.heap.objs.size + 2 →
      (∀ b o, s.heap.get? b = some o → h'.get? b = some o) → Q (.ref (s.heap.objs.size + 1)) { s with heap := h' }) :
    wpAny (model prog w) A (call (.type "enumerate") [v]) Q E s := by
  refine callType_new F.called_enumerate (by decide) (F.typeCall_enumerate_1 _) (F.newCall_enumerate_1 _) (fun obj => F.args_object_init_2 obj _) F.entry_enumerate_new
    (meets_enum1 B) ⟨h1, ?_⟩
  have hz : (s.heap.push o).objs.size = s.heap.objs.size + 1 := Heap.size_push ..
  show _ ∧ _
  rw [hz]
  have he : IsEnum ((s.heap.push o).push { cls := .type "enumerate", data := .fields #[.none, .bool false, .ref s.heap.objs.size, rawInt 0, .none, .none] }) (s.heap.objs.size + 1) s.heap.objs.size 0 .none := by
    have := Heap.get?_push_size (s.heap.push o) (o := { cls := .type "enumerate", data := .fields #[.none, .bool false, .ref s.heap.objs.size, rawInt 0, .none, .none] }) rfl
    rw [hz] at this; exact this
  refine ⟨⟨_, he, rfl⟩, h _ he (Heap.get?_push_of_some _ (Heap.get?_push_size _ B.free)) (by rw [Heap.size_push, hz]) fun b o x => Heap.get?_push_of_some _ (Heap.get?_push_of_some _ x)⟩
def iEnumS (K : PySem.W.Frag) (ta : TA) : TI := fun σ H R => ta σ H fun vs H1 => ∃ v xs, vs = [v] ∧ ∀ u, RelV v u → ∃ sr : Sr, sr.val = u ∧ SrV K H1 xs sr ∧ R (ItE K sr xs) H1
theorem pi_enumS {X : Cx} {e : Expr} {ta : TA} {p pos tpos : Pos} {elts : List Expr} {kk : Nat} (hg : Gl X "enumerate") (hm : X.mg "enumerate" = none) (ha : PA X [e] ta) (hs : starEach [e] X.env = [(false, eval e X.env)] := by rfl) :
    PI X (.Tuple elts kk tpos) (.Call (.Name "enumerate" p) [e] [] pos) (iEnumS X.K ta) := by
  refine ⟨fun pins s σ H R I h => ?_⟩
  refine Call_ (ld_blt I hg hm boot_enumerate (PyProof.Rows.callWith_type1 (thn (ha.run pos pins s σ H _ I h) fun us s1 ⟨vs, H1, I1, r1, q1⟩ => ?_) hs rfl))
  obtain ⟨v, xs, ex, q1⟩ := q1
  subst ex
  cases r1 with
  | cons r rr =>
    cases rr
    obtain ⟨sr, e1, h1, q⟩ := q1 _ r
    subst e1
    obtain ⟨its, rv, b1⟩ := h1.bs I1
    have l1 := Sr.ad_lt b1
    refine enum_begins1 (sr.begins its) b1 fun h' he g1 hsz hk => wpAny_pyIter_enum he ?_
    have I2 : Inv X pins σ H1 { s1 with heap := h' } := I1.kept (t' := s1.toks) hk
    have no1 : ∀ k, s1.heap.objs.size + k ∉ sr.ad := fun k z => absurd (l1 _ z) (Nat.not_lt.mpr (Nat.le_add_right _ _))
    refine ⟨s1.heap.objs.size + 1, [s1.heap.objs.size + 1, s1.heap.objs.size], _, _, H1, rfl, I2, turn_enumS (sr := sr) (xs := xs) (e := s1.heap.objs.size + 1) (it := s1.heap.objs.size) (Nat.succ_ne_self _) (no1 1) (no1 0), ⟨⟨.none, he⟩, Sr.first g1⟩, fun b hb => ?_, q⟩
    have e' : b = s1.heap.objs.size + 1 ∨ b = s1.heap.objs.size := by simpa using hb
    have hle : s1.heap.objs.size ≤ b := by
      rcases e' with z | z
      · rw [z]; exact Nat.le_add_right _ _
      · rw [z]; exact Nat.le_refl _
    exact I1.fpOk hle (I1.hok.fresh hle)
/-! ### over data -/
section
variable {c : DC} {X : Cx} {Γ : SEnv} {e e2 : Expr} {m m2 : R D} {p pos : Pos}
/-- the items of what is walked -/
def dSrc : D → R (List D)
  | .lst ds => if ds.length ≤ sizeLine then .ok ds else .bad
  | .tup ds => if ds.length ≤ sizeLine then .ok ds else .bad
  | .str x => if x.cps.size ≤ sizeLine then .ok (charsD x) else .bad
  | _ => .bad
/-- v is walked as these data, from H on -/
theorem src_of {K : PySem.W.Frag} {mg : MG} {H : Hp} {d : D} {v : V} {ds : List D} (h : Rp K mg H d v) (e : dSrc d = .ok ds) : ∃ xs : List V, ds.length ≤ sizeLine ∧ RpL K mg H ds xs ∧ ∀ u, RelV v u → ∃ sr : Sr, sr.val = u ∧ ∀ H', Fz H H' → SrV K H' xs sr := by
  cases d with
  | lst es =>
    have e : (if es.length ≤ sizeLine then R.ok es else .bad) = .ok ds := e
    split at e
    · rename_i hz
      cases e
      rw [Rp] at h
      obtain ⟨a, vs, rfl, ⟨o, t⟩, w⟩ := h
      refine ⟨vs, hz, w, fun u r => ⟨.l a, ?_, fun H' f => .inl (.inr ⟨o, f _ _ _ t⟩)⟩⟩
      cases r; rfl
    · cases e
  | tup es =>
    have e : (if es.length ≤ sizeLine then R.ok es else .bad) = .ok ds := e
    split at e
    · rename_i hz
      cases e
      rw [Rp] at h
      obtain ⟨a, vs, rfl, t, w⟩ := h
      refine ⟨vs, hz, w, fun u r => ⟨.t a, ?_, fun H' f => (t.stay f).sq⟩⟩
      cases r; rfl
    · cases e
  | str x =>
    have e : (if x.cps.size ≤ sizeLine then R.ok (charsD x) else .bad) = .ok ds := e
    split at e
    · rename_i hz
      cases e
      rw [Rp] at h
      obtain ⟨rfl, hx⟩ := h
      refine ⟨x.cps.toList.map fun c => V.str ⟨#[c]⟩, by unfold charsD; simpa using hz, ?_, fun u r => ?_⟩
      · unfold charsD
        have hx : x.cps.all (· < 0x110000) = true := hx
        have key : ∀ l : List Nat, (∀ c ∈ l, c ∈ x.cps.toList) → RpL K mg H (l.map fun z => D.str ⟨#[z]⟩) (l.map fun c => V.str ⟨#[c]⟩) := by
          intro l
          induction l with
          | nil => intro _; exact RpL.nil.mpr rfl
          | cons c l ih =>
            intro hm
            have h2 := (Array.all_eq_true_iff_forall_mem.mp hx) c (Array.mem_toList_iff.mp (hm c List.mem_cons_self))
            exact RpL.cons.mpr ⟨_, _, rfl, Rp.str (by show (#[c] : Array Nat).all _ = true; simpa using h2), ih fun z hz => hm z (List.mem_cons_of_mem _ hz)⟩
        exact key _ fun _ h => h
      · obtain ⟨t, rfl⟩ := r
        exact ⟨.x x t, rfl, fun H' _ => rfl⟩
    · cases e
  | _ => cases e
def zipD (xs ys : List D) : List D := (xs.zip ys).map fun p => .tup [p.1, p.2]
theorem zipD_len (xs ys : List D) : (zipD xs ys).length = min xs.length ys.length := by unfold zipD; rw [List.length_map, List.length_zip]
theorem zipD_get {xs ys : List D} {i : Nat} {x y : D} (h : xs[i]? = some x) (k : ys[i]? = some y) : (zipD xs ys)[i]? = some (.tup [x, y]) := by
  unfold zipD
  have : (xs.zip ys)[i]? = some (x, y) := List.getElem?_zip_eq_some.mpr ⟨h, k⟩
  rw [List.getElem?_map, this]
  rfl
theorem walkD_zip {H1 : Hp} {s1 s2 : Sr} {vs ws : List V} {ds es : List D} (h1 : ∀ H, Fz H1 H → SrV c.K H vs s1) (h2 : ∀ H, Fz H1 H → SrV c.K H ws s2) (w1 : RpL c.K c.mg H1 ds vs) (w2 : RpL c.K c.mg H1 es ws) (z : ds.length ≤ sizeLine) : WalkD c true Fz (ItZ c.K s1 s2 vs ws) (zipD ds es) H1 := by
  have l1 := w1.length
  have l2 := w2.length
  have hl := zipD_len ds es
  refine ⟨fun i H h r => ⟨h1 H r, h2 H r, by omega, by omega⟩, fun H r => ⟨h1 H r, h2 H r, by omega, by omega, by omega⟩, fun i H v H' h r y => ?_, by omega⟩
  obtain ⟨T, x, y', ev, n, e, e1, e2⟩ := y
  obtain ⟨d, g1, g2⟩ := (w1.stay r).getV e1
  obtain ⟨d', g3, g4⟩ := (w2.stay r).getV e2
  subst ev e
  refine ⟨_, zipD_get g1 g3, same_new n, ?_⟩
  exact ⟨T, _, rfl, .inl (.inl upd_same), RpL.cons.mpr ⟨_, _, rfl, g2.same (same_new n), RpL.one (g4.same (same_new n))⟩⟩
theorem ji_zip {elts : List Expr} {kk : Nat} {tpos : Pos} (S : Cok c X) (h1 : JE c X Γ e m) (h2 : JE c X Γ e2 m2) (hg : Gl X "zip") (hm : X.mg "zip" = none) (s1 : starEach [e, e2] X.env = (false, eval e X.env) :: starEach [e2] X.env := by rfl) (s2 : starEach [e2] X.env = (false, eval e2 X.env) :: starEach [] X.env := by rfl)
    (hpl : (backTo pos (starEach [e2] X.env)).any (·.1) = false := by rfl) :
    JI true Fz c X Γ (.Tuple elts kk tpos) (.Call (.Name "zip" p) [e, e2] [] pos) (m.bind fun x => m2.bind fun y => (dSrc x).bind fun xs => (dSrc y).bind fun ys => .ok (zipD xs ys)) := by
  refine pi_imp (pi_zipS hg hm (pa_cons h1 (pa_cons h2 pa_nil s2) s1) s1 hpl) fun σ H R ⟨O, ok, q⟩ => ⟨O, ok, q.bind.imp fun d k v H1 s1 r1 => ⟨O, ok.same s1, k.bind.imp fun d2 k2 v2 H2 s2 r2 => ?_⟩⟩
  cases e1 : dSrc d with
  | exc z => unfold dSrc at e1; split at e1 <;> (try split at e1) <;> cases e1
  | bad => rw [e1] at k2; exact (RE.badd k2).elim
  | ok xs =>
    cases e2 : dSrc d2 with
    | exc z => unfold dSrc at e2; split at e2 <;> (try split at e2) <;> cases e2
    | bad => rw [e1, PD.R.bind_ok, e2] at k2; exact (RE.badd k2).elim
    | ok ys =>
      rw [e1, PD.R.bind_ok, e2, PD.R.bind_ok] at k2
      obtain ⟨vs, z1, w1, g1⟩ := src_of (r1.same s2) e1
      obtain ⟨ws, z2, w2, g2⟩ := src_of r2 e2
      refine ⟨v, v2, vs, ws, rfl, fun u r => ?_⟩
      obtain ⟨sr1, e3, f1⟩ := g1 u r
      refine ⟨sr1, e3, by rw [S.K]; exact f1 H2 Fz.refl, fun u2 r' => ?_⟩
      obtain ⟨sr2, e4, f2⟩ := g2 u2 r'
      refine ⟨sr2, e4, by rw [S.K]; exact f2 H2 Fz.refl, ?_⟩
      rw [S.K]
      exact k2 _ H2 (s1.trans s2) (walkD_zip f1 f2 w1 w2 z1)
theorem walkD_enumS {H1 : Hp} {sr : Sr} {vs : List V} {ds : List D} (h1 : ∀ H, Fz H1 H → SrV c.K H vs sr) (w1 : RpL c.K c.mg H1 ds vs) (z : ds.length ≤ sizeLine) : WalkD c true Fz (ItE c.K sr vs) (enumD ds) H1 := by
  have l1 := w1.length
  have hl : (enumD ds).length = ds.length := by unfold enumD; rw [List.length_map, List.length_zipIdx]
  refine ⟨fun i H h r => ⟨h1 H r, by omega⟩, fun H r => ⟨h1 H r, by omega⟩, fun i H v H' h r y => ?_, by omega⟩
  obtain ⟨T, x, ev, n, e, e1⟩ := y
  obtain ⟨d, g1, g2⟩ := (w1.stay r).getV e1
  subst ev e
  refine ⟨_, enumD_get g1, same_new n, ?_⟩
  exact ⟨T, _, rfl, .inl (.inl upd_same), RpL.cons.mpr ⟨_, _, rfl, Rp.int, RpL.one (g2.same (same_new n))⟩⟩
theorem ji_enumS {elts : List Expr} {kk : Nat} {tpos : Pos} (S : Cok c X) (ha : JE c X Γ e m) (hg : Gl X "enumerate") (hm : X.mg "enumerate" = none) (hs : starEach [e] X.env = [(false, eval e X.env)] := by rfl) :
    JI true Fz c X Γ (.Tuple elts kk tpos) (.Call (.Name "enumerate" p) [e] [] pos) (m.bind fun x => (dSrc x).bind fun xs => .ok (enumD xs)) := by
  refine pi_imp (pi_enumS hg hm (pa_cons ha pa_nil hs) hs) fun σ H R ⟨O, ok, q⟩ => ⟨O, ok, q.bind.imp fun d k v H1 s1 r1 => ?_⟩
  cases e1 : dSrc d with
  | exc z => unfold dSrc at e1; split at e1 <;> (try split at e1) <;> cases e1
  | bad => rw [e1] at k; exact (RE.badd k).elim
  | ok xs =>
    rw [e1, PD.R.bind_ok] at k
    obtain ⟨vs, z1, w1, g1⟩ := src_of r1 e1
    refine ⟨v, vs, rfl, fun u r => ?_⟩
    obtain ⟨sr, e3, f1⟩ := g1 u r
    refine ⟨sr, e3, by rw [S.K]; exact f1 H1 Fz.refl, ?_⟩
    rw [S.K]
    exact k _ H1 s1 (walkD_enumS f1 w1 z1)
end
end PD
end

section
/-! PD24: defs some of whose parameters are read alone; defs that change two things handed in. -/
namespace PD
open PySem PySem.Spec L2
open PyProof.Rows hiding St
open PySem.PyData (strOk)

/-! ### values of which some are read alone -/
def RpM (K : PySem.W.Frag) (mg : MG) (H : Hp) : List Bool → List D → List V → Prop
  | [], [], [] => True
  | b :: bs, d :: ds, v :: vs => (if b = true then Vw K mg H d v else Rp K mg H d v) ∧ RpM K mg H bs ds vs
  | _, _, _ => False
section
variable {K : PySem.W.Frag} {mg : MG} {H H' : Hp}
theorem RpM.len : ∀ {bs : List Bool} {ds : List D} {vs : List V}, RpM K mg H bs ds vs → ds.length = bs.length ∧ vs.length = bs.length
  | [], [], [], _ => ⟨rfl, rfl⟩
  | b :: bs, d :: ds, v :: vs, h => by obtain ⟨h1, h2⟩ := RpM.len h.2; exact ⟨by simp [h1], by simp [h2]⟩
  | [], _ :: _, _, h => by cases h
  | [], [], _ :: _, h => by cases h
  | _ :: _, [], _, h => by cases h
  | _ :: _, _ :: _, [], h => by cases h
theorem RpM.same (e : Same H H') : ∀ {bs : List Bool} {ds : List D} {vs : List V}, RpM K mg H bs ds vs → RpM K mg H' bs ds vs
  | [], [], [], _ => trivial
  | b :: bs, d :: ds, v :: vs, h => ⟨by
      have h1 := h.1
      split at h1
      · rw [if_pos (by assumption)]; exact h1.same e
      · rw [if_neg (by assumption)]; exact h1.same e, RpM.same e h.2⟩
  | [], _ :: _, _, h => by cases h
  | [], [], _ :: _, h => by cases h
  | _ :: _, [], _, h => by cases h
  | _ :: _, _ :: _, [], h => by cases h
end
/-- the slots at the entry -/
def envM : List Bool → List D → List Slot
  | b :: bs, d :: ds => (if b = true then .gv d else .fz d) :: envM bs ds
  | _, _ => []
def envV (bs : List Bool) (ds : List D) (n : Nat) : SEnv := envM bs ds ++ List.replicate n .un
theorem envM_get {K : PySem.W.Frag} {mg : MG} {H : Hp} : ∀ {bs : List Bool} {ds : List D} {vs : List V} {i : Nat} {s : Slot}, RpM K mg H bs ds vs → (envM bs ds)[i]? = some s → ∃ d v, vs[i]? = some v ∧ ((s = .gv d ∧ Vw K mg H d v) ∨ (s = .fz d ∧ Rp K mg H d v))
  | [], [], [], i, s, _, h => by simp [envM] at h
  | b :: bs, d :: ds, v :: vs, 0, s, r, h => by
    refine ⟨d, v, rfl, ?_⟩
    have h : (if b = true then Slot.gv d else .fz d) = s := by simpa [envM] using h
    have r1 := r.1
    split at h
    · rw [if_pos (by assumption)] at r1; exact .inl ⟨h.symm, r1⟩
    · rw [if_neg (by assumption)] at r1; exact .inr ⟨h.symm, r1⟩
  | b :: bs, d :: ds, v :: vs, i + 1, s, r, h => by
    obtain ⟨d', v', e, q⟩ := envM_get (i := i) r.2 (by simpa [envM] using h)
    exact ⟨d', v', by simpa using e, q⟩
  | [], _ :: _, _, _, _, h, _ => by cases h
  | [], [], _ :: _, _, _, h, _ => by cases h
  | _ :: _, [], _, _, _, h, _ => by cases h
  | _ :: _, _ :: _, [], _, _, h, _ => by cases h
theorem envM_len : ∀ {bs : List Bool} {ds : List D}, ds.length = bs.length → (envM bs ds).length = bs.length
  | [], [], _ => rfl
  | b :: bs, d :: ds, h => by simp [envM, envM_len (bs := bs) (ds := ds) (by simpa using h)]
  | [], _ :: _, h => by simp at h
  | _ :: _, [], h => by simp at h
theorem envV_ok {K : PySem.W.Frag} {mg : MG} {H : Hp} {E : XK} {N : List Str} {bs : List Bool} {ds : List D} {vs : List V} (r : RpM K mg H bs ds vs) (h : bs.length ≤ N.length) : EnvOk (dc0 K mg H E) (fun _ => False) (envV bs ds (N.length - bs.length)) (L2.start N vs) H := by
  obtain ⟨l1, l2⟩ := r.len
  have le := envM_len l1
  refine ⟨fun b o q => ⟨q.elim id id, fun z => z⟩, fun b z => z.elim, fun i s q => ?_, ?_, fun i j t d u e p q1 => ?_⟩
  · unfold envV at q
    unfold L2.start
    by_cases hi : i < bs.length
    · rw [List.getElem?_append_left (by rw [le]; exact hi)] at q
      obtain ⟨d, v, e1, e2⟩ := envM_get r q
      have e3 : (vs.map some ++ List.replicate (N.length - vs.length) none)[i]? = some (some v) := by
        rw [List.getElem?_append_left (by rw [List.length_map, l2]; exact hi), List.getElem?_map, e1]; rfl
      rcases e2 with ⟨rfl, e2⟩ | ⟨rfl, e2⟩
      · exact ⟨v, e3, e2⟩
      · exact ⟨v, e3, e2⟩
    · rw [List.getElem?_append_right (by rw [le]; omega), List.getElem?_replicate] at q
      split at q
      · cases q; trivial
      · cases q
  · unfold envV L2.start
    simp only [List.length_append, List.length_map, List.length_replicate, le]
    omega
  · unfold envV at q1
    by_cases hi : i < bs.length
    · rw [List.getElem?_append_left (by rw [le]; exact hi)] at q1
      obtain ⟨_, _, _, e2⟩ := envM_get r q1
      rcases e2 with ⟨z, _⟩ | ⟨z, _⟩ <;> cases z
    · rw [List.getElem?_append_right (by rw [le]; omega), List.getElem?_replicate] at q1
      split at q1 <;> cases q1

/-! ### the promise, the call -/
def spV (K : PySem.W.Frag) (mg : MG) (bs : List Bool) (F : List D → R D) : Sp := fun vs H Q E => ∃ ds, RpM K mg H bs ds vs ∧ RE (F ds) (fun d => ∀ v H', Same H H' → Rp K mg H' d v → Q v H') (fun e => ∀ C H', mg e = some (.ref C) → Same H H' → E (.ref C) none H')
structure FnV (P : Program) (w : World) (K : PySem.W.Frag) (mg : Str → Option Value) (base : Heap) (k : Nat) (x : Str) (bs : List Bool) (F : List D → R D) : Prop where
  ex : ∃ (f : Addr) (fd : FuncData) (ps : List Str), mg x = some (.ref f) ∧ PySem.W.keepIn K (.ref f) = true ∧ Binds K fd ps [] ∧ ps.length = bs.length ∧ FnG P w K mg base k f fd ps (spV K ⟨mg, w⟩ bs F)
def tAM (c : DC) (Γ : SEnv) (bs : List Bool) (m : R (List D)) : TA := fun σ H Q => ∃ O, EnvOk c O Γ σ H ∧ RE m (fun ds => ∀ vs H', Same H H' → RpM c.K c.mg H' bs ds vs → Q vs H') (fun e => c.E e Γ)
def JAM (c : DC) (X : Cx) (Γ : SEnv) (es : List Expr) (bs : List Bool) (m : R (List D)) : Prop := PA X es (tAM c Γ bs m)
section
variable {c : DC} {X : Cx} {W : WX} {Γ : SEnv} {k j : Nat} {x : Str} {n : Nat} {p pos : Pos} {e e1 e2 e3 e4 : Expr} {es : List Expr} {m m1 m2 m3 m4 : R D} {ms : R (List D)} {bs : List Bool} {b b1 b2 b3 b4 : Bool}
theorem jam_nil : JAM c X Γ [] [] (.ok []) := pa_imp pa_nil fun σ H Q ⟨O, ok, q⟩ => q [] H (Same.refl H) trivial
theorem jam_f (ha : JE c X Γ e m) (hr : JAM c X Γ es bs ms) (hs : starEach (e :: es) X.env = (false, eval e X.env) :: starEach es X.env := by rfl) : JAM c X Γ (e :: es) (false :: bs) (m.bind fun d => ms.bind fun ds => .ok (d :: ds)) :=
  pa_imp (pa_cons ha hr hs) fun σ H Q ⟨O, ok, q⟩ => ⟨O, ok, q.bind.imp fun d k v H1 s1 r1 => ⟨O, ok.same s1, k.bind.imp fun ds k2 vs H2 s2 r2 => k2 (v :: vs) H2 (s1.trans s2) ⟨by rw [if_neg (by simp)]; exact r1.same s2, r2⟩⟩⟩
theorem jam_v (ha : JV c X Γ e m) (hr : JAM c X Γ es bs ms) (hs : starEach (e :: es) X.env = (false, eval e X.env) :: starEach es X.env := by rfl) : JAM c X Γ (e :: es) (true :: bs) (m.bind fun d => ms.bind fun ds => .ok (d :: ds)) :=
  pa_imp (pa_cons ha hr hs) fun σ H Q ⟨O, ok, q⟩ => ⟨O, ok, q.bind.imp fun d k v H1 s1 r1 => ⟨O, ok.same s1, k.bind.imp fun ds k2 vs H2 s2 r2 => k2 (v :: vs) H2 (s1.trans s2) ⟨by rw [if_pos rfl]; exact r1.same s2, r2⟩⟩⟩
theorem je_callV {F : List D → R D} (S : Cok c X) (Ek : Exk c X W) (hf : FnV X.prog X.w X.K X.mg X.base j x bs F) (hr : Room j X.A) (ha : JAM c X Γ (e :: es) bs ms) (hg : Gl X x := by rfl) (hdb : (x == ("__debug__" : Str)) = false := by decide)
    (he : starEach (e :: es) X.env = (false, eval e X.env) :: starEach es X.env := by rfl) (hpl : (backTo pos (starEach es X.env)).any (·.1) = false := by rfl) : JE c X Γ (.Call (.Name x p) (e :: es) [] pos) (ms.bind F) := by
  obtain ⟨f, fd, ps, hm, hk, hb, hps, FG⟩ := hf.ex
  refine pe_imp (pe_callG FG hr S.gd hg hm hk hb (fun σ => passAt Ek.tk σ) ha hdb he hpl) fun σ H Q ⟨O, ok, q⟩ => ⟨O, ok, ?_⟩
  have q := q.bind
  cases ms with
  | bad => exact q
  | exc z => exact q
  | ok ds =>
    intro vs H1 s1 r1
    refine ⟨ds, by rw [S.K, S.MG]; exact r1, ?_⟩
    have q' : RE (F ds) (fun d => ∀ v H', Same H H' → Rp c.K c.mg H' d v → Q v H') (fun e => c.E e Γ) := q
    cases hF : F ds with
    | ok d => rw [hF] at q'; exact fun v H' s r => q' v H' (s1.trans s) (by rw [← S.K, ← S.MG]; exact r)
    | exc z => rw [hF] at q'; exact fun C H' hC s => Ek.xw z C O Γ σ H' hC ((ok.same s1).same s) q'
    | bad => rw [hF] at q'; exact q'.elim
end
theorem fnV_of {P : Program} {w : World} {K : PySem.W.Frag} {mg : Str → Option Value} {base : Heap} {k : Nat} {x qual : Str} {params : Arguments} {body : List Stmt} {scope : Scope} {kws : List (Str × V)} {f : Addr} {fd : FuncData} {N ps : List Str} {bs : List Bool} {y : Str} {F : List D → R D} (m : List D → R (Fl Unit Empty))
    (Fd : FunD K x qual params body scope [] kws f fd) (S : FnScope N ps scope) (hm : mg y = some (.ref f)) (hb : Binds K fd ps []) (hn : ps.length = bs.length) (hnN : bs.length ≤ N.length) (hF : ∀ ds, ds.length = bs.length → F ds = done (m ds))
    (hbody : ∀ (cdv : Value) (A : Around) (outer : List Env) (s : Shared) (H : Hp) (E : XK), Room k (A.deeper (envOfC qual scope s.heap.objs.size f cdv)) → A.guards = some [] → ∀ ds, ds.length = bs.length →
      JN (dc0 K ⟨mg, w⟩ H E) (cxOf (L2.CX P w) P w K mg base N qual scope f cdv A outer s H E) unEn noEn (envV bs ds (N.length - bs.length)) body (m ds)) : FnV P w K mg base (k + 1) y bs F := by
  refine ⟨f, fd, ps, hm, Fd.kp, hb, hn, fnG_of Fd S (fun vs H Q E ⟨ds, h2, _⟩ => by rw [h2.len.2, hn]) fun cdv A outer s H vs Q E hr hg ⟨ds, r, q⟩ => ⟨_, hbody cdv A outer s H E hr hg ds r.len.1, fun _ => False, ?_, ?_⟩⟩
  · exact envV_ok (N := N) (E := E) r hnN
  · rw [hF ds r.len.1] at q
    cases hmd : m ds with
    | ok fl =>
      rw [hmd] at q
      cases fl with
      | nx a => exact fun O σ' H' ok z => q .non H' (fun b o e => (ok.kp b o (.inl e)).1) Rp.non
      | bk a => exact a.elim
      | ct a => exact a.elim
      | rt d b => exact fun v H' g z r' _ => q v H' g r'
    | exc e => rw [hmd] at q; exact q
    | bad => rw [hmd] at q; exact q

/-! ### two things that are changed -/
def Ext2 (p q : Addr) (H H' : Hp) : Prop := ∀ b o, b ≠ p → b ≠ q → H b = some o → H' b = some o
section
variable {c : DC} {O : Addr → Prop} {Γ : SEnv} {σ : St} {H H' : Hp} {i j : Nat} {t u : Nat} {a a' b b' : D} {p q : Addr}
theorem EnvOk.put2 (h : EnvOk c O Γ σ H) (g1 : Γ[i]? = some (.ow t a)) (g2 : Γ[j]? = some (.ow u b)) (e1 : σ[i]? = some (some (.ref p))) (e2 : σ[j]? = some (some (.ref q))) (hij : i ≠ j) (nv : Γ.noVw = true) (x : Ext2 p q H H') (fz : Fz H H')
    (r1 : Own c.K c.mg H' p a') (r2 : Own c.K c.mg H' q b') : EnvOk c O ((Γ.set i (.ow t a')).set j (.ow u b')) σ H' := by
  obtain ⟨p', h1, h2, h4, h3⟩ := h.sl i _ g1
  rw [e1] at h1; cases h1
  obtain ⟨q', k1, k2, k4, k3⟩ := h.sl j _ g2
  rw [e2] at k1; cases k1
  refine ⟨fun a ob z => ?_, fun a z => ?_, fun l s' z => ?_, by simpa using h.ln, fun l k t1 d1 t2 d2 y q1 q2 q3 q4 => ?_⟩
  · obtain ⟨z1, z2⟩ := h.kp a ob z
    exact ⟨x _ _ (fun w => z2 (by rw [w]; exact h2)) (fun w => z2 (by rw [w]; exact k2)) z1, z2⟩
  · by_cases n : a = p
    · rw [n]; exact r1.at
    · by_cases n2 : a = q
      · rw [n2]; exact r2.at
      · obtain ⟨o, ho⟩ := h.on a z; exact ⟨o, x _ _ n n2 ho⟩
  · rcases EnvOk.set_cases z with ⟨rfl, rfl, hl⟩ | ⟨n, z⟩
    · exact ⟨q, e2, k2, k4, r2⟩
    · rcases EnvOk.set_cases z with ⟨rfl, rfl, hl⟩ | ⟨n', z⟩
      · exact ⟨p, e1, h2, h4, r1⟩
      · have k := h.sl l s' z
        cases s' with
        | un => trivial
        | fz d' => obtain ⟨v, y1, y2⟩ := k; exact ⟨v, y1, y2.stay fz⟩
        | ow t' d' =>
          obtain ⟨p', y1, y2, y4, y3⟩ := k
          have ne : p' ≠ p := fun w => by
            subst w
            exact n' (h.uq _ _ _ _ _ _ p' z g1 y1 e1)
          have ne2 : p' ≠ q := fun w => by
            subst w
            exact n (h.uq _ _ _ _ _ _ p' z g2 y1 e2)
          exact ⟨p', y1, y2, y4, Own.stay fz (fun o w => x _ _ ne ne2 w) y3⟩
        | vw d' => exact absurd z (noVw_get nv l d')
        | gv d' => exact k
  · have ow1 : ∀ {l : Nat} {t1 : Nat} {d1 : D}, ((Γ.set i (.ow t a')).set j (.ow u b'))[l]? = some (.ow t1 d1) → ∃ t2 d2, Γ[l]? = some (.ow t2 d2) := fun {l t1 d1} q' => by
      rcases EnvOk.set_cases q' with ⟨rfl, _, _⟩ | ⟨_, r1⟩
      · exact ⟨_, _, g2⟩
      · rcases EnvOk.set_cases r1 with ⟨rfl, _, _⟩ | ⟨_, r1⟩
        · exact ⟨_, _, g1⟩
        · exact ⟨_, _, r1⟩
    obtain ⟨_, _, r1⟩ := ow1 q1
    obtain ⟨_, _, r2⟩ := ow1 q2
    exact h.uq l k _ _ _ _ y r1 r2 q3 q4
end
def spI2 (K : PySem.W.Frag) (mg : MG) (n : Nat) (F : D → D → List D → R (D × D)) : Sp := fun vs H Q E => ∃ (p q : Addr) (a b : D) (vs' : List V) (ds : List D), vs = .ref p :: .ref q :: vs' ∧ p ≠ q ∧ Own K mg H p a ∧ Own K mg H q b ∧ ds.length = n ∧ RpL K mg H ds vs' ∧
  ∃ r, F a b ds = .ok r ∧ ∀ H', Ext2 p q H H' → Fz H H' → Own K mg H' p r.1 → Own K mg H' q r.2 → Q .non H'
structure FnI2 (P : Program) (w : World) (K : PySem.W.Frag) (mg : Str → Option Value) (base : Heap) (k : Nat) (x : Str) (n : Nat) (F : D → D → List D → R (D × D)) : Prop where
  ex : ∃ (f : Addr) (fd : FuncData) (ps : List Str), mg x = some (.ref f) ∧ PySem.W.keepIn K (.ref f) = true ∧ Binds K fd ps [] ∧ ps.length = n + 2 ∧ FnG P w K mg base k f fd ps (spI2 K ⟨mg, w⟩ n F)
def apj1 (F : D → D → D → R (D × D)) : D → D → List D → R (D × D)
  | a, b, [d] => F a b d
  | _, _, _ => .bad
def dcI2 (K : PySem.W.Frag) (mg : MG) (H : Hp) (p q : Addr) : DC where
  K := K
  mg := mg
  G := fun b => if b = p ∨ b = q then none else H b
  B := fun b => if b = p ∨ b = q then none else H b
  E := fun _ _ => False
  X := fun _ => False
  xe := fun _ _ h => h
  p := fun t => if t = 1 then p else q
def doneI2 : R (Fl (D × D) Empty) → R (D × D)
  | .ok (.nx a) => .ok a
  | .ok (.rt _ _) => .bad
  | .ok (.bk a) => a.elim
  | .ok (.ct a) => a.elim
  | .exc e => .exc e
  | .bad => .bad
def en2 (r : D × D) : SEnv := [.ow 1 r.1, .ow 2 r.2]
theorem ctxI2_ok {P : Program} {w : World} {K : PySem.W.Frag} {mg : Str → Option Value} {base : Heap} {N : List Str} {qual : Str} {scope : Scope} {f : Addr} {cdv : Value} {A : Around} {outer : List Env} {s : Shared} {H : Hp} {E : XK} {k : Nat} {p q : Addr} (hN : N.Nodup)
    (hr : Room k (A.deeper (envOfC qual scope s.heap.objs.size f cdv))) (hg : A.guards = some []) :
    Cok (dcI2 K ⟨mg, w⟩ H p q) (cxOf (L2.CX P w) P w K mg base N qual scope f cdv A outer s H E) ∧ Exk (dcI2 K ⟨mg, w⟩ H p q) (cxOf (L2.CX P w) P w K mg base N qual scope f cdv A outer s H E) (fun cls d _ H => E cls d H) ∧ Po (cxOf (L2.CX P w) P w K mg base N qual scope f cdv A outer s H E) := by
  obtain ⟨S, Ek, po⟩ := ctx_ok (P := P) (w := w) (K := K) (mg := mg) (base := base) (outer := outer) (H := H) (E := E) hN hr hg
  exact ⟨⟨rfl, rfl, rfl, rfl, S.un, hg, hN⟩, ⟨Ek.tk, fun _ _ _ _ _ _ _ _ h => h.elim⟩, po⟩
theorem fnI2_of {P : Program} {w : World} {K : PySem.W.Frag} {mg : Str → Option Value} {base : Heap} {k : Nat} {x qual y : Str} {params : Arguments} {body : List Stmt} {scope : Scope} {kws : List (Str × V)} {f : Addr} {fd : FuncData} {N ps : List Str} {n : Nat} {F : D → D → List D → R (D × D)} (m : D → D → List D → R (Fl (D × D) Empty))
    (Fd : FunD K x qual params body scope [] kws f fd) (S : FnScope N ps scope) (hm : mg y = some (.ref f)) (hb : Binds K fd ps []) (hn : ps.length = n + 2) (hnN : n + 2 ≤ N.length) (hF : ∀ a b ds, ds.length = n → F a b ds = doneI2 (m a b ds))
    (hbody : ∀ (cdv : Value) (A : Around) (outer : List Env) (s : Shared) (H : Hp) (E : XK) (p q : Addr), p ≠ q → Room k (A.deeper (envOfC qual scope s.heap.objs.size f cdv)) → A.guards = some [] → ∀ a b ds, ds.length = n →
      JN (dcI2 K ⟨mg, w⟩ H p q) (cxOf (L2.CX P w) P w K mg base N qual scope f cdv A outer s H E) en2 noEn (.ow 1 a :: .ow 2 b :: env0 ds (N.length - (n + 2))) body (m a b ds)) : FnI2 P w K mg base (k + 1) y n F := by
  refine ⟨f, fd, ps, hm, Fd.kp, hb, hn, fnG_of Fd S (fun vs H Q E ⟨p, q, a, b, vs', ds, h1, _, _, _, h3, h4, _⟩ => by rw [h1, List.length_cons, List.length_cons, h4.length, h3, hn]) fun cdv A outer s H vs Q E hr hg ⟨p, q, a, b, vs', ds, ev, hpq, hop, hoq, hd, r, rr, hFd, qk⟩ => ⟨_, hbody cdv A outer s H E p q hpq hr hg a b ds hd, fun z => z = p ∨ z = q, ?_, ?_⟩⟩
  · subst ev
    have e0 := env0_ok (mg := ⟨mg, w⟩) (K := K) (E := E) (N := N.drop 2) r (by rw [hd, List.length_drop]; omega)
    have hst : L2.start N (.ref p :: .ref q :: vs') = some (.ref p) :: some (.ref q) :: L2.start (N.drop 2) vs' := by
      unfold L2.start
      rw [List.map_cons, List.map_cons, List.cons_append, List.cons_append, List.length_drop, List.length_cons, List.length_cons]
      congr 3
      congr 1
      omega
    have hΓ : env0 ds (N.length - (n + 2)) = env0 ds ((N.drop 2).length - ds.length) := by
      rw [List.length_drop, hd]
      congr 1
      omega
    rw [hst, hΓ]
    refine ⟨fun a o z => ?_, fun a z => z.elim (fun e => by rw [e]; exact hop.at) (fun e => by rw [e]; exact hoq.at), fun i s' z => ?_, by simpa using e0.ln, fun i j t1 d1 t2 d2 q' q1 q2 q3 q4 => ?_⟩
    · have z : (if a = p ∨ a = q then none else H a) = some o := z.elim id id
      split at z
      · cases z
      · rename_i h; exact ⟨z, h⟩
    · match i with
      | 0 =>
        cases (show some (Slot.ow 1 a) = some s' from z)
        exact ⟨p, rfl, .inl rfl, fun _ => rfl, hop⟩
      | 1 =>
        cases (show some (Slot.ow 2 b) = some s' from z)
        exact ⟨q, rfl, .inr rfl, fun _ => rfl, hoq⟩
      | i + 2 =>
        have k := e0.sl i s' z
        cases s' with
        | un => trivial
        | fz d => exact k
        | ow t' d => obtain ⟨p', _, h2, _⟩ := k; exact h2.elim
        | vw d => exact k
        | gv d => exact (env0_gv z).elim
    · have no : ∀ l t d, ¬ ((Slot.ow 1 a :: Slot.ow 2 b :: env0 ds ((N.drop 2).length - ds.length))[l + 2]? = some (.ow t d)) := fun l t d z => by
        obtain ⟨p', _, h2, _⟩ := e0.sl l (.ow t d) z
        exact h2.elim
      match i, j with
      | 0, 0 => rfl
      | 1, 1 => rfl
      | 0, 1 =>
        have y1 : some (some (V.ref p)) = some (some (.ref q')) := q3
        have y2 : some (some (V.ref q)) = some (some (.ref q')) := q4
        cases y1; cases y2; exact absurd rfl hpq
      | 1, 0 =>
        have y1 : some (some (V.ref q)) = some (some (.ref q')) := q3
        have y2 : some (some (V.ref p)) = some (some (.ref q')) := q4
        cases y1; cases y2; exact absurd rfl hpq
      | l + 2, _ => exact absurd q1 (no l t1 d1)
      | _, l + 2 => exact absurd q2 (no l t2 d2)
  · rw [hF a b ds hd] at hFd
    cases hm' : m a b ds with
    | exc z => rw [hm'] at hFd; cases hFd
    | bad => rw [hm'] at hFd; cases hFd
    | ok fl =>
      rw [hm'] at hFd
      cases fl with
      | rt _ _ => cases hFd
      | bk a => exact a.elim
      | ct a => exact a.elim
      | nx r =>
        cases hFd
        intro O σ' H' ok z
        obtain ⟨p1, _, _, h1, o1⟩ := ok.sl 0 (.ow 1 rr.1) rfl
        obtain ⟨q1, _, _, h2, o2⟩ := ok.sl 1 (.ow 2 rr.2) rfl
        have y1 : p1 = p := h1 (by decide)
        have y2 : q1 = q := h2 (by decide)
        rw [y1] at o1
        rw [y2] at o2
        exact qk H' (fun a ob n1 n2 e => (ok.kp a ob (.inl (by show (if a = p ∨ a = q then none else H a) = some ob; rw [if_neg (fun z => z.elim n1 n2)]; exact e))).1) z o1 o2
section
variable {α β : Type} {c : DC} {X : Cx} {Γ : SEnv} {en : α → SEnv} {enL : β → SEnv} {i j l n : Nat} {t u : Nat} {a b : D} {es : List Expr} {pos p p1 p2 pos' : Pos} {x y z : Str} {rest : List Stmt}
/-- f(y, z, ..), y and z being changed -/
theorem jn_call2 {F : D → D → List D → R (D × D)} {ms : R (List D)} {mr : D × D → R (Fl α β)} (S : Cok c X) (i j : Nat) (hf : FnI2 X.prog X.w X.K X.mg X.base l x n F) (hr : Room l X.A) (ha : JA c X Γ es ms)
    (hk : ∀ r : D × D, JN c X en enL ((Γ.set i (.ow t r.1)).set j (.ow u r.2)) rest (mr r)) (hn : es.length = n := by rfl) (g1 : Γ[i]? = some (.ow t a) := by rfl) (g2 : Γ[j]? = some (.ow u b) := by rfl) (hij : i ≠ j := by decide) (nv : Γ.noVw = true := by rfl)
    (hN : X.N[i]? = some y := by rfl) (hN2 : X.N[j]? = some z := by rfl) (hv : Vis X.env.scope y := by first | exact Or.inl rfl | exact Or.inr (Or.inl rfl) | exact Or.inr (Or.inr rfl)) (hv2 : Vis X.env.scope z := by first | exact Or.inl rfl | exact Or.inr (Or.inl rfl) | exact Or.inr (Or.inr rfl))
    (hd : (y == ("__debug__" : Str)) = false := by decide) (hcd : (y == ("__classdict__" : Str)) = false := by decide) (hd2 : (z == ("__debug__" : Str)) = false := by decide) (hcd2 : (z == ("__classdict__" : Str)) = false := by decide)
    (hg : Gl X x := by rfl) (hdb : (x == ("__debug__" : Str)) = false := by decide)
    (he : starEach (.Name y p1 :: .Name z p2 :: es) X.env = (false, eval (.Name y p1) X.env) :: starEach (.Name z p2 :: es) X.env := by rfl) (he2 : starEach (.Name z p2 :: es) X.env = (false, eval (.Name z p2) X.env) :: starEach es X.env := by rfl)
    (hpl : (backTo pos (starEach (.Name z p2 :: es) X.env)).any (·.1) = false := by rfl) (hs : swapsWith (.Call (.Name x p) (.Name y p1 :: .Name z p2 :: es) [] pos) none pos'.line X.env = pure false := by rfl) :
    JN c X en enL Γ (.Expr (.Call (.Name x p) (.Name y p1 :: .Name z p2 :: es) [] pos) pos' :: rest) (ms.bind fun ds => (nox (F a b ds)).bind mr) := by
  obtain ⟨f, fd, ps, hm, hkp, hb, hps, FG⟩ := hf.ex
  refine pss_imp (pss_cons (ps_expr (pe_callG FG hr S.gd hg hm hkp hb (E := fun _ _ _ _ => False) (fun σ => passE σ) (pa_cons (pe_own i hN hv hd hcd) (pa_cons (pe_own j hN2 hv2 hd2 hcd2) ha.pa he2) he) hdb he hpl) hs) (pss_ex hk)) fun Dn σ H ⟨O, ok, q⟩ => ?_
  obtain ⟨p0, e1, h2, h4, h3⟩ := ok.sl i _ g1
  obtain ⟨q0, f1, k2, k4, k3⟩ := ok.sl j _ g2
  refine ⟨_, e1, _, f1, O, ok, ?_⟩
  have q := RE.ex (Γ := Γ) q.bind
  cases ms with
  | bad => exact q
  | exc z => exact q
  | ok ds =>
    intro vs H1 s1 r1
    obtain ⟨r, hF, q'⟩ := RE.nox (show RE (nox (F a b ds)) _ _ from RE.bind q)
    refine ⟨p0, q0, a, b, vs, ds, rfl, fun w => hij (by subst w; exact ok.uq i j _ _ _ _ p0 g1 g2 e1 f1), by rw [S.K, S.MG]; exact h3.same s1, by rw [S.K, S.MG]; exact k3.same s1, (ha.len ds rfl).trans hn, by rw [S.K, S.MG]; exact r1, r, hF, fun H' x fz o1 o2 => ?_⟩
    rw [S.K, S.MG] at o1 o2
    have q' : RE (mr r) (FlOk c en enL H Dn) fun e => c.X e := q'
    exact ⟨r, O, (ok.same s1).put2 g1 g2 e1 f1 hij nv x fz o1 o2, q'.imp fun fl f => f.fz ((Fz.of_same s1).trans fz)⟩
end
end PD
end

section
/-! PD25: defs as values; a module's tables. -/
namespace PD
open PySem PySem.Spec L2
open PyProof.Rows hiding St
open PySem.PyData (strOk)

/-! ### defs as values -/
def tCallGA (X : Cx) (k i : Nat) (E : St → XK) (t : TA) : TE := fun σ H Q => ∃ (f : Addr) (fd : FuncData) (ps : List Str) (sp : Sp), σ[i]? = some (some (.ref f)) ∧ PySem.W.keepIn X.K (.ref f) = true ∧ Binds X.K fd ps [] ∧ FnG X.prog X.w X.K X.mg X.base k f fd ps sp ∧ t σ H fun vs H1 => sp vs H1 Q (E σ)
section
variable {X : Cx} {k i : Nat} {E : St → XK} {x : Str} {p pos : Pos} {e : Expr} {es : List Expr} {t : TA}
theorem pe_callGA (hr : Room k X.A) (hgd : X.A.guards = some []) (hN : X.N[i]? = some x) (hv : Vis X.env.scope x) (hx : ∀ σ, PassesAt (L2.CX X.prog X.w) X σ (E σ)) (ha : PA X (e :: es) t)
    (hdb : (x == ("__debug__" : Str)) = false := by decide) (hcd : (x == ("__classdict__" : Str)) = false := by decide)
    (he : starEach (e :: es) X.env = (false, eval e X.env) :: starEach es X.env := by rfl) (hpl : (backTo pos (starEach es X.env)).any (·.1) = false := by rfl) : PE X (.Call (.Name x p) (e :: es) [] pos) (tCallGA X k i E t) := by
  refine ⟨fun pins s σ H Q I ⟨f, fd, ps, sp, hs, hk, hb, F, ht⟩ => ?_⟩
  refine wpAny_Call_Name_kw (thn ((pe_var (pos := p) hN hv hdb hcd).run pins s σ H (fun v H1 => v = .ref f ∧ H1 = H) I ⟨.ref f, hs, rfl, rfl⟩) fun u s1 ⟨v, H1, I1, r1, q1⟩ => ?_)
  obtain ⟨rfl, rfl⟩ := q1
  cases r1
  exact PySem.W.callWith_K (h₀ := X.base) I1.ok.mod.kin hk (thn (ha.run pos pins s1 σ _ _ I1 ht) fun us s2 ⟨vs, H2, I2, r, q⟩ => ⟨I2.kIn, run_fnG F hr hgd hb (hx σ) I2 r q⟩) he hpl
end
abbrev FTab := List (Str × (List D → R D))
/-- the def that d is, by the table -/
def tabR (tab : FTab) : D → R (List D → R D)
  | .fn x => match tab.lookup x with
    | some F => .ok F
    | none => .bad
  | _ => .bad
def TabF (P : Program) (w : World) (K : PySem.W.Frag) (mg : Str → Option Value) (base : Heap) (j n : Nat) (tab : FTab) : Prop := ∀ x F, tab.lookup x = some F → FnD P w K mg base j x n F
theorem TabF.nil {P : Program} {w : World} {K : PySem.W.Frag} {mg : Str → Option Value} {base : Heap} {j n : Nat} : TabF P w K mg base j n [] := fun x F h => by cases h
theorem TabF.cons {P : Program} {w : World} {K : PySem.W.Frag} {mg : Str → Option Value} {base : Heap} {i j n : Nat} {x : Str} {F : List D → R D} {tab : FTab} (h : FnD P w K mg base i x n F) (l : i ≤ j) (r : TabF P w K mg base j n tab) : TabF P w K mg base j n ((x, F) :: tab) := fun y G e => by
  rw [List.lookup] at e
  split at e
  · rename_i q; cases e; rw [beq_iff_eq.mp q]; exact h.mono l
  · exact r y G e
section
variable {c : DC} {X : Cx} {W : WX} {Γ : SEnv} {i j n : Nat} {x : Str} {d : D} {p pos : Pos} {e e1 : Expr} {es : List Expr} {m1 : R D} {ms : R (List D)}
theorem je_fn {F : List D → R D} (S : Cok c X) (hf : FnD X.prog X.w X.K X.mg X.base j x n F) (hg : Gl X x := by rfl) (hd : (x == ("__debug__" : Str)) = false := by decide) : JE c X Γ (.Name x pos) (.ok (.fn x)) := by
  obtain ⟨f, fd, ps, hm, _⟩ := hf.ex
  exact pe_imp (pe_glob (v := .ref f) hg hm rfl hd) fun σ H Q ⟨O, ok, q⟩ => q _ H (Same.refl H) (by rw [Rp]; exact ⟨f, rfl, by rw [← S.mg]; exact hm⟩)
/-- .. known by its name alone -/
theorem je_fnG (S : Cok c X) (hm : ∃ f, X.mg x = some (.ref f)) (hg : Gl X x := by rfl) (hd : (x == ("__debug__" : Str)) = false := by decide) : JE c X Γ (.Name x pos) (.ok (.fn x)) := by
  obtain ⟨f, hm⟩ := hm
  exact pe_imp (pe_glob (v := .ref f) hg hm rfl hd) fun σ H Q ⟨O, ok, q⟩ => q _ H (Same.refl H) (by rw [Rp]; exact ⟨f, rfl, by rw [← S.mg]; exact hm⟩)
theorem je_callF {tab : FTab} (S : Cok c X) (Ek : Exk c X W) (T : TabF X.prog X.w X.K X.mg X.base j n tab) (hr : Room j X.A) (i : Nat) (ha : JA c X Γ (e :: es) ms) (hn : (e :: es).length = n := by rfl) (g : Γ[i]? = some (.fz d) := by rfl) (hN : X.N[i]? = some x := by rfl)
    (hv : Vis X.env.scope x := by first | exact Or.inl rfl | exact Or.inr (Or.inl rfl) | exact Or.inr (Or.inr rfl)) (hdb : (x == ("__debug__" : Str)) = false := by decide) (hcd : (x == ("__classdict__" : Str)) = false := by decide)
    (he : starEach (e :: es) X.env = (false, eval e X.env) :: starEach es X.env := by rfl) (hpl : (backTo pos (starEach es X.env)).any (·.1) = false := by rfl) : JE c X Γ (.Call (.Name x p) (e :: es) [] pos) ((tabR tab d).bind fun F => ms.bind F) := by
  refine pe_imp (pe_callGA hr S.gd hN hv (fun σ => passAt Ek.tk σ) ha.pa hdb hcd he hpl) fun σ H Q ⟨O, ok, q⟩ => ?_
  unfold tabR at q
  split at q
  · rename_i y _
    split at q
    · rename_i F hF
      have q := RE.okk q
      obtain ⟨f, fd, ps, hm, hk, hb, hps, FG⟩ := (T y F hF).ex
      obtain ⟨v, h1, h2⟩ := ok.sl i _ g
      rw [Rp] at h2
      obtain ⟨a, rfl, h2⟩ := h2
      rw [← S.mg, hm] at h2
      cases h2
      refine ⟨f, fd, ps, _, h1, hk, hb, FG, O, ok, ?_⟩
      have q := q.bind
      cases ms with
      | bad => exact q
      | exc z => exact q
      | ok ds =>
        intro vs H1 s1 r1
        refine ⟨ds, (ha.len ds rfl).trans hn, by rw [S.K, S.MG]; exact r1, ?_⟩
        have q' : RE (F ds) (fun d => ∀ v H', Same H H' → Rp c.K c.mg H' d v → Q v H') (fun e => c.E e Γ) := q
        cases hFd : F ds with
        | ok d => rw [hFd] at q'; exact fun v H' s r => q' v H' (s1.trans s) (by rw [← S.K, ← S.MG]; exact r)
        | exc z => rw [hFd] at q'; exact fun C H' hC s => Ek.xw z C O Γ σ H' hC ((ok.same s1).same s) q'
        | bad => rw [hFd] at q'; exact q'.elim
    · exact (RE.badd q).elim
  · exact (RE.badd q).elim
end

/-! ### a module's tables: texts to texts, to tuples of defs, of texts, to defs -/
inductive Tv where
  | s (x : Str) | fs (xs : List Str) | ts (xs : List Str) | f (x : Str)
def Tv.d : Tv → D
  | .s x => .str x
  | .fs xs => .tup (xs.map .fn)
  | .ts xs => .tup (xs.map .str)
  | .f x => .fn x
def tupV (K : PySem.W.Frag) (a : Addr) (vs : List V) : Bool := match K.lookup a with
  | some ⟨.type c, none, .seq its _, _⟩ => decide (c = "tuple") && (decide (its.size ≤ sizeLine) && He.relAll vs its.toList)
  | _ => false
theorem tupV_ok {K : PySem.W.Frag} {a : Addr} {vs : List V} {H : Hp} (c : tupV K a vs = true) : TpT K H a vs := by
  unfold tupV at c
  split at c
  · rename_i T its n sl q
    obtain ⟨h1, h2⟩ := He.ba c
    obtain ⟨h3, h4⟩ := He.ba h2
    exact .inr ⟨_, its, n, q, congrArg Value.type (of_decide_eq_true h1), rfl, rfl, of_decide_eq_true h3, He.relAll_ok h4⟩
  · cases c
def Tv.ok (K : PySem.W.Frag) : Tv → Value → Bool
  | .s x, .str y _ => decide (x = y) && strOk x
  | .fs xs, .ref a => tupV K a (xs.map fun x => .ref (He.ga K x)) && xs.all fun x => (He.Fa.glo x).ok K
  | .ts xs, .ref a => tupV K a (xs.map .str) && xs.all strOk
  | .f x, .ref a => decide (He.ga K x = a) && (He.Fa.glo x).ok K
  | _, _ => false
theorem RpL.fns {K : PySem.W.Frag} {h : Heap} {mg : Str → Option Value} {w : World} {H : Hp} (X : K.In h) (G : h.Ns mainGlobals mg) : ∀ {xs : List Str}, xs.all (fun x => (He.Fa.glo x).ok K) = true → RpL K ⟨mg, w⟩ H (xs.map D.fn) (xs.map fun x => V.ref (He.ga K x))
  | [], _ => RpL.nil.mpr rfl
  | x :: xs, h => by
    rw [List.all_cons, Bool.and_eq_true] at h
    exact RpL.cons.mpr ⟨_, _, rfl, by rw [Rp]; exact ⟨_, rfl, He.glo_ok X G h.1⟩, RpL.fns X G h.2⟩
theorem Tv.ok_rp {K : PySem.W.Frag} {h : Heap} {mg : Str → Option Value} {w : World} (X : K.In h) (G : h.Ns mainGlobals mg) {t : Tv} {u : Value} (c : t.ok K u = true) : ∃ v, RelV v u ∧ ∀ H, Rp K ⟨mg, w⟩ H t.d v := by
  cases t with
  | s x => cases u with
    | str y tk =>
      obtain ⟨h1, h2⟩ := He.ba (show (decide (x = y) && strOk x) = true from c)
      have e : x = y := of_decide_eq_true h1
      subst e
      exact ⟨.str x, ⟨tk, rfl⟩, fun H => Rp.str h2⟩
    | _ => cases c
  | fs xs => cases u with
    | ref a =>
      obtain ⟨h1, h2⟩ := He.ba (show (tupV K a (xs.map fun x => .ref (He.ga K x)) && xs.all fun x => (He.Fa.glo x).ok K) = true from c)
      exact ⟨.ref a, rfl, fun H => by unfold Tv.d; rw [Rp]; exact ⟨a, _, rfl, tupV_ok h1, RpL.fns X G h2⟩⟩
    | _ => cases c
  | ts xs => cases u with
    | ref a =>
      obtain ⟨h1, h2⟩ := He.ba (show (tupV K a (xs.map .str) && xs.all strOk) = true from c)
      exact ⟨.ref a, rfl, fun H => by unfold Tv.d; rw [Rp]; exact ⟨a, _, rfl, tupV_ok h1, RpL.strs h2⟩⟩
    | _ => cases c
  | f x => cases u with
    | ref a =>
      obtain ⟨h1, h2⟩ := He.ba (show (decide (He.ga K x = a) && (He.Fa.glo x).ok K) = true from c)
      have e : He.ga K x = a := of_decide_eq_true h1
      exact ⟨.ref a, rfl, fun H => by unfold Tv.d; rw [Rp]; exact ⟨a, rfl, by rw [← e]; exact He.glo_ok X G h2⟩⟩
    | _ => cases c
def entB (K : PySem.W.Frag) : List (Str × Tv) → List DictEntry → Bool
  | [], [] => true
  | q :: r, e :: es => e.key.isStr q.1 && (q.2.ok K e.val && entB K r es)
  | _, _ => false
def dctN (K : PySem.W.Frag) (x : Str) (tab : List (Str × Tv)) : Bool := match K.lookup (He.ga K x) with
  | some ⟨_, _, .dict es _, _⟩ => entB K tab es.toList
  | _ => false
def dtab (tab : List (Str × Tv)) : List (Str × D) := tab.map fun q => (q.1, q.2.d)
structure GTab (K : PySem.W.Frag) (w : World) (mg : Str → Option Value) (x : Str) (tab : List (Str × D)) : Prop where
  ex : ∃ d es n, mg x = some (.ref d) ∧ KDict K w d es n ∧ ∀ z : Str, match tab.lookup z with
    | some e => ∃ u v, PySem.W.nsIn K d z = some (some u) ∧ RelV v u ∧ ∀ H, Rp K ⟨mg, w⟩ H e v
    | none => PySem.W.nsIn K d z = some none
theorem isStr_key {u : Value} {x : Str} (h : u.isStr x = true) : ∃ t, u = .str x t := by
  cases u with
  | str y t =>
    have e : y = x := by
      have h : (y == x) = true := h
      exact beq_iff_eq.mp h
    subst e; exact ⟨t, rfl⟩
  | _ => cases h
theorem entB_find {K : PySem.W.Frag} {h : Heap} {mg : Str → Option Value} {w : World} (X : K.In h) (G : h.Ns mainGlobals mg) : ∀ {tab : List (Str × Tv)} {es : List DictEntry}, entB K tab es = true → es.any (·.refKey) = false ∧ ∀ z : Str, match (dtab tab).lookup z with
    | some e => ∃ en v, es.find? (·.key.isStr z) = some en ∧ RelV v en.val ∧ ∀ H, Rp K ⟨mg, w⟩ H e v
    | none => es.find? (·.key.isStr z) = none
  | [], [], _ => ⟨rfl, fun z => rfl⟩
  | q :: r, e :: es, c => by
    obtain ⟨h1, h2⟩ := He.ba (show (e.key.isStr q.1 && (q.2.ok K e.val && entB K r es)) = true from c)
    obtain ⟨h3, h4⟩ := He.ba h2
    obtain ⟨i1, i2⟩ := entB_find X G (w := w) h4
    obtain ⟨t, hk⟩ := isStr_key h1
    refine ⟨by rw [List.any_cons, i1, Bool.or_false]; unfold DictEntry.refKey; rw [hk], fun z => ?_⟩
    have i2 := i2 z
    show match ((q.1, q.2.d) :: dtab r).lookup z with
      | some e' => ∃ en v, (e :: es).find? (·.key.isStr z) = some en ∧ RelV v en.val ∧ ∀ H, Rp K ⟨mg, w⟩ H e' v
      | none => (e :: es).find? (·.key.isStr z) = none
    by_cases hz : z = q.1
    · subst hz
      obtain ⟨v, r1, r2⟩ := Tv.ok_rp X G (w := w) h3
      rw [show ((q.1, q.2.d) :: dtab r).lookup q.1 = some q.2.d by simp [List.lookup]]
      exact ⟨e, v, by rw [List.find?_cons, h1], r1, r2⟩
    · have hs : e.key.isStr z = false := by
        rw [hk]
        show (q.1 == z) = false
        exact beq_eq_false_iff_ne.mpr fun w => hz w.symm
      have hl : ((q.1, q.2.d) :: dtab r).lookup z = (dtab r).lookup z := by
        rw [List.lookup, beq_eq_false_iff_ne.mpr hz]
      rw [hl, List.find?_cons, hs]
      exact i2
  | [], _ :: _, c => by cases c
  | _ :: _, [], c => by cases c
theorem gtab_of {K : PySem.W.Frag} {h : Heap} {mg : Str → Option Value} {w : World} (X : K.In h) (G : h.Ns mainGlobals mg) {x : Str} {tab : List (Str × Tv)} (g : (He.Fa.glo x).ok K = true) (kd : ∃ es n, KDict K w (He.ga K x) es n) (c : dctN K x tab = true) : GTab K w mg x (dtab tab) := by
  obtain ⟨es, n, kd⟩ := kd
  refine ⟨_, es, n, He.glo_ok X G g, kd, fun z => ?_⟩
  unfold dctN at c
  rw [kd.at_] at c
  obtain ⟨e1, e2⟩ := entB_find X G (w := w) (show entB K tab es.toList = true from c)
  have e2 := e2 z
  have hn : PySem.W.nsIn K (He.ga K x) z = (match es.toList.find? (·.key.isStr z) with
      | some e => some (some e.val)
      | none => if es.toList.any (·.refKey) then none else some none) := by
    unfold PySem.W.nsIn
    rw [kd.at_]
    rfl
  split
  · rename_i e q
    rw [q] at e2
    obtain ⟨en, v, f, r1, r2⟩ := e2
    exact ⟨en.val, v, by rw [hn, f], r1, r2⟩
  · rename_i q
    rw [q] at e2
    rw [hn, e2, e1]
    rfl
def tabIn (tab : List (Str × D)) : D → R Bool
  | .str x => .ok (tab.lookup x).isSome
  | _ => .bad
def tabIx (tab : List (Str × D)) : D → R D
  | .str x => match tab.lookup x with
    | some d => .ok d
    | none => .bad
  | _ => .bad
section
variable {c : DC} {X : Cx} {Γ : SEnv} {x : Str} {p pos : Pos} {e : Expr} {m : R D} {tab : List (Str × D)}
theorem tab_some {K : PySem.W.Frag} {w : World} {mg : Str → Option Value} (T : GTab K w mg x tab) : ∃ d es n, mg x = some (.ref d) ∧ KDict K w d es n ∧ ∀ z : Str, ∃ r, PySem.W.nsIn K d z = some r ∧ r.isSome = (tab.lookup z).isSome ∧ ∀ e, tab.lookup z = some e → ∃ u v, r = some u ∧ RelV v u ∧ ∀ H, Rp K ⟨mg, w⟩ H e v := by
  obtain ⟨d, es, n, hm, kd, h⟩ := T.ex
  refine ⟨d, es, n, hm, kd, fun z => ?_⟩
  have h := h z
  split at h
  · rename_i e q
    obtain ⟨u, v, h1, h2, h3⟩ := h
    exact ⟨some u, h1, by rw [q]; rfl, fun e' q' => by rw [q] at q'; cases q'; exact ⟨u, v, rfl, h2, h3⟩⟩
  · rename_i q
    exact ⟨none, h, by rw [q]; rfl, fun e' q' => by rw [q] at q'; cases q'⟩
theorem jt_tabIn (S : Cok c X) (T : GTab X.K X.w X.mg x tab) (ha : JV c X Γ e m) (hg : Gl X x := by rfl) (hd : (x == ("__debug__" : Str)) = false := by decide) (hm : behindInMarks .In (.Name x p) = false := by rfl) : JT c X Γ (.Compare e [.In] [.Name x p] pos) (m.bind (tabIn tab)) := by
  obtain ⟨d, es, n, hx, kd, h⟩ := tab_some T
  refine pt_imp (pt_cmpR (op_in_kd kd) ha (pe_glob (v := .ref d) hg hx rfl hd) hm) fun σ H Q ⟨O, ok, q⟩ => ⟨O, ok, q.bind.imp fun dx k v H1 s1 r1 => ?_⟩
  unfold tabIn at k
  split at k
  · rename_i z
    obtain ⟨r, e1, e2, _⟩ := h z
    exact ⟨z, r, r1.str.1, rfl, e1, _, by rw [e2], k H1 s1⟩
  · exact k.elim
theorem je_tabIn (S : Cok c X) (T : GTab X.K X.w X.mg x tab) (ha : JV c X Γ e m) (hg : Gl X x := by rfl) (hd : (x == ("__debug__" : Str)) = false := by decide) (hm : behindInMarks .In (.Name x p) = false := by rfl) : JE c X Γ (.Compare e [.In] [.Name x p] pos) ((m.bind (tabIn tab)).bind fun t => .ok (.bl t)) := by
  obtain ⟨d, es, n, hx, kd, h⟩ := tab_some T
  refine pe_imp (pe_cmpR (op_in_kd kd) ha (pe_glob (v := .ref d) hg hx rfl hd) hm) fun σ H Q ⟨O, ok, q⟩ => ⟨O, ok, q.bind.bind.imp fun dx k v H1 s1 r1 => ?_⟩
  unfold tabIn at k
  split at k
  · rename_i z
    obtain ⟨r, e1, e2, _⟩ := h z
    exact ⟨z, r, r1.str.1, rfl, e1, by rw [e2]; exact k _ H1 s1 (by rw [Rp])⟩
  · exact k.elim
theorem jt_tabNotIn (S : Cok c X) (T : GTab X.K X.w X.mg x tab) (ha : JV c X Γ e m) (hg : Gl X x := by rfl) (hd : (x == ("__debug__" : Str)) = false := by decide) (hm : behindInMarks .NotIn (.Name x p) = false := by rfl) : JT c X Γ (.Compare e [.NotIn] [.Name x p] pos) ((m.bind (tabIn tab)).bind fun t => .ok (!t)) := by
  obtain ⟨d, es, n, hx, kd, h⟩ := tab_some T
  refine pt_imp (pt_cmpR (op_notIn_kd kd) ha (pe_glob (v := .ref d) hg hx rfl hd) hm) fun σ H Q ⟨O, ok, q⟩ => ⟨O, ok, q.bind.bind.imp fun dx k v H1 s1 r1 => ?_⟩
  unfold tabIn at k
  split at k
  · rename_i z
    obtain ⟨r, e1, e2, _⟩ := h z
    exact ⟨z, r, r1.str.1, rfl, e1, _, by rw [e2], k H1 s1⟩
  · exact k.elim
theorem je_tabIx (S : Cok c X) (T : GTab X.K X.w X.mg x tab) (ha : JV c X Γ e m) (hg : Gl X x := by rfl) (hd : (x == ("__debug__" : Str)) = false := by decide) (hs : PlainIx e := by exact fun _ _ => rfl) : JE c X Γ (.Subscript (.Name x p) e pos) (m.bind (tabIx tab)) := by
  obtain ⟨d, es, n, hx, kd, h⟩ := tab_some T
  refine pe_imp (pe_ix ix_kdict (pe_glob (v := .ref d) hg hx rfl hd) ha hs) fun σ H Q ⟨O, ok, q⟩ => ⟨O, ok, q.bind.imp fun dx k v H1 s1 r1 => ?_⟩
  unfold tabIx at k
  split at k
  · rename_i z
    obtain ⟨r, e1, _, e3⟩ := h z
    split at k
    · rename_i e q
      obtain ⟨u, v', rfl, h2, h3⟩ := e3 e q
      exact ⟨d, z, v', rfl, r1.str.1, ⟨es, n, u, kd.at_, kd.lit, e1, h2⟩, k v' H1 s1 (by rw [← S.K, ← S.MG]; exact h3 H1)⟩
    · exact k.elim
  · exact k.elim
end
end PD
end

section
/-! PD26: what may be collected: views of dicts too; sorted of such; stars in displays. -/
namespace PD
open PySem PySem.Spec L2
open PyProof.Rows hiding St
open PySem.PyData (strOk)
open PySem.W (EachIs AllAlike Sortable alike dataLt dataLe dataKind SortsAt sortVals KeyedOut sortingHeap)

/-- v may be collected: Q tells of its items, and of the heap then -/
def ColAt (X : Cx) (H : Hp) (v : V) (Q : List V → Hp → Prop) : Prop := ∀ (pins : List (Addr × Obj)) (σ : St) (s : Shared) (u : Value), Inv X pins σ H s → RelV v u →
  (∀ (A : Around) (E : Value → Shared → Prop) (R : Bool → Shared → Prop), R false s → wpAny (model X.prog X.w) A (notIterableAtAll u) R E s) ∧
  ∀ (A : Around) (E : Value → Shared → Prop) (R : List Value → Shared → Prop), A.handled = none → (∀ its h' tk ys H', Inv X pins σ H' { s with heap := h', toks := tk } → Vals ys its → ys.length ≤ sizeLine → Q ys H' → R its { s with heap := h', toks := tk }) → wpAny (model X.prog X.w) A (collect u) R E s
def valsO (p d : Addr) : HO := .ext fun h => h.IsValuesView p d
theorem valsO_ok {P : Program} {w : World} {H : Hp} {h : Heap} {p d : Addr} (e : h.get? p = some { cls := .type "dict_values", data := .fields #[.ref d] }) : ObjOk P w H h p (valsO p d) :=
  ⟨⟨_, e, rfl, rfl⟩, ⟨_, e⟩, fun h1 h2 x k => let ⟨o, ho, r⟩ := x; ⟨o, k o ho, r⟩⟩
section
variable {X : Cx} {H : Hp} {Q : List V → Hp → Prop} {a p d : Addr} {ys : List V} {mg : MG}
theorem not_iter {T : String} {v : Value} {s : Shared} {u : Value} {A : Around} {E : Value → Shared → Prop} {R : Bool → Shared → Prop} (hT : s.TypeIs u T) (hl : typeLookup (.type T) ("__iter__" : Str) = pure (some v)) (q : R false s) :
    wpAny (model X.prog X.w) A (notIterableAtAll u) R E s := by
  unfold notIterableAtAll
  exact wpAny_bind (wpAny_specialOf hT hl (wpAny_pure q))
theorem col_src (hc : SrtSrc X.K H a ys) (q : Q ys H) : ColAt X H (.ref a) Q := by
  intro pins σ s u I r
  cases r
  rcases hc with h | h | ⟨kvs, h, rfl⟩ | ⟨w, es, h, rfl⟩
  · obtain ⟨its, rv, hl, hz⟩ := I.list h
    obtain ⟨o, ho, hc, n, hd⟩ := hl.isList
    refine ⟨fun A E R k => not_iter ⟨o, ho, hc⟩ PySem.F.slot_list_iter.lookup k, fun A E R hh hR => ?_⟩
    refine collect_list hl.isList (hR its _ s.toks ys H (I.kept fun b o e => ?_) rv hz q) (by rw [← rv.length]; exact hz)
    rw [Heap.get?_update_ne _ _ _ _ (Nat.ne_of_lt (Heap.lt_size e))]
    exact Heap.get?_push_of_some _ e
  · obtain ⟨its, rv, hl, hz⟩ := I.tuple h.sq
    obtain ⟨o, ho, hc, n, hd⟩ := id hl
    exact ⟨fun A E R k => not_iter ⟨o, ho, hc⟩ PySem.F.slot_tuple_iter.lookup k, fun A E R hh hR => collect_tup hl (by rw [← rv.length]; exact hz) fun h' tk k => hR its h' tk ys H (I.kept k) rv hz q⟩
  · obtain ⟨z, lo, vs, rel, dd⟩ := dk_rd I.hok h
    obtain ⟨ep, hat⟩ := dd.dictAt
    have hl : kvs.length = vs.length := rel.length
    refine ⟨fun A E R k => not_iter dd.typeIs PySem.F.slot_dict_iter.lookup k, fun A E R hh hR => ?_⟩
    exact PySem.W.kdu_collect (A := A) (PySem.W.kdl_dict (knd := mixKind X.prog X.w) (kvs := vs) (ep := ep) lo) hh hat (by omega) fun h' tk acc hk hacc => hR _ h' tk _ H (I.kept hk) (keys_walked rel hacc) (by rw [List.length_map]; exact z) q
  · obtain ⟨z, lo, xs, pr, o, ds, ep, ho, hx, hd, he, _⟩ := td_at I h
    have l2 := Paired.length pr
    have l3 : ds.size = xs.length := by rw [← Array.length_toList, he, List.length_map]
    refine ⟨fun A E R k => not_iter ⟨o, ho, hx.1⟩ PySem.F.slot_dict_iter.lookup k, fun A E R hh hR => ?_⟩
    refine PySem.W.kdu_collect (A := A) (kdl_raw (prog := X.prog) (w := X.w) lo hx hd) hh ho (by omega) fun h' tk acc hk hacc => hR _ h' tk _ H (I.kept hk) ?_ (by rw [List.length_map]; exact z) q
    have ea : acc.toList = xs.map fun x => Value.ref x.2.1 := by
      apply List.ext_getElem?
      intro j
      rw [List.getElem?_map, Array.getElem?_toList]
      cases hj : acc[j]? with
      | none =>
        have h1 := Array.getElem?_eq_none_iff.mp hj
        have h2 : acc.size = ds.size := hacc.1
        rw [List.getElem?_eq_none (by omega)]; rfl
      | some v =>
        obtain ⟨en, hen, hv⟩ := hacc.2 j v hj
        have k : ds.toList[j]? = (xs[j]?).map (entN w) := by rw [he, List.getElem?_map]
        rw [Array.getElem?_toList, hen] at k
        cases hx : xs[j]? with
        | none => rw [hx] at k; cases k
        | some y => rw [hx] at k; cases k; rw [hv]; rfl
    rw [ea]
    exact paired_map (F := TR) (G := L2.RelV) (f := fun e => V.ref e.2.1) (g := fun x => Value.ref x.2.1) (fun e x q => by show Value.ref _ = Value.ref _; rw [q.2.1]) pr
theorem KV.at {kvs : List (Key × V)} {vs : List (Key × Value)} (r : KV kvs vs) {i : Nat} {k : Key} {y : V} (e : kvs[i]? = some (k, y)) : ∃ u, vs[i]? = some (k, u) ∧ RelV y u := by
  obtain ⟨b, e1, e2, e3⟩ := paired_get r e
  obtain ⟨k', u⟩ := b
  have e2 : k = k' := e2
  subst e2
  exact ⟨u, e1, e3⟩
theorem col_vals {kvs : List (Key × V)} (h : H p = some (valsO p d)) (t : Rd H d (.dK kvs)) (q : Q (kvs.map (·.2)) H) : ColAt X H (.ref p) Q := by
  intro pins σ s u I r
  cases r
  have view : s.heap.IsValuesView p d := (show ObjOk X.prog X.w H s.heap p (valsO p d) from I.hok p _ h).1
  obtain ⟨z, lo, vs, rel, dd⟩ := dk_rd I.hok t
  obtain ⟨es, ep, raw, sz, ent⟩ := dd.raw
  have hl : kvs.length = vs.length := rel.length
  refine ⟨fun A E R k => not_iter view.typeIs PySem.F.slot_dict_values_iter.lookup k, fun A E R hh hR => ?_⟩
  refine PySem.W.kdu_collect (A := A) (PySem.KdlSrc.rawValues) hh ⟨view, raw⟩ (by omega) fun h' tk acc hk hacc => hR _ h' tk _ H (I.kept hk) ?_ (by rw [List.length_map]; exact z) q
  refine vals_of_at (by have h1 := hacc.1; simp only [List.length_map, Array.length_toList]; omega) fun j x w' h1 h2 => ?_
  obtain ⟨hi, hv⟩ := hacc.2 j w' (by rw [← Array.getElem?_toList]; exact h2)
  rw [List.getElem?_map] at h1
  obtain ⟨⟨k, y⟩, e1, rfl⟩ := Option.map_eq_some_iff.mp h1
  obtain ⟨u, e2, e3⟩ := KV.at rel e1
  rw [hv, (ent j hi k u e2).2]
  exact e3
theorem takeFz {pins : List (Addr × Obj)} {σ : St} {H0 : Hp} {s : Shared} {h' : Heap} {tk : Nat} {P : Addr → Obj → List V → Prop} (I0 : Inv X pins σ H0 s) : ∀ (L : List Addr) (H1 : Hp), Inv X pins σ H1 { s with heap := h', toks := tk } → L.Nodup →
    (∀ a ∈ L, s.heap.objs.size ≤ a ∧ H1 a = none ∧ ∃ o vs, P a o vs ∧ ∀ H2, ObjOk X.prog X.w H2 h' a (.frz o (.tup vs))) →
    ∃ H2, Inv X pins σ H2 { s with heap := h', toks := tk } ∧ (∀ b o, H1 b = some o → H2 b = some o) ∧ ∀ a ∈ L, ∃ o vs, P a o vs ∧ H2 a = some (.frz o (.tup vs))
  | [], H1, I1, _, _ => ⟨H1, I1, fun _ _ e => e, fun _ h => nomatch h⟩
  | a :: L, H1, I1, hn, h => by
    obtain ⟨hb, hnone, ob, vs, hP, ok⟩ := h a (List.mem_cons_self ..)
    have I2 : Inv X pins σ (upd H1 a (.frz ob (.tup vs))) { s with heap := h', toks := tk } := I1.take (h' := h') (t' := tk) (fun b ob _ e => e) (I0.fpOk hb hnone) (ok _)
    rw [List.nodup_cons] at hn
    obtain ⟨H2, I3, g, q⟩ := takeFz I0 L (upd H1 a (.frz ob (.tup vs))) I2 hn.2 fun c hc => by
      obtain ⟨c1, c2, c3⟩ := h c (List.mem_cons_of_mem _ hc)
      exact ⟨c1, by rw [upd_ne (fun z => hn.1 (by rw [← z]; exact hc))]; exact c2, c3⟩
    refine ⟨H2, I3, fun b o e => g b o (by rw [upd_ne (ne_of_none e hnone)]; exact e), fun c hc => ?_⟩
    rcases List.mem_cons.mp hc with rfl | hc
    · exact ⟨ob, vs, hP, g _ _ upd_same⟩
    · exact q c hc
theorem col_items {kvs : List (Key × V)} (h : H p = some (DX.itemsO p d)) (t : Rd H d (.dK kvs))
    (q : ∀ (as : List Addr) H', Same H H' → as.length = kvs.length → (∀ (j : Nat) k y, kvs[j]? = some (k, y) → ∃ a o, as[j]? = some a ∧ H' a = some (.frz o (.tup [kV k, y])) ∧ o.dict = none) → Q (as.map V.ref) H') : ColAt X H (.ref p) Q := by
  intro pins σ s u I r
  cases r
  have view : s.heap.IsItemsView p d := (show ObjOk X.prog X.w H s.heap p (DX.itemsO p d) from I.hok p _ h).1
  obtain ⟨z, lo, vs, rel, dd⟩ := dk_rd I.hok t
  obtain ⟨es, ep, raw, sz, ent⟩ := dd.raw
  have hl : kvs.length = vs.length := rel.length
  refine ⟨fun A E R k => not_iter view.typeIs PySem.F.slot_dict_items_iter.lookup k, fun A E R hh hR => ?_⟩
  refine DT.collectI (es := es) (ep := ep) hh view raw (by omega) fun h' tk as hk hlt hla hG => ?_
  have nd : as.Nodup := List.Pairwise.imp (fun h => Nat.ne_of_lt h) hG.rise
  have I1 : Inv X pins σ H { s with heap := h', toks := tk } := I.kept (t' := tk) hk
  obtain ⟨H2, I2, g, qt⟩ := takeFz (P := fun a o xs => ∃ (j : Nat) (k : Key) (y : V), as[j]? = some a ∧ kvs[j]? = some (k, y) ∧ xs = [kV k, y] ∧ o.dict = none) I as H I1 nd fun a ha => by
    obtain ⟨j, hj⟩ := List.mem_iff_getElem?.mp ha
    obtain ⟨e, he, hg⟩ := hG.pairs j a hj
    have hjl : j < kvs.length := by
      have := (List.getElem?_eq_some_iff.mp hj).1
      omega
    have hbl : s.heap.objs.size ≤ a := Nat.le_of_lt (hG.above a ha)
    obtain ⟨k, y, ek⟩ : ∃ k y, kvs[j]? = some (k, y) := ⟨kvs[j].1, kvs[j].2, by rw [List.getElem?_eq_getElem hjl]⟩
    obtain ⟨uu, e2, e3⟩ := KV.at rel ek
    have hje : j < es.size := by omega
    obtain ⟨x1, x2⟩ := ent j hje k uu e2
    have ee : e = es[j] := by rw [Array.getElem?_eq_getElem hje] at he; exact (Option.some.inj he).symm
    subst ee
    refine ⟨hbl, I.hok.fresh hbl, _, [kV k, y], ⟨j, k, y, hj, ek, rfl, rfl⟩, fun H3 => ⟨hg, by rw [sizeLine_eq]; show 2 ≤ 16777216; omega, [es[j].key, es[j].val], .cons (keyIs_rel x1) (.cons (by rw [x2]; exact e3) .nil), ⟨_, hg, rfl, 0, rfl⟩⟩⟩
  refine hR (as.map Value.ref) h' tk (as.map V.ref) H2 I2 (vals_refs as) (by rw [List.length_map]; omega) (q as H2 g (by omega) fun j k y hky => ?_)
  have hja : j < as.length := by
    have := (List.getElem?_eq_some_iff.mp hky).1
    omega
  obtain ⟨o, xs, ⟨i, k2, y2, e1, e2, e3, e4⟩, hH⟩ := qt as[j] (List.getElem_mem hja)
  have hj : as[j]? = some as[j] := List.getElem?_eq_getElem hja
  have eij : i = j := (List.getElem?_inj (List.getElem?_eq_some_iff.mp e1).1 nd).mp (e1.trans hj.symm)
  subst eij
  rw [hky] at e2
  cases e2
  rw [e3] at hH
  exact ⟨as[i], o, hj, hH, e4⟩
end

/-! ### judgements -/
def tC (c : DC) (X : Cx) (Γ : SEnv) (m : R (List D)) : TE := fun σ H Q => ∃ O, EnvOk c O Γ σ H ∧ RE m (fun ds => ∀ v H1, Same H H1 → (∀ Qc : List V → Hp → Prop, (∀ ys H2, Same H1 H2 → RpL c.K c.mg H2 ds ys → Qc ys H2) → ColAt X H1 v Qc) → Q v H1) (fun e => c.E e Γ)
def JC (c : DC) (X : Cx) (Γ : SEnv) (e : Expr) (m : R (List D)) : Prop := PE X e (tC c X Γ m)
def dColl : D → R (List D)
  | .lst ds => .ok ds
  | .tup ds => .ok ds
  | .dct kvs => .ok (keysD kvs)
  | .dctT kvs => .ok (keysD kvs)
  | _ => .bad
def dCollV : D → R (List D)
  | .dct kvs => .ok (valsD kvs)
  | _ => .bad
def dCollI : D → R (List D)
  | .dct kvs => .ok (itemsD kvs)
  | _ => .bad
section
variable {c : DC} {X : Cx} {Γ : SEnv} {e : Expr} {es : List Expr} {m : R D} {mc : R (List D)} {ms : R (List D)} {pos p apos cpos : Pos} {x : Str} {td : TE}
theorem jc_v (S : Cok c X) (ha : JV c X Γ e m) : JC c X Γ e (m.bind dColl) := by
  refine pe_imp ha fun σ H Q ⟨O, ok, q⟩ => ⟨O, ok, q.bind.imp fun d k v H1 s1 r1 => ?_⟩
  unfold dColl at k
  split at k
  · obtain ⟨a, vs, rfl, t, w⟩ := r1
    exact k _ H1 s1 fun Qc hq => col_src (.inl (.inl t)) (hq _ _ (Same.refl _) w)
  · obtain ⟨a, vs, rfl, t, w⟩ := r1.tup
    exact k _ H1 s1 fun Qc hq => col_src (.inr (.inl (by rw [S.K]; exact t))) (hq _ _ (Same.refl _) w)
  · obtain ⟨a, es, rfl, t, w⟩ := r1
    exact k _ H1 s1 fun Qc hq => col_src (.inr (.inr (.inl ⟨es, t, rfl⟩))) (hq _ _ (Same.refl _) w.keys)
  · obtain ⟨a, es, rfl, t, w⟩ := r1
    exact k _ H1 s1 fun Qc hq => col_src (.inr (.inr (.inr ⟨_, es, t, rfl⟩))) (hq _ _ (Same.refl _) w.keys)
  · exact k.elim
theorem pe_dvals (he : PE X e td) (hbase : attributeBase e "values" X.env (eval e X.env) = eval e X.env) (hline : (apos.endLine == cpos.line) = true) :
    PE X (.Call (.Attribute e "values" apos) [] [] cpos) (fun σ H Q => td σ H fun x H1 => ∃ d kvs, x = .ref d ∧ Rd H1 d (.dK kvs) ∧ ∀ p, H1 p = none → Q (.ref p) (upd H1 p (valsO p d))) := by
  refine ⟨fun pins s σ H Q I h => ?_⟩
  refine wpAny_Call_method (T := "dict") (id := "dict.values") hbase rfl hline F.plainAttrs_dict F.slot_dict_values F.type_dict_values (thn (he.run pins s σ H _ I h) fun u s1 ⟨x, H1, I1, rx, d, kvs, ex, hd, q⟩ => ?_)
  subst ex
  obtain rfl : u = Value.ref d := rx
  obtain ⟨z, hs, vs, rel, dd⟩ := dk_rd I1.hok hd
  refine ⟨dd.typeIs, dd.mapOf.noDict, ?_⟩
  have hf : H1 s1.heap.objs.size = none := I1.hok.fresh (Nat.le_refl _)
  have fin : EP X pins σ Q (.ref s1.heap.objs.size) { s1 with heap := s1.heap.push { cls := .type "dict_values", data := .fields #[.ref d] } } :=
    ⟨.ref s1.heap.objs.size, upd H1 s1.heap.objs.size (valsO s1.heap.objs.size d), I1.laid (t' := s1.toks) (fun b u e => Heap.get?_push_of_some _ e) (Nat.le_refl _) (valsO_ok (Heap.get?_push_size _ rfl)), rfl, q _ hf⟩
  show wpAny _ _ (callWith cpos (.builtin "dict.values") [.ref d] [] []) _ X.xe s1
  exact method_meetsIn F.slot_dict_values F.entry_dict_values rfl (PySem.evalArgs_none ⟨rfl, dd.typeIs, F.args_dict_values_1 _, _, meets_dict_values (mixKind X.prog X.w) d hs, ⟨vs, dd⟩, fin⟩)
theorem pe_ditems (he : PE X e td) (hbase : attributeBase e "items" X.env (eval e X.env) = eval e X.env) (hline : (apos.endLine == cpos.line) = true) :
    PE X (.Call (.Attribute e "items" apos) [] [] cpos) (fun σ H Q => td σ H fun x H1 => ∃ d kvs, x = .ref d ∧ Rd H1 d (.dK kvs) ∧ ∀ p, H1 p = none → Q (.ref p) (upd H1 p (DX.itemsO p d))) := by
  refine ⟨fun pins s σ H Q I h => ?_⟩
  refine wpAny_Call_method (T := "dict") (id := "dict.items") hbase rfl hline F.plainAttrs_dict F.slot_dict_items F.type_dict_items (thn (he.run pins s σ H _ I h) fun u s1 ⟨x, H1, I1, rx, d, kvs, ex, hd, q⟩ => ?_)
  subst ex
  obtain rfl : u = Value.ref d := rx
  obtain ⟨z, hs, vs, rel, dd⟩ := dk_rd I1.hok hd
  refine ⟨dd.typeIs, dd.mapOf.noDict, ?_⟩
  have hf : H1 s1.heap.objs.size = none := I1.hok.fresh (Nat.le_refl _)
  have fin : EP X pins σ Q (.ref s1.heap.objs.size) { s1 with heap := s1.heap.push { cls := .type "dict_items", data := .fields #[.ref d] } } :=
    ⟨.ref s1.heap.objs.size, upd H1 s1.heap.objs.size (DX.itemsO s1.heap.objs.size d), I1.laid (t' := s1.toks) (fun b u e => Heap.get?_push_of_some _ e) (Nat.le_refl _) (DX.itemsO_ok (Heap.get?_push_size _ rfl)), rfl, q _ hf⟩
  show wpAny _ _ (callWith cpos (.builtin "dict.items") [.ref d] [] []) _ X.xe s1
  exact method_meetsIn F.slot_dict_items F.entry_dict_items rfl (PySem.evalArgs_none ⟨rfl, dd.typeIs, F.args_dict_items_1 _, _, meets_dict_items (mixKind X.prog X.w) d hs, ⟨vs, dd⟩, fin⟩)
theorem jc_vals (ha : JV c X Γ e m) (hbase : attributeBase e "values" X.env (eval e X.env) = eval e X.env := by rfl) (hline : (apos.endLine == cpos.line) = true := by rfl) : JC c X Γ (.Call (.Attribute e "values" apos) [] [] cpos) (m.bind dCollV) := by
  refine pe_imp (pe_dvals ha hbase hline) fun σ H Q ⟨O, ok, q⟩ => ⟨O, ok, q.bind.imp fun d k v H1 s1 r1 => ?_⟩
  unfold dCollV at k
  split at k
  · obtain ⟨a, es, rfl, t, w⟩ := r1
    exact ⟨a, es, rfl, t, fun p n => k _ _ (s1.trans (same_new n)) fun Qc hq => col_vals upd_same (Rd.same (same_new n) t) (hq _ _ (Same.refl _) (w.vals.same (same_new n)))⟩
  · exact k.elim
theorem RpL.of_at {K : PySem.W.Frag} {mg : MG} {H : Hp} : ∀ {ds : List D} {vs : List V}, ds.length = vs.length → (∀ (j : Nat) d, ds[j]? = some d → ∃ v, vs[j]? = some v ∧ Rp K mg H d v) → RpL K mg H ds vs
  | [], [], _, _ => RpL.nil.mpr rfl
  | d :: ds, [], h, _ => by simp at h
  | [], v :: vs, h, _ => by simp at h
  | d :: ds, v :: vs, h, f => by
    obtain ⟨v', e, r⟩ := f 0 d rfl
    cases (show some v = some v' from e)
    exact RpL.cons.mpr ⟨v, vs, rfl, r, RpL.of_at (by simpa using h) fun j d' e' => f (j + 1) d' e'⟩
theorem RpK.at {K : PySem.W.Frag} {mg : MG} {H : Hp} : ∀ {kvs : List (D × D)} {es : List (Key × V)} {j : Nat} {kd vd : D}, RpK K mg H kvs es → kvs[j]? = some (kd, vd) → ∃ κ v, es[j]? = some (κ, v) ∧ IsKey kd κ ∧ Rp K mg H vd v
  | [], _, _, _, _, _, e => by simp at e
  | (k, d) :: r, es, 0, kd, vd, h, e => by
    rw [RpK] at h
    obtain ⟨κ, v, s, e1, h1, h2, _⟩ := h
    cases (show some (k, d) = some (kd, vd) from e)
    exact ⟨κ, v, by rw [e1]; rfl, h1, h2⟩
  | (k, d) :: r, es, j + 1, kd, vd, h, e => by
    rw [RpK] at h
    obtain ⟨κ, v, s, e1, h1, h2, h3⟩ := h
    obtain ⟨κ', v', a, b, c⟩ := RpK.at (j := j) h3 (by simpa using e)
    exact ⟨κ', v', by rw [e1]; exact a, b, c⟩
theorem RpK.length {K : PySem.W.Frag} {mg : MG} {H : Hp} {kvs : List (D × D)} {es : List (Key × V)} (h : RpK K mg H kvs es) : es.length = kvs.length := by
  have := h.vals.length
  unfold valsD at this
  simpa using this
theorem rp_kV {K : PySem.W.Frag} {mg : MG} {H : Hp} {kd : D} {κ : Key} (h : IsKey kd κ) : Rp K mg H kd (kV κ) := by
  cases kd with
  | int i => have h : κ = .inl i := h; subst h; exact Rp.int
  | str x => obtain ⟨h, h2⟩ := (show κ = .inr x ∧ strOk x = true from h); subst h; exact Rp.str h2
  | _ => exact h.elim
theorem jc_items (ha : JV c X Γ e m) (hbase : attributeBase e "items" X.env (eval e X.env) = eval e X.env := by rfl) (hline : (apos.endLine == cpos.line) = true := by rfl) : JC c X Γ (.Call (.Attribute e "items" apos) [] [] cpos) (m.bind dCollI) := by
  refine pe_imp (pe_ditems ha hbase hline) fun σ H Q ⟨O, ok, q⟩ => ⟨O, ok, q.bind.imp fun d k v H1 s1 r1 => ?_⟩
  unfold dCollI at k
  split at k
  · obtain ⟨a, es, rfl, t, w⟩ := r1
    refine ⟨a, es, rfl, t, fun p n => k _ _ (s1.trans (same_new n)) fun Qc hq => col_items upd_same (Rd.same (same_new n) t) fun as H2 sm hl hp => hq _ _ sm (RpL.of_at ?_ fun j d e => ?_)⟩
    · unfold itemsD
      rw [List.length_map, List.length_map, hl, w.length]
    · unfold itemsD at e
      rw [List.getElem?_map] at e
      obtain ⟨⟨kd, vd⟩, e1, rfl⟩ := Option.map_eq_some_iff.mp e
      obtain ⟨κ, v, e2, hk, hv⟩ := w.at e1
      obtain ⟨b, o, e3, e4, e5⟩ := hp j κ v e2
      refine ⟨.ref b, by rw [List.getElem?_map, e3]; rfl, ?_⟩
      rw [Rp]
      refine ⟨b, [kV κ, v], rfl, .inl ⟨o, e4, e5⟩, RpL.cons.mpr ⟨_, _, rfl, rp_kV hk, RpL.cons.mpr ⟨_, _, rfl, (hv.same (same_new n)).same sm, RpL.nil.mpr rfl⟩⟩⟩
  · exact k.elim
/-! ### sorted -/
def rSortC (X : Cx) (mg : MG) : List V → Hp → VK → Prop := fun vs H Q => ∃ v ds, vs = [v] ∧ sortOk ds = true ∧ ColAt X H v fun ys H' => ∃ bs : List (V × D), ys = bs.map (·.1) ∧ ds = bs.map (·.2) ∧ (∀ b ∈ bs, Rp X.K mg H' b.2 b.1) ∧
  ∀ p, H' p = none → Q (.ref p) (upd H' p (.lst ((bs.mergeSort (dataLe false fun b => b.2.py)).map (·.1))))
theorem call_sortC {mg : MG} (S : Cok c X) : CallR X (.builtin "sorted") (rSortC X mg) := by
  intro pins s σ H0 vs us Q I0 r q
  obtain ⟨v, ds, ex, hok, hcol⟩ := q
  subst ex
  obtain ⟨u, eu, rx⟩ := vals1 r
  subst eu
  have hu := S.un
  unfold sortOk at hok
  rw [Bool.and_eq_true, Bool.and_eq_true] at hok
  obtain ⟨⟨hpl, hal⟩, hsk⟩ := hok
  refine Calls.call_function_entry PyProof.Rows.kind_sorted PyProof.Rows.plain_sorted PyProof.Rows.entry_sorted (PyProof.Rows.args_sorted1 _) ?_
  unfold Builtin.«sorted»
  refine wpAny_bind (m := checkCount "sorted" 1 1 _) (wpAny_pure ?_)
  refine wpAny_bind ((hcol pins σ s u I0 rx).2 _ _ _ (I0.ok.hd S.calm) fun its h' tk ys H I1 rv hz ⟨bs, eys, eds, hrp, q⟩ => ?_)
  subst eys eds
  have hil : its.length ≤ sizeLine := by rw [← rv.length]; exact hz
  refine wpAny_bind (wpAny_newList ?_ hil)
  have hoL : (h'.push (seqObj "list" its.toArray 0)).get? h'.objs.size = some (seqObj "list" its.toArray 0) := Heap.get?_push_size _ rfl
  show wpAny _ _ _ _ _ { s with heap := h'.push (seqObj "list" its.toArray 0), toks := tk }
  have I2 : Inv X pins σ H { s with heap := sortingHeap (h'.push (seqObj "list" its.toArray 0)) h'.objs.size its, toks := tk } :=
    I1.kept (h' := sortingHeap (h'.push (seqObj "list" its.toArray 0)) h'.objs.size its) (t' := tk) fun b o e => PySem.W.sortingHeap_old (Nat.ne_of_lt (Heap.lt_size e)) (Heap.get?_push_of_some _ e)
  have each : EachIs (fun v d => ∃ as, Reads (sortingHeap (h'.push (seqObj "list" its.toArray 0)) h'.objs.size its) v d as) its ((bs.map (·.2)).map D.py) := by
    have g : ∀ (bs : List (V × D)) (us : List Value), (∀ b ∈ bs, Rp X.K mg H b.2 b.1) → D.plL (bs.map (·.2)) 59 = true → Vals (bs.map (·.1)) us →
        EachIs (fun v d => ∃ as, Reads (sortingHeap (h'.push (seqObj "list" its.toArray 0)) h'.objs.size its) v d as) us ((bs.map (·.2)).map D.py) := by
      intro bs
      induction bs with
      | nil => intro us _ _ r; cases r; exact .nil
      | cons b bs ih =>
        intro us hb hp r
        rw [List.map_cons] at r
        cases r with
        | cons r t =>
          rw [List.map_cons, D.plL, Bool.and_eq_true] at hp
          exact .cons (Dp.reads I2 b.2.py b.1 _ (Rp.dp b.2 59 b.1 hp.1 (hb b List.mem_cons_self)) r) (ih _ (fun b' h => hb b' (List.mem_cons_of_mem _ h)) hp.2 t)
    exact g bs its hrp hpl rv
  have halike : AllAlike ((bs.map (·.2)).map D.py) := fun d hd d' hd' => by
    obtain ⟨x, hx, rfl⟩ := List.mem_map.mp hd
    obtain ⟨y, hy, rfl⟩ := List.mem_map.mp hd'
    exact List.all_eq_true.mp (List.all_eq_true.mp hal x hx) y hy
  have hsort : Sortable ((bs.map (·.2)).map D.py) := sortable_of hsk 59 hpl
  have hdep : ∀ d, d ∈ (bs.map (·.2)).map D.py → d.depth ≤ 60 := fun d hd => by
    obtain ⟨x, hx, rfl⟩ := List.mem_map.mp hd
    obtain ⟨b, hb, rfl⟩ := List.mem_map.mp hx
    have := (Rp.lay b.2 59 b.1 (plL_mem hpl _ hx) (hrp b hb)).2
    omega
  have SA := SortsAt.data (prog := X.prog) (w := X.w) (A := X.A.in1.in1) (s := { s with heap := sortingHeap (h'.push (seqObj "list" its.toArray 0)) h'.objs.size its, toks := tk }) each halike hsort (fun d hd => by
    have := hdep d hd
    show X.A.units + 1 + 1 + d.depth < cLine
    omega)
  obtain ⟨out, eo⟩ : ∃ out, out = sortVals (dataKind (sortingHeap (h'.push (seqObj "list" its.toArray 0)) h'.objs.size its) ((bs.map (·.2)).map D.py)) false its its := ⟨_, rfl⟩
  refine wpAny_bind (wpAny_holding (wpAny_call_entry PyProof.Rows.slot_list_sort ⟨_, hoL, rfl⟩ PyProof.Rows.entry_list_sort
    (PySem.W.list_sort_vals (s := { s with heap := h'.push (seqObj "list" its.toArray 0), toks := tk }) hoL SA hil ⟨_, rfl, ?_⟩) (PyProof.Rows.args_list_sort _)))
  rw [← eo]
  obtain ⟨e', he'⟩ := PyProof.Rows.sortedHeap_at (vs := its) (out := out.toArray) hoL
  have ko : KeyedOut false ((bs.map (·.2)).map D.py) its out := ⟨_, its, halike, eo, each⟩
  rw [show (bs.map (·.2)).map D.py = bs.map fun b => b.2.py by rw [List.map_map]; rfl] at ko
  have hout := PySem.W.keyedOut_each (R := fun u (b : V × D) => RelV b.1 u) (bs := bs) (fun b => b.2.py) (rev := false) ko (vals_each rv)
  have hlen : ((bs.mergeSort (dataLe false fun b => b.2.py)).map (·.1)).length ≤ sizeLine := by
    rw [List.length_map, List.length_mergeSort]
    rw [List.length_map] at hz
    exact hz
  refine wpAny_pure ⟨_, rfl, .ref h'.objs.size, upd H h'.objs.size (.lst _), I1.laid (h' := PyProof.Rows.sortedHeap (h'.push (seqObj "list" its.toArray 0)) h'.objs.size its out.toArray) (t' := tk) (fun b u e => ?_) (Nat.le_refl _)
    (show ObjOk X.prog X.w _ _ _ (.lst _) from ⟨hlen, _, e', each_vals hout, he'⟩), rfl, q _ (I1.hok.fresh (Nat.le_refl _))⟩
  have hb : b < h'.objs.size := Heap.lt_size e
  rw [PyProof.Rows.sortedHeap_old (Nat.ne_of_lt hb) (by rw [size_push']; exact Nat.lt_succ_of_lt hb)]
  exact Heap.get?_push_of_some _ e
theorem jo_sortedC (S : Cok c X) (ha : JC c X Γ e mc) (hg : Gl X x := by rfl) (hm : X.mg x = none) (hv : bootBuiltins x = some (.builtin "sorted")) (hn : x ≠ "__name__" := by decide) (hdb : (x == ("__debug__" : Str)) = false := by decide)
    (he : starEach [e] X.env = (false, eval e X.env) :: starEach [] X.env := by rfl) (hpl : (backTo pos (starEach [] X.env)).any (·.1) = false := by rfl) : JO c X Γ (.Call (.Name x p) [e] [] pos) (mc.bind dSortL) := by
  refine pe_imp (pe_callB (call_sortC (mg := c.mg) S) hg hm hv (pa_cons ha pa_nil he) hn hdb he hpl) fun σ H Q ⟨O, ok, q⟩ => ⟨O, ok, q.bind.imp fun ds k v H1 s1 hc => ?_⟩
  unfold dSortL at k
  split at k
  · rename_i hs
    refine ⟨v, ds, rfl, hs, hc _ fun ys H2 s2 w => ?_⟩
    obtain ⟨bs, e1, e2, e3⟩ := w.zip
    subst e1 e2
    refine ⟨bs, rfl, rfl, by rw [S.K]; exact e3, fun p n => k p _ ((s1.trans s2).trans (same_new n)) ((s1.trans s2).free n) (own_new n ?_)⟩
    rw [← sort_zip]
    exact RpL.unzip fun b hb => e3 b (dataLe_mem hb)
  · exact k.elim
/-! ### stars -/
def JAS (c : DC) (X : Cx) (Γ : SEnv) (es : List Expr) (m : R (List D)) : Prop := PA X es (tA c Γ m)
theorem jas_nil : JAS c X Γ [] (.ok []) := ja_nil.pa
theorem jas_cons (ha : JE c X Γ e m) (hr : JAS c X Γ es ms) (hs : starEach (e :: es) X.env = (false, eval e X.env) :: starEach es X.env := by rfl) : JAS c X Γ (e :: es) (m.bind fun d => ms.bind fun ds => .ok (d :: ds)) :=
  pa_imp (pa_cons ha hr hs) fun σ H Q ⟨O, ok, q⟩ => ⟨O, ok, q.bind.imp fun d k v H1 s1 r1 => ⟨O, ok.same s1, k.bind.imp fun ds k2 vs H2 s2 r2 => k2 (v :: vs) H2 (s1.trans s2) (RpL.cons.mpr ⟨v, vs, rfl, r1.same s2, r2⟩)⟩⟩
theorem pa_starC {te : TE} {t : TA} (S : Cok c X) (he : PE X e te) (hr : PA X es t) (hs : starEach (.Starred e p :: es) X.env = (true, eval e X.env) :: starEach es X.env) :
    PA X (.Starred e p :: es) (fun σ H Q => te σ H fun x H1 => ColAt X H1 x fun xs H2 => t σ H2 fun ys H3 => Q (xs ++ ys) H3) := by
  refine ⟨fun pos pins s σ H Q I h => ?_⟩
  refine PySem.W.items_star (thn (he.run pins s σ H _ I h) fun v s1 ⟨y, H1, I1, ry, hc⟩ => ?_) hs
  obtain ⟨c1, c2⟩ := hc pins σ s1 v I1 ry
  unfold PySem.W.StarOf
  refine c1 _ _ _ ⟨rfl, c2 _ _ _ (I1.ok.hd S.calm) fun its h' tk ys H' I2 rv hz q => ?_⟩
  exact thn (hr.run pos pins _ σ H' _ I2 q) fun ws s3 ⟨vs, H3, I3, r3, q3⟩ => ⟨ys ++ vs, H3, I3, rv.append r3, q3⟩
theorem jas_star (S : Cok c X) (ha : JC c X Γ e mc) (hr : JAS c X Γ es ms) (hs : starEach (.Starred e p :: es) X.env = (true, eval e X.env) :: starEach es X.env := by rfl) : JAS c X Γ (.Starred e p :: es) (mc.bind fun xs => ms.bind fun ds => .ok (xs ++ ds)) :=
  pa_imp (pa_starC S ha hr hs) fun σ H Q ⟨O, ok, q⟩ => ⟨O, ok, q.bind.imp fun xs k v H1 s1 hc => hc _ fun ys H2 s2 w => ⟨O, ok.same (s1.trans s2), k.bind.imp fun ds k2 vs H3 s3 r3 => k2 (ys ++ vs) H3 ((s1.trans s2).trans s3) ((w.same s3).append r3)⟩⟩
def szOk (ds : List D) : R (List D) := if ds.length ≤ sizeLine then .ok ds else .bad
theorem jo_lstS (h : JAS c X Γ es ms) : JO c X Γ (.List es pos) ((ms.bind szOk).bind fun ds => .ok (.lst ds)) := by
  refine pe_imp (pe_lst h) fun σ H Q ⟨O, ok, q⟩ => ⟨O, ok, q.bind.bind.imp fun ds k vs H' s r => ?_⟩
  unfold szOk at k
  split at k
  · refine ⟨by rw [r.length]; assumption, fun p n => k p _ (s.trans (same_new n)) (s.free n) (own_new n r)⟩
  · exact k.elim
theorem je_tupS {k} (h : JAS c X Γ es ms) : JE c X Γ (.Tuple es k pos) ((ms.bind szOk).bind fun ds => .ok (.tup ds)) := by
  refine pe_imp (pe_tupF h) fun σ H Q ⟨O, ok, q⟩ => ⟨O, ok, q.bind.bind.imp fun ds k vs H' s r => ?_⟩
  unfold szOk at k
  split at k
  · refine ⟨by rw [r.length]; assumption, fun p o n dn => k _ _ (s.trans (same_new n)) ?_⟩
    exact Rp.newTup n dn r
  · exact k.elim
end
end PD
end

section
/-! PD27: comprehensions with two clauses; what is never come to; locks for a while; more statements. -/
namespace PD
open PySem PySem.Spec L2
open PyProof.Rows hiding St
open PySem.PyData (strOk)

theorem fnD_of2 {P : Program} {w : World} {K : PySem.W.Frag} {mg : Str → Option Value} {base : Heap} {k : Nat} {x y qual : Str} {params : Arguments} {body : List Stmt} {scope : Scope} {kws : List (Str × V)} {f : Addr} {fd : FuncData} {N ps : List Str} {n : Nat} {F : List D → R D} (m : List D → R (Fl Unit Empty))
    (Fd : FunD K x qual params body scope [] kws f fd) (S : FnScope N ps scope) (hm : mg y = some (.ref f)) (hb : Binds K fd ps []) (hn : ps.length = n) (hnN : n ≤ N.length) (hF : ∀ ds, ds.length = n → F ds = done (m ds))
    (hbody : ∀ (cdv : Value) (A : Around) (outer : List Env) (s : Shared) (H : Hp) (E : XK), Room k (A.deeper (envOfC qual scope s.heap.objs.size f cdv)) → A.guards = some [] → ∀ ds, ds.length = n →
      JN (dc0 K ⟨mg, w⟩ H E) (cxOf (L2.CX P w) P w K mg base N qual scope f cdv A outer s H E) unEn noEn (env0 ds (N.length - n)) body (m ds)) : FnD P w K mg base (k + 1) y n F :=
  ⟨f, fd, ps, hm, Fd.kp, hb, hn, fnGD_of m Fd S hn hnN hF hbody⟩

/-! ### two clauses -/
def compR2 (f : D → R (List D)) : List D → R (List D)
  | [] => .ok []
  | d :: r => (nox (f d)).bind fun l => (compR2 f r).bind fun m => .ok (l ++ m)
theorem compR2_ne (f : D → R (List D)) : ∀ ds e, compR2 f ds ≠ .exc e
  | [], e, h => by cases h
  | d :: r, e, h => by
    rw [compR2] at h
    rcases R.bind_eq_exc h with h | ⟨l, _, h⟩
    · cases hf : f d <;> rw [hf] at h <;> cases h
    · rcases R.bind_eq_exc h with h | ⟨m, _, h⟩
      · exact compR2_ne f r e h
      · cases h
theorem walk_W {J : It} {n : Nat} {G : Hp → Prop} {Y : Nat → Hp → V → Hp → Prop} (w : Walk J n G Y) {H0 : Hp} {Qd : Hp → Prop} (P : Nat → Hp → Prop) (h0 : P 0 H0) (hG : ∀ i H, i ≤ n → P i H → G H) (body : V → Hp → (Hp → Prop) → Prop)
    (hs : ∀ i x H H', i < n → P i H → Y i H x H' → body x H' (P (i + 1))) (hd : ∀ H, P n H → Qd H) :
    ∃ W : Nat → Nat → Hp → Prop, (∃ m, W 0 m H0) ∧ ∀ i m H, W i m H →
      (J.stop i H ∧ Qd H) ∨ (J.go i H ∧ ∃ Nx : Hp → Prop, (∀ H', Nx H' → ∃ m', m' < m ∧ W (i + 1) m' H') ∧ ∀ x H', J.yld i H x H' → body x H' Nx) := by
  refine ⟨fun i m H => m = n - i ∧ i ≤ n ∧ P i H, ⟨n, by simp, Nat.zero_le _, h0⟩, ?_⟩
  rintro i m H ⟨rfl, hi, p⟩
  have q := hG i H hi p
  by_cases hlt : i < n
  · exact .inr ⟨w.goes i H hlt q, P (i + 1), fun H' p' => ⟨n - (i + 1), by omega, rfl, hlt, p'⟩, fun x H' y => hs i x H H' hlt p (w.yields i H x H' hlt q y)⟩
  · have e : i = n := by omega
    subst e
    exact .inl ⟨w.stops H q, hd H p⟩
section
variable {c : DC} {X : Cx} {Γ : SEnv} {loose loose1 : Bool} {α β : Type} {tg iter tg1 iter1 elt : Expr} {ifs ifs1 : List Expr} {scope : Scope} {own : List (Str × Nat)} {pos : Pos} {is is1 : List Nat} {g g1 : TG} {un : D → R α} {un1 : D → R β} {up : α → SEnv → SEnv} {up1 : β → SEnv → SEnv}
  {mi : R (List D)} {mi1 : α → R (List D)} {mt : α → R Bool} {mt1 : α → β → R Bool} {me : α → β → R D}
theorem drop_cons {α : Type} {ds : List α} {i : Nat} {d : α} (hd : ds[i]? = some d) : ds.drop i = d :: ds.drop (i + 1) := by
  obtain ⟨hl, e⟩ := List.getElem?_eq_some_iff.mp hd
  rw [List.drop_eq_getElem_cons hl, e]
def SEnv.flat (Γ : SEnv) : Bool := Γ.all fun s => match s with
  | .un => true
  | .fz _ => true
  | _ => false
theorem flat_get {Γ : SEnv} (h : Γ.flat = true) {j : Nat} {s : Slot} (e : Γ[j]? = some s) : s = .un ∨ ∃ d, s = .fz d := by
  have := List.all_eq_true.mp h s (List.mem_of_getElem? e)
  cases s with
  | un => exact .inl rfl
  | fz d => exact .inr ⟨d, rfl⟩
  | _ => cases this
theorem EnvOk.flat {O : Addr → Prop} {σ : St} {H H' : Hp} (h : EnvOk c.inn O Γ σ H) (f : Γ.flat = true) (z : Fz H H') : EnvOk c.inn (fun _ => False) Γ σ H' := by
  refine ⟨fun b o q => (nomatch (show (none : Option HO) = some o from q.elim id id)), fun b z => z.elim, fun i s q => ?_, h.ln, fun i j t d u e p q1 => ?_⟩
  · rcases flat_get f q with rfl | ⟨d, rfl⟩
    · trivial
    · obtain ⟨v, e, r⟩ := h.sl i _ q; exact ⟨v, e, r.stay z⟩
  · rcases flat_get f q1 with z | ⟨d, z⟩ <;> cases z
theorem EnvOk.only {O : Addr → Prop} {σ : St} {H : Hp} (h : EnvOk c O Γ σ H) : EnvOk c.inn (fun _ => False) Γ.only σ H := by
  have key : ∀ (i : Nat) s, Γ.only[i]? = some s → s = .un ∨ ∃ d, s = .fz d ∧ Γ[i]? = some (.fz d) := fun i s q => by
    unfold SEnv.only at q
    rw [List.getElem?_map] at q
    obtain ⟨s', q1, q2⟩ := Option.map_eq_some_iff.mp q
    cases s' with
    | fz d => exact .inr ⟨d, q2.symm, q1⟩
    | _ => exact .inl q2.symm
  refine ⟨fun b o q => (nomatch (show (none : Option HO) = some o from q.elim id id)), fun b z => z.elim, fun i s q => ?_, (by unfold SEnv.only; rw [List.length_map]; exact h.ln), fun i j t d u e p q1 => ?_⟩
  · rcases key i s q with rfl | ⟨d, rfl, q'⟩
    · trivial
    · exact h.sl i _ q'
  · rcases key i _ q1 with z | ⟨d, z, _⟩ <;> cases z
theorem tlc2_of {vs vs1 : List Nat} (sg : SG c.inn loose is g un up) (sg1 : SG c.inn loose1 is1 g1 un1 up1) (his : ∀ i ∈ is, i ∈ vs) (his1 : ∀ i ∈ is1, i ∈ vs1) (hfl : ∀ a, SEnv.flat (up a (SEnv.wipe Γ.only vs)) = true) : ∀ σ H Q,
    tO c Γ (mi.bind fun ds => ((compR2 (fun d => (un d).bind fun a => (mt a).bind fun t => if t = true then (mi1 a).bind fun ds1 => compR (fun d1 => (un1 d1).bind fun b => (mt1 a b).bind fun t => if t = true then (me a b).bind fun x => .ok (some x) else .ok none) ds1 else .ok []) ds).bind szOk).bind fun l => .ok (.lst l)) σ H Q →
    tLc2 (tI c Γ loose Same mi) g (fun σ H Q => ∃ a, tT c.inn (up a (SEnv.wipe Γ.only vs)) (mt a) σ H Q) (fun σ H R => ∃ a, tI c.inn (up a (SEnv.wipe Γ.only vs)) loose1 Fz (mi1 a) σ H R) g1
      (fun σ H Q => ∃ a b, tT c.inn (up1 b (SEnv.wipe (up a (SEnv.wipe Γ.only vs)) vs1)) (mt1 a b) σ H Q) (fun σ H Q => ∃ a b, tR c.inn (up1 b (SEnv.wipe (up a (SEnv.wipe Γ.only vs)) vs1)) (me a b) σ H Q) vs vs1 σ H Q := by
  refine fun σ H Q ⟨O, okE, q⟩ => ⟨O, okE, q.bind.imp fun ds k J H1 s1 w => ?_⟩
  intro D nD
  refine walk_W (w.walk) (fun i H' => Same H1 H' ∧ ∃ acc out, H' D = some (.lst acc) ∧ RpL c.K c.mg H' out acc ∧ ∃ rest, compR2 (fun d => (un d).bind fun a => (mt a).bind fun t => if t = true then (mi1 a).bind fun ds1 => compR (fun d1 => (un1 d1).bind fun b => (mt1 a b).bind fun t => if t = true then (me a b).bind fun x => .ok (some x) else .ok none) ds1 else .ok []) (ds.drop i) = .ok rest ∧
    (out ++ rest).length ≤ sizeLine ∧ ∀ p H'', Same H H'' → H p = none → Own c.K c.mg H'' p (.lst (out ++ rest)) → Q (.ref p) H'') ?_ (fun i H' _ h => h.1) _ ?_ ?_
  · refine ⟨same_new nD, [], [], upd_same, RpL.nil.mpr rfl, ?_⟩
    have k := k.bind.bind
    rw [List.drop_zero]
    cases hcc : compR2 (fun d => (un d).bind fun a => (mt a).bind fun t => if t = true then (mi1 a).bind fun ds1 => compR (fun d1 => (un1 d1).bind fun b => (mt1 a b).bind fun t => if t = true then (me a b).bind fun x => .ok (some x) else .ok none) ds1 else .ok []) ds with
    | exc e => exact absurd hcc (compR2_ne _ _ _)
    | bad => rw [hcc] at k; exact k.elim
    | ok rest =>
      rw [hcc] at k
      have k : RE (szOk rest) _ _ := k
      unfold szOk at k
      split at k
      · rename_i hz
        exact ⟨rest, rfl, hz, k⟩
      · exact k.elim
  · rintro i x H2 H3 hi2 ⟨sm, acc, out, hD, hr, rest, hcc, hz, kq⟩ y
    obtain ⟨d, hd, s2, yd⟩ := w.yields i H2 x H3 hi2 sm y
    rw [drop_cons hd, compR2] at hcc
    obtain ⟨l, hf, hcc⟩ := R.bind_eq_ok hcc
    obtain ⟨m, hm, hcc⟩ := R.bind_eq_ok hcc
    cases hcc
    have hf : (un d).bind (fun a => (mt a).bind fun t => if t = true then (mi1 a).bind fun ds1 => compR (fun d1 => (un1 d1).bind fun b => (mt1 a b).bind fun t => if t = true then (me a b).bind fun x => .ok (some x) else .ok none) ds1 else .ok []) = .ok l := by
      generalize (un d).bind _ = z at hf
      cases z <;> first | exact hf | cases hf
    obtain ⟨a, hu, hf⟩ := R.bind_eq_ok hf
    obtain ⟨t, htv, hf⟩ := R.bind_eq_ok hf
    have sm3 : Same H1 H3 := sm.trans s2
    have ok3 : EnvOk c.inn (fun _ => False) (SEnv.wipe Γ.only vs) (L2.wipe σ vs) H3 := ((okE.same s1).same sm3).only.wiped _
    refine sg.1 ok3 yd hu fun σ' chg ok' => ⟨(chg _ his).trans (wipe_idem _ _), a, fun _ => False, ok', ?_⟩
    rw [htv]
    intro H4 s4
    have hD4 : H4 D = some (.lst acc) := s4 _ _ (s2 _ _ hD)
    have hr4 : RpL c.K c.mg H4 out acc := (hr.same s2).same s4
    have smD4 : Same H1 H4 := sm3.trans s4
    cases t with
    | false =>
      rw [if_neg (by simp)] at hf ⊢
      cases hf
      exact ⟨smD4, acc, out, hD4, hr4, m, hm, by simpa using hz, by simpa using kq⟩
    | true =>
      rw [if_pos rfl] at hf ⊢
      obtain ⟨ds1, hm1, hf⟩ := R.bind_eq_ok hf
      refine ⟨a, fun _ => False, ok'.same s4, ?_⟩
      rw [hm1]
      intro J1 H5 s5 w1
      have ok5 : EnvOk c.inn (fun _ => False) (up a (SEnv.wipe Γ.only vs)) σ' H5 := (ok'.same s4).same s5
      refine walk_W (w1.walk) (fun j H' => (Fz H5 H' ∧ Same H1 H') ∧ ∃ acc out' l', H' D = some (.lst acc) ∧ RpL c.K c.mg H' out' acc ∧ compR (fun d1 => (un1 d1).bind fun b => (mt1 a b).bind fun t => if t = true then (me a b).bind fun x => .ok (some x) else .ok none) (ds1.drop j) = .ok l' ∧ out' ++ l' = out ++ l) ?_ (fun j H' _ h => h.1.1) _ ?_ ?_
      · exact ⟨⟨Fz.refl, smD4.trans s5⟩, acc, out, l, s5 _ _ hD4, hr4.same s5, by rw [List.drop_zero]; exact hf, rfl⟩
      · rintro j x1 H6 H7 hj2 ⟨⟨fz6, sm6⟩, acc6, out6, l6, hD6, hr6, hc6, he6⟩ y1
        obtain ⟨d1, hd1, s7, yd1⟩ := w1.yields j H6 x1 H7 hj2 fz6 y1
        rw [drop_cons hd1, compR] at hc6
        obtain ⟨o, ho, hc6⟩ := R.bind_eq_ok hc6
        obtain ⟨l7, hl7, hc6⟩ := R.bind_eq_ok hc6
        have ho : (un1 d1).bind (fun b => (mt1 a b).bind fun t => if t = true then (me a b).bind fun x => .ok (some x) else .ok none) = .ok o := by
          generalize (un1 d1).bind _ = z at ho
          cases z <;> first | exact ho | cases ho
        obtain ⟨b, hu1, ho⟩ := R.bind_eq_ok ho
        obtain ⟨t1, ht1, ho⟩ := R.bind_eq_ok ho
        have fz7 : Fz H5 H7 := fz6.trans (Fz.of_same s7)
        have sm7 : Same H1 H7 := sm6.trans s7
        have ok7 : EnvOk c.inn (fun _ => False) (SEnv.wipe (up a (SEnv.wipe Γ.only vs)) vs1) (L2.wipe σ' vs1) H7 := (ok5.flat (hfl a) fz7).wiped _
        refine sg1.1 ok7 yd1 hu1 fun σ3 chg1 ok8 => ⟨(chg1 _ his1).trans (wipe_idem _ _), a, b, fun _ => False, ok8, ?_⟩
        rw [ht1]
        intro H8 s8
        have hD8 : H8 D = some (.lst acc6) := s8 _ _ (s7 _ _ hD6)
        have hr8 : RpL c.K c.mg H8 out6 acc6 := (hr6.same s7).same s8
        cases t1 with
        | false =>
          rw [if_neg (by simp)] at ho ⊢
          cases ho
          cases hc6
          exact ⟨⟨fz7.trans (Fz.of_same s8), sm7.trans s8⟩, acc6, out6, l7, hD8, hr8, hl7, he6⟩
        | true =>
          rw [if_pos rfl] at ho ⊢
          obtain ⟨z, hz2, ho⟩ := R.bind_eq_ok ho
          cases ho
          cases hc6
          have he6 : out6 ++ z :: l7 = out ++ l := he6
          refine ⟨a, b, fun _ => False, ok8.same s8, ?_⟩
          rw [hz2]
          intro v9 H9 s9 r9
          have hD9 : H9 D = some (.lst acc6) := s9 _ _ hD8
          have fz := fz_upd (o' := .lst (acc6 ++ [v9])) hD9 trivial
          have hlen : out6.length = acc6.length := hr8.length.symm
          have hlt : acc6.length < sizeLine := by
            have e1 := congrArg List.length he6
            rw [List.length_append, List.length_append] at e1
            rw [List.length_append, List.length_append] at hz
            rw [List.length_cons] at e1
            omega
          refine ⟨acc6, hD9, hlt, ⟨((fz7.trans (Fz.of_same s8)).trans (Fz.of_same s9)).trans fz, fun b' ob hb => ?_⟩, acc6 ++ [v9], out6 ++ [z], l7, upd_same, ((hr8.same s9).append (RpL.one r9)).stay fz, hl7, by rw [List.append_assoc]; exact he6⟩
          rw [upd_ne (ne_of_none hb nD)]
          exact s9 _ _ (s8 _ _ (sm7 _ _ hb))
      · rintro H' ⟨⟨fz6, sm6⟩, acc6, out6, l6, hD6, hr6, hc6, he6⟩
        rw [List.drop_length, compR] at hc6
        cases hc6
        rw [List.append_nil] at he6
        subst he6
        exact ⟨sm6, acc6, out ++ l, hD6, hr6, m, hm, by rw [List.append_assoc]; exact hz, by rw [List.append_assoc]; exact kq⟩
  · rintro H' ⟨sm, acc, out, hD, hr, rest, hcc, hz, kq⟩
    rw [List.drop_length, compR2] at hcc
    cases hcc
    refine kq D H' (s1.trans sm) (s1.free nD) ?_
    rw [List.append_nil]
    exact ⟨acc, hD, hr⟩
theorem jo_lc2 {vs1 : List Nat} (S : Cok c X) (hi : JI loose Same c X Γ tg iter mi) (sg : SG c.inn loose is g un up) (sg1 : SG c.inn loose1 is1 g1 un1 up1) (ok : BlkOk X.N X.env.scope scope own) (his : ∀ i ∈ is, i ∈ own.map (·.2)) (his1 : ∀ i ∈ is1, i ∈ vs1) (hv1 : ∀ i ∈ vs1, i ∈ own.map (·.2))
    (hfl : ∀ a, SEnv.flat (up a (SEnv.wipe Γ.only (own.map (·.2)))) = true)
    (hg : ∀ (s : Shared) (H : Hp) (C : Addr) (cl : List (Str × Addr)) (fp : List Addr), Cok c.inn (X.blk s H scope (compEnvC scope cl C X.env) fp) → PG (X.blk s H scope (compEnvC scope cl C X.env) fp) tg g)
    (ht : ∀ (s : Shared) (H : Hp) (C : Addr) (cl : List (Str × Addr)) (fp : List Addr), Cok c.inn (X.blk s H scope (compEnvC scope cl C X.env) fp) → ∀ a : α, JTs c.inn (X.blk s H scope (compEnvC scope cl C X.env) fp) (up a (SEnv.wipe Γ.only (own.map (·.2)))) ifs (mt a))
    (hi1 : ∀ (s : Shared) (H : Hp) (C : Addr) (cl : List (Str × Addr)) (fp : List Addr), Cok c.inn (X.blk s H scope (compEnvC scope cl C X.env) fp) → ∀ a : α, JI loose1 Fz c.inn (X.blk s H scope (compEnvC scope cl C X.env) fp) (up a (SEnv.wipe Γ.only (own.map (·.2)))) tg1 iter1 (mi1 a))
    (hg1 : ∀ (s : Shared) (H : Hp) (C : Addr) (cl : List (Str × Addr)) (fp : List Addr), Cok c.inn (X.blk s H scope (compEnvC scope cl C X.env) fp) → PG (X.blk s H scope (compEnvC scope cl C X.env) fp) tg1 g1)
    (ht1 : ∀ (s : Shared) (H : Hp) (C : Addr) (cl : List (Str × Addr)) (fp : List Addr), Cok c.inn (X.blk s H scope (compEnvC scope cl C X.env) fp) → ∀ (a : α) (b : β), JTs c.inn (X.blk s H scope (compEnvC scope cl C X.env) fp) (up1 b (SEnv.wipe (up a (SEnv.wipe Γ.only (own.map (·.2)))) vs1)) ifs1 (mt1 a b))
    (he : ∀ (s : Shared) (H : Hp) (C : Addr) (cl : List (Str × Addr)) (fp : List Addr), Cok c.inn (X.blk s H scope (compEnvC scope cl C X.env) fp) → ∀ (a : α) (b : β), JE c.inn (X.blk s H scope (compEnvC scope cl C X.env) fp) (up1 b (SEnv.wipe (up a (SEnv.wipe Γ.only (own.map (·.2)))) vs1)) elt (me a b))
    (hs : ∀ x, foldedSetIterable iter X.env x = pure x := by intro _; rfl) (hs1 : ∀ env x, foldedSetIterable iter1 env x = pure x := by intro _ _; rfl) :
    JO c X Γ (.ListComp elt [⟨tg, iter, ifs, 0⟩, ⟨tg1, iter1, ifs1, 0⟩] scope pos) (mi.bind fun ds => ((compR2 (fun d => (un d).bind fun a => (mt a).bind fun t => if t = true then (mi1 a).bind fun ds1 => compR (fun d1 => (un1 d1).bind fun b => (mt1 a b).bind fun t => if t = true then (me a b).bind fun x => .ok (some x) else .ok none) ds1 else .ok []) ds).bind szOk).bind fun l => .ok (.lst l)) :=
  pe_imp (pe_lc2 S.calm S.nd hi ok hv1 (fun s H C cl fp => hg s H C cl fp S.blk) (fun s H C cl fp => ⟨fun pins t σ H' Q I ⟨a, q⟩ => (ht s H C cl fp S.blk a).run pins t σ H' Q I q⟩)
    (fun s H C cl fp => ⟨fun pins t σ H' Q I ⟨a, q⟩ => (hi1 s H C cl fp S.blk a).run pins t σ H' Q I q⟩) (fun s H C cl fp => hg1 s H C cl fp S.blk) (fun s H C cl fp => ⟨fun pins t σ H' Q I ⟨a, b, q⟩ => (ht1 s H C cl fp S.blk a b).run pins t σ H' Q I q⟩)
    (fun s H C cl fp => ⟨fun pins t σ H' Q I ⟨a, b, q⟩ => (he s H C cl fp S.blk a b).run pins t σ H' Q I q⟩) hs hs1) (tlc2_of sg sg1 his his1 hfl)
end
end PD
end

section
/-! PD28: what is never come to; locks for a while; d.pop, x.extend, name += e; three at once; two stores at once. -/
namespace PD
open PySem PySem.Spec L2
open PyProof.Rows hiding St
open PySem.PyData (strOk)
section
variable {α β : Type} {c : DC} {X : Cx} {Γ : SEnv} {en : α → SEnv} {enL : β → SEnv} {e : Expr} {sts : List Stmt}
theorem jn_bad : JN c X en enL Γ sts .bad := ⟨fun pins s σ H Dn I ⟨O, ok, q⟩ => q.elim⟩
theorem je_bad : JE c X Γ e .bad := ⟨fun pins s σ H Q I ⟨O, ok, q⟩ => q.elim⟩
end
/-! ### locks for a while -/
mutual
def D.noBox : D → Bool
  | .lst _ => false
  | .dct _ => false
  | .dctT _ => false
  | .scr _ => false
  | .tup ds => D.noBoxL ds
  | _ => true
def D.noBoxL : List D → Bool
  | [] => true
  | d :: ds => d.noBox && D.noBoxL ds
end
mutual
theorem Rp.unlock {K : PySem.W.Frag} {mg : MG} {H : Hp} {p : Addr} {od : Obj} {u : HO} (hp : H p = some (.frz od u)) (b : isBox u) : ∀ {d : D} {v : V}, d.noBox = true → Rp K mg H d v → Rp K mg (upd H p u) d v
  | .non, v, _, h => by unfold Rp at h ⊢; exact h
  | .bl _, v, _, h => by unfold Rp at h ⊢; exact h
  | .int _, v, _, h => by unfold Rp at h ⊢; exact h
  | .str _, v, _, h => by unfold Rp at h ⊢; exact h
  | .fn _, v, _, h => by unfold Rp at h ⊢; exact h
  | .tup ds, v, n, h => by
    unfold Rp at h ⊢
    obtain ⟨a, vs, e1, e2, e3⟩ := h
    refine ⟨a, vs, e1, ?_, RpL.unlock hp b (by unfold D.noBox at n; exact n) e3⟩
    rcases e2 with ⟨o, h1, h2⟩ | h1
    · have ne : a ≠ p := fun z => by
        subst z
        rw [hp] at h1; cases h1; exact b
      exact .inl ⟨o, by rw [upd_ne ne]; exact h1, h2⟩
    · exact .inr h1
  | .lst _, v, n, _ => by unfold D.noBox at n; cases n
  | .dct _, v, n, _ => by unfold D.noBox at n; cases n
  | .dctT _, v, n, _ => by unfold D.noBox at n; cases n
  | .scr _, v, n, _ => by unfold D.noBox at n; cases n
theorem RpL.unlock {K : PySem.W.Frag} {mg : MG} {H : Hp} {p : Addr} {od : Obj} {u : HO} (hp : H p = some (.frz od u)) (b : isBox u) : ∀ {ds : List D} {vs : List V}, D.noBoxL ds = true → RpL K mg H ds vs → RpL K mg (upd H p u) ds vs
  | [], vs, _, h => by unfold RpL at h ⊢; exact h
  | d :: ds, vs, n, h => by
    unfold D.noBoxL at n
    rw [Bool.and_eq_true] at n
    unfold RpL at h ⊢
    obtain ⟨v, r, e1, e2, e3⟩ := h
    exact ⟨v, r, e1, Rp.unlock hp b n.1 e2, RpL.unlock hp b n.2 e3⟩
end
def flatL : D → R D
  | .lst ds => if D.noBoxL ds = true then .ok (.lst ds) else .bad
  | _ => .bad
section
variable {α β : Type} {c : DC} {X : Cx} {Γ : SEnv} {en : α → SEnv} {enL : β → SEnv} {e ek : Expr} {m me mk : R D} {i j : Nat} {t u : Nat} {b a : D} {rest : List Stmt} {pos p p' p1 p2 apos cpos : Pos} {x y z : Str} {mr : D → R (Fl α β)}
/-- slot i is locked while e is worked out -/
theorem jo_lock (i : Nat) (h : JO c X (Γ.set i (.fz b)) e m) (hE : ∀ ex, c.E ex Γ → c.E ex (Γ.set i (.fz b)) := by exact fun _ h => h) (g : Γ[i]? = some (.ow t b) := by rfl) (nv : Γ.noVw = true := by rfl) : JO c X Γ e (m.bind flatL) := by
  refine pe_imp (pe_lock h) fun σ H Q ⟨O, ok, q⟩ => ?_
  obtain ⟨p, e1, h2, _, h3⟩ := ok.sl i _ g
  obtain ⟨o, ho, bx⟩ := h3.box
  refine ⟨p, o, ho, box_mut bx, fun od => ⟨O, ok.chg g e1 (noVw_get nv) ⟨_, rfl, h3.lock ho⟩, ?_⟩⟩
  refine q.bind.imp2 (fun d k p' H' s n r => ?_) hE
  have hp : H' p = some (.frz od o) := s _ _ upd_same
  have ne : p' ≠ p := fun z => by rw [z, upd_same] at n; cases n
  rw [upd_ne ne] at n
  unfold flatL at k
  split at k
  · split at k
    · rename_i hf
      obtain ⟨vs, r1, r2⟩ := r
      refine ⟨hp, k p' _ (fun b' ob z => ?_) n ⟨vs, by rw [upd_ne ne]; exact r1, RpL.unlock hp bx hf r2⟩⟩
      by_cases hb : b' = p
      · subst hb; rw [upd_same]; rw [ho] at z; exact z
      · rw [upd_ne hb]; exact s _ _ (by rw [upd_ne hb]; exact z)
    · exact k.elim
  · exact k.elim
/-! ### stores -/
theorem put_gen (S : Cok c X) {O : Addr → Prop} {σ : St} {H' : Hp} {q : Addr} {k d b' : D} {vk v : V} {Q : Hp → Prop} (ok : EnvOk c O Γ σ H') (g : Γ[i]? = some (.ow t b)) (e1 : σ[i]? = some (some (.ref q))) (nv : Γ.noVw = true)
    (rk : Rp c.K c.mg H' k vk) (r : Rp c.K c.mg H' d v) (hp : dPut b k d = .ok b') (hQ : ∀ H'', EnvOk c O (Γ.set i (.ow t b')) σ H'' → Fz H' H'' → Q H'') :
    rSetL (.ref q) vk v H' Q ∨ rSetD (.ref q) vk v H' Q ∨ rSetT X.K c.mg (.ref q) vk v H' Q := by
  have fin : ∀ {o' : HO}, Own c.K c.mg (upd H' q o') q b' → Q (upd H' q o') := fun {o'} r => by
    obtain ⟨p', h1, h2, _, h3⟩ := ok.sl i _ g
    rw [e1] at h1; cases h1
    obtain ⟨o, hp, bx⟩ := h3.box
    exact hQ _ (ok.change g e1 (noVw_get nv) r) (fz_upd hp bx)
  obtain ⟨q0, e2, h2, _, h3⟩ := ok.sl i _ g
  rw [e1] at e2; cases e2
  unfold dPut at hp
  split at hp
  · obtain ⟨vs, h3, h4⟩ := h3
    unfold putL at hp
    split at hp
    · split at hp
      · rename_i j hj
        cases hp
        rw [Rp] at rk
        exact .inl ⟨q, vs, _, j, rfl, rk, h3, by rw [h4.length]; exact hj, fin ⟨_, upd_same, (h4.set j r).stay (fz_upd h3 trivial)⟩⟩
      · cases hp
    · cases hp
  · obtain ⟨es, h3, h4⟩ := h3
    unfold putK' at hp
    split at hp
    · rename_i hk
      cases hp
      obtain ⟨l, k1, k2⟩ := rk.key hk.1
      exact .inr (.inl ⟨q, _, rfl, .inl ⟨es, l, h3, k2, by rw [(RpK.tab.mp h4).length]; exact hk.2, rfl⟩, fin ⟨_, upd_same, RpK.stay (fz_upd h3 trivial) (h4.put k1 r)⟩⟩)
    · cases hp
  · obtain ⟨es, h3, h4⟩ := h3
    unfold putT at hp
    split at hp
    · rename_i hk
      cases hp
      obtain ⟨κ, ek⟩ := Option.isSome_iff_exists.mp hk.1
      obtain ⟨ds, b, rfl, z⟩ : ∃ ds b, k = .tup ds ∧ vk = .ref b := by
        cases k with
        | tup ds => rw [Rp] at rk; obtain ⟨b, _, e, _⟩ := rk; exact ⟨ds, b, rfl, e⟩
        | _ => cases ek
      subst z
      exact .inr (.inr ⟨q, _, es, b, _, κ, rfl, rfl, h3, by rw [S.K]; exact h4, by rw [S.K]; exact rk, ek, by rw [h4.length]; exact hk.2, fin ⟨_, upd_same, RpT.stay (fz_upd h3 trivial) (h4.put ek rk r)⟩⟩)
    · cases hp
  · cases hp
theorem dPut_ne {b k d : D} {z : Str} : dPut b k d ≠ .exc z := fun hp => by
  unfold dPut putL putK' putT at hp; split at hp <;> (try split at hp) <;> (try split at hp) <;> cases hp
/-- x[k1], y[k2] = e (a pair) -/
theorem jn_parStore (S : Cok c X) (i j : Nat) {ek2 : Expr} {mk2 : D → R D} {pt : Pos} {kt : Nat} {q1 q2 : Pos} {mr2 : D → D → R (Fl α β)} (he : JE c X Γ e me) (hk : JE c X Γ ek mk) (hk2 : ∀ a', JE c X (Γ.set i (.ow t a')) ek2 (mk2 a'))
    (hr : ∀ a' b', JN c X en enL ((Γ.set i (.ow t a')).set j (.ow u b')) rest (mr2 a' b')) (hij : i ≠ j := by decide) (g : Γ[i]? = some (.ow t a) := by rfl) (g2 : Γ[j]? = some (.ow u b) := by rfl) (nv : Γ.noVw = true := by rfl) (nv2 : ∀ a', SEnv.noVw (Γ.set i (.ow t a')) = true := by exact fun _ => rfl)
    (hN : X.N[i]? = some x := by rfl) (hv : Vis X.env.scope x := by first | exact Or.inl rfl | exact Or.inr (Or.inl rfl)) (hN2 : X.N[j]? = some y := by rfl) (hv2 : Vis X.env.scope y := by first | exact Or.inl rfl | exact Or.inr (Or.inl rfl))
    (hd : (x == ("__debug__" : Str)) = false := by decide) (hcd : (x == ("__classdict__" : Str)) = false := by decide) (hd2 : (y == ("__debug__" : Str)) = false := by decide) (hcd2 : (y == ("__classdict__" : Str)) = false := by decide)
    (hE : ∀ ex a', c.E ex Γ → c.E ex (Γ.set i (.ow t a')) := by exact fun _ _ h => h)
    (ha : ∀ v, assign (.Subscript (.Name x p) ek p') X.env v = (do
      let ov ← holding [v] (eval (.Name x p) X.env)
      let iv ← holding [v, ov] (eval ek X.env)
      standAt p'
      holding [v, ov, iv] (setItem ov iv v)
      release [v, ov, iv] []) := by intro _; rfl)
    (ha2 : ∀ v, assign (.Subscript (.Name y q1) ek2 q2) X.env v = (do
      let ov ← holding [v] (eval (.Name y q1) X.env)
      let iv ← holding [v, ov] (eval ek2 X.env)
      standAt q2
      holding [v, ov, iv] (setItem ov iv v)
      release [v, ov, iv] []) := by intro _; rfl)
    (hs : swapsWithSole [.Tuple [.Subscript (.Name x p) ek p', .Subscript (.Name y q1) ek2 q2] kt pt] e pos.line X.env = pure false := by rfl) (hw : swappedStores [.Tuple [.Subscript (.Name x p) ek p', .Subscript (.Name y q1) ek2 q2] kt pt] e X.env = pure none := by rfl)
    (h1 : (assignEach [.Tuple [.Subscript (.Name x p) ek p', .Subscript (.Name y q1) ek2 q2] kt pt] X.env).map (·.2) = [assign (.Tuple [.Subscript (.Name x p) ek p', .Subscript (.Name y q1) ek2 q2] kt pt) X.env] := by rfl)
    (hl : (assignEach [.Subscript (.Name x p) ek p', .Subscript (.Name y q1) ek2 q2] X.env).length = 2 := by rfl) (hst : (assignEach [.Subscript (.Name x p) ek p', .Subscript (.Name y q1) ek2 q2] X.env).findIdx? (·.1) = none := by rfl)
    (hs1 : (assignEach [.Subscript (.Name x p) ek p', .Subscript (.Name y q1) ek2 q2] X.env).map (·.2) = assign (.Subscript (.Name x p) ek p') X.env :: (assignEach [.Subscript (.Name y q1) ek2 q2] X.env).map (·.2) := by rfl)
    (hs2 : (assignEach [.Subscript (.Name y q1) ek2 q2] X.env).map (·.2) = assign (.Subscript (.Name y q1) ek2 q2) X.env :: (assignEach [] X.env).map (·.2) := by rfl) :
    JN c X en enL Γ (.Assign [.Tuple [.Subscript (.Name x p) ek p', .Subscript (.Name y q1) ek2 q2] kt pt] e pos :: rest) (me.bind fun d => (un2 d).bind fun r => mk.bind fun k1 => (dPut a k1 r.1).bind fun a' => (mk2 a').bind fun k2 => (dPut b k2 r.2).bind fun b' => mr2 a' b') := by
  have hk2' : PE X ek2 (fun σ H Q => ∃ a', tR c (Γ.set i (.ow t a')) (mk2 a') σ H Q) := ⟨fun pins s σ H Q I ⟨a', q⟩ => (hk2 a').run pins s σ H Q I q⟩
  refine pss_imp (pss_cons (ps_asg he (pg_tup S.calm (pgs_cons (pg_sub (pe_own i hN hv hd hcd) hk (set_any S) ha) (pgs_cons (pg_sub (pe_own j hN2 hv2 hd2 hcd2) hk2' (set_any S) ha2) pgs_nil hs2) hs1) hl hst) hs hw h1) (pss_ex fun d : D × D => hr d.1 d.2)) fun Dn σ H ⟨O, ok, q⟩ => ⟨O, ok, RE.ex (q.bind.imp fun d k v H1 s1 r1 => ?_)⟩
  cases hu : un2 d with
  | exc z => unfold un2 at hu; split at hu <;> cases hu
  | bad => rw [hu] at k; exact (RE.badd k).elim
  | ok r =>
    rw [hu] at k
    have k := RE.okk k
    unfold un2 at hu
    split at hu
    · rename_i d1 d2
      cases hu
      rw [Rp] at r1
      obtain ⟨av, vs, rfl, tt, w⟩ := r1
      obtain ⟨v1, r, rfl, w1, w⟩ := RpL.cons.mp w
      obtain ⟨v2, r, rfl, w2, w⟩ := RpL.cons.mp w
      rw [RpL.nil] at w
      subst w
      obtain ⟨p0, e1, _⟩ := ok.sl i _ g
      obtain ⟨p0', f1, _⟩ := ok.sl j _ g2
      refine ⟨av, _, rfl, by rw [S.K]; exact tt.sq, rfl, v1, _, rfl, _, e1, O, ok.same s1, RE.ex ((show RE mk _ _ from RE.bind k).imp fun dk k2 vk H2 s2 r2 => ?_)⟩
      cases hp : dPut a dk d1 with
      | exc z => exact absurd hp dPut_ne
      | bad => rw [hp] at k2; exact (RE.badd k2).elim
      | ok a' =>
        rw [hp] at k2
        have k2 := RE.okk k2
        refine put_gen S ((ok.same s1).same s2) g e1 nv r2 (w1.same s2) hp fun H3 ok3 fz3 => ?_
        refine ⟨v2, _, rfl, _, f1, a', O, ok3, ?_⟩
        have k2 : RE ((mk2 a').bind fun k2 => (dPut b k2 d2).bind fun b' => mr2 a' b') (FlOk c en enL H Dn) fun e => c.X e := k2
        refine (k2.bind).imp2 (fun dk2 k3 vk2 H4 s4 r4 => ?_) fun ex h => hE ex a' (c.xe ex Γ h)
        cases hp2 : dPut b dk2 d2 with
        | exc z => exact absurd hp2 dPut_ne
        | bad => rw [hp2] at k3; exact (RE.badd k3).elim
        | ok b' =>
          rw [hp2] at k3
          have k3 := RE.okk k3
          refine put_gen S (ok3.same s4) (by rw [List.getElem?_set_ne hij]; exact g2) f1 (nv2 a') r4 (((w2.same s2).stay fz3).same s4) hp2 fun H5 ok5 fz5 => ⟨rfl, (a', b'), O, ok5, ?_⟩
          exact k3.imp fun fl f => f.fz ((((Fz.of_same s1).trans (Fz.of_same s2)).trans fz3).trans ((Fz.of_same s4).trans fz5))
    · cases hu
end
end PD
end

section
/-! PD29: d.pop(k), x.extend(e), name += e, three at once. -/
namespace PD
open PySem PySem.Spec L2
open PyProof.Rows hiding St
open PySem.PyData (strOk)
section
variable {X : Cx}
def rPopK : V → List V → Hp → VK → Prop := fun x vs H Q => ∃ d kvs k y, x = .ref d ∧ vs = [kV k] ∧ H d = some (.dK kvs) ∧ valV kvs k = some y ∧ Q y (upd H d (.dK (dropK kvs k)))
theorem keyPart_is {k : Key} {v : Value} (h : RelV (kV k) v) : (keyPart v).isSome = true := by
  cases k with
  | inl i => obtain ⟨t, rfl⟩ := h; rfl
  | inr x => obtain ⟨t, rfl⟩ := h; rfl
theorem mt_popK : MtR X "dict.pop" rPopK := by
  intro pins s σ H x vs v us Q I rx rv h
  obtain ⟨d, kvs, k, y, rfl, rfl, hd, hy, q⟩ := h
  cases rx
  obtain ⟨u, rfl, ru⟩ := rv.one
  obtain ⟨z1, lo1, vs1, rel1, dd1⟩ := dk_rd I.hok (.inl hd)
  obtain ⟨w', hw, rw'⟩ := RelO.some_of (v := y) (o := valueAt vs1 k) (by rw [← hy]; exact rel1.val k)
  have l1 := rel1.length
  refine call_meetsIn PySem.F.slot_dict_pop dd1.typeIs PySem.F.entry_dict_pop (PySem.F.args_dict_pop_2 _ _) (meets_dict_pop_there (mixKind X.prog X.w) d (kV_is ru) [] (.inl rfl) (keyPart_is ru)) ⟨vs1, w', dd1, by omega, hw, fun h' dd' sb => ?_⟩
  have he : ∃ q, h'.get? d = some q := let ⟨q, _, _, hq, _⟩ := dd'; ⟨q, hq⟩
  have := dropK_le kvs k
  exact ⟨y, _, d_write (t' := s.toks + 1) I (by rw [hd]; exact True.intro) sb he (dk_new (P := X.prog) (w := X.w) (H' := upd H d (.dK (dropK kvs k))) (by omega) lo1 (rel1.drop k) dd'), rw', q⟩
end
def delK (kvs : List (D × D)) (k : D) : List (D × D) := kvs.filter fun p => !(p.1.keq k)
theorem RpK.del {K : PySem.W.Frag} {mg : MG} {H : Hp} {k : D} {l : Key} (hk : IsKey k l) : ∀ {kvs : List (D × D)} {es : List (Key × V)}, RpK K mg H kvs es → RpK K mg H (delK kvs k) (dropK es l)
  | [], es, h => by rw [RpK] at h; subst h; show RpK K mg H [] []; rw [RpK]
  | (kd, d) :: r, es, h => by
    rw [RpK] at h
    obtain ⟨κ, v, s, e1, h1, h2, h3⟩ := h
    subst e1
    have e := IsKey.keq h1 hk
    have ih := RpK.del hk h3
    show RpK K mg H (((kd, d) :: r).filter fun p => !(p.1.keq k)) (((κ, v) :: s).filter fun kv => decide (kv.1 ≠ l))
    by_cases z : κ = l
    · rw [List.filter_cons_of_neg (by simp [e, z]), List.filter_cons_of_neg (by simp [z])]
      exact ih
    · rw [List.filter_cons_of_pos (by simp [e, z]), List.filter_cons_of_pos (by simp [z])]
      rw [RpK]
      exact ⟨κ, v, _, rfl, h1, h2, ih⟩
def popK (kvs : List (D × D)) (k : D) : R D := if k.isK = true ∧ (dlook D.keq kvs k).isSome = true then .ok (.dct (delK kvs k)) else .bad
section
variable {α β : Type} {c : DC} {X : Cx} {Γ : SEnv} {en : α → SEnv} {enL : β → SEnv} {e : Expr} {me : R D} {i j l : Nat} {t : Nat} {b : D} {rest : List Stmt} {pos p p' apos cpos : Pos} {x : Str} {mr : D → R (Fl α β)}
theorem jn_popK (i : Nat) (he : JE c X Γ e me) (hr : ∀ b', JN c X en enL (Γ.set i (.ow t b')) rest (mr b')) (g : Γ[i]? = some (.ow t b) := by rfl) (nv : Γ.noVw = true := by rfl) (hN : X.N[i]? = some x := by rfl) (hv : Vis X.env.scope x := by first | exact Or.inl rfl | exact Or.inr (Or.inl rfl))
    (hd : (x == ("__debug__" : Str)) = false := by decide) (hcd : (x == ("__classdict__" : Str)) = false := by decide)
    (hbase : attributeBase (.Name x p) "pop" X.env (eval (.Name x p) X.env) = eval (.Name x p) X.env := by rfl)
    (hfew : ((backTo cpos (starEach [e] X.env)).all (fun x => !x.1) && (backToKw cpos (keywordEach [] X.env)).all (fun x => x.1.isSome)
      && decide ([e].length + ([] : List Keyword).length + (if ([] : List Keyword).isEmpty then 0 else 1) < 30)) = true := by rfl)
    (hline : (apos.endLine == cpos.line) = true := by rfl) (hs : starEach [e] X.env = (false, eval e X.env) :: starEach [] X.env := by rfl) (hplain : (backTo cpos (starEach [] X.env)).any (·.1) = false := by rfl)
    (hsw : swapsWith (.Call (.Attribute (.Name x p) "pop" apos) [e] [] cpos) none pos.line X.env = pure false := by rfl) :
    JN c X en enL Γ (.Expr (.Call (.Attribute (.Name x p) "pop" apos) [e] [] cpos) pos :: rest) ((dDct b).bind fun kvs => me.bind fun k => (popK kvs k).bind mr) := by
  refine pss_imp (pss_cons (ps_expr (pe_bm PySem.F.plainAttrs_dict PySem.F.slot_dict_pop PySem.F.type_dict_pop mt_popK (pe_own i hN hv hd hcd) (pa_cons he pa_nil hs) hbase hfew hline hs hplain) hsw) (pss_ex hr)) fun Dn σ H ⟨O, ok, q⟩ => ?_
  cases b with
  | dct kvs =>
    obtain ⟨q0, e1, h2, _, es, h3, h4⟩ := ok.sl i _ g
    have q := RE.okk q
    refine ⟨_, e1, .inr (.inr (.inl ⟨rfl, .inl ⟨es, h3⟩⟩)), O, ok, RE.ex ((show RE me _ _ from RE.bind q).imp fun d kq v H' s r => ?_)⟩
    change RE ((popK kvs d).bind mr) (FlOk c en enL H Dn) (fun e => c.X e) at kq
    unfold popK at kq
    split at kq
    · rename_i hz
      have kq := RE.okk kq
      obtain ⟨κ, k1, k2⟩ := r.key hz.1
      subst k2
      have h4' : RpK c.K c.mg H' kvs es := RpK.stay (Fz.of_same s) h4
      rcases TabOk.look (IK := IsKey) (eq := D.keq) (fun _ _ _ _ a b => IsKey.keq a b) k1 (RpK.tab.mp h4') with ⟨e2, _⟩ | ⟨d2, w, e2, e3, e4⟩
      · rw [e2] at hz; exact absurd hz.2 (by simp)
      · refine ⟨q0, es, κ, w, rfl, rfl, s _ _ h3, e3, .dct (delK kvs d), ?_⟩
        exact tS_change ok s g e1 nv ⟨_, upd_same, RpK.stay (fz_upd (s _ _ h3) trivial) (RpK.del k1 h4')⟩ kq
    · exact (RE.badd kq).elim
  | _ => exact (RE.badd q).elim
/-! ### x.extend(e), e a list -/
theorem mt_extR : MtR X "list.extend" rExtR := by
  intro pins s σ H x vs v us Q I rx rv h
  obtain ⟨l, b, xs, zs, rfl, rfl, hH, hB, hne, hz, q⟩ := h
  cases rx
  obtain ⟨u, rfl, ru⟩ := rv.one
  cases ru
  obtain ⟨z, its, n, r, hl, e⟩ := I.lstM hH
  obtain ⟨z2, its2, n2, r2, e2⟩ := Rd.ok hB I.hok
  have hl2 := r2.length
  have hsz : its.toArray.size + its2.toArray.size ≤ sizeLine := by rw [List.size_toArray, List.size_toArray]; omega
  have hlong : ¬ (!its.toArray.isEmpty && Builtin.List.listTooLong (its.toArray.size + its2.toArray.size)) = true := by
    rw [notLongL hsz, Bool.and_false]
    exact Bool.false_ne_true
  refine call_meets F.slot_list_extend ⟨_, e, rfl⟩ F.entry_list_extend (F.args_list_extend_2 _ _)
    (AutoSeq1.list_extend_list_list_0 l its.toArray n b its2.toArray n2 hlong (by rw [List.size_toArray]; omega) (by omega)) ⟨e, e2, ?_⟩
  refine ⟨.non, _, I.lset (its' := its ++ its2) hH e (by simp) (r.append r2) ?_, rfl, q⟩
  rw [List.length_append]
  omega
theorem jn_extend (i : Nat) (he : JM c X Γ e me) (hr : ∀ b', JN c X en enL (Γ.set i (.ow t b')) rest (mr b')) (g : Γ[i]? = some (.ow t b) := by rfl) (nv : Γ.noVw = true := by rfl) (hN : X.N[i]? = some x := by rfl) (hv : Vis X.env.scope x := by first | exact Or.inl rfl | exact Or.inr (Or.inl rfl))
    (hd : (x == ("__debug__" : Str)) = false := by decide) (hcd : (x == ("__classdict__" : Str)) = false := by decide)
    (hbase : attributeBase (.Name x p) "extend" X.env (eval (.Name x p) X.env) = eval (.Name x p) X.env := by rfl)
    (hfew : ((backTo cpos (starEach [e] X.env)).all (fun x => !x.1) && (backToKw cpos (keywordEach [] X.env)).all (fun x => x.1.isSome)
      && decide ([e].length + ([] : List Keyword).length + (if ([] : List Keyword).isEmpty then 0 else 1) < 30)) = true := by rfl)
    (hline : (apos.endLine == cpos.line) = true := by rfl) (hs : starEach [e] X.env = (false, eval e X.env) :: starEach [] X.env := by rfl) (hplain : (backTo cpos (starEach [] X.env)).any (·.1) = false := by rfl)
    (hsw : swapsWith (.Call (.Attribute (.Name x p) "extend" apos) [e] [] cpos) none pos.line X.env = pure false := by rfl) :
    JN c X en enL Γ (.Expr (.Call (.Attribute (.Name x p) "extend" apos) [e] [] cpos) pos :: rest) ((dLst b).bind fun ds => me.bind fun d => (extL ds d).bind mr) := by
  refine pss_imp (pss_cons (ps_expr (pe_bm PySem.F.plainAttrs_list PySem.F.slot_list_extend PySem.F.type_list_extend mt_extR (pe_own i hN hv hd hcd) (pa_cons he pa_nil hs) hbase hfew hline hs hplain) hsw) (pss_ex hr)) fun Dn σ H ⟨O, ok, q⟩ => ?_
  cases b with
  | lst ds =>
    obtain ⟨q0, e1, h2, _, vs, h3, h4⟩ := ok.sl i _ g
    have q := RE.okk q
    refine ⟨_, e1, .inl ⟨rfl, vs, .inl (.inl h3)⟩, O, ok, RE.ex ((show RE me _ _ from RE.bind q).imp fun d k v H' s r => ?_)⟩
    change RE ((extL ds d).bind mr) (FlOk c en enL H Dn) (fun e => c.X e) at k
    unfold extL at k
    split at k
    · rename_i more
      split at k
      · rename_i hz
        have k := RE.okk k
        have hb : ∃ a ws, v = .ref a ∧ Rd H' a (.lst ws) ∧ q0 ≠ a ∧ RpL c.K c.mg H' more ws := by
          rcases r with r | ⟨p, ev, n, r⟩
          · rw [Rp] at r
            obtain ⟨a, ws, ev, ⟨ob, h5⟩, h6⟩ := r
            refine ⟨a, ws, ev, .inr ⟨ob, h5⟩, fun z => ?_, h6⟩
            rw [← z, s _ _ h3] at h5; cases h5
          · obtain ⟨ws, h5, h6⟩ := r
            refine ⟨p, ws, ev, .inl h5, fun z => ?_, h6⟩
            rw [← z, h3] at n; cases n
        obtain ⟨a, ws, ev, h5, hne, h6⟩ := hb
        subst ev
        have l1 := h4.length
        have l2 := h6.length
        refine ⟨q0, a, vs, ws, rfl, rfl, s _ _ h3, h5, hne, by omega, .lst (ds ++ more), ?_⟩
        exact tS_change ok s g e1 nv ⟨_, upd_same, ((h4.same s).append h6).stay (fz_upd (s _ _ h3) trivial)⟩ k
      · exact (RE.badd k).elim
    · exact (RE.badd k).elim
  | _ => exact (RE.badd q).elim
/-! ### name += e, ints -/
def augI : D → D → R D
  | .int i, .int j => .ok (.int (i + j))
  | _, _ => .bad
theorem jn_aug (S : Cok c X) (i : Nat) {d0 : D} (he : JE c X Γ e me) (hr : ∀ d, JN c X en enL (Γ.set i (.fz d)) rest (mr d)) (g : Γ[i]? = some (.fz d0) := by rfl) (hN : X.N[i]? = some x := by rfl) (hx : Loc X.env.scope x := by first | exact Or.inl rfl | exact Or.inr rfl)
    (hf : X.fn x = true ∨ X.env.scope.names.lookup x = some .local := by first | exact .inl rfl | exact .inr rfl) : JN c X en enL Γ (.AugAssign (.Name x p) .Add e pos :: rest) (me.bind fun d => (augI d0 d).bind mr) := by
  refine pss_imp (pss_cons (ps_aug S.nd hN hx he ip_add hf) (pss_ex hr)) fun Dn σ H ⟨O, ok, q⟩ => ?_
  obtain ⟨v0, e1, r0⟩ := ok.sl i _ g
  refine ⟨v0, e1, O, ok, RE.ex (q.bind.imp fun d k v H' s r => ?_)⟩
  unfold augI at k
  split at k
  · have k := RE.okk k
    rw [Rp] at r r0
    exact ⟨_, _, r0, r, .int _, pe_setFz ok s Rp.int k⟩
  · exact (RE.badd k).elim
/-! ### three at once -/
/-- a slot is set to what an argument gave -/
theorem EnvOk.setA {O : Addr → Prop} {σ : St} {H H1 H2 : Hp} {f : Bool} {d : D} {v : V} (ok : EnvOk c O Γ σ H) (s : Same H H1) (s' : Same H1 H2) (i : Nat) (r : MxA c f H H1 d v) : ∃ O', EnvOk c O' (Γ.set i (slA f d)) (σ.set i (some v)) H2 := by
  cases f with
  | true => exact ⟨O, ((ok.same s).same s').setFz i (Rp.same s' r)⟩
  | false =>
    obtain ⟨p, rfl, n, r⟩ := r
    exact ⟨_, ((ok.plus n s r.at).setOw i (.inr rfl) r (ok.fresh n)).same s'⟩
theorem jn_par3 (S : Cok c X) {f f2 f3 : Bool} {a e2 e3 : Expr} {ma m2 m3 : R D} {y z : Str} {px py pz pt pt2 : Pos} {kt k2 : Nat} (i j l : Nat) {mr3 : D → D → D → R (Fl α β)} (ha : JX f c X Γ a ma) (hb : JX f2 c X Γ e2 m2) (hc : JX f3 c X Γ e3 m3)
    (hr : ∀ d1 d2 d3, JN c X en enL (((Γ.set i (slA f d1)).set j (slA f2 d2)).set l (slA f3 d3)) rest (mr3 d1 d2 d3))
    (hi : X.N[i]? = some x := by rfl) (hj : X.N[j]? = some y := by rfl) (hl : X.N[l]? = some z := by rfl) (hij : i ≠ j := by decide) (hil : i ≠ l := by decide) (hjl : j ≠ l := by decide) (hx : X.env.scope.names.lookup x = some .local := by rfl) (hy : X.env.scope.names.lookup y = some .local := by rfl) (hz : X.env.scope.names.lookup z = some .local := by rfl)
    (hw : swappedStores [.Tuple [.Name x px, .Name y py, .Name z pz] kt pt] (.Tuple [a, e2, e3] k2 pt2) X.env = pure (some [x, y, z]) := by rfl)
    (hs : swapsWithSole [.Tuple [.Name x px, .Name y py, .Name z pz] kt pt] (.Tuple [a, e2, e3] k2 pt2) pos.line X.env = pure false := by rfl)
    (h1 : starEach [a, e2, e3] X.env = (false, eval a X.env) :: starEach [e2, e3] X.env := by rfl) (h2 : starEach [e2, e3] X.env = (false, eval e2 X.env) :: starEach [e3] X.env := by rfl) (h3 : starEach [e3] X.env = (false, eval e3 X.env) :: starEach [] X.env := by rfl) :
    JN c X en enL Γ (.Assign [.Tuple [.Name x px, .Name y py, .Name z pz] kt pt] (.Tuple [a, e2, e3] k2 pt2) pos :: rest) (ma.bind fun d1 => m2.bind fun d2 => m3.bind fun d3 => mr3 d1 d2 d3) := by
  refine pss_imp (pss_cons (ps_par3 S.calm S.nd hi hj hl hij hil hjl hx hy hz (pa_cons ha (pa_cons hb (pa_cons hc pa_nil h3) h2) h1) hw hs) (pss_ex fun d : D × D × D => hr d.1 d.2.1 d.2.2)) fun Dn σ H ⟨O, ok, q⟩ => ⟨O, ok, RE.ex (q.bind.imp fun d1 q1 v1 H1 s1 r1 => ⟨O, ok.same s1, RE.ex (q1.bind.imp fun d2 q2 v2 H2 s2 r2 => ⟨O, (ok.same s1).same s2, RE.ex (q2.bind.imp fun d3 q3 v3 H3 s3 r3 => ?_)⟩)⟩)⟩
  refine ⟨v1, v2, v3, rfl, (d1, d2, d3), ?_⟩
  have kk := q3.imp fun fl (f : FlOk c en enL H Dn fl) => f.fz (((Fz.of_same s1).trans (Fz.of_same s2)).trans (Fz.of_same s3))
  obtain ⟨O1, o1⟩ := ok.setA s1 (Same.refl H1) i r1
  obtain ⟨O2, o2⟩ := o1.setA s2 (Same.refl H2) j r2
  obtain ⟨O3, o3⟩ := o2.setA s3 (Same.refl H3) l r3
  exact ⟨O3, o3, kk⟩
end
end PD
end

section
/-! PD30: more expressions that change the bag. -/
namespace PD
open PySem PySem.Spec L2
open PyProof.Rows hiding St
open PySem.PyData (strOk)
section
variable {α β : Type} {c : DC} {X : Cx} {Γ : SEnv} {en : α → SEnv} {enL : β → SEnv} {i j k : Nat} {t : Nat} {b : D} {a e e2 tst : Expr} {ma me : R D} {mt : R Bool} {mf mg mh : R (D × D)} {rest : List Stmt} {pos p p' : Pos} {x : Str}
/-- a[e], e changing the bag -/
theorem jf_ix (S : Cok c X) (ha : JE c X Γ a ma) (hi : JF c X Γ i t e mf) (hs : PlainIx e := by exact fun _ _ => rfl) : JF c X Γ i t (.Subscript a e pos) (ma.bind fun x => mf.bind fun r => (dIx x r.1).bind fun d => .ok (d, r.2)) := by
  have hu : X.A.units + 1 < cLine := by have := S.un; omega
  refine pe_imp (pe_ix (ix_seq.or (ix_dct hu)) ha hi hs) fun σ H Q ⟨O, ok, q⟩ => ⟨O, ok, q.bind.imp fun dx k x H1 s1 r1 => ⟨O, ok.same s1, (show RE mf _ _ from k.bind).imp fun r k2 y H2 ok2 fz2 r2 => ?_⟩⟩
  change RE ((dIx dx r.1).bind fun d => .ok (d, r.2)) (fun r => ∀ v H', EnvOk c O (Γ.set i (.ow t r.2)) σ H' → Fz H H' → Rp c.K c.mg H' r.1 v → Q v H') (fun e => c.E e Γ) at k2
  have r1 : Vw c.K c.mg H2 dx x := Vw.of (r1.stay fz2)
  have r2 : Vw c.K c.mg H2 r.1 y := Vw.of r2
  have fzz : Fz H H2 := (Fz.of_same s1).trans fz2
  obtain ⟨di, db⟩ := r
  cases hd : dIx dx di with
  | bad => rw [hd] at k2; exact (RE.badd k2).elim
  | exc z => unfold dIx at hd; split at hd <;> (try split at hd) <;> (try split at hd) <;> (try split at hd) <;> cases hd
  | ok d =>
    rw [hd] at k2
    have k3 : ∀ v H', EnvOk c O (Γ.set i (.ow t db)) σ H' → Fz H H' → Rp c.K c.mg H' d v → Q v H' := RE.okk k2
    replace k2 := fun v (r : Rp c.K c.mg H2 d v) => k3 v H2 ok2 fzz r
    clear k3
    unfold dIx at hd
    split at hd
    · split at hd
      · split at hd
        · rename_i ds i d' e
          cases hd
          obtain ⟨p, vs, rfl, t, l⟩ := r1.tup
          obtain ⟨v, e1, e2⟩ := l.at e
          exact .inl (.inr (.inl ⟨p, vs, _, v, rfl, r2.int, by rw [S.K]; exact t.sq, e1, k2 v e2⟩))
        · cases hd
      · cases hd
    · split at hd
      · split at hd
        · rename_i ds i d' e
          cases hd
          obtain ⟨p, vs, rfl, t, l⟩ := r1
          obtain ⟨v, e1, e2⟩ := l.at e
          exact .inl (.inl ⟨p, vs, _, v, rfl, r2.int, .inl t, e1, k2 v e2⟩)
        · cases hd
      · cases hd
    · split at hd
      · split at hd
        · split at hd
          · rename_i x i hl _ z e
            cases hd
            exact .inl (.inr (.inr ⟨_, _, z, r1.str.1, r2.int, small hl, e, k2 _ (.str (strOk_at r1.str.2 e))⟩))
          · cases hd
        · cases hd
      · cases hd
    · split at hd
      · split at hd
        · rename_i kvs hi _ d' e
          cases hd
          obtain ⟨a, rfl, g⟩ := dget_of r1 r2 hi
          rcases g with ⟨g1, _⟩ | ⟨d', w, g1, g2, g3⟩
          · rw [e] at g1; cases g1
          · rw [e] at g1; cases g1
            exact .inr ⟨a, w, rfl, g2, k2 w g3⟩
        · cases hd
      · cases hd
    · cases hd
/-- e1 if test else e2 -/
theorem jf_if (ht : JT c X Γ tst mt) (ha : JF c X Γ i t a mf) (hb : JF c X Γ i t e mg) : JF c X Γ i t (.IfExp tst a e pos) (mt.bind fun t => if t = true then mf else mg) := by
  refine pe_imp (pe_ifExp ht ha hb) fun σ H Q ⟨O, ok, q⟩ => ⟨O, ok, q.bind.imp fun tv k H' s => ?_⟩
  cases tv with
  | true => exact ⟨O, ok.same s, RE.imp k fun d k v H2 ok2 fz r => k v H2 ok2 ((Fz.of_same s).trans fz) r⟩
  | false => exact ⟨O, ok.same s, RE.imp k fun d k v H2 ok2 fz r => k v H2 ok2 ((Fz.of_same s).trans fz) r⟩
def un2L : List D → R (D × D)
  | [a, b] => .ok (a, b)
  | _ => .bad
/-- x, y = e1, e2, both changing the bag -/
theorem jn_parF (S : Cok c X) {y : Str} {px py pt pt2 : Pos} {kt k2 : Nat} {ms : R (List D × D)} (i j l : Nat) {mr : D × D → List D × D → R (Fl α β)} (ha : JFA c X Γ i t [a, e2] ms)
    (hr : ∀ (p : D × D) (r : List D × D), JN c X en enL (((Γ.set i (.ow t r.2)).set j (.fz p.1)).set l (.fz p.2)) rest (mr p r))
    (hi : X.N[j]? = some x := by rfl) (hj : X.N[l]? = some y := by rfl) (hij : j ≠ l := by decide) (hx : X.env.scope.names.lookup x = some .local := by rfl) (hy : X.env.scope.names.lookup y = some .local := by rfl)
    (hw : swappedStores [.Tuple [.Name x px, .Name y py] kt pt] (.Tuple [a, e2] k2 pt2) X.env = pure (some [x, y]) := by rfl)
    (hs : swapsWithSole [.Tuple [.Name x px, .Name y py] kt pt] (.Tuple [a, e2] k2 pt2) pos.line X.env = pure false := by rfl) :
    JN c X en enL Γ (.Assign [.Tuple [.Name x px, .Name y py] kt pt] (.Tuple [a, e2] k2 pt2) pos :: rest) (ms.bind fun r => (un2L r.1).bind fun p => mr p r) := by
  refine pss_imp (pss_cons (ps_par S.calm S.nd hi hj hij hx hy ha.pa hw hs) (pss_ex fun d : (D × D) × (List D × D) => hr d.1 d.2)) fun Dn σ H ⟨O, ok, q⟩ => ⟨O, ok, RE.ex (q.bind.imp fun r k vs H1 ok1 fz1 r1 => ?_)⟩
  obtain ⟨ds, b'⟩ := r
  change RE ((un2L ds).bind fun p => mr p (ds, b')) (FlOk c en enL H Dn) (fun e => c.X e) at k
  unfold un2L at k
  split at k
  · rename_i d1 d2
    have k := RE.okk k
    have r1 : RpL c.K c.mg H1 [d1, d2] vs := r1
    obtain ⟨v1, r, rfl, w1, w⟩ := RpL.cons.mp r1
    obtain ⟨v2, r, rfl, w2, w⟩ := RpL.cons.mp w
    rw [RpL.nil] at w
    subst w
    exact ⟨v1, v2, rfl, ((d1, d2), ([d1, d2], b')), O, ((ok1.setFz j w1).setFz l w2), k.imp fun fl f => f.fz fz1⟩
  · exact (RE.badd k).elim
/-! ### what is walked, the bag being changed -/
def tIF (c : DC) (Γ : SEnv) (i t : Nat) (loose : Bool) (m : R (List D × D)) : TI := fun σ H R => ∃ O, EnvOk c O Γ σ H ∧ RE m (fun r => ∀ J H1, EnvOk c O (Γ.set i (.ow t r.2)) σ H1 → Fz H H1 → WalkD c loose Fz J r.1 H1 → R J H1) (fun e => c.E e Γ)
def JIF (loose : Bool) (c : DC) (X : Cx) (Γ : SEnv) (i t : Nat) (tg e : Expr) (m : R (List D × D)) : Prop := PI X tg e (tIF c Γ i t loose m)
theorem jif_range1 {tg : Expr} (ha : JF c X Γ i t a mf) (hg : Gl X "range") (hm : X.mg "range" = none) (hs : starEach [a] X.env = [(false, eval a X.env)] := by rfl) : JIF false c X Γ i t tg (.Call (.Name "range" p) [a] [] pos) (mf.bind fun r => (dRng1 r.1).bind fun ds => .ok (ds, r.2)) := by
  refine pi_imp (pi_range1 hg hm (pa_cons ha pa_nil hs) hs) fun σ H R ⟨O, ok, q⟩ => ⟨O, ok, q.bind.imp fun r k v H1 ok1 fz1 r1 => ?_⟩
  obtain ⟨d, b'⟩ := r
  change RE ((dRng1 d).bind fun ds => .ok (ds, b')) (fun r => ∀ J H1, EnvOk c O (Γ.set i (.ow t r.2)) σ H1 → Fz H H1 → WalkD c false Fz J r.1 H1 → R J H1) (fun e => c.E e Γ) at k
  cases d with
  | int j =>
    have r1 : Rp c.K c.mg H1 (.int j) v := r1
    rw [Rp] at r1
    subst r1
    change RE ((dRange 0 j).bind fun ds => .ok (ds, b')) (fun r => ∀ J H1, EnvOk c O (Γ.set i (.ow t r.2)) σ H1 → Fz H H1 → WalkD c false Fz J r.1 H1 → R J H1) (fun e => c.E e Γ) at k
    unfold dRange at k
    split at k
    · rename_i h
      have k := RE.okk k
      refine ⟨j, rfl, h.2.2.1, h.2.2.2.1, ?_⟩
      have := k (Itr 0 (j - 0).toNat) H1 ok1 fz1 (walkD_range h.2.2.2.2)
      simpa using this
    · exact (RE.badd k).elim
  | _ => exact (RE.badd k).elim
end
section
variable {α : Type} {c : DC} {X : Cx} {Γ : SEnv} {i : Nat} {t : Nat} {b : D} {loose : Bool} {tg iter elt : Expr} {scope : Scope} {own : List (Str × Nat)} {pos : Pos} {is : List Nat} {g : TG} {un : D → R α} {up : α → SEnv → SEnv} {mi : R (List D × D)} {me : α → D → R (D × D)}
theorem only_set {b' : D} (gb : Γ[i]? = some (.ow t b)) : SEnv.only (Γ.set i (.ow t b')) = Γ.only := by
  unfold SEnv.only
  rw [List.map_set]
  exact set_self (by rw [List.getElem?_map, gb]; rfl)
theorem jfo_lcF (S : Cok c X) (hi : JIF loose c X Γ i t tg iter mi) (sg : ∀ G, SG (c.innG G) loose is g un up) (ok : BlkOk X.N X.env.scope scope own) (his : ∀ k ∈ is, k ∈ own.map (·.2)) (hio : i ∉ own.map (·.2))
    (gb : Γ[i]? = some (.ow t b)) (nv : Γ.noVw = true) (nv2 : ∀ b', SEnv.noVw (Γ.set i (.ow t b')) = true)
    (hg : ∀ (s : Shared) (H : Hp) (C : Addr) (cl : List (Str × Addr)) (fp : List Addr), Cok c.inn (X.blk s H scope (compEnvC scope cl C X.env) fp) → PG (X.blk s H scope (compEnvC scope cl C X.env) fp) tg g)
    (he : ∀ (s : Shared) (H : Hp) (C : Addr) (cl : List (Str × Addr)) (fp : List Addr) (G : Hp), Cok (c.innG G) (X.blk s H scope (compEnvC scope cl C X.env) fp) → ∀ (a : α) (b' : D), JF (c.innG G) (X.blk s H scope (compEnvC scope cl C X.env) fp) (up a (Γ.innI (own.map (·.2)) i t b')) i t elt (me a b'))
    (hget : ∀ a b', (up a (Γ.innI (own.map (·.2)) i t b'))[i]? = some (.ow t b'))
    (hs : ∀ x, foldedSetIterable iter X.env x = pure x := by intro _; rfl) :
    JFO c X Γ i t (.ListComp elt [⟨tg, iter, [], 0⟩] scope pos) (mi.bind fun r => (compF (fun d b => (un d).bind fun a => me a b) r.1 r.2).bind fun w => .ok (.lst w.1, w.2)) := by
  refine pe_imp (pe_lc (te := fun σ H Q => ∃ G a b', tF (c.innG G) (up a (Γ.innI (own.map (·.2)) i t b')) i t (me a b') σ H Q) S.calm S.nd hi ok (fun s H C cl fp => hg s H C cl fp S.blk) (fun s H C cl fp => pts_nil)
    (fun s H C cl fp => ⟨fun pins t σ H' Q I ⟨G, a, b', q⟩ => (he s H C cl fp G ⟨S.K, S.mg, S.w, S.calm, S.un, S.gd, S.nd⟩ a b').run pins t σ H' Q I q⟩) hs) fun σ H Q ⟨O, okE0, q⟩ => ⟨O, okE0, q.bind.imp fun r k J H1 okE fz01 w => ?_⟩
  obtain ⟨ds, b0⟩ := r
  intro D nD
  have hlt : i < Γ.length := (List.getElem?_eq_some_iff.mp gb).1
  have gb1 : (Γ.set i (.ow t b0))[i]? = some (.ow t b0) := by rw [List.getElem?_set_self hlt]
  have einn : ∀ b', SEnv.innI (Γ.set i (.ow t b0)) (own.map (·.2)) i t b' = Γ.innI (own.map (·.2)) i t b' := fun b' => by unfold SEnv.innI; rw [only_set gb]
  have eset : ∀ b' : PD.D, (Γ.set i (.ow t b0)).set i (.ow t b') = Γ.set i (.ow t b') := fun b' => List.set_set ..
  obtain ⟨p, e1, _, _, ho⟩ := okE.sl i _ gb1
  obtain ⟨ob, hob⟩ := ho.at
  have hDp : D ≠ p := fun z => by
    rw [z] at nD; rw [hob] at nD; cases nD
  refine lc_it (g := g) (tt := tYes) (te := fun σ H Q => ∃ G a b', tF (c.innG G) (up a (Γ.innI (own.map (·.2)) i t b')) i t (me a b') σ H Q) (vs := own.map (·.2)) (σ := σ) (H1 := H1) (D := D) (Qd := fun H => Q (.ref D) H) w.walk
    (fun n H' => Fz H1 H' ∧ ExtP p H1 H' ∧ ∃ b' acc out, Own c.K c.mg H' p b' ∧ H' D = some (.lst acc) ∧ RpL c.K c.mg H' out acc ∧ out.length ≤ n ∧
      RE (compF (fun d b => (un d).bind fun a => me a b) (ds.drop n) b') (fun w => ∀ p' H'', EnvOk c O (Γ.set i (.ow t w.2)) σ H'' → Fz H H'' → Own c.K c.mg H'' p' (.lst (out ++ w.1)) → Q (.ref p') H'') (fun e => c.E e Γ)) ?_ ?_ ?_ ?_
  · exact ⟨Fz.of_same (same_new nD), fun a o _ z => same_new nD a o z, b0, [], [], ho.same (same_new nD), upd_same, RpL.nil.mpr rfl, Nat.le_refl _, (show RE (compF _ ds b0) _ _ from RE.bind k).imp fun l k => k⟩
  · exact fun n H' _ h => h.1
  · rintro n x H2 H3 hi2 ⟨fz, xt, b', acc, out, hb, hD, hr, hlen, k2⟩ y
    obtain ⟨d, hd, s2, yd⟩ := w.yields n H2 x H3 hi2 fz y
    rw [drop_cons hd, compF] at k2
    obtain ⟨op, hf, k3⟩ := RE.nox (RE.bind k2)
    obtain ⟨a, hu, hf⟩ := R.bind_eq_ok hf
    have hb3 := hb.same s2
    have ok3 := okE.innI gb1 e1 (fz.trans (Fz.of_same s2)) hb3 hio
    rw [einn] at ok3
    refine (sg _).1 ok3 yd hu fun σ' chg ok' => ⟨(chg _ his).trans (wipe_idem _ _), ?_⟩
    refine ⟨_, a, b', _, ok', ?_⟩
    rw [hf]
    intro v H4 ok4 fz4 rp4
    have hD4 : H4 D = some (.lst acc) := (ok4.kp D _ (.inl (by show (if D = p then none else H3 D) = some _; rw [if_neg hDp]; exact s2 _ _ hD))).1
    have hl := (List.getElem?_eq_some_iff.mp (hget a b')).1
    obtain ⟨p', _, ep, _, ho4⟩ := ok4.sl i (.ow t op.2) (by rw [List.getElem?_set_self hl])
    cases (show p' = p from ep)
    have fzu := fz_upd (o' := .lst (acc ++ [v])) hD4 trivial
    have hlo : out.length = acc.length := hr.length.symm
    have hz := w.size
    refine ⟨acc, hD4, by omega, ((fz.trans (Fz.of_same s2)).trans fz4).trans fzu, fun a' o' hne z => ?_, op.2, acc ++ [v], out ++ [op.1], Own.stay fzu (fun o z => by rw [upd_ne (Ne.symm hDp)]; exact z) ho4, upd_same, ((((hr.same s2).stay fz4).append (RpL.one rp4)).stay fzu), by rw [List.length_append, List.length_singleton]; omega, (show RE (compF _ (ds.drop (n + 1)) op.2) _ _ from RE.bind k3).imp fun l k => ?_⟩
    · rw [upd_ne (ne_of_none z nD)]
      exact (ok4.kp a' o' (.inl (by show (if a' = p then none else H3 a') = some _; rw [if_neg hne]; exact s2 _ _ (xt _ _ hne z)))).1
    · have k : ∀ p' H'', EnvOk c O (Γ.set i (.ow t l.2)) σ H'' → Fz H H'' → Own c.K c.mg H'' p' (.lst (out ++ op.1 :: l.1)) → Q (.ref p') H'' := k
      intro p' H'' e1 e2 e3
      rw [List.append_assoc] at e3
      exact k p' H'' e1 e2 e3
  · rintro H' ⟨fz, xt, b', acc, out, hb, hD, hr, hlen, k2⟩
    rw [List.drop_length, compF] at k2
    have k2 : ∀ p' H'', EnvOk c O (Γ.set i (.ow t b')) σ H'' → Fz H H'' → Own c.K c.mg H'' p' (.lst (out ++ [])) → Q (.ref p') H'' := k2
    have okF := okE.put gb1 e1 (nv2 b0) xt fz hb
    rw [eset] at okF
    refine k2 D H' okF (fz01.trans fz) ?_
    rw [List.append_nil]
    exact ⟨acc, hD, hr⟩
end
end PD
end

section
/-! PD31: name = [.. for .. for ..] on one line; defs handed in by name. -/
namespace PD
open PySem PySem.Spec L2
open PyProof.Rows hiding St
open PySem.PyData (strOk)
section
variable {α' α β γ δ : Type} {c : DC} {X : Cx} {Γ : SEnv} {en : γ → SEnv} {enL : δ → SEnv} {x : Str} {rest : List Stmt} {mr : D → R (Fl γ δ)}
theorem jn_setLc2 (S : Cok c X) {loose loose1 : Bool} {tg iter tg1 iter1 elt : Expr} {ifs ifs1 : List Expr} {scope : Scope} {own : List (Str × Nat)} {vs1 : List Nat} {pos pos' py : Pos} {is is1 : List Nat} {g g1 : TG} {un : D → R α} {un1 : D → R β} {up : α → SEnv → SEnv} {up1 : β → SEnv → SEnv}
    {mi : R (List D)} {mi1 : α → R (List D)} {mt : α → R Bool} {mt1 : α → β → R Bool} {me : α → β → R D}
    (i : Nat) (hy : X.N[i]? = some x) (hyl : X.env.scope.names.lookup x = some .local) (hsw : swapsWith (.ListComp elt [⟨tg, iter, ifs, 0⟩, ⟨tg1, iter1, ifs1, 0⟩] scope pos) (some (.Name x py)) pos'.line X.env = pure true)
    (hi : JI loose Same c X Γ tg iter mi) (sg : SG c.inn loose is g un up) (sg1 : SG c.inn loose1 is1 g1 un1 up1) (ok : BlkOk X.N X.env.scope scope own) (his : ∀ i ∈ is, i ∈ own.map (·.2)) (his1 : ∀ i ∈ is1, i ∈ vs1) (hv1 : ∀ i ∈ vs1, i ∈ own.map (·.2))
    (hfl : ∀ a, SEnv.flat (up a (SEnv.wipe Γ.only (own.map (·.2)))) = true)
    (hg : ∀ (s : Shared) (H : Hp) (C : Addr) (cl : List (Str × Addr)) (fp : List Addr), Cok c.inn (X.blk s H scope (compEnvC scope cl C X.env) fp) → PG (X.blk s H scope (compEnvC scope cl C X.env) fp) tg g)
    (ht : ∀ (s : Shared) (H : Hp) (C : Addr) (cl : List (Str × Addr)) (fp : List Addr), Cok c.inn (X.blk s H scope (compEnvC scope cl C X.env) fp) → ∀ a : α, JTs c.inn (X.blk s H scope (compEnvC scope cl C X.env) fp) (up a (SEnv.wipe Γ.only (own.map (·.2)))) ifs (mt a))
    (hi1 : ∀ (s : Shared) (H : Hp) (C : Addr) (cl : List (Str × Addr)) (fp : List Addr), Cok c.inn (X.blk s H scope (compEnvC scope cl C X.env) fp) → ∀ a : α, JI loose1 Fz c.inn (X.blk s H scope (compEnvC scope cl C X.env) fp) (up a (SEnv.wipe Γ.only (own.map (·.2)))) tg1 iter1 (mi1 a))
    (hg1 : ∀ (s : Shared) (H : Hp) (C : Addr) (cl : List (Str × Addr)) (fp : List Addr), Cok c.inn (X.blk s H scope (compEnvC scope cl C X.env) fp) → PG (X.blk s H scope (compEnvC scope cl C X.env) fp) tg1 g1)
    (ht1 : ∀ (s : Shared) (H : Hp) (C : Addr) (cl : List (Str × Addr)) (fp : List Addr), Cok c.inn (X.blk s H scope (compEnvC scope cl C X.env) fp) → ∀ (a : α) (b : β), JTs c.inn (X.blk s H scope (compEnvC scope cl C X.env) fp) (up1 b (SEnv.wipe (up a (SEnv.wipe Γ.only (own.map (·.2)))) vs1)) ifs1 (mt1 a b))
    (he : ∀ (s : Shared) (H : Hp) (C : Addr) (cl : List (Str × Addr)) (fp : List Addr), Cok c.inn (X.blk s H scope (compEnvC scope cl C X.env) fp) → ∀ (a : α) (b : β), JE c.inn (X.blk s H scope (compEnvC scope cl C X.env) fp) (up1 b (SEnv.wipe (up a (SEnv.wipe Γ.only (own.map (·.2)))) vs1)) elt (me a b))
    (hr : ∀ d, JN c X en enL (Γ.set i (.ow 0 d)) rest (mr d))
    (hs : ∀ x, foldedSetIterable iter X.env x = pure x := by intro _; rfl) (hs1 : ∀ env x, foldedSetIterable iter1 env x = pure x := by intro _ _; rfl) :
    JN c X en enL Γ (.Assign [.Name x py] (.ListComp elt [⟨tg, iter, ifs, 0⟩, ⟨tg1, iter1, ifs1, 0⟩] scope pos) pos' :: rest) ((mi.bind fun ds => ((compR2 (fun d => (un d).bind fun a => (mt a).bind fun t => if t = true then (mi1 a).bind fun ds1 => compR (fun d1 => (un1 d1).bind fun b => (mt1 a b).bind fun t => if t = true then (me a b).bind fun x => .ok (some x) else .ok none) ds1 else .ok []) ds).bind szOk).bind fun l => .ok (.lst l)).bind mr) :=
  pss_imp (pss_cons (ps_setLc2 (vs1 := vs1) (tt := fun σ H Q => ∃ a, tT c.inn (up a (SEnv.wipe Γ.only (own.map (·.2)))) (mt a) σ H Q) (wi1 := fun σ H R => ∃ a, tI c.inn (up a (SEnv.wipe Γ.only (own.map (·.2)))) loose1 Fz (mi1 a) σ H R) (tt1 := fun σ H Q => ∃ a b, tT c.inn (up1 b (SEnv.wipe (up a (SEnv.wipe Γ.only (own.map (·.2)))) vs1)) (mt1 a b) σ H Q) (te := fun σ H Q => ∃ a b, tR c.inn (up1 b (SEnv.wipe (up a (SEnv.wipe Γ.only (own.map (·.2)))) vs1)) (me a b) σ H Q) S.calm S.nd hy hyl hsw hi ok hv1 (fun s H C cl fp => hg s H C cl fp S.blk) (fun s H C cl fp => ⟨fun pins t σ H' Q I ⟨a, q⟩ => (ht s H C cl fp S.blk a).run pins t σ H' Q I q⟩)
    (fun s H C cl fp => ⟨fun pins t σ H' Q I ⟨a, q⟩ => (hi1 s H C cl fp S.blk a).run pins t σ H' Q I q⟩) (fun s H C cl fp => hg1 s H C cl fp S.blk) (fun s H C cl fp => ⟨fun pins t σ H' Q I ⟨a, b, q⟩ => (ht1 s H C cl fp S.blk a b).run pins t σ H' Q I q⟩)
    (fun s H C cl fp => ⟨fun pins t σ H' Q I ⟨a, b, q⟩ => (he s H C cl fp S.blk a b).run pins t σ H' Q I q⟩) hs hs1) (pss_ex hr))
    fun Dn σ H ⟨O, ok, q⟩ => tlc2_of sg sg1 his his1 hfl σ H (fun x H1 => ∃ d, tS c en enL (Γ.set i (.ow 0 d)) (mr d) Dn (σ.set i (some x)) H1) ⟨O, ok, RE.ex (q.bind.imp fun d k p H' s n r => ⟨d, tS_setOw ok s n r k⟩)⟩
def chkFn (x : Str) : D → R Unit
  | .fn y => if y = x then .ok () else .bad
  | _ => .bad
theorem jn_chk {m : R (Fl γ δ)} {b : D} {G : D → SEnv} {sts : List Stmt} (h : JN c X en enL (G (.fn x)) sts m) : JN c X en enL (G b) sts ((chkFn x b).bind fun _ => m) := by
  unfold chkFn
  split
  · split
    · rename_i e; subst e; rw [R.bind_ok]; exact h
    · rw [R.bind_bad]; exact jn_bad
  · rw [R.bind_bad]; exact jn_bad
theorem done_chk {m : R (Fl Unit Empty)} {b : D} : done ((chkFn x b).bind fun _ => m) = (chkFn x b).bind fun _ => done m := by
  unfold chkFn
  split
  · split <;> simp [done]
  · simp [done]
@[simp] theorem chkFn_ok (x : Str) : chkFn x (.fn x) = .ok () := by unfold chkFn; exact if_pos rfl
end
/-! ### several at once, some names being cells -/
section
variable {α β : Type} {c : DC} {X : Cx} {Γ : SEnv} {en : α → SEnv} {enL : β → SEnv} {rest : List Stmt} {pos : Pos} {x y z : Str}
theorem jn_parC2 (S : Cok c X) {f f2 : Bool} {a e2 : Expr} {ma m2 : R D} {px py pt pt2 : Pos} {kt k2 : Nat} (i j : Nat) {mr : D → D → R (Fl α β)} (ha : JX f c X Γ a ma) (hb : JX f2 c X Γ e2 m2)
    (hr : ∀ d1 d2, JN c X en enL ((Γ.set i (slA f d1)).set j (slA f2 d2)) rest (mr d1 d2))
    (hg : PG X (.Tuple [.Name x px, .Name y py] kt pt) (gTup X.K 2 (gCons (gName i) (gCons (gName j) gNil))))
    (hw : swappedStores [.Tuple [.Name x px, .Name y py] kt pt] (.Tuple [a, e2] k2 pt2) X.env = pure none := by rfl)
    (hs : swapsWithSole [.Tuple [.Name x px, .Name y py] kt pt] (.Tuple [a, e2] k2 pt2) pos.line X.env = pure false := by rfl)
    (ho : (assignEach [.Tuple [.Name x px, .Name y py] kt pt] X.env).map (·.2) = [assign (.Tuple [.Name x px, .Name y py] kt pt) X.env] := by rfl)
    (h1 : starEach [a, e2] X.env = (false, eval a X.env) :: starEach [e2] X.env := by rfl) (h2 : starEach [e2] X.env = (false, eval e2 X.env) :: starEach [] X.env := by rfl) :
    JN c X en enL Γ (.Assign [.Tuple [.Name x px, .Name y py] kt pt] (.Tuple [a, e2] k2 pt2) pos :: rest) (ma.bind fun d1 => m2.bind fun d2 => mr d1 d2) := by
  refine pss_imp (pss_cons (ps_asg (pe_tupF (pa_cons ha (pa_cons hb pa_nil h2) h1)) hg hs hw ho) (pss_ex fun d : D × D => hr d.1 d.2)) fun Dn σ H ⟨O, ok, q⟩ => ⟨O, ok, RE.ex (q.bind.imp fun d1 q1 v1 H1 s1 r1 => ⟨O, ok.same s1, RE.ex (q1.bind.imp fun d2 q2 v2 H2 s2 r2 => ?_)⟩)⟩
  refine ⟨by rw [sizeLine_eq]; show 2 ≤ 16777216; omega, fun p o n dn => ⟨p, _, rfl, .inl (.inr ⟨o, upd_same⟩), rfl, v1, _, rfl, v2, _, rfl, rfl, (d1, d2), ?_⟩⟩
  have s4 : Same H2 (upd H2 p (.frz o (.tup [v1, v2]))) := same_new n
  have kk := q2.imp fun fl (f : FlOk c en enL H Dn fl) => f.fz (((Fz.of_same s1).trans (Fz.of_same s2)).trans (Fz.of_same s4))
  obtain ⟨O1, o1⟩ := ok.setA s1 (Same.refl H1) i r1
  obtain ⟨O2, o2⟩ := o1.setA s2 s4 j r2
  exact ⟨O2, o2, kk⟩
theorem jn_parC3 (S : Cok c X) {f f2 f3 : Bool} {a e2 e3 : Expr} {ma m2 m3 : R D} {px py pz pt pt2 : Pos} {kt k2 : Nat} (i j l : Nat) {mr : D → D → D → R (Fl α β)} (ha : JX f c X Γ a ma) (hb : JX f2 c X Γ e2 m2) (hc : JX f3 c X Γ e3 m3)
    (hr : ∀ d1 d2 d3, JN c X en enL (((Γ.set i (slA f d1)).set j (slA f2 d2)).set l (slA f3 d3)) rest (mr d1 d2 d3))
    (hg : PG X (.Tuple [.Name x px, .Name y py, .Name z pz] kt pt) (gTup X.K 3 (gCons (gName i) (gCons (gName j) (gCons (gName l) gNil)))))
    (hw : swappedStores [.Tuple [.Name x px, .Name y py, .Name z pz] kt pt] (.Tuple [a, e2, e3] k2 pt2) X.env = pure none := by rfl)
    (hs : swapsWithSole [.Tuple [.Name x px, .Name y py, .Name z pz] kt pt] (.Tuple [a, e2, e3] k2 pt2) pos.line X.env = pure false := by rfl)
    (ho : (assignEach [.Tuple [.Name x px, .Name y py, .Name z pz] kt pt] X.env).map (·.2) = [assign (.Tuple [.Name x px, .Name y py, .Name z pz] kt pt) X.env] := by rfl)
    (h1 : starEach [a, e2, e3] X.env = (false, eval a X.env) :: starEach [e2, e3] X.env := by rfl) (h2 : starEach [e2, e3] X.env = (false, eval e2 X.env) :: starEach [e3] X.env := by rfl) (h3 : starEach [e3] X.env = (false, eval e3 X.env) :: starEach [] X.env := by rfl) :
    JN c X en enL Γ (.Assign [.Tuple [.Name x px, .Name y py, .Name z pz] kt pt] (.Tuple [a, e2, e3] k2 pt2) pos :: rest) (ma.bind fun d1 => m2.bind fun d2 => m3.bind fun d3 => mr d1 d2 d3) := by
  refine pss_imp (pss_cons (ps_asg (pe_tupF (pa_cons ha (pa_cons hb (pa_cons hc pa_nil h3) h2) h1)) hg hs hw ho) (pss_ex fun d : D × D × D => hr d.1 d.2.1 d.2.2)) fun Dn σ H ⟨O, ok, q⟩ => ⟨O, ok, RE.ex (q.bind.imp fun d1 q1 v1 H1 s1 r1 => ⟨O, ok.same s1, RE.ex (q1.bind.imp fun d2 q2 v2 H2 s2 r2 => ⟨O, (ok.same s1).same s2, RE.ex (q2.bind.imp fun d3 q3 v3 H3 s3 r3 => ?_)⟩)⟩)⟩
  refine ⟨by rw [sizeLine_eq]; show 3 ≤ 16777216; omega, fun p o n dn => ⟨p, _, rfl, .inl (.inr ⟨o, upd_same⟩), rfl, v1, _, rfl, v2, _, rfl, v3, _, rfl, rfl, (d1, d2, d3), ?_⟩⟩
  have s4 : Same H3 (upd H3 p (.frz o (.tup [v1, v2, v3]))) := same_new n
  have kk := q3.imp fun fl (f : FlOk c en enL H Dn fl) => f.fz ((((Fz.of_same s1).trans (Fz.of_same s2)).trans (Fz.of_same s3)).trans (Fz.of_same s4))
  obtain ⟨O1, o1⟩ := ok.setA s1 (Same.refl H1) i r1
  obtain ⟨O2, o2⟩ := o1.setA s2 (Same.refl H2) j r2
  obtain ⟨O3, o3⟩ := o2.setA s3 s4 l r3
  exact ⟨O3, o3, kk⟩
end
/-! ### a test that is e1 if test else e2 -/
section
variable {c : DC} {X : Cx} {Γ : SEnv} {tst a b : Expr} {mt ma mb : R Bool} {pos : Pos}
theorem isTrue_ifExp {env : Env} {whole : Sem Value} : isTrue (.IfExp tst a b pos) env whole = (do if ← isTrue tst env (eval tst env) then isTrue a env (eval a env) else isTrue b env (eval b env)) := by rfl
theorem jt_if (ht : JT c X Γ tst mt) (ha : JT c X Γ a ma) (hb : JT c X Γ b mb) : JT c X Γ (.IfExp tst a b pos) (mt.bind fun t => if t = true then ma else mb) := by
  refine ⟨fun pins s σ H Q I ⟨O, ok, q⟩ => ?_⟩
  rw [isTrue_ifExp]
  have q := q.bind
  refine wpAny_bind (thn (ht.run pins s σ H (fun t H1 => Same H H1 ∧ RE (if t = true then ma else mb) (fun b => ∀ H', Same H H' → Q b H') (fun e => c.E e Γ)) I ⟨O, ok, q.imp fun t k H1 s1 => ⟨s1, k⟩⟩) fun d s1 ⟨H1, I1, sm, q1⟩ => ?_)
  cases d with
  | true => exact ha.run pins s1 σ H1 Q I1 ⟨O, ok.same sm, RE.imp q1 fun b k H' s' => k H' (sm.trans s')⟩
  | false => exact hb.run pins s1 σ H1 Q I1 ⟨O, ok.same sm, RE.imp q1 fun b k H' s' => k H' (sm.trans s')⟩
end
theorem jn_env {α β : Type} {c : DC} {X : Cx} {Γ : SEnv} {en : α → SEnv} {enL : β → SEnv} {rest : List Stmt} {m : R (Fl α β)} (Γ' : SEnv) (h : Γ = Γ') (hr : JN c X en enL Γ' rest m) : JN c X en enL Γ rest m := by rw [h]; exact hr
end PD
end

section
namespace DV
open PySem PySem.Spec L2 PD
open PyProof.Rows hiding St
def top (i : Nat) : Stmt := PySem.Challenge.pw_listworlds_k99_whole_logs_of_steps.main.body.getD i (.Pass ⟨0, 0, 0, 0⟩)
def k_RESERVED : List Str := ["and", "apart", "cell", "else", "free", "holds", "if", "is", "list", "new", "next", "none", "not", "of", "or", "row", "same", "step", "then", "to", "unlike", "while", "with", "world"]
def t_STEPS : List (Str × Tv) := [("set", .s "nt"), ("load", .s "nn"), ("store", .s "nt"), ("new", .s "n"), ("free", .s "n")]
def k_TESTS : List Str := ["same", "unlike"]
def t_KINDS : List (Str × Tv) := [("set", .fs ["is_name", "is_term_steps"]), ("load", .fs ["is_name", "is_name"]), ("store", .fs ["is_name", "is_term_steps"]), ("new", .fs ["is_name"]), ("free", .fs ["is_name"]), ("test", .fs ["is_test_word", "is_name", "is_term_steps"])]
structure MF (K : PySem.W.Frag) (w : World) (mg : Str → Option Value) : Prop where
  g_abs : mg "abs" = none
  g_all : mg "all" = none
  g_bool : mg "bool" = none
  g_dict : mg "dict" = none
  g_enumerate : mg "enumerate" = none
  g_int : mg "int" = none
  g_isinstance : mg "isinstance" = none
  g_len : mg "len" = none
  g_list : mg "list" = none
  g_min : mg "min" = none
  g_range : mg "range" = none
  g_repr : mg "repr" = none
  g_sorted : mg "sorted" = none
  g_str : mg "str" = none
  g_tuple : mg "tuple" = none
  g_zip : mg "zip" = none
  s_LETTERS : ∃ t, mg "LETTERS" = some (.str "abcdefghijklmnopqrstuvwxyz" t)
  s_DIGITS : ∃ t, mg "DIGITS" = some (.str "0123456789" t)
  i_MOST_LETTERS : ∃ t, mg "MOST_LETTERS" = some (.int 8 t)
  t_RESERVED : GTup K mg "RESERVED" k_RESERVED
  d_STEPS : GTab K w mg "STEPS" (dtab t_STEPS)
  i_MOST_NAMES : ∃ t, mg "MOST_NAMES" = some (.int 8 t)
  i_MOST_CELLS_memories : ∃ t, mg "MOST_CELLS_memories" = some (.int 60 t)
  i_MOST_PLACE : ∃ t, mg "MOST_PLACE" = some (.int 1000000000 t)
  i_MOST_CELLS_steps : ∃ t, mg "MOST_CELLS_steps" = some (.int 60 t)
  t_TESTS : GTup K mg "TESTS" k_TESTS
  d_KINDS : GTab K w mg "KINDS" (dtab t_KINDS)
  i_MOST_ROWS : ∃ t, mg "MOST_ROWS" = some (.int 200 t)
  f_is_step_forms : ∃ f, mg "is_step_forms" = some (.ref f)
  f_is_told : ∃ f, mg "is_told" = some (.ref f)
  e_Nothing : ∀ C, mg "Nothing" = some (.ref C) → PySem.W.exmOne K (.ref C) (.ref C) = some true
  x_Nothing : ∃ C, ExCls K mg "Nothing" C
theorem bt_abs : bootBuiltins "abs" = some (.builtin "abs") := by decide +kernel
theorem bt_all : bootBuiltins "all" = some (.builtin "all") := by decide +kernel
theorem bt_bool : bootBuiltins "bool" = some (.type "bool") := by decide +kernel
theorem bt_dict : bootBuiltins "dict" = some (.type "dict") := by decide +kernel
theorem bt_int : bootBuiltins "int" = some (.type "int") := by decide +kernel
theorem bt_len : bootBuiltins "len" = some (.builtin "len") := by decide +kernel
theorem bt_list : bootBuiltins "list" = some (.type "list") := by decide +kernel
theorem bt_min : bootBuiltins "min" = some (.builtin "min") := by decide +kernel
theorem bt_sorted : bootBuiltins "sorted" = some (.builtin "sorted") := by decide +kernel
theorem bt_str : bootBuiltins "str" = some (.type "str") := by decide +kernel
theorem bt_tuple : bootBuiltins "tuple" = some (.type "tuple") := by decide +kernel
def fm_Nothing (e : Str) : Option Bool := if e = "Nothing" then some true else none
theorem hfm_Nothing {K : PySem.W.Frag} {w : World} {mg : Str → Option Value} (M : MF K w mg) : ∀ e C' b, mg e = some (.ref C') → fm_Nothing e = some b → PySem.W.exmOne K (.ref C') (.ref (M.x_Nothing).choose) = some b := fun e C' b h1 h2 => by
  unfold fm_Nothing at h2
  split at h2
  · rename_i e1
    cases h2
    rw [e1, (M.x_Nothing).choose_spec.gC] at h1
    cases h1
    exact M.e_Nothing _ (M.x_Nothing).choose_spec.gC
  · cases h2
variable {P : Program} {w : World} {K : PySem.W.Frag} {mg : Str → Option Value} {base : Heap} {f : Addr} {cdv : Value} {A : Around} {outer : List Env} {s : Shared} {H : Hp} {E : XK}
def m__law_alike (v_found v_due : D) : R (Fl Unit Empty) :=
  ((((((R.ok v_found).bind fun x => (dShown x).bind fun s => (R.ok v_due).bind fun y => (dShown y).bind fun t => .ok (decide (s = t))).bind fun t => .ok (.bl t)).bind asB).bind fun t => if t = true then (((R.ok v_found).bind fun x => (R.ok v_due).bind fun y => dEq x y).bind fun t => .ok (.bl t)) else .ok (.bl false)).bind fun d => .ok (.rt d none))
def F__law_alike (v_found v_due : D) : R D := done (m__law_alike v_found v_due)
def L__law_bag_0 : D → R (Option D) :=
  fun (d : D) => (R.ok d).bind fun v_cell => (R.ok true).bind fun t => if t = true then ((R.ok v_cell).bind dAbs).bind fun x => .ok (some x) else .ok none
def m__law_bag (v_script : D) : R (Fl Unit Empty) :=
  ((((R.ok (D.int 0)).bind fun d => ((R.ok (D.int 1234567891)).bind fun d => ((R.ok (D.int 0)).bind fun d => (((((R.ok v_script).bind fun x => (R.ok none).bind fun l => ((R.ok (D.int 63)).bind asI).bind fun h => dSl x l h).bind dIter).bind fun ds => (compR L__law_bag_0 ds).bind fun l => .ok (.lst l)).bind fun d => (R.ok []).bind fun ds => .ok (d :: ds)).bind fun ds => .ok (d :: ds)).bind fun ds => .ok (d :: ds)).bind fun ds => .ok (d :: ds)).bind fun ds => .ok (.lst ds)).bind fun d => .ok (.rt d none))
def F__law_bag (v_script : D) : R D := doneO (m__law_bag v_script)
def K__law_take_0 (v_cell : D) : (D) → R (Fl (D) (Empty)) :=
  fun (s0 : D) => ((((((R.ok s0).bind fun x => (R.ok (D.int 1)).bind fun y => dIx x y).bind fun x => (R.ok (D.int 48271)).bind fun y => dMul x y).bind fun x => (((R.ok v_cell).bind dInt).bind fun x => (R.ok (D.int 2147483647)).bind fun y => dMod x y).bind fun y => dAdd x y).bind fun x => ((R.ok (D.int 7919)).bind fun x => ((R.ok s0).bind fun x => (R.ok (D.int 2)).bind fun y => dIx x y).bind fun y => dMul x y).bind fun y => dAdd x y).bind fun v_stirred => ((((R.ok v_stirred).bind dInt).bind fun x => (R.ok (D.int 2147483647)).bind fun y => dMod x y).bind fun d => (R.ok (D.int 1)).bind fun k => (dPut s0 k d).bind fun v_bag3 => (.ok (.nx v_bag3))))
def K__law_take_1 (v_many : D) : (D) → R (Fl (Unit) (Empty)) :=
  fun (s1 : D) => ((((R.ok s1).bind fun x => (R.ok (D.int 0)).bind fun y => dIx x y).bind fun x => (R.ok (D.int 0)).bind fun y => dGt x y).bind fun t => if t = true then lft (((((R.ok s1).bind fun x => (R.ok (D.int 0)).bind fun y => dIx x y).bind dInt).bind fun x => (R.ok v_many).bind fun y => dMod x y).bind fun v_value => (((((R.ok s1).bind fun x => (R.ok (D.int 0)).bind fun y => dIx x y).bind dInt).bind fun x => (R.ok v_many).bind fun y => dFdiv x y).bind fun d => (R.ok (D.int 0)).bind fun k => (dPut s1 k d).bind fun v_bag4 => ((R.ok v_value).bind fun d => .ok (.rt d (some v_bag4))))) else (((((((R.ok s1).bind fun x => (R.ok (D.int 1)).bind fun y => dIx x y).bind fun x => (R.ok (D.int 1)).bind fun y => dAdd x y).bind fun x => (R.ok (D.int 39373)).bind fun y => dMul x y).bind dInt).bind fun x => (R.ok (D.int 1000000007)).bind fun y => dMod x y).bind fun v_begin => ((((((((R.ok v_begin).bind fun x => (R.ok v_begin).bind fun y => dMul x y).bind dInt).bind fun x => (R.ok (D.int 998244353)).bind fun y => dMod x y).bind fun x => (R.ok (D.int 30011)).bind fun y => dMul x y).bind dInt).bind fun x => (R.ok (D.int 998244353)).bind fun y => dMod x y).bind fun v_second => (((((R.ok v_second).bind fun x => (R.ok (D.int 7)).bind fun y => dFdiv x y).bind dInt).bind fun x => (R.ok v_many).bind fun y => dMod x y).bind fun d => .ok (.rt d (some s1))))))
def m__law_take (v_bag v_many : D) : R (Fl Unit Empty) :=
  (((((R.ok v_bag).bind fun x => (R.ok (D.int 0)).bind fun y => dIx x y).bind fun x => (R.ok (D.int 0)).bind fun y => dEq x y).bind fun t => if t = true then ((((((R.ok v_bag).bind fun x => (R.ok (D.int 3)).bind fun y => dIx x y).bind fun x => (((R.ok v_bag).bind fun x => (R.ok (D.int 2)).bind fun y => dIx x y).bind asI).bind fun l => (R.ok none).bind fun h => dSl x l h).bind fun x => (((R.ok (D.int 0)).bind fun d => (R.ok []).bind fun ds => .ok (d :: ds)).bind fun ds => .ok (.lst ds)).bind fun y => dCat x y).bind fun x => (R.ok (D.int 0)).bind fun y => dIx x y).bind fun v_cell => ((dLst v_bag).bind fun ds => (R.ok (D.int 2)).bind fun k => (oldAt ds k).bind fun o => (R.ok (D.int 1)).bind fun d => (addTo ds o d).bind fun v_bag1 => ((((R.ok v_cell).bind fun x => ((R.ok (D.int 10)).bind fun x => (R.ok (D.int 18)).bind fun y => dPow x y).bind fun y => dGe x y).bind fun t => if t = true then ((R.ok v_cell).bind fun d => (R.ok (D.int 0)).bind fun k => (dPut v_bag1 k d).bind fun v_bag2 => (.ok (.nx v_bag2))) else (.ok (.nx v_bag1))).bind (Fl.go (K__law_take_0 v_cell))))) else (.ok (.nx v_bag))).bind (Fl.go (K__law_take_1 v_many)))
def F__law_take (v_bag v_many : D) : R (D × D) := doneI (m__law_take v_bag v_many)
def m__law_some (v_bag v_things : D) : R (Fl Unit Empty) :=
  (((R.ok v_things).bind fun x => ((((R.ok v_things).bind dLen).bind fun d => (R.ok []).bind fun ds => .ok (d :: ds)).bind fun ds => nox (api1 F__law_take v_bag ds)).bind fun r => (dIx x r.1).bind fun d => .ok (d, r.2)).bind fun r => .ok (.rt r.1 (some r.2)))
def F__law_some (v_bag v_things : D) : R (D × D) := doneI (m__law_some v_bag v_things)
def m__law_drawn_step (v_bag v_names : D) : R (Fl Unit Empty) :=
  ((((((R.ok (D.str "set")).bind fun d => ((R.ok (D.str "load")).bind fun d => ((R.ok (D.str "store")).bind fun d => ((R.ok (D.str "new")).bind fun d => ((R.ok (D.str "free")).bind fun d => ((R.ok (D.str "load")).bind fun d => ((R.ok (D.str "store")).bind fun d => ((R.ok (D.str "test")).bind fun d => (R.ok []).bind fun ds => .ok (d :: ds)).bind fun ds => .ok (d :: ds)).bind fun ds => .ok (d :: ds)).bind fun ds => .ok (d :: ds)).bind fun ds => .ok (d :: ds)).bind fun ds => .ok (d :: ds)).bind fun ds => .ok (d :: ds)).bind fun ds => .ok (d :: ds)).bind fun ds => .ok (.lst ds)).bind fun d => (R.ok []).bind fun ds => .ok (d :: ds)).bind fun ds => nox (api1 F__law_some v_bag ds)).bind fun r0 => ((((((R.ok v_names).bind dListOf).bind fun d => (R.ok []).bind fun ds => .ok (d :: ds)).bind fun ds => nox (api1 F__law_some r0.2 ds)).bind fun r1 => (((((((R.ok .non).bind fun d => (R.ok []).bind fun ds => .ok (d :: ds)).bind fun ds => .ok (.lst ds)).bind fun x => ((R.ok v_names).bind dListOf).bind fun y => dAdd x y).bind fun d => (R.ok []).bind fun ds => .ok (d :: ds)).bind fun ds => nox (api1 F__law_some r1.2 ds)).bind fun r2 => (R.ok ([], r2.2)).bind fun s => .ok (r2.1 :: s.1, s.2)).bind fun s => .ok (r1.1 :: s.1, s.2)).bind fun r3 => (un2L r3.1).bind fun p0 => (((R.ok r0.1).bind fun x => (R.ok (D.str "test")).bind fun y => dEq x y).bind fun t => if t = true then lft (((((R.ok (D.str "test")).bind fun d => .ok (d, r3.2)).bind fun r4 => ((((((R.ok (D.str "same")).bind fun d => ((R.ok (D.str "unlike")).bind fun d => (R.ok []).bind fun ds => .ok (d :: ds)).bind fun ds => .ok (d :: ds)).bind fun ds => .ok (.lst ds)).bind fun d => (R.ok []).bind fun ds => .ok (d :: ds)).bind fun ds => nox (api1 F__law_some r4.2 ds)).bind fun r5 => (((R.ok p0.1).bind fun d => .ok (d, r5.2)).bind fun r6 => (((R.ok p0.2).bind fun d => .ok (d, r6.2)).bind fun r7 => (R.ok ([], r7.2)).bind fun s => .ok (r7.1 :: s.1, s.2)).bind fun s => .ok (r6.1 :: s.1, s.2)).bind fun s => .ok (r5.1 :: s.1, s.2)).bind fun s => .ok (r4.1 :: s.1, s.2)).bind fun r => .ok (.tup r.1, r.2)).bind fun r => .ok (.rt r.1 (some r.2))) else (((R.ok r0.1).bind fun x => (((R.ok (D.str "new")).bind fun d => ((R.ok (D.str "free")).bind fun d => (R.ok []).bind fun ds => .ok (d :: ds)).bind fun ds => .ok (d :: ds)).bind fun ds => .ok (.tup ds)).bind fun y => dIn x y).bind fun t => if t = true then lft ((((R.ok r0.1).bind fun d => ((R.ok p0.1).bind fun d => (R.ok []).bind fun ds => .ok (d :: ds)).bind fun ds => .ok (d :: ds)).bind fun ds => .ok (.tup ds)).bind fun d => .ok (.rt d (some r3.2))) else ((((R.ok r0.1).bind fun x => (R.ok (D.str "load")).bind fun y => dEq x y).bind fun t => if t = true then ((((R.ok r0.1).bind fun d => .ok (d, r3.2)).bind fun r8 => (((R.ok p0.1).bind fun d => .ok (d, r8.2)).bind fun r9 => (((((R.ok v_names).bind dListOf).bind fun d => (R.ok []).bind fun ds => .ok (d :: ds)).bind fun ds => nox (api1 F__law_some r9.2 ds)).bind fun r10 => (R.ok ([], r10.2)).bind fun s => .ok (r10.1 :: s.1, s.2)).bind fun s => .ok (r9.1 :: s.1, s.2)).bind fun s => .ok (r8.1 :: s.1, s.2)).bind fun r => .ok (.tup r.1, r.2)) else ((((R.ok r0.1).bind fun d => ((R.ok p0.1).bind fun d => ((R.ok p0.2).bind fun d => (R.ok []).bind fun ds => .ok (d :: ds)).bind fun ds => .ok (d :: ds)).bind fun ds => .ok (d :: ds)).bind fun ds => .ok (.tup ds)).bind fun d => .ok (d, r3.2))).bind fun r => .ok (.rt r.1 (some r.2)))))))
def F__law_drawn_step (v_bag v_names : D) : R (D × D) := doneI (m__law_drawn_step v_bag v_names)
def m__law_place (v_memory v_term : D) : R (Fl Unit Empty) :=
  ((((R.ok v_term).bind fun x => (R.ok .non).bind fun y => dIs x y).bind fun t => if t = true then (R.ok (D.int 0)) else ((((R.ok v_memory).bind fun x => (R.ok (D.int 0)).bind fun y => dIx x y).bind dDictOf).bind fun x => (R.ok v_term).bind fun y => dIx x y)).bind fun d => .ok (.rt d none))
def F__law_place (v_memory v_term : D) : R D := done (m__law_place v_memory v_term)
def L__law_step_0 (v_told : D) : D → R (Option D) :=
  fun (d : D) => (R.ok d).bind fun v_name => (R.ok true).bind fun t => if t = true then ((R.ok v_told).bind fun x => (R.ok v_name).bind fun y => dIx x y).bind fun x => .ok (some x) else .ok none
def L__law_step_1 : D → R (Option D) :=
  fun (d : D) => (R.ok d).bind fun v_place => (R.ok true).bind fun t => if t = true then (R.ok v_place).bind fun x => .ok (some x) else .ok none
def L__law_step_2 (v_cells : D) : D → R (Option D) :=
  fun (d : D) => (R.ok d).bind fun v_place1 => (R.ok true).bind fun t => if t = true then ((R.ok v_cells).bind fun x => (R.ok v_place1).bind fun y => dIx x y).bind fun x => .ok (some x) else .ok none
def L__law_step_3 (v_used : D) : D → R (Option D) :=
  fun (d : D) => (R.ok d).bind fun v_one => ((R.ok v_one).bind fun x => (R.ok v_used).bind fun y => dNotIn x y).bind fun t => if t = true then (R.ok v_one).bind fun x => .ok (some x) else .ok none
def L__law_step_4 (s3 : D × D) : D → R (Option D) :=
  fun (d : D) => (R.ok d).bind fun v_place3 => (R.ok true).bind fun t => if t = true then (((R.ok v_place3).bind fun d => (((R.ok s3.2).bind fun x => (R.ok v_place3).bind fun y => dIx x y).bind fun d => (R.ok []).bind fun ds => .ok (d :: ds)).bind fun ds => .ok (d :: ds)).bind fun ds => .ok (.tup ds)).bind fun x => .ok (some x) else .ok none
def L__law_step_5 (s3 : D × D) : D → R (Option D) :=
  fun (d : D) => (R.ok d).bind fun v_name1 => (R.ok true).bind fun t => if t = true then (((R.ok v_name1).bind fun d => (((R.ok s3.1).bind fun x => (R.ok v_name1).bind fun y => dIx x y).bind fun d => (R.ok []).bind fun ds => .ok (d :: ds)).bind fun ds => .ok (d :: ds)).bind fun ds => .ok (.tup ds)).bind fun x => .ok (some x) else .ok none
def K__law_step_0 : (D × D) → R (Fl (Unit) (Empty)) :=
  fun (s3 : D × D) => ((((R.ok (D.str "done")).bind fun d => ((((((((R.ok s3.1).bind dSorted).bind dIter).bind fun ds => (compR (L__law_step_5 s3) ds).bind fun l => .ok (.lst l)).bind dTuple).bind fun d => ((((((R.ok s3.2).bind dSorted).bind dIter).bind fun ds => (compR (L__law_step_4 s3) ds).bind fun l => .ok (.lst l)).bind dTuple).bind fun d => (R.ok []).bind fun ds => .ok (d :: ds)).bind fun ds => .ok (d :: ds)).bind fun ds => .ok (.tup ds)).bind fun d => (R.ok []).bind fun ds => .ok (d :: ds)).bind fun ds => .ok (d :: ds)).bind fun ds => .ok (.tup ds)).bind fun d => .ok (.rt d none))
def m__law_step (v_memory v_step : D) : R (Fl Unit Empty) :=
  ((((R.ok v_memory).bind fun x => (R.ok (D.int 0)).bind fun y => dIx x y).bind dDictOf).bind fun v_told => (((R.ok v_memory).bind fun x => (R.ok (D.int 1)).bind fun y => dIx x y).bind dDictOf).bind fun v_cells => ((R.ok v_step).bind fun x => (R.ok (D.int 0)).bind fun y => dIx x y).bind fun v_word => (((R.ok v_word).bind fun x => (R.ok (D.str "test")).bind fun y => dEq x y).bind fun t => if t = true then lft (((((R.ok v_memory).bind fun a => ((R.ok v_step).bind fun x => (R.ok (D.int 2)).bind fun y => dIx x y).bind fun b => F__law_place a b).bind fun x => ((R.ok v_memory).bind fun a => ((R.ok v_step).bind fun x => (R.ok (D.int 3)).bind fun y => dIx x y).bind fun b => F__law_place a b).bind fun y => dEq x y).bind fun t => .ok (.bl t)).bind fun v_same => ((((((R.ok v_same).bind fun x => ((((R.ok v_step).bind fun x => (R.ok (D.int 1)).bind fun y => dIx x y).bind fun x => (R.ok (D.str "same")).bind fun y => dEq x y).bind fun t => .ok (.bl t)).bind fun y => dEq x y).bind fun t => if t = true then (R.ok (D.str "done")) else (R.ok (D.str "ends"))).bind fun d => ((R.ok v_memory).bind fun d => (R.ok []).bind fun ds => .ok (d :: ds)).bind fun ds => .ok (d :: ds)).bind fun ds => .ok (.tup ds)).bind fun d => .ok (.rt d none))) else ((((R.ok v_word).bind fun x => (R.ok (D.str "load")).bind fun y => dEq x y).bind fun t => if t = true then ((R.ok v_told).bind fun x => ((R.ok v_step).bind fun x => (R.ok (D.int 2)).bind fun y => dIx x y).bind fun y => dIx x y) else ((R.ok v_told).bind fun x => ((R.ok v_step).bind fun x => (R.ok (D.int 1)).bind fun y => dIx x y).bind fun y => dIx x y)).bind fun v_asked => ((((R.ok v_word).bind fun x => (((R.ok (D.str "load")).bind fun d => ((R.ok (D.str "store")).bind fun d => ((R.ok (D.str "free")).bind fun d => (R.ok []).bind fun ds => .ok (d :: ds)).bind fun ds => .ok (d :: ds)).bind fun ds => .ok (d :: ds)).bind fun ds => .ok (.tup ds)).bind fun y => dIn x y).bind fun t => if t = true then ((R.ok v_asked).bind fun x => (R.ok v_cells).bind fun y => dNotIn x y) else .ok false).bind fun t => if t = true then lft ((((R.ok (D.str "wrong")).bind fun d => ((R.ok v_memory).bind fun d => (R.ok []).bind fun ds => .ok (d :: ds)).bind fun ds => .ok (d :: ds)).bind fun ds => .ok (.tup ds)).bind fun d => .ok (.rt d none)) else ((((R.ok v_word).bind fun x => (R.ok (D.str "set")).bind fun y => dEq x y).bind fun t => if t = true then (((R.ok v_memory).bind fun a => ((R.ok v_step).bind fun x => (R.ok (D.int 2)).bind fun y => dIx x y).bind fun b => F__law_place a b).bind fun d => ((R.ok v_step).bind fun x => (R.ok (D.int 1)).bind fun y => dIx x y).bind fun k => (dPut v_told k d).bind fun v_told1 => (.ok (.nx (v_told1, v_cells)))) else ((((R.ok v_word).bind fun x => (R.ok (D.str "load")).bind fun y => dEq x y).bind fun t => if t = true then (((R.ok v_cells).bind fun x => (R.ok v_asked).bind fun y => dIx x y).bind fun d => ((R.ok v_step).bind fun x => (R.ok (D.int 1)).bind fun y => dIx x y).bind fun k => (dPut v_told k d).bind fun v_told2 => (.ok (.nx (v_told2, v_cells)))) else ((((R.ok v_word).bind fun x => (R.ok (D.str "store")).bind fun y => dEq x y).bind fun t => if t = true then (((R.ok v_memory).bind fun a => ((R.ok v_step).bind fun x => (R.ok (D.int 2)).bind fun y => dIx x y).bind fun b => F__law_place a b).bind fun d => (R.ok v_asked).bind fun k => (dPut v_cells k d).bind fun v_cells1 => (.ok (.nx (v_told, v_cells1)))) else ((((R.ok v_word).bind fun x => (R.ok (D.str "free")).bind fun y => dEq x y).bind fun t => if t = true then ((dDct v_cells).bind fun kvs => (R.ok v_asked).bind fun k => (popK kvs k).bind fun v_cells2 => (.ok (.nx (v_told, v_cells2)))) else ((((((((R.ok v_told).bind dIter).bind fun ds => (compR (L__law_step_0 v_told) ds).bind fun l => .ok (.lst l)).bind fun x => (((R.ok v_cells).bind dIter).bind fun ds => (compR L__law_step_1 ds).bind fun l => .ok (.lst l)).bind fun y => dCat x y).bind fun x => (((R.ok v_cells).bind dIter).bind fun ds => (compR (L__law_step_2 v_cells) ds).bind fun l => .ok (.lst l)).bind fun y => dCat x y).bind flatL).bind flatL).bind fun v_used => (((((R.ok (D.int 1)).bind fun x => (((R.ok v_used).bind dLen).bind fun x => (R.ok (D.int 2)).bind fun y => dAdd x y).bind fun y => dRng2 x y).bind fun ds => (compR (L__law_step_3 v_used) ds).bind fun l => .ok (.lst l)).bind dMin).bind fun v_place2 => ((((R.ok v_place2).bind fun d => ((R.ok (D.int 0)).bind fun d => (R.ok []).bind fun ds => .ok (d :: ds)).bind fun ds => .ok (d :: ds)).bind fun ds => .ok (.tup ds)).bind fun d => (un2 d).bind fun r => ((R.ok v_step).bind fun x => (R.ok (D.int 1)).bind fun y => dIx x y).bind fun k1 => (dPut v_told k1 r.1).bind fun v_told3 => (R.ok v_place2).bind fun k2 => (dPut v_cells k2 r.2).bind fun v_cells3 => (.ok (.nx (v_told3, v_cells3))))))).bind (Fl.go fun (s0 : D × D) => (.ok (.nx (s0.1, s0.2)))))).bind (Fl.go fun (s1 : D × D) => (.ok (.nx (s1.1, s1.2)))))).bind (Fl.go fun (s2 : D × D) => (.ok (.nx (s2.1, s2.2)))))).bind (Fl.go K__law_step_0))))))
def F__law_step (v_memory v_step : D) : R D := done (m__law_step v_memory v_step)
def L__law_logged_0 : D → (D × D) → R (Fl (D × D) (D × D)) :=
  fun (d : D) (s0 : D × D) => (R.ok d).bind fun v_step => (((R.ok s0.2).bind fun a => (R.ok v_step).bind fun b => F__law_step a b).bind fun d => (un2 d).bind fun p0 => (((R.ok p0.1).bind fun x => (R.ok (D.str "done")).bind fun y => dNe x y).bind fun t => if t = true then lft (((R.ok s0.1).bind dTuple).bind fun d => .ok (.rt d none)) else ((R.ok p0.2).bind fun v_here1 => ((dLst s0.1).bind fun ds => (((R.ok v_step).bind fun d => (((R.ok v_here1).bind fun x => (R.ok (D.int 0)).bind fun y => dIx x y).bind fun d => (R.ok []).bind fun ds => .ok (d :: ds)).bind fun ds => .ok (d :: ds)).bind fun ds => .ok (.tup ds)).bind fun d => (appL ds d).bind fun v_rows1 => (.ok (.nx (v_rows1, v_here1)))))))
def m__law_logged (v_memory v_steps : D) : R (Fl Unit Empty) :=
  (((R.ok []).bind fun ds => .ok (.lst ds)).bind fun v_rows => (R.ok v_memory).bind fun v_here => (((R.ok v_steps).bind dIter).bind fun ds => (forR L__law_logged_0 ds (v_rows, v_here)).bind (Fl.go fun s1 => (((R.ok s1.1).bind dTuple).bind fun d => .ok (.rt d none)))))
def F__law_logged (v_memory v_steps : D) : R D := done (m__law_logged v_memory v_steps)
def L__law_memory_0 (r0 : D × D) : D → D → R (D × D) :=
  fun (d : D) (b0 : D) => (R.ok d).bind fun v_name => ((((R.ok v_name).bind fun d => .ok (d, b0)).bind fun r1 => (((((R.ok r0.1).bind fun x => (R.ok (D.int 3)).bind fun y => dAdd x y).bind fun d => (R.ok []).bind fun ds => .ok (d :: ds)).bind fun ds => nox (api1 F__law_take r1.2 ds)).bind fun r2 => (R.ok ([], r2.2)).bind fun s => .ok (r2.1 :: s.1, s.2)).bind fun s => .ok (r1.1 :: s.1, s.2)).bind fun r => .ok (.tup r.1, r.2))
def L__law_memory_1 (r0 : D × D) : D → D → R (D × D) :=
  fun (d : D) (b1 : D) => (R.ok d).bind fun v_k => (((((R.ok v_k).bind fun x => (R.ok (D.int 1)).bind fun y => dAdd x y).bind fun d => .ok (d, b1)).bind fun r5 => (((((R.ok r0.1).bind fun x => (R.ok (D.int 3)).bind fun y => dAdd x y).bind fun d => (R.ok []).bind fun ds => .ok (d :: ds)).bind fun ds => nox (api1 F__law_take r5.2 ds)).bind fun r6 => (R.ok ([], r6.2)).bind fun s => .ok (r6.1 :: s.1, s.2)).bind fun s => .ok (r5.1 :: s.1, s.2)).bind fun r => .ok (.tup r.1, r.2))
def m__law_memory (v_bag v_names v_most : D) : R (Fl Unit Empty) :=
  (((((R.ok v_most).bind fun x => (R.ok (D.int 1)).bind fun y => dAdd x y).bind fun d => (R.ok []).bind fun ds => .ok (d :: ds)).bind fun ds => nox (api1 F__law_take v_bag ds)).bind fun r0 => (((((R.ok v_names).bind dIter).bind fun ds => (compF (L__law_memory_0 r0) ds r0.2).bind fun w => .ok (.lst w.1, w.2)).bind fun r => (dTuple r.1).bind fun d => .ok (d, r.2)).bind fun r3 => (((((R.ok r3.1).bind fun d => .ok (d, r3.2)).bind fun r4 => (((((R.ok r0.1).bind dRng1).bind fun ds => (compF (L__law_memory_1 r0) ds r4.2).bind fun w => .ok (.lst w.1, w.2)).bind fun r => (dTuple r.1).bind fun d => .ok (d, r.2)).bind fun r7 => (R.ok ([], r7.2)).bind fun s => .ok (r7.1 :: s.1, s.2)).bind fun s => .ok (r4.1 :: s.1, s.2)).bind fun r => .ok (.tup r.1, r.2)).bind fun r => .ok (.rt r.1 (some r.2)))))
def F__law_memory (v_bag v_names v_most : D) : R (D × D) := doneI (m__law_memory v_bag v_names v_most)
def L__law_played_0 (v_told : D) : D → R (Option D) :=
  fun (d : D) => (un2 d).bind fun p2 => (((R.ok v_told).bind fun x => (R.ok p2.1).bind fun y => dIx x y).bind fun x => (R.ok p2.2).bind fun y => dNe x y).bind fun t => if t = true then (R.ok p2.1).bind fun x => .ok (some x) else .ok none
def L__law_played_1 : D → (D) → R (Fl (D) (D)) :=
  fun (d : D) (s0 : D) => ((un2 d).bind fun q0 => (R.ok q0.1).bind fun x => (un2 q0.2).bind fun y => R.ok (x, y)).bind fun p0 => (((R.ok s0).bind fun a => (R.ok p0.2.1).bind fun b => F__law_step a b).bind fun d => (un2 d).bind fun p1 => (((R.ok p1.1).bind fun x => (R.ok (D.str "done")).bind fun y => dNe x y).bind fun t => if t = true then lft ((((R.ok p0.1).bind fun d => ((R.ok p1.1).bind fun d => ((R.ok s0).bind fun d => (R.ok []).bind fun ds => .ok (d :: ds)).bind fun ds => .ok (d :: ds)).bind fun ds => .ok (d :: ds)).bind fun ds => .ok (.tup ds)).bind fun d => .ok (.rt d none)) else ((R.ok p1.2).bind fun v_here1 => (((R.ok p1.2).bind fun x => (R.ok (D.int 0)).bind fun y => dIx x y).bind dDictOf).bind fun v_told => (((((R.ok p0.2.2).bind dIter).bind fun ds => (compR (L__law_played_0 v_told) ds).bind fun l => .ok (.lst l)).bind fun x => ((R.ok []).bind fun ds => .ok (.lst ds)).bind fun y => dNe x y).bind fun t => if t = true then lft ((((R.ok p0.1).bind fun d => ((R.ok (D.str "noted")).bind fun d => ((R.ok v_here1).bind fun d => (R.ok []).bind fun ds => .ok (d :: ds)).bind fun ds => .ok (d :: ds)).bind fun ds => .ok (d :: ds)).bind fun ds => .ok (.tup ds)).bind fun d => .ok (.rt d none)) else (.ok (.nx v_here1))))))
def K__law_played_0 (v_log : D) : (D) → R (Fl (Unit) (Empty)) :=
  fun (s1 : D) => ((((((R.ok v_log).bind fun x => (R.ok (D.int 1)).bind fun y => dIx x y).bind dLen).bind fun d => ((R.ok (D.str "right")).bind fun d => ((R.ok s1).bind fun d => (R.ok []).bind fun ds => .ok (d :: ds)).bind fun ds => .ok (d :: ds)).bind fun ds => .ok (d :: ds)).bind fun ds => .ok (.tup ds)).bind fun d => .ok (.rt d none))
def m__law_played (v_log : D) : R (Fl Unit Empty) :=
  (((R.ok v_log).bind fun x => (R.ok (D.int 0)).bind fun y => dIx x y).bind fun v_here => ((((R.ok v_log).bind fun x => (R.ok (D.int 1)).bind fun y => dIx x y).bind fun x => (dSrc x).bind fun xs => R.ok (enumD xs)).bind fun ds => (forR L__law_played_1 ds v_here).bind (Fl.go (K__law_played_0 v_log))))
def F__law_played (v_log : D) : R D := done (m__law_played v_log)
def L__law_turned_0 : D → R (Option D) :=
  fun (d : D) => (un2 d).bind fun p2 => (R.ok true).bind fun t => if t = true then (((R.ok p2.1).bind fun d => (((R.ok p2.2).bind fun x => (R.ok (D.int 1)).bind fun y => dAdd x y).bind fun d => (R.ok []).bind fun ds => .ok (d :: ds)).bind fun ds => .ok (d :: ds)).bind fun ds => .ok (.tup ds)).bind fun x => .ok (some x) else .ok none
def K__law_turned_0 (p0 : D × D) (r0 : D × D) : (D × D) → R (Fl (Unit) (Empty)) :=
  fun (s1 : D × D) => ((((R.ok p0.1).bind fun d => (((((R.ok p0.2).bind fun x => (R.ok none).bind fun l => ((R.ok r0.1).bind asI).bind fun h => dSl x l h).bind fun x => (((R.ok s1.2).bind fun d => (R.ok []).bind fun ds => .ok (d :: ds)).bind fun ds => .ok (.tup ds)).bind fun y => dAdd x y).bind fun x => ((R.ok p0.2).bind fun x => (((R.ok r0.1).bind fun x => (R.ok (D.int 1)).bind fun y => dAdd x y).bind asI).bind fun l => (R.ok none).bind fun h => dSl x l h).bind fun y => dAdd x y).bind fun d => (R.ok []).bind fun ds => .ok (d :: ds)).bind fun ds => .ok (d :: ds)).bind fun ds => .ok (.tup ds)).bind fun d => .ok (.rt d (some s1.1)))
def m__law_turned (v_bag v_log : D) : R (Fl Unit Empty) :=
  ((R.ok v_log).bind fun d => (un2 d).bind fun p0 => (((R.ok p0.2).bind fun x => ((R.ok []).bind fun ds => .ok (.tup ds)).bind fun y => dEq x y).bind fun t => if t = true then lft ((R.ok v_log).bind fun d => .ok (.rt d (some v_bag))) else (((((R.ok p0.2).bind dLen).bind fun d => (R.ok []).bind fun ds => .ok (d :: ds)).bind fun ds => nox (api1 F__law_take v_bag ds)).bind fun r0 => (((R.ok p0.2).bind fun x => (R.ok r0.1).bind fun y => dIx x y).bind fun d => (un2 d).bind fun p1 => ((((R.ok (D.int 3)).bind fun d => (R.ok []).bind fun ds => .ok (d :: ds)).bind fun ds => nox (api1 F__law_take r0.2 ds)).bind fun r1 => ((((R.ok r1.1).bind fun x => (R.ok (D.int 0)).bind fun y => dEq x y).bind fun t => if t = true then ((((R.ok p1.1).bind fun d => (((((R.ok p1.2).bind dIter).bind fun ds => (compR L__law_turned_0 ds).bind fun l => .ok (.lst l)).bind dTuple).bind fun d => (R.ok []).bind fun ds => .ok (d :: ds)).bind fun ds => .ok (d :: ds)).bind fun ds => .ok (.tup ds)).bind fun v_row => (.ok (.nx (r1.2, v_row)))) else ((((R.ok r1.1).bind fun x => (R.ok (D.int 1)).bind fun y => dEq x y).bind fun t => if t = true then ((((R.ok p1.1).bind fun d => (((R.ok p1.2).bind fun x => (R.ok none).bind fun l => ((R.ok (D.int 1)).bind asI).bind fun h => dSl x l h).bind fun d => (R.ok []).bind fun ds => .ok (d :: ds)).bind fun ds => .ok (d :: ds)).bind fun ds => .ok (.tup ds)).bind fun v_row1 => (.ok (.nx (r1.2, v_row1)))) else ((((((((R.ok (D.str "x")).bind fun d => ((R.ok (D.str "y")).bind fun d => (R.ok []).bind fun ds => .ok (d :: ds)).bind fun ds => .ok (d :: ds)).bind fun ds => .ok (.tup ds)).bind fun d => (R.ok []).bind fun ds => .ok (d :: ds)).bind fun ds => nox (api1 F__law_drawn_step r1.2 ds)).bind fun r2 => (((R.ok p1.2).bind fun d => .ok (d, r2.2)).bind fun r3 => (R.ok ([], r3.2)).bind fun s => .ok (r3.1 :: s.1, s.2)).bind fun s => .ok (r2.1 :: s.1, s.2)).bind fun r => .ok (.tup r.1, r.2)).bind fun r4 => (.ok (.nx (r4.2, r4.1))))).bind (Fl.go fun (s0 : D × D) => (.ok (.nx (s0.1, s0.2)))))).bind (Fl.go (K__law_turned_0 p0 r0))))))))
def F__law_turned (v_bag v_log : D) : R (D × D) := doneI (m__law_turned v_bag v_log)
def L_check_cells_0 (v_cells : D) : D → (Unit) → R (Fl (Unit) (Unit)) :=
  fun (d : D) (s0 : Unit) => ((un2 d).bind fun q0 => (R.ok q0.1).bind fun x => (un2 q0.2).bind fun y => R.ok (x, y)).bind fun p0 => ((((R.ok p0.2.1).bind fun x => (R.ok (D.int 0)).bind fun y => dEq x y).bind fun t => if t = true then .ok true else (((R.ok p0.2.1).bind fun x => (R.ok (D.int 1000000000)).bind fun y => dGe x y).bind fun t => if t = true then .ok true else ((R.ok p0.2.2).bind fun x => (R.ok (D.int 1000000000)).bind fun y => dGe x y))).bind fun t => if t = true then lft R.bad else ((((R.ok p0.1).bind fun x => (R.ok (D.int 0)).bind fun y => dGt x y).bind fun t => if t = true then (((((R.ok v_cells).bind fun x => ((R.ok p0.1).bind fun x => (R.ok (D.int 1)).bind fun y => dSub x y).bind fun y => dIx x y).bind fun x => (R.ok (D.int 0)).bind fun y => dIx x y).bind fun x => (R.ok p0.2.1).bind fun y => dLt x y).bind fun t => .ok (!t)) else .ok false).bind fun t => if t = true then lft R.bad else (.ok (.nx ()))))
def m_check_cells (v_cells : D) : R (Fl Unit Empty) :=
  (((R.ok v_cells).bind fun x => (dSrc x).bind fun xs => R.ok (enumD xs)).bind fun ds => (forR (L_check_cells_0 v_cells) ds ()).bind (Fl.go fun s1 => (.ok (.nx ()))))
def F_check_cells (v_cells : D) : R D := done (m_check_cells v_cells)
def L_check_told_0 (v_told : D) : D → (Unit) → R (Fl (Unit) (Unit)) :=
  fun (d : D) (s0 : Unit) => ((un2 d).bind fun q0 => (R.ok q0.1).bind fun x => (un2 q0.2).bind fun y => R.ok (x, y)).bind fun p0 => (((R.ok p0.2.2).bind fun x => (R.ok (D.int 1000000000)).bind fun y => dGe x y).bind fun t => if t = true then lft R.bad else ((((R.ok p0.1).bind fun x => (R.ok (D.int 0)).bind fun y => dGt x y).bind fun t => if t = true then (((((R.ok v_told).bind fun x => ((R.ok p0.1).bind fun x => (R.ok (D.int 1)).bind fun y => dSub x y).bind fun y => dIx x y).bind fun x => (R.ok (D.int 0)).bind fun y => dIx x y).bind fun x => (R.ok p0.2.1).bind fun y => dLt x y).bind fun t => .ok (!t)) else .ok false).bind fun t => if t = true then lft R.bad else (.ok (.nx ()))))
def m_check_told (v_told : D) : R (Fl Unit Empty) :=
  (((R.ok v_told).bind fun x => (dSrc x).bind fun xs => R.ok (enumD xs)).bind fun ds => (forR (L_check_told_0 v_told) ds ()).bind (Fl.go fun s1 => (.ok (.nx ()))))
def F_check_told (v_told : D) : R D := done (m_check_told v_told)
def m_is_integer (v_thing : D) : R (Fl Unit Empty) :=
  (((((R.ok v_thing).bind (dIsI .int)).bind asB).bind fun t => if t = true then ((((R.ok v_thing).bind (dIsI .bool)).bind asB).bind fun t => .ok (.bl (!t))) else .ok (.bl false)).bind fun d => .ok (.rt d none))
def F_is_integer (v_thing : D) : R D := done (m_is_integer v_thing)
def m_is_count (v_thing : D) : R (Fl Unit Empty) :=
  (((((R.ok v_thing).bind F_is_integer).bind asB).bind fun t => if t = true then (((R.ok v_thing).bind fun x => (R.ok (D.int 0)).bind fun y => dGe x y).bind fun t => .ok (.bl t)) else .ok (.bl false)).bind fun d => .ok (.rt d none))
def F_is_count (v_thing : D) : R D := done (m_is_count v_thing)
def m_is_cell_form (v_thing : D) : R (Fl Unit Empty) :=
  (((((R.ok v_thing).bind (dIsI .tuple)).bind asB).bind fun t => if t = true then ((((((R.ok v_thing).bind dLen).bind fun x => (R.ok (D.int 2)).bind fun y => dEq x y).bind fun t => .ok (.bl t)).bind asB).bind fun t => if t = true then (((((R.ok v_thing).bind fun x => (R.ok (D.int 0)).bind fun y => dIx x y).bind F_is_count).bind asB).bind fun t => if t = true then (((R.ok v_thing).bind fun x => (R.ok (D.int 1)).bind fun y => dIx x y).bind F_is_count) else .ok (.bl false)) else .ok (.bl false)) else .ok (.bl false)).bind fun d => .ok (.rt d none))
def F_is_cell_form (v_thing : D) : R D := done (m_is_cell_form v_thing)
def L_is_name_0 : D → R (Option D) :=
  fun (d : D) => (R.ok d).bind fun v_sign => (R.ok true).bind fun t => if t = true then (((R.ok v_sign).bind fun x => ((R.ok (D.str "abcdefghijklmnopqrstuvwxyz")).bind fun x => (R.ok (D.str "0123456789")).bind fun y => dAdd x y).bind fun y => dIn x y).bind fun t => .ok (.bl t)).bind fun x => .ok (some x) else .ok none
def m_is_name (v_thing : D) : R (Fl Unit Empty) :=
  ((((((R.ok v_thing).bind (dIsI .str)).bind asB).bind fun t => .ok (!t)).bind fun t => if t = true then .ok true else ((((R.ok (D.int 1)).bind fun x => ((R.ok v_thing).bind dLen).bind fun y => (dLe x y).bind fun t => if t = true then (R.ok (D.int 8)).bind fun z => dLe y z else .ok false).bind fun t => .ok (!t)).bind fun t => if t = true then .ok true else (((R.ok v_thing).bind fun x => (R.ok (D.int 0)).bind fun y => dIx x y).bind fun x => (R.ok (D.str "abcdefghijklmnopqrstuvwxyz")).bind fun y => dNotIn x y))).bind fun t => if t = true then lft ((R.ok (D.bl false)).bind fun d => .ok (.rt d none)) else (((((((R.ok v_thing).bind dIter).bind fun ds => (compR L_is_name_0 ds).bind fun l => .ok (.lst l)).bind dAll).bind asB).bind fun t => if t = true then (((R.ok v_thing).bind fun x => (R.ok (D.tup (k_RESERVED.map .str))).bind fun y => dNotIn x y).bind fun t => .ok (.bl t)) else .ok (.bl false)).bind fun d => .ok (.rt d none)))
def F_is_name (v_thing : D) : R D := done (m_is_name v_thing)
def m_is_told_form (v_thing : D) : R (Fl Unit Empty) :=
  (((((R.ok v_thing).bind (dIsI .tuple)).bind asB).bind fun t => if t = true then ((((((R.ok v_thing).bind dLen).bind fun x => (R.ok (D.int 2)).bind fun y => dEq x y).bind fun t => .ok (.bl t)).bind asB).bind fun t => if t = true then (((((R.ok v_thing).bind fun x => (R.ok (D.int 0)).bind fun y => dIx x y).bind F_is_name).bind asB).bind fun t => if t = true then (((R.ok v_thing).bind fun x => (R.ok (D.int 1)).bind fun y => dIx x y).bind F_is_count) else .ok (.bl false)) else .ok (.bl false)) else .ok (.bl false)).bind fun d => .ok (.rt d none))
def F_is_told_form (v_thing : D) : R D := done (m_is_told_form v_thing)
def L_is_memory_form_0 : D → R (Option D) :=
  fun (d : D) => (R.ok d).bind fun v_one => (R.ok true).bind fun t => if t = true then ((R.ok v_one).bind F_is_cell_form).bind fun x => .ok (some x) else .ok none
def L_is_memory_form_1 : D → R (Option D) :=
  fun (d : D) => (R.ok d).bind fun v_one1 => (R.ok true).bind fun t => if t = true then ((R.ok v_one1).bind F_is_told_form).bind fun x => .ok (some x) else .ok none
def m_is_memory_form (v_thing : D) : R (Fl Unit Empty) :=
  ((((((R.ok v_thing).bind (dIsI .tuple)).bind asB).bind fun t => .ok (!t)).bind fun t => if t = true then .ok true else ((((R.ok v_thing).bind dLen).bind fun x => (R.ok (D.int 2)).bind fun y => dNe x y).bind fun t => if t = true then .ok true else (((((R.ok v_thing).bind fun x => (R.ok (D.int 0)).bind fun y => dIx x y).bind (dIsI .tuple)).bind asB).bind fun t => .ok (!t)))).bind fun t => if t = true then lft ((R.ok (D.bl false)).bind fun d => .ok (.rt d none)) else (((((((R.ok v_thing).bind fun x => (R.ok (D.int 1)).bind fun y => dIx x y).bind (dIsI .tuple)).bind asB).bind fun t => .ok (!t)).bind fun t => if t = true then .ok true else (((((((R.ok v_thing).bind fun x => (R.ok (D.int 1)).bind fun y => dIx x y).bind dIter).bind fun ds => (compR L_is_memory_form_0 ds).bind fun l => .ok (.lst l)).bind dAll).bind asB).bind fun t => .ok (!t))).bind fun t => if t = true then lft ((R.ok (D.bl false)).bind fun d => .ok (.rt d none)) else ((((((R.ok v_thing).bind fun x => (R.ok (D.int 0)).bind fun y => dIx x y).bind dIter).bind fun ds => (compR L_is_memory_form_1 ds).bind fun l => .ok (.lst l)).bind dAll).bind fun d => .ok (.rt d none))))
def F_is_memory_form (v_thing : D) : R D := done (m_is_memory_form v_thing)
def m_checked_memory (v_thing : D) : R (Fl Unit Empty) :=
  (((((R.ok v_thing).bind F_is_memory_form).bind asB).bind fun t => .ok (!t)).bind fun t => if t = true then lft R.bad else ((R.ok v_thing).bind fun d => (un2 d).bind fun p0 => ((((R.ok p0.1).bind dLen).bind fun x => (R.ok (D.int 8)).bind fun y => dGt x y).bind fun t => if t = true then lft R.bad else ((((R.ok p0.2).bind dLen).bind fun x => (R.ok (D.int 60)).bind fun y => dGt x y).bind fun t => if t = true then lft R.bad else (((R.ok p0.1).bind F_check_told).bind fun _ => (((R.ok p0.2).bind F_check_cells).bind fun _ => ((R.ok v_thing).bind fun d => .ok (.rt d none))))))))
def F_checked_memory (v_thing : D) : R D := done (m_checked_memory v_thing)
def L_are_rising_0 : D → R (Option D) :=
  fun (d : D) => (un2 d).bind fun p0 => (R.ok true).bind fun t => if t = true then (((R.ok p0.1).bind fun x => (R.ok p0.2).bind fun y => dLt x y).bind fun t => .ok (.bl t)).bind fun x => .ok (some x) else .ok none
def m_are_rising (v_things : D) : R (Fl Unit Empty) :=
  (((((R.ok v_things).bind fun x => ((R.ok v_things).bind fun x => ((R.ok (D.int 1)).bind asI).bind fun l => (R.ok none).bind fun h => dSl x l h).bind fun y => (dSrc x).bind fun xs => (dSrc y).bind fun ys => R.ok (zipD xs ys)).bind fun ds => (compR L_are_rising_0 ds).bind fun l => .ok (.lst l)).bind dAll).bind fun d => .ok (.rt d none))
def F_are_rising (v_things : D) : R D := done (m_are_rising v_things)
def m_is_sized (v_thing v_many : D) : R (Fl Unit Empty) :=
  (((((R.ok v_thing).bind (dIsI .tuple)).bind asB).bind fun t => if t = true then ((((R.ok v_thing).bind dLen).bind fun x => (R.ok v_many).bind fun y => dEq x y).bind fun t => .ok (.bl t)) else .ok (.bl false)).bind fun d => .ok (.rt d none))
def F_is_sized (v_thing v_many : D) : R D := done (m_is_sized v_thing v_many)
def m_is_told (v_thing : D) : R (Fl Unit Empty) :=
  (((((R.ok v_thing).bind fun a => (R.ok (D.int 2)).bind fun b => F_is_sized a b).bind asB).bind fun t => if t = true then (((((R.ok v_thing).bind fun x => (R.ok (D.int 0)).bind fun y => dIx x y).bind F_is_name).bind asB).bind fun t => if t = true then (((R.ok v_thing).bind fun x => (R.ok (D.int 1)).bind fun y => dIx x y).bind F_is_count) else .ok (.bl false)) else .ok (.bl false)).bind fun d => .ok (.rt d none))
def F_is_told (v_thing : D) : R D := done (m_is_told v_thing)
def L_is_tuple_of__is_told_0 : D → R (Option D) :=
  fun (d : D) => (R.ok d).bind fun v_item => (R.ok true).bind fun t => if t = true then ((tabR [("is_told", ap1 F_is_told)] (D.fn "is_told")).bind fun F => ((R.ok v_item).bind fun d => (R.ok []).bind fun ds => .ok (d :: ds)).bind F).bind fun x => .ok (some x) else .ok none
def m_is_tuple_of__is_told (v_thing : D) : R (Fl Unit Empty) :=
  (((((R.ok v_thing).bind (dIsI .tuple)).bind asB).bind fun t => if t = true then ((((R.ok v_thing).bind dIter).bind fun ds => (compR L_is_tuple_of__is_told_0 ds).bind fun l => .ok (.lst l)).bind dAll) else .ok (.bl false)).bind fun d => .ok (.rt d none))
def F_is_tuple_of__is_told (v_thing : D) : R D := done (m_is_tuple_of__is_told v_thing)
def G_is_tuple_of__is_told (a b : D) : R D := (chkFn "is_told" b).bind fun _ => F_is_tuple_of__is_told a
def L_is_noted_0 : D → R (Option D) :=
  fun (d : D) => (un2 d).bind fun p0 => (R.ok true).bind fun t => if t = true then (R.ok p0.1).bind fun x => .ok (some x) else .ok none
def m_is_noted (v_thing : D) : R (Fl Unit Empty) :=
  (((((R.ok v_thing).bind fun a => (R.ok (D.fn "is_told")).bind fun b => G_is_tuple_of__is_told a b).bind asB).bind fun t => if t = true then ((((R.ok v_thing).bind dIter).bind fun ds => (compR L_is_noted_0 ds).bind fun l => .ok (.lst l)).bind F_are_rising) else .ok (.bl false)).bind fun d => .ok (.rt d none))
def F_is_noted (v_thing : D) : R D := done (m_is_noted v_thing)
def m_is_term_forms (v_thing : D) : R (Fl Unit Empty) :=
  ((((((R.ok v_thing).bind fun x => (R.ok .non).bind fun y => dIs x y).bind fun t => .ok (.bl t)).bind asB).bind fun t => if t = true then .ok (.bl true) else ((R.ok v_thing).bind F_is_name)).bind fun d => .ok (.rt d none))
def F_is_term_forms (v_thing : D) : R D := done (m_is_term_forms v_thing)
def m_is_test (v_thing : D) : R (Fl Unit Empty) :=
  ((((((R.ok v_thing).bind fun a => (R.ok (D.int 4)).bind fun b => F_is_sized a b).bind asB).bind fun t => .ok (!t)).bind fun t => if t = true then .ok true else ((((((R.ok v_thing).bind fun x => (R.ok (D.int 1)).bind fun y => dIx x y).bind (dIsI .str)).bind asB).bind fun t => .ok (!t)).bind fun t => if t = true then .ok true else (((R.ok v_thing).bind fun x => (R.ok (D.int 1)).bind fun y => dIx x y).bind fun x => (((R.ok (D.str "same")).bind fun d => ((R.ok (D.str "unlike")).bind fun d => (R.ok []).bind fun ds => .ok (d :: ds)).bind fun ds => .ok (d :: ds)).bind fun ds => .ok (.tup ds)).bind fun y => dNotIn x y))).bind fun t => if t = true then lft ((R.ok (D.bl false)).bind fun d => .ok (.rt d none)) else ((((((R.ok v_thing).bind fun x => (R.ok (D.int 2)).bind fun y => dIx x y).bind F_is_name).bind asB).bind fun t => if t = true then (((R.ok v_thing).bind fun x => (R.ok (D.int 3)).bind fun y => dIx x y).bind F_is_term_forms) else .ok (.bl false)).bind fun d => .ok (.rt d none)))
def F_is_test (v_thing : D) : R D := done (m_is_test v_thing)
def L_is_step_forms_0 : D → (Unit) → R (Fl (Unit) (Unit)) :=
  fun (d : D) (s0 : Unit) => (un2 d).bind fun p0 => (((((R.ok p0.2).bind fun x => (R.ok (D.str "n")).bind fun y => dEq x y).bind fun t => if t = true then (((R.ok p0.1).bind F_is_name).bind asB) else (((R.ok p0.1).bind F_is_term_forms).bind asB)).bind fun t => .ok (!t)).bind fun t => if t = true then lft ((R.ok (D.bl false)).bind fun d => .ok (.rt d none)) else (.ok (.nx ())))
def m_is_step_forms (v_thing : D) : R (Fl Unit Empty) :=
  ((((((R.ok v_thing).bind (dIsI .tuple)).bind asB).bind fun t => .ok (!t)).bind fun t => if t = true then .ok true else (((R.ok v_thing).bind fun x => ((R.ok []).bind fun ds => .ok (.tup ds)).bind fun y => dEq x y).bind fun t => if t = true then .ok true else (((((R.ok v_thing).bind fun x => (R.ok (D.int 0)).bind fun y => dIx x y).bind (dIsI .str)).bind asB).bind fun t => .ok (!t)))).bind fun t => if t = true then lft ((R.ok (D.bl false)).bind fun d => .ok (.rt d none)) else ((((R.ok v_thing).bind fun x => (R.ok (D.int 0)).bind fun y => dIx x y).bind fun x => (R.ok (D.str "test")).bind fun y => dEq x y).bind fun t => if t = true then lft (((R.ok v_thing).bind F_is_test).bind fun d => .ok (.rt d none)) else ((((((R.ok v_thing).bind fun x => (R.ok (D.int 0)).bind fun y => dIx x y).bind (tabIn (dtab t_STEPS))).bind fun t => .ok (!t)).bind fun t => if t = true then .ok true else (((R.ok v_thing).bind dLen).bind fun x => (((((R.ok v_thing).bind fun x => (R.ok (D.int 0)).bind fun y => dIx x y).bind (tabIx (dtab t_STEPS))).bind dLen).bind fun x => (R.ok (D.int 1)).bind fun y => dAdd x y).bind fun y => dNe x y)).bind fun t => if t = true then lft ((R.ok (D.bl false)).bind fun d => .ok (.rt d none)) else ((((R.ok v_thing).bind fun x => ((R.ok (D.int 1)).bind asI).bind fun l => (R.ok none).bind fun h => dSl x l h).bind fun x => (((R.ok v_thing).bind fun x => (R.ok (D.int 0)).bind fun y => dIx x y).bind (tabIx (dtab t_STEPS))).bind fun y => (dSrc x).bind fun xs => (dSrc y).bind fun ys => R.ok (zipD xs ys)).bind fun ds => (forR L_is_step_forms_0 ds ()).bind (Fl.go fun s1 => ((R.ok (D.bl true)).bind fun d => .ok (.rt d none)))))))
def F_is_step_forms (v_thing : D) : R D := done (m_is_step_forms v_thing)
def m_is_row (v_thing : D) : R (Fl Unit Empty) :=
  (((((R.ok v_thing).bind fun a => (R.ok (D.int 2)).bind fun b => F_is_sized a b).bind asB).bind fun t => if t = true then (((((R.ok v_thing).bind fun x => (R.ok (D.int 0)).bind fun y => dIx x y).bind F_is_step_forms).bind asB).bind fun t => if t = true then (((R.ok v_thing).bind fun x => (R.ok (D.int 1)).bind fun y => dIx x y).bind F_is_noted) else .ok (.bl false)) else .ok (.bl false)).bind fun d => .ok (.rt d none))
def F_is_row (v_thing : D) : R D := done (m_is_row v_thing)
def L_names_among_0 : D → R (Option (D × D)) :=
  fun (d : D) => (R.ok d).bind fun v_term => ((R.ok v_term).bind fun x => (R.ok .non).bind fun y => dIsNot x y).bind fun t => if t = true then (R.ok v_term).bind fun x => (R.ok (D.bl true)).bind fun y => .ok (some (x, y)) else .ok none
def m_names_among (v_terms : D) : R (Fl Unit Empty) :=
  ((((((R.ok v_terms).bind dIter).bind fun ds => (dcompR L_names_among_0 ds []).bind fun l => .ok (.dct l)).bind dSorted).bind dTuple).bind fun d => .ok (.rt d none))
def F_names_among (v_terms : D) : R D := done (m_names_among v_terms)
def m_step_names (v_step : D) : R (Fl Unit Empty) :=
  ((((((R.ok v_step).bind fun x => (R.ok (D.int 0)).bind fun y => dIx x y).bind fun x => (R.ok (D.str "test")).bind fun y => dEq x y).bind fun t => if t = true then ((R.ok v_step).bind fun x => ((R.ok (D.int 2)).bind asI).bind fun l => (R.ok none).bind fun h => dSl x l h) else ((R.ok v_step).bind fun x => ((R.ok (D.int 1)).bind asI).bind fun l => (R.ok none).bind fun h => dSl x l h)).bind F_names_among).bind fun d => .ok (.rt d none))
def F_step_names (v_step : D) : R D := done (m_step_names v_step)
def L_names_of_row_0 : D → R (Option D) :=
  fun (d : D) => (un2 d).bind fun p0 => (R.ok true).bind fun t => if t = true then (R.ok p0.1).bind fun x => .ok (some x) else .ok none
def m_names_of_row (v_row : D) : R (Fl Unit Empty) :=
  ((((((R.ok v_row).bind fun x => (R.ok (D.int 0)).bind fun y => dIx x y).bind F_step_names).bind dListOf).bind fun x => ((((R.ok v_row).bind fun x => (R.ok (D.int 1)).bind fun y => dIx x y).bind dIter).bind fun ds => (compR L_names_of_row_0 ds).bind fun l => .ok (.lst l)).bind fun y => dAdd x y).bind fun d => .ok (.rt d none))
def F_names_of_row (v_row : D) : R D := done (m_names_of_row v_row)
def L_checked_log_0 : D → R (Option D) :=
  fun (d : D) => (un2 d).bind fun p1 => (R.ok true).bind fun t => if t = true then (R.ok p1.1).bind fun x => .ok (some x) else .ok none
def L_checked_log_1 (v_told : D) : D → R (Option D) :=
  fun (d : D) => (R.ok d).bind fun v_name => (R.ok true).bind fun t => if t = true then (((R.ok v_name).bind fun x => (R.ok v_told).bind fun y => dIn x y).bind fun t => .ok (.bl t)).bind fun x => .ok (some x) else .ok none
def L_checked_log_2 (v_told : D) : D → (Unit) → R (Fl (Unit) (Unit)) :=
  fun (d : D) (s2 : Unit) => (un2 d).bind fun p2 => ((((((((R.ok p2.2).bind F_names_of_row).bind dIter).bind fun ds => (compR (L_checked_log_1 v_told) ds).bind fun l => .ok (.lst l)).bind dAll).bind asB).bind fun t => .ok (!t)).bind fun t => if t = true then lft R.bad else (.ok (.nx ())))
def L_checked_log_3 : D → (Unit) → R (Fl (Unit) (Unit)) :=
  fun (d : D) (s0 : Unit) => (un2 d).bind fun p0 => (((((R.ok p0.2).bind F_is_row).bind asB).bind fun t => .ok (!t)).bind fun t => if t = true then lft R.bad else (.ok (.nx ())))
def K_checked_log_0 (v_memory : D) (v_rows : D) (v_thing : D) : (Unit) → R (Fl (Unit) (Empty)) :=
  fun (s1 : Unit) => (((((R.ok v_memory).bind fun x => (R.ok (D.int 0)).bind fun y => dIx x y).bind dIter).bind fun ds => (compR L_checked_log_0 ds).bind fun l => .ok (.lst l)).bind fun v_told => (((R.ok v_rows).bind fun x => (dSrc x).bind fun xs => R.ok (enumD xs)).bind fun ds => (forR (L_checked_log_2 v_told) ds ()).bind (Fl.go fun s3 => ((R.ok v_thing).bind fun d => .ok (.rt d none)))))
def m_checked_log (v_thing : D) : R (Fl Unit Empty) :=
  ((((((R.ok v_thing).bind fun a => (R.ok (D.int 2)).bind fun b => F_is_sized a b).bind asB).bind fun t => .ok (!t)).bind fun t => if t = true then .ok true else (((((R.ok v_thing).bind fun x => (R.ok (D.int 1)).bind fun y => dIx x y).bind (dIsI .tuple)).bind asB).bind fun t => .ok (!t))).bind fun t => if t = true then lft R.bad else ((((R.ok v_thing).bind fun x => (R.ok (D.int 0)).bind fun y => dIx x y).bind F_checked_memory).bind fun v_memory => ((R.ok v_thing).bind fun x => (R.ok (D.int 1)).bind fun y => dIx x y).bind fun v_rows => ((((R.ok v_rows).bind dLen).bind fun x => (R.ok (D.int 200)).bind fun y => dGt x y).bind fun t => if t = true then lft R.bad else (((R.ok v_rows).bind fun x => (dSrc x).bind fun xs => R.ok (enumD xs)).bind fun ds => (forR L_checked_log_3 ds ()).bind (Fl.go (K_checked_log_0 v_memory v_rows v_thing))))))
def F_checked_log (v_thing : D) : R D := done (m_checked_log v_thing)
def m_cut_log (v_log v_many : D) : R (Fl Unit Empty) :=
  ((((((R.ok v_many).bind F_is_count).bind asB).bind fun t => .ok (!t)).bind fun t => if t = true then .ok true else ((R.ok v_many).bind fun x => (((R.ok v_log).bind fun x => (R.ok (D.int 1)).bind fun y => dIx x y).bind dLen).bind fun y => dGt x y)).bind fun t => if t = true then lft (.exc "Nothing") else (((((R.ok v_log).bind fun x => (R.ok (D.int 0)).bind fun y => dIx x y).bind fun d => ((((R.ok v_log).bind fun x => (R.ok (D.int 1)).bind fun y => dIx x y).bind fun x => (R.ok none).bind fun l => ((R.ok v_many).bind asI).bind fun h => dSl x l h).bind fun d => (R.ok []).bind fun ds => .ok (d :: ds)).bind fun ds => .ok (d :: ds)).bind fun ds => .ok (.tup ds)).bind fun d => .ok (.rt d none)))
def F_cut_log (v_log v_many : D) : R D := done (m_cut_log v_log v_many)
def m_is_term (v_thing : D) : R (Fl Unit Empty) :=
  ((((((R.ok v_thing).bind fun x => (R.ok .non).bind fun y => dIs x y).bind fun t => .ok (.bl t)).bind asB).bind fun t => if t = true then .ok (.bl true) else ((R.ok v_thing).bind F_is_name)).bind fun d => .ok (.rt d none))
def F_is_term (v_thing : D) : R D := done (m_is_term v_thing)
def m_is_test_word (v_thing : D) : R (Fl Unit Empty) :=
  (((((R.ok v_thing).bind (dIsI .str)).bind asB).bind fun t => if t = true then (((R.ok v_thing).bind fun x => (R.ok (D.tup (k_TESTS.map .str))).bind fun y => dIn x y).bind fun t => .ok (.bl t)) else .ok (.bl false)).bind fun d => .ok (.rt d none))
def F_is_test_word (v_thing : D) : R D := done (m_is_test_word v_thing)
def m_is_worded (v_thing : D) : R (Fl Unit Empty) :=
  (((((R.ok v_thing).bind (dIsI .tuple)).bind asB).bind fun t => if t = true then (((((R.ok v_thing).bind fun x => ((R.ok []).bind fun ds => .ok (.tup ds)).bind fun y => dNe x y).bind fun t => .ok (.bl t)).bind asB).bind fun t => if t = true then (((((R.ok v_thing).bind fun x => (R.ok (D.int 0)).bind fun y => dIx x y).bind (dIsI .str)).bind asB).bind fun t => if t = true then ((((R.ok v_thing).bind fun x => (R.ok (D.int 0)).bind fun y => dIx x y).bind (tabIn (dtab t_KINDS))).bind fun t => .ok (.bl t)) else .ok (.bl false)) else .ok (.bl false)) else .ok (.bl false)).bind fun d => .ok (.rt d none))
def F_is_worded (v_thing : D) : R D := done (m_is_worded v_thing)
def L_is_step_0 : D → R (Option D) :=
  fun (d : D) => (un2 d).bind fun p0 => (R.ok true).bind fun t => if t = true then ((tabR [("is_name", ap1 F_is_name), ("is_term_steps", ap1 F_is_term), ("is_test_word", ap1 F_is_test_word)] p0.1).bind fun F => ((R.ok p0.2).bind fun d => (R.ok []).bind fun ds => .ok (d :: ds)).bind F).bind fun x => .ok (some x) else .ok none
def m_is_step (v_thing : D) : R (Fl Unit Empty) :=
  ((((((R.ok v_thing).bind F_is_worded).bind asB).bind fun t => .ok (!t)).bind fun t => if t = true then .ok true else (((R.ok v_thing).bind dLen).bind fun x => (((((R.ok v_thing).bind fun x => (R.ok (D.int 0)).bind fun y => dIx x y).bind (tabIx (dtab t_KINDS))).bind dLen).bind fun x => (R.ok (D.int 1)).bind fun y => dAdd x y).bind fun y => dNe x y)).bind fun t => if t = true then lft ((R.ok (D.bl false)).bind fun d => .ok (.rt d none)) else (((((((R.ok v_thing).bind fun x => (R.ok (D.int 0)).bind fun y => dIx x y).bind (tabIx (dtab t_KINDS))).bind fun x => ((R.ok v_thing).bind fun x => ((R.ok (D.int 1)).bind asI).bind fun l => (R.ok none).bind fun h => dSl x l h).bind fun y => (dSrc x).bind fun xs => (dSrc y).bind fun ys => R.ok (zipD xs ys)).bind fun ds => (compR L_is_step_0 ds).bind fun l => .ok (.lst l)).bind dAll).bind fun d => .ok (.rt d none)))
def F_is_step (v_thing : D) : R D := done (m_is_step v_thing)
def L_names_in_step_0 : D → R (Option D) :=
  fun (d : D) => (R.ok d).bind fun v_part => ((R.ok v_part).bind fun x => (R.ok .non).bind fun y => dIsNot x y).bind fun t => if t = true then (R.ok v_part).bind fun x => .ok (some x) else .ok none
def m_names_in_step (v_step : D) : R (Fl Unit Empty) :=
  (((((R.ok v_step).bind fun x => (R.ok (D.int 0)).bind fun y => dIx x y).bind fun x => (R.ok (D.str "test")).bind fun y => dEq x y).bind fun t => if t = true then ((R.ok v_step).bind fun x => ((R.ok (D.int 2)).bind asI).bind fun l => (R.ok none).bind fun h => dSl x l h) else ((R.ok v_step).bind fun x => ((R.ok (D.int 1)).bind asI).bind fun l => (R.ok none).bind fun h => dSl x l h)).bind fun v_parts => ((((R.ok v_parts).bind dIter).bind fun ds => (compR L_names_in_step_0 ds).bind fun l => .ok (.lst l)).bind fun d => .ok (.rt d none)))
def F_names_in_step (v_step : D) : R D := done (m_names_in_step v_step)
def L_check_step_0 (v_told : D) : D → R (Option D) :=
  fun (d : D) => (R.ok d).bind fun v_name => (R.ok true).bind fun t => if t = true then (((R.ok v_name).bind fun x => (R.ok v_told).bind fun y => dIn x y).bind fun t => .ok (.bl t)).bind fun x => .ok (some x) else .ok none
def m_check_step (v_memory v_step : D) : R (Fl Unit Empty) :=
  ((((R.ok v_memory).bind fun x => (R.ok (D.int 0)).bind fun y => dIx x y).bind dDictOf).bind fun v_told => ((((((R.ok v_step).bind F_is_step).bind asB).bind fun t => .ok (!t)).bind fun t => if t = true then .ok true else (((((((R.ok v_step).bind F_names_in_step).bind dIter).bind fun ds => (compR (L_check_step_0 v_told) ds).bind fun l => .ok (.lst l)).bind dAll).bind asB).bind fun t => .ok (!t))).bind fun t => if t = true then lft (.exc "Nothing") else (.ok (.nx ()))))
def F_check_step (v_memory v_step : D) : R D := done (m_check_step v_memory v_step)
def m_asked_place (v_memory v_step : D) : R (Fl Unit Empty) :=
  (((R.ok v_memory).bind fun a => (R.ok v_step).bind fun b => F_check_step a b).bind fun _ => ((((R.ok v_memory).bind fun x => (R.ok (D.int 0)).bind fun y => dIx x y).bind dDictOf).bind fun v_told => ((((R.ok v_step).bind fun x => (R.ok (D.int 0)).bind fun y => dIx x y).bind fun x => (R.ok (D.str "load")).bind fun y => dEq x y).bind fun t => if t = true then lft (((R.ok v_told).bind fun x => ((R.ok v_step).bind fun x => (R.ok (D.int 2)).bind fun y => dIx x y).bind fun y => dIx x y).bind fun d => .ok (.rt d none)) else (((((R.ok v_step).bind fun x => (R.ok (D.int 0)).bind fun y => dIx x y).bind fun x => (((R.ok (D.str "store")).bind fun d => ((R.ok (D.str "free")).bind fun d => (R.ok []).bind fun ds => .ok (d :: ds)).bind fun ds => .ok (d :: ds)).bind fun ds => .ok (.tup ds)).bind fun y => dIn x y).bind fun t => if t = true then ((R.ok v_told).bind fun x => ((R.ok v_step).bind fun x => (R.ok (D.int 1)).bind fun y => dIx x y).bind fun y => dIx x y) else (R.ok .non)).bind fun d => .ok (.rt d none)))))
def F_asked_place (v_memory v_step : D) : R D := done (m_asked_place v_memory v_step)
def L_new_place_0 : D → R (Option (D × D)) :=
  fun (d : D) => (R.ok d).bind fun v_place => (R.ok true).bind fun t => if t = true then (R.ok v_place).bind fun x => (R.ok (D.bl true)).bind fun y => .ok (some (x, y)) else .ok none
def L_new_place_1 (v_taken : D) : (D) → R Bool :=
  fun (s0 : D) => ((R.ok s0).bind fun x => (R.ok v_taken).bind fun y => dIn x y)
def L_new_place_2 : (D) → R (Fl (D) (D)) :=
  fun (s0 : D) => ((R.ok (D.int 1)).bind fun d => (augI s0 d).bind fun v_found1 => (.ok (.nx v_found1)))
def m_new_place (v_told v_cells : D) : R (Fl Unit Empty) :=
  ((((((((R.ok v_told).bind dCollV).bind fun xs => (((R.ok v_cells).bind dCollV).bind fun xs => (((R.ok v_cells).bind dColl).bind fun xs => (R.ok []).bind fun ds => .ok (xs ++ ds)).bind fun ds => .ok (xs ++ ds)).bind fun ds => .ok (xs ++ ds)).bind szOk).bind fun ds => .ok (.lst ds)).bind dIter).bind fun ds => (dcompR L_new_place_0 ds []).bind fun l => .ok (.dct l)).bind fun v_taken => ((R.ok (D.int 1)).bind fun v_found => ((whileR (L_new_place_1 v_taken) L_new_place_2 1000 v_found).bind (Fl.go fun s1 => ((R.ok s1).bind fun d => .ok (.rt d none))))))
def F_new_place (v_told v_cells : D) : R D := done (m_new_place v_told v_cells)
def m_place_told (v_told v_term : D) : R (Fl Unit Empty) :=
  ((((R.ok v_term).bind fun x => (R.ok .non).bind fun y => dIs x y).bind fun t => if t = true then (R.ok (D.int 0)) else ((R.ok v_told).bind fun x => (R.ok v_term).bind fun y => dIx x y)).bind fun d => .ok (.rt d none))
def F_place_told (v_told v_term : D) : R D := done (m_place_told v_told v_term)
def m_changed (v_told v_cells v_step : D) : R (Fl (D × D) Empty) :=
  (((((R.ok v_step).bind fun x => (R.ok (D.int 0)).bind fun y => dIx x y).bind fun x => (R.ok (D.str "set")).bind fun y => dEq x y).bind fun t => if t = true then ((((R.ok v_told).bind fun d => (((R.ok v_step).bind fun x => (R.ok (D.int 2)).bind fun y => dIx x y).bind fun d => (R.ok []).bind fun ds => .ok (d :: ds)).bind fun ds => .ok (d :: ds)).bind (ap2 F_place_told)).bind fun d => ((R.ok v_step).bind fun x => (R.ok (D.int 1)).bind fun y => dIx x y).bind fun k => (dPut v_told k d).bind fun v_told1 => (.ok (.nx (v_told1, v_cells)))) else (((((R.ok v_step).bind fun x => (R.ok (D.int 0)).bind fun y => dIx x y).bind fun x => (R.ok (D.str "load")).bind fun y => dEq x y).bind fun t => if t = true then (((R.ok v_cells).bind fun x => ((R.ok v_told).bind fun x => ((R.ok v_step).bind fun x => (R.ok (D.int 2)).bind fun y => dIx x y).bind fun y => dIx x y).bind fun y => dIx x y).bind fun d => ((R.ok v_step).bind fun x => (R.ok (D.int 1)).bind fun y => dIx x y).bind fun k => (dPut v_told k d).bind fun v_told2 => (.ok (.nx (v_told2, v_cells)))) else (((((R.ok v_step).bind fun x => (R.ok (D.int 0)).bind fun y => dIx x y).bind fun x => (R.ok (D.str "store")).bind fun y => dEq x y).bind fun t => if t = true then ((((R.ok v_told).bind fun d => (((R.ok v_step).bind fun x => (R.ok (D.int 2)).bind fun y => dIx x y).bind fun d => (R.ok []).bind fun ds => .ok (d :: ds)).bind fun ds => .ok (d :: ds)).bind (ap2 F_place_told)).bind fun d => ((R.ok v_told).bind fun x => ((R.ok v_step).bind fun x => (R.ok (D.int 1)).bind fun y => dIx x y).bind fun y => dIx x y).bind fun k => (dPut v_cells k d).bind fun v_cells1 => (.ok (.nx (v_told, v_cells1)))) else (((((R.ok v_step).bind fun x => (R.ok (D.int 0)).bind fun y => dIx x y).bind fun x => (R.ok (D.str "free")).bind fun y => dEq x y).bind fun t => if t = true then ((dDct v_cells).bind fun kvs => ((R.ok v_told).bind fun x => ((R.ok v_step).bind fun x => (R.ok (D.int 1)).bind fun y => dIx x y).bind fun y => dIx x y).bind fun k => (popK kvs k).bind fun v_cells2 => (.ok (.nx (v_told, v_cells2)))) else ((((R.ok v_told).bind fun d => ((R.ok v_cells).bind fun d => (R.ok []).bind fun ds => .ok (d :: ds)).bind fun ds => .ok (d :: ds)).bind (ap2 F_new_place)).bind fun v_place => ((((R.ok v_cells).bind dLen).bind fun x => (R.ok (D.int 60)).bind fun y => dGe x y).bind fun t => if t = true then lft R.bad else ((R.ok (D.int 0)).bind fun d => (R.ok v_place).bind fun k => (dPut v_cells k d).bind fun v_cells3 => ((R.ok v_place).bind fun d => ((R.ok v_step).bind fun x => (R.ok (D.int 1)).bind fun y => dIx x y).bind fun k => (dPut v_told k d).bind fun v_told3 => (.ok (.nx (v_told3, v_cells3)))))))).bind (Fl.go fun (s0 : D × D) => (.ok (.nx (s0.1, s0.2)))))).bind (Fl.go fun (s1 : D × D) => (.ok (.nx (s1.1, s1.2)))))).bind (Fl.go fun (s2 : D × D) => (.ok (.nx (s2.1, s2.2)))))).bind (Fl.go fun (s3 : D × D) => (.ok (.nx (s3.1, s3.2)))))
def F_changed (v_told v_cells v_step : D) : R (D × D) := doneI2 (m_changed v_told v_cells v_step)
def m_memory_of (v_told v_cells : D) : R (Fl Unit Empty) :=
  (((((((R.ok v_told).bind dCollI).bind dSortL).bind dTuple).bind fun d => (((((R.ok v_cells).bind dCollI).bind dSortL).bind dTuple).bind fun d => (R.ok []).bind fun ds => .ok (d :: ds)).bind fun ds => .ok (d :: ds)).bind fun ds => .ok (.tup ds)).bind fun d => .ok (.rt d none))
def F_memory_of (v_told v_cells : D) : R D := done (m_memory_of v_told v_cells)
def m_done (v_memory v_step : D) : R (Fl Unit Empty) :=
  (((R.ok v_memory).bind fun a => (R.ok v_step).bind fun b => F_asked_place a b).bind fun v_asked => ((((R.ok v_memory).bind fun x => (R.ok (D.int 0)).bind fun y => dIx x y).bind dDictOf).bind fun v_told => (((R.ok v_memory).bind fun x => (R.ok (D.int 1)).bind fun y => dIx x y).bind dDictOf).bind fun v_cells => ((((R.ok v_asked).bind fun x => (R.ok .non).bind fun y => dIsNot x y).bind fun t => if t = true then ((R.ok v_asked).bind fun x => (R.ok v_cells).bind fun y => dNotIn x y) else .ok false).bind fun t => if t = true then lft ((((R.ok (D.str "wrong")).bind fun d => (R.ok []).bind fun ds => .ok (d :: ds)).bind fun ds => .ok (.tup ds)).bind fun d => .ok (.rt d none)) else ((((R.ok v_step).bind fun x => (R.ok (D.int 0)).bind fun y => dIx x y).bind fun x => (R.ok (D.str "test")).bind fun y => dEq x y).bind fun t => if t = true then lft (((((R.ok v_told).bind fun x => ((R.ok v_step).bind fun x => (R.ok (D.int 2)).bind fun y => dIx x y).bind fun y => dIx x y).bind fun x => (((R.ok v_told).bind fun d => (((R.ok v_step).bind fun x => (R.ok (D.int 3)).bind fun y => dIx x y).bind fun d => (R.ok []).bind fun ds => .ok (d :: ds)).bind fun ds => .ok (d :: ds)).bind (ap2 F_place_told)).bind fun y => dEq x y).bind fun t => .ok (.bl t)).bind fun v_is_same => ((((R.ok v_is_same).bind fun x => ((((R.ok v_step).bind fun x => (R.ok (D.int 1)).bind fun y => dIx x y).bind fun x => (R.ok (D.str "same")).bind fun y => dEq x y).bind fun t => .ok (.bl t)).bind fun y => dEq x y).bind fun t => if t = true then (((R.ok (D.str "done")).bind fun d => ((R.ok v_memory).bind fun d => (R.ok []).bind fun ds => .ok (d :: ds)).bind fun ds => .ok (d :: ds)).bind fun ds => .ok (.tup ds)) else (((R.ok (D.str "ends")).bind fun d => (R.ok []).bind fun ds => .ok (d :: ds)).bind fun ds => .ok (.tup ds))).bind fun d => .ok (.rt d none))) else (((R.ok v_step).bind fun d => (R.ok []).bind fun ds => .ok (d :: ds)).bind fun ds => (nox (apj1 F_changed v_told v_cells ds)).bind fun r0 => ((((R.ok (D.str "done")).bind fun d => (((R.ok r0.1).bind fun a => (R.ok r0.2).bind fun b => F_memory_of a b).bind fun d => (R.ok []).bind fun ds => .ok (d :: ds)).bind fun ds => .ok (d :: ds)).bind fun ds => .ok (.tup ds)).bind fun d => .ok (.rt d none)))))))
def F_done (v_memory v_step : D) : R D := done (m_done v_memory v_step)
def L_is_so_0 (v_told : D) : D → R (Option D) :=
  fun (d : D) => (un2 d).bind fun p0 => (R.ok true).bind fun t => if t = true then ((((R.ok v_told).bind fun x => (R.ok p0.1).bind fun y => dIx x y).bind fun x => (R.ok p0.2).bind fun y => dEq x y).bind fun t => .ok (.bl t)).bind fun x => .ok (some x) else .ok none
def m_is_so (v_memory v_noted : D) : R (Fl Unit Empty) :=
  ((((R.ok v_memory).bind fun x => (R.ok (D.int 0)).bind fun y => dIx x y).bind dDictOf).bind fun v_told => (((((R.ok v_noted).bind dIter).bind fun ds => (compR (L_is_so_0 v_told) ds).bind fun l => .ok (.lst l)).bind dAll).bind fun d => .ok (.rt d none)))
def F_is_so (v_memory v_noted : D) : R D := done (m_is_so v_memory v_noted)
def L_played_log_0 : D → (D) → R (Fl (D) (D)) :=
  fun (d : D) (s0 : D) => ((un2 d).bind fun q0 => (R.ok q0.1).bind fun x => (un2 q0.2).bind fun y => R.ok (x, y)).bind fun p1 => (((R.ok s0).bind fun a => (R.ok p1.2.1).bind fun b => F_done a b).bind fun v_answer => ((((R.ok v_answer).bind fun x => (R.ok (D.int 0)).bind fun y => dIx x y).bind fun x => (R.ok (D.str "done")).bind fun y => dNe x y).bind fun t => if t = true then lft ((((R.ok p1.1).bind fun d => (((R.ok v_answer).bind fun x => (R.ok (D.int 0)).bind fun y => dIx x y).bind fun d => ((R.ok s0).bind fun d => (R.ok []).bind fun ds => .ok (d :: ds)).bind fun ds => .ok (d :: ds)).bind fun ds => .ok (d :: ds)).bind fun ds => .ok (.tup ds)).bind fun d => .ok (.rt d none)) else (((R.ok v_answer).bind fun x => (R.ok (D.int 1)).bind fun y => dIx x y).bind fun v_memory => (((((R.ok v_memory).bind fun a => (R.ok p1.2.2).bind fun b => F_is_so a b).bind asB).bind fun t => .ok (!t)).bind fun t => if t = true then lft ((((R.ok p1.1).bind fun d => ((R.ok (D.str "noted")).bind fun d => ((R.ok v_memory).bind fun d => (R.ok []).bind fun ds => .ok (d :: ds)).bind fun ds => .ok (d :: ds)).bind fun ds => .ok (d :: ds)).bind fun ds => .ok (.tup ds)).bind fun d => .ok (.rt d none)) else (.ok (.nx v_memory))))))
def K_played_log_0 (p0 : D × D) : (D) → R (Fl (Unit) (Empty)) :=
  fun (s1 : D) => (((((R.ok p0.2).bind dLen).bind fun d => ((R.ok (D.str "right")).bind fun d => ((R.ok s1).bind fun d => (R.ok []).bind fun ds => .ok (d :: ds)).bind fun ds => .ok (d :: ds)).bind fun ds => .ok (d :: ds)).bind fun ds => .ok (.tup ds)).bind fun d => .ok (.rt d none))
def m_played_log (v_log : D) : R (Fl Unit Empty) :=
  ((R.ok v_log).bind fun d => (un2 d).bind fun p0 => (((R.ok p0.2).bind fun x => (dSrc x).bind fun xs => R.ok (enumD xs)).bind fun ds => (forR L_played_log_0 ds p0.1).bind (Fl.go (K_played_log_0 p0))))
def F_played_log (v_log : D) : R D := done (m_played_log v_log)
def m_fault_in (v_log : D) : R (Fl Unit Empty) :=
  (((R.ok v_log).bind F_played_log).bind fun d => (un3 d).bind fun p0 => ((((R.ok p0.2.1).bind fun x => (R.ok (D.str "right")).bind fun y => dEq x y).bind fun t => if t = true then (R.ok .non) else (((R.ok p0.1).bind fun d => ((R.ok p0.2.1).bind fun d => (R.ok []).bind fun ds => .ok (d :: ds)).bind fun ds => .ok (d :: ds)).bind fun ds => .ok (.tup ds))).bind fun d => .ok (.rt d none)))
def F_fault_in (v_log : D) : R D := done (m_fault_in v_log)
def L_is_tuple_of__is_step_forms_0 : D → R (Option D) :=
  fun (d : D) => (R.ok d).bind fun v_item => (R.ok true).bind fun t => if t = true then ((tabR [("is_step_forms", ap1 F_is_step_forms)] (D.fn "is_step_forms")).bind fun F => ((R.ok v_item).bind fun d => (R.ok []).bind fun ds => .ok (d :: ds)).bind F).bind fun x => .ok (some x) else .ok none
def m_is_tuple_of__is_step_forms (v_thing : D) : R (Fl Unit Empty) :=
  (((((R.ok v_thing).bind (dIsI .tuple)).bind asB).bind fun t => if t = true then ((((R.ok v_thing).bind dIter).bind fun ds => (compR L_is_tuple_of__is_step_forms_0 ds).bind fun l => .ok (.lst l)).bind dAll) else .ok (.bl false)).bind fun d => .ok (.rt d none))
def F_is_tuple_of__is_step_forms (v_thing : D) : R D := done (m_is_tuple_of__is_step_forms v_thing)
def G_is_tuple_of__is_step_forms (a b : D) : R D := (chkFn "is_step_forms" b).bind fun _ => F_is_tuple_of__is_step_forms a
def L_log_of_0 : D → R (Option D) :=
  fun (d : D) => (un2 d).bind fun p0 => (R.ok true).bind fun t => if t = true then (R.ok p0.1).bind fun x => .ok (some x) else .ok none
def L_log_of_1 (v_told : D) : D → R (Option D) :=
  fun (d : D) => (R.ok d).bind fun v_name => (R.ok true).bind fun t => if t = true then (((R.ok v_name).bind fun x => (R.ok v_told).bind fun y => dIn x y).bind fun t => .ok (.bl t)).bind fun x => .ok (some x) else .ok none
def L_log_of_2 (v_told : D) : D → R (List D) :=
  fun (d : D) => (R.ok d).bind fun v_step => (R.ok true).bind fun t => if t = true then (((R.ok v_step).bind F_step_names).bind dIter).bind fun ds1 => compR (L_log_of_1 v_told) ds1 else .ok []
def L_log_of_3 : D → (D × D) → R (Fl (D × D) (D × D)) :=
  fun (d : D) (s0 : D × D) => (R.ok d).bind fun v_step1 => (((R.ok s0.1).bind fun a => (R.ok v_step1).bind fun b => F_done a b).bind fun v_answer => ((((R.ok v_answer).bind fun x => (R.ok (D.int 0)).bind fun y => dIx x y).bind fun x => (R.ok (D.str "done")).bind fun y => dNe x y).bind fun t => if t = true then lft (.ok (.bk (s0.1, s0.2))) else (((R.ok v_answer).bind fun x => (R.ok (D.int 1)).bind fun y => dIx x y).bind fun v_memory1 => ((dLst s0.2).bind fun ds => (((R.ok v_step1).bind fun d => (((R.ok v_memory1).bind fun x => (R.ok (D.int 0)).bind fun y => dIx x y).bind fun d => (R.ok []).bind fun ds => .ok (d :: ds)).bind fun ds => .ok (d :: ds)).bind fun ds => .ok (.tup ds)).bind fun d => (appL ds d).bind fun v_rows1 => (.ok (.nx (v_memory1, v_rows1)))))))
def m_log_of (v_memory v_steps : D) : R (Fl Unit Empty) :=
  ((((((R.ok v_steps).bind fun a => (R.ok (D.fn "is_step_forms")).bind fun b => G_is_tuple_of__is_step_forms a b).bind asB).bind fun t => .ok (!t)).bind fun t => if t = true then .ok true else (((R.ok v_steps).bind dLen).bind fun x => (R.ok (D.int 200)).bind fun y => dGt x y)).bind fun t => if t = true then lft (.exc "Nothing") else (((((R.ok v_memory).bind fun x => (R.ok (D.int 0)).bind fun y => dIx x y).bind dIter).bind fun ds => (compR L_log_of_0 ds).bind fun l => .ok (.lst l)).bind fun v_told => (R.ok v_memory).bind fun v_first => ((R.ok []).bind fun ds => .ok (.lst ds)).bind fun v_rows => (((((((R.ok v_steps).bind dIter).bind fun ds => ((compR2 (L_log_of_2 v_told) ds).bind szOk).bind fun l => .ok (.lst l)).bind dAll).bind asB).bind fun t => .ok (!t)).bind fun t => if t = true then lft (.exc "Nothing") else (((R.ok v_steps).bind dIter).bind fun ds => (forR L_log_of_3 ds (v_memory, v_rows)).bind (Fl.go fun s1 => ((((R.ok v_first).bind fun d => (((R.ok s1.2).bind dTuple).bind fun d => (R.ok []).bind fun ds => .ok (d :: ds)).bind fun ds => .ok (d :: ds)).bind fun ds => .ok (.tup ds)).bind fun d => .ok (.rt d none)))))))
def F_log_of (v_memory v_steps : D) : R D := done (m_log_of v_memory v_steps)
def L_mended_0 (v_told : D) : D → R (Option D) :=
  fun (d : D) => (un2 d).bind fun p1 => (R.ok true).bind fun t => if t = true then (((R.ok p1.1).bind fun d => (((R.ok v_told).bind fun x => (R.ok p1.1).bind fun y => dIx x y).bind fun d => (R.ok []).bind fun ds => .ok (d :: ds)).bind fun ds => .ok (d :: ds)).bind fun ds => .ok (.tup ds)).bind fun x => .ok (some x) else .ok none
def L_mended_1 : D → (D × D) → R (Fl (D × D) (D × D)) :=
  fun (d : D) (s0 : D × D) => (un2 d).bind fun p0 => (((R.ok s0.1).bind fun a => (R.ok p0.1).bind fun b => F_done a b).bind fun v_answer => ((((R.ok v_answer).bind fun x => (R.ok (D.int 0)).bind fun y => dIx x y).bind fun x => (R.ok (D.str "done")).bind fun y => dNe x y).bind fun t => if t = true then lft (.ok (.bk (s0.1, s0.2))) else (((R.ok v_answer).bind fun x => (R.ok (D.int 1)).bind fun y => dIx x y).bind fun v_memory1 => ((((R.ok v_memory1).bind fun x => (R.ok (D.int 0)).bind fun y => dIx x y).bind dDictOf).bind fun v_told => ((dLst s0.2).bind fun ds => (((R.ok p0.1).bind fun d => (((((R.ok p0.2).bind dIter).bind fun ds => (compR (L_mended_0 v_told) ds).bind fun l => .ok (.lst l)).bind dTuple).bind fun d => (R.ok []).bind fun ds => .ok (d :: ds)).bind fun ds => .ok (d :: ds)).bind fun ds => .ok (.tup ds)).bind fun d => (appL ds d).bind fun v_found1 => (.ok (.nx (v_memory1, v_found1))))))))
def m_mended (v_log : D) : R (Fl Unit Empty) :=
  (((R.ok v_log).bind fun x => (R.ok (D.int 0)).bind fun y => dIx x y).bind fun v_memory => ((R.ok v_log).bind fun x => (R.ok (D.int 1)).bind fun y => dIx x y).bind fun v_rows => ((R.ok []).bind fun ds => .ok (.lst ds)).bind fun v_found => (((R.ok v_rows).bind dIter).bind fun ds => (forR L_mended_1 ds (v_memory, v_found)).bind (Fl.go fun s1 => (((((R.ok v_log).bind fun x => (R.ok (D.int 0)).bind fun y => dIx x y).bind fun d => (((R.ok s1.2).bind dTuple).bind fun d => (R.ok []).bind fun ds => .ok (d :: ds)).bind fun ds => .ok (d :: ds)).bind fun ds => .ok (.tup ds)).bind fun d => .ok (.rt d none)))))
def F_mended (v_log : D) : R D := done (m_mended v_log)
def L_noted_of_0 (v_name : D) (p0 : D × (D × D)) : D → R (Option D) :=
  fun (d : D) => (un2 d).bind fun p1 => ((R.ok p1.1).bind fun x => (R.ok v_name).bind fun y => dEq x y).bind fun t => if t = true then (((R.ok p0.1).bind fun d => ((R.ok p1.2).bind fun d => (R.ok []).bind fun ds => .ok (d :: ds)).bind fun ds => .ok (d :: ds)).bind fun ds => .ok (.tup ds)).bind fun x => .ok (some x) else .ok none
def L_noted_of_1 (v_name : D) : D → (D) → R (Fl (D) (D)) :=
  fun (d : D) (s0 : D) => ((un2 d).bind fun q0 => (R.ok q0.1).bind fun x => (un2 q0.2).bind fun y => R.ok (x, y)).bind fun p0 => ((dLst s0).bind fun ds => (((R.ok p0.2.2).bind dIter).bind fun ds => (compR (L_noted_of_0 v_name p0) ds).bind fun l => .ok (.lst l)).bind fun d => (extL ds d).bind fun v_found1 => (.ok (.nx v_found1)))
def m_noted_of (v_log v_name : D) : R (Fl Unit Empty) :=
  (((R.ok []).bind fun ds => .ok (.lst ds)).bind fun v_found => ((((R.ok v_log).bind fun x => (R.ok (D.int 1)).bind fun y => dIx x y).bind fun x => (dSrc x).bind fun xs => R.ok (enumD xs)).bind fun ds => (forR (L_noted_of_1 v_name) ds v_found).bind (Fl.go fun s1 => (((R.ok s1).bind dTuple).bind fun d => .ok (.rt d none)))))
def F_noted_of (v_log v_name : D) : R D := done (m_noted_of v_log v_name)
def L_law_0 : D → D → R (D × D) :=
  fun (d : D) (b0 : D) => (R.ok d).bind fun v_k => (((((R.ok (D.str "x")).bind fun d => ((R.ok (D.str "y")).bind fun d => (R.ok []).bind fun ds => .ok (d :: ds)).bind fun ds => .ok (d :: ds)).bind fun ds => .ok (.tup ds)).bind fun d => (R.ok []).bind fun ds => .ok (d :: ds)).bind fun ds => nox (api1 F__law_drawn_step b0 ds))
def L_law_1 : D → R (Option D) :=
  fun (d : D) => ((un2 d).bind fun q0 => (R.ok q0.1).bind fun x => (un2 q0.2).bind fun y => R.ok (x, y)).bind fun p0 => ((R.ok (D.str "x")).bind fun x => ((R.ok p0.2.2).bind dDictOf).bind fun y => dIn x y).bind fun t => if t = true then (((R.ok p0.1).bind fun d => ((((R.ok p0.2.2).bind dDictOf).bind fun x => (R.ok (D.str "x")).bind fun y => dIx x y).bind fun d => (R.ok []).bind fun ds => .ok (d :: ds)).bind fun ds => .ok (d :: ds)).bind fun ds => .ok (.tup ds)).bind fun x => .ok (some x) else .ok none
def L_law_2 : D → R (Option D) :=
  fun (d : D) => (R.ok d).bind fun v_row => (R.ok true).bind fun t => if t = true then ((R.ok v_row).bind fun x => (R.ok (D.int 0)).bind fun y => dIx x y).bind fun x => .ok (some x) else .ok none
def L_law_3 : D → R (Option D) :=
  fun (d : D) => (R.ok d).bind fun v_row1 => (R.ok true).bind fun t => if t = true then ((R.ok v_row1).bind fun x => (R.ok (D.int 0)).bind fun y => dIx x y).bind fun x => .ok (some x) else .ok none
def L_law_4 (r2 : D × D) : D → (Unit) → R (Fl (Unit) (Unit)) :=
  fun (d : D) (s1 : Unit) => (R.ok d).bind fun v_odd => ((tryR fm_Nothing ((R.ok r2.1).bind fun a => (R.ok v_odd).bind fun b => F_cut_log a b) ((R.ok (D.bl false)).bind fun d => .ok (.rt d none)) (.ok (.ct ()))).bind (Fl.go fun (a : Empty) => a.elim))
def L_law_5 : D → (D) → R (Fl (D) (D)) :=
  fun (d : D) (s0 : D) => (R.ok d).bind fun v_lap => ((((((R.ok (D.str "x")).bind fun d => ((R.ok (D.str "y")).bind fun d => (R.ok []).bind fun ds => .ok (d :: ds)).bind fun ds => .ok (d :: ds)).bind fun ds => .ok (.tup ds)).bind fun d => ((R.ok (D.int 3)).bind fun d => (R.ok []).bind fun ds => .ok (d :: ds)).bind fun ds => .ok (d :: ds)).bind fun ds => nox (api2 F__law_memory s0 ds)).bind fun r0 => (((((((R.ok (D.int 6)).bind fun d => (R.ok []).bind fun ds => .ok (d :: ds)).bind fun ds => nox (api1 F__law_take r0.2 ds)).bind fun r => (dRng1 r.1).bind fun ds => .ok (ds, r.2)).bind fun r => (compF L_law_0 r.1 r.2).bind fun w => .ok (.lst w.1, w.2)).bind fun r => (dTuple r.1).bind fun d => .ok (d, r.2)).bind fun r1 => (((R.ok r0.1).bind fun a => (R.ok r1.1).bind fun b => F_log_of a b).bind fun v_log => ((((((R.ok v_log).bind fun a => (((R.ok r0.1).bind fun d => (((R.ok r0.1).bind fun a => (R.ok r1.1).bind fun b => F__law_logged a b).bind fun d => (R.ok []).bind fun ds => .ok (d :: ds)).bind fun ds => .ok (d :: ds)).bind fun ds => .ok (.tup ds)).bind fun b => F__law_alike a b).bind asB).bind fun t => .ok (!t)).bind fun t => if t = true then .ok true else ((((R.ok v_log).bind F_checked_log).bind fun x => (R.ok v_log).bind fun y => dNe x y).bind fun t => if t = true then .ok true else (((R.ok v_log).bind F_fault_in).bind fun x => (R.ok .non).bind fun y => dIsNot x y))).bind fun t => if t = true then lft ((R.ok (D.bl false)).bind fun d => .ok (.rt d none)) else ((((R.ok v_log).bind fun d => (R.ok []).bind fun ds => .ok (d :: ds)).bind fun ds => nox (api1 F__law_turned r1.2 ds)).bind fun r2 => (((R.ok r2.1).bind F__law_played).bind fun v_due => (((((((R.ok r2.1).bind F_played_log).bind fun a => (R.ok v_due).bind fun b => F__law_alike a b).bind asB).bind fun t => .ok (!t)).bind fun t => if t = true then .ok true else (((((R.ok r2.1).bind F_fault_in).bind fun a => ((((R.ok v_due).bind fun x => (R.ok (D.int 1)).bind fun y => dIx x y).bind fun x => (R.ok (D.str "right")).bind fun y => dEq x y).bind fun t => if t = true then (R.ok .non) else ((R.ok v_due).bind fun x => (R.ok none).bind fun l => ((R.ok (D.int 2)).bind asI).bind fun h => dSl x l h)).bind fun b => F__law_alike a b).bind asB).bind fun t => .ok (!t))).bind fun t => if t = true then lft ((R.ok (D.bl false)).bind fun d => .ok (.rt d none)) else (((((((R.ok r2.1).bind fun x => (R.ok (D.int 1)).bind fun y => dIx x y).bind dLen).bind fun x => (R.ok (D.int 1)).bind fun y => dAdd x y).bind fun d => (R.ok []).bind fun ds => .ok (d :: ds)).bind fun ds => nox (api1 F__law_take r2.2 ds)).bind fun r3 => ((((((R.ok r2.1).bind fun a => (R.ok r3.1).bind fun b => F_cut_log a b).bind fun a => (((R.ok r0.1).bind fun d => ((((R.ok r2.1).bind fun x => (R.ok (D.int 1)).bind fun y => dIx x y).bind fun x => (R.ok none).bind fun l => ((R.ok r3.1).bind asI).bind fun h => dSl x l h).bind fun d => (R.ok []).bind fun ds => .ok (d :: ds)).bind fun ds => .ok (d :: ds)).bind fun ds => .ok (.tup ds)).bind fun b => F__law_alike a b).bind asB).bind fun t => .ok (!t)).bind fun t => if t = true then lft ((R.ok (D.bl false)).bind fun d => .ok (.rt d none)) else ((((((R.ok r2.1).bind fun x => (R.ok (D.int 1)).bind fun y => dIx x y).bind fun x => (dSrc x).bind fun xs => R.ok (enumD xs)).bind fun ds => (compR L_law_1 ds).bind fun l => .ok (.lst l)).bind dTuple).bind fun v_told => ((((((R.ok r2.1).bind fun a => (R.ok (D.str "x")).bind fun b => F_noted_of a b).bind fun a => (R.ok v_told).bind fun b => F__law_alike a b).bind asB).bind fun t => .ok (!t)).bind fun t => if t = true then lft ((R.ok (D.bl false)).bind fun d => .ok (.rt d none)) else (((R.ok r2.1).bind F_mended).bind fun v_right => ((((((R.ok v_right).bind F__law_played).bind fun x => (R.ok (D.int 1)).bind fun y => dIx x y).bind fun x => (R.ok (D.str "right")).bind fun y => dNe x y).bind fun t => if t = true then .ok true else ((((R.ok v_right).bind fun x => (R.ok (D.int 0)).bind fun y => dIx x y).bind fun x => (R.ok r0.1).bind fun y => dNe x y).bind fun t => if t = true then .ok true else (((((R.ok v_right).bind fun x => (R.ok (D.int 1)).bind fun y => dIx x y).bind dIter).bind fun ds => (compR L_law_2 ds).bind fun l => .ok (.lst l)).bind fun x => (((((R.ok r2.1).bind fun x => (R.ok (D.int 1)).bind fun y => dIx x y).bind dIter).bind fun ds => (compR L_law_3 ds).bind fun l => .ok (.lst l)).bind fun x => (R.ok none).bind fun l => ((((R.ok v_right).bind fun x => (R.ok (D.int 1)).bind fun y => dIx x y).bind dLen).bind asI).bind fun h => dSl x l h).bind fun y => dNe x y))).bind fun t => if t = true then lft ((R.ok (D.bl false)).bind fun d => .ok (.rt d none)) else ((((((((R.ok r2.1).bind fun x => (R.ok (D.int 1)).bind fun y => dIx x y).bind dLen).bind fun x => (R.ok (D.int 1)).bind fun y => dAdd x y).bind fun d => (((R.ok (D.int 1)).bind dNeg).bind fun d => ((R.ok (D.bl true)).bind fun d => ((R.ok .non).bind fun d => (R.ok []).bind fun ds => .ok (d :: ds)).bind fun ds => .ok (d :: ds)).bind fun ds => .ok (d :: ds)).bind fun ds => .ok (d :: ds)).bind fun ds => .ok (.tup ds)).bind dIter).bind fun ds => (forR (L_law_4 r2) ds ()).bind (Fl.go fun s2 => (.ok (.nx r3.2)))))))))))))))))
def m_law (v_script : D) : R (Fl Unit Empty) :=
  ((((R.ok v_script).bind fun d => (R.ok []).bind fun ds => .ok (d :: ds)).bind fun ds => nox (ap1 F__law_bag ds)).bind fun v_bag => (((R.ok (D.int 6)).bind dRng1).bind fun ds => (forR L_law_5 ds v_bag).bind (Fl.go fun s3 => ((R.ok (D.bl true)).bind fun d => .ok (.rt d none)))))
def F_law (v_script : D) : R D := done (m_law v_script)
theorem b__law_alike (M : MF K w mg)  (hr : Room 0 (A.deeper (envOfC "_law_alike" (defScope (top 73)) s.heap.objs.size f cdv))) (hg : A.guards = some []) (v_found v_due : D) :
    JN (dc0 K ⟨mg, w⟩ H E) (cxOf (L2.CX P w) P w K mg base ["found", "due"] "_law_alike" (defScope (top 73)) f cdv A outer s H E) unEn noEn (env0 [v_found, v_due] 0) (defBody (top 73)) (m__law_alike v_found v_due) := by
  obtain ⟨S, Ek, po⟩ := ctx_ok (P := P) (w := w) (K := K) (mg := mg) (base := base) (N := ["found", "due"]) (outer := outer) (H := H) (E := E) (by decide) hr hg
  exact jn_ret (je_and (je_reprEq S (jv_fz 0) (jv_fz 1) (by rfl) M.g_repr) (je_one (je_cmp (o_eq S) (jv_fz 0) (jv_fz 1))))
theorem b__law_bag (M : MF K w mg)  (hr : Room 0 (A.deeper (envOfC "_law_bag" (defScope (top 70)) s.heap.objs.size f cdv))) (hg : A.guards = some []) (v_script : D) :
    JN (dcO K ⟨mg, w⟩ H) (cxOf (L2.CX P w) P w K mg base ["script", "cell"] "_law_bag" (defScope (top 70)) f cdv A outer s H E) unEn noEn (env0 [v_script] 1) (defBody (top 70)) (m__law_bag v_script) := by
  obtain ⟨S, Ek, po⟩ := ctxO_ok (P := P) (w := w) (K := K) (mg := mg) (base := base) (N := ["script", "cell"]) (outer := outer) (H := H) (E := E) (by decide) hr hg
  exact jn_retO (jo_lst (ja_cons (je_int) (ja_cons (je_int) (ja_cons (je_int) (ja_cons (JO.je (jo_lc (own := [("cell", 1)]) S (JI.same (ji_fz S (JM.je (jm_sl S (jv_fz 0) (jp_none) (jp_some (je_int)))))) (sg_name 1) (blkOk_by rfl) (by simp) (fun s H C cl fp S => (pg_name S.nd rfl (by first | exact .inl rfl | exact .inr rfl))) (fun s H C cl fp S v_cell => jts_nil) (fun s H C cl fp S v_cell => je_cB (c_abs) (jv_fz 1) (by rfl) M.g_abs bt_abs))) (ja_nil))))))
theorem b__law_take (M : MF K w mg)  {p : Addr} (hr : Room 0 (A.deeper (envOfC "_law_take" (defScope (top 71)) s.heap.objs.size f cdv))) (hg : A.guards = some []) (v_bag v_many : D) :
    JN (dcI K ⟨mg, w⟩ H p) (cxOf (L2.CX P w) P w K mg base ["bag", "many", "begin", "second", "cell", "stirred", "value"] "_law_take" (defScope (top 71)) f cdv A outer s H E) unEn noEn (.ow 1 v_bag :: env0 [v_many] 5) (defBody (top 71)) (m__law_take v_bag v_many) := by
  obtain ⟨S, Ek, po⟩ := ctxI_ok (p := p) (P := P) (w := w) (K := K) (mg := mg) (base := base) (N := ["bag", "many", "begin", "second", "cell", "stirred", "value"]) (outer := outer) (H := H) (E := E) (by decide) hr hg
  exact jn_if (fun (s : D) => [.ow 1 s, .fz v_many, .un, .un, .un, .un, .un]) (jt_cmp (o_eq S) (JE.v (je_ix S (jv_ow 0) (JE.v (je_int)))) (JE.v (je_int))) (jn_set S 4 (je_ix S (JO.v (jo_op (o_cat S) (JM.v (jm_sl S (JE.v (je_ix S (jv_ow 0) (JE.v (je_int)))) (jp_some (je_ix S (jv_ow 0) (JE.v (je_int)))) (jp_none))) (JO.v (jo_lst (ja_cons (je_int) (ja_nil)))))) (JE.v (je_int))) (fun v_cell => jn_augAdd S 0 (je_int) (je_int) (fun v_bag1 => jn_if (fun (s : D) => [.ow 1 s, .fz v_many, .un, .un, .fz v_cell, .un, .un]) (jt_cmp (o_ge) (jv_fz 4) (JE.v (je_op o_pow (JE.v (je_int)) (JE.v (je_int))))) (jn_store S 0 (je_var 4) (je_int) (fun v_bag2 => jn_end v_bag2 (wk_eq (wk_eq (wk_un (wk_un (wk_eq (wk_un (wk_un (wk_nil)))))))))) (jn_end v_bag1 (wk_eq (wk_eq (wk_un (wk_un (wk_eq (wk_un (wk_un (wk_nil))))))))) (fun s0 => jn_set S 5 (JM.je (jm_op (o_add S) (JE.v (JM.je (jm_op (o_add S) (JE.v (je_op o_mul (JE.v (je_ix S (jv_ow 0) (JE.v (je_int)))) (JE.v (je_int)))) (JE.v (je_op o_mod (JE.v (je_cT (c_int) (jv_fz 4) (by rfl) M.g_int bt_int)) (JE.v (je_int))))))) (JE.v (je_op o_mul (JE.v (je_int)) (JE.v (je_ix S (jv_ow 0) (JE.v (je_int)))))))) (fun v_stirred => jn_store S 0 (je_op o_mod (JE.v (je_cT (c_int) (jv_fz 5) (by rfl) M.g_int bt_int)) (JE.v (je_int))) (je_int) (fun v_bag3 => jn_end v_bag3 (wk_eq (wk_eq (wk_un (wk_un (wk_un (wk_un (wk_un (wk_nil)))))))))))))) (jn_end v_bag (wk_eq (wk_eq (wk_un (wk_un (wk_un (wk_un (wk_un (wk_nil))))))))) (fun s1 => jn_guard (jt_cmp (o_gt) (JE.v (je_ix S (jv_ow 0) (JE.v (je_int)))) (JE.v (je_int))) (jn_set S 6 (je_op o_mod (JE.v (je_cT (c_int) (JE.v (je_ix S (jv_ow 0) (JE.v (je_int)))) (by rfl) M.g_int bt_int)) (jv_fz 1)) (fun v_value => jn_store S 0 (je_op o_fdiv (JE.v (je_cT (c_int) (JE.v (je_ix S (jv_ow 0) (JE.v (je_int)))) (by rfl) M.g_int bt_int)) (jv_fz 1)) (je_int) (fun v_bag4 => jn_retIo 0 (je_var 6)))) (jn_set S 2 (je_op o_mod (JE.v (je_cT (c_int) (JE.v (je_op o_mul (JE.v (JM.je (jm_op (o_add S) (JE.v (je_ix S (jv_ow 0) (JE.v (je_int)))) (JE.v (je_int))))) (JE.v (je_int)))) (by rfl) M.g_int bt_int)) (JE.v (je_int))) (fun v_begin => jn_set S 3 (je_op o_mod (JE.v (je_cT (c_int) (JE.v (je_op o_mul (JE.v (je_op o_mod (JE.v (je_cT (c_int) (JE.v (je_op o_mul (jv_fz 2) (jv_fz 2))) (by rfl) M.g_int bt_int)) (JE.v (je_int)))) (JE.v (je_int)))) (by rfl) M.g_int bt_int)) (JE.v (je_int))) (fun v_second => jn_retIo 0 (je_op o_mod (JE.v (je_cT (c_int) (JE.v (je_op o_fdiv (jv_fz 3) (JE.v (je_int)))) (by rfl) M.g_int bt_int)) (jv_fz 1))))))
theorem b__law_some (M : MF K w mg) (h__law_take : FnI P w K mg base 1 "_law_take" 1 (api1 F__law_take)) {p : Addr} (hr : Room 1 (A.deeper (envOfC "_law_some" (defScope (top 72)) s.heap.objs.size f cdv))) (hg : A.guards = some []) (v_bag v_things : D) :
    JN (dcI K ⟨mg, w⟩ H p) (cxOf (L2.CX P w) P w K mg base ["bag", "things"] "_law_some" (defScope (top 72)) f cdv A outer s H E) unEn noEn (.ow 1 v_bag :: env0 [v_things] 0) (defBody (top 72)) (m__law_some v_bag v_things) := by
  obtain ⟨S, Ek, po⟩ := ctxI_ok (p := p) (P := P) (w := w) (K := K) (mg := mg) (base := base) (N := ["bag", "things"]) (outer := outer) (H := H) (E := E) (by decide) hr hg
  exact jn_retF (i := 0) (jf_ix (i := 0) S (je_var 1) (jf_callI (i := 0) S h__law_take (hr.mono (by decide)) (ja_cons (je_cB (c_len S) (jv_fz 1) (by rfl) M.g_len bt_len) (ja_nil))))
theorem b__law_drawn_step (M : MF K w mg) (h__law_some : FnI P w K mg base 2 "_law_some" 1 (api1 F__law_some)) {p : Addr} (hr : Room 2 (A.deeper (envOfC "_law_drawn_step" (defScope (top 77)) s.heap.objs.size f cdv))) (hg : A.guards = some []) (v_bag v_names : D) :
    JN (dcI K ⟨mg, w⟩ H p) (cxOf (L2.CX P w) P w K mg base ["bag", "names", "word", "one", "other"] "_law_drawn_step" (defScope (top 77)) f cdv A outer s H E) unEn noEn (.ow 1 v_bag :: env0 [v_names] 3) (defBody (top 77)) (m__law_drawn_step v_bag v_names) := by
  obtain ⟨S, Ek, po⟩ := ctxI_ok (p := p) (P := P) (w := w) (K := K) (mg := mg) (base := base) (N := ["bag", "names", "word", "one", "other"]) (outer := outer) (H := H) (E := E) (by decide) hr hg
  exact jn_setF S 0 2 (jf_callI (i := 0) S h__law_some (hr.mono (by decide)) (ja_cons (JO.je (jo_lst (ja_cons (je_str) (ja_cons (je_str) (ja_cons (je_str) (ja_cons (je_str) (ja_cons (je_str) (ja_cons (je_str) (ja_cons (je_str) (ja_cons (je_str) (ja_nil))))))))))) (ja_nil))) (fun r0 => jn_parF S 0 3 4 (jfa_cons (i := 0) (jf_callI (i := 0) S h__law_some (hr.mono (by decide)) (ja_cons (JO.je (jo_cT (c_list S) (jv_fz 1) (by rfl) M.g_list bt_list)) (ja_nil))) (fun r1 => jfa_cons (i := 0) (jf_callI (i := 0) S h__law_some (hr.mono (by decide)) (ja_cons (JM.je (jm_op (o_add S) (JO.v (jo_lst (ja_cons (je_non) (ja_nil)))) (JO.v (jo_cT (c_list S) (jv_fz 1) (by rfl) M.g_list bt_list)))) (ja_nil))) (fun r2 => jfa_nil (i := 0)))) (fun p0 r3 => jn_guard (jt_cmp (o_eq S) (jv_fz 2) (JE.v (je_str))) (jn_retF (i := 0) (jf_tup (i := 0) (jfa_cons (i := 0) (jf_pure (i := 0) (je_str)) (fun r4 => jfa_cons (i := 0) (jf_callI (i := 0) S h__law_some (hr.mono (by decide)) (ja_cons (JO.je (jo_lst (ja_cons (je_str) (ja_cons (je_str) (ja_nil))))) (ja_nil))) (fun r5 => jfa_cons (i := 0) (jf_pure (i := 0) (je_var 3)) (fun r6 => jfa_cons (i := 0) (jf_pure (i := 0) (je_var 4)) (fun r7 => jfa_nil (i := 0)))))))) (jn_guard (jt_cmp (o_in S) (jv_fz 2) (JE.v (je_tup (ja_cons (je_str) (ja_cons (je_str) (ja_nil)))))) (jn_retIo 0 (je_tup (ja_cons (je_var 2) (ja_cons (je_var 3) (ja_nil))))) (jn_retF (i := 0) (jf_if (i := 0) (jt_cmp (o_eq S) (jv_fz 2) (JE.v (je_str))) (jf_tup (i := 0) (jfa_cons (i := 0) (jf_pure (i := 0) (je_var 2)) (fun r8 => jfa_cons (i := 0) (jf_pure (i := 0) (je_var 3)) (fun r9 => jfa_cons (i := 0) (jf_callI (i := 0) S h__law_some (hr.mono (by decide)) (ja_cons (JO.je (jo_cT (c_list S) (jv_fz 1) (by rfl) M.g_list bt_list)) (ja_nil))) (fun r10 => jfa_nil (i := 0)))))) (jf_pure (i := 0) (je_tup (ja_cons (je_var 2) (ja_cons (je_var 3) (ja_cons (je_var 4) (ja_nil)))))))))))
theorem b__law_place (M : MF K w mg)  (hr : Room 0 (A.deeper (envOfC "_law_place" (defScope (top 75)) s.heap.objs.size f cdv))) (hg : A.guards = some []) (v_memory v_term : D) :
    JN (dc0 K ⟨mg, w⟩ H E) (cxOf (L2.CX P w) P w K mg base ["memory", "term"] "_law_place" (defScope (top 75)) f cdv A outer s H E) unEn noEn (env0 [v_memory, v_term] 0) (defBody (top 75)) (m__law_place v_memory v_term) := by
  obtain ⟨S, Ek, po⟩ := ctx_ok (P := P) (w := w) (K := K) (mg := mg) (base := base) (N := ["memory", "term"]) (outer := outer) (H := H) (E := E) (by decide) hr hg
  exact jn_ret (je_if (jt_cmp (o_is) (jv_fz 1) (JE.v (je_non))) (je_int) (je_ix S (JO.v (jo_cT (c_dict S) (JE.v (je_ix S (jv_fz 0) (JE.v (je_int)))) (by rfl) M.g_dict bt_dict)) (jv_fz 1)))
theorem b__law_step (M : MF K w mg) (h__law_place : FnD P w K mg base 1 "_law_place" 2 (ap2 F__law_place)) (hr : Room 1 (A.deeper (envOfC "_law_step" (defScope (top 76)) s.heap.objs.size f cdv))) (hg : A.guards = some []) (v_memory v_step : D) :
    JN (dc0 K ⟨mg, w⟩ H E) (cxOf (L2.CX P w) P w K mg base ["memory", "step", "told", "cells", "word", "asked", "same", "used", "place", "name", "one"] "_law_step" (defScope (top 76)) f cdv A outer s H E) unEn noEn (env0 [v_memory, v_step] 9) (defBody (top 76)) (m__law_step v_memory v_step) := by
  obtain ⟨S, Ek, po⟩ := ctx_ok (P := P) (w := w) (K := K) (mg := mg) (base := base) (N := ["memory", "step", "told", "cells", "word", "asked", "same", "used", "place", "name", "one"]) (outer := outer) (H := H) (E := E) (by decide) hr hg
  exact jn_env [.fz v_memory, .fz v_step, .un, .un, .un, .un, .un, .un, .un, .un, .un] rfl (jn_parC3 S 2 3 4 (JO.jx (jo_cT (c_dict S) (JE.v (je_ix S (jv_fz 0) (JE.v (je_int)))) (by rfl) M.g_dict bt_dict)) (JO.jx (jo_cT (c_dict S) (JE.v (je_ix S (jv_fz 0) (JE.v (je_int)))) (by rfl) M.g_dict bt_dict)) (JE.jx (je_ix S (jv_fz 1) (JE.v (je_int)))) (fun v_told v_cells v_word => jn_env [.fz v_memory, .fz v_step, .ow 0 v_told, .ow 0 v_cells, .fz v_word, .un, .un, .un, .un, .un, .un] rfl (jn_guard (jt_cmp (o_eq S) (jv_fz 4) (JE.v (je_str))) (jn_env [.fz v_memory, .fz v_step, .ow 0 v_told, .ow 0 v_cells, .fz v_word, .un, .un, .un, .un, .un, .un] rfl (jn_set S 6 (je_cmp (o_eq S) (JE.v (je_call2 S Ek h__law_place (hr.mono (by decide)) (je_var 0) (je_ix S (jv_fz 1) (JE.v (je_int))))) (JE.v (je_call2 S Ek h__law_place (hr.mono (by decide)) (je_var 0) (je_ix S (jv_fz 1) (JE.v (je_int)))))) (fun v_same => jn_env [.fz v_memory, .fz v_step, .ow 0 v_told, .ow 0 v_cells, .fz v_word, .un, .fz v_same, .un, .un, .un, .un] rfl (jn_ret (je_tup (ja_cons (je_if (jt_cmp (o_eq S) (jv_fz 6) (JE.v (je_cmp (o_eq S) (JE.v (je_ix S (jv_fz 1) (JE.v (je_int)))) (JE.v (je_str))))) (je_str) (je_str)) (ja_cons (je_var 0) (ja_nil)))))))) (jn_env [.fz v_memory, .fz v_step, .ow 0 v_told, .ow 0 v_cells, .fz v_word, .un, .un, .un, .un, .un, .un] rfl (jn_set S 5 (je_if (jt_cmp (o_eq S) (jv_fz 4) (JE.v (je_str))) (je_ix S (jv_ow 2) (JE.v (je_ix S (jv_fz 1) (JE.v (je_int))))) (je_ix S (jv_ow 2) (JE.v (je_ix S (jv_fz 1) (JE.v (je_int)))))) (fun v_asked => jn_env [.fz v_memory, .fz v_step, .ow 0 v_told, .ow 0 v_cells, .fz v_word, .fz v_asked, .un, .un, .un, .un, .un] rfl (jn_guard (jt_w (jw_and (jt_cmp (o_in S) (jv_fz 4) (JE.v (je_tup (ja_cons (je_str) (ja_cons (je_str) (ja_cons (je_str) (ja_nil))))))) (jw_and1 (jt_cmp (o_notIn S) (jv_fz 5) (jv_ow 3))))) (jn_env [.fz v_memory, .fz v_step, .ow 0 v_told, .ow 0 v_cells, .fz v_word, .fz v_asked, .un, .un, .un, .un, .un] rfl (jn_ret (je_tup (ja_cons (je_str) (ja_cons (je_var 0) (ja_nil)))))) (jn_env [.fz v_memory, .fz v_step, .ow 0 v_told, .ow 0 v_cells, .fz v_word, .fz v_asked, .un, .un, .un, .un, .un] rfl (jn_if (fun (s : D × D) => [.fz v_memory, .fz v_step, .ow 0 s.1, .ow 0 s.2, .fz v_word, .fz v_asked, .un, .un, .un, .un, .un]) (jt_cmp (o_eq S) (jv_fz 4) (JE.v (je_str))) (jn_env [.fz v_memory, .fz v_step, .ow 0 v_told, .ow 0 v_cells, .fz v_word, .fz v_asked, .un, .un, .un, .un, .un] rfl (jn_store S 2 (je_call2 S Ek h__law_place (hr.mono (by decide)) (je_var 0) (je_ix S (jv_fz 1) (JE.v (je_int)))) (je_ix S (jv_fz 1) (JE.v (je_int))) (fun v_told1 => jn_end (v_told1, v_cells) (wk_eq (wk_eq (wk_eq (wk_eq (wk_eq (wk_eq (wk_un (wk_un (wk_un (wk_un (wk_un (wk_nil))))))))))))))) (jn_env [.fz v_memory, .fz v_step, .ow 0 v_told, .ow 0 v_cells, .fz v_word, .fz v_asked, .un, .un, .un, .un, .un] rfl (jn_if (fun (s : D × D) => [.fz v_memory, .fz v_step, .ow 0 s.1, .ow 0 s.2, .fz v_word, .fz v_asked, .un, .un, .un, .un, .un]) (jt_cmp (o_eq S) (jv_fz 4) (JE.v (je_str))) (jn_env [.fz v_memory, .fz v_step, .ow 0 v_told, .ow 0 v_cells, .fz v_word, .fz v_asked, .un, .un, .un, .un, .un] rfl (jn_store S 2 (je_ix S (jv_ow 3) (jv_fz 5)) (je_ix S (jv_fz 1) (JE.v (je_int))) (fun v_told2 => jn_end (v_told2, v_cells) (wk_eq (wk_eq (wk_eq (wk_eq (wk_eq (wk_eq (wk_un (wk_un (wk_un (wk_un (wk_un (wk_nil))))))))))))))) (jn_env [.fz v_memory, .fz v_step, .ow 0 v_told, .ow 0 v_cells, .fz v_word, .fz v_asked, .un, .un, .un, .un, .un] rfl (jn_if (fun (s : D × D) => [.fz v_memory, .fz v_step, .ow 0 s.1, .ow 0 s.2, .fz v_word, .fz v_asked, .un, .un, .un, .un, .un]) (jt_cmp (o_eq S) (jv_fz 4) (JE.v (je_str))) (jn_env [.fz v_memory, .fz v_step, .ow 0 v_told, .ow 0 v_cells, .fz v_word, .fz v_asked, .un, .un, .un, .un, .un] rfl (jn_store S 3 (je_call2 S Ek h__law_place (hr.mono (by decide)) (je_var 0) (je_ix S (jv_fz 1) (JE.v (je_int)))) (je_var 5) (fun v_cells1 => jn_end (v_told, v_cells1) (wk_eq (wk_eq (wk_eq (wk_eq (wk_eq (wk_eq (wk_un (wk_un (wk_un (wk_un (wk_un (wk_nil))))))))))))))) (jn_env [.fz v_memory, .fz v_step, .ow 0 v_told, .ow 0 v_cells, .fz v_word, .fz v_asked, .un, .un, .un, .un, .un] rfl (jn_if (fun (s : D × D) => [.fz v_memory, .fz v_step, .ow 0 s.1, .ow 0 s.2, .fz v_word, .fz v_asked, .un, .un, .un, .un, .un]) (jt_cmp (o_eq S) (jv_fz 4) (JE.v (je_str))) (jn_env [.fz v_memory, .fz v_step, .ow 0 v_told, .ow 0 v_cells, .fz v_word, .fz v_asked, .un, .un, .un, .un, .un] rfl (jn_popK 3 (je_var 5) (fun v_cells2 => jn_end (v_told, v_cells2) (wk_eq (wk_eq (wk_eq (wk_eq (wk_eq (wk_eq (wk_un (wk_un (wk_un (wk_un (wk_un (wk_nil))))))))))))))) (jn_env [.fz v_memory, .fz v_step, .ow 0 v_told, .ow 0 v_cells, .fz v_word, .fz v_asked, .un, .un, .un, .un, .un] rfl (jn_set S 7 (JO.je (jo_lock 2 (jo_lock 3 (jo_op (o_cat S) (JO.v (jo_op (o_cat S) (JO.v (jo_lc (own := [("name", 9)]) S (JI.same (ji_fz S (je_var 2))) (sg_name 9) (blkOk_by rfl) (by simp) (fun s H C cl fp S => (pg_name S.nd rfl (by first | exact .inl rfl | exact .inr rfl))) (fun s H C cl fp S v_name => jts_nil) (fun s H C cl fp S v_name => je_ix S (jv_fz 2) (jv_fz 9)))) (JO.v (jo_lc (own := [("place", 8)]) S (JI.same (ji_fz S (je_var 3))) (sg_name 8) (blkOk_by rfl) (by simp) (fun s H C cl fp S => (pg_name S.nd rfl (by first | exact .inl rfl | exact .inr rfl))) (fun s H C cl fp S v_place => jts_nil) (fun s H C cl fp S v_place => je_var 8))))) (JO.v (jo_lc (own := [("place", 8)]) S (JI.same (ji_fz S (je_var 3))) (sg_name 8) (blkOk_by rfl) (by simp) (fun s H C cl fp S => (pg_name S.nd rfl (by first | exact .inl rfl | exact .inr rfl))) (fun s H C cl fp S v_place1 => jts_nil) (fun s H C cl fp S v_place1 => je_ix S (jv_fz 3) (jv_fz 8)))))))) (fun v_used => jn_env [.fz v_memory, .fz v_step, .ow 0 v_told, .ow 0 v_cells, .fz v_word, .fz v_asked, .un, .fz v_used, .un, .un, .un] rfl (jn_set S 8 (je_cB (c_min S) (JO.v (jo_lc (own := [("one", 10)]) S (JI.same (ji_range2 (je_int) (JM.je (jm_op (o_add S) (JE.v (je_cB (c_len S) (jv_fz 7) (by rfl) M.g_len bt_len)) (JE.v (je_int)))) (by rfl) M.g_range)) (sg_name 10) (blkOk_by rfl) (by simp) (fun s H C cl fp S => (pg_name S.nd rfl (by first | exact .inl rfl | exact .inr rfl))) (fun s H C cl fp S v_one => jts_one (jt_cmp (o_notIn S) (jv_fz 10) (jv_fz 7))) (fun s H C cl fp S v_one => je_var 10))) (by rfl) M.g_min bt_min) (fun v_place2 => jn_env [.fz v_memory, .fz v_step, .ow 0 v_told, .ow 0 v_cells, .fz v_word, .fz v_asked, .un, .fz v_used, .fz v_place2, .un, .un] rfl (jn_parStore S 2 3 (je_tup (ja_cons (je_var 8) (ja_cons (je_int) (ja_nil)))) (je_ix S (jv_fz 1) (JE.v (je_int))) (fun v_told3 => je_var 8) (fun v_told3 v_cells3 => jn_end (v_told3, v_cells3) (wk_eq (wk_eq (wk_eq (wk_eq (wk_eq (wk_eq (wk_un (wk_un (wk_un (wk_un (wk_un (wk_nil))))))))))))))))))) (fun s0 => jn_end (s0.1, s0.2) (wk_eq (wk_eq (wk_eq (wk_eq (wk_eq (wk_eq (wk_un (wk_un (wk_un (wk_un (wk_un (wk_nil))))))))))))))) (fun s1 => jn_end (s1.1, s1.2) (wk_eq (wk_eq (wk_eq (wk_eq (wk_eq (wk_eq (wk_un (wk_un (wk_un (wk_un (wk_un (wk_nil))))))))))))))) (fun s2 => jn_end (s2.1, s2.2) (wk_eq (wk_eq (wk_eq (wk_eq (wk_eq (wk_eq (wk_un (wk_un (wk_un (wk_un (wk_un (wk_nil))))))))))))))) (fun s3 => jn_env [.fz v_memory, .fz v_step, .ow 0 s3.1, .ow 0 s3.2, .fz v_word, .fz v_asked, .un, .un, .un, .un, .un] rfl (jn_ret (je_tup (ja_cons (je_str) (ja_cons (je_tup (ja_cons (je_cT (c_tuple S) (JO.v (jo_lc (own := [("name", 9)]) S (JI.same (ji_fz S (JO.je (jo_cB (c_sorted S) (jv_ow 2) (by rfl) M.g_sorted bt_sorted)))) (sg_name 9) (blkOk_by rfl) (by simp) (fun s H C cl fp S => (pg_name S.nd rfl (by first | exact .inl rfl | exact .inr rfl))) (fun s H C cl fp S v_name1 => jts_nil) (fun s H C cl fp S v_name1 => je_tup (ja_cons (je_var 9) (ja_cons (je_ix S (jv_vw 2) (jv_fz 9)) (ja_nil)))))) (by rfl) M.g_tuple bt_tuple) (ja_cons (je_cT (c_tuple S) (JO.v (jo_lc (own := [("place", 8)]) S (JI.same (ji_fz S (JO.je (jo_cB (c_sorted S) (jv_ow 3) (by rfl) M.g_sorted bt_sorted)))) (sg_name 8) (blkOk_by rfl) (by simp) (fun s H C cl fp S => (pg_name S.nd rfl (by first | exact .inl rfl | exact .inr rfl))) (fun s H C cl fp S v_place3 => jts_nil) (fun s H C cl fp S v_place3 => je_tup (ja_cons (je_var 8) (ja_cons (je_ix S (jv_vw 3) (jv_fz 8)) (ja_nil)))))) (by rfl) M.g_tuple bt_tuple) (ja_nil)))) (ja_nil)))))))))))))) (pg_tup S.calm (pgs_cons (pg_name S.nd rfl (by first | exact .inl rfl | exact .inr rfl)) (pgs_cons (pg_name S.nd rfl (by first | exact .inl rfl | exact .inr rfl)) (pgs_cons (pg_name S.nd rfl (by first | exact .inl rfl | exact .inr rfl)) pgs_nil)))))
theorem b__law_logged (M : MF K w mg) (h__law_step : FnD P w K mg base 2 "_law_step" 2 (ap2 F__law_step)) (hr : Room 2 (A.deeper (envOfC "_law_logged" (defScope (top 78)) s.heap.objs.size f cdv))) (hg : A.guards = some []) (v_memory v_steps : D) :
    JN (dc0 K ⟨mg, w⟩ H E) (cxOf (L2.CX P w) P w K mg base ["memory", "steps", "rows", "here", "step", "word", "later"] "_law_logged" (defScope (top 78)) f cdv A outer s H E) unEn noEn (env0 [v_memory, v_steps] 5) (defBody (top 78)) (m__law_logged v_memory v_steps) := by
  obtain ⟨S, Ek, po⟩ := ctx_ok (P := P) (w := w) (K := K) (mg := mg) (base := base) (N := ["memory", "steps", "rows", "here", "step", "word", "later"]) (outer := outer) (H := H) (E := E) (by decide) hr hg
  exact jn_par S 2 3 (JO.jx (jo_lst (ja_nil))) (JE.jx (je_var 0)) (fun v_rows v_here => jn_for S po (fun (s : D × D) => [.fz v_memory, .fz v_steps, .ow 0 s.1, .fz s.2, .un, .un, .un]) (v_rows, v_here) (ji_fz S (je_var 1)) (sg_name 4) (pg_name S.nd rfl (by first | exact .inl rfl | exact .inr rfl)) (fun v_step s0 => jn_unp S (je_call2 S Ek h__law_step (hr.mono (by decide)) (je_var 3) (je_var 4)) (sg_two 5 6) (pg_tup S.calm (pgs_cons (pg_name S.nd rfl (by first | exact .inl rfl | exact .inr rfl)) (pgs_cons (pg_name S.nd rfl (by first | exact .inl rfl | exact .inr rfl)) pgs_nil))) (fun p0 => jn_guard (jt_cmp (o_ne S) (jv_fz 5) (JE.v (je_str))) (jn_ret (je_cT (c_tuple S) (jv_ow 2) (by rfl) M.g_tuple bt_tuple)) (jn_set S 3 (je_var 6) (fun v_here1 => jn_append 2 (je_tup (ja_cons (je_var 4) (ja_cons (je_ix S (jv_fz 3) (JE.v (je_int))) (ja_nil)))) (fun v_rows1 => jn_end (v_rows1, v_here1) (wk_eq (wk_eq (wk_eq (wk_eq (wk_un (wk_un (wk_un (wk_nil))))))))))))) (wk_eq (wk_eq (wk_eq (wk_eq (wk_un (wk_un (wk_un (wk_nil)))))))) (fun s1 => jn_ret (je_cT (c_tuple S) (jv_ow 2) (by rfl) M.g_tuple bt_tuple)))
theorem b__law_memory (M : MF K w mg) (h__law_take : FnI P w K mg base 1 "_law_take" 1 (api1 F__law_take)) {p : Addr} (hr : Room 1 (A.deeper (envOfC "_law_memory" (defScope (top 74)) s.heap.objs.size f cdv))) (hg : A.guards = some []) (v_bag v_names v_most : D) :
    JN (dcI K ⟨mg, w⟩ H p) (cxOf (L2.CX P w) P w K mg base ["bag", "names", "most", "many", "told", "name", "k"] "_law_memory" (defScope (top 74)) f cdv A outer s H E) unEn noEn (.ow 1 v_bag :: env0 [v_names, v_most] 4) (defBody (top 74)) (m__law_memory v_bag v_names v_most) := by
  obtain ⟨S, Ek, po⟩ := ctxI_ok (p := p) (P := P) (w := w) (K := K) (mg := mg) (base := base) (N := ["bag", "names", "most", "many", "told", "name", "k"]) (outer := outer) (H := H) (E := E) (by decide) hr hg
  exact jn_setF S 0 3 (jf_callI (i := 0) S h__law_take (hr.mono (by decide)) (ja_cons (JM.je (jm_op (o_add S) (jv_fz 2) (JE.v (je_int)))) (ja_nil))) (fun r0 => jn_setF S 0 4 (jf_cT1 (i := 0) (c_tuple S) (jfo_lc (i := 0) (own := [("name", 5)]) S (ji_fz S (je_var 1)) (fun _ => sg_name 5) (blkOk_by rfl) (by simp) (by simp) (by rfl) (by rfl) (fun s H C cl fp S => (pg_name S.nd rfl (by first | exact .inl rfl | exact .inr rfl))) (fun s H C cl fp G S v_name b0 => jf_tup (i := 0) (jfa_cons (i := 0) (jf_pure (i := 0) (je_var 5)) (fun r1 => jfa_cons (i := 0) (jf_callI (i := 0) S h__law_take (hr.mono (by decide)) (ja_cons (JM.je (jm_op (o_add S) (jv_fz 3) (JE.v (je_int)))) (ja_nil))) (fun r2 => jfa_nil (i := 0))))) (fun _ _ => rfl)) (by rfl) M.g_tuple bt_tuple) (fun r3 => jn_retF (i := 0) (jf_tup (i := 0) (jfa_cons (i := 0) (jf_pure (i := 0) (je_var 4)) (fun r4 => jfa_cons (i := 0) (jf_cT1 (i := 0) (c_tuple S) (jfo_lc (i := 0) (own := [("k", 6)]) S (ji_range1 (je_var 3) (by rfl) M.g_range) (fun _ => sg_name 6) (blkOk_by rfl) (by simp) (by simp) (by rfl) (by rfl) (fun s H C cl fp S => (pg_name S.nd rfl (by first | exact .inl rfl | exact .inr rfl))) (fun s H C cl fp G S v_k b1 => jf_tup (i := 0) (jfa_cons (i := 0) (jf_pure (i := 0) (JM.je (jm_op (o_add S) (jv_fz 6) (JE.v (je_int))))) (fun r5 => jfa_cons (i := 0) (jf_callI (i := 0) S h__law_take (hr.mono (by decide)) (ja_cons (JM.je (jm_op (o_add S) (jv_fz 3) (JE.v (je_int)))) (ja_nil))) (fun r6 => jfa_nil (i := 0))))) (fun _ _ => rfl)) (by rfl) M.g_tuple bt_tuple) (fun r7 => jfa_nil (i := 0)))))))
theorem b__law_played (M : MF K w mg) (h__law_step : FnD P w K mg base 2 "_law_step" 2 (ap2 F__law_step)) (hr : Room 2 (A.deeper (envOfC "_law_played" (defScope (top 79)) s.heap.objs.size f cdv))) (hg : A.guards = some []) (v_log : D) :
    JN (dc0 K ⟨mg, w⟩ H E) (cxOf (L2.CX P w) P w K mg base ["log", "here", "index", "step", "noted", "word", "later", "told", "name", "place"] "_law_played" (defScope (top 79)) f cdv A outer s H E) unEn noEn (env0 [v_log] 9) (defBody (top 79)) (m__law_played v_log) := by
  obtain ⟨S, Ek, po⟩ := ctx_ok (P := P) (w := w) (K := K) (mg := mg) (base := base) (N := ["log", "here", "index", "step", "noted", "word", "later", "told", "name", "place"]) (outer := outer) (H := H) (E := E) (by decide) hr hg
  exact jn_env [.fz v_log, .un, .un, .un, .un, .un, .un, .un, .un, .un] rfl (jn_set S 1 (je_ix S (jv_fz 0) (JE.v (je_int))) (fun v_here => jn_env [.fz v_log, .fz v_here, .un, .un, .un, .un, .un, .un, .un, .un] rfl (jn_for S po (fun (s : D) => [.fz v_log, .fz s, .un, .un, .un, .un, .un, .un, .un, .un]) v_here (ji_enumS S (je_ix S (jv_fz 0) (JE.v (je_int))) (by rfl) M.g_enumerate) (sg_pair (sg_name 2) (sg_two 3 4)) (pg_tup S.calm (pgs_cons (pg_name S.nd rfl (by first | exact .inl rfl | exact .inr rfl)) (pgs_cons (pg_tup S.calm (pgs_cons (pg_name S.nd rfl (by first | exact .inl rfl | exact .inr rfl)) (pgs_cons (pg_name S.nd rfl (by first | exact .inl rfl | exact .inr rfl)) pgs_nil))) pgs_nil))) (fun p0 s0 => jn_env [.fz v_log, .fz s0, .fz p0.1, .fz p0.2.1, .fz p0.2.2, .un, .un, .un, .un, .un] rfl (jn_unp S (je_call2 S Ek h__law_step (hr.mono (by decide)) (je_var 1) (je_var 3)) (sg_two 5 6) (pg_tup S.calm (pgs_cons (pg_name S.nd rfl (by first | exact .inl rfl | exact .inr rfl)) (pgs_cons (pg_name S.nd rfl (by first | exact .inl rfl | exact .inr rfl)) pgs_nil))) (fun p1 => jn_env [.fz v_log, .fz s0, .fz p0.1, .fz p0.2.1, .fz p0.2.2, .fz p1.1, .fz p1.2, .un, .un, .un] rfl (jn_guard (jt_cmp (o_ne S) (jv_fz 5) (JE.v (je_str))) (jn_env [.fz v_log, .fz s0, .fz p0.1, .fz p0.2.1, .fz p0.2.2, .fz p1.1, .fz p1.2, .un, .un, .un] rfl (jn_ret (je_tup (ja_cons (je_var 2) (ja_cons (je_var 5) (ja_cons (je_var 1) (ja_nil))))))) (jn_env [.fz v_log, .fz s0, .fz p0.1, .fz p0.2.1, .fz p0.2.2, .fz p1.1, .fz p1.2, .un, .un, .un] rfl (jn_parC2 S 1 7 (JE.jx (je_var 6)) (JE.jx (JO.je (jo_cT (c_dict S) (JE.v (je_ix S (jv_fz 6) (JE.v (je_int)))) (by rfl) M.g_dict bt_dict))) (fun v_here1 v_told => jn_env [.fz v_log, .fz v_here1, .fz p0.1, .fz p0.2.1, .fz p0.2.2, .fz p1.1, .fz p1.2, .fz v_told, .un, .un] rfl (jn_guard (jt_cmp (o_ne S) (JO.v (jo_lc (own := [("name", 8), ("place", 9)]) S (JI.same (ji_fz S (je_var 4))) (sg_two 8 9) (blkOk_by rfl) (by simp) (fun s H C cl fp S => (pg_tup S.calm (pgs_cons (pg_name S.nd rfl (by first | exact .inl rfl | exact .inr rfl)) (pgs_cons (pg_name S.nd rfl (by first | exact .inl rfl | exact .inr rfl)) pgs_nil)))) (fun s H C cl fp S p2 => jts_one (jt_cmp (o_ne S) (JE.v (je_ix S (jv_fz 7) (jv_fz 8))) (jv_fz 9))) (fun s H C cl fp S p2 => je_var 8))) (JO.v (jo_lst (ja_nil)))) (jn_env [.fz v_log, .fz v_here1, .fz p0.1, .fz p0.2.1, .fz p0.2.2, .fz p1.1, .fz p1.2, .fz v_told, .un, .un] rfl (jn_ret (je_tup (ja_cons (je_var 2) (ja_cons (je_str) (ja_cons (je_var 1) (ja_nil))))))) (jn_end v_here1 (wk_eq (wk_eq (wk_un (wk_un (wk_un (wk_un (wk_un (wk_un (wk_un (wk_un (wk_nil)))))))))))))) (pg_tup S.calm (pgs_cons (pg_name S.nd rfl (by first | exact .inl rfl | exact .inr rfl)) (pgs_cons (pg_name S.nd rfl (by first | exact .inl rfl | exact .inr rfl)) pgs_nil))))))))) (wk_eq (wk_eq (wk_un (wk_un (wk_un (wk_un (wk_un (wk_un (wk_un (wk_un (wk_nil))))))))))) (fun s1 => jn_env [.fz v_log, .fz s1, .un, .un, .un, .un, .un, .un, .un, .un] rfl (jn_ret (je_tup (ja_cons (je_cB (c_len S) (JE.v (je_ix S (jv_fz 0) (JE.v (je_int)))) (by rfl) M.g_len bt_len) (ja_cons (je_str) (ja_cons (je_var 1) (ja_nil))))))))))
theorem b__law_turned (M : MF K w mg) (h__law_take : FnI P w K mg base 1 "_law_take" 1 (api1 F__law_take)) (h__law_drawn_step : FnI P w K mg base 3 "_law_drawn_step" 1 (api1 F__law_drawn_step)) {p : Addr} (hr : Room 3 (A.deeper (envOfC "_law_turned" (defScope (top 80)) s.heap.objs.size f cdv))) (hg : A.guards = some []) (v_bag v_log : D) :
    JN (dcI K ⟨mg, w⟩ H p) (cxOf (L2.CX P w) P w K mg base ["bag", "log", "memory", "rows", "at", "step", "noted", "kind", "row", "name", "place"] "_law_turned" (defScope (top 80)) f cdv A outer s H E) unEn noEn (.ow 1 v_bag :: env0 [v_log] 9) (defBody (top 80)) (m__law_turned v_bag v_log) := by
  obtain ⟨S, Ek, po⟩ := ctxI_ok (p := p) (P := P) (w := w) (K := K) (mg := mg) (base := base) (N := ["bag", "log", "memory", "rows", "at", "step", "noted", "kind", "row", "name", "place"]) (outer := outer) (H := H) (E := E) (by decide) hr hg
  exact jn_env [.ow 1 v_bag, .fz v_log, .un, .un, .un, .un, .un, .un, .un, .un, .un] rfl (jn_unp S (je_var 1) (sg_two 2 3) (pg_tup S.calm (pgs_cons (pg_name S.nd rfl (by first | exact .inl rfl | exact .inr rfl)) (pgs_cons (pg_name S.nd rfl (by first | exact .inl rfl | exact .inr rfl)) pgs_nil))) (fun p0 => jn_env [.ow 1 v_bag, .fz v_log, .fz p0.1, .fz p0.2, .un, .un, .un, .un, .un, .un, .un] rfl (jn_guard (jt_cmp (o_eq S) (jv_fz 3) (JE.v (je_tup (ja_nil)))) (jn_env [.ow 1 v_bag, .fz v_log, .fz p0.1, .fz p0.2, .un, .un, .un, .un, .un, .un, .un] rfl (jn_retIo 0 (je_var 1))) (jn_env [.ow 1 v_bag, .fz v_log, .fz p0.1, .fz p0.2, .un, .un, .un, .un, .un, .un, .un] rfl (jn_setF S 0 4 (jf_callI (i := 0) S h__law_take (hr.mono (by decide)) (ja_cons (je_cB (c_len S) (jv_fz 3) (by rfl) M.g_len bt_len) (ja_nil))) (fun r0 => jn_env [.ow 1 r0.2, .fz v_log, .fz p0.1, .fz p0.2, .fz r0.1, .un, .un, .un, .un, .un, .un] rfl (jn_unp S (je_ix S (jv_fz 3) (jv_fz 4)) (sg_two 5 6) (pg_tup S.calm (pgs_cons (pg_name S.nd rfl (by first | exact .inl rfl | exact .inr rfl)) (pgs_cons (pg_name S.nd rfl (by first | exact .inl rfl | exact .inr rfl)) pgs_nil))) (fun p1 => jn_env [.ow 1 r0.2, .fz v_log, .fz p0.1, .fz p0.2, .fz r0.1, .fz p1.1, .fz p1.2, .un, .un, .un, .un] rfl (jn_setF S 0 7 (jf_callI (i := 0) S h__law_take (hr.mono (by decide)) (ja_cons (je_int) (ja_nil))) (fun r1 => jn_env [.ow 1 r1.2, .fz v_log, .fz p0.1, .fz p0.2, .fz r0.1, .fz p1.1, .fz p1.2, .fz r1.1, .un, .un, .un] rfl (jn_if (fun (s : D × D) => [.ow 1 s.1, .fz v_log, .fz p0.1, .fz p0.2, .fz r0.1, .fz p1.1, .fz p1.2, .fz r1.1, .fz s.2, .un, .un]) (jt_cmp (o_eq S) (jv_fz 7) (JE.v (je_int))) (jn_env [.ow 1 r1.2, .fz v_log, .fz p0.1, .fz p0.2, .fz r0.1, .fz p1.1, .fz p1.2, .fz r1.1, .un, .un, .un] rfl (jn_set S 8 (je_tup (ja_cons (je_var 5) (ja_cons (je_cT (c_tuple S) (JO.v (jo_lc (own := [("name", 9), ("place", 10)]) S (JI.same (ji_fz S (je_var 6))) (sg_two 9 10) (blkOk_by rfl) (by simp) (fun s H C cl fp S => (pg_tup S.calm (pgs_cons (pg_name S.nd rfl (by first | exact .inl rfl | exact .inr rfl)) (pgs_cons (pg_name S.nd rfl (by first | exact .inl rfl | exact .inr rfl)) pgs_nil)))) (fun s H C cl fp S p2 => jts_nil) (fun s H C cl fp S p2 => je_tup (ja_cons (je_var 9) (ja_cons (JM.je (jm_op (o_add S) (jv_fz 10) (JE.v (je_int)))) (ja_nil)))))) (by rfl) M.g_tuple bt_tuple) (ja_nil)))) (fun v_row => jn_end (r1.2, v_row) (wk_eq (wk_eq (wk_eq (wk_eq (wk_eq (wk_eq (wk_eq (wk_eq (wk_eq (wk_un (wk_un (wk_nil))))))))))))))) (jn_env [.ow 1 r1.2, .fz v_log, .fz p0.1, .fz p0.2, .fz r0.1, .fz p1.1, .fz p1.2, .fz r1.1, .un, .un, .un] rfl (jn_if (fun (s : D × D) => [.ow 1 s.1, .fz v_log, .fz p0.1, .fz p0.2, .fz r0.1, .fz p1.1, .fz p1.2, .fz r1.1, .fz s.2, .un, .un]) (jt_cmp (o_eq S) (jv_fz 7) (JE.v (je_int))) (jn_env [.ow 1 r1.2, .fz v_log, .fz p0.1, .fz p0.2, .fz r0.1, .fz p1.1, .fz p1.2, .fz r1.1, .un, .un, .un] rfl (jn_set S 8 (je_tup (ja_cons (je_var 5) (ja_cons (JM.je (jm_sl S (jv_fz 6) (jp_none) (jp_some (je_int)))) (ja_nil)))) (fun v_row1 => jn_end (r1.2, v_row1) (wk_eq (wk_eq (wk_eq (wk_eq (wk_eq (wk_eq (wk_eq (wk_eq (wk_eq (wk_un (wk_un (wk_nil))))))))))))))) (jn_env [.ow 1 r1.2, .fz v_log, .fz p0.1, .fz p0.2, .fz r0.1, .fz p1.1, .fz p1.2, .fz r1.1, .un, .un, .un] rfl (jn_setF S 0 8 (jf_tup (i := 0) (jfa_cons (i := 0) (jf_callI (i := 0) S h__law_drawn_step (hr.mono (by decide)) (ja_cons (je_tup (ja_cons (je_str) (ja_cons (je_str) (ja_nil)))) (ja_nil))) (fun r2 => jfa_cons (i := 0) (jf_pure (i := 0) (je_var 6)) (fun r3 => jfa_nil (i := 0))))) (fun r4 => jn_end (r4.2, r4.1) (wk_eq (wk_eq (wk_eq (wk_eq (wk_eq (wk_eq (wk_eq (wk_eq (wk_eq (wk_un (wk_un (wk_nil))))))))))))))) (fun s0 => jn_end (s0.1, s0.2) (wk_eq (wk_eq (wk_eq (wk_eq (wk_eq (wk_eq (wk_eq (wk_eq (wk_eq (wk_un (wk_un (wk_nil))))))))))))))) (fun s1 => jn_env [.ow 1 s1.1, .fz v_log, .fz p0.1, .fz p0.2, .fz r0.1, .fz p1.1, .fz p1.2, .fz r1.1, .fz s1.2, .un, .un] rfl (jn_retIo 0 (je_tup (ja_cons (je_var 2) (ja_cons (JM.je (jm_op (o_add S) (JE.v (JM.je (jm_op (o_add S) (JM.v (jm_sl S (jv_fz 3) (jp_none) (jp_some (je_var 4)))) (JE.v (je_tup (ja_cons (je_var 8) (ja_nil))))))) (JM.v (jm_sl S (jv_fz 3) (jp_some (JM.je (jm_op (o_add S) (jv_fz 4) (JE.v (je_int))))) (jp_none))))) (ja_nil)))))))))))))))))
theorem b_check_cells (M : MF K w mg)  (hr : Room 0 (A.deeper (envOfC "check_cells" (defScope (top 33)) s.heap.objs.size f cdv))) (hg : A.guards = some []) (v_cells : D) :
    JN (dc0 K ⟨mg, w⟩ H E) (cxOf (L2.CX P w) P w K mg base ["cells", "index", "place", "other"] "check_cells" (defScope (top 33)) f cdv A outer s H E) unEn noEn (env0 [v_cells] 3) (defBody (top 33)) (m_check_cells v_cells) := by
  obtain ⟨S, Ek, po⟩ := ctx_ok (P := P) (w := w) (K := K) (mg := mg) (base := base) (N := ["cells", "index", "place", "other"]) (outer := outer) (H := H) (E := E) (by decide) hr hg
  exact jn_for S po (fun (s : Unit) => [.fz v_cells, .un, .un, .un]) () (ji_enumS S (je_var 0) (by rfl) M.g_enumerate) (sg_pair (sg_name 1) (sg_two 2 3)) (pg_tup S.calm (pgs_cons (pg_name S.nd rfl (by first | exact .inl rfl | exact .inr rfl)) (pgs_cons (pg_tup S.calm (pgs_cons (pg_name S.nd rfl (by first | exact .inl rfl | exact .inr rfl)) (pgs_cons (pg_name S.nd rfl (by first | exact .inl rfl | exact .inr rfl)) pgs_nil))) pgs_nil))) (fun p0 s0 => jn_guard (jt_w (jw_or (jt_cmp (o_eq S) (jv_fz 2) (JE.v (je_int))) (jw_or (jt_cmp (o_ge) (jv_fz 2) (JE.v (je_gint (by rfl) M.i_MOST_PLACE))) (jw_or1 (jt_cmp (o_ge) (jv_fz 3) (JE.v (je_gint (by rfl) M.i_MOST_PLACE))))))) (jn_bad) (jn_guard (jt_w (jw_and (jt_cmp (o_gt) (jv_fz 1) (JE.v (je_int))) (jw_and1 (jt_not (jt_cmp (o_lt) (JE.v (je_ix S (JE.v (je_ix S (jv_fz 0) (JE.v (je_op o_sub (jv_fz 1) (JE.v (je_int)))))) (JE.v (je_int)))) (jv_fz 2)))))) (jn_bad) (jn_end () (wk_eq (wk_un (wk_un (wk_un (wk_nil)))))))) (wk_eq (wk_un (wk_un (wk_un (wk_nil))))) (fun s1 => jn_end () wk_nil)
theorem b_check_told (M : MF K w mg)  (hr : Room 0 (A.deeper (envOfC "check_told" (defScope (top 32)) s.heap.objs.size f cdv))) (hg : A.guards = some []) (v_told : D) :
    JN (dc0 K ⟨mg, w⟩ H E) (cxOf (L2.CX P w) P w K mg base ["told", "index", "name", "place"] "check_told" (defScope (top 32)) f cdv A outer s H E) unEn noEn (env0 [v_told] 3) (defBody (top 32)) (m_check_told v_told) := by
  obtain ⟨S, Ek, po⟩ := ctx_ok (P := P) (w := w) (K := K) (mg := mg) (base := base) (N := ["told", "index", "name", "place"]) (outer := outer) (H := H) (E := E) (by decide) hr hg
  exact jn_for S po (fun (s : Unit) => [.fz v_told, .un, .un, .un]) () (ji_enumS S (je_var 0) (by rfl) M.g_enumerate) (sg_pair (sg_name 1) (sg_two 2 3)) (pg_tup S.calm (pgs_cons (pg_name S.nd rfl (by first | exact .inl rfl | exact .inr rfl)) (pgs_cons (pg_tup S.calm (pgs_cons (pg_name S.nd rfl (by first | exact .inl rfl | exact .inr rfl)) (pgs_cons (pg_name S.nd rfl (by first | exact .inl rfl | exact .inr rfl)) pgs_nil))) pgs_nil))) (fun p0 s0 => jn_guard (jt_cmp (o_ge) (jv_fz 3) (JE.v (je_gint (by rfl) M.i_MOST_PLACE))) (jn_bad) (jn_guard (jt_w (jw_and (jt_cmp (o_gt) (jv_fz 1) (JE.v (je_int))) (jw_and1 (jt_not (jt_cmp (o_lt) (JE.v (je_ix S (JE.v (je_ix S (jv_fz 0) (JE.v (je_op o_sub (jv_fz 1) (JE.v (je_int)))))) (JE.v (je_int)))) (jv_fz 2)))))) (jn_bad) (jn_end () (wk_eq (wk_un (wk_un (wk_un (wk_nil)))))))) (wk_eq (wk_un (wk_un (wk_un (wk_nil))))) (fun s1 => jn_end () wk_nil)
theorem b_is_integer (M : MF K w mg)  (hr : Room 0 (A.deeper (envOfC "is_integer" (defScope (top 13)) s.heap.objs.size f cdv))) (hg : A.guards = some []) (v_thing : D) :
    JN (dc0 K ⟨mg, w⟩ H E) (cxOf (L2.CX P w) P w K mg base ["thing"] "is_integer" (defScope (top 13)) f cdv A outer s H E) unEn noEn (env0 [v_thing] 0) (defBody (top 13)) (m_is_integer v_thing) := by
  obtain ⟨S, Ek, po⟩ := ctx_ok (P := P) (w := w) (K := K) (mg := mg) (base := base) (N := ["thing"]) (outer := outer) (H := H) (E := E) (by decide) hr hg
  exact jn_ret (je_and (je_isi (n := .int) S (jv_fz 0) (by rfl) M.g_isinstance (by rfl) M.g_int bt_int) (je_one (je_not (je_isi (n := .bool) S (jv_fz 0) (by rfl) M.g_isinstance (by rfl) M.g_bool bt_bool))))
theorem b_is_count (M : MF K w mg) (h_is_integer : FnD P w K mg base 1 "is_integer" 1 (ap1 F_is_integer)) (hr : Room 1 (A.deeper (envOfC "is_count" (defScope (top 14)) s.heap.objs.size f cdv))) (hg : A.guards = some []) (v_thing : D) :
    JN (dc0 K ⟨mg, w⟩ H E) (cxOf (L2.CX P w) P w K mg base ["thing"] "is_count" (defScope (top 14)) f cdv A outer s H E) unEn noEn (env0 [v_thing] 0) (defBody (top 14)) (m_is_count v_thing) := by
  obtain ⟨S, Ek, po⟩ := ctx_ok (P := P) (w := w) (K := K) (mg := mg) (base := base) (N := ["thing"]) (outer := outer) (H := H) (E := E) (by decide) hr hg
  exact jn_ret (je_and (je_call1 S Ek h_is_integer (hr.mono (by decide)) (je_var 0)) (je_one (je_cmp (o_ge) (jv_fz 0) (JE.v (je_int)))))
theorem b_is_cell_form (M : MF K w mg) (h_is_count : FnD P w K mg base 2 "is_count" 1 (ap1 F_is_count)) (hr : Room 2 (A.deeper (envOfC "is_cell_form" (defScope (top 30)) s.heap.objs.size f cdv))) (hg : A.guards = some []) (v_thing : D) :
    JN (dc0 K ⟨mg, w⟩ H E) (cxOf (L2.CX P w) P w K mg base ["thing"] "is_cell_form" (defScope (top 30)) f cdv A outer s H E) unEn noEn (env0 [v_thing] 0) (defBody (top 30)) (m_is_cell_form v_thing) := by
  obtain ⟨S, Ek, po⟩ := ctx_ok (P := P) (w := w) (K := K) (mg := mg) (base := base) (N := ["thing"]) (outer := outer) (H := H) (E := E) (by decide) hr hg
  exact jn_ret (je_and (je_isi (n := .tuple) S (jv_fz 0) (by rfl) M.g_isinstance (by rfl) M.g_tuple bt_tuple) (je_and (je_cmp (o_eq S) (JE.v (je_cB (c_len S) (jv_fz 0) (by rfl) M.g_len bt_len)) (JE.v (je_int))) (je_and (je_call1 S Ek h_is_count (hr.mono (by decide)) (je_ix S (jv_fz 0) (JE.v (je_int)))) (je_one (je_call1 S Ek h_is_count (hr.mono (by decide)) (je_ix S (jv_fz 0) (JE.v (je_int))))))))
theorem b_is_name (M : MF K w mg)  (hr : Room 0 (A.deeper (envOfC "is_name" (defScope (top 15)) s.heap.objs.size f cdv))) (hg : A.guards = some []) (v_thing : D) :
    JN (dc0 K ⟨mg, w⟩ H E) (cxOf (L2.CX P w) P w K mg base ["thing", "sign"] "is_name" (defScope (top 15)) f cdv A outer s H E) unEn noEn (env0 [v_thing] 1) (defBody (top 15)) (m_is_name v_thing) := by
  obtain ⟨S, Ek, po⟩ := ctx_ok (P := P) (w := w) (K := K) (mg := mg) (base := base) (N := ["thing", "sign"]) (outer := outer) (H := H) (E := E) (by decide) hr hg
  exact jn_guard (jt_w (jw_or (jt_not (jt_val (je_isi (n := .str) S (jv_fz 0) (by rfl) M.g_isinstance (by rfl) M.g_str bt_str))) (jw_or (jt_not (jt_chain (o_le) (o_le) (JE.v (je_int)) (JE.v (je_cB (c_len S) (jv_fz 0) (by rfl) M.g_len bt_len)) (JE.v (je_gint (by rfl) M.i_MOST_LETTERS)))) (jw_or1 (jt_cmp (o_notIn S) (JE.v (je_ix S (jv_fz 0) (JE.v (je_int)))) (JE.v (je_gstr (by rfl) M.s_LETTERS (by decide +kernel)))))))) (jn_ret (je_bl)) (jn_ret (je_and (je_cB (c_all S) (JO.v (jo_lc (own := [("sign", 1)]) S (JI.same (ji_fz S (je_var 0))) (sg_name 1) (blkOk_by rfl) (by simp) (fun s H C cl fp S => (pg_name S.nd rfl (by first | exact .inl rfl | exact .inr rfl))) (fun s H C cl fp S v_sign => jts_nil) (fun s H C cl fp S v_sign => je_cmp (o_in S) (jv_fz 1) (JE.v (JM.je (jm_op (o_add S) (JE.v (je_gstr (by rfl) M.s_LETTERS (by decide +kernel))) (JE.v (je_gstr (by rfl) M.s_DIGITS (by decide +kernel))))))))) (by rfl) M.g_all bt_all) (je_one (je_cmp (o_notIn S) (jv_fz 0) (JE.v (je_gtup S (by rfl) M.t_RESERVED (by decide +kernel)))))))
theorem b_is_told_form (M : MF K w mg) (h_is_name : FnD P w K mg base 1 "is_name" 1 (ap1 F_is_name)) (h_is_count : FnD P w K mg base 2 "is_count" 1 (ap1 F_is_count)) (hr : Room 2 (A.deeper (envOfC "is_told_form" (defScope (top 29)) s.heap.objs.size f cdv))) (hg : A.guards = some []) (v_thing : D) :
    JN (dc0 K ⟨mg, w⟩ H E) (cxOf (L2.CX P w) P w K mg base ["thing"] "is_told_form" (defScope (top 29)) f cdv A outer s H E) unEn noEn (env0 [v_thing] 0) (defBody (top 29)) (m_is_told_form v_thing) := by
  obtain ⟨S, Ek, po⟩ := ctx_ok (P := P) (w := w) (K := K) (mg := mg) (base := base) (N := ["thing"]) (outer := outer) (H := H) (E := E) (by decide) hr hg
  exact jn_ret (je_and (je_isi (n := .tuple) S (jv_fz 0) (by rfl) M.g_isinstance (by rfl) M.g_tuple bt_tuple) (je_and (je_cmp (o_eq S) (JE.v (je_cB (c_len S) (jv_fz 0) (by rfl) M.g_len bt_len)) (JE.v (je_int))) (je_and (je_call1 S Ek h_is_name (hr.mono (by decide)) (je_ix S (jv_fz 0) (JE.v (je_int)))) (je_one (je_call1 S Ek h_is_count (hr.mono (by decide)) (je_ix S (jv_fz 0) (JE.v (je_int))))))))
theorem b_is_memory_form (M : MF K w mg) (h_is_cell_form : FnD P w K mg base 3 "is_cell_form" 1 (ap1 F_is_cell_form)) (h_is_told_form : FnD P w K mg base 3 "is_told_form" 1 (ap1 F_is_told_form)) (hr : Room 3 (A.deeper (envOfC "is_memory_form" (defScope (top 31)) s.heap.objs.size f cdv))) (hg : A.guards = some []) (v_thing : D) :
    JN (dc0 K ⟨mg, w⟩ H E) (cxOf (L2.CX P w) P w K mg base ["thing", "one"] "is_memory_form" (defScope (top 31)) f cdv A outer s H E) unEn noEn (env0 [v_thing] 1) (defBody (top 31)) (m_is_memory_form v_thing) := by
  obtain ⟨S, Ek, po⟩ := ctx_ok (P := P) (w := w) (K := K) (mg := mg) (base := base) (N := ["thing", "one"]) (outer := outer) (H := H) (E := E) (by decide) hr hg
  exact jn_guard (jt_w (jw_or (jt_not (jt_val (je_isi (n := .tuple) S (jv_fz 0) (by rfl) M.g_isinstance (by rfl) M.g_tuple bt_tuple))) (jw_or (jt_cmp (o_ne S) (JE.v (je_cB (c_len S) (jv_fz 0) (by rfl) M.g_len bt_len)) (JE.v (je_int))) (jw_or1 (jt_not (jt_val (je_isi (n := .tuple) S (JE.v (je_ix S (jv_fz 0) (JE.v (je_int)))) (by rfl) M.g_isinstance (by rfl) M.g_tuple bt_tuple))))))) (jn_ret (je_bl)) (jn_guard (jt_w (jw_or (jt_not (jt_val (je_isi (n := .tuple) S (JE.v (je_ix S (jv_fz 0) (JE.v (je_int)))) (by rfl) M.g_isinstance (by rfl) M.g_tuple bt_tuple))) (jw_or1 (jt_not (jt_val (je_cB (c_all S) (JO.v (jo_lc (own := [("one", 1)]) S (JI.same (ji_fz S (je_ix S (jv_fz 0) (JE.v (je_int))))) (sg_name 1) (blkOk_by rfl) (by simp) (fun s H C cl fp S => (pg_name S.nd rfl (by first | exact .inl rfl | exact .inr rfl))) (fun s H C cl fp S v_one => jts_nil) (fun s H C cl fp S v_one => je_call1 S Exk.inn h_is_cell_form (hr.mono (by decide)) (je_var 1)))) (by rfl) M.g_all bt_all)))))) (jn_ret (je_bl)) (jn_ret (je_cB (c_all S) (JO.v (jo_lc (own := [("one", 1)]) S (JI.same (ji_fz S (je_ix S (jv_fz 0) (JE.v (je_int))))) (sg_name 1) (blkOk_by rfl) (by simp) (fun s H C cl fp S => (pg_name S.nd rfl (by first | exact .inl rfl | exact .inr rfl))) (fun s H C cl fp S v_one1 => jts_nil) (fun s H C cl fp S v_one1 => je_call1 S Exk.inn h_is_told_form (hr.mono (by decide)) (je_var 1)))) (by rfl) M.g_all bt_all)))
theorem b_checked_memory (M : MF K w mg) (h_check_cells : FnD P w K mg base 1 "check_cells" 1 (ap1 F_check_cells)) (h_check_told : FnD P w K mg base 1 "check_told" 1 (ap1 F_check_told)) (h_is_memory_form : FnD P w K mg base 4 "is_memory_form" 1 (ap1 F_is_memory_form)) (hr : Room 4 (A.deeper (envOfC "checked_memory" (defScope (top 34)) s.heap.objs.size f cdv))) (hg : A.guards = some []) (v_thing : D) :
    JN (dc0 K ⟨mg, w⟩ H E) (cxOf (L2.CX P w) P w K mg base ["thing", "told", "cells"] "checked_memory" (defScope (top 34)) f cdv A outer s H E) unEn noEn (env0 [v_thing] 2) (defBody (top 34)) (m_checked_memory v_thing) := by
  obtain ⟨S, Ek, po⟩ := ctx_ok (P := P) (w := w) (K := K) (mg := mg) (base := base) (N := ["thing", "told", "cells"]) (outer := outer) (H := H) (E := E) (by decide) hr hg
  exact jn_guard (jt_not (jt_val (je_call1 S Ek h_is_memory_form (hr.mono (by decide)) (je_var 0)))) (jn_bad) (jn_unp S (je_var 0) (sg_two 1 2) (pg_tup S.calm (pgs_cons (pg_name S.nd rfl (by first | exact .inl rfl | exact .inr rfl)) (pgs_cons (pg_name S.nd rfl (by first | exact .inl rfl | exact .inr rfl)) pgs_nil))) (fun p0 => jn_guard (jt_cmp (o_gt) (JE.v (je_cB (c_len S) (jv_fz 1) (by rfl) M.g_len bt_len)) (JE.v (je_gint (by rfl) M.i_MOST_NAMES))) (jn_bad) (jn_guard (jt_cmp (o_gt) (JE.v (je_cB (c_len S) (jv_fz 2) (by rfl) M.g_len bt_len)) (JE.v (je_gint (by rfl) M.i_MOST_CELLS_memories))) (jn_bad) (jn_expr (je_call1 S Ek h_check_told (hr.mono (by decide)) (je_var 1)) (jn_expr (je_call1 S Ek h_check_cells (hr.mono (by decide)) (je_var 2)) (jn_ret (je_var 0)))))))
theorem b_are_rising (M : MF K w mg)  (hr : Room 0 (A.deeper (envOfC "are_rising" (defScope (top 19)) s.heap.objs.size f cdv))) (hg : A.guards = some []) (v_things : D) :
    JN (dc0 K ⟨mg, w⟩ H E) (cxOf (L2.CX P w) P w K mg base ["things", "one", "other"] "are_rising" (defScope (top 19)) f cdv A outer s H E) unEn noEn (env0 [v_things] 2) (defBody (top 19)) (m_are_rising v_things) := by
  obtain ⟨S, Ek, po⟩ := ctx_ok (P := P) (w := w) (K := K) (mg := mg) (base := base) (N := ["things", "one", "other"]) (outer := outer) (H := H) (E := E) (by decide) hr hg
  exact jn_ret (je_cB (c_all S) (JO.v (jo_lc (own := [("one", 1), ("other", 2)]) S (JI.same (ji_zip S (je_var 0) (JM.je (jm_sl S (jv_fz 0) (jp_some (je_int)) (jp_none))) (by rfl) M.g_zip)) (sg_two 1 2) (blkOk_by rfl) (by simp) (fun s H C cl fp S => (pg_tup S.calm (pgs_cons (pg_name S.nd rfl (by first | exact .inl rfl | exact .inr rfl)) (pgs_cons (pg_name S.nd rfl (by first | exact .inl rfl | exact .inr rfl)) pgs_nil)))) (fun s H C cl fp S p0 => jts_nil) (fun s H C cl fp S p0 => je_cmp (o_lt) (jv_fz 1) (jv_fz 2)))) (by rfl) M.g_all bt_all)
theorem b_is_sized (M : MF K w mg)  (hr : Room 0 (A.deeper (envOfC "is_sized" (defScope (top 20)) s.heap.objs.size f cdv))) (hg : A.guards = some []) (v_thing v_many : D) :
    JN (dc0 K ⟨mg, w⟩ H E) (cxOf (L2.CX P w) P w K mg base ["thing", "many"] "is_sized" (defScope (top 20)) f cdv A outer s H E) unEn noEn (env0 [v_thing, v_many] 0) (defBody (top 20)) (m_is_sized v_thing v_many) := by
  obtain ⟨S, Ek, po⟩ := ctx_ok (P := P) (w := w) (K := K) (mg := mg) (base := base) (N := ["thing", "many"]) (outer := outer) (H := H) (E := E) (by decide) hr hg
  exact jn_ret (je_and (je_isi (n := .tuple) S (jv_fz 0) (by rfl) M.g_isinstance (by rfl) M.g_tuple bt_tuple) (je_one (je_cmp (o_eq S) (JE.v (je_cB (c_len S) (jv_fz 0) (by rfl) M.g_len bt_len)) (jv_fz 1))))
theorem b_is_told (M : MF K w mg) (h_is_name : FnD P w K mg base 1 "is_name" 1 (ap1 F_is_name)) (h_is_sized : FnD P w K mg base 1 "is_sized" 2 (ap2 F_is_sized)) (h_is_count : FnD P w K mg base 2 "is_count" 1 (ap1 F_is_count)) (hr : Room 2 (A.deeper (envOfC "is_told" (defScope (top 21)) s.heap.objs.size f cdv))) (hg : A.guards = some []) (v_thing : D) :
    JN (dc0 K ⟨mg, w⟩ H E) (cxOf (L2.CX P w) P w K mg base ["thing"] "is_told" (defScope (top 21)) f cdv A outer s H E) unEn noEn (env0 [v_thing] 0) (defBody (top 21)) (m_is_told v_thing) := by
  obtain ⟨S, Ek, po⟩ := ctx_ok (P := P) (w := w) (K := K) (mg := mg) (base := base) (N := ["thing"]) (outer := outer) (H := H) (E := E) (by decide) hr hg
  exact jn_ret (je_and (je_call2 S Ek h_is_sized (hr.mono (by decide)) (je_var 0) (je_int)) (je_and (je_call1 S Ek h_is_name (hr.mono (by decide)) (je_ix S (jv_fz 0) (JE.v (je_int)))) (je_one (je_call1 S Ek h_is_count (hr.mono (by decide)) (je_ix S (jv_fz 0) (JE.v (je_int)))))))
theorem b_is_tuple_of__is_told (M : MF K w mg) (h_is_told : FnD P w K mg base 3 "is_told" 1 (ap1 F_is_told)) (hr : Room 3 (A.deeper (envOfC "is_tuple_of" (defScope (top 18)) s.heap.objs.size f cdv))) (hg : A.guards = some []) (v_thing : D) :
    JN (dc0 K ⟨mg, w⟩ H E) (cxOf (L2.CX P w) P w K mg base ["thing", "is_item", "item"] "is_tuple_of" (defScope (top 18)) f cdv A outer s H E) unEn noEn (env0 [v_thing, (D.fn "is_told")] 1) (defBody (top 18)) (m_is_tuple_of__is_told v_thing) := by
  obtain ⟨S, Ek, po⟩ := ctx_ok (P := P) (w := w) (K := K) (mg := mg) (base := base) (N := ["thing", "is_item", "item"]) (outer := outer) (H := H) (E := E) (by decide) hr hg
  exact jn_ret (je_and (je_isi (n := .tuple) S (jv_fz 0) (by rfl) M.g_isinstance (by rfl) M.g_tuple bt_tuple) (je_one (je_cB (c_all S) (JO.v (jo_lc (own := [("item", 2)]) S (JI.same (ji_fz S (je_var 0))) (sg_name 2) (blkOk_by rfl) (by simp) (fun s H C cl fp S => (pg_name S.nd rfl (by first | exact .inl rfl | exact .inr rfl))) (fun s H C cl fp S v_item => jts_nil) (fun s H C cl fp S v_item => je_callF (j := 3) S Exk.inn (TabF.cons h_is_told (j := 3) (by decide) TabF.nil) (hr.mono (by decide)) 1 (ja_cons (je_var 2) (ja_nil))))) (by rfl) M.g_all bt_all)))
theorem b_is_noted (M : MF K w mg) (h_are_rising : FnD P w K mg base 1 "are_rising" 1 (ap1 F_are_rising)) (h_is_tuple_of__is_told : FnD P w K mg base 4 "is_tuple_of" 2 (ap2 G_is_tuple_of__is_told)) (hr : Room 4 (A.deeper (envOfC "is_noted" (defScope (top 58)) s.heap.objs.size f cdv))) (hg : A.guards = some []) (v_thing : D) :
    JN (dc0 K ⟨mg, w⟩ H E) (cxOf (L2.CX P w) P w K mg base ["thing", "name", "place"] "is_noted" (defScope (top 58)) f cdv A outer s H E) unEn noEn (env0 [v_thing] 2) (defBody (top 58)) (m_is_noted v_thing) := by
  obtain ⟨S, Ek, po⟩ := ctx_ok (P := P) (w := w) (K := K) (mg := mg) (base := base) (N := ["thing", "name", "place"]) (outer := outer) (H := H) (E := E) (by decide) hr hg
  exact jn_ret (je_and (je_call2 S Ek h_is_tuple_of__is_told (hr.mono (by decide)) (je_var 0) (je_fnG S M.f_is_told)) (je_one (je_call1 S Ek h_are_rising (hr.mono (by decide)) (JO.je (jo_lc (own := [("name", 1), ("place", 2)]) S (JI.same (ji_fz S (je_var 0))) (sg_two 1 2) (blkOk_by rfl) (by simp) (fun s H C cl fp S => (pg_tup S.calm (pgs_cons (pg_name S.nd rfl (by first | exact .inl rfl | exact .inr rfl)) (pgs_cons (pg_name S.nd rfl (by first | exact .inl rfl | exact .inr rfl)) pgs_nil)))) (fun s H C cl fp S p0 => jts_nil) (fun s H C cl fp S p0 => je_var 1))))))
theorem b_is_term_forms (M : MF K w mg) (h_is_name : FnD P w K mg base 1 "is_name" 1 (ap1 F_is_name)) (hr : Room 1 (A.deeper (envOfC "is_term" (defScope (top 16)) s.heap.objs.size f cdv))) (hg : A.guards = some []) (v_thing : D) :
    JN (dc0 K ⟨mg, w⟩ H E) (cxOf (L2.CX P w) P w K mg base ["thing"] "is_term" (defScope (top 16)) f cdv A outer s H E) unEn noEn (env0 [v_thing] 0) (defBody (top 16)) (m_is_term_forms v_thing) := by
  obtain ⟨S, Ek, po⟩ := ctx_ok (P := P) (w := w) (K := K) (mg := mg) (base := base) (N := ["thing"]) (outer := outer) (H := H) (E := E) (by decide) hr hg
  exact jn_ret (je_or (je_cmp (o_is) (jv_fz 0) (JE.v (je_non))) (je_one (je_call1 S Ek h_is_name (hr.mono (by decide)) (je_var 0))))
theorem b_is_test (M : MF K w mg) (h_is_name : FnD P w K mg base 1 "is_name" 1 (ap1 F_is_name)) (h_is_sized : FnD P w K mg base 1 "is_sized" 2 (ap2 F_is_sized)) (h_is_term_forms : FnD P w K mg base 2 "is_term_forms" 1 (ap1 F_is_term_forms)) (hr : Room 2 (A.deeper (envOfC "is_test" (defScope (top 22)) s.heap.objs.size f cdv))) (hg : A.guards = some []) (v_thing : D) :
    JN (dc0 K ⟨mg, w⟩ H E) (cxOf (L2.CX P w) P w K mg base ["thing"] "is_test" (defScope (top 22)) f cdv A outer s H E) unEn noEn (env0 [v_thing] 0) (defBody (top 22)) (m_is_test v_thing) := by
  obtain ⟨S, Ek, po⟩ := ctx_ok (P := P) (w := w) (K := K) (mg := mg) (base := base) (N := ["thing"]) (outer := outer) (H := H) (E := E) (by decide) hr hg
  exact jn_guard (jt_w (jw_or (jt_not (jt_val (je_call2 S Ek h_is_sized (hr.mono (by decide)) (je_var 0) (je_int)))) (jw_or (jt_not (jt_val (je_isi (n := .str) S (JE.v (je_ix S (jv_fz 0) (JE.v (je_int)))) (by rfl) M.g_isinstance (by rfl) M.g_str bt_str))) (jw_or1 (jt_cmp (o_notIn S) (JE.v (je_ix S (jv_fz 0) (JE.v (je_int)))) (JE.v (je_tup (ja_cons (je_str) (ja_cons (je_str) (ja_nil)))))))))) (jn_ret (je_bl)) (jn_ret (je_and (je_call1 S Ek h_is_name (hr.mono (by decide)) (je_ix S (jv_fz 0) (JE.v (je_int)))) (je_one (je_call1 S Ek h_is_term_forms (hr.mono (by decide)) (je_ix S (jv_fz 0) (JE.v (je_int)))))))
theorem b_is_step_forms (M : MF K w mg) (h_is_name : FnD P w K mg base 1 "is_name" 1 (ap1 F_is_name)) (h_is_term_forms : FnD P w K mg base 2 "is_term_forms" 1 (ap1 F_is_term_forms)) (h_is_test : FnD P w K mg base 3 "is_test" 1 (ap1 F_is_test)) (hr : Room 3 (A.deeper (envOfC "is_step" (defScope (top 23)) s.heap.objs.size f cdv))) (hg : A.guards = some []) (v_thing : D) :
    JN (dc0 K ⟨mg, w⟩ H E) (cxOf (L2.CX P w) P w K mg base ["thing", "part", "kind"] "is_step" (defScope (top 23)) f cdv A outer s H E) unEn noEn (env0 [v_thing] 2) (defBody (top 23)) (m_is_step_forms v_thing) := by
  obtain ⟨S, Ek, po⟩ := ctx_ok (P := P) (w := w) (K := K) (mg := mg) (base := base) (N := ["thing", "part", "kind"]) (outer := outer) (H := H) (E := E) (by decide) hr hg
  exact jn_guard (jt_w (jw_or (jt_not (jt_val (je_isi (n := .tuple) S (jv_fz 0) (by rfl) M.g_isinstance (by rfl) M.g_tuple bt_tuple))) (jw_or (jt_cmp (o_eq S) (jv_fz 0) (JE.v (je_tup (ja_nil)))) (jw_or1 (jt_not (jt_val (je_isi (n := .str) S (JE.v (je_ix S (jv_fz 0) (JE.v (je_int)))) (by rfl) M.g_isinstance (by rfl) M.g_str bt_str))))))) (jn_ret (je_bl)) (jn_guard (jt_cmp (o_eq S) (JE.v (je_ix S (jv_fz 0) (JE.v (je_int)))) (JE.v (je_str))) (jn_ret (je_call1 S Ek h_is_test (hr.mono (by decide)) (je_var 0))) (jn_guard (jt_w (jw_or (jt_tabNotIn S M.d_STEPS (JE.v (je_ix S (jv_fz 0) (JE.v (je_int))))) (jw_or1 (jt_cmp (o_ne S) (JE.v (je_cB (c_len S) (jv_fz 0) (by rfl) M.g_len bt_len)) (JE.v (JM.je (jm_op (o_add S) (JE.v (je_cB (c_len S) (JE.v (je_tabIx S M.d_STEPS (JE.v (je_ix S (jv_fz 0) (JE.v (je_int)))))) (by rfl) M.g_len bt_len)) (JE.v (je_int))))))))) (jn_ret (je_bl)) (jn_for S po (fun (s : Unit) => [.fz v_thing, .un, .un]) () (ji_zip S (JM.je (jm_sl S (jv_fz 0) (jp_some (je_int)) (jp_none))) (je_tabIx S M.d_STEPS (JE.v (je_ix S (jv_fz 0) (JE.v (je_int))))) (by rfl) M.g_zip) (sg_two 1 2) (pg_tup S.calm (pgs_cons (pg_name S.nd rfl (by first | exact .inl rfl | exact .inr rfl)) (pgs_cons (pg_name S.nd rfl (by first | exact .inl rfl | exact .inr rfl)) pgs_nil))) (fun p0 s0 => jn_guard (jt_not (jt_if (jt_cmp (o_eq S) (jv_fz 2) (JE.v (je_str))) (jt_val (je_call1 S Ek h_is_name (hr.mono (by decide)) (je_var 1))) (jt_val (je_call1 S Ek h_is_term_forms (hr.mono (by decide)) (je_var 1))))) (jn_ret (je_bl)) (jn_end () (wk_eq (wk_un (wk_un (wk_nil)))))) (wk_eq (wk_un (wk_un (wk_nil)))) (fun s1 => jn_ret (je_bl)))))
theorem b_is_row (M : MF K w mg) (h_is_sized : FnD P w K mg base 1 "is_sized" 2 (ap2 F_is_sized)) (h_is_step_forms : FnD P w K mg base 4 "is_step_forms" 1 (ap1 F_is_step_forms)) (h_is_noted : FnD P w K mg base 5 "is_noted" 1 (ap1 F_is_noted)) (hr : Room 5 (A.deeper (envOfC "is_row" (defScope (top 59)) s.heap.objs.size f cdv))) (hg : A.guards = some []) (v_thing : D) :
    JN (dc0 K ⟨mg, w⟩ H E) (cxOf (L2.CX P w) P w K mg base ["thing"] "is_row" (defScope (top 59)) f cdv A outer s H E) unEn noEn (env0 [v_thing] 0) (defBody (top 59)) (m_is_row v_thing) := by
  obtain ⟨S, Ek, po⟩ := ctx_ok (P := P) (w := w) (K := K) (mg := mg) (base := base) (N := ["thing"]) (outer := outer) (H := H) (E := E) (by decide) hr hg
  exact jn_ret (je_and (je_call2 S Ek h_is_sized (hr.mono (by decide)) (je_var 0) (je_int)) (je_and (je_call1 S Ek h_is_step_forms (hr.mono (by decide)) (je_ix S (jv_fz 0) (JE.v (je_int)))) (je_one (je_call1 S Ek h_is_noted (hr.mono (by decide)) (je_ix S (jv_fz 0) (JE.v (je_int)))))))
theorem b_names_among (M : MF K w mg)  (hr : Room 0 (A.deeper (envOfC "names_among" (defScope (top 36)) s.heap.objs.size f cdv))) (hg : A.guards = some []) (v_terms : D) :
    JN (dc0 K ⟨mg, w⟩ H E) (cxOf (L2.CX P w) P w K mg base ["terms", "term"] "names_among" (defScope (top 36)) f cdv A outer s H E) unEn noEn (env0 [v_terms] 1) (defBody (top 36)) (m_names_among v_terms) := by
  obtain ⟨S, Ek, po⟩ := ctx_ok (P := P) (w := w) (K := K) (mg := mg) (base := base) (N := ["terms", "term"]) (outer := outer) (H := H) (E := E) (by decide) hr hg
  exact jn_ret (je_cT (c_tuple S) (JO.v (jo_cB (c_sorted S) (JO.v (jo_dc (own := [("term", 1)]) S (JI.same (ji_fz S (je_var 0))) (sg_name 1) (blkOk_by rfl) (by simp) (fun s H C cl fp S => (pg_name S.nd rfl (by first | exact .inl rfl | exact .inr rfl))) (fun s H C cl fp S v_term => jts_one (jt_cmp (o_isNot) (jv_fz 1) (JE.v (je_non)))) (fun s H C cl fp S v_term => je_var 1) (fun s H C cl fp S v_term => je_bl))) (by rfl) M.g_sorted bt_sorted)) (by rfl) M.g_tuple bt_tuple)
theorem b_step_names (M : MF K w mg) (h_names_among : FnD P w K mg base 1 "names_among" 1 (ap1 F_names_among)) (hr : Room 1 (A.deeper (envOfC "step_names" (defScope (top 37)) s.heap.objs.size f cdv))) (hg : A.guards = some []) (v_step : D) :
    JN (dc0 K ⟨mg, w⟩ H E) (cxOf (L2.CX P w) P w K mg base ["step"] "step_names" (defScope (top 37)) f cdv A outer s H E) unEn noEn (env0 [v_step] 0) (defBody (top 37)) (m_step_names v_step) := by
  obtain ⟨S, Ek, po⟩ := ctx_ok (P := P) (w := w) (K := K) (mg := mg) (base := base) (N := ["step"]) (outer := outer) (H := H) (E := E) (by decide) hr hg
  exact jn_ret (je_call1 S Ek h_names_among (hr.mono (by decide)) (je_if (jt_cmp (o_eq S) (JE.v (je_ix S (jv_fz 0) (JE.v (je_int)))) (JE.v (je_str))) (JM.je (jm_sl S (jv_fz 0) (jp_some (je_int)) (jp_none))) (JM.je (jm_sl S (jv_fz 0) (jp_some (je_int)) (jp_none)))))
theorem b_names_of_row (M : MF K w mg) (h_step_names : FnD P w K mg base 2 "step_names" 1 (ap1 F_step_names)) (hr : Room 2 (A.deeper (envOfC "names_of_row" (defScope (top 60)) s.heap.objs.size f cdv))) (hg : A.guards = some []) (v_row : D) :
    JN (dc0 K ⟨mg, w⟩ H E) (cxOf (L2.CX P w) P w K mg base ["row", "name", "place"] "names_of_row" (defScope (top 60)) f cdv A outer s H E) unEn noEn (env0 [v_row] 2) (defBody (top 60)) (m_names_of_row v_row) := by
  obtain ⟨S, Ek, po⟩ := ctx_ok (P := P) (w := w) (K := K) (mg := mg) (base := base) (N := ["row", "name", "place"]) (outer := outer) (H := H) (E := E) (by decide) hr hg
  exact jn_ret (JM.je (jm_op (o_add S) (JO.v (jo_cT (c_list S) (JE.v (je_call1 S Ek h_step_names (hr.mono (by decide)) (je_ix S (jv_fz 0) (JE.v (je_int))))) (by rfl) M.g_list bt_list)) (JO.v (jo_lc (own := [("name", 1), ("place", 2)]) S (JI.same (ji_fz S (je_ix S (jv_fz 0) (JE.v (je_int))))) (sg_two 1 2) (blkOk_by rfl) (by simp) (fun s H C cl fp S => (pg_tup S.calm (pgs_cons (pg_name S.nd rfl (by first | exact .inl rfl | exact .inr rfl)) (pgs_cons (pg_name S.nd rfl (by first | exact .inl rfl | exact .inr rfl)) pgs_nil)))) (fun s H C cl fp S p0 => jts_nil) (fun s H C cl fp S p0 => je_var 1)))))
theorem b_checked_log (M : MF K w mg) (h_is_sized : FnD P w K mg base 1 "is_sized" 2 (ap2 F_is_sized)) (h_names_of_row : FnD P w K mg base 3 "names_of_row" 1 (ap1 F_names_of_row)) (h_checked_memory : FnD P w K mg base 5 "checked_memory" 1 (ap1 F_checked_memory)) (h_is_row : FnD P w K mg base 6 "is_row" 1 (ap1 F_is_row)) (hr : Room 6 (A.deeper (envOfC "checked_log" (defScope (top 61)) s.heap.objs.size f cdv))) (hg : A.guards = some []) (v_thing : D) :
    JN (dc0 K ⟨mg, w⟩ H E) (cxOf (L2.CX P w) P w K mg base ["thing", "memory", "rows", "index", "row", "told", "name", "place"] "checked_log" (defScope (top 61)) f cdv A outer s H E) unEn noEn (env0 [v_thing] 7) (defBody (top 61)) (m_checked_log v_thing) := by
  obtain ⟨S, Ek, po⟩ := ctx_ok (P := P) (w := w) (K := K) (mg := mg) (base := base) (N := ["thing", "memory", "rows", "index", "row", "told", "name", "place"]) (outer := outer) (H := H) (E := E) (by decide) hr hg
  exact jn_guard (jt_w (jw_or (jt_not (jt_val (je_call2 S Ek h_is_sized (hr.mono (by decide)) (je_var 0) (je_int)))) (jw_or1 (jt_not (jt_val (je_isi (n := .tuple) S (JE.v (je_ix S (jv_fz 0) (JE.v (je_int)))) (by rfl) M.g_isinstance (by rfl) M.g_tuple bt_tuple)))))) (jn_bad) (jn_par S 1 2 (JE.jx (je_call1 S Ek h_checked_memory (hr.mono (by decide)) (je_ix S (jv_fz 0) (JE.v (je_int))))) (JE.jx (je_ix S (jv_fz 0) (JE.v (je_int)))) (fun v_memory v_rows => jn_guard (jt_cmp (o_gt) (JE.v (je_cB (c_len S) (jv_fz 2) (by rfl) M.g_len bt_len)) (JE.v (je_gint (by rfl) M.i_MOST_ROWS))) (jn_bad) (jn_for S po (fun (s : Unit) => [.fz v_thing, .fz v_memory, .fz v_rows, .un, .un, .un, .un, .un]) () (ji_enumS S (je_var 2) (by rfl) M.g_enumerate) (sg_two 3 4) (pg_tup S.calm (pgs_cons (pg_name S.nd rfl (by first | exact .inl rfl | exact .inr rfl)) (pgs_cons (pg_name S.nd rfl (by first | exact .inl rfl | exact .inr rfl)) pgs_nil))) (fun p0 s0 => jn_guard (jt_not (jt_val (je_call1 S Ek h_is_row (hr.mono (by decide)) (je_var 4)))) (jn_bad) (jn_end () (wk_eq (wk_eq (wk_eq (wk_un (wk_un (wk_un (wk_un (wk_un (wk_nil))))))))))) (wk_eq (wk_eq (wk_eq (wk_un (wk_un (wk_un (wk_un (wk_un (wk_nil))))))))) (fun s1 => jn_set S 5 (JO.je (jo_lc (own := [("name", 6), ("place", 7)]) S (JI.same (ji_fz S (je_ix S (jv_fz 1) (JE.v (je_int))))) (sg_two 6 7) (blkOk_by rfl) (by simp) (fun s H C cl fp S => (pg_tup S.calm (pgs_cons (pg_name S.nd rfl (by first | exact .inl rfl | exact .inr rfl)) (pgs_cons (pg_name S.nd rfl (by first | exact .inl rfl | exact .inr rfl)) pgs_nil)))) (fun s H C cl fp S p1 => jts_nil) (fun s H C cl fp S p1 => je_var 6))) (fun v_told => jn_for S po (fun (s : Unit) => [.fz v_thing, .fz v_memory, .fz v_rows, .un, .un, .fz v_told, .un, .un]) () (ji_enumS S (je_var 2) (by rfl) M.g_enumerate) (sg_two 3 4) (pg_tup S.calm (pgs_cons (pg_name S.nd rfl (by first | exact .inl rfl | exact .inr rfl)) (pgs_cons (pg_name S.nd rfl (by first | exact .inl rfl | exact .inr rfl)) pgs_nil))) (fun p2 s2 => jn_guard (jt_not (jt_val (je_cB (c_all S) (JO.v (jo_lc (own := [("name", 6)]) S (JI.same (ji_fz S (je_call1 S Ek h_names_of_row (hr.mono (by decide)) (je_var 4)))) (sg_name 6) (blkOk_by rfl) (by simp) (fun s H C cl fp S => (pg_name S.nd rfl (by first | exact .inl rfl | exact .inr rfl))) (fun s H C cl fp S v_name => jts_nil) (fun s H C cl fp S v_name => je_cmp (o_in S) (jv_fz 6) (jv_fz 5)))) (by rfl) M.g_all bt_all))) (jn_bad) (jn_end () (wk_eq (wk_eq (wk_eq (wk_un (wk_un (wk_eq (wk_un (wk_un (wk_nil))))))))))) (wk_eq (wk_eq (wk_eq (wk_un (wk_un (wk_eq (wk_un (wk_un (wk_nil))))))))) (fun s3 => jn_ret (je_var 0)))))))
theorem b_cut_log (M : MF K w mg) (h_is_count : FnD P w K mg base 2 "is_count" 1 (ap1 F_is_count)) (hr : Room 2 (A.deeper (envOfC "cut_log" (defScope (top 66)) s.heap.objs.size f cdv))) (hg : A.guards = some []) (v_log v_many : D) :
    JN (dc0 K ⟨mg, w⟩ H E) (cxOf (L2.CX P w) P w K mg base ["log", "many"] "cut_log" (defScope (top 66)) f cdv A outer s H E) unEn noEn (env0 [v_log, v_many] 0) (defBody (top 66)) (m_cut_log v_log v_many) := by
  obtain ⟨S, Ek, po⟩ := ctx_ok (P := P) (w := w) (K := K) (mg := mg) (base := base) (N := ["log", "many"]) (outer := outer) (H := H) (E := E) (by decide) hr hg
  exact jn_guard (jt_w (jw_or (jt_not (jt_val (je_call1 S Ek h_is_count (hr.mono (by decide)) (je_var 1)))) (jw_or1 (jt_cmp (o_gt) (jv_fz 1) (JE.v (je_cB (c_len S) (JE.v (je_ix S (jv_fz 0) (JE.v (je_int)))) (by rfl) M.g_len bt_len)))))) (jn_raise S Ek (M.x_Nothing).choose_spec (by rfl)) (jn_ret (je_tup (ja_cons (je_ix S (jv_fz 0) (JE.v (je_int))) (ja_cons (JM.je (jm_sl S (JE.v (je_ix S (jv_fz 0) (JE.v (je_int)))) (jp_none) (jp_some (je_var 1)))) (ja_nil)))))
theorem b_is_term (M : MF K w mg) (h_is_name : FnD P w K mg base 1 "is_name" 1 (ap1 F_is_name)) (hr : Room 1 (A.deeper (envOfC "is_term" (defScope (top 41)) s.heap.objs.size f cdv))) (hg : A.guards = some []) (v_thing : D) :
    JN (dc0 K ⟨mg, w⟩ H E) (cxOf (L2.CX P w) P w K mg base ["thing"] "is_term" (defScope (top 41)) f cdv A outer s H E) unEn noEn (env0 [v_thing] 0) (defBody (top 41)) (m_is_term v_thing) := by
  obtain ⟨S, Ek, po⟩ := ctx_ok (P := P) (w := w) (K := K) (mg := mg) (base := base) (N := ["thing"]) (outer := outer) (H := H) (E := E) (by decide) hr hg
  exact jn_ret (je_or (je_cmp (o_is) (jv_fz 0) (JE.v (je_non))) (je_one (je_call1 S Ek h_is_name (hr.mono (by decide)) (je_var 0))))
theorem b_is_test_word (M : MF K w mg)  (hr : Room 0 (A.deeper (envOfC "is_test_word" (defScope (top 43)) s.heap.objs.size f cdv))) (hg : A.guards = some []) (v_thing : D) :
    JN (dc0 K ⟨mg, w⟩ H E) (cxOf (L2.CX P w) P w K mg base ["thing"] "is_test_word" (defScope (top 43)) f cdv A outer s H E) unEn noEn (env0 [v_thing] 0) (defBody (top 43)) (m_is_test_word v_thing) := by
  obtain ⟨S, Ek, po⟩ := ctx_ok (P := P) (w := w) (K := K) (mg := mg) (base := base) (N := ["thing"]) (outer := outer) (H := H) (E := E) (by decide) hr hg
  exact jn_ret (je_and (je_isi (n := .str) S (jv_fz 0) (by rfl) M.g_isinstance (by rfl) M.g_str bt_str) (je_one (je_cmp (o_in S) (jv_fz 0) (JE.v (je_gtup S (by rfl) M.t_TESTS (by decide +kernel))))))
theorem b_is_worded (M : MF K w mg)  (hr : Room 0 (A.deeper (envOfC "is_worded" (defScope (top 45)) s.heap.objs.size f cdv))) (hg : A.guards = some []) (v_thing : D) :
    JN (dc0 K ⟨mg, w⟩ H E) (cxOf (L2.CX P w) P w K mg base ["thing"] "is_worded" (defScope (top 45)) f cdv A outer s H E) unEn noEn (env0 [v_thing] 0) (defBody (top 45)) (m_is_worded v_thing) := by
  obtain ⟨S, Ek, po⟩ := ctx_ok (P := P) (w := w) (K := K) (mg := mg) (base := base) (N := ["thing"]) (outer := outer) (H := H) (E := E) (by decide) hr hg
  exact jn_ret (je_and (je_isi (n := .tuple) S (jv_fz 0) (by rfl) M.g_isinstance (by rfl) M.g_tuple bt_tuple) (je_and (je_cmp (o_ne S) (jv_fz 0) (JE.v (je_tup (ja_nil)))) (je_and (je_isi (n := .str) S (JE.v (je_ix S (jv_fz 0) (JE.v (je_int)))) (by rfl) M.g_isinstance (by rfl) M.g_str bt_str) (je_one (je_tabIn S M.d_KINDS (JE.v (je_ix S (jv_fz 0) (JE.v (je_int)))))))))
theorem b_is_step (M : MF K w mg) (h_is_name : FnD P w K mg base 1 "is_name" 1 (ap1 F_is_name)) (h_is_test_word : FnD P w K mg base 1 "is_test_word" 1 (ap1 F_is_test_word)) (h_is_worded : FnD P w K mg base 1 "is_worded" 1 (ap1 F_is_worded)) (h_is_term_at_is_term_steps : FnD P w K mg base 2 "is_term_steps" 1 (ap1 F_is_term)) (hr : Room 2 (A.deeper (envOfC "is_step" (defScope (top 46)) s.heap.objs.size f cdv))) (hg : A.guards = some []) (v_thing : D) :
    JN (dc0 K ⟨mg, w⟩ H E) (cxOf (L2.CX P w) P w K mg base ["thing", "is_one", "part"] "is_step" (defScope (top 46)) f cdv A outer s H E) unEn noEn (env0 [v_thing] 2) (defBody (top 46)) (m_is_step v_thing) := by
  obtain ⟨S, Ek, po⟩ := ctx_ok (P := P) (w := w) (K := K) (mg := mg) (base := base) (N := ["thing", "is_one", "part"]) (outer := outer) (H := H) (E := E) (by decide) hr hg
  exact jn_guard (jt_w (jw_or (jt_not (jt_val (je_call1 S Ek h_is_worded (hr.mono (by decide)) (je_var 0)))) (jw_or1 (jt_cmp (o_ne S) (JE.v (je_cB (c_len S) (jv_fz 0) (by rfl) M.g_len bt_len)) (JE.v (JM.je (jm_op (o_add S) (JE.v (je_cB (c_len S) (JE.v (je_tabIx S M.d_KINDS (JE.v (je_ix S (jv_fz 0) (JE.v (je_int)))))) (by rfl) M.g_len bt_len)) (JE.v (je_int))))))))) (jn_ret (je_bl)) (jn_ret (je_cB (c_all S) (JO.v (jo_lc (own := [("is_one", 1), ("part", 2)]) S (JI.same (ji_zip S (je_tabIx S M.d_KINDS (JE.v (je_ix S (jv_fz 0) (JE.v (je_int))))) (JM.je (jm_sl S (jv_fz 0) (jp_some (je_int)) (jp_none))) (by rfl) M.g_zip)) (sg_two 1 2) (blkOk_by rfl) (by simp) (fun s H C cl fp S => (pg_tup S.calm (pgs_cons (pg_name S.nd rfl (by first | exact .inl rfl | exact .inr rfl)) (pgs_cons (pg_name S.nd rfl (by first | exact .inl rfl | exact .inr rfl)) pgs_nil)))) (fun s H C cl fp S p0 => jts_nil) (fun s H C cl fp S p0 => je_callF (j := 2) S Exk.inn (TabF.cons h_is_name (j := 2) (by decide) (TabF.cons h_is_term_at_is_term_steps (j := 2) (by decide) (TabF.cons h_is_test_word (j := 2) (by decide) TabF.nil))) (hr.mono (by decide)) 1 (ja_cons (je_var 2) (ja_nil))))) (by rfl) M.g_all bt_all))
theorem b_names_in_step (M : MF K w mg)  (hr : Room 0 (A.deeper (envOfC "names_in_step" (defScope (top 48)) s.heap.objs.size f cdv))) (hg : A.guards = some []) (v_step : D) :
    JN (dc0 K ⟨mg, w⟩ H E) (cxOf (L2.CX P w) P w K mg base ["step", "parts", "part"] "names_in_step" (defScope (top 48)) f cdv A outer s H E) unEn noEn (env0 [v_step] 2) (defBody (top 48)) (m_names_in_step v_step) := by
  obtain ⟨S, Ek, po⟩ := ctx_ok (P := P) (w := w) (K := K) (mg := mg) (base := base) (N := ["step", "parts", "part"]) (outer := outer) (H := H) (E := E) (by decide) hr hg
  exact jn_set S 1 (je_if (jt_cmp (o_eq S) (JE.v (je_ix S (jv_fz 0) (JE.v (je_int)))) (JE.v (je_str))) (JM.je (jm_sl S (jv_fz 0) (jp_some (je_int)) (jp_none))) (JM.je (jm_sl S (jv_fz 0) (jp_some (je_int)) (jp_none)))) (fun v_parts => jn_ret (JO.je (jo_lc (own := [("part", 2)]) S (JI.same (ji_fz S (je_var 1))) (sg_name 2) (blkOk_by rfl) (by simp) (fun s H C cl fp S => (pg_name S.nd rfl (by first | exact .inl rfl | exact .inr rfl))) (fun s H C cl fp S v_part => jts_one (jt_cmp (o_isNot) (jv_fz 2) (JE.v (je_non)))) (fun s H C cl fp S v_part => je_var 2))))
theorem b_check_step (M : MF K w mg) (h_names_in_step : FnD P w K mg base 1 "names_in_step" 1 (ap1 F_names_in_step)) (h_is_step_at_is_step_steps : FnD P w K mg base 3 "is_step_steps" 1 (ap1 F_is_step)) (hr : Room 3 (A.deeper (envOfC "check_step" (defScope (top 51)) s.heap.objs.size f cdv))) (hg : A.guards = some []) (v_memory v_step : D) :
    JN (dc0 K ⟨mg, w⟩ H E) (cxOf (L2.CX P w) P w K mg base ["memory", "step", "told", "name"] "check_step" (defScope (top 51)) f cdv A outer s H E) unEn noEn (env0 [v_memory, v_step] 2) (defBody (top 51)) (m_check_step v_memory v_step) := by
  obtain ⟨S, Ek, po⟩ := ctx_ok (P := P) (w := w) (K := K) (mg := mg) (base := base) (N := ["memory", "step", "told", "name"]) (outer := outer) (H := H) (E := E) (by decide) hr hg
  exact jn_set S 2 (JO.je (jo_cT (c_dict S) (JE.v (je_ix S (jv_fz 0) (JE.v (je_int)))) (by rfl) M.g_dict bt_dict)) (fun v_told => jn_guard (jt_w (jw_or (jt_not (jt_val (je_call1 S Ek h_is_step_at_is_step_steps (hr.mono (by decide)) (je_var 1)))) (jw_or1 (jt_not (jt_val (je_cB (c_all S) (JO.v (jo_lc (own := [("name", 3)]) S (JI.same (ji_fz S (je_call1 S Ek h_names_in_step (hr.mono (by decide)) (je_var 1)))) (sg_name 3) (blkOk_by rfl) (by simp) (fun s H C cl fp S => (pg_name S.nd rfl (by first | exact .inl rfl | exact .inr rfl))) (fun s H C cl fp S v_name => jts_nil) (fun s H C cl fp S v_name => je_cmp (o_in S) (jv_fz 3) (jv_fz 2)))) (by rfl) M.g_all bt_all)))))) (jn_raise S Ek (M.x_Nothing).choose_spec (by rfl)) (jn_end () wk_nil))
theorem b_asked_place (M : MF K w mg) (h_check_step : FnD P w K mg base 4 "check_step" 2 (ap2 F_check_step)) (hr : Room 4 (A.deeper (envOfC "asked_place" (defScope (top 52)) s.heap.objs.size f cdv))) (hg : A.guards = some []) (v_memory v_step : D) :
    JN (dc0 K ⟨mg, w⟩ H E) (cxOf (L2.CX P w) P w K mg base ["memory", "step", "told"] "asked_place" (defScope (top 52)) f cdv A outer s H E) unEn noEn (env0 [v_memory, v_step] 1) (defBody (top 52)) (m_asked_place v_memory v_step) := by
  obtain ⟨S, Ek, po⟩ := ctx_ok (P := P) (w := w) (K := K) (mg := mg) (base := base) (N := ["memory", "step", "told"]) (outer := outer) (H := H) (E := E) (by decide) hr hg
  exact jn_expr (je_call2 S Ek h_check_step (hr.mono (by decide)) (je_var 0) (je_var 1)) (jn_set S 2 (JO.je (jo_cT (c_dict S) (JE.v (je_ix S (jv_fz 0) (JE.v (je_int)))) (by rfl) M.g_dict bt_dict)) (fun v_told => jn_guard (jt_cmp (o_eq S) (JE.v (je_ix S (jv_fz 1) (JE.v (je_int)))) (JE.v (je_str))) (jn_ret (je_ix S (jv_fz 2) (JE.v (je_ix S (jv_fz 1) (JE.v (je_int)))))) (jn_ret (je_if (jt_cmp (o_in S) (JE.v (je_ix S (jv_fz 1) (JE.v (je_int)))) (JE.v (je_tup (ja_cons (je_str) (ja_cons (je_str) (ja_nil)))))) (je_ix S (jv_fz 2) (JE.v (je_ix S (jv_fz 1) (JE.v (je_int))))) (je_non)))))
theorem b_new_place (M : MF K w mg)  (hr : Room 0 (A.deeper (envOfC "new_place" (defScope (top 50)) s.heap.objs.size f cdv))) (hg : A.guards = some []) (v_told v_cells : D) :
    JN (dc0 K ⟨mg, w⟩ H E) (cxOf (L2.CX P w) P w K mg base ["told", "cells", "taken", "found", "place"] "new_place" (defScope (top 50)) f cdv A outer s H E) unEn noEn (envV [true, true] [v_told, v_cells] 3) (defBody (top 50)) (m_new_place v_told v_cells) := by
  obtain ⟨S, Ek, po⟩ := ctx_ok (P := P) (w := w) (K := K) (mg := mg) (base := base) (N := ["told", "cells", "taken", "found", "place"]) (outer := outer) (H := H) (E := E) (by decide) hr hg
  exact jn_setDc (own := [("place", 4)]) S 2 rfl rfl (by rfl) (JI.same (ji_fz S (JO.je (jo_lstS (jas_star S (jc_vals (jv_gv 0)) (jas_star S (jc_vals (jv_gv 1)) (jas_star S (jc_v S (jv_gv 1)) (jas_nil)))))))) (sg_name 4) (blkOk_by rfl) (by simp) (fun s H C cl fp S => (pg_name S.nd rfl (by first | exact .inl rfl | exact .inr rfl))) (fun s H C cl fp S v_place => jts_nil) (fun s H C cl fp S v_place => je_var 4) (fun s H C cl fp S v_place => je_bl) (fun v_taken => jn_frz 2 (jn_set S 3 (je_int) (fun v_found => jn_while po 1000 (fun (s : D) => [.gv v_told, .gv v_cells, .fz v_taken, .fz s, .un]) v_found (fun s0 => jt_cmp (o_in S) (jv_fz 3) (jv_fz 2)) (fun s0 => jn_aug S 3 (je_int) (fun v_found1 => jn_end v_found1 (wk_eq (wk_eq (wk_eq (wk_eq (wk_un (wk_nil)))))))) (wk_eq (wk_eq (wk_eq (wk_eq (wk_un (wk_nil)))))) (fun s1 => jn_ret (je_var 3)))))
theorem b_place_told (M : MF K w mg)  (hr : Room 0 (A.deeper (envOfC "place_told" (defScope (top 49)) s.heap.objs.size f cdv))) (hg : A.guards = some []) (v_told v_term : D) :
    JN (dc0 K ⟨mg, w⟩ H E) (cxOf (L2.CX P w) P w K mg base ["told", "term"] "place_told" (defScope (top 49)) f cdv A outer s H E) unEn noEn (envV [true, false] [v_told, v_term] 0) (defBody (top 49)) (m_place_told v_told v_term) := by
  obtain ⟨S, Ek, po⟩ := ctx_ok (P := P) (w := w) (K := K) (mg := mg) (base := base) (N := ["told", "term"]) (outer := outer) (H := H) (E := E) (by decide) hr hg
  exact jn_ret (je_if (jt_cmp (o_is) (jv_fz 1) (JE.v (je_non))) (je_int) (je_ix S (jv_gv 0) (jv_fz 1)))
theorem b_changed (M : MF K w mg) (h_new_place : FnV P w K mg base 1 "new_place" [true, true] (ap2 F_new_place)) (h_place_told : FnV P w K mg base 1 "place_told" [true, false] (ap2 F_place_told)) {p q : Addr} (hr : Room 1 (A.deeper (envOfC "changed" (defScope (top 54)) s.heap.objs.size f cdv))) (hg : A.guards = some []) (v_told v_cells v_step : D) :
    JN (dcI2 K ⟨mg, w⟩ H p q) (cxOf (L2.CX P w) P w K mg base ["told", "cells", "step", "place"] "changed" (defScope (top 54)) f cdv A outer s H E) en2 noEn (.ow 1 v_told :: .ow 2 v_cells :: env0 [v_step] 1) (defBody (top 54)) (m_changed v_told v_cells v_step) := by
  obtain ⟨S, Ek, po⟩ := ctxI2_ok (p := p) (q := q) (P := P) (w := w) (K := K) (mg := mg) (base := base) (N := ["told", "cells", "step", "place"]) (outer := outer) (H := H) (E := E) (by decide) hr hg
  exact jn_if (fun (s : D × D) => [.ow 1 s.1, .ow 2 s.2, .fz v_step, .un]) (jt_cmp (o_eq S) (JE.v (je_ix S (jv_fz 2) (JE.v (je_int)))) (JE.v (je_str))) (jn_store S 0 (je_callV S Ek h_place_told (hr.mono (by decide)) (jam_v (jv_ow 0) (jam_f (je_ix S (jv_fz 2) (JE.v (je_int))) (jam_nil)))) (je_ix S (jv_fz 2) (JE.v (je_int))) (fun v_told1 => jn_end (v_told1, v_cells) (wk_eq (wk_eq (wk_eq (wk_un (wk_nil))))))) (jn_if (fun (s : D × D) => [.ow 1 s.1, .ow 2 s.2, .fz v_step, .un]) (jt_cmp (o_eq S) (JE.v (je_ix S (jv_fz 2) (JE.v (je_int)))) (JE.v (je_str))) (jn_store S 0 (je_ix S (jv_ow 1) (JE.v (je_ix S (jv_ow 0) (JE.v (je_ix S (jv_fz 2) (JE.v (je_int))))))) (je_ix S (jv_fz 2) (JE.v (je_int))) (fun v_told2 => jn_end (v_told2, v_cells) (wk_eq (wk_eq (wk_eq (wk_un (wk_nil))))))) (jn_if (fun (s : D × D) => [.ow 1 s.1, .ow 2 s.2, .fz v_step, .un]) (jt_cmp (o_eq S) (JE.v (je_ix S (jv_fz 2) (JE.v (je_int)))) (JE.v (je_str))) (jn_store S 1 (je_callV S Ek h_place_told (hr.mono (by decide)) (jam_v (jv_ow 0) (jam_f (je_ix S (jv_fz 2) (JE.v (je_int))) (jam_nil)))) (je_ix S (jv_ow 0) (JE.v (je_ix S (jv_fz 2) (JE.v (je_int))))) (fun v_cells1 => jn_end (v_told, v_cells1) (wk_eq (wk_eq (wk_eq (wk_un (wk_nil))))))) (jn_if (fun (s : D × D) => [.ow 1 s.1, .ow 2 s.2, .fz v_step, .un]) (jt_cmp (o_eq S) (JE.v (je_ix S (jv_fz 2) (JE.v (je_int)))) (JE.v (je_str))) (jn_popK 1 (je_ix S (jv_ow 0) (JE.v (je_ix S (jv_fz 2) (JE.v (je_int))))) (fun v_cells2 => jn_end (v_told, v_cells2) (wk_eq (wk_eq (wk_eq (wk_un (wk_nil))))))) (jn_set S 3 (je_callV S Ek h_new_place (hr.mono (by decide)) (jam_v (jv_ow 0) (jam_v (jv_ow 1) (jam_nil)))) (fun v_place => jn_guard (jt_cmp (o_ge) (JE.v (je_cB (c_len S) (jv_ow 1) (by rfl) M.g_len bt_len)) (JE.v (je_gint (by rfl) M.i_MOST_CELLS_steps))) (jn_bad) (jn_store S 1 (je_int) (je_var 3) (fun v_cells3 => jn_store S 0 (je_var 3) (je_ix S (jv_fz 2) (JE.v (je_int))) (fun v_told3 => jn_end (v_told3, v_cells3) (wk_eq (wk_eq (wk_eq (wk_un (wk_nil)))))))))) (fun s0 => jn_end (s0.1, s0.2) (wk_eq (wk_eq (wk_eq (wk_un (wk_nil))))))) (fun s1 => jn_end (s1.1, s1.2) (wk_eq (wk_eq (wk_eq (wk_un (wk_nil))))))) (fun s2 => jn_end (s2.1, s2.2) (wk_eq (wk_eq (wk_eq (wk_un (wk_nil))))))) (fun s3 => jn_end (s3.1, s3.2) (wk_eq (wk_eq wk_nil)))
theorem b_memory_of (M : MF K w mg)  (hr : Room 0 (A.deeper (envOfC "memory_of" (defScope (top 53)) s.heap.objs.size f cdv))) (hg : A.guards = some []) (v_told v_cells : D) :
    JN (dc0 K ⟨mg, w⟩ H E) (cxOf (L2.CX P w) P w K mg base ["told", "cells"] "memory_of" (defScope (top 53)) f cdv A outer s H E) unEn noEn (env0 [v_told, v_cells] 0) (defBody (top 53)) (m_memory_of v_told v_cells) := by
  obtain ⟨S, Ek, po⟩ := ctx_ok (P := P) (w := w) (K := K) (mg := mg) (base := base) (N := ["told", "cells"]) (outer := outer) (H := H) (E := E) (by decide) hr hg
  exact jn_ret (je_tup (ja_cons (je_cT (c_tuple S) (JO.v (jo_sortedC S (jc_items (jv_fz 0)) (by rfl) M.g_sorted bt_sorted)) (by rfl) M.g_tuple bt_tuple) (ja_cons (je_cT (c_tuple S) (JO.v (jo_sortedC S (jc_items (jv_fz 1)) (by rfl) M.g_sorted bt_sorted)) (by rfl) M.g_tuple bt_tuple) (ja_nil))))
theorem b_done (M : MF K w mg) (h_memory_of : FnD P w K mg base 1 "memory_of" 2 (ap2 F_memory_of)) (h_place_told : FnV P w K mg base 1 "place_told" [true, false] (ap2 F_place_told)) (h_changed : FnI2 P w K mg base 2 "changed" 1 (apj1 F_changed)) (h_asked_place : FnD P w K mg base 5 "asked_place" 2 (ap2 F_asked_place)) (hr : Room 5 (A.deeper (envOfC "done" (defScope (top 55)) s.heap.objs.size f cdv))) (hg : A.guards = some []) (v_memory v_step : D) :
    JN (dc0 K ⟨mg, w⟩ H E) (cxOf (L2.CX P w) P w K mg base ["memory", "step", "asked", "told", "cells", "is_same"] "done" (defScope (top 55)) f cdv A outer s H E) unEn noEn (env0 [v_memory, v_step] 4) (defBody (top 55)) (m_done v_memory v_step) := by
  obtain ⟨S, Ek, po⟩ := ctx_ok (P := P) (w := w) (K := K) (mg := mg) (base := base) (N := ["memory", "step", "asked", "told", "cells", "is_same"]) (outer := outer) (H := H) (E := E) (by decide) hr hg
  exact jn_set S 2 (je_call2 S Ek h_asked_place (hr.mono (by decide)) (je_var 0) (je_var 1)) (fun v_asked => jn_par S 3 4 (JO.jx (jo_cT (c_dict S) (JE.v (je_ix S (jv_fz 0) (JE.v (je_int)))) (by rfl) M.g_dict bt_dict)) (JO.jx (jo_cT (c_dict S) (JE.v (je_ix S (jv_fz 0) (JE.v (je_int)))) (by rfl) M.g_dict bt_dict)) (fun v_told v_cells => jn_guard (jt_w (jw_and (jt_cmp (o_isNot) (jv_fz 2) (JE.v (je_non))) (jw_and1 (jt_cmp (o_notIn S) (jv_fz 2) (jv_ow 4))))) (jn_ret (je_tup (ja_cons (je_str) (ja_nil)))) (jn_guard (jt_cmp (o_eq S) (JE.v (je_ix S (jv_fz 1) (JE.v (je_int)))) (JE.v (je_str))) (jn_set S 5 (je_cmp (o_eq S) (JE.v (je_ix S (jv_ow 3) (JE.v (je_ix S (jv_fz 1) (JE.v (je_int)))))) (JE.v (je_callV S Ek h_place_told (hr.mono (by decide)) (jam_v (jv_ow 3) (jam_f (je_ix S (jv_fz 1) (JE.v (je_int))) (jam_nil)))))) (fun v_is_same => jn_ret (je_if (jt_cmp (o_eq S) (jv_fz 5) (JE.v (je_cmp (o_eq S) (JE.v (je_ix S (jv_fz 1) (JE.v (je_int)))) (JE.v (je_str))))) (je_tup (ja_cons (je_str) (ja_cons (je_var 0) (ja_nil)))) (je_tup (ja_cons (je_str) (ja_nil)))))) (jn_call2 S 3 4 h_changed (hr.mono (by decide)) (ja_cons (je_var 1) (ja_nil)) (fun r0 => jn_frz 3 (jn_frz 4 (jn_ret (je_tup (ja_cons (je_str) (ja_cons (je_call2 S Ek h_memory_of (hr.mono (by decide)) (je_var 3) (je_var 4)) (ja_nil)))))))))))
theorem b_is_so (M : MF K w mg)  (hr : Room 0 (A.deeper (envOfC "is_so" (defScope (top 63)) s.heap.objs.size f cdv))) (hg : A.guards = some []) (v_memory v_noted : D) :
    JN (dc0 K ⟨mg, w⟩ H E) (cxOf (L2.CX P w) P w K mg base ["memory", "noted", "told", "name", "place"] "is_so" (defScope (top 63)) f cdv A outer s H E) unEn noEn (env0 [v_memory, v_noted] 3) (defBody (top 63)) (m_is_so v_memory v_noted) := by
  obtain ⟨S, Ek, po⟩ := ctx_ok (P := P) (w := w) (K := K) (mg := mg) (base := base) (N := ["memory", "noted", "told", "name", "place"]) (outer := outer) (H := H) (E := E) (by decide) hr hg
  exact jn_set S 2 (JO.je (jo_cT (c_dict S) (JE.v (je_ix S (jv_fz 0) (JE.v (je_int)))) (by rfl) M.g_dict bt_dict)) (fun v_told => jn_ret (je_cB (c_all S) (JO.v (jo_lc (own := [("name", 3), ("place", 4)]) S (JI.same (ji_fz S (je_var 1))) (sg_two 3 4) (blkOk_by rfl) (by simp) (fun s H C cl fp S => (pg_tup S.calm (pgs_cons (pg_name S.nd rfl (by first | exact .inl rfl | exact .inr rfl)) (pgs_cons (pg_name S.nd rfl (by first | exact .inl rfl | exact .inr rfl)) pgs_nil)))) (fun s H C cl fp S p0 => jts_nil) (fun s H C cl fp S p0 => je_cmp (o_eq S) (JE.v (je_ix S (jv_fz 2) (jv_fz 3))) (jv_fz 4)))) (by rfl) M.g_all bt_all))
theorem b_played_log (M : MF K w mg) (h_is_so : FnD P w K mg base 1 "is_so" 2 (ap2 F_is_so)) (h_done : FnD P w K mg base 6 "done" 2 (ap2 F_done)) (hr : Room 6 (A.deeper (envOfC "played_log" (defScope (top 64)) s.heap.objs.size f cdv))) (hg : A.guards = some []) (v_log : D) :
    JN (dc0 K ⟨mg, w⟩ H E) (cxOf (L2.CX P w) P w K mg base ["log", "memory", "rows", "index", "step", "noted", "answer"] "played_log" (defScope (top 64)) f cdv A outer s H E) unEn noEn (env0 [v_log] 6) (defBody (top 64)) (m_played_log v_log) := by
  obtain ⟨S, Ek, po⟩ := ctx_ok (P := P) (w := w) (K := K) (mg := mg) (base := base) (N := ["log", "memory", "rows", "index", "step", "noted", "answer"]) (outer := outer) (H := H) (E := E) (by decide) hr hg
  exact jn_unp S (je_var 0) (sg_two 1 2) (pg_tup S.calm (pgs_cons (pg_name S.nd rfl (by first | exact .inl rfl | exact .inr rfl)) (pgs_cons (pg_name S.nd rfl (by first | exact .inl rfl | exact .inr rfl)) pgs_nil))) (fun p0 => jn_for S po (fun (s : D) => [.fz v_log, .fz s, .fz p0.2, .un, .un, .un, .un]) p0.1 (ji_enumS S (je_var 2) (by rfl) M.g_enumerate) (sg_pair (sg_name 3) (sg_two 4 5)) (pg_tup S.calm (pgs_cons (pg_name S.nd rfl (by first | exact .inl rfl | exact .inr rfl)) (pgs_cons (pg_tup S.calm (pgs_cons (pg_name S.nd rfl (by first | exact .inl rfl | exact .inr rfl)) (pgs_cons (pg_name S.nd rfl (by first | exact .inl rfl | exact .inr rfl)) pgs_nil))) pgs_nil))) (fun p1 s0 => jn_set S 6 (je_call2 S Ek h_done (hr.mono (by decide)) (je_var 1) (je_var 4)) (fun v_answer => jn_guard (jt_cmp (o_ne S) (JE.v (je_ix S (jv_fz 6) (JE.v (je_int)))) (JE.v (je_str))) (jn_ret (je_tup (ja_cons (je_var 3) (ja_cons (je_ix S (jv_fz 6) (JE.v (je_int))) (ja_cons (je_var 1) (ja_nil)))))) (jn_set S 1 (je_ix S (jv_fz 6) (JE.v (je_int))) (fun v_memory => jn_guard (jt_not (jt_val (je_call2 S Ek h_is_so (hr.mono (by decide)) (je_var 1) (je_var 5)))) (jn_ret (je_tup (ja_cons (je_var 3) (ja_cons (je_str) (ja_cons (je_var 1) (ja_nil)))))) (jn_end v_memory (wk_eq (wk_eq (wk_eq (wk_un (wk_un (wk_un (wk_un (wk_nil))))))))))))) (wk_eq (wk_eq (wk_eq (wk_un (wk_un (wk_un (wk_un (wk_nil)))))))) (fun s1 => jn_ret (je_tup (ja_cons (je_cB (c_len S) (jv_fz 2) (by rfl) M.g_len bt_len) (ja_cons (je_str) (ja_cons (je_var 1) (ja_nil)))))))
theorem b_fault_in (M : MF K w mg) (h_played_log : FnD P w K mg base 7 "played_log" 1 (ap1 F_played_log)) (hr : Room 7 (A.deeper (envOfC "fault_in" (defScope (top 65)) s.heap.objs.size f cdv))) (hg : A.guards = some []) (v_log : D) :
    JN (dc0 K ⟨mg, w⟩ H E) (cxOf (L2.CX P w) P w K mg base ["log", "index", "word", "memory"] "fault_in" (defScope (top 65)) f cdv A outer s H E) unEn noEn (env0 [v_log] 3) (defBody (top 65)) (m_fault_in v_log) := by
  obtain ⟨S, Ek, po⟩ := ctx_ok (P := P) (w := w) (K := K) (mg := mg) (base := base) (N := ["log", "index", "word", "memory"]) (outer := outer) (H := H) (E := E) (by decide) hr hg
  exact jn_unp S (je_call1 S Ek h_played_log (hr.mono (by decide)) (je_var 0)) (sg_three 1 2 3) (pg_tup S.calm (pgs_cons (pg_name S.nd rfl (by first | exact .inl rfl | exact .inr rfl)) (pgs_cons (pg_name S.nd rfl (by first | exact .inl rfl | exact .inr rfl)) (pgs_cons (pg_name S.nd rfl (by first | exact .inl rfl | exact .inr rfl)) pgs_nil)))) (fun p0 => jn_ret (je_if (jt_cmp (o_eq S) (jv_fz 2) (JE.v (je_str))) (je_non) (je_tup (ja_cons (je_var 1) (ja_cons (je_var 2) (ja_nil))))))
theorem b_is_tuple_of__is_step_forms (M : MF K w mg) (h_is_step_forms : FnD P w K mg base 4 "is_step_forms" 1 (ap1 F_is_step_forms)) (hr : Room 4 (A.deeper (envOfC "is_tuple_of" (defScope (top 18)) s.heap.objs.size f cdv))) (hg : A.guards = some []) (v_thing : D) :
    JN (dc0 K ⟨mg, w⟩ H E) (cxOf (L2.CX P w) P w K mg base ["thing", "is_item", "item"] "is_tuple_of" (defScope (top 18)) f cdv A outer s H E) unEn noEn (env0 [v_thing, (D.fn "is_step_forms")] 1) (defBody (top 18)) (m_is_tuple_of__is_step_forms v_thing) := by
  obtain ⟨S, Ek, po⟩ := ctx_ok (P := P) (w := w) (K := K) (mg := mg) (base := base) (N := ["thing", "is_item", "item"]) (outer := outer) (H := H) (E := E) (by decide) hr hg
  exact jn_ret (je_and (je_isi (n := .tuple) S (jv_fz 0) (by rfl) M.g_isinstance (by rfl) M.g_tuple bt_tuple) (je_one (je_cB (c_all S) (JO.v (jo_lc (own := [("item", 2)]) S (JI.same (ji_fz S (je_var 0))) (sg_name 2) (blkOk_by rfl) (by simp) (fun s H C cl fp S => (pg_name S.nd rfl (by first | exact .inl rfl | exact .inr rfl))) (fun s H C cl fp S v_item => jts_nil) (fun s H C cl fp S v_item => je_callF (j := 4) S Exk.inn (TabF.cons h_is_step_forms (j := 4) (by decide) TabF.nil) (hr.mono (by decide)) 1 (ja_cons (je_var 2) (ja_nil))))) (by rfl) M.g_all bt_all)))
theorem b_log_of (M : MF K w mg) (h_step_names : FnD P w K mg base 2 "step_names" 1 (ap1 F_step_names)) (h_is_tuple_of__is_step_forms : FnD P w K mg base 5 "is_tuple_of" 2 (ap2 G_is_tuple_of__is_step_forms)) (h_done : FnD P w K mg base 6 "done" 2 (ap2 F_done)) (hr : Room 6 (A.deeper (envOfC "log_of" (defScope (top 62)) s.heap.objs.size f cdv))) (hg : A.guards = some []) (v_memory v_steps : D) :
    JN (dc0 K ⟨mg, w⟩ H E) (cxOf (L2.CX P w) P w K mg base ["memory", "steps", "told", "first", "rows", "step", "answer", "name", "place"] "log_of" (defScope (top 62)) f cdv A outer s H E) unEn noEn (env0 [v_memory, v_steps] 7) (defBody (top 62)) (m_log_of v_memory v_steps) := by
  obtain ⟨S, Ek, po⟩ := ctx_ok (P := P) (w := w) (K := K) (mg := mg) (base := base) (N := ["memory", "steps", "told", "first", "rows", "step", "answer", "name", "place"]) (outer := outer) (H := H) (E := E) (by decide) hr hg
  exact jn_env [.fz v_memory, .fz v_steps, .un, .un, .un, .un, .un, .un, .un] rfl (jn_guard (jt_w (jw_or (jt_not (jt_val (je_call2 S Ek h_is_tuple_of__is_step_forms (hr.mono (by decide)) (je_var 1) (je_fnG S M.f_is_step_forms)))) (jw_or1 (jt_cmp (o_gt) (JE.v (je_cB (c_len S) (jv_fz 1) (by rfl) M.g_len bt_len)) (JE.v (je_gint (by rfl) M.i_MOST_ROWS)))))) (jn_env [.fz v_memory, .fz v_steps, .un, .un, .un, .un, .un, .un, .un] rfl (jn_raise S Ek (M.x_Nothing).choose_spec (by rfl))) (jn_env [.fz v_memory, .fz v_steps, .un, .un, .un, .un, .un, .un, .un] rfl (jn_parC3 S 2 3 4 (JE.jx (JO.je (jo_lc (own := [("name", 7), ("place", 8)]) S (JI.same (ji_fz S (je_ix S (jv_fz 0) (JE.v (je_int))))) (sg_two 7 8) (blkOk_by rfl) (by simp) (fun s H C cl fp S => (pg_tup S.calm (pgs_cons (pg_name S.nd rfl (by first | exact .inl rfl | exact .inr rfl)) (pgs_cons (pg_name S.nd rfl (by first | exact .inl rfl | exact .inr rfl)) pgs_nil)))) (fun s H C cl fp S p0 => jts_nil) (fun s H C cl fp S p0 => je_var 7)))) (JE.jx (je_var 0)) (JO.jx (jo_lst (ja_nil))) (fun v_told v_first v_rows => jn_env [.fz v_memory, .fz v_steps, .fz v_told, .fz v_first, .ow 0 v_rows, .un, .un, .un, .un] rfl (jn_guard (jt_not (jt_val (je_cB (c_all S) (JO.v (jo_lc2 (own := [("step", 5), ("name", 7)]) (vs1 := [7]) S (JI.same (ji_fz S (je_var 1))) (sg_name 5) (sg_name 7) (blkOk_by rfl) (by simp) (by simp) (by simp) (fun _ => rfl) (fun s H C cl fp S => (pg_name S.nd rfl (by first | exact .inl rfl | exact .inr rfl))) (fun s H C cl fp S v_step => jts_nil) (fun s H C cl fp S v_step => ji_fz S (je_call1 S Exk.inn h_step_names (hr.mono (by decide)) (je_var 5))) (fun s H C cl fp S => (pg_name S.nd rfl (by first | exact .inl rfl | exact .inr rfl))) (fun s H C cl fp S v_step v_name => jts_nil) (fun s H C cl fp S v_step v_name => je_cmp (o_in S) (jv_fz 7) (jv_fz 2)))) (by rfl) M.g_all bt_all))) (jn_env [.fz v_memory, .fz v_steps, .fz v_told, .fz v_first, .ow 0 v_rows, .un, .un, .un, .un] rfl (jn_raise S Ek (M.x_Nothing).choose_spec (by rfl))) (jn_env [.fz v_memory, .fz v_steps, .fz v_told, .fz v_first, .ow 0 v_rows, .un, .un, .un, .un] rfl (jn_for S po (fun (s : D × D) => [.fz s.1, .fz v_steps, .fz v_told, .fz v_first, .ow 0 s.2, .un, .un, .un, .un]) (v_memory, v_rows) (ji_fz S (je_var 1)) (sg_name 5) (pg_name S.nd rfl (by first | exact .inl rfl | exact .inr rfl)) (fun v_step1 s0 => jn_env [.fz s0.1, .fz v_steps, .fz v_told, .fz v_first, .ow 0 s0.2, .fz v_step1, .un, .un, .un] rfl (jn_set S 6 (je_call2 S Ek h_done (hr.mono (by decide)) (je_var 0) (je_var 5)) (fun v_answer => jn_env [.fz s0.1, .fz v_steps, .fz v_told, .fz v_first, .ow 0 s0.2, .fz v_step1, .fz v_answer, .un, .un] rfl (jn_guard (jt_cmp (o_ne S) (JE.v (je_ix S (jv_fz 6) (JE.v (je_int)))) (JE.v (je_str))) (jn_env [.fz s0.1, .fz v_steps, .fz v_told, .fz v_first, .ow 0 s0.2, .fz v_step1, .fz v_answer, .un, .un] rfl (jn_brk (s0.1, s0.2) (wk_eq (wk_eq (wk_eq (wk_eq (wk_eq (wk_un (wk_un (wk_un (wk_un (wk_nil)))))))))))) (jn_env [.fz s0.1, .fz v_steps, .fz v_told, .fz v_first, .ow 0 s0.2, .fz v_step1, .fz v_answer, .un, .un] rfl (jn_set S 0 (je_ix S (jv_fz 6) (JE.v (je_int))) (fun v_memory1 => jn_env [.fz v_memory1, .fz v_steps, .fz v_told, .fz v_first, .ow 0 s0.2, .fz v_step1, .fz v_answer, .un, .un] rfl (jn_append 4 (je_tup (ja_cons (je_var 5) (ja_cons (je_ix S (jv_fz 0) (JE.v (je_int))) (ja_nil)))) (fun v_rows1 => jn_end (v_memory1, v_rows1) (wk_eq (wk_eq (wk_eq (wk_eq (wk_eq (wk_un (wk_un (wk_un (wk_un (wk_nil))))))))))))))))))) (wk_eq (wk_eq (wk_eq (wk_eq (wk_eq (wk_un (wk_un (wk_un (wk_un (wk_nil)))))))))) (fun s1 => jn_env [.fz s1.1, .fz v_steps, .fz v_told, .fz v_first, .ow 0 s1.2, .un, .un, .un, .un] rfl (jn_ret (je_tup (ja_cons (je_var 3) (ja_cons (je_cT (c_tuple S) (jv_ow 4) (by rfl) M.g_tuple bt_tuple) (ja_nil)))))))))) (pg_tup S.calm (pgs_cons (pg_name S.nd rfl (by first | exact .inl rfl | exact .inr rfl)) (pgs_cons (pg_name S.nd rfl (by first | exact .inl rfl | exact .inr rfl)) (pgs_cons (pg_name S.nd rfl (by first | exact .inl rfl | exact .inr rfl)) pgs_nil)))))))
theorem b_mended (M : MF K w mg) (h_done : FnD P w K mg base 6 "done" 2 (ap2 F_done)) (hr : Room 6 (A.deeper (envOfC "mended" (defScope (top 68)) s.heap.objs.size f cdv))) (hg : A.guards = some []) (v_log : D) :
    JN (dc0 K ⟨mg, w⟩ H E) (cxOf (L2.CX P w) P w K mg base ["log", "memory", "rows", "found", "step", "noted", "answer", "told", "name", "place"] "mended" (defScope (top 68)) f cdv A outer s H E) unEn noEn (env0 [v_log] 9) (defBody (top 68)) (m_mended v_log) := by
  obtain ⟨S, Ek, po⟩ := ctx_ok (P := P) (w := w) (K := K) (mg := mg) (base := base) (N := ["log", "memory", "rows", "found", "step", "noted", "answer", "told", "name", "place"]) (outer := outer) (H := H) (E := E) (by decide) hr hg
  exact jn_env [.fz v_log, .un, .un, .un, .un, .un, .un, .un, .un, .un] rfl (jn_par3 S 1 2 3 (JE.jx (je_ix S (jv_fz 0) (JE.v (je_int)))) (JE.jx (je_ix S (jv_fz 0) (JE.v (je_int)))) (JO.jx (jo_lst (ja_nil))) (fun v_memory v_rows v_found => jn_env [.fz v_log, .fz v_memory, .fz v_rows, .ow 0 v_found, .un, .un, .un, .un, .un, .un] rfl (jn_for S po (fun (s : D × D) => [.fz v_log, .fz s.1, .fz v_rows, .ow 0 s.2, .un, .un, .un, .un, .un, .un]) (v_memory, v_found) (ji_fz S (je_var 2)) (sg_two 4 5) (pg_tup S.calm (pgs_cons (pg_name S.nd rfl (by first | exact .inl rfl | exact .inr rfl)) (pgs_cons (pg_name S.nd rfl (by first | exact .inl rfl | exact .inr rfl)) pgs_nil))) (fun p0 s0 => jn_env [.fz v_log, .fz s0.1, .fz v_rows, .ow 0 s0.2, .fz p0.1, .fz p0.2, .un, .un, .un, .un] rfl (jn_set S 6 (je_call2 S Ek h_done (hr.mono (by decide)) (je_var 1) (je_var 4)) (fun v_answer => jn_env [.fz v_log, .fz s0.1, .fz v_rows, .ow 0 s0.2, .fz p0.1, .fz p0.2, .fz v_answer, .un, .un, .un] rfl (jn_guard (jt_cmp (o_ne S) (JE.v (je_ix S (jv_fz 6) (JE.v (je_int)))) (JE.v (je_str))) (jn_env [.fz v_log, .fz s0.1, .fz v_rows, .ow 0 s0.2, .fz p0.1, .fz p0.2, .fz v_answer, .un, .un, .un] rfl (jn_brk (s0.1, s0.2) (wk_eq (wk_eq (wk_eq (wk_eq (wk_un (wk_un (wk_un (wk_un (wk_un (wk_un (wk_nil))))))))))))) (jn_env [.fz v_log, .fz s0.1, .fz v_rows, .ow 0 s0.2, .fz p0.1, .fz p0.2, .fz v_answer, .un, .un, .un] rfl (jn_set S 1 (je_ix S (jv_fz 6) (JE.v (je_int))) (fun v_memory1 => jn_env [.fz v_log, .fz v_memory1, .fz v_rows, .ow 0 s0.2, .fz p0.1, .fz p0.2, .fz v_answer, .un, .un, .un] rfl (jn_set S 7 (JO.je (jo_cT (c_dict S) (JE.v (je_ix S (jv_fz 1) (JE.v (je_int)))) (by rfl) M.g_dict bt_dict)) (fun v_told => jn_env [.fz v_log, .fz v_memory1, .fz v_rows, .ow 0 s0.2, .fz p0.1, .fz p0.2, .fz v_answer, .fz v_told, .un, .un] rfl (jn_append 3 (je_tup (ja_cons (je_var 4) (ja_cons (je_cT (c_tuple S) (JO.v (jo_lc (own := [("name", 8), ("place", 9)]) S (JI.same (ji_fz S (je_var 5))) (sg_two 8 9) (blkOk_by rfl) (by simp) (fun s H C cl fp S => (pg_tup S.calm (pgs_cons (pg_name S.nd rfl (by first | exact .inl rfl | exact .inr rfl)) (pgs_cons (pg_name S.nd rfl (by first | exact .inl rfl | exact .inr rfl)) pgs_nil)))) (fun s H C cl fp S p1 => jts_nil) (fun s H C cl fp S p1 => je_tup (ja_cons (je_var 8) (ja_cons (je_ix S (jv_fz 7) (jv_fz 8)) (ja_nil)))))) (by rfl) M.g_tuple bt_tuple) (ja_nil)))) (fun v_found1 => jn_end (v_memory1, v_found1) (wk_eq (wk_eq (wk_eq (wk_eq (wk_un (wk_un (wk_un (wk_un (wk_un (wk_un (wk_nil)))))))))))))))))))))) (wk_eq (wk_eq (wk_eq (wk_eq (wk_un (wk_un (wk_un (wk_un (wk_un (wk_un (wk_nil))))))))))) (fun s1 => jn_env [.fz v_log, .fz s1.1, .fz v_rows, .ow 0 s1.2, .un, .un, .un, .un, .un, .un] rfl (jn_ret (je_tup (ja_cons (je_ix S (jv_fz 0) (JE.v (je_int))) (ja_cons (je_cT (c_tuple S) (jv_ow 3) (by rfl) M.g_tuple bt_tuple) (ja_nil)))))))))
theorem b_noted_of (M : MF K w mg)  (hr : Room 0 (A.deeper (envOfC "noted_of" (defScope (top 67)) s.heap.objs.size f cdv))) (hg : A.guards = some []) (v_log v_name : D) :
    JN (dc0 K ⟨mg, w⟩ H E) (cxOf (L2.CX P w) P w K mg base ["log", "name", "found", "index", "step", "noted", "its", "place"] "noted_of" (defScope (top 67)) f cdv A outer s H E) unEn noEn (env0 [v_log, v_name] 6) (defBody (top 67)) (m_noted_of v_log v_name) := by
  obtain ⟨S, Ek, po⟩ := ctx_ok (P := P) (w := w) (K := K) (mg := mg) (base := base) (N := ["log", "name", "found", "index", "step", "noted", "its", "place"]) (outer := outer) (H := H) (E := E) (by decide) hr hg
  exact jn_setO S 2 (jo_lst (ja_nil)) (fun v_found => jn_for S po (fun (s : D) => [.fz v_log, .fz v_name, .ow 0 s, .un, .un, .un, .un, .un]) v_found (ji_enumS S (je_ix S (jv_fz 0) (JE.v (je_int))) (by rfl) M.g_enumerate) (sg_pair (sg_name 3) (sg_two 4 5)) (pg_tup S.calm (pgs_cons (pg_name S.nd rfl (by first | exact .inl rfl | exact .inr rfl)) (pgs_cons (pg_tup S.calm (pgs_cons (pg_name S.nd rfl (by first | exact .inl rfl | exact .inr rfl)) (pgs_cons (pg_name S.nd rfl (by first | exact .inl rfl | exact .inr rfl)) pgs_nil))) pgs_nil))) (fun p0 s0 => jn_extend 2 (JO.mx (jo_lc (own := [("its", 6), ("place", 7)]) S (JI.same (ji_fz S (je_var 5))) (sg_two 6 7) (blkOk_by rfl) (by simp) (fun s H C cl fp S => (pg_tup S.calm (pgs_cons (pg_name S.nd rfl (by first | exact .inl rfl | exact .inr rfl)) (pgs_cons (pg_name S.nd rfl (by first | exact .inl rfl | exact .inr rfl)) pgs_nil)))) (fun s H C cl fp S p1 => jts_one (jt_cmp (o_eq S) (jv_fz 6) (jv_fz 1))) (fun s H C cl fp S p1 => je_tup (ja_cons (je_var 3) (ja_cons (je_var 7) (ja_nil)))))) (fun v_found1 => jn_end v_found1 (wk_eq (wk_eq (wk_eq (wk_un (wk_un (wk_un (wk_un (wk_un (wk_nil))))))))))) (wk_eq (wk_eq (wk_eq (wk_un (wk_un (wk_un (wk_un (wk_un (wk_nil))))))))) (fun s1 => jn_ret (je_cT (c_tuple S) (jv_ow 2) (by rfl) M.g_tuple bt_tuple)))
set_option maxHeartbeats 0 in
theorem b_law (M : MF K w mg) (h__law_alike : FnD P w K mg base 1 "_law_alike" 2 (ap2 F__law_alike)) (h__law_bag : FnO P w K mg base 1 "_law_bag" 1 (ap1 F__law_bag)) (h__law_take : FnI P w K mg base 1 "_law_take" 1 (api1 F__law_take)) (h_noted_of : FnD P w K mg base 1 "noted_of" 2 (ap2 F_noted_of)) (h__law_memory : FnI P w K mg base 2 "_law_memory" 2 (api2 F__law_memory)) (h__law_drawn_step : FnI P w K mg base 3 "_law_drawn_step" 1 (api1 F__law_drawn_step)) (h__law_logged : FnD P w K mg base 3 "_law_logged" 2 (ap2 F__law_logged)) (h__law_played : FnD P w K mg base 3 "_law_played" 1 (ap1 F__law_played)) (h_cut_log : FnD P w K mg base 3 "cut_log" 2 (ap2 F_cut_log)) (h__law_turned : FnI P w K mg base 4 "_law_turned" 1 (api1 F__law_turned)) (h_checked_log : FnD P w K mg base 7 "checked_log" 1 (ap1 F_checked_log)) (h_log_of : FnD P w K mg base 7 "log_of" 2 (ap2 F_log_of)) (h_mended : FnD P w K mg base 7 "mended" 1 (ap1 F_mended)) (h_played_log : FnD P w K mg base 7 "played_log" 1 (ap1 F_played_log)) (h_fault_in : FnD P w K mg base 8 "fault_in" 1 (ap1 F_fault_in)) (hr : Room 8 (A.deeper (envOfC "law" (defScope (top 81)) s.heap.objs.size f cdv))) (hg : A.guards = some []) (v_script : D) :
    JN (dc0 K ⟨mg, w⟩ H E) (cxOf (L2.CX P w) P w K mg base ["script", "bag", "lap", "memory", "steps", "log", "other", "due", "many", "told", "right", "odd", "k", "index", "step", "noted", "row"] "law" (defScope (top 81)) f cdv A outer s H E) unEn noEn (env0 [v_script] 16) (defBody (top 81)) (m_law v_script) := by
  obtain ⟨S, Ek, po⟩ := ctx_ok (P := P) (w := w) (K := K) (mg := mg) (base := base) (N := ["script", "bag", "lap", "memory", "steps", "log", "other", "due", "many", "told", "right", "odd", "k", "index", "step", "noted", "row"]) (outer := outer) (H := H) (E := E) (by decide) hr hg
  exact jn_env [.fz v_script, .un, .un, .un, .un, .un, .un, .un, .un, .un, .un, .un, .un, .un, .un, .un, .un] rfl (jn_setO S 1 (jo_callO S h__law_bag (hr.mono (by decide)) (ja_cons (je_var 0) (ja_nil))) (fun v_bag => jn_env [.fz v_script, .ow 0 v_bag, .un, .un, .un, .un, .un, .un, .un, .un, .un, .un, .un, .un, .un, .un, .un] rfl (jn_for S po (fun (s : D) => [.fz v_script, .ow 0 s, .un, .un, .un, .un, .un, .un, .un, .un, .un, .un, .un, .un, .un, .un, .un]) v_bag (ji_range1 (je_int) (by rfl) M.g_range) (sg_name 2) (pg_name S.nd rfl (by first | exact .inl rfl | exact .inr rfl)) (fun v_lap s0 => jn_env [.fz v_script, .ow 0 s0, .fz v_lap, .un, .un, .un, .un, .un, .un, .un, .un, .un, .un, .un, .un, .un, .un] rfl (jn_setF S 1 3 (jf_callI (i := 1) S h__law_memory (hr.mono (by decide)) (ja_cons (je_tup (ja_cons (je_str) (ja_cons (je_str) (ja_nil)))) (ja_cons (je_int) (ja_nil)))) (fun r0 => jn_env [.fz v_script, .ow 0 r0.2, .fz v_lap, .fz r0.1, .un, .un, .un, .un, .un, .un, .un, .un, .un, .un, .un, .un, .un] rfl (jn_setF S 1 4 (jf_cT1 (i := 1) (c_tuple S) (jfo_lcF (i := 1) (own := [("k", 12)]) S (jif_range1 (i := 1) (jf_callI (i := 1) S h__law_take (hr.mono (by decide)) (ja_cons (je_int) (ja_nil))) (by rfl) M.g_range) (fun _ => sg_name 12) (blkOk_by rfl) (by simp) (by simp) (by rfl) (by rfl) (fun _ => rfl) (fun s H C cl fp S => (pg_name S.nd rfl (by first | exact .inl rfl | exact .inr rfl))) (fun s H C cl fp G S v_k b0 => jf_callI (i := 1) S h__law_drawn_step (hr.mono (by decide)) (ja_cons (je_tup (ja_cons (je_str) (ja_cons (je_str) (ja_nil)))) (ja_nil))) (fun _ _ => rfl)) (by rfl) M.g_tuple bt_tuple) (fun r1 => jn_env [.fz v_script, .ow 0 r1.2, .fz v_lap, .fz r0.1, .fz r1.1, .un, .un, .un, .un, .un, .un, .un, .un, .un, .un, .un, .un] rfl (jn_set S 5 (je_call2 S Ek h_log_of (hr.mono (by decide)) (je_var 3) (je_var 4)) (fun v_log => jn_env [.fz v_script, .ow 0 r1.2, .fz v_lap, .fz r0.1, .fz r1.1, .fz v_log, .un, .un, .un, .un, .un, .un, .un, .un, .un, .un, .un] rfl (jn_guard (jt_w (jw_or (jt_not (jt_val (je_call2 S Ek h__law_alike (hr.mono (by decide)) (je_var 5) (je_tup (ja_cons (je_var 3) (ja_cons (je_call2 S Ek h__law_logged (hr.mono (by decide)) (je_var 3) (je_var 4)) (ja_nil))))))) (jw_or (jt_cmp (o_ne S) (JE.v (je_call1 S Ek h_checked_log (hr.mono (by decide)) (je_var 5))) (jv_fz 5)) (jw_or1 (jt_cmp (o_isNot) (JE.v (je_call1 S Ek h_fault_in (hr.mono (by decide)) (je_var 5))) (JE.v (je_non))))))) (jn_env [.fz v_script, .ow 0 r1.2, .fz v_lap, .fz r0.1, .fz r1.1, .fz v_log, .un, .un, .un, .un, .un, .un, .un, .un, .un, .un, .un] rfl (jn_ret (je_bl))) (jn_env [.fz v_script, .ow 0 r1.2, .fz v_lap, .fz r0.1, .fz r1.1, .fz v_log, .un, .un, .un, .un, .un, .un, .un, .un, .un, .un, .un] rfl (jn_setF S 1 6 (jf_callI (i := 1) S h__law_turned (hr.mono (by decide)) (ja_cons (je_var 5) (ja_nil))) (fun r2 => jn_env [.fz v_script, .ow 0 r2.2, .fz v_lap, .fz r0.1, .fz r1.1, .fz v_log, .fz r2.1, .un, .un, .un, .un, .un, .un, .un, .un, .un, .un] rfl (jn_set S 7 (je_call1 S Ek h__law_played (hr.mono (by decide)) (je_var 6)) (fun v_due => jn_env [.fz v_script, .ow 0 r2.2, .fz v_lap, .fz r0.1, .fz r1.1, .fz v_log, .fz r2.1, .fz v_due, .un, .un, .un, .un, .un, .un, .un, .un, .un] rfl (jn_guard (jt_w (jw_or (jt_not (jt_val (je_call2 S Ek h__law_alike (hr.mono (by decide)) (je_call1 S Ek h_played_log (hr.mono (by decide)) (je_var 6)) (je_var 7)))) (jw_or1 (jt_not (jt_val (je_call2 S Ek h__law_alike (hr.mono (by decide)) (je_call1 S Ek h_fault_in (hr.mono (by decide)) (je_var 6)) (je_if (jt_cmp (o_eq S) (JE.v (je_ix S (jv_fz 7) (JE.v (je_int)))) (JE.v (je_str))) (je_non) (JM.je (jm_sl S (jv_fz 7) (jp_none) (jp_some (je_int))))))))))) (jn_env [.fz v_script, .ow 0 r2.2, .fz v_lap, .fz r0.1, .fz r1.1, .fz v_log, .fz r2.1, .fz v_due, .un, .un, .un, .un, .un, .un, .un, .un, .un] rfl (jn_ret (je_bl))) (jn_env [.fz v_script, .ow 0 r2.2, .fz v_lap, .fz r0.1, .fz r1.1, .fz v_log, .fz r2.1, .fz v_due, .un, .un, .un, .un, .un, .un, .un, .un, .un] rfl (jn_setF S 1 8 (jf_callI (i := 1) S h__law_take (hr.mono (by decide)) (ja_cons (JM.je (jm_op (o_add S) (JE.v (je_cB (c_len S) (JE.v (je_ix S (jv_fz 6) (JE.v (je_int)))) (by rfl) M.g_len bt_len)) (JE.v (je_int)))) (ja_nil))) (fun r3 => jn_env [.fz v_script, .ow 0 r3.2, .fz v_lap, .fz r0.1, .fz r1.1, .fz v_log, .fz r2.1, .fz v_due, .fz r3.1, .un, .un, .un, .un, .un, .un, .un, .un] rfl (jn_guard (jt_not (jt_val (je_call2 S Ek h__law_alike (hr.mono (by decide)) (je_call2 S Ek h_cut_log (hr.mono (by decide)) (je_var 6) (je_var 8)) (je_tup (ja_cons (je_var 3) (ja_cons (JM.je (jm_sl S (JE.v (je_ix S (jv_fz 6) (JE.v (je_int)))) (jp_none) (jp_some (je_var 8)))) (ja_nil))))))) (jn_env [.fz v_script, .ow 0 r3.2, .fz v_lap, .fz r0.1, .fz r1.1, .fz v_log, .fz r2.1, .fz v_due, .fz r3.1, .un, .un, .un, .un, .un, .un, .un, .un] rfl (jn_ret (je_bl))) (jn_env [.fz v_script, .ow 0 r3.2, .fz v_lap, .fz r0.1, .fz r1.1, .fz v_log, .fz r2.1, .fz v_due, .fz r3.1, .un, .un, .un, .un, .un, .un, .un, .un] rfl (jn_set S 9 (je_cT (c_tuple S) (JO.v (jo_lc (own := [("index", 13), ("step", 14), ("noted", 15)]) S (JI.same (ji_enumS S (je_ix S (jv_fz 6) (JE.v (je_int))) (by rfl) M.g_enumerate)) (sg_pair (sg_name 13) (sg_two 14 15)) (blkOk_by rfl) (by simp) (fun s H C cl fp S => (pg_tup S.calm (pgs_cons (pg_name S.nd rfl (by first | exact .inl rfl | exact .inr rfl)) (pgs_cons (pg_tup S.calm (pgs_cons (pg_name S.nd rfl (by first | exact .inl rfl | exact .inr rfl)) (pgs_cons (pg_name S.nd rfl (by first | exact .inl rfl | exact .inr rfl)) pgs_nil))) pgs_nil)))) (fun s H C cl fp S p0 => jts_one (jt_cmp (o_in S) (JE.v (je_str)) (JO.v (jo_cT (c_dict S) (jv_fz 15) (by rfl) M.g_dict bt_dict)))) (fun s H C cl fp S p0 => je_tup (ja_cons (je_var 13) (ja_cons (je_ix S (JO.v (jo_cT (c_dict S) (jv_fz 15) (by rfl) M.g_dict bt_dict)) (JE.v (je_str))) (ja_nil)))))) (by rfl) M.g_tuple bt_tuple) (fun v_told => jn_env [.fz v_script, .ow 0 r3.2, .fz v_lap, .fz r0.1, .fz r1.1, .fz v_log, .fz r2.1, .fz v_due, .fz r3.1, .fz v_told, .un, .un, .un, .un, .un, .un, .un] rfl (jn_guard (jt_not (jt_val (je_call2 S Ek h__law_alike (hr.mono (by decide)) (je_call2 S Ek h_noted_of (hr.mono (by decide)) (je_var 6) (je_str)) (je_var 9)))) (jn_env [.fz v_script, .ow 0 r3.2, .fz v_lap, .fz r0.1, .fz r1.1, .fz v_log, .fz r2.1, .fz v_due, .fz r3.1, .fz v_told, .un, .un, .un, .un, .un, .un, .un] rfl (jn_ret (je_bl))) (jn_env [.fz v_script, .ow 0 r3.2, .fz v_lap, .fz r0.1, .fz r1.1, .fz v_log, .fz r2.1, .fz v_due, .fz r3.1, .fz v_told, .un, .un, .un, .un, .un, .un, .un] rfl (jn_set S 10 (je_call1 S Ek h_mended (hr.mono (by decide)) (je_var 6)) (fun v_right => jn_env [.fz v_script, .ow 0 r3.2, .fz v_lap, .fz r0.1, .fz r1.1, .fz v_log, .fz r2.1, .fz v_due, .fz r3.1, .fz v_told, .fz v_right, .un, .un, .un, .un, .un, .un] rfl (jn_guard (jt_w (jw_or (jt_cmp (o_ne S) (JE.v (je_ix S (JE.v (je_call1 S Ek h__law_played (hr.mono (by decide)) (je_var 10))) (JE.v (je_int)))) (JE.v (je_str))) (jw_or (jt_cmp (o_ne S) (JE.v (je_ix S (jv_fz 10) (JE.v (je_int)))) (jv_fz 3)) (jw_or1 (jt_cmp (o_ne S) (JO.v (jo_lc (own := [("row", 16)]) S (JI.same (ji_fz S (je_ix S (jv_fz 10) (JE.v (je_int))))) (sg_name 16) (blkOk_by rfl) (by simp) (fun s H C cl fp S => (pg_name S.nd rfl (by first | exact .inl rfl | exact .inr rfl))) (fun s H C cl fp S v_row => jts_nil) (fun s H C cl fp S v_row => je_ix S (jv_fz 16) (JE.v (je_int))))) (JM.v (jm_sl S (JO.v (jo_lc (own := [("row", 16)]) S (JI.same (ji_fz S (je_ix S (jv_fz 6) (JE.v (je_int))))) (sg_name 16) (blkOk_by rfl) (by simp) (fun s H C cl fp S => (pg_name S.nd rfl (by first | exact .inl rfl | exact .inr rfl))) (fun s H C cl fp S v_row1 => jts_nil) (fun s H C cl fp S v_row1 => je_ix S (jv_fz 16) (JE.v (je_int))))) (jp_none) (jp_some (je_cB (c_len S) (JE.v (je_ix S (jv_fz 10) (JE.v (je_int)))) (by rfl) M.g_len bt_len))))))))) (jn_env [.fz v_script, .ow 0 r3.2, .fz v_lap, .fz r0.1, .fz r1.1, .fz v_log, .fz r2.1, .fz v_due, .fz r3.1, .fz v_told, .fz v_right, .un, .un, .un, .un, .un, .un] rfl (jn_ret (je_bl))) (jn_env [.fz v_script, .ow 0 r3.2, .fz v_lap, .fz r0.1, .fz r1.1, .fz v_log, .fz r2.1, .fz v_due, .fz r3.1, .fz v_told, .fz v_right, .un, .un, .un, .un, .un, .un] rfl (jn_for S po (fun (s : Unit) => [.fz v_script, .ow 0 r3.2, .fz v_lap, .fz r0.1, .fz r1.1, .fz v_log, .fz r2.1, .fz v_due, .fz r3.1, .fz v_told, .fz v_right, .un, .un, .un, .un, .un, .un]) () (ji_fz S (je_tup (ja_cons (JM.je (jm_op (o_add S) (JE.v (je_cB (c_len S) (JE.v (je_ix S (jv_fz 6) (JE.v (je_int)))) (by rfl) M.g_len bt_len)) (JE.v (je_int)))) (ja_cons (je_neg (JE.v (je_int))) (ja_cons (je_bl) (ja_cons (je_non) (ja_nil))))))) (sg_name 11) (pg_name S.nd rfl (by first | exact .inl rfl | exact .inr rfl)) (fun v_odd s1 => jn_env [.fz v_script, .ow 0 r3.2, .fz v_lap, .fz r0.1, .fz r1.1, .fz v_log, .fz r2.1, .fz v_due, .fz r3.1, .fz v_told, .fz v_right, .fz v_odd, .un, .un, .un, .un, .un] rfl (jn_try S Ek noEn fm_Nothing (M.x_Nothing).choose_spec.gC (by rfl) (hfm_Nothing M) (fun G W pn xe S Ek po => ⟨je_call2 S Ek h_cut_log (hr.mono (by decide)) (je_var 6) (je_var 11), jn_env [.fz v_script, .ow 0 r3.2, .fz v_lap, .fz r0.1, .fz r1.1, .fz v_log, .fz r2.1, .fz v_due, .fz r3.1, .fz v_told, .fz v_right, .fz v_odd, .un, .un, .un, .un, .un] rfl (jn_ret (je_bl))⟩) (fun a oe pn => jn_env [.fz v_script, .ow 0 r3.2, .fz v_lap, .fz r0.1, .fz r1.1, .fz v_log, .fz r2.1, .fz v_due, .fz r3.1, .fz v_told, .fz v_right, .fz v_odd, .un, .un, .un, .un, .un] rfl (jn_ct () (wk_eq (wk_eq (wk_eq (wk_eq (wk_eq (wk_eq (wk_eq (wk_eq (wk_eq (wk_eq (wk_eq (wk_un (wk_un (wk_un (wk_un (wk_un (wk_un (wk_nil)))))))))))))))))))) (fun a => a.elim))) (wk_eq (wk_eq (wk_eq (wk_eq (wk_eq (wk_eq (wk_eq (wk_eq (wk_eq (wk_eq (wk_eq (wk_un (wk_un (wk_un (wk_un (wk_un (wk_un (wk_nil)))))))))))))))))) (fun s2 => jn_end r3.2 (wk_eq (wk_eq (wk_un (wk_un (wk_un (wk_un (wk_un (wk_un (wk_un (wk_un (wk_un (wk_un (wk_un (wk_un (wk_un (wk_un (wk_un (wk_nil))))))))))))))))))))))))))))))))))))))))))))))) (wk_eq (wk_eq (wk_un (wk_un (wk_un (wk_un (wk_un (wk_un (wk_un (wk_un (wk_un (wk_un (wk_un (wk_un (wk_un (wk_un (wk_un (wk_nil)))))))))))))))))) (fun s3 => jn_env [.fz v_script, .ow 0 s3, .un, .un, .un, .un, .un, .un, .un, .un, .un, .un, .un, .un, .un, .un, .un] rfl (jn_ret (je_bl))))))
end DV
end

section
/-! PP1: ways along a function that is not everywhere: rows, rings. -/
namespace PP
section
variable {α : Type} [DecidableEq α] {f : α → Option α}
/-- from p along l to q -/
inductive Way (f : α → Option α) : α → List α → α → Prop
  | nil (p : α) : Way f p [] p
  | cons {p q r : α} {l : List α} : f p = some q → Way f q l r → Way f p (p :: l) r
theorem Way.snoc {p q r : α} {l : List α} (w : Way f p l q) (e : f q = some r) : Way f p (l ++ [q]) r := by
  induction w with
  | nil p => exact .cons e (.nil _)
  | cons e' _ ih => exact .cons e' (ih e)
theorem Way.append {p q r : α} {l m : List α} (w : Way f p l q) (v : Way f q m r) : Way f p (l ++ m) r := by
  induction w with
  | nil p => exact v
  | cons e' _ ih => exact .cons e' (ih v)
theorem Way.split {p r : α} : ∀ {l m : List α}, Way f p (l ++ m) r → ∃ q, Way f p l q ∧ Way f q m r
  | [], m, w => ⟨p, .nil p, w⟩
  | x :: l, m, w => by
    cases w with
    | cons e w' =>
      obtain ⟨q, a, b⟩ := Way.split (l := l) w'
      exact ⟨q, .cons e a, b⟩
theorem Way.head {p r x : α} {l : List α} (w : Way f p (x :: l) r) : p = x := by cases w; rfl
theorem Way.mem {p r x : α} {l : List α} (w : Way f p l r) (h : x ∈ l) : ∃ a b, l = a ++ x :: b ∧ Way f p a x ∧ Way f x (x :: b) r := by
  obtain ⟨a, b, e⟩ := List.append_of_mem h
  subst e
  obtain ⟨q, w1, w2⟩ := w.split
  cases w2.head
  exact ⟨a, b, rfl, w1, w2⟩
theorem Way.def_ {p r x : α} {l : List α} (w : Way f p l r) (h : x ∈ l) : ∃ y, f x = some y := by
  obtain ⟨a, b, _, _, w2⟩ := w.mem h
  cases w2 with
  | cons e _ => exact ⟨_, e⟩
/-- what is closed keeps ways -/
theorem Way.closed {S : α → Prop} (c : ∀ x y, S x → f x = some y → S y) {p r : α} {l : List α} (w : Way f p l r) (h : S p) : (∀ x ∈ l, S x) ∧ S r := by
  induction w with
  | nil p => exact ⟨fun _ hx => (nomatch hx), h⟩
  | cons e _ ih =>
    obtain ⟨a, b⟩ := ih (c _ _ h e)
    exact ⟨fun x hx => (List.mem_cons.mp hx).elim (fun z => z ▸ h) (a x), b⟩
/-- a ring at c -/
def Ring (f : α → Option α) (c : α) (l : List α) : Prop := Way f c l c ∧ l ≠ [] ∧ l.Nodup
theorem Ring.head {c : α} {l : List α} (h : Ring f c l) : ∃ t, l = c :: t := by
  cases l with
  | nil => exact absurd rfl h.2.1
  | cons x t => exact ⟨t, by rw [h.1.head]⟩
/-- a way that ends at c where it comes there first -/
theorem Way.first {c : α} : ∀ {l m : List α} {p : α}, Way f p l c → Way f p m c → c ∉ l → c ∉ m → l = m
  | [], [], _, _, _, _, _ => rfl
  | [], y :: m, p, w, v, _, hm => by
    cases w
    exact absurd (by rw [v.head]; exact List.mem_cons_self) hm
  | x :: l, [], p, w, v, hl, _ => by
    cases v
    exact absurd (by rw [w.head]; exact List.mem_cons_self) hl
  | x :: l, y :: m, p, w, v, hl, hm => by
    cases w with
    | cons e w =>
      cases v with
      | cons e' v =>
        rw [e] at e'; cases e'
        rw [Way.first w v (fun z => hl (List.mem_cons_of_mem _ z)) fun z => hm (List.mem_cons_of_mem _ z)]
theorem Ring.uniq {c : α} {l m : List α} (h : Ring f c l) (k : Ring f c m) : l = m := by
  obtain ⟨t, rfl⟩ := h.head
  obtain ⟨u, rfl⟩ := k.head
  cases h.1 with
  | cons e w =>
    cases k.1 with
    | cons e' v =>
      rw [e] at e'; cases e'
      rw [Way.first w v (List.nodup_cons.mp h.2.2).1 (List.nodup_cons.mp k.2.2).1]
/-- a ring, begun at another of its places -/
theorem Ring.rot {c : α} {a b : List α} {d : α} (h : Ring f c (a ++ d :: b)) : Ring f d (d :: b ++ a) := by
  obtain ⟨w, _, nd⟩ := h
  obtain ⟨q, w1, w2⟩ := w.split
  cases w2.head
  refine ⟨w2.append w1, by simp, ?_⟩
  exact (List.perm_append_comm.nodup_iff).mp nd
theorem Ring.closed {c : α} {l : List α} (h : Ring f c l) {x y : α} (hx : x ∈ l) (e : f x = some y) : y ∈ l := by
  obtain ⟨a, b, rfl⟩ := List.append_of_mem hx
  have r := h.rot
  obtain ⟨w, _, _⟩ := r
  cases w with
  | cons e' w' =>
    rw [e] at e'; cases e'
    have w' : Way f y (b ++ a) x := w'
    cases hb : b ++ a with
    | nil =>
      rw [hb] at w'
      cases w'
      simp
    | cons z t =>
      rw [hb] at w'
      cases w'.head
      have : y ∈ b ++ a := by rw [hb]; exact List.mem_cons_self
      rcases List.mem_append.mp this with q | q <;> simp [q]
/-- the row from p: without a second visit, to a place that has no next or was met -/
def Row (f : α → Option α) (p : α) (l : List α) (r : α) : Prop := Way f p l r ∧ l.Nodup ∧ (f r = none ∨ r ∈ l)
theorem Row.ring {p r : α} {l : List α} (h : Row f p l r) (hr : r ∈ l) : ∃ a b, l = a ++ r :: b ∧ Ring f r (r :: b) := by
  obtain ⟨a, b, e, w1, w2⟩ := h.1.mem hr
  exact ⟨a, b, e, w2, by simp, (List.nodup_append.mp (e ▸ h.2.1)).2.1⟩
theorem Row.uniq {p r r' : α} {l l' : List α} (h : Row f p l r) (k : Row f p l' r') : l = l' ∧ r = r' := by
  have key : ∀ (l l' : List α) (p : α) (m : List α), Way f p l r → Way f p l' r' → (∀ x ∈ m, x ∉ l ∧ x ∉ l') → l.Nodup → l'.Nodup → (f r = none ∨ r ∈ m ++ l) → (f r' = none ∨ r' ∈ m ++ l') → l = l' ∧ r = r' := by
    intro l
    induction l with
    | nil =>
      intro l' p m w v hm _ nd' e e'
      cases w
      cases v with
      | nil => exact ⟨rfl, rfl⟩
      | cons q v =>
        rcases e with e | e
        · rw [e] at q; cases q
        · rw [List.append_nil] at e
          exact absurd List.mem_cons_self (hm _ e).2
    | cons x l ih =>
      intro l' p m w v hm nd nd' e e'
      cases w with
      | cons q w =>
        cases v with
        | nil =>
          rcases e' with e' | e'
          · rw [e'] at q; cases q
          · rw [List.append_nil] at e'
            exact absurd List.mem_cons_self (hm _ e').1
        | cons q' v =>
          rw [q] at q'; cases q'
          have nd1 := List.nodup_cons.mp nd
          have nd2 := List.nodup_cons.mp nd'
          obtain ⟨a, b⟩ := ih _ _ (m ++ [x]) w v (fun y hy => by
            rcases List.mem_append.mp hy with hy | hy
            · exact ⟨fun z => (hm y hy).1 (List.mem_cons_of_mem _ z), fun z => (hm y hy).2 (List.mem_cons_of_mem _ z)⟩
            · rw [List.mem_singleton.mp hy]; exact ⟨nd1.1, nd2.1⟩) nd1.2 nd2.2 (by simpa using e) (by simpa using e')
          exact ⟨by rw [a], b⟩
  exact key l l' p [] h.1 k.1 (by simp) h.2.1 k.2.1 (by simpa using h.2.2) (by simpa using k.2.2)
end
end PP
end

section
/-! PQ1: rows and ways of places along cells, plain. -/
namespace PQ
open PP
abbrev Cs := List (Int × Int)
def nx (cs : Cs) (k : Int) : Option Int := (cs.find? fun p => decide (p.1 = k)).map (·.2)
theorem nx_none {cs : Cs} {k : Int} : nx cs k = none ↔ k ∉ cs.map (·.1) := by
  unfold nx
  rw [Option.map_eq_none_iff, List.find?_eq_none]
  simp only [decide_eq_true_eq, List.mem_map, not_exists, not_and]
theorem nx_mem {cs : Cs} {k v : Int} (h : nx cs k = some v) : k ∈ cs.map (·.1) := by
  refine Decidable.byContradiction fun n => ?_
  rw [nx_none.mpr n] at h; cases h
theorem nx_pair {cs : Cs} {k v : Int} (h : nx cs k = some v) : (k, v) ∈ cs := by
  unfold nx at h
  obtain ⟨p, hp, e⟩ := Option.map_eq_some_iff.mp h
  have := List.find?_some hp
  have hm := List.mem_of_find?_eq_some hp
  simp only [decide_eq_true_eq] at this
  obtain ⟨a, b⟩ := p
  simp only at this e
  rw [← this, ← e]; exact hm
theorem nx_of_mem {cs : Cs} (nd : (cs.map (·.1)).Nodup) {k v : Int} (h : (k, v) ∈ cs) : nx cs k = some v := by
  induction cs with
  | nil => cases h
  | cons p cs ih =>
    rw [List.map_cons, List.nodup_cons] at nd
    unfold nx
    rw [List.find?_cons]
    by_cases e : p.1 = k
    · rw [decide_eq_true e]
      rcases List.mem_cons.mp h with q | q
      · rw [← q]; rfl
      · exact absurd (List.mem_map.mpr ⟨_, q, rfl⟩) (e ▸ nd.1)
    · rw [decide_eq_false e]
      rcases List.mem_cons.mp h with q | q
      · rw [← q] at e; exact absurd rfl e
      · exact ih nd.2 q
theorem nx_some_iff {cs : Cs} {k : Int} : k ∈ cs.map (·.1) ↔ ∃ v, nx cs k = some v := by
  cases h : nx cs k with
  | none => exact ⟨fun z => absurd z (nx_none.mp h), fun ⟨v, e⟩ => nomatch e⟩
  | some v => exact ⟨fun _ => ⟨v, rfl⟩, fun _ => nx_mem h⟩
theorem sub_len {α : Type} [DecidableEq α] : ∀ {l m : List α}, l.Nodup → (∀ x ∈ l, x ∈ m) → l.length ≤ m.length
  | [], m, _, _ => Nat.zero_le _
  | x :: l, m, nd, s => by
    rw [List.nodup_cons] at nd
    have hx := s x List.mem_cons_self
    have := sub_len (m := m.erase x) nd.2 fun y hy => (List.mem_erase_of_ne fun e => nd.1 (by rw [← e]; exact hy)).mpr (s y (List.mem_cons_of_mem _ hy))
    rw [List.length_erase_of_mem hx] at this
    have := List.length_pos_of_mem hx
    rw [List.length_cons]; omega
/-- going on from p, where l is gone through -/
def goOn (f : Int → Option Int) : Nat → List Int → Int → List Int × Int
  | 0, l, p => (l, p)
  | n + 1, l, p => match f p with
    | none => (l, p)
    | some q => if p ∈ l then (l, p) else goOn f n (l ++ [p]) q
theorem goOn_row {f : Int → Option Int} {ks : List Int} (hk : ∀ k v, f k = some v → k ∈ ks) {p0 : Int} : ∀ (n : Nat) (l : List Int) (p : Int), Way f p0 l p → l.Nodup → ks.length < l.length + n → Row f p0 (goOn f n l p).1 (goOn f n l p).2
  | 0, l, p, w, nd, h => by
    have : l.length ≤ ks.length := sub_len nd fun x hx => by obtain ⟨y, e⟩ := w.def_ hx; exact hk _ _ e
    omega
  | n + 1, l, p, w, nd, h => by
    rw [goOn]
    cases e : f p with
    | none => exact ⟨w, nd, .inl e⟩
    | some q =>
      show Row f p0 (if p ∈ l then (l, p) else _).1 (if p ∈ l then (l, p) else _).2
      by_cases hp : p ∈ l
      · rw [if_pos hp]; exact ⟨w, nd, .inr hp⟩
      · rw [if_neg hp]
        refine goOn_row hk n _ _ (w.snoc e) ?_ ?_
        · rw [List.nodup_append]
          refine ⟨nd, by simp, fun a ha b hb => ?_⟩
          rw [List.mem_singleton] at hb
          rintro rfl
          exact hp (hb ▸ ha)
        · rw [List.length_append, List.length_singleton]; omega
def row (cs : Cs) (p : Int) : List Int := (goOn (nx cs) (cs.length + 1) [] p).1
def rend (cs : Cs) (p : Int) : Int := (goOn (nx cs) (cs.length + 1) [] p).2
theorem row_ok (cs : Cs) (p : Int) : Row (nx cs) p (row cs p) (rend cs p) :=
  goOn_row (ks := cs.map (·.1)) (fun _ _ e => nx_mem e) _ _ _ (.nil p) .nil (by simp)
theorem row_len (cs : Cs) (p : Int) : (row cs p).length ≤ cs.length := by
  have h := row_ok cs p
  have := sub_len (m := cs.map (·.1)) h.2.1 fun x hx => by obtain ⟨y, e⟩ := h.1.def_ hx; exact nx_mem e
  rwa [List.length_map] at this
theorem row_eq {cs : Cs} {p r : Int} {l : List Int} (h : Row (nx cs) p l r) : row cs p = l ∧ rend cs p = r := (row_ok cs p).uniq h
/-- all places of the row, that behind it too; and where it comes round -/
def wayL (cs : Cs) (p : Int) : List Int := if rend cs p ∈ row cs p then row cs p else row cs p ++ [rend cs p]
def back (cs : Cs) (p : Int) : Option Int := if rend cs p ∈ row cs p then some (rend cs p) else none
theorem way_nil {f : Int → Option Int} {p r : Int} (w : Way f p [] r) : r = p := by cases w; rfl
theorem row_nil {cs : Cs} {p : Int} (h : row cs p = []) : rend cs p = p := way_nil (h ▸ (row_ok cs p).1)
theorem way_last {f : Int → Option Int} {p r : Int} {l : List Int} {x : Int} (w : Way f p (l ++ [x]) r) : f x = some r := by
  obtain ⟨q, _, w2⟩ := w.split
  cases w2 with
  | cons e w3 => cases w3; exact e
theorem row_mem_cell {cs : Cs} {p x : Int} (h : x ∈ row cs p) : x ∈ cs.map (·.1) := by
  obtain ⟨y, e⟩ := (row_ok cs p).1.def_ h
  exact nx_mem e
/-- a cell is on the row, if on the way -/
theorem mem_wayL {cs : Cs} {p x : Int} (hx : x ∈ cs.map (·.1)) : x ∈ wayL cs p ↔ x ∈ row cs p := by
  unfold wayL
  split
  · rfl
  · rename_i h
    rw [List.mem_append, List.mem_singleton]
    refine ⟨fun z => z.elim id fun e => ?_, .inl⟩
    rcases (row_ok cs p).2.2 with q | q
    · rw [e, ← Decidable.not_not (p := rend cs p ∈ _)] at hx
      exact absurd (nx_none.mp q) hx
    · exact absurd q h
theorem wayL_nodup (cs : Cs) (p : Int) : (wayL cs p).Nodup := by
  have nd := (row_ok cs p).2.1
  unfold wayL
  split
  · exact nd
  · rename_i h
    rw [List.nodup_append]
    refine ⟨nd, by simp, fun a ha b hb => ?_⟩
    rw [List.mem_singleton] at hb
    rintro rfl
    exact h (hb ▸ ha)
/-- the row from a place on the row ends there too -/
theorem row_on {cs : Cs} {p x : Int} (h : x ∈ row cs p) : (rend cs p ∈ row cs p ↔ rend cs x ∈ row cs x) ∧ (rend cs p ∉ row cs p → rend cs x = rend cs p) := by
  have R := row_ok cs p
  obtain ⟨a, b, e, w1, w2⟩ := R.1.mem h
  by_cases hr : rend cs p ∈ row cs p
  · refine ⟨⟨fun _ => ?_, fun _ => hr⟩, fun z => absurd hr z⟩
    have X := row_ok cs x
    rcases X.2.2 with q | q
    · -- the end of x's row has no next: but all that comes from p's row is on p's row
      exfalso
      have cl : ∀ u v, u ∈ row cs p → nx cs u = some v → v ∈ row cs p := by
        intro u v hu huv
        obtain ⟨a', b', e', v1, v2⟩ := R.1.mem hu
        cases v2 with
        | cons e2 v3 =>
          rw [huv] at e2; cases e2
          cases hb' : b' with
          | nil => rw [hb'] at v3; cases v3; exact hr
          | cons y t =>
            rw [hb'] at v3
            rw [e', hb', v3.head]; simp
      have := (X.1.closed (S := fun u => u ∈ row cs p) cl h).2
      exact absurd (row_mem_cell this) (nx_none.mp q)
    · exact q
  · have R2 : Row (nx cs) x (x :: b) (rend cs p) := by
      refine ⟨w2, ?_, ?_⟩
      · have := R.2.1; rw [e, List.nodup_append] at this; exact this.2.1
      · rcases R.2.2 with q | q
        · exact .inl q
        · exact absurd q hr
    obtain ⟨e1, e2⟩ := row_eq R2
    refine ⟨⟨fun z => absurd z hr, fun z => ?_⟩, fun _ => e2⟩
    rw [e1, e2] at z
    rw [e]
    exact List.mem_append.mpr (.inr z)
end PQ
end

section
/-! PQ2: rings, told from their least place on. -/
namespace PQ
open PP
def mn : List Int → Int
  | [] => 0
  | x :: r => r.foldl min x
theorem mn_spec (r : List Int) : ∀ x : Int, (r.foldl min x = x ∨ r.foldl min x ∈ r) ∧ r.foldl min x ≤ x ∧ ∀ y ∈ r, r.foldl min x ≤ y := by
  induction r with
  | nil => intro x; exact ⟨.inl rfl, Int.le_refl _, fun y hy => nomatch hy⟩
  | cons z r ih =>
    intro x
    rw [List.foldl_cons]
    obtain ⟨a, b, c⟩ := ih (min x z)
    have m1 : min x z ≤ x := Int.min_le_left _ _
    have m2 : min x z ≤ z := Int.min_le_right _ _
    refine ⟨?_, by omega, fun y hy => ?_⟩
    · rcases a with a | a
      · rcases (by omega : min x z = x ∨ min x z = z) with e | e
        · left; rw [a, e]
        · right; rw [a, e]; exact List.mem_cons_self
      · right; exact List.mem_cons_of_mem _ a
    · rcases List.mem_cons.mp hy with e | e
      · rw [e]; omega
      · exact c y e
theorem mn_mem {l : List Int} (h : l ≠ []) : mn l ∈ l := by
  cases l with
  | nil => exact absurd rfl h
  | cons x r => rcases (mn_spec r x).1 with e | e
                · show r.foldl min x ∈ _; rw [e]; exact List.mem_cons_self
                · exact List.mem_cons_of_mem _ e
theorem mn_le {l : List Int} {y : Int} (h : y ∈ l) : mn l ≤ y := by
  cases l with
  | nil => cases h
  | cons x r => rcases List.mem_cons.mp h with e | e
                · rw [e]; exact (mn_spec r x).2.1
                · exact (mn_spec r x).2.2 y e
theorem mn_congr {l m : List Int} (h : l ≠ []) (e : ∀ x, x ∈ l ↔ x ∈ m) : mn l = mn m := by
  have a := mn_mem h
  have hm : m ≠ [] := by rintro rfl; exact absurd ((e _).mp a) (by simp)
  have := mn_le ((e _).mp a)
  have := mn_le ((e _).mpr (mn_mem hm))
  omega
def canon (l : List Int) : List Int := l.drop (l.idxOf (mn l)) ++ l.take (l.idxOf (mn l))
theorem split_idx {l : List Int} {x : Int} (h : x ∈ l) : l = l.take (l.idxOf x) ++ x :: l.drop (l.idxOf x + 1) ∧ l.drop (l.idxOf x) = x :: l.drop (l.idxOf x + 1) := by
  have hl := List.idxOf_lt_length_iff.mpr h
  have e : l.drop (l.idxOf x) = x :: l.drop (l.idxOf x + 1) := by
    rw [List.drop_eq_getElem_cons hl]
    congr 1
    exact List.getElem_idxOf hl
  exact ⟨by rw [← e, List.take_append_drop], e⟩
theorem canon_perm (l : List Int) : (canon l).Perm l := by
  unfold canon
  refine List.perm_append_comm.trans ?_
  rw [List.take_append_drop]
theorem canon_mem {l : List Int} {x : Int} : x ∈ canon l ↔ x ∈ l := (canon_perm l).mem_iff
theorem canon_ring {f : Int → Option Int} {c : Int} {l : List Int} (h : Ring f c l) : Ring f (mn l) (canon l) := by
  have hm := mn_mem h.2.1
  obtain ⟨e, d⟩ := split_idx hm
  unfold canon
  rw [d]
  refine Ring.rot (c := c) (a := l.take (l.idxOf (mn l))) (b := l.drop (l.idxOf (mn l) + 1)) ?_
  rw [← e]; exact h
/-- what is on a ring is all that comes of one of it -/
theorem ring_mem {f : Int → Option Int} {c d x : Int} {l m : List Int} (h : Ring f c l) (k : Ring f d m) (hl : x ∈ l) (hm : x ∈ m) : ∀ y, y ∈ l ↔ y ∈ m := by
  have key : ∀ {c d : Int} {l m : List Int}, Ring f c l → Ring f d m → x ∈ l → x ∈ m → ∀ y, y ∈ l → y ∈ m := by
    intro c d l m h k hl hm y hy
    obtain ⟨a, b, rfl⟩ := List.append_of_mem hl
    have r := h.rot
    have cl := r.1.closed (S := fun u => u ∈ m) (fun u v hu e => k.closed hu e) hm
    refine cl.1 y ?_
    rw [List.mem_append] at hy
    rw [List.mem_append]
    exact hy.symm
  exact fun y => ⟨key h k hl hm y, key k h hm hl y⟩
theorem canon_eq {f : Int → Option Int} {c d x : Int} {l m : List Int} (h : Ring f c l) (k : Ring f d m) (hl : x ∈ l) (hm : x ∈ m) : canon l = canon m := by
  have e := ring_mem h k hl hm
  have := canon_ring h
  have k2 := canon_ring k
  rw [← mn_congr h.2.1 e] at k2
  exact this.uniq k2
def ringOf (cs : Cs) (p : Int) : List Int := (row cs p).drop ((row cs p).idxOf (rend cs p))
theorem ringOf_ok {cs : Cs} {p : Int} (h : rend cs p ∈ row cs p) : Ring (nx cs) (rend cs p) (ringOf cs p) ∧ ringOf cs p = rend cs p :: (row cs p).drop ((row cs p).idxOf (rend cs p) + 1) := by
  obtain ⟨e, d⟩ := split_idx h
  refine ⟨?_, d⟩
  have R := row_ok cs p
  unfold ringOf
  rw [d]
  have w := R.1
  rw [e] at w
  obtain ⟨q, _, w2⟩ := w.split
  refine ⟨?_, by simp, ?_⟩
  · cases w2.head
    exact w2
  · have := R.2.1
    rw [e, List.nodup_append] at this
    exact this.2.1
theorem ringOf_sub {cs : Cs} {p x : Int} (h : x ∈ ringOf cs p) : x ∈ row cs p := List.mem_of_mem_drop h
/-- a place on a ring: its own row is that ring -/
theorem on_ring {cs : Cs} {c x : Int} {l : List Int} (h : Ring (nx cs) c l) (hx : x ∈ l) : rend cs x = x ∧ x ∈ row cs x ∧ ringOf cs x = row cs x ∧ Ring (nx cs) x (row cs x) := by
  obtain ⟨a, b, rfl⟩ := List.append_of_mem hx
  have r := h.rot
  obtain ⟨e1, e2⟩ := row_eq (cs := cs) (p := x) (l := x :: b ++ a) (r := x) ⟨r.1, r.2.2, .inr (by simp)⟩
  have hm : x ∈ row cs x := by rw [e1]; simp
  refine ⟨e2, hm, ?_, by rw [e1]; exact r⟩
  unfold ringOf
  rw [e1, e2]
  simp [List.idxOf_cons]
/-- rings, each when it is met first -/
def addNew (L : List (List Int)) (x : List Int) : List (List Int) := if x ∈ L then L else L ++ [x]
def ringStep (cs : Cs) (L : List (List Int)) (p : Int) : List (List Int) := if rend cs p ∈ row cs p then addNew L (canon (ringOf cs p)) else L
def ringsF (cs : Cs) (ks : List Int) : List (List Int) := ks.foldl (ringStep cs) []
/-- L are rings of cs -/
def AreRings (cs : Cs) (L : List (List Int)) : Prop := ∀ l ∈ L, ∃ c m, Ring (nx cs) c m ∧ l = canon m
theorem ringStep_ok {cs : Cs} {L : List (List Int)} {p : Int} (h : AreRings cs L) : AreRings cs (ringStep cs L p) := by
  unfold ringStep addNew
  split
  · rename_i hr
    split
    · exact h
    · intro l hl
      rcases List.mem_append.mp hl with q | q
      · exact h l q
      · rw [List.mem_singleton] at q
        exact ⟨_, _, (ringOf_ok hr).1, q⟩
  · exact h
/-- the program's way: what is seen is what is on the rings found -/
theorem seen_step {cs : Cs} {L : List (List Int)} {S : Int → Prop} (h : AreRings cs L) (hS : ∀ x, S x ↔ ∃ l ∈ L, x ∈ l) {p : Int} :
    (rend cs p ∈ row cs p → S p → canon (ringOf cs p) ∈ L) ∧ (rend cs p ∈ row cs p → (S (rend cs p) ↔ canon (ringOf cs p) ∈ L)) := by
  have key : ∀ x, rend cs p ∈ row cs p → x ∈ ringOf cs p → S x → canon (ringOf cs p) ∈ L := by
    intro x hr hx hs
    obtain ⟨l, hl, hxl⟩ := (hS x).mp hs
    obtain ⟨c, m, hm, e⟩ := h l hl
    rw [e, canon_mem] at hxl
    rw [canon_eq (ringOf_ok hr).1 hm hx hxl, ← e]
    exact hl
  have hd : rend cs p ∈ row cs p → rend cs p ∈ ringOf cs p := fun hr => by rw [(ringOf_ok hr).2]; exact List.mem_cons_self
  refine ⟨fun hr hs => ?_, fun hr => ⟨key _ hr (hd hr), fun hl => (hS _).mpr ⟨_, hl, canon_mem.mpr (hd hr)⟩⟩⟩
  obtain ⟨l, hl, hpl⟩ := (hS p).mp hs
  obtain ⟨c, m, hm, e⟩ := h l hl
  rw [e, canon_mem] at hpl
  obtain ⟨e1, _, e3, _⟩ := on_ring hm hpl
  exact key p hr (by have := hd hr; rwa [e1] at this) hs
end PQ
end

section
/-! PQ3: tidy memories; ascending lists. -/
namespace PQ
open PP
theorem addNew_nil {L : List (List Int)} {x : List Int} : addNew L x ≠ [] := by
  unfold addNew
  split
  · rintro rfl; rename_i h; exact nomatch h
  · simp
theorem ringStep_ne {cs : Cs} {L : List (List Int)} {p : Int} (h : L ≠ []) : ringStep cs L p ≠ [] := by
  unfold ringStep
  split
  · exact addNew_nil
  · exact h
theorem foldl_ring_ne {cs : Cs} : ∀ {ks : List Int} {L : List (List Int)}, L ≠ [] → ks.foldl (ringStep cs) L ≠ []
  | [], L, h => h
  | p :: ks, L, h => foldl_ring_ne (ks := ks) (ringStep_ne h)
theorem ringsF_nil {cs : Cs} : ∀ {ks : List Int}, ringsF cs ks = [] ↔ ∀ p ∈ ks, rend cs p ∉ row cs p
  | [] => ⟨fun _ p hp => (nomatch hp), fun _ => rfl⟩
  | p :: ks => by
    unfold ringsF
    rw [List.foldl_cons]
    by_cases hr : rend cs p ∈ row cs p
    · have : ringStep cs [] p ≠ [] := by unfold ringStep; rw [if_pos hr]; exact addNew_nil
      exact ⟨fun z => absurd z (foldl_ring_ne this), fun z => absurd hr (z p List.mem_cons_self)⟩
    · have : ringStep cs [] p = [] := by unfold ringStep; rw [if_neg hr]
      rw [this]
      have ih := ringsF_nil (cs := cs) (ks := ks)
      unfold ringsF at ih
      rw [ih]
      exact ⟨fun z q hq => (List.mem_cons.mp hq).elim (fun e => e ▸ hr) (z q), fun z q hq => z q (List.mem_cons_of_mem _ hq)⟩
theorem rend_cell {cs : Cs} {p : Int} (h : rend cs p ∈ row cs p) : rend cs p ∈ cs.map (·.1) := row_mem_cell h
/-- where all cells are on rows from these places: no rings, just if none of these comes round -/
theorem tidy_rings {cs : Cs} {ps : List Int} (h : ∀ k ∈ cs.map (·.1), ∃ p ∈ ps, k ∈ row cs p) : ringsF cs (cs.map (·.1)) = [] ↔ ∀ p ∈ ps, rend cs p ∉ row cs p := by
  rw [ringsF_nil]
  constructor
  · intro z p hp hr
    obtain ⟨e1, e2, _, _⟩ := on_ring (ringOf_ok hr).1 (by rw [(ringOf_ok hr).2]; exact List.mem_cons_self)
    exact z _ (rend_cell hr) (by rw [e1]; exact e2)
  · intro z k hk hr
    obtain ⟨p, hp, hkp⟩ := h k hk
    exact z p hp ((row_on hkp).1.mpr hr)
theorem sorted_ext {l m : List Int} (hl : l.Pairwise (· < ·)) (hm : m.Pairwise (· < ·)) (h : ∀ x, x ∈ l ↔ x ∈ m) : l = m := by
  induction l generalizing m with
  | nil =>
    cases m with
    | nil => rfl
    | cons y m => exact absurd ((h y).mpr List.mem_cons_self) (by simp)
  | cons x l ih =>
    cases m with
    | nil => exact absurd ((h x).mp List.mem_cons_self) (by simp)
    | cons y m =>
      rw [List.pairwise_cons] at hl hm
      have e : x = y := by
        rcases List.mem_cons.mp ((h x).mp List.mem_cons_self) with q | q
        · exact q
        · rcases List.mem_cons.mp ((h y).mpr List.mem_cons_self) with q' | q'
          · exact q'.symm
          · have := hm.1 x q; have := hl.1 y q'; omega
      subst e
      congr 1
      refine ih hl.2 hm.2 fun z => ⟨fun hz => ?_, fun hz => ?_⟩
      · rcases List.mem_cons.mp ((h z).mp (List.mem_cons_of_mem _ hz)) with q | q
        · have := hl.1 z hz; omega
        · exact q
      · rcases List.mem_cons.mp ((h z).mpr (List.mem_cons_of_mem _ hz)) with q | q
        · have := hm.1 z hz; omega
        · exact q
theorem pw_le_lt {l : List Int} (h : l.Pairwise (· ≤ ·)) (nd : l.Nodup) : l.Pairwise (· < ·) := by
  induction l with
  | nil => exact .nil
  | cons x l ih =>
    rw [List.pairwise_cons] at h ⊢
    rw [List.nodup_cons] at nd
    exact ⟨fun y hy => by have := h.1 y hy; have : x ≠ y := fun e => nd.1 (e ▸ hy); omega, ih h.2 nd.2⟩
end PQ
end

section
/-! PM1: plain facts about the mirrors' operations. -/
namespace PD
open PySem
open L2 (atI ixN)
open PySem.PyData (strOk)

/-! ### comprehensions, loops -/
theorem compR_ok {α : Type} {f : D → R (Option D)} {g : α → D} {h : α → Option D} : ∀ {l : List α}, (∀ x ∈ l, f (g x) = .ok (h x)) → compR f (l.map g) = .ok (l.filterMap h)
  | [], _ => rfl
  | x :: l, k => by
    rw [List.map_cons, compR, k x List.mem_cons_self, compR_ok fun y hy => k y (List.mem_cons_of_mem _ hy), List.filterMap_cons]
    cases h x <;> simp [nox]
theorem compR_map {α : Type} {f : D → R (Option D)} {g h : α → D} {l : List α} (k : ∀ x ∈ l, f (g x) = .ok (some (h x))) : compR f (l.map g) = .ok (l.map h) := by
  rw [compR_ok (h := fun x => some (h x)) k, List.filterMap_eq_map']
theorem compR_if {α : Type} {f : D → R (Option D)} {g h : α → D} {q : α → Bool} {l : List α} (k : ∀ x ∈ l, f (g x) = .ok (if q x = true then some (h x) else none)) : compR f (l.map g) = .ok ((l.filter q).map h) := by
  rw [compR_ok k]
  congr 1
  induction l with
  | nil => rfl
  | cons x l ih =>
    have ih := ih fun y hy => k y (List.mem_cons_of_mem _ hy)
    rw [List.filterMap_cons, List.filter_cons]
    cases q x <;> simp [ih]
/-! ### what mirrors' signs make of ends -/
@[simp] theorem nox_ok {α : Type} (a : α) : nox (.ok a) = .ok a := rfl
@[simp] theorem nox_bad {α : Type} : nox (.bad : R α) = .bad := rfl
@[simp] theorem lft_ok {α β : Type} (a : Fl Empty β) : (lft (.ok a) : R (Fl α β)) = .ok a.lift := by unfold lft; rw [R.bind_ok]
@[simp] theorem lft_exc {α β : Type} (e : Str) : (lft (.exc e) : R (Fl α β)) = .exc e := by unfold lft; rw [R.bind_exc]
@[simp] theorem lift_rt {α β : Type} (d : D) (b : Option D) : (Fl.lift (.rt d b) : Fl α β) = .rt d b := rfl
@[simp] theorem lift_bk {α β : Type} (b : β) : (Fl.lift (.bk b) : Fl α β) = .bk b := rfl
@[simp] theorem lift_ct {α β : Type} (b : β) : (Fl.lift (.ct b) : Fl α β) = .ct b := rfl
@[simp] theorem go_nx {α α' β : Type} (f : α → R (Fl α' β)) (a : α) : Fl.go f (.nx a) = f a := rfl
@[simp] theorem go_rt {α α' β : Type} (f : α → R (Fl α' β)) (d : D) (b : Option D) : Fl.go f (.rt d b) = .ok (.rt d b) := rfl
@[simp] theorem go_bk {α α' β : Type} (f : α → R (Fl α' β)) (b : β) : Fl.go f (.bk b) = .ok (.bk b) := rfl
@[simp] theorem go_ct {α α' β : Type} (f : α → R (Fl α' β)) (b : β) : Fl.go f (.ct b) = .ok (.ct b) := rfl
@[simp] theorem done_rt (d : D) (b : Option D) : done (.ok (.rt d b)) = .ok d := rfl
@[simp] theorem done_nx (u : Unit) : done (.ok (.nx u)) = .ok .non := rfl
@[simp] theorem done_exc (e : Str) : done (.exc e) = .exc e := rfl
@[simp] theorem asB_bl (b : Bool) : asB (.bl b) = .ok b := rfl
@[simp] theorem asI_int (i : Int) : asI (.int i) = .ok (some i) := rfl
@[simp] theorem un2_tup (a b : D) : un2 (.tup [a, b]) = .ok (a, b) := rfl
@[simp] theorem un3_tup (a b c : D) : un3 (.tup [a, b, c]) = .ok (a, b, c) := rfl
@[simp] theorem eq_int (a b : Int) : dEq (.int a) (.int b) = .ok (a == b) := rfl
@[simp] theorem ne_int (a b : Int) : dNe (.int a) (.int b) = .ok (!(a == b)) := rfl
@[simp] theorem lt_int (a b : Int) : dLt (.int a) (.int b) = .ok (decide (a < b)) := rfl
@[simp] theorem le_int (a b : Int) : dLe (.int a) (.int b) = .ok (decide (a ≤ b)) := rfl
@[simp] theorem gt_int (a b : Int) : dGt (.int a) (.int b) = .ok (decide (b < a)) := rfl
@[simp] theorem ge_int (a b : Int) : dGe (.int a) (.int b) = .ok (decide (b ≤ a)) := rfl
@[simp] theorem add_int (a b : Int) : dAdd (.int a) (.int b) = .ok (.int (a + b)) := rfl
@[simp] theorem sub_int (a b : Int) : dSub (.int a) (.int b) = .ok (.int (a - b)) := rfl
@[simp] theorem neg_int (a : Int) : dNeg (.int a) = .ok (.int (-a)) := rfl
@[simp] theorem int_int (a : Int) : dInt (.int a) = .ok (.int a) := rfl
@[simp] theorem eq_str (a b : Str) : dEq (.str a) (.str b) = .ok (a == b) := rfl
@[simp] theorem ne_str (a b : Str) : dNe (.str a) (.str b) = .ok (!(a == b)) := rfl
@[simp] theorem is_non (d : D) : dIs d .non = .ok d.isNon := rfl
@[simp] theorem isNot_non (d : D) : dIsNot d .non = .ok (!d.isNon) := rfl
@[simp] theorem isNon_non : D.isNon .non = true := rfl
@[simp] theorem isNon_int (i : Int) : D.isNon (.int i) = false := rfl
@[simp] theorem isNon_str (i : Str) : D.isNon (.str i) = false := rfl
@[simp] theorem isNon_tup (i : List D) : D.isNon (.tup i) = false := rfl
theorem atI_nat {α : Type} {l : List α} {n : Nat} {a : α} (h : l[n]? = some a) : atI l (n : Int) = some a := by
  have hl := (List.getElem?_eq_some_iff.mp h).1
  unfold atI ixN
  rw [if_pos (by omega), if_pos (by omega)]
  simpa using h
theorem atI_last {α : Type} (l : List α) (x : α) : atI (l ++ [x]) (-1) = some x := by
  unfold atI ixN
  rw [if_neg (by omega), List.length_append, List.length_singleton, if_pos (by omega)]
  have : ((-1 : Int) + ((l.length + 1 : Nat) : Int)).toNat = l.length := by omega
  rw [this]
  simp
theorem ix_tup {l : List D} {n : Nat} {a : D} (h : l[n]? = some a) : dIx (.tup l) (.int (n : Int)) = .ok a := by
  show (match atI l (n : Int) with | some d => R.ok d | none => .bad) = _
  rw [atI_nat h]
theorem ix_lst {l : List D} {n : Nat} {a : D} (h : l[n]? = some a) : dIx (.lst l) (.int (n : Int)) = .ok a := by
  show (match atI l (n : Int) with | some d => R.ok d | none => .bad) = _
  rw [atI_nat h]
theorem ix_tlast (l : List D) (x : D) : dIx (.tup (l ++ [x])) (.int (-1)) = .ok x := by
  show (match atI (l ++ [x]) (-1) with | some d => R.ok d | none => .bad) = _
  rw [atI_last]
theorem ix_llast (l : List D) (x : D) : dIx (.lst (l ++ [x])) (.int (-1)) = .ok x := by
  show (match atI (l ++ [x]) (-1) with | some d => R.ok d | none => .bad) = _
  rw [atI_last]
@[simp] theorem ix_t0 (a : D) (l : List D) : dIx (.tup (a :: l)) (.int 0) = .ok a := ix_tup (n := 0) rfl
@[simp] theorem ix_t1 (a b : D) (l : List D) : dIx (.tup (a :: b :: l)) (.int 1) = .ok b := ix_tup (n := 1) rfl
@[simp] theorem ix_t2 (a b c : D) (l : List D) : dIx (.tup (a :: b :: c :: l)) (.int 2) = .ok c := ix_tup (n := 2) rfl
@[simp] theorem ix_t3 (a b c d : D) (l : List D) : dIx (.tup (a :: b :: c :: d :: l)) (.int 3) = .ok d := ix_tup (n := 3) rfl
@[simp] theorem ix_l0 (a : D) (l : List D) : dIx (.lst (a :: l)) (.int 0) = .ok a := ix_lst (n := 0) rfl
@[simp] theorem ix_l1 (a b : D) (l : List D) : dIx (.lst (a :: b :: l)) (.int 1) = .ok b := ix_lst (n := 1) rfl
@[simp] theorem ix_l2 (a b c : D) (l : List D) : dIx (.lst (a :: b :: c :: l)) (.int 2) = .ok c := ix_lst (n := 2) rfl
@[simp] theorem ix_l3 (a b c d : D) (l : List D) : dIx (.lst (a :: b :: c :: d :: l)) (.int 3) = .ok d := ix_lst (n := 3) rfl
theorem cut_none_none {α : Type} (l : List α) : cutD l none none = l := by
  unfold cutD
  rw [HT.sIx_none, HT.sIx_none]
  simp
theorem cut_from {α : Type} (l : List α) (n : Nat) : cutD l (some (n : Int)) none = l.drop n := by
  unfold cutD
  rw [HT.sIx_none, HT.sIx_nat, ← List.length_drop, List.take_length]
  by_cases h : n ≤ l.length
  · rw [Nat.min_eq_left h]
  · rw [Nat.min_eq_right (by omega), List.drop_length, List.drop_of_length_le (by omega)]
theorem cut_to {α : Type} (l : List α) (n : Nat) : cutD l none (some (n : Int)) = l.take n := by
  unfold cutD
  rw [HT.sIx_none, HT.sIx_nat, List.drop_zero, Nat.sub_zero]
  by_cases h : n ≤ l.length
  · rw [Nat.min_eq_left h]
  · rw [Nat.min_eq_right (by omega), List.take_length, List.take_of_length_le (by omega)]
@[simp] theorem itr_tup (l : List D) : dIter (.tup l) = .ok l := rfl
@[simp] theorem itr_lst (l : List D) : dIter (.lst l) = .ok l := rfl
@[simp] theorem itr_dct (l : List (D × D)) : dIter (.dct l) = .ok (keysD l) := rfl
@[simp] theorem itrV_tup (l : List D) : dIterV (.tup l) = .ok l := rfl
@[simp] theorem itrV_lst (l : List D) : dIterV (.lst l) = .ok l := rfl
@[simp] theorem tuple_lst (l : List D) : dTuple (.lst l) = .ok (.tup l) := rfl
@[simp] theorem tuple_tup (l : List D) : dTuple (.tup l) = .ok (.tup l) := rfl
@[simp] theorem tuple_dct (l : List (D × D)) : dTuple (.dct l) = .ok (.tup (keysD l)) := rfl
@[simp] theorem list_lst (l : List D) : dListOf (.lst l) = .ok (.lst l) := rfl
@[simp] theorem list_tup (l : List D) : dListOf (.tup l) = .ok (.lst l) := rfl
@[simp] theorem len_lst (l : List D) : dLen (.lst l) = .ok (.int l.length) := rfl
@[simp] theorem len_tup (l : List D) : dLen (.tup l) = .ok (.int l.length) := rfl
@[simp] theorem len_dct (l : List (D × D)) : dLen (.dct l) = .ok (.int l.length) := rfl
@[simp] theorem dct_dct (l : List (D × D)) : dDct (.dct l) = .ok l := rfl
@[simp] theorem lst_lst (l : List D) : dLst (.lst l) = .ok l := rfl
@[simp] theorem seq_lst (l : List D) : dSeq (.lst l) = .ok l := rfl
@[simp] theorem seq_tup (l : List D) : dSeq (.tup l) = .ok l := rfl
@[simp] theorem sl_tup (l : List D) (a b : Option Int) : dSl (.tup l) a b = .ok (.tup (cutD l a b)) := rfl
@[simp] theorem sl_lst (l : List D) (a b : Option Int) : dSl (.lst l) a b = .ok (.lst (cutD l a b)) := rfl
theorem if_ok {α : Type} {c : Bool} {a b : α} : (if c = true then R.ok a else R.ok b) = .ok (if c = true then a else b) := by split <;> rfl
theorem size_ok {n : Nat} (h : n ≤ 16777216) : n ≤ sizeLine := by rw [sizeLine_eq]; exact h
theorem size_lt {n : Nat} (h : n < 16777216) : n < sizeLine := by rw [sizeLine_eq]; exact h
/-- a loop whose state is told by a fold -/
@[simp] theorem forR_nil {σ β : Type} {f : D → σ → R (Fl σ σ)} {s : σ} : (forR f [] s : R (Fl σ β)) = .ok (.nx s) := rfl
theorem forR_cons_nx {σ β : Type} {f : D → σ → R (Fl σ σ)} {s s' : σ} {x : D} {l : List D} (h : f x s = .ok (.nx s')) : (forR f (x :: l) s : R (Fl σ β)) = forR f l s' := by rw [forR, h, R.bind_ok]
theorem forR_cons_ct {σ β : Type} {f : D → σ → R (Fl σ σ)} {s s' : σ} {x : D} {l : List D} (h : f x s = .ok (.ct s')) : (forR f (x :: l) s : R (Fl σ β)) = forR f l s' := by rw [forR, h, R.bind_ok]
theorem forR_cons_rt {σ β : Type} {f : D → σ → R (Fl σ σ)} {s : σ} {x d : D} {b : Option D} {l : List D} (h : f x s = .ok (.rt d b)) : (forR f (x :: l) s : R (Fl σ β)) = .ok (.rt d b) := by rw [forR, h, R.bind_ok]
theorem forR_cons_bk {σ β : Type} {f : D → σ → R (Fl σ σ)} {s s' : σ} {x : D} {l : List D} (h : f x s = .ok (.bk s')) : (forR f (x :: l) s : R (Fl σ β)) = .ok (.nx s') := by rw [forR, h, R.bind_ok]
theorem forR_cons_exc {σ β : Type} {f : D → σ → R (Fl σ σ)} {s : σ} {x : D} {e : Str} {l : List D} (h : f x s = .exc e) : (forR f (x :: l) s : R (Fl σ β)) = .exc e := by rw [forR, h, R.bind_exc]
theorem forR_nx {α σ β τ : Type} {f : D → σ → R (Fl σ σ)} {g : α → D} {em : τ → σ} {st : τ → α → τ} : ∀ {l : List α} {s : τ}, (∀ x ∈ l, ∀ s, f (g x) (em s) = .ok (.nx (em (st s x))) ∨ f (g x) (em s) = .ok (.ct (em (st s x)))) → (forR f (l.map g) (em s) : R (Fl σ β)) = .ok (.nx (em (l.foldl st s)))
  | [], s, _ => rfl
  | x :: l, s, k => by
    rw [List.map_cons]
    rcases k x List.mem_cons_self s with e | e
    · rw [forR_cons_nx e]; exact forR_nx fun y hy => k y (List.mem_cons_of_mem _ hy)
    · rw [forR_cons_ct e]; exact forR_nx fun y hy => k y (List.mem_cons_of_mem _ hy)
/-- the same, while an invariant of the list that is left and the state holds -/
theorem forR_inv {α σ β τ : Type} {f : D → σ → R (Fl σ σ)} {g : α → D} {em : τ → σ} {st : τ → α → τ} (P : List α → τ → Prop) : ∀ {l : List α} {s : τ}, P l s → (∀ x l s, P (x :: l) s → P l (st s x) ∧ (f (g x) (em s) = .ok (.nx (em (st s x))) ∨ f (g x) (em s) = .ok (.ct (em (st s x))))) → (forR f (l.map g) (em s) : R (Fl σ β)) = .ok (.nx (em (l.foldl st s))) ∧ P [] (l.foldl st s)
  | [], s, p, _ => ⟨rfl, p⟩
  | x :: l, s, p, k => by
    obtain ⟨p', e⟩ := k x l s p
    have ih := forR_inv (β := β) P p' k
    refine ⟨?_, ih.2⟩
    rw [List.map_cons]
    rcases e with e | e
    · rw [forR_cons_nx e]; exact ih.1
    · rw [forR_cons_ct e]; exact ih.1
/-- a loop that returns at the first that .. -/
theorem forR_find {α σ β : Type} {f : D → σ → R (Fl σ σ)} {g : α → D} {s : σ} {q : α → Bool} {d : α → D} : ∀ {l : List α}, (∀ x ∈ l, f (g x) s = .ok (if q x = true then .rt (d x) none else .nx s) ∨ f (g x) s = .ok (if q x = true then .rt (d x) none else .ct s)) →
    (forR f (l.map g) s : R (Fl σ β)) = .ok (match l.find? q with | some x => .rt (d x) none | none => .nx s)
  | [], _ => rfl
  | x :: l, k => by
    rw [List.map_cons, List.find?_cons]
    have ih := forR_find (β := β) fun y hy => k y (List.mem_cons_of_mem _ hy)
    cases e : q x with
    | true => rcases k x List.mem_cons_self with h | h <;> rw [e, if_pos rfl] at h <;> rw [forR_cons_rt h]
    | false =>
      rcases k x List.mem_cons_self with h | h <;> rw [e, if_neg (by simp)] at h
      · rw [forR_cons_nx h]; exact ih
      · rw [forR_cons_ct h]; exact ih
/-- a loop that goes on or returns -/
def runE {α τ ρ : Type} (st : τ → α → Except ρ τ) : List α → τ → Except ρ τ
  | [], s => .ok s
  | x :: l, s => match st s x with
    | .ok s' => runE st l s'
    | .error r => .error r
theorem forR_run {α σ β τ : Type} {f : D → σ → R (Fl σ σ)} {g : α → D} {em : τ → σ} {st : τ → α → Except D τ} : ∀ {l : List α} {s : τ},
    (∀ x ∈ l, ∀ s, f (g x) (em s) = .ok (match st s x with | .ok s' => .nx (em s') | .error d => .rt d none)) →
    (forR f (l.map g) (em s) : R (Fl σ β)) = .ok (match runE st l s with | .ok s' => .nx (em s') | .error d => .rt d none)
  | [], s, _ => rfl
  | x :: l, s, k => by
    rw [List.map_cons, runE]
    have h := k x List.mem_cons_self s
    cases e : st s x with
    | ok s' => rw [e] at h; rw [forR_cons_nx h]; exact forR_run fun y hy => k y (List.mem_cons_of_mem _ hy)
    | error d => rw [e] at h; rw [forR_cons_rt h]
/-! ### flat dicts -/
/-- keys of one kind -/
structure KE {κ : Type} [DecidableEq κ] (e : κ → D) : Prop where
  eq : ∀ a b, (e a).keq (e b) = decide (a = b)
  ok : ∀ a, (e a).isK = true
theorem keI : KE D.int := ⟨fun _ _ => rfl, fun _ => rfl⟩
theorem keS : KE D.str := ⟨fun _ _ => rfl, fun _ => rfl⟩
section
variable {κ : Type} [DecidableEq κ] {e : κ → D}
def kvE (e : κ → D) (cs : List (κ × D)) : List (D × D) := cs.map fun p => (e p.1, p.2)
def gE (cs : List (κ × D)) (k : κ) : Option D := (cs.find? fun p => decide (p.1 = k)).map (·.2)
theorem dlook_kvE (h : KE e) (cs : List (κ × D)) (k : κ) : dlook D.keq (kvE e cs) (e k) = gE cs k := by
  unfold dlook kvE gE
  induction cs with
  | nil => rfl
  | cons p cs ih =>
    rw [List.map_cons, List.find?_cons, List.find?_cons, h.eq]
    cases decide (p.1 = k) with
    | true => rfl
    | false => exact ih
def putE (cs : List (κ × D)) (k : κ) (v : D) : List (κ × D) := if (cs.any fun p => decide (p.1 = k)) = true then cs.map fun p => if p.1 = k then (p.1, v) else p else cs ++ [(k, v)]
theorem dput_kvE (h : KE e) (cs : List (κ × D)) (k : κ) (v : D) : dput D.keq (kvE e cs) (e k) v = kvE e (putE cs k v) := by
  unfold dput putE kvE
  rw [List.any_map]
  have e1 : (cs.any ((fun p : D × D => p.1.keq (e k)) ∘ fun p => (e p.1, p.2))) = cs.any fun p => decide (p.1 = k) := by
    congr 1
    funext p
    exact h.eq _ _
  rw [e1]
  split
  · rw [List.map_map, List.map_map]
    refine List.map_congr_left fun p _ => ?_
    simp only [Function.comp, h.eq, decide_eq_true_eq]
    split <;> rfl
  · rw [List.map_append]; rfl
theorem gE_none {cs : List (κ × D)} {k : κ} : gE cs k = none ↔ k ∉ cs.map (·.1) := by
  unfold gE
  rw [Option.map_eq_none_iff, List.find?_eq_none]
  simp only [decide_eq_true_eq, List.mem_map, not_exists, not_and]
theorem gE_some {cs : List (κ × D)} {k : κ} : (gE cs k).isSome = decide (k ∈ cs.map (·.1)) := by
  rw [Bool.eq_iff_iff, decide_eq_true_eq, ← Decidable.not_iff_not, ← gE_none]
  cases gE cs k <;> simp
theorem dIn_dct (h : KE e) (cs : List (κ × D)) (k : κ) : dIn (e k) (.dct (kvE e cs)) = .ok (decide (k ∈ cs.map (·.1))) := by
  show (if (e k).isK = true then R.ok (dlook D.keq (kvE e cs) (e k)).isSome else .bad) = _
  rw [if_pos (h.ok k), dlook_kvE h, gE_some]
theorem dNotIn_dct (h : KE e) (cs : List (κ × D)) (k : κ) : dNotIn (e k) (.dct (kvE e cs)) = .ok (!decide (k ∈ cs.map (·.1))) := by
  unfold dNotIn; rw [dIn_dct h]; rfl
theorem dGetK_dct (h : KE e) (cs : List (κ × D)) (k : κ) : dGetK (kvE e cs) (e k) = .ok (gE cs k) := by
  unfold dGetK; rw [if_pos (h.ok k), dlook_kvE h]
theorem dIx_dct (h : KE e) (cs : List (κ × D)) (k : κ) {d : D} (q : gE cs k = some d) : dIx (.dct (kvE e cs)) (e k) = .ok d := by
  show (if (e k).isK = true then (match dlook D.keq (kvE e cs) (e k) with | some d => R.ok d | none => .bad) else .bad) = _
  rw [if_pos (h.ok k), dlook_kvE h, q]
theorem putE_keys_new {cs : List (κ × D)} {k : κ} {v : D} (n : k ∉ cs.map (·.1)) : putE cs k v = cs ++ [(k, v)] := by
  unfold putE
  rw [if_neg]
  simp only [List.any_eq_true, decide_eq_true_eq, not_exists, not_and]
  exact fun p hp e => n (List.mem_map.mpr ⟨p, hp, e⟩)
theorem mergeE (h : KE e) : ∀ (more cs : List (κ × D)), mergeD (kvE e cs) (kvE e more) = kvE e (more.foldl (fun acc p => putE acc p.1 p.2) cs)
  | [], cs => rfl
  | p :: more, cs => by
    show mergeD (dput D.keq (kvE e cs) (e p.1) p.2) (kvE e more) = _
    rw [dput_kvE h, mergeE h more, List.foldl_cons]
theorem foldl_put_new : ∀ (more cs : List (κ × D)), (more.map (·.1)).Nodup → (∀ k ∈ more.map (·.1), k ∉ cs.map (·.1)) → more.foldl (fun acc p => putE acc p.1 p.2) cs = cs ++ more
  | [], cs, _, _ => by simp
  | p :: more, cs, nd, ds => by
    rw [List.map_cons, List.nodup_cons] at nd
    rw [List.foldl_cons, putE_keys_new (ds _ (by simp)), foldl_put_new more _ nd.2 fun k hk => ?_]
    · simp
    · rw [List.map_append, List.mem_append]
      rintro (z | z)
      · exact ds k (by simp [hk]) z
      · simp at z
        exact nd.1 (z ▸ hk)
theorem pairsOf_kvE (h : KE e) : ∀ cs : List (κ × D), pairsOf (cs.map fun p => .tup [e p.1, p.2]) = some (kvE e cs)
  | [] => rfl
  | p :: cs => by
    rw [List.map_cons, pairsOf, if_pos (h.ok _), pairsOf_kvE h cs]
    rfl
theorem dDictOf_pairs (h : KE e) {cs : List (κ × D)} (nd : (cs.map (·.1)).Nodup) : dDictOf (.tup (cs.map fun p => .tup [e p.1, p.2])) = .ok (.dct (kvE e cs)) := by
  show (match pairsOf _ with | some kvs => R.ok (D.dct (mergeD [] kvs)) | none => .bad) = _
  rw [pairsOf_kvE h]
  show R.ok (D.dct (mergeD (kvE e []) (kvE e cs))) = _
  rw [mergeE h, foldl_put_new cs [] nd (by simp)]
  rfl
theorem keysD_kvE (cs : List (κ × D)) : keysD (kvE e cs) = cs.map fun p => e p.1 := by
  unfold keysD kvE
  rw [List.map_map]; rfl
end
/-- a while loop, by its equations -/
theorem whileR_end {σ β : Type} {t : σ → R Bool} {f : σ → R (Fl σ σ)} {n : Nat} {s : σ} (h : t s = .ok false) : (whileR t f (n + 1) s : R (Fl σ β)) = .ok (.nx s) := by rw [whileR, h, R.bind_ok]; rfl
theorem whileR_nx {σ β : Type} {t : σ → R Bool} {f : σ → R (Fl σ σ)} {n : Nat} {s s' : σ} (h : t s = .ok true) (k : f s = .ok (.nx s')) : (whileR t f (n + 1) s : R (Fl σ β)) = whileR t f n s' := by
  rw [whileR, h, R.bind_ok, if_pos rfl, k, R.bind_ok]
theorem whileR_ct {σ β : Type} {t : σ → R Bool} {f : σ → R (Fl σ σ)} {n : Nat} {s s' : σ} (h : t s = .ok true) (k : f s = .ok (.ct s')) : (whileR t f (n + 1) s : R (Fl σ β)) = whileR t f n s' := by
  rw [whileR, h, R.bind_ok, if_pos rfl, k, R.bind_ok]
theorem whileR_rt {σ β : Type} {t : σ → R Bool} {f : σ → R (Fl σ σ)} {n : Nat} {s : σ} {d : D} {b : Option D} (h : t s = .ok true) (k : f s = .ok (.rt d b)) : (whileR t f (n + 1) s : R (Fl σ β)) = .ok (.rt d b) := by
  rw [whileR, h, R.bind_ok, if_pos rfl, k, R.bind_ok]
theorem whileR_bk {σ β : Type} {t : σ → R Bool} {f : σ → R (Fl σ σ)} {n : Nat} {s s' : σ} (h : t s = .ok true) (k : f s = .ok (.bk s')) : (whileR t f (n + 1) s : R (Fl σ β)) = .ok (.nx s') := by
  rw [whileR, h, R.bind_ok, if_pos rfl, k, R.bind_ok]
/-- a while loop, by an invariant and a measure -/
theorem whileR_spec {σ β τ : Type} {t : σ → R Bool} {f : σ → R (Fl σ σ)} {em : τ → σ} (P : τ → Prop) (mu : τ → Nat)
    (h : ∀ s, P s → t (em s) = .ok false ∨ (t (em s) = .ok true ∧ ((∃ s', f (em s) = .ok (.nx (em s')) ∧ P s' ∧ mu s' < mu s) ∨ ∃ d b, f (em s) = .ok (.rt d b)))) :
    ∀ (n : Nat) (s : τ), P s → mu s < n → ∃ s', P s' ∧ ((t (em s') = .ok false ∧ (whileR t f n (em s) : R (Fl σ β)) = .ok (.nx (em s'))) ∨ ∃ d b, t (em s') = .ok true ∧ f (em s') = .ok (.rt d b) ∧ (whileR t f n (em s) : R (Fl σ β)) = .ok (.rt d b))
  | 0, s, _, hm => absurd hm (Nat.not_lt_zero _)
  | n + 1, s, hp, hm => by
    rcases h s hp with e | ⟨e, ⟨s', ef, hp', hlt⟩ | ⟨d, b, ef⟩⟩
    · exact ⟨s, hp, .inl ⟨e, whileR_end e⟩⟩
    · obtain ⟨s2, hp2, r⟩ := whileR_spec (β := β) P mu h n s' hp' (by omega)
      exact ⟨s2, hp2, by rw [whileR_nx e ef]; exact r⟩
    · exact ⟨s, hp, .inr ⟨d, b, e, ef, whileR_rt e ef⟩⟩
end PD
end

section
/-! PM2: plain data: shown, equal, in order. -/
namespace PD
open PySem
open L2 (atI ixN)
open PySem.PyData (strOk)
open PySem.W (alike alikeAll dataLt)
mutual
/-- small leaves alone -/
def D.sm : D → Bool
  | .non => true
  | .bl _ => true
  | .int i => decide (i.natAbs < 10 ^ 12)
  | .str x => strOk x
  | .tup ds => D.smL ds
  | .lst ds => D.smL ds
  | _ => false
def D.smL : List D → Bool
  | [] => true
  | d :: ds => d.sm && D.smL ds
end
theorem smL_iff : ∀ {ds : List D}, D.smL ds = true ↔ ∀ d ∈ ds, d.sm = true
  | [] => ⟨fun _ d hd => (nomatch hd), fun _ => rfl⟩
  | d :: ds => by
    rw [D.smL, Bool.and_eq_true, smL_iff]
    exact ⟨fun ⟨a, b⟩ x hx => (List.mem_cons.mp hx).elim (fun e => e ▸ a) (b x), fun h => ⟨h d List.mem_cons_self, fun x hx => h x (List.mem_cons_of_mem _ hx)⟩⟩
theorem plL_iff {n : Nat} : ∀ {ds : List D}, D.plL ds n = true ↔ ∀ d ∈ ds, d.pl n = true
  | [] => ⟨fun _ d hd => (nomatch hd), fun _ => by rw [D.plL]⟩
  | d :: ds => by
    rw [D.plL, Bool.and_eq_true, plL_iff]
    exact ⟨fun ⟨a, b⟩ x hx => (List.mem_cons.mp hx).elim (fun e => e ▸ a) (b x), fun h => ⟨h d List.mem_cons_self, fun x hx => h x (List.mem_cons_of_mem _ hx)⟩⟩
theorem log2_small {n : Nat} (h : n < 10 ^ 12) : n.log2 < 40 := by
  by_cases h0 : n = 0
  · subst h0; decide
  · exact (Nat.log2_lt h0).mpr (Nat.lt_of_lt_of_le h (by decide))
mutual
theorem sm_show : ∀ d : D, d.sm = true → d.py.leavesShort 13 = true ∧ d.py.showable = true
  | .non, _ => ⟨rfl, rfl⟩
  | .bl _, _ => ⟨rfl, rfl⟩
  | .int i, h => by
    have h := of_decide_eq_true (show decide (i.natAbs < 10 ^ 12) = true from h)
    exact ⟨decide_eq_true (PyData.shown_int_le h), decide_eq_true (by have := log2_small h; omega)⟩
  | .str x, h => by
    refine ⟨?_, rfl⟩
    have h0 : x.cps.all (· < 0x110000) = true := h
    show (x.cps.toList.all fun c => decide (c < 16 ^ 8)) = true
    rw [List.all_eq_true]
    intro c hc
    have h2 := (Array.all_eq_true_iff_forall_mem.mp h0) c (Array.mem_toList_iff.mp hc)
    have h2 : c < 0x110000 := by simpa using h2
    exact decide_eq_true (Nat.lt_of_lt_of_le h2 (by decide))
  | .tup ds, h => smL_show ds h
  | .lst ds, h => smL_show ds h
theorem smL_show : ∀ ds : List D, D.smL ds = true → PyData.leavesShortAll 13 (D.pyL ds) = true ∧ PyData.showableAll (D.pyL ds) = true
  | [], _ => ⟨rfl, rfl⟩
  | d :: ds, h => by
    rw [D.smL, Bool.and_eq_true] at h
    obtain ⟨a, b⟩ := sm_show d h.1
    obtain ⟨a', b'⟩ := smL_show ds h.2
    exact ⟨by show (_ && _) = true; rw [a, a']; rfl, by show (_ && _) = true; rw [b, b']; rfl⟩
end
/-- data of small leaves, no deeper than n, no heavier than w -/
structure VD (d : D) (n w : Nat) : Prop where
  sm : d.sm = true
  pl : d.pl n = true
  wt : d.py.weight ≤ w
theorem pl_mono {d : D} {n m : Nat} (h0 : n ≤ m) (h1 : d.pl n = true) : d.pl m = true := by
  have key : ∀ (k : Nat), (∀ d : D, d.pl k = true → ∀ m, k ≤ m → d.pl m = true) := by
    intro k
    induction k with
    | zero =>
      intro d h m hm
      cases d with
      | tup ds => exact nomatch h
      | lst ds => exact nomatch h
      | non => rfl
      | bl _ => rfl
      | int _ => rfl
      | str _ => rfl
      | _ => exact nomatch h
    | succ k ih =>
      intro d h m hm
      obtain ⟨m, rfl⟩ : ∃ m', m = m' + 1 := ⟨m - 1, by omega⟩
      cases d with
      | tup ds =>
        have h : D.plL ds k = true := h
        exact plL_iff.mpr fun x hx => ih x (plL_iff.mp h x hx) m (by omega)
      | lst ds =>
        have h : D.plL ds k = true := h
        exact plL_iff.mpr fun x hx => ih x (plL_iff.mp h x hx) m (by omega)
      | non => rfl
      | bl _ => rfl
      | int _ => rfl
      | str _ => rfl
      | _ => exact nomatch h
  exact key _ _ h1 _ h0
theorem VD.mono {d : D} {n w n' w' : Nat} (h : VD d n w) (hn : n ≤ n') (hw : w ≤ w') : VD d n' w' := ⟨h.sm, pl_mono hn h.pl, Nat.le_trans h.wt hw⟩
theorem VD.non : VD .non 0 0 := ⟨rfl, rfl, Nat.le_refl _⟩
theorem VD.bl {b : Bool} : VD (.bl b) 0 0 := ⟨rfl, rfl, Nat.le_refl _⟩
theorem VD.int {i : Int} (h : i.natAbs < 10 ^ 12) : VD (.int i) 0 41 := by
  refine ⟨decide_eq_true h, rfl, ?_⟩
  show (if i == 0 then 0 else i.natAbs.log2 + 1) ≤ 41
  have := log2_small h
  split <;> omega
theorem VD.str {x : Str} (h : strOk x = true) : VD (.str x) 0 x.cps.size := ⟨h, rfl, Nat.le_refl _⟩
theorem weightAll_le {w : Nat} : ∀ {ds : List D}, (∀ d ∈ ds, d.py.weight ≤ w) → PyData.weightAll (D.pyL ds) ≤ ds.length * (w + 1)
  | [], _ => by show (0 : Nat) ≤ _; omega
  | d :: ds, h => by
    have a := h d List.mem_cons_self
    have b := weightAll_le (ds := ds) fun x hx => h x (List.mem_cons_of_mem _ hx)
    show d.py.weight + 1 + PyData.weightAll (D.pyL ds) ≤ _
    rw [List.length_cons, Nat.succ_mul]
    omega
theorem VD.tup {ds : List D} {n w : Nat} (h : ∀ d ∈ ds, VD d n w) : VD (.tup ds) (n + 1) (ds.length * (w + 1)) :=
  ⟨smL_iff.mpr fun d hd => (h d hd).sm, plL_iff.mpr fun d hd => (h d hd).pl, weightAll_le fun d hd => (h d hd).wt⟩
theorem VD.lst {ds : List D} {n w : Nat} (h : ∀ d ∈ ds, VD d n w) : VD (.lst ds) (n + 1) (ds.length * (w + 1)) :=
  ⟨smL_iff.mpr fun d hd => (h d hd).sm, plL_iff.mpr fun d hd => (h d hd).pl, weightAll_le fun d hd => (h d hd).wt⟩
theorem VD.shows {d : D} {n w : Nat} (h : VD d n w) (hn : n ≤ 60) (hw : w ≤ 1048576) : d.shows = true := by
  obtain ⟨a, b⟩ := sm_show d h.sm
  unfold D.shows
  rw [pl_mono hn h.pl, b, decide_eq_true (PyData.shown_fits (by decide) (by decide) a (Nat.le_trans h.wt (Nat.le_trans hw (by decide))))]
  rfl
theorem VD.shown {d : D} {n w : Nat} (h : VD d n w) (hn : n ≤ 60) (hw : w ≤ 1048576) : dShown d = .ok d.py.shown := by
  unfold dShown; rw [if_pos (h.shows hn hw)]
/-! ### equal -/
mutual
theorem eqv_refl : ∀ (d : D) (n : Nat), d.pl n = true → d.eqv d = true
  | .non, _, _ => rfl
  | .bl b, _, _ => by show (b == b) = true; simp
  | .int i, _, _ => by show (i == i) = true; simp
  | .str x, _, _ => by show (x == x) = true; rw [str_beq]; exact decide_eq_true rfl
  | .tup ds, n + 1, h => eqvL_refl ds n h
  | .lst ds, n + 1, h => eqvL_refl ds n h
theorem eqvL_refl : ∀ (ds : List D) (n : Nat), D.plL ds n = true → D.eqvL ds ds = true
  | [], _, _ => rfl
  | d :: ds, n, h => by
    rw [D.plL, Bool.and_eq_true] at h
    show (_ && _) = true
    rw [eqv_refl d n h.1, eqvL_refl ds n h.2]; rfl
end
mutual
/-- no truths among it: == is = -/
def D.nb : D → Bool
  | .bl _ => false
  | .tup ds => D.nbL ds
  | .lst ds => D.nbL ds
  | _ => true
def D.nbL : List D → Bool
  | [] => true
  | d :: ds => d.nb && D.nbL ds
end
theorem nbL_iff : ∀ {ds : List D}, D.nbL ds = true ↔ ∀ d ∈ ds, d.nb = true
  | [] => ⟨fun _ d hd => (nomatch hd), fun _ => rfl⟩
  | d :: ds => by
    rw [D.nbL, Bool.and_eq_true, nbL_iff]
    exact ⟨fun ⟨a, b⟩ x hx => (List.mem_cons.mp hx).elim (fun e => e ▸ a) (b x), fun h => ⟨h d List.mem_cons_self, fun x hx => h x (List.mem_cons_of_mem _ hx)⟩⟩
mutual
theorem eqv_eq : ∀ (d e : D), d.nb = true → e.nb = true → d.eqv e = true → d = e
  | .non, e, _, _, h => by cases e <;> first | rfl | exact nomatch h
  | .bl b, e, hd, _, _ => nomatch hd
  | .int i, e, _, he, h => by
    cases e with
    | int j => have : (i == j) = true := h; rw [eq_of_beq this]
    | bl b => exact nomatch he
    | _ => exact nomatch h
  | .str x, e, _, _, h => by
    cases e with
    | str y => have : (x == y) = true := h; rw [str_beq] at this; rw [of_decide_eq_true this]
    | _ => exact nomatch h
  | .tup ds, e, hd, he, h => by
    cases e with
    | tup es => rw [eqvL_eq ds es hd he h]
    | _ => exact nomatch h
  | .lst ds, e, hd, he, h => by
    cases e with
    | lst es => rw [eqvL_eq ds es hd he h]
    | _ => exact nomatch h
  | .dct _, e, _, _, h => nomatch h
  | .dctT _, e, _, _, h => nomatch h
  | .fn _, e, _, _, h => nomatch h
  | .scr _, e, _, _, h => nomatch h
theorem eqvL_eq : ∀ (ds es : List D), D.nbL ds = true → D.nbL es = true → D.eqvL ds es = true → ds = es
  | [], es, _, _, h => by cases es with
    | nil => rfl
    | cons _ _ => exact nomatch h
  | d :: ds, es, hd, he, h => by
    cases es with
    | nil => exact nomatch h
    | cons e es =>
      rw [D.nbL, Bool.and_eq_true] at hd he
      have h : (d.eqv e && D.eqvL ds es) = true := h
      rw [Bool.and_eq_true] at h
      rw [eqv_eq d e hd.1 he.1 h.1, eqvL_eq ds es hd.2 he.2 h.2]
end
theorem eqv_dec {α : Type} [DecidableEq α] {f : α → D} (inj : ∀ a b, f a = f b → a = b) (n : Nat) (pl : ∀ a, (f a).pl n = true) (nb : ∀ a, (f a).nb = true) (a b : α) : (f a).eqv (f b) = decide (a = b) := by
  by_cases h : a = b
  · subst h; rw [eqv_refl _ n (pl a), decide_eq_true rfl]
  · rw [decide_eq_false h]
    cases e : (f a).eqv (f b) with
    | false => rfl
    | true => exact absurd (inj _ _ (eqv_eq _ _ (nb a) (nb b) e)) h
theorem dEq_self {d : D} (h : d.pl 60 = true) : dEq d d = .ok true := by
  unfold dEq; rw [if_pos ⟨h, h⟩, eqv_refl d 60 h]
theorem dEq_of {d e : D} (h : d.pl 60 = true) (k : e.pl 60 = true) : dEq d e = .ok (d.eqv e) := by unfold dEq; rw [if_pos ⟨h, k⟩]
theorem dNe_of {d e : D} (h : d.pl 60 = true) (k : e.pl 60 = true) : dNe d e = .ok (!d.eqv e) := by unfold dNe; rw [if_pos ⟨h, k⟩]
/-! ### lists of one kind -/
/-- an encoding whose == is = -/
structure EE {α : Type} [DecidableEq α] (f : α → D) (n : Nat) : Prop where
  pl : ∀ a, (f a).pl n = true
  eqv : ∀ a b, (f a).eqv (f b) = decide (a = b)
theorem eeI : EE D.int 0 := ⟨fun _ => rfl, fun a b => by show (a == b) = _; rw [Bool.eq_iff_iff]; simp⟩
theorem eeS : EE D.str 0 := ⟨fun _ => rfl, fun a b => str_beq⟩
section
variable {α : Type} [DecidableEq α] {f : α → D} {n : Nat}
theorem EE.plL (h : EE f n) (l : List α) {m : Nat} (hm : n ≤ m) : D.plL (l.map f) m = true :=
  plL_iff.mpr fun d hd => by obtain ⟨a, _, rfl⟩ := List.mem_map.mp hd; exact pl_mono hm (h.pl a)
theorem EE.any (h : EE f n) (l : List α) (a : α) : ((l.map f).any fun z => z.eqv (f a)) = decide (a ∈ l) := by
  rw [List.any_map, Bool.eq_iff_iff, List.any_eq_true, decide_eq_true_eq]
  simp only [Function.comp, h.eqv, decide_eq_true_eq]
  exact ⟨fun ⟨x, hx, e⟩ => e ▸ hx, fun hx => ⟨a, hx, rfl⟩⟩
theorem dIn_tup (h : EE f n) (hn : n ≤ 60) (l : List α) (a : α) : dIn (f a) (.tup (l.map f)) = .ok (decide (a ∈ l)) := by
  show (if (f a).pl 60 = true ∧ D.plL (l.map f) 60 = true then R.ok ((l.map f).any fun z => z.eqv (f a)) else .bad) = _
  rw [if_pos ⟨pl_mono hn (h.pl a), h.plL l hn⟩, h.any]
theorem dIn_lst (h : EE f n) (hn : n ≤ 60) (l : List α) (a : α) : dIn (f a) (.lst (l.map f)) = .ok (decide (a ∈ l)) := by
  show (if (f a).pl 60 = true ∧ D.plL (l.map f) 60 = true then R.ok ((l.map f).any fun z => z.eqv (f a)) else .bad) = _
  rw [if_pos ⟨pl_mono hn (h.pl a), h.plL l hn⟩, h.any]
theorem dNotIn_tup (h : EE f n) (hn : n ≤ 60) (l : List α) (a : α) : dNotIn (f a) (.tup (l.map f)) = .ok (!decide (a ∈ l)) := by
  unfold dNotIn; rw [dIn_tup h hn]; rfl
theorem dNotIn_lst (h : EE f n) (hn : n ≤ 60) (l : List α) (a : α) : dNotIn (f a) (.lst (l.map f)) = .ok (!decide (a ∈ l)) := by
  unfold dNotIn; rw [dIn_lst h hn]; rfl
theorem dIndexL_of (h : EE f n) (hn : n ≤ 59) {l : List α} {a : α} (m : a ∈ l) : dIndexL (l.map f) (f a) = .ok (.int (l.idxOf a : Nat)) := by
  unfold dIndexL
  rw [if_pos ⟨h.plL l hn, pl_mono (by omega) (h.pl a)⟩, List.findIdx?_map]
  have : (l.findIdx? ((fun z => z.eqv (f a)) ∘ f)) = some (l.idxOf a) := by
    have e : ((fun z => z.eqv (f a)) ∘ f) = fun x => x == a := by
      funext x
      show (f x).eqv (f a) = _
      rw [h.eqv, Bool.eq_iff_iff]; simp
    rw [e]
    have h1 := List.idxOf_lt_length_iff.mpr m
    rw [List.findIdx?_eq_some_iff_getElem]
    refine ⟨h1, ?_, fun j hj => ?_⟩
    · rw [List.getElem_idxOf h1]; simp
    · have := List.not_of_lt_findIdx (p := fun x => x == a) (xs := l) hj
      simpa using this
  rw [this]
theorem eqv_tup (h : EE f n) (l m : List α) : (D.tup (l.map f)).eqv (.tup (m.map f)) = decide (l = m) := by
  show D.eqvL _ _ = _
  induction l generalizing m with
  | nil => cases m with
    | nil => rfl
    | cons _ _ => rfl
  | cons a l ih =>
    cases m with
    | nil => rfl
    | cons b m =>
      show ((f a).eqv (f b) && D.eqvL (l.map f) (m.map f)) = _
      rw [ih, h.eqv, Bool.eq_iff_iff]; simp
theorem EE.plT (h : EE f n) (l : List α) {m : Nat} (hm : n + 1 ≤ m) : (D.tup (l.map f)).pl m = true := by
  obtain ⟨m, rfl⟩ : ∃ m', m = m' + 1 := ⟨m - 1, by omega⟩
  exact h.plL l (by omega : n ≤ m)
theorem dEq_tupE (h : EE f n) (hn : n ≤ 59) (l m : List α) : dEq (.tup (l.map f)) (.tup (m.map f)) = .ok (decide (l = m)) := by
  rw [dEq_of (h.plT l (by omega)) (h.plT m (by omega)), eqv_tup h]
theorem dNe_tupE (h : EE f n) (hn : n ≤ 59) (l m : List α) : dNe (.tup (l.map f)) (.tup (m.map f)) = .ok (!decide (l = m)) := by
  rw [dNe_of (h.plT l (by omega)) (h.plT m (by omega)), eqv_tup h]
theorem dEq_tup0 (h : EE f n) (hn : n ≤ 59) (l : List α) : dEq (.tup (l.map f)) (.tup []) = .ok (decide (l = [])) := dEq_tupE h hn l []
theorem dNe_tup0 (h : EE f n) (hn : n ≤ 59) (l : List α) : dNe (.tup (l.map f)) (.tup []) = .ok (!decide (l = [])) := dNe_tupE h hn l []
end
/-! ### dict comprehensions -/
theorem dcompR_put {α κ : Type} [DecidableEq κ] {e : κ → D} (h : KE e) {f : D → R (Option (D × D))} {g : α → D} {k : α → κ} {v : α → D} : ∀ {l : List α} {acc : List (κ × D)}, (∀ x ∈ l, f (g x) = .ok (some (e (k x), v x))) →
    dcompR f (l.map g) (kvE e acc) = .ok (kvE e (l.foldl (fun acc x => putE acc (k x) (v x)) acc))
  | [], acc, _ => rfl
  | x :: l, acc, q => by
    rw [List.map_cons, dcompR, q x List.mem_cons_self, nox_ok, R.bind_ok]
    show (if (e (k x)).isK = true then dcompR f (l.map g) (dput D.keq (kvE e acc) (e (k x)) (v x)) else .bad) = _
    rw [if_pos (h.ok _), dput_kvE h, dcompR_put h fun y hy => q y (List.mem_cons_of_mem _ hy), List.foldl_cons]
theorem dcompR_new {α κ : Type} [DecidableEq κ] {e : κ → D} (h : KE e) {f : D → R (Option (D × D))} {g : α → D} {k : α → κ} {v : α → D} {l : List α} (q : ∀ x ∈ l, f (g x) = .ok (some (e (k x), v x))) (nd : (l.map k).Nodup) :
    dcompR f (l.map g) [] = .ok (kvE e (l.map fun x => (k x, v x))) := by
  rw [show ([] : List (D × D)) = kvE e [] from rfl, dcompR_put h q]
  have : l.foldl (fun acc x => putE acc (k x) (v x)) [] = (l.map fun x => (k x, v x)).foldl (fun acc p => putE acc p.1 p.2) [] := by rw [List.foldl_map]
  rw [this, foldl_put_new _ [] (by rw [List.map_map]; exact nd) (by simp)]
  rfl
theorem updL_kvE {κ : Type} [DecidableEq κ] {e : κ → D} (h : KE e) {cs more : List (κ × D)} (hz : cs.length + more.length ≤ 16777216) : updL (kvE e cs) (.dct (kvE e more)) = .ok (.dct (kvE e (more.foldl (fun acc p => putE acc p.1 p.2) cs))) := by
  show (if (kvE e cs).length + (kvE e more).length ≤ sizeLine then R.ok (D.dct (mergeD (kvE e cs) (kvE e more))) else .bad) = _
  rw [if_pos (size_ok (by unfold kvE; rw [List.length_map, List.length_map]; exact hz)), mergeE h]
/-! ### comprehensions that change an outer thing -/
theorem compF_ok {α β : Type} {f : D → D → R (D × D)} {g : α → D} {e : α → β → D} (P : D → Prop) (Q : α → β → Prop) (h : ∀ x b, P b → ∃ y b', f (g x) b = .ok (e x y, b') ∧ P b' ∧ Q x y) : ∀ (l : List α) (b : D), P b →
    ∃ (ps : List (α × β)) (b' : D), ps.map (·.1) = l ∧ compF f (l.map g) b = .ok (ps.map (fun p => e p.1 p.2), b') ∧ P b' ∧ ∀ p ∈ ps, Q p.1 p.2
  | [], b, hb => ⟨[], b, rfl, rfl, hb, fun p hp => (nomatch hp)⟩
  | x :: l, b, hb => by
    obtain ⟨y, b1, e1, h1, q1⟩ := h x b hb
    obtain ⟨ps, b2, m, e2, h2, q2⟩ := compF_ok P Q h l b1 h1
    refine ⟨(x, y) :: ps, b2, by rw [List.map_cons, m], ?_, h2, fun p hp => (List.mem_cons.mp hp).elim (fun z => z ▸ q1) (q2 p)⟩
    rw [List.map_cons, compF, e1, nox_ok, R.bind_ok]
    show ((compF f (l.map g) b1).bind _) = _
    rw [e2, R.bind_ok]
    rfl
theorem dRange_ok {a b : Int} (h1 : 0 ≤ a) (h0 : 0 ≤ b) (h3 : a ≤ 1000) (h4 : b ≤ 1000) : dRange a b = .ok ((List.range (b - a).toNat).map fun i => .int (a + (i : Nat))) := by
  unfold dRange
  have e : (2 : Int) ^ 62 = 4611686018427387904 := by decide
  rw [e]
  exact if_pos ⟨by omega, by omega, by omega, by omega, size_ok (by omega)⟩
theorem rng1 {n : Nat} (h : n ≤ 1000) : dRng1 (.int (n : Int)) = .ok ((List.range n).map fun i => .int ((0 : Int) + (i : Nat))) := by
  have := dRange_ok (a := 0) (b := (n : Int)) (by omega) (by omega) (by omega) (by omega)
  rw [Int.sub_zero, Int.toNat_natCast] at this
  exact this
theorem rng2 {a b : Int} (h1 : 0 ≤ a) (h0 : 0 ≤ b) (h3 : a ≤ 1000) (h4 : b ≤ 1000) : dRng2 (.int a) (.int b) = .ok ((List.range (b - a).toNat).map fun i => .int (a + (i : Nat))) := dRange_ok h1 h0 h3 h4
/-! ### least, greatest -/
theorem minI_mn {l : List Int} (h : l ≠ []) : minI l = some (PQ.mn l) := by
  cases l with
  | nil => exact absurd rfl h
  | cons x r => rfl
theorem dMin_ints {l : List Int} (h : l ≠ []) : dMin (.lst (l.map .int)) = .ok (.int (PQ.mn l)) := by
  show (match D.intsOf (l.map D.int) with | some bs => (match minI bs with | some k => R.ok (D.int k) | none => .bad) | none => .bad) = _
  rw [D.intsOf_map]
  show (match minI l with | some k => R.ok (D.int k) | none => .bad) = _
  rw [minI_mn h]
/-! ### in order -/
theorem leD_int (a b : Int) : D.leD (.int a) (.int b) = decide (a ≤ b) := by
  show (!dataLt (.int b) (.int a)) = _
  rw [PySem.W.dataLt_int, Bool.eq_iff_iff]
  simp
theorem sortOk_ints (l : List Int) : sortOk (l.map .int) = true := by
  unfold sortOk
  rw [eeI.plL l (by decide : (0 : Nat) ≤ 59)]
  have h1 : ((l.map D.int).all fun x => (l.map D.int).all fun y => alike x.py y.py) = true := by
    rw [List.all_eq_true]; intro x hx; rw [List.all_eq_true]; intro y hy
    obtain ⟨a, _, rfl⟩ := List.mem_map.mp hx
    obtain ⟨b, _, rfl⟩ := List.mem_map.mp hy
    rfl
  have h2 : (l.map D.int).all D.atmB = true := by
    rw [List.all_eq_true]; intro x hx
    obtain ⟨a, _, rfl⟩ := List.mem_map.mp hx
    rfl
  rw [h1, h2]
  simp
def sortI (l : List Int) : List Int := l.mergeSort fun a b => decide (a ≤ b)
theorem dSortL_ints (l : List Int) : dSortL (l.map D.int) = .ok (.lst ((sortI l).map D.int)) := by
  unfold dSortL sortI
  rw [if_pos (sortOk_ints l)]
  congr 2
  exact (List.map_mergeSort fun a _ b _ => (leD_int a b).symm).symm
theorem sortI_mem {l : List Int} {x : Int} : x ∈ sortI l ↔ x ∈ l := (List.mergeSort_perm l _).mem_iff
theorem sortI_nodup {l : List Int} (h : l.Nodup) : (sortI l).Nodup := (List.mergeSort_perm l _).nodup_iff.mpr h
theorem sortI_le (l : List Int) : (sortI l).Pairwise (· ≤ ·) := by
  have := List.pairwise_mergeSort (le := fun a b : Int => decide (a ≤ b)) (by intro a b c; simp; omega) (by intro a b; simp; omega) l
  exact this.imp fun h => of_decide_eq_true h
theorem sortI_lt {l : List Int} (h : l.Nodup) : (sortI l).Pairwise (· < ·) := PQ.pw_le_lt (sortI_le l) (sortI_nodup h)
theorem sortI_self {l : List Int} (h : l.Pairwise (· < ·)) : sortI l = l := by
  have nd : l.Nodup := h.imp fun h => by omega
  exact PQ.sorted_ext (sortI_lt nd) h fun x => sortI_mem
end PD
end

section
/-! PM3: typed tables of whole numbers: dicts, memories, sorted items. -/
namespace PM
open PySem PD PP PQ
open PySem.W (alike dataLt)
section
variable {κ : Type} [DecidableEq κ] {e : κ → D}
/-- keys that are sorted -/
structure KO (e : κ → D) : Prop extends KE e where
  pl : ∀ k n, (e k).pl n = true
  al : ∀ a b, alike (e a).py (e b).py = true
  atm : ∀ a, (e a).atmB = true
  lp : ∀ a b v w, a ≠ b → D.leD (.tup [e a, .int v]) (.tup [e b, .int w]) = D.leD (e a) (e b)
  lr : ∀ a, D.leD (e a) (e a) = true
  lrp : ∀ a v, D.leD (.tup [e a, .int v]) (.tup [e a, .int v]) = true
theorem lt_self (d : D) : dataLt d.py d.py = false := PyProof.Rows.lex_irrefl _
theorem leD_self (d : D) : D.leD d d = true := by show (!dataLt d.py d.py) = true; rw [lt_self]; rfl
theorem koI : KO D.int where
  toKE := keI
  pl _ _ := by unfold D.pl; rfl
  al _ _ := rfl
  atm _ := rfl
  lp a b v w h := by
    show (!PyProof.Rows.lexLt PyProof.Rows.itemOrd ([.inl 1] ++ (.inl b :: _)) ([.inl 1] ++ (.inl a :: _))) = !PyProof.Rows.lexLt PyProof.Rows.itemOrd [.inl b] [.inl a]
    rw [PySem.W.lex_pre, PySem.W.lex_atom (by intro z; injection z with z; exact h z.symm)]
  lr _ := leD_self _
  lrp _ _ := leD_self _
theorem koS : KO D.str where
  toKE := keS
  pl _ _ := by unfold D.pl; rfl
  al _ _ := rfl
  atm _ := rfl
  lp a b v w h := by
    show (!PyProof.Rows.lexLt PyProof.Rows.itemOrd ([.inl 1] ++ (.inr b.cps.toList :: _)) ([.inl 1] ++ (.inr a.cps.toList :: _))) = !PyProof.Rows.lexLt PyProof.Rows.itemOrd [.inr b.cps.toList] [.inr a.cps.toList]
    rw [PySem.W.lex_pre, PySem.W.lex_atom (by intro z; injection z with z; exact h (PySem.W.str_of_cps z).symm)]
  lr _ := leD_self _
  lrp _ _ := leD_self _
/-- a table's items -/
def itD (e : κ → D) (l : List (κ × Int)) : List D := l.map fun p => .tup [e p.1, .int p.2]
def tE (l : List (κ × Int)) : List (κ × D) := l.map fun p => (p.1, .int p.2)
/-- a table as a dict -/
def dct (e : κ → D) (l : List (κ × Int)) : D := .dct (kvE e (tE l))
def get (l : List (κ × Int)) (k : κ) : Option Int := (l.find? fun p => decide (p.1 = k)).map (·.2)
def put (l : List (κ × Int)) (k : κ) (v : Int) : List (κ × Int) := if (l.any fun p => decide (p.1 = k)) = true then l.map fun p => if p.1 = k then (p.1, v) else p else l ++ [(k, v)]
def del (l : List (κ × Int)) (k : κ) : List (κ × Int) := l.filter fun p => decide (p.1 ≠ k)
def srt (e : κ → D) (l : List (κ × Int)) : List (κ × Int) := l.mergeSort fun p q => D.leD (e p.1) (e q.1)
theorem tE_keys (l : List (κ × Int)) : (tE l).map (·.1) = l.map (·.1) := by unfold tE; rw [List.map_map]; rfl
theorem gE_tE (l : List (κ × Int)) (k : κ) : gE (tE l) k = (get l k).map .int := by
  unfold gE tE get
  induction l with
  | nil => rfl
  | cons p l ih =>
    rw [List.map_cons, List.find?_cons, List.find?_cons]
    cases decide (p.1 = k) with
    | true => rfl
    | false => exact ih
theorem get_none {l : List (κ × Int)} {k : κ} : get l k = none ↔ k ∉ l.map (·.1) := by
  unfold get
  rw [Option.map_eq_none_iff, List.find?_eq_none]
  simp only [decide_eq_true_eq, List.mem_map, not_exists, not_and]
theorem get_some {l : List (κ × Int)} {k : κ} (h : k ∈ l.map (·.1)) : ∃ v, get l k = some v := by
  cases e : get l k with
  | none => exact absurd h (get_none.mp e)
  | some v => exact ⟨v, rfl⟩
theorem get_key {l : List (κ × Int)} {k : κ} {v : Int} (h : get l k = some v) : k ∈ l.map (·.1) := by
  by_cases m : k ∈ l.map (·.1)
  · exact m
  · rw [get_none.mpr m] at h; cases h
theorem get_mem {l : List (κ × Int)} {k : κ} {v : Int} (h : get l k = some v) : (k, v) ∈ l := by
  unfold get at h
  obtain ⟨p, h1, rfl⟩ := Option.map_eq_some_iff.mp h
  have h2 := List.find?_some h1
  have h3 : p.1 = k := by simpa using h2
  rw [← h3]
  exact List.mem_of_find?_eq_some h1
theorem get_of {l : List (κ × Int)} (nd : (l.map (·.1)).Nodup) {p : κ × Int} (h : p ∈ l) : get l p.1 = some p.2 := by
  obtain ⟨v, hv⟩ := get_some (List.mem_map.mpr ⟨p, h, rfl⟩)
  have hm := get_mem hv
  have : p = (p.1, v) := by
    clear hv
    induction l with
    | nil => cases h
    | cons q l ih =>
      rw [List.map_cons, List.nodup_cons] at nd
      rcases List.mem_cons.mp h with h | h <;> rcases List.mem_cons.mp hm with hm | hm
      · rw [h]; rw [← h] at hm; rw [← h]; exact hm.symm
      · exact absurd (List.mem_map.mpr ⟨_, hm, by rw [h]⟩) nd.1
      · exact absurd (List.mem_map.mpr ⟨_, h, by rw [← hm]⟩) nd.1
      · exact ih nd.2 h hm
  rw [hv, this]
theorem in_dct (h : KE e) (l : List (κ × Int)) (k : κ) : dIn (e k) (dct e l) = .ok (decide (k ∈ l.map (·.1))) := by unfold dct; rw [dIn_dct h, tE_keys]
theorem notIn_dct (h : KE e) (l : List (κ × Int)) (k : κ) : dNotIn (e k) (dct e l) = .ok (!decide (k ∈ l.map (·.1))) := by unfold dct; rw [dNotIn_dct h, tE_keys]
theorem ix_dct' (h : KE e) {l : List (κ × Int)} {k : κ} {v : Int} (q : get l k = some v) : dIx (dct e l) (e k) = .ok (.int v) := dIx_dct h _ _ (by rw [gE_tE, q]; rfl)
theorem of_items (h : KE e) {l : List (κ × Int)} (nd : (l.map (·.1)).Nodup) : dDictOf (.tup (itD e l)) = .ok (dct e l) := by
  have := dDictOf_pairs h (cs := tE l) (by rw [tE_keys]; exact nd)
  unfold dct
  rw [← this]
  unfold itD tE
  rw [List.map_map]
  rfl
theorem putE_tE (l : List (κ × Int)) (k : κ) (v : Int) : putE (tE l) k (.int v) = tE (put l k v) := by
  unfold putE put
  have ha : ((tE l).any fun p => decide (p.1 = k)) = l.any fun p => decide (p.1 = k) := by unfold tE; rw [List.any_map]; rfl
  rw [ha]
  split
  · unfold tE
    rw [List.map_map, List.map_map]
    refine List.map_congr_left fun p _ => ?_
    show (if p.1 = k then (p.1, D.int v) else (p.1, D.int p.2)) = ((if p.1 = k then (p.1, v) else p).1, D.int (if p.1 = k then (p.1, v) else p).2)
    split <;> rfl
  · unfold tE; rw [List.map_append]; rfl
theorem put_dct (h : KE e) {l : List (κ × Int)} (hz : l.length < 1000) (k : κ) (v : Int) : dPut (dct e l) (e k) (.int v) = .ok (dct e (put l k v)) := by
  show (if (e k).isK = true ∧ (kvE e (tE l)).length < sizeLine then R.ok (D.dct (dput D.keq (kvE e (tE l)) (e k) (.int v))) else .bad) = _
  rw [if_pos ⟨h.2 k, by unfold kvE tE; rw [List.length_map, List.length_map]; exact size_lt (by omega)⟩, dput_kvE h, putE_tE]
  rfl
theorem del_dct (h : KE e) {l : List (κ × Int)} {k : κ} (hk : k ∈ l.map (·.1)) : popK (kvE e (tE l)) (e k) = .ok (dct e (del l k)) := by
  unfold popK
  rw [if_pos ⟨h.2 k, by rw [dlook_kvE h, gE_some, tE_keys]; exact decide_eq_true hk⟩]
  unfold dct delK kvE tE del
  rw [List.map_map, List.map_map, List.filter_map]
  congr 3
  refine List.filter_congr fun p _ => ?_
  show (!D.keq (e p.1) (e k)) = decide (p.1 ≠ k)
  rw [h.1]
  simp
theorem put_keys {l : List (κ × Int)} {k : κ} {v : Int} (h : k ∈ l.map (·.1)) : (put l k v).map (·.1) = l.map (·.1) := by
  unfold put
  rw [if_pos (by rw [List.any_eq_true]; obtain ⟨p, hp, e⟩ := List.mem_map.mp h; exact ⟨p, hp, decide_eq_true e⟩), List.map_map]
  refine List.map_congr_left fun p _ => ?_
  show (if p.1 = k then (p.1, v) else p).1 = p.1
  split <;> rfl
theorem put_new {l : List (κ × Int)} {k : κ} {v : Int} (h : k ∉ l.map (·.1)) : put l k v = l ++ [(k, v)] := by
  unfold put
  rw [if_neg (by rw [List.any_eq_true]; rintro ⟨p, hp, e⟩; exact h (List.mem_map.mpr ⟨p, hp, of_decide_eq_true e⟩))]
theorem put_mem {l : List (κ × Int)} {k : κ} {v : Int} {p : κ × Int} (h : p ∈ put l k v) : p ∈ l ∨ p = (k, v) := by
  unfold put at h
  split at h
  · obtain ⟨q, hq, rfl⟩ := List.mem_map.mp h
    split
    · rename_i e; exact .inr (by rw [e])
    · exact .inl hq
  · rcases List.mem_append.mp h with h | h
    · exact .inl h
    · exact .inr (List.mem_singleton.mp h)
theorem put_len (l : List (κ × Int)) (k : κ) (v : Int) : (put l k v).length ≤ l.length + 1 := by
  unfold put
  split
  · rw [List.length_map]; omega
  · rw [List.length_append, List.length_singleton]; omega
theorem put_nodup {l : List (κ × Int)} {k : κ} {v : Int} (nd : (l.map (·.1)).Nodup) : ((put l k v).map (·.1)).Nodup := by
  by_cases h : k ∈ l.map (·.1)
  · rw [put_keys h]; exact nd
  · rw [put_new h, List.map_append, List.nodup_append]
    refine ⟨nd, by simp, fun a ha b hb => ?_⟩
    rw [List.map_singleton, List.mem_singleton] at hb
    intro z
    have z : a = k := z.trans hb
    exact h (z ▸ ha)
theorem get_put {l : List (κ × Int)} {k j : κ} {v : Int} : get (put l k v) j = if j = k then some v else get l j := by
  by_cases h : k ∈ l.map (·.1)
  · unfold put
    rw [if_pos (by rw [List.any_eq_true]; obtain ⟨p, hp, e⟩ := List.mem_map.mp h; exact ⟨p, hp, decide_eq_true e⟩)]
    have key : ∀ l : List (κ × Int), get (l.map fun p => if p.1 = k then (p.1, v) else p) j = if j = k then (if k ∈ l.map (·.1) then some v else none) else get l j := fun l => by
      unfold get
      induction l with
      | nil => simp
      | cons p l ih =>
        rw [List.map_cons, List.find?_cons, List.find?_cons]
        have e1 : (if p.1 = k then (p.1, v) else p).1 = p.1 := by split <;> rfl
        rw [e1]
        by_cases hp : p.1 = j
        · rw [decide_eq_true hp]
          by_cases hk : j = k
          · rw [if_pos hk, if_pos (hp.trans hk), if_pos (by rw [List.map_cons]; exact List.mem_cons.mpr (.inl (hp.trans hk).symm))]
            rfl
          · rw [if_neg hk, if_neg (fun z => hk (hp.symm.trans z))]
        · rw [decide_eq_false hp]
          refine ih.trans ?_
          by_cases hk : j = k
          · rw [if_pos hk, if_pos hk]
            have : (k ∈ (p :: l).map (·.1)) ↔ k ∈ l.map (·.1) := by
              rw [List.map_cons, List.mem_cons]
              exact ⟨fun z => z.resolve_left fun z => hp (z.symm.trans hk.symm), .inr⟩
            simp only [this]
          · rw [if_neg hk, if_neg hk]
    rw [key, if_pos h]
  · rw [put_new h]
    unfold get
    rw [List.find?_append]
    by_cases hk : j = k
    · subst hk
      rw [if_pos rfl]
      have : l.find? (fun p => decide (p.1 = j)) = none := by
        rw [List.find?_eq_none]
        intro p hp z
        exact h (List.mem_map.mpr ⟨p, hp, of_decide_eq_true z⟩)
      rw [this]
      simp
    · rw [if_neg hk]
      cases hf : l.find? (fun p => decide (p.1 = j)) with
      | some p => rfl
      | none => rw [List.find?_cons, decide_eq_false (fun z => hk z.symm)]; rfl
/-! ### in order -/
theorem sortOk_items (h : KO e) (l : List (κ × Int)) : sortOk (itD e l) = true := by
  unfold sortOk
  have h0 : D.plL (itD e l) 59 = true := by
    rw [plL_iff]; intro d hd
    obtain ⟨p, _, rfl⟩ := List.mem_map.mp hd
    show D.pl (.tup [e p.1, .int p.2]) 59 = true
    rw [D.pl, plL_iff]
    intro d hd
    rcases List.mem_cons.mp hd with rfl | hd
    · exact h.pl _ _
    · rw [List.mem_singleton.mp hd]; unfold D.pl; rfl
  have h1 : ((itD e l).all fun x => (itD e l).all fun y => alike x.py y.py) = true := by
    rw [List.all_eq_true]; intro x hx; rw [List.all_eq_true]; intro y hy
    obtain ⟨a, _, rfl⟩ := List.mem_map.mp hx
    obtain ⟨b, _, rfl⟩ := List.mem_map.mp hy
    show (alike (e a.1).py (e b.1).py && true) = true
    rw [h.al]; rfl
  have h2 : (itD e l).all D.tupB = true := by
    rw [List.all_eq_true]; intro x hx
    obtain ⟨a, _, rfl⟩ := List.mem_map.mp hx
    rfl
  rw [h0, h1, h2]
  rfl
theorem sortOk_keys (h : KO e) (l : List (κ × Int)) : sortOk (l.map fun p => e p.1) = true := by
  unfold sortOk
  have h0 : D.plL (l.map fun p => e p.1) 59 = true := by
    rw [plL_iff]; intro d hd
    obtain ⟨p, _, rfl⟩ := List.mem_map.mp hd
    exact h.pl _ _
  have h1 : ((l.map fun p => e p.1).all fun x => (l.map fun p => e p.1).all fun y => alike x.py y.py) = true := by
    rw [List.all_eq_true]; intro x hx; rw [List.all_eq_true]; intro y hy
    obtain ⟨a, _, rfl⟩ := List.mem_map.mp hx
    obtain ⟨b, _, rfl⟩ := List.mem_map.mp hy
    exact h.al _ _
  have h2 : (l.map fun p => e p.1).all D.atmB = true := by
    rw [List.all_eq_true]; intro x hx
    obtain ⟨a, _, rfl⟩ := List.mem_map.mp hx
    exact h.atm _
  rw [h0, h1, h2]
  simp
theorem sort_items (h : KO e) {l : List (κ × Int)} (nd : (l.map (·.1)).Nodup) : dSortL (itD e l) = .ok (.lst (itD e (srt e l))) := by
  unfold dSortL
  rw [if_pos (sortOk_items h l)]
  unfold itD srt
  congr 2
  refine (List.map_mergeSort fun a ha b hb => ?_).symm
  by_cases hab : a.1 = b.1
  · have : a = b := by
      have e1 := get_of nd ha
      have e2 := get_of nd hb
      rw [hab] at e1
      rw [e1] at e2
      exact Prod.ext hab (Option.some.inj e2)
    subst this
    rw [h.lr, h.lrp]
  · exact (h.lp _ _ _ _ hab).symm
theorem sort_keys (h : KO e) (l : List (κ × Int)) : dSortL (l.map fun p => e p.1) = .ok (.lst ((srt e l).map fun p => e p.1)) := by
  unfold dSortL
  rw [if_pos (sortOk_keys h l)]
  unfold srt
  congr 2
  exact (List.map_mergeSort (f := fun p : κ × Int => e p.1) (r := fun p q : κ × Int => D.leD (e p.1) (e q.1)) fun a ha b hb => rfl).symm
theorem srt_perm (l : List (κ × Int)) : (srt e l).Perm l := List.mergeSort_perm _ _
theorem srt_mem {l : List (κ × Int)} {p : κ × Int} : p ∈ srt e l ↔ p ∈ l := (srt_perm l).mem_iff
theorem srt_nodup {l : List (κ × Int)} (nd : (l.map (·.1)).Nodup) : ((srt e l).map (·.1)).Nodup := ((srt_perm l).map _).nodup_iff.mpr nd
theorem srt_len (l : List (κ × Int)) : (srt e l).length = l.length := (srt_perm l).length_eq
theorem srt_self {l : List (κ × Int)} (h : l.Pairwise fun p q => D.leD (e p.1) (e q.1) = true) : srt e l = l := List.mergeSort_of_pairwise h
theorem keys_dct (l : List (κ × Int)) : keysD (kvE e (tE l)) = l.map fun p => e p.1 := by rw [keysD_kvE]; unfold tE; rw [List.map_map]; rfl
theorem items_dct (l : List (κ × Int)) : itemsD (kvE e (tE l)) = itD e l := by unfold itemsD kvE tE itD; rw [List.map_map, List.map_map]; rfl
theorem vals_dct (l : List (κ × Int)) : valsD (kvE e (tE l)) = l.map fun p => .int p.2 := by unfold valsD kvE tE; rw [List.map_map, List.map_map]; rfl
end
end PM
end

section
/-! PM4: sets of whole numbers, as dicts; truths of a list. -/
namespace PM
open PySem PD PP PQ
def fd (l : List Int) : D := .dct (kvE .int (l.map fun x => (x, .bl true)))
theorem fd_keys (l : List Int) : (l.map fun x => (x, D.bl true)).map (·.1) = l := by rw [List.map_map]; exact List.map_id' l
theorem fd_put {l : List Int} {p : Int} (n : p ∉ l) (hz : l.length < sizeLine) : dPut (fd l) (.int p) (.bl true) = .ok (fd (l ++ [p])) := by
  show (if (D.int p).isK = true ∧ (kvE D.int (l.map fun x => (x, D.bl true))).length < sizeLine then R.ok (D.dct (dput D.keq (kvE .int (l.map fun x => (x, .bl true))) (.int p) (.bl true))) else .bad) = _
  rw [if_pos ⟨rfl, by unfold kvE; rw [List.length_map, List.length_map]; exact hz⟩, dput_kvE keI, putE_keys_new (by rw [fd_keys]; exact n)]
  unfold fd
  rw [List.map_append]
  rfl
theorem notInF (l : List Int) (p : Int) : dNotIn (.int p) (fd l) = .ok (!decide (p ∈ l)) := by unfold fd; rw [dNotIn_dct keI, fd_keys]
theorem inF (l : List Int) (p : Int) : dIn (.int p) (fd l) = .ok (decide (p ∈ l)) := by unfold fd; rw [dIn_dct keI, fd_keys]
def addI (l : List Int) (x : Int) : List Int := if x ∈ l then l else l ++ [x]
def addAll (l m : List Int) : List Int := m.foldl addI l
theorem addI_mem {l : List Int} {x y : Int} : y ∈ addI l x ↔ y ∈ l ∨ y = x := by
  unfold addI
  split
  · rename_i h; exact ⟨.inl, fun z => z.elim id fun e => e ▸ h⟩
  · rw [List.mem_append, List.mem_singleton]
theorem addI_nodup {l : List Int} {x : Int} (h : l.Nodup) : (addI l x).Nodup := by
  unfold addI
  split
  · exact h
  · rename_i n
    rw [List.nodup_append]
    refine ⟨h, by simp, fun a ha b hb => ?_⟩
    rw [List.mem_singleton] at hb
    rintro rfl
    exact n (hb ▸ ha)
theorem addI_len (l : List Int) (x : Int) : (addI l x).length ≤ l.length + 1 := by
  unfold addI
  split
  · omega
  · rw [List.length_append, List.length_singleton]; omega
theorem addAll_mem : ∀ {m l : List Int} {y : Int}, y ∈ addAll l m ↔ y ∈ l ∨ y ∈ m
  | [], l, y => by simp [addAll]
  | x :: m, l, y => by
    show y ∈ addAll (addI l x) m ↔ _
    rw [addAll_mem, addI_mem, List.mem_cons, or_assoc]
theorem addAll_nodup : ∀ {m l : List Int}, l.Nodup → (addAll l m).Nodup
  | [], l, h => h
  | x :: m, l, h => addAll_nodup (m := m) (addI_nodup h)
theorem addAll_len : ∀ {m l : List Int}, (addAll l m).length ≤ l.length + m.length
  | [], l => Nat.le_refl _
  | x :: m, l => by
    have := addAll_len (m := m) (l := addI l x)
    have := addI_len l x
    show (addAll (addI l x) m).length ≤ _
    rw [List.length_cons]; omega
def sE (l : List Int) : List (Int × D) := l.map fun x => (x, .bl true)
theorem putE_set (l : List Int) (x : Int) : putE (sE l) x (.bl true) = sE (addI l x) := by
  unfold addI
  split
  · rename_i h
    unfold putE sE
    rw [if_pos (by rw [List.any_map, List.any_eq_true]; exact ⟨x, h, by simp⟩), List.map_map]
    refine List.map_congr_left fun y _ => ?_
    simp only [Function.comp]
    split <;> rfl
  · rename_i h
    rw [putE_keys_new (by unfold sE; rw [fd_keys]; exact h)]
    unfold sE; rw [List.map_append]; rfl
theorem put_all : ∀ (m l : List Int), (sE m).foldl (fun acc p => putE acc p.1 p.2) (sE l) = sE (addAll l m)
  | [], l => rfl
  | x :: m, l => by
    show (sE m).foldl _ (putE (sE l) x (.bl true)) = _
    rw [putE_set, put_all m]; rfl
theorem upd_set {S m : List Int} (hz : S.length + m.length ≤ 10000) : updL (kvE .int (sE S)) (fd m) = .ok (fd (addAll S m)) := by
  show updL (kvE .int (sE S)) (.dct (kvE .int (sE m))) = _
  rw [updL_kvE keI (by unfold sE; rw [List.length_map, List.length_map]; omega), put_all]
  rfl
theorem dct_fd (S : List Int) : dDct (fd S) = .ok (kvE .int (sE S)) := rfl
theorem comp_set {α : Type} {f : D → R (Option (D × D))} {g : α → D} {k : α → Int} {l : List α} (hf : ∀ x ∈ l, f (g x) = .ok (some (.int (k x), .bl true))) : dcompR f (l.map g) [] = .ok (kvE .int (sE (addAll [] (l.map k)))) := by
  rw [show ([] : List (D × D)) = kvE D.int [] from rfl, dcompR_put keI (k := k) (v := fun _ => .bl true) hf]
  congr 2
  rw [← put_all]
  show _ = (sE (l.map k)).foldl _ []
  unfold sE
  rw [List.map_map, List.foldl_map]
  rfl
theorem boolsOf_map {α : Type} (q : α → Bool) : ∀ l : List α, D.boolsOf (l.map fun x => .bl (q x)) = some (l.map q)
  | [] => rfl
  | x :: l => by rw [List.map_cons, D.boolsOf, boolsOf_map q l]; rfl
theorem dAll_map {α : Type} (q : α → Bool) (l : List α) : dAll (.lst (l.map fun x => .bl (q x))) = .ok (.bl (l.all q)) := by
  show (match D.boolsOf (l.map fun x => .bl (q x)) with | some bs => R.ok (D.bl (bs.all id)) | none => .bad) = _
  rw [boolsOf_map]
  show R.ok (D.bl ((l.map q).all id)) = _
  rw [List.all_map]
  rfl
theorem dAny_map {α : Type} (q : α → Bool) (l : List α) : dAny (.lst (l.map fun x => .bl (q x))) = .ok (.bl (l.any q)) := by
  show (match D.boolsOf (l.map fun x => .bl (q x)) with | some bs => R.ok (D.bl (bs.any id)) | none => .bad) = _
  rw [boolsOf_map]
  show R.ok (D.bl ((l.map q).any id)) = _
  rw [List.any_map]
  rfl
end PM
end

section
/-! MT: what the law draws. -/
namespace MT
open PySem PD DV
def bagD (b0 b1 b2 : Int) (cells : List Int) : D := .lst [.int b0, .int b1, .int b2, .lst (cells.map .int)]
def BagOk (d : D) : Prop := ∃ b0 b1 b2 cells, d = bagD b0 b1 b2 cells ∧ 0 ≤ b0 ∧ 0 ≤ b1 ∧ 0 ≤ b2 ∧ (∀ c ∈ cells, 0 ≤ c) ∧ cells.length ≤ 63
theorem mul_ok {a b : Int} (h : (-18446744073709551616 < a ∧ a < 18446744073709551616) ∨ (-18446744073709551616 < b ∧ b < 18446744073709551616)) : dMul (.int a) (.int b) = .ok (.int (a * b)) := by
  show (if _ then R.ok (D.int (a * b)) else .bad) = _
  exact if_pos h
theorem mod_ok {a b : Int} (h : b ≠ 0) : dMod (.int a) (.int b) = .ok (.int (a.fmod b)) := if_pos h
theorem fdiv_ok {a b : Int} (h : b ≠ 0) (k : b.natAbs < 1073741824) : dFdiv (.int a) (.int b) = .ok (.int (a.fdiv b)) := if_pos ⟨h, k⟩
theorem pow_18 : dPow (.int 10) (.int 18) = .ok (.int 1000000000000000000) := rfl
theorem old2 (a b c : D) (z : Int) : oldAt [a, b, .int z, c] (.int 2) = .ok (2, z) := rfl
theorem add2 (a b c : D) (z : Int) : addTo [a, b, .int z, c] (2, z) (.int 1) = .ok (.lst [a, b, .int (z + 1), c]) := rfl
theorem put0 (a b c e d : D) : dPut (.lst [a, b, c, e]) (.int 0) d = .ok (.lst [d, b, c, e]) := rfl
theorem put1 (a b c e d : D) : dPut (.lst [a, b, c, e]) (.int 1) d = .ok (.lst [a, d, c, e]) := rfl
theorem cat0 {l : List Int} (h : l.length ≤ 63) : dCat (.lst (l.map .int)) (.lst [.int 0]) = .ok (.lst ((l ++ [0]).map .int)) := by
  show (if (l.map D.int).length + 1 ≤ 1000000 then R.ok (D.lst (l.map .int ++ [.int 0])) else .bad) = _
  rw [if_pos (by rw [List.length_map]; omega), List.map_append]
  rfl
theorem head0 (l : List Int) : ∃ c r, l ++ [0] = c :: r ∧ (c = 0 ∨ c ∈ l) := by
  cases l with
  | nil => exact ⟨0, [], rfl, .inl rfl⟩
  | cons x r => exact ⟨x, r ++ [0], rfl, .inr List.mem_cons_self⟩
@[simp] theorem doneI_rt (d b : D) : doneI (.ok (.rt d (some b))) = .ok (d, b) := rfl
theorem tail_ok {b0 b1 b2 : Int} {cells : List Int} {n : Int} (h0 : 0 ≤ b0) (h1 : 0 ≤ b1) (h2 : 0 ≤ b2) (hc : ∀ c ∈ cells, 0 ≤ c) (hl : cells.length ≤ 63) (hn : 0 < n) (hm : n < 1073741824) :
    ∃ v d', K__law_take_1 (.int n) (bagD b0 b1 b2 cells) = .ok (.rt (.int v) (some d')) ∧ BagOk d' ∧ 0 ≤ v ∧ v < n := by
  have nz : n ≠ 0 := by omega
  unfold K__law_take_1 bagD
  by_cases hb : 0 < b0
  · refine ⟨b0.fmod n, bagD (b0.fdiv n) b1 b2 cells, ?_, ⟨_, _, _, _, rfl, ?_, h1, h2, hc, hl⟩, Int.fmod_nonneg_of_pos _ hn, Int.fmod_lt_of_pos _ hn⟩
    · simp only [R.bind_ok, ix_l0, gt_int, decide_eq_true hb, if_true, int_int, mod_ok nz, fdiv_ok nz (show n.natAbs < 1073741824 by omega), put0, lft_ok, lift_rt, bagD]
    · exact Int.fdiv_nonneg h0 (by omega)
  · have hb0 : b0 = 0 := by omega
    have d1 : decide ((0 : Int) < b0) = false := decide_eq_false hb
    have e1 : (1000000007 : Int) ≠ 0 := by decide
    have e2 : (998244353 : Int) ≠ 0 := by decide
    have e3 : (7 : Int) ≠ 0 := by decide
    have k1 := Int.fmod_nonneg_of_pos ((b1 + 1) * 39373) (show (0 : Int) < 1000000007 by decide)
    have k2 := Int.fmod_lt_of_pos ((b1 + 1) * 39373) (show (0 : Int) < 1000000007 by decide)
    let v := (Int.fdiv ((((b1 + 1) * 39373).fmod 1000000007 * (((b1 + 1) * 39373).fmod 1000000007)).fmod 998244353 * 30011 |>.fmod 998244353) 7).fmod n
    refine ⟨v, bagD b0 b1 b2 cells, ?_, ⟨_, _, _, _, rfl, h0, h1, h2, hc, hl⟩, ?_⟩
    · simp only [R.bind_ok, ix_l0, ix_l1, gt_int, d1, Bool.false_eq_true, if_false, add_int, int_int, mul_ok (a := b1 + 1) (b := 39373) (.inr (by decide)), mod_ok e1,
        mul_ok (a := ((b1 + 1) * 39373).fmod 1000000007) (b := ((b1 + 1) * 39373).fmod 1000000007) (.inl ⟨by omega, by omega⟩), mod_ok e2,
        mul_ok (a := ((((b1 + 1) * 39373).fmod 1000000007) * (((b1 + 1) * 39373).fmod 1000000007)).fmod 998244353) (b := 30011) (.inr (by decide)), fdiv_ok e3 (by decide), mod_ok nz, bagD]
      rfl
    · exact ⟨Int.fmod_nonneg_of_pos _ hn, Int.fmod_lt_of_pos _ hn⟩
theorem take_ok {d : D} (h : BagOk d) {n : Int} (hn : 0 < n) (hm : n < 1073741824) : ∃ v d', F__law_take d (.int n) = .ok (.int v, d') ∧ BagOk d' ∧ 0 ≤ v ∧ v < n := by
  obtain ⟨b0, b1, b2, cells, rfl, h0, h1, h2, hc, hl⟩ := h
  unfold F__law_take m__law_take
  by_cases hz : b0 = 0
  · subst hz
    obtain ⟨k2, hk2⟩ : ∃ k : Nat, b2 = (k : Int) := ⟨b2.toNat, by omega⟩
    subst hk2
    obtain ⟨c, r, er, hcr⟩ := head0 (cells.drop k2)
    have hc0 : 0 ≤ c := by
      rcases hcr with e | e
      · omega
      · exact hc c (List.mem_of_mem_drop e)
    have e4 : (2147483647 : Int) ≠ 0 := by decide
    have hd : (cells.drop k2).length ≤ 63 := by rw [List.length_drop]; omega
    have st : ∀ b0', 0 ≤ b0' → ∃ b1', 0 ≤ b1' ∧ K__law_take_0 (.int c) (bagD b0' b1 ((k2 : Int) + 1) cells) = .ok (.nx (bagD b0' b1' ((k2 : Int) + 1) cells)) := by
      intro b0' hb
      refine ⟨(b1 * 48271 + c.fmod 2147483647 + 7919 * ((k2 : Int) + 1)).fmod 2147483647, Int.fmod_nonneg_of_pos _ (by decide), ?_⟩
      unfold K__law_take_0 bagD
      simp only [R.bind_ok, ix_l1, ix_l2, mul_ok (a := b1) (b := 48271) (.inr (by decide)), int_int, mod_ok e4, add_int, mul_ok (a := 7919) (.inl (by decide)), put1]
    have main : ∃ b0' b1', 0 ≤ b0' ∧ 0 ≤ b1' ∧ (((dGe (.int c) (.int 1000000000000000000)).bind fun t => if t = true then (dPut (bagD 0 b1 ((k2 : Int) + 1) cells) (.int 0) (.int c)).bind fun v_bag2 => (.ok (.nx v_bag2)) else (.ok (.nx (bagD 0 b1 ((k2 : Int) + 1) cells)))).bind (Fl.go (K__law_take_0 (.int c))) : R (Fl D Empty)) = .ok (.nx (bagD b0' b1' ((k2 : Int) + 1) cells)) := by
      simp only [ge_int, R.bind_ok]
      by_cases hg : (1000000000000000000 : Int) ≤ c
      · obtain ⟨b1', h1', e⟩ := st c hc0
        refine ⟨c, b1', hc0, h1', ?_⟩
        rw [decide_eq_true hg, if_pos rfl]
        unfold bagD at e ⊢
        simp only [put0, R.bind_ok, go_nx, e]
      · obtain ⟨b1', h1', e⟩ := st 0 (by omega)
        refine ⟨0, b1', by omega, h1', ?_⟩
        rw [decide_eq_false hg, if_neg (by simp)]
        simp only [R.bind_ok, go_nx, e]
    obtain ⟨b0', b1', h0', h1', em⟩ := main
    obtain ⟨v, d', et, ok', hv⟩ := tail_ok (b0 := b0') (b1 := b1') (b2 := (k2 : Int) + 1) (cells := cells) h0' h1' (by omega) hc hl hn hm
    refine ⟨v, d', ?_, ok', hv⟩
    unfold bagD at em et ⊢
    simp only [R.bind_ok, ix_l0, ix_l2, ix_l3, eq_int, beq_self_eq_true, if_true, asI_int, sl_lst, cut_from, ← List.map_drop, cat0 hd, er, List.map_cons, lst_lst, old2, add2, pow_18, em, go_nx, et, doneI_rt]
  · obtain ⟨v, d', et, ok', hv⟩ := tail_ok (b0 := b0) (b1 := b1) (b2 := b2) (cells := cells) h0 h1 h2 hc hl hn hm
    refine ⟨v, d', ?_, ok', hv⟩
    have : (b0 == 0) = false := by simpa using hz
    unfold bagD at et ⊢
    simp only [R.bind_ok, ix_l0, eq_int, this, Bool.false_eq_true, if_false, go_nx, et, doneI_rt]
theorem bag_ok {ns : List Int} (h : ns.length ≤ 63) : ∃ d, F__law_bag (.scr ns) = .ok d ∧ BagOk d := by
  refine ⟨bagD 0 1234567891 0 ((ns.take 63).map fun i => if i < 0 then -i else i), ?_, ⟨_, _, _, _, rfl, by decide, by decide, by decide, ?_, ?_⟩⟩
  · unfold F__law_bag m__law_bag L__law_bag_0
    simp only [R.bind_ok, asI_int]
    rw [show dSl (.scr ns) none (some 63) = .ok (.lst ((cutD ns none (some ((63 : Nat) : Int))).map .int)) from rfl, cut_to]
    simp only [R.bind_ok, itr_lst]
    rw [compR_map (h := fun i : Int => .int (if i < 0 then -i else i)) (fun i _ => by simp only [R.bind_ok, if_true, show dAbs (.int i) = .ok (.int (if i < 0 then -i else i)) from rfl])]
    simp only [R.bind_ok, bagD, List.map_map]
    rfl
  · intro c hc
    obtain ⟨i, _, rfl⟩ := List.mem_map.mp hc
    split <;> omega
  · rw [List.length_map, List.length_take]; omega
theorem forR_bag {f : D → D → R (Fl D D)} {β : Type} (h : ∀ d s, BagOk s → ∃ s', BagOk s' ∧ (f d s = .ok (.nx s') ∨ f d s = .ok (.ct s'))) : ∀ (l : List D) (s : D), BagOk s → ∃ s', (forR f l s : R (Fl D β)) = .ok (.nx s') ∧ BagOk s'
  | [], s, hs => ⟨s, rfl, hs⟩
  | d :: l, s, hs => by
    obtain ⟨s1, h1, e⟩ := h d s hs
    obtain ⟨s2, e2, h2⟩ := forR_bag (β := β) h l s1 h1
    refine ⟨s2, ?_, h2⟩
    rcases e with e | e
    · rw [forR_cons_nx e]; exact e2
    · rw [forR_cons_ct e]; exact e2
theorem alike_self {d : D} {n w : Nat} (h : VD d n w) (hn : n ≤ 60) (hw : w ≤ 1048576) : F__law_alike d d = .ok (.bl true) := by
  unfold F__law_alike m__law_alike
  simp only [R.bind_ok, h.shown hn hw, asB_bl, dEq_self (pl_mono hn h.pl)]
  simp
end MT
end

section
namespace M99
open PySem PD DV PM
inductive N where
  | x | y
  deriving DecidableEq
def N.s : N → Str
  | .x => "x"
  | .y => "y"
inductive Sp where
  | set (n : N) (t : Option N) | load (n m : N) | store (n : N) (t : Option N) | new (n : N) | free (n : N) | test (s : Bool) (n : N) (t : Option N)
  deriving DecidableEq
def dO : Option N → D
  | none => .non
  | some n => .str n.s
def dW (s : Bool) : D := if s = true then .str "same" else .str "unlike"
def dS : Sp → D
  | .set n t => .tup [.str "set", .str n.s, dO t]
  | .load n m => .tup [.str "load", .str n.s, .str m.s]
  | .store n t => .tup [.str "store", .str n.s, dO t]
  | .new n => .tup [.str "new", .str n.s]
  | .free n => .tup [.str "free", .str n.s]
  | .test s n t => .tup [.str "test", dW s, .str n.s, dO t]
def partsL : Sp → List N
  | .set n none => [n]
  | .set n (some m) => [n, m]
  | .load n m => [n, m]
  | .store n none => [n]
  | .store n (some m) => [n, m]
  | .new n => [n]
  | .free n => [n]
  | .test _ n none => [n]
  | .test _ n (some m) => [n, m]
def uniq : List N → List N
  | [.x, .x] => [.x]
  | [.y, .y] => [.y]
  | [.y, .x] => [.x, .y]
  | l => l
theorem forms_ok : ∀ s, F_is_step_forms (dS s) = .ok (.bl true)
  | .set n t => by cases n <;> (cases t with | none => kernel_rfl | some m => cases m <;> kernel_rfl)
  | .load n m => by cases n <;> cases m <;> kernel_rfl
  | .store n t => by cases n <;> (cases t with | none => kernel_rfl | some m => cases m <;> kernel_rfl)
  | .new n => by cases n <;> kernel_rfl
  | .free n => by cases n <;> kernel_rfl
  | .test s n t => by cases s <;> cases n <;> (cases t with | none => kernel_rfl | some m => cases m <;> kernel_rfl)
theorem step_ok : ∀ s, F_is_step (dS s) = .ok (.bl true)
  | .set n t => by cases n <;> (cases t with | none => kernel_rfl | some m => cases m <;> kernel_rfl)
  | .load n m => by cases n <;> cases m <;> kernel_rfl
  | .store n t => by cases n <;> (cases t with | none => kernel_rfl | some m => cases m <;> kernel_rfl)
  | .new n => by cases n <;> kernel_rfl
  | .free n => by cases n <;> kernel_rfl
  | .test s n t => by cases s <;> cases n <;> (cases t with | none => kernel_rfl | some m => cases m <;> kernel_rfl)
theorem names_ok : ∀ s, F_names_in_step (dS s) = .ok (.lst ((partsL s).map fun n => .str n.s))
  | .set n t => by cases n <;> (cases t with | none => kernel_rfl | some m => cases m <;> kernel_rfl)
  | .load n m => by cases n <;> cases m <;> kernel_rfl
  | .store n t => by cases n <;> (cases t with | none => kernel_rfl | some m => cases m <;> kernel_rfl)
  | .new n => by cases n <;> kernel_rfl
  | .free n => by cases n <;> kernel_rfl
  | .test s n t => by cases s <;> cases n <;> (cases t with | none => kernel_rfl | some m => cases m <;> kernel_rfl)
theorem le_xy : D.leD (.str "x") (.str "y") = true := by decide +kernel
theorem le_yx : D.leD (.str "y") (.str "x") = false := by decide +kernel
theorem sort_xy : dSortL [.str "x", .str "y"] = .ok (.lst [.str "x", .str "y"]) := by
  unfold dSortL
  rw [if_pos (by decide +kernel)]
  congr 2
  exact List.mergeSort_of_pairwise (by simp [le_xy])
theorem sort_yx : dSortL [.str "y", .str "x"] = .ok (.lst [.str "x", .str "y"]) := by
  unfold dSortL
  rw [if_pos (by decide +kernel)]
  congr 2
  simp [List.mergeSort, List.MergeSort.Internal.splitInTwo, List.merge, le_yx]
theorem stepn_ok (s : Sp) : F_step_names (dS s) = .ok (.tup ((uniq (partsL s)).map fun n => .str n.s)) := by
  have key : F_step_names (dS s) = (dSortL (keysD (kvE D.str ((partsL s).foldl (fun acc n => putE acc n.s (.bl true)) [])))).bind dTuple := by
    cases s with
    | set n t => cases n <;> (cases t with | none => kernel_rfl | some m => cases m <;> kernel_rfl)
    | load n m => cases n <;> cases m <;> kernel_rfl
    | store n t => cases n <;> (cases t with | none => kernel_rfl | some m => cases m <;> kernel_rfl)
    | new n => cases n <;> kernel_rfl
    | free n => cases n <;> kernel_rfl
    | test s n t => cases s <;> cases n <;> (cases t with | none => kernel_rfl | some m => cases m <;> kernel_rfl)
  rw [key]
  have one : ∀ n : N, dSortL [.str n.s] = .ok (.lst [.str n.s]) := fun n => by cases n <;> kernel_rfl
  have : ∀ l : List N, (l = [] ∨ (∃ n, l = [n]) ∨ ∃ n m, l = [n, m]) → l ≠ [] → (dSortL (keysD (kvE D.str (l.foldl (fun acc n => putE acc n.s (.bl true)) [])))).bind dTuple = .ok (.tup ((uniq l).map fun n => .str n.s)) := by
    rintro l (rfl | ⟨n, rfl⟩ | ⟨n, m, rfl⟩) h
    · exact absurd rfl h
    · cases n
      · show (dSortL [.str "x"]).bind dTuple = _
        rw [show (dSortL [.str "x"]) = .ok (.lst [.str "x"]) from one .x, R.bind_ok]; rfl
      · show (dSortL [.str "y"]).bind dTuple = _
        rw [show (dSortL [.str "y"]) = .ok (.lst [.str "y"]) from one .y, R.bind_ok]; rfl
    · cases n <;> cases m
      · show (dSortL [.str "x"]).bind dTuple = _
        rw [show (dSortL [.str "x"]) = .ok (.lst [.str "x"]) from one .x, R.bind_ok]; rfl
      · show (dSortL [.str "x", .str "y"]).bind dTuple = _
        rw [sort_xy, R.bind_ok]; rfl
      · show (dSortL [.str "y", .str "x"]).bind dTuple = _
        rw [sort_yx, R.bind_ok]; rfl
      · show (dSortL [.str "y"]).bind dTuple = _
        rw [show (dSortL [.str "y"]) = .ok (.lst [.str "y"]) from one .y, R.bind_ok]; rfl
  apply this
  · cases s with
    | set n t => cases t <;> simp [partsL]
    | store n t => cases t <;> simp [partsL]
    | test s n t => cases t <;> simp [partsL]
    | _ => simp [partsL]
  · cases s with
    | set n t => cases t <;> simp [partsL]
    | store n t => cases t <;> simp [partsL]
    | test s n t => cases t <;> simp [partsL]
    | _ => simp [partsL]
end M99
end

section
/-! M99a: one step, the program's and the law's. -/
namespace M99
open PySem PD DV PM PP PQ
abbrev Ts := List (Str × Int)
def mem (ts : Ts) (cs : Cs) : D := .tup [.tup (itD D.str ts), .tup (itD D.int cs)]
@[simp] theorem mem0 (ts : Ts) (cs : Cs) : dIx (mem ts cs) (.int 0) = .ok (.tup (itD D.str ts)) := ix_t0 _ _
@[simp] theorem mem1 (ts : Ts) (cs : Cs) : dIx (mem ts cs) (.int 1) = .ok (.tup (itD D.int cs)) := ix_t1 _ _ _
/-- names x, y; places small; at most n cells -/
structure MOk (n : Nat) (ts : Ts) (cs : Cs) : Prop where
  nt : ts.map (·.1) = [("x" : Str), "y"]
  tv : ∀ t ∈ ts, 0 ≤ t.2 ∧ t.2 ≤ 100
  nc : (cs.map (·.1)).Nodup
  cp : ∀ p ∈ cs, 0 < p.1 ∧ p.1 ≤ 100
  cv : ∀ p ∈ cs, 0 ≤ p.2 ∧ p.2 ≤ 100
  lc : cs.length ≤ n
section
variable {k : Nat} {ts : Ts} {cs : Cs}
theorem MOk.nd (h : MOk k ts cs) : (ts.map (·.1)).Nodup := by rw [h.nt]; decide
theorem MOk.has (h : MOk k ts cs) (n : N) : n.s ∈ ts.map (·.1) := by rw [h.nt]; cases n <;> decide
theorem MOk.lt (h : MOk k ts cs) : ts.length = 2 := by have := congrArg List.length h.nt; simpa using this
theorem MOk.mono {j : Nat} (h : MOk k ts cs) (l : k ≤ j) : MOk j ts cs := ⟨h.nt, h.tv, h.nc, h.cp, h.cv, Nat.le_trans h.lc l⟩
def val (ts : Ts) (n : N) : Int := (get ts n.s).getD 0
def vO (ts : Ts) : Option N → Int
  | none => 0
  | some n => val ts n
theorem get_val (h : MOk k ts cs) (n : N) : get ts n.s = some (val ts n) := by
  obtain ⟨v, e⟩ := get_some (h.has n)
  unfold val
  rw [e]; rfl
theorem val_ok (h : MOk k ts cs) (n : N) : 0 ≤ val ts n ∧ val ts n ≤ 100 := h.tv _ (get_mem (get_val h n))
theorem vO_ok (h : MOk k ts cs) (t : Option N) : 0 ≤ vO ts t ∧ vO ts t ≤ 100 := by
  cases t with
  | none => exact ⟨Int.le_refl _, (by decide : (0 : Int) ≤ 100)⟩
  | some n => exact val_ok h n
theorem ixT (h : MOk k ts cs) (n : N) : dIx (dct D.str ts) (.str n.s) = .ok (.int (val ts n)) := ix_dct' keS (get_val h n)
theorem dT (h : MOk k ts cs) : dDictOf (.tup (itD D.str ts)) = .ok (dct D.str ts) := of_items keS h.nd
theorem dC (h : MOk k ts cs) : dDictOf (.tup (itD D.int cs)) = .ok (dct D.int cs) := of_items keI h.nc
/-! ### a free place -/
def used (ts : Ts) (cs : Cs) : List Int := ts.map (·.2) ++ cs.map (·.1) ++ cs.map (·.2)
def cand (ts : Ts) (cs : Cs) : List Int := ((List.range ((used ts cs).length + 1)).map fun (i : Nat) => (1 : Int) + i).filter fun p => decide (p ∉ used ts cs)
def freshP (ts : Ts) (cs : Cs) : Int := mn (cand ts cs)
theorem cand_ne (ts : Ts) (cs : Cs) : cand ts cs ≠ [] := fun z => by
  have nd : ((List.range ((used ts cs).length + 1)).map fun (i : Nat) => (1 : Int) + i).Nodup := List.pairwise_map.mpr (List.nodup_range.imp fun h e => h (by omega))
  have := sub_len (m := used ts cs) nd fun x hx => by
    by_cases h : x ∈ used ts cs
    · exact h
    · have : x ∈ cand ts cs := List.mem_filter.mpr ⟨hx, decide_eq_true h⟩
      rw [z] at this; cases this
  rw [List.length_map, List.length_range] at this
  omega
theorem fresh_mem (ts : Ts) (cs : Cs) : freshP ts cs ∉ used ts cs ∧ 1 ≤ freshP ts cs ∧ freshP ts cs ≤ (used ts cs).length + 1 := by
  have h := mn_mem (cand_ne ts cs)
  obtain ⟨h1, h2⟩ := List.mem_filter.mp h
  obtain ⟨i, hi, e⟩ := List.mem_map.mp h1
  have := List.mem_range.mp hi
  exact ⟨of_decide_eq_true h2, by unfold freshP; omega, by unfold freshP; omega⟩
theorem fresh_least {ts : Ts} {cs : Cs} {p : Int} (h1 : 1 ≤ p) (h2 : p ∉ used ts cs) : freshP ts cs ≤ p := by
  by_cases h3 : p ≤ (used ts cs).length + 1
  · refine mn_le (List.mem_filter.mpr ⟨List.mem_map.mpr ⟨(p - 1).toNat, List.mem_range.mpr (by omega), by omega⟩, decide_eq_true h2⟩)
  · have := (fresh_mem ts cs).2.2
    omega
theorem used_len (h : MOk k ts cs) : (used ts cs).length ≤ 2 + 2 * k := by
  unfold used
  rw [List.length_append, List.length_append, List.length_map, List.length_map, List.length_map, h.lt]
  have := h.lc
  omega
/-! ### a step -/
inductive Re where
  | wrong | ends | done (ts : Ts) (cs : Cs)
abbrev sC (cs : Cs) : Cs := srt D.int cs
def stepT (ts : Ts) (cs : Cs) : Sp → Re
  | .set n t => .done (put ts n.s (vO ts t)) (sC cs)
  | .load n m => match get cs (val ts m) with
    | some v => .done (put ts n.s v) (sC cs)
    | none => .wrong
  | .store n t => if val ts n ∈ cs.map (·.1) then .done ts (sC (put cs (val ts n) (vO ts t))) else .wrong
  | .new n => .done (put ts n.s (freshP ts cs)) (sC (put cs (freshP ts cs) 0))
  | .free n => if val ts n ∈ cs.map (·.1) then .done ts (sC (del cs (val ts n))) else .wrong
  | .test s n t => if (val ts n == vO ts t) = s then .done ts cs else .ends
theorem MOk.sC (h : MOk k ts cs) : MOk k ts (sC cs) := ⟨h.nt, h.tv, srt_nodup h.nc, fun p hp => h.cp p (srt_mem.mp hp), fun p hp => h.cv p (srt_mem.mp hp), by rw [srt_len]; exact h.lc⟩
theorem srtT (h : MOk k ts cs) : srt D.str ts = ts := by
  refine srt_self ?_
  have e := h.nt
  have h2 := h.lt
  match ts, h2, e with
  | [p, q], _, e =>
    simp only [List.map_cons, List.map_nil, List.cons.injEq, and_true] at e
    refine List.pairwise_cons.mpr ⟨fun a ha => ?_, by simp⟩
    rw [List.mem_singleton.mp ha, e.1, e.2]
    exact le_xy
theorem put_T (h : MOk k ts cs) (n : N) {v : Int} (hv : 0 ≤ v ∧ v ≤ 100) : MOk k (put ts n.s v) cs := by
  refine ⟨by rw [put_keys (h.has n)]; exact h.nt, fun t ht => ?_, h.nc, h.cp, h.cv, h.lc⟩
  rcases put_mem ht with ht | rfl
  · exact h.tv t ht
  · exact hv
theorem put_C (h : MOk k ts cs) {p v : Int} (hp : 0 < p ∧ p ≤ 100) (hv : 0 ≤ v ∧ v ≤ 100) : MOk (k + 1) ts (put cs p v) := by
  refine ⟨h.nt, h.tv, put_nodup h.nc, fun q hq => ?_, fun q hq => ?_, ?_⟩
  · rcases put_mem hq with hq | rfl
    · exact h.cp q hq
    · exact hp
  · rcases put_mem hq with hq | rfl
    · exact h.cv q hq
    · exact hv
  · have := put_len cs p v
    have := h.lc
    omega
theorem del_C (h : MOk k ts cs) (p : Int) : MOk k ts (del cs p) :=
  ⟨h.nt, h.tv, h.nc.sublist ((List.filter_sublist).map _), fun q hq => h.cp q ((List.mem_filter.mp hq).1), fun q hq => h.cv q ((List.mem_filter.mp hq).1), Nat.le_trans (List.length_filter_le _ _) h.lc⟩
theorem step_mok (h : MOk k ts cs) (hk : k ≤ 40) (s : Sp) {ts' : Ts} {cs' : Cs} (e : stepT ts cs s = .done ts' cs') : MOk (k + 1) ts' cs' := by
  cases s with
  | set n t => cases e; exact (put_T h n (vO_ok h t)).sC.mono (by omega)
  | load n m =>
    have e : (match get cs (val ts m) with | some v => Re.done (put ts n.s v) (sC cs) | none => .wrong) = .done ts' cs' := e
    cases hg : get cs (val ts m) with
    | some v =>
      rw [hg] at e
      cases e
      exact (put_T h n (h.cv _ (get_mem hg))).sC.mono (by omega)
    | none => rw [hg] at e; cases e
  | store n t =>
    have e : (if val ts n ∈ cs.map (·.1) then Re.done ts (sC (put cs (val ts n) (vO ts t))) else .wrong) = .done ts' cs' := e
    split at e
    · rename_i hm
      cases e
      obtain ⟨q, hq, e⟩ := List.mem_map.mp hm
      exact (put_C h (e ▸ h.cp q hq) (vO_ok h t)).sC
    · cases e
  | new n =>
    cases e
    obtain ⟨_, f1, f2⟩ := fresh_mem ts cs
    have := used_len h
    exact (put_C (put_T h n ⟨by omega, by omega⟩) ⟨by omega, by omega⟩ ⟨Int.le_refl _, by decide⟩).sC
  | free n =>
    have e : (if val ts n ∈ cs.map (·.1) then Re.done ts (sC (del cs (val ts n))) else .wrong) = .done ts' cs' := e
    split at e
    · cases e; exact (del_C h _).sC.mono (by omega)
    · cases e
  | test s n t =>
    have e : (if (val ts n == vO ts t) = s then Re.done ts cs else .ends) = .done ts' cs' := e
    split at e
    · cases e; exact h.mono (by omega)
    · cases e
end
end M99
end

section
/-! M99w: words apart. -/
namespace M99
open PySem PD DV PM PP PQ
@[simp] theorem ne_set_load : (("set" : Str) == "load") = false := by decide +kernel
@[simp] theorem np_set_load : (("set" : Str) = "load") = False := eq_false (by decide +kernel)
@[simp] theorem ne_set_store : (("set" : Str) == "store") = false := by decide +kernel
@[simp] theorem np_set_store : (("set" : Str) = "store") = False := eq_false (by decide +kernel)
@[simp] theorem ne_set_new : (("set" : Str) == "new") = false := by decide +kernel
@[simp] theorem np_set_new : (("set" : Str) = "new") = False := eq_false (by decide +kernel)
@[simp] theorem ne_set_free : (("set" : Str) == "free") = false := by decide +kernel
@[simp] theorem np_set_free : (("set" : Str) = "free") = False := eq_false (by decide +kernel)
@[simp] theorem ne_set_test : (("set" : Str) == "test") = false := by decide +kernel
@[simp] theorem np_set_test : (("set" : Str) = "test") = False := eq_false (by decide +kernel)
@[simp] theorem ne_load_set : (("load" : Str) == "set") = false := by decide +kernel
@[simp] theorem np_load_set : (("load" : Str) = "set") = False := eq_false (by decide +kernel)
@[simp] theorem ne_load_store : (("load" : Str) == "store") = false := by decide +kernel
@[simp] theorem np_load_store : (("load" : Str) = "store") = False := eq_false (by decide +kernel)
@[simp] theorem ne_load_new : (("load" : Str) == "new") = false := by decide +kernel
@[simp] theorem np_load_new : (("load" : Str) = "new") = False := eq_false (by decide +kernel)
@[simp] theorem ne_load_free : (("load" : Str) == "free") = false := by decide +kernel
@[simp] theorem np_load_free : (("load" : Str) = "free") = False := eq_false (by decide +kernel)
@[simp] theorem ne_load_test : (("load" : Str) == "test") = false := by decide +kernel
@[simp] theorem np_load_test : (("load" : Str) = "test") = False := eq_false (by decide +kernel)
@[simp] theorem ne_store_set : (("store" : Str) == "set") = false := by decide +kernel
@[simp] theorem np_store_set : (("store" : Str) = "set") = False := eq_false (by decide +kernel)
@[simp] theorem ne_store_load : (("store" : Str) == "load") = false := by decide +kernel
@[simp] theorem np_store_load : (("store" : Str) = "load") = False := eq_false (by decide +kernel)
@[simp] theorem ne_store_new : (("store" : Str) == "new") = false := by decide +kernel
@[simp] theorem np_store_new : (("store" : Str) = "new") = False := eq_false (by decide +kernel)
@[simp] theorem ne_store_free : (("store" : Str) == "free") = false := by decide +kernel
@[simp] theorem np_store_free : (("store" : Str) = "free") = False := eq_false (by decide +kernel)
@[simp] theorem ne_store_test : (("store" : Str) == "test") = false := by decide +kernel
@[simp] theorem np_store_test : (("store" : Str) = "test") = False := eq_false (by decide +kernel)
@[simp] theorem ne_new_set : (("new" : Str) == "set") = false := by decide +kernel
@[simp] theorem np_new_set : (("new" : Str) = "set") = False := eq_false (by decide +kernel)
@[simp] theorem ne_new_load : (("new" : Str) == "load") = false := by decide +kernel
@[simp] theorem np_new_load : (("new" : Str) = "load") = False := eq_false (by decide +kernel)
@[simp] theorem ne_new_store : (("new" : Str) == "store") = false := by decide +kernel
@[simp] theorem np_new_store : (("new" : Str) = "store") = False := eq_false (by decide +kernel)
@[simp] theorem ne_new_free : (("new" : Str) == "free") = false := by decide +kernel
@[simp] theorem np_new_free : (("new" : Str) = "free") = False := eq_false (by decide +kernel)
@[simp] theorem ne_new_test : (("new" : Str) == "test") = false := by decide +kernel
@[simp] theorem np_new_test : (("new" : Str) = "test") = False := eq_false (by decide +kernel)
@[simp] theorem ne_free_set : (("free" : Str) == "set") = false := by decide +kernel
@[simp] theorem np_free_set : (("free" : Str) = "set") = False := eq_false (by decide +kernel)
@[simp] theorem ne_free_load : (("free" : Str) == "load") = false := by decide +kernel
@[simp] theorem np_free_load : (("free" : Str) = "load") = False := eq_false (by decide +kernel)
@[simp] theorem ne_free_store : (("free" : Str) == "store") = false := by decide +kernel
@[simp] theorem np_free_store : (("free" : Str) = "store") = False := eq_false (by decide +kernel)
@[simp] theorem ne_free_new : (("free" : Str) == "new") = false := by decide +kernel
@[simp] theorem np_free_new : (("free" : Str) = "new") = False := eq_false (by decide +kernel)
@[simp] theorem ne_free_test : (("free" : Str) == "test") = false := by decide +kernel
@[simp] theorem np_free_test : (("free" : Str) = "test") = False := eq_false (by decide +kernel)
@[simp] theorem ne_test_set : (("test" : Str) == "set") = false := by decide +kernel
@[simp] theorem np_test_set : (("test" : Str) = "set") = False := eq_false (by decide +kernel)
@[simp] theorem ne_test_load : (("test" : Str) == "load") = false := by decide +kernel
@[simp] theorem np_test_load : (("test" : Str) = "load") = False := eq_false (by decide +kernel)
@[simp] theorem ne_test_store : (("test" : Str) == "store") = false := by decide +kernel
@[simp] theorem np_test_store : (("test" : Str) = "store") = False := eq_false (by decide +kernel)
@[simp] theorem ne_test_new : (("test" : Str) == "new") = false := by decide +kernel
@[simp] theorem np_test_new : (("test" : Str) = "new") = False := eq_false (by decide +kernel)
@[simp] theorem ne_test_free : (("test" : Str) == "free") = false := by decide +kernel
@[simp] theorem np_test_free : (("test" : Str) = "free") = False := eq_false (by decide +kernel)
@[simp] theorem ne_same_unlike : (("same" : Str) == "unlike") = false := by decide +kernel
@[simp] theorem np_same_unlike : (("same" : Str) = "unlike") = False := eq_false (by decide +kernel)
@[simp] theorem ne_unlike_same : (("unlike" : Str) == "same") = false := by decide +kernel
@[simp] theorem np_unlike_same : (("unlike" : Str) = "same") = False := eq_false (by decide +kernel)
@[simp] theorem ne_done_wrong : (("done" : Str) == "wrong") = false := by decide +kernel
@[simp] theorem np_done_wrong : (("done" : Str) = "wrong") = False := eq_false (by decide +kernel)
@[simp] theorem ne_done_ends : (("done" : Str) == "ends") = false := by decide +kernel
@[simp] theorem np_done_ends : (("done" : Str) = "ends") = False := eq_false (by decide +kernel)
@[simp] theorem ne_done_right : (("done" : Str) == "right") = false := by decide +kernel
@[simp] theorem np_done_right : (("done" : Str) = "right") = False := eq_false (by decide +kernel)
@[simp] theorem ne_done_noted : (("done" : Str) == "noted") = false := by decide +kernel
@[simp] theorem np_done_noted : (("done" : Str) = "noted") = False := eq_false (by decide +kernel)
@[simp] theorem ne_wrong_done : (("wrong" : Str) == "done") = false := by decide +kernel
@[simp] theorem np_wrong_done : (("wrong" : Str) = "done") = False := eq_false (by decide +kernel)
@[simp] theorem ne_wrong_ends : (("wrong" : Str) == "ends") = false := by decide +kernel
@[simp] theorem np_wrong_ends : (("wrong" : Str) = "ends") = False := eq_false (by decide +kernel)
@[simp] theorem ne_wrong_right : (("wrong" : Str) == "right") = false := by decide +kernel
@[simp] theorem np_wrong_right : (("wrong" : Str) = "right") = False := eq_false (by decide +kernel)
@[simp] theorem ne_wrong_noted : (("wrong" : Str) == "noted") = false := by decide +kernel
@[simp] theorem np_wrong_noted : (("wrong" : Str) = "noted") = False := eq_false (by decide +kernel)
@[simp] theorem ne_ends_done : (("ends" : Str) == "done") = false := by decide +kernel
@[simp] theorem np_ends_done : (("ends" : Str) = "done") = False := eq_false (by decide +kernel)
@[simp] theorem ne_ends_wrong : (("ends" : Str) == "wrong") = false := by decide +kernel
@[simp] theorem np_ends_wrong : (("ends" : Str) = "wrong") = False := eq_false (by decide +kernel)
@[simp] theorem ne_ends_right : (("ends" : Str) == "right") = false := by decide +kernel
@[simp] theorem np_ends_right : (("ends" : Str) = "right") = False := eq_false (by decide +kernel)
@[simp] theorem ne_ends_noted : (("ends" : Str) == "noted") = false := by decide +kernel
@[simp] theorem np_ends_noted : (("ends" : Str) = "noted") = False := eq_false (by decide +kernel)
@[simp] theorem ne_right_done : (("right" : Str) == "done") = false := by decide +kernel
@[simp] theorem np_right_done : (("right" : Str) = "done") = False := eq_false (by decide +kernel)
@[simp] theorem ne_right_wrong : (("right" : Str) == "wrong") = false := by decide +kernel
@[simp] theorem np_right_wrong : (("right" : Str) = "wrong") = False := eq_false (by decide +kernel)
@[simp] theorem ne_right_ends : (("right" : Str) == "ends") = false := by decide +kernel
@[simp] theorem np_right_ends : (("right" : Str) = "ends") = False := eq_false (by decide +kernel)
@[simp] theorem ne_right_noted : (("right" : Str) == "noted") = false := by decide +kernel
@[simp] theorem np_right_noted : (("right" : Str) = "noted") = False := eq_false (by decide +kernel)
@[simp] theorem ne_noted_done : (("noted" : Str) == "done") = false := by decide +kernel
@[simp] theorem np_noted_done : (("noted" : Str) = "done") = False := eq_false (by decide +kernel)
@[simp] theorem ne_noted_wrong : (("noted" : Str) == "wrong") = false := by decide +kernel
@[simp] theorem np_noted_wrong : (("noted" : Str) = "wrong") = False := eq_false (by decide +kernel)
@[simp] theorem ne_noted_ends : (("noted" : Str) == "ends") = false := by decide +kernel
@[simp] theorem np_noted_ends : (("noted" : Str) = "ends") = False := eq_false (by decide +kernel)
@[simp] theorem ne_noted_right : (("noted" : Str) == "right") = false := by decide +kernel
@[simp] theorem np_noted_right : (("noted" : Str) = "right") = False := eq_false (by decide +kernel)
@[simp] theorem ne_x_y : (("x" : Str) == "y") = false := by decide +kernel
@[simp] theorem np_x_y : (("x" : Str) = "y") = False := eq_false (by decide +kernel)
@[simp] theorem ne_y_x : (("y" : Str) == "x") = false := by decide +kernel
@[simp] theorem np_y_x : (("y" : Str) = "x") = False := eq_false (by decide +kernel)
end M99
end

section
/-! M99b: done, the law's step. -/
namespace M99
open PySem PD DV PM PP PQ
section
variable {k : Nat} {ts : Ts} {cs : Cs}
theorem check_step_ok (h : MOk k ts cs) (s : Sp) : F_check_step (mem ts cs) (dS s) = .ok .non := by
  unfold F_check_step m_check_step L_check_step_0
  simp only [mem0, R.bind_ok, dT h, step_ok, asB_bl, names_ok, itr_lst, Bool.not_true, Bool.false_eq_true, if_false]
  rw [compR_map (h := fun n : N => .bl ((fun _ => true) n))]
  · rw [R.bind_ok, R.bind_ok, dAll_map]
    simp
  · intro n _
    simp only [R.bind_ok, if_true]
    rw [in_dct keS, R.bind_ok, decide_eq_true (h.has n), R.bind_ok]
@[simp] theorem eq_str' (a b : Str) : dEq (.str a) (.str b) = .ok (a == b) := rfl
/-- the place that must be a cell's -/
def asks (ts : Ts) : Sp → Option Int
  | .load _ m => some (val ts m)
  | .store n _ => some (val ts n)
  | .free n => some (val ts n)
  | _ => none
def oI : Option Int → D
  | some v => .int v
  | none => .non
theorem in_two (a b c : Str) : dIn (.str c) (.tup [.str a, .str b]) = .ok (decide (c ∈ [a, b])) := dIn_tup eeS (by decide) [a, b] c
theorem in_three (a b d c : Str) : dIn (.str c) (.tup [.str a, .str b, .str d]) = .ok (decide (c ∈ [a, b, d])) := dIn_tup eeS (by decide) [a, b, d] c
theorem asked_ok (h : MOk k ts cs) (s : Sp) : F_asked_place (mem ts cs) (dS s) = .ok (oI (asks ts s)) := by
  unfold F_asked_place m_asked_place
  simp only [R.bind_ok, check_step_ok h, mem0, dT h]
  cases s <;> simp [dS, in_two, ixT h, asks, oI]
theorem place_told_ok (h : MOk k ts cs) (t : Option N) : F_place_told (dct D.str ts) (dO t) = .ok (.int (vO ts t)) := by
  unfold F_place_told m_place_told
  cases t <;> simp [dO, vO, ixT h]
theorem collV (l : List (Str × Int)) : dCollV (dct D.str l) = .ok (l.map fun p => .int p.2) := by
  show R.ok (valsD (kvE D.str (tE l))) = _
  rw [vals_dct]
theorem collVI (l : List (Int × Int)) : dCollV (dct D.int l) = .ok (l.map fun p => .int p.2) := by
  show R.ok (valsD (kvE D.int (tE l))) = _
  rw [vals_dct]
theorem collK (l : List (Int × Int)) : dColl (dct D.int l) = .ok (l.map fun p => .int p.1) := by
  show R.ok (keysD (kvE D.int (tE l))) = _
  rw [keys_dct]
theorem new_place_ok (h : MOk k ts cs) (hk : k ≤ 40) : F_new_place (dct D.str ts) (dct D.int cs) = .ok (.int (freshP ts cs)) := by
  unfold F_new_place m_new_place
  have hl := used_len h
  have hlt := h.lt
  have hlc := h.lc
  let u : List Int := ts.map (·.2) ++ (cs.map (·.2) ++ cs.map (·.1))
  have hu : ∀ x, x ∈ u ↔ x ∈ used ts cs := fun x => by
    show x ∈ ts.map (·.2) ++ (cs.map (·.2) ++ cs.map (·.1)) ↔ x ∈ ts.map (·.2) ++ cs.map (·.1) ++ cs.map (·.2)
    simp only [List.mem_append]
    constructor
    · rintro (a | b | c)
      · exact .inl (.inl a)
      · exact .inr b
      · exact .inl (.inr c)
    · rintro ((a | c) | b)
      · exact .inl a
      · exact .inr (.inr c)
      · exact .inr (.inl b)
  have e1 : ((ts.map fun p => D.int p.2) ++ ((cs.map fun p => D.int p.2) ++ ((cs.map fun p => D.int p.1) ++ []))) = u.map .int := by
    show _ = (ts.map (·.2) ++ (cs.map (·.2) ++ cs.map (·.1))).map D.int
    rw [List.map_append, List.map_append, List.map_map, List.map_map, List.map_map, List.append_nil]
    rfl
  have hz : szOk (u.map D.int) = .ok (u.map .int) := if_pos (by
    rw [List.length_map]
    show (ts.map (·.2) ++ (cs.map (·.2) ++ cs.map (·.1))).length ≤ _
    rw [List.length_append, List.length_append, List.length_map, List.length_map, List.length_map]
    exact size_ok (by omega))
  simp only [R.bind_ok, collV, collVI, collK, e1, hz, itr_lst]
  rw [comp_set (k := fun x : Int => x) (g := D.int) (l := u) fun x _ => by unfold L_new_place_0; simp]
  simp only [R.bind_ok, List.map_id', show D.dct (kvE D.int (sE (addAll [] u))) = fd (addAll [] u) from rfl]
  have hin : ∀ p, dIn (.int p) (fd (addAll [] u)) = .ok (decide (p ∈ used ts cs)) := fun p => by
    rw [inF]
    congr 2
    rw [addAll_mem, hu]
    simp
  obtain ⟨s', hs, r⟩ := whileR_spec (β := Empty) (em := D.int) (t := L_new_place_1 (fd (addAll [] u))) (f := L_new_place_2) (fun p => 1 ≤ p ∧ p ≤ freshP ts cs) (fun p => (freshP ts cs - p).toNat) (fun p hp => by
    by_cases hm : p ∈ used ts cs
    · right
      have : p ≠ freshP ts cs := fun z => (fresh_mem ts cs).1 (z ▸ hm)
      refine ⟨by unfold L_new_place_1; simp [hin, hm], .inl ⟨p + 1, by unfold L_new_place_2; simp [augI], ⟨by omega, by omega⟩, by omega⟩⟩
    · left
      unfold L_new_place_1; simp [hin, hm]) 1000 1 ⟨Int.le_refl _, (fresh_mem ts cs).2.1⟩ (by have := (fresh_mem ts cs).2.2; omega)
  rcases r with ⟨t, e⟩ | ⟨d, b, _, e, _⟩
  · rw [e]
    have hm : s' ∉ used ts cs := by
      unfold L_new_place_1 at t
      simp [hin] at t
      exact t
    have := fresh_least hs.1 hm
    have : s' = freshP ts cs := by omega
    subst this
    simp
  · exfalso
    revert e
    unfold L_new_place_2
    simp [augI]
theorem memory_of_ok (h : MOk k ts cs) : F_memory_of (dct D.str ts) (dct D.int cs) = .ok (mem ts (sC cs)) := by
  unfold F_memory_of m_memory_of
  have e1 : dCollI (dct D.str ts) = .ok (itD D.str ts) := by show R.ok (itemsD (kvE D.str (tE ts))) = _; rw [items_dct]
  have e2 : dCollI (dct D.int cs) = .ok (itD D.int cs) := by show R.ok (itemsD (kvE D.int (tE cs))) = _; rw [items_dct]
  simp only [R.bind_ok, e1, e2, sort_items koS h.nd, sort_items koI h.nc, srtT h, tuple_lst, done_rt]
  rfl
theorem dct_len (l : List (Int × Int)) : dLen (dct D.int l) = .ok (.int l.length) := by
  show R.ok (D.int (kvE D.int (tE l)).length) = _
  unfold kvE tE
  rw [List.length_map, List.length_map]
theorem putT_ok (h : MOk k ts cs) (n : N) (v : Int) : dPut (dct D.str ts) (.str n.s) (.int v) = .ok (dct D.str (put ts n.s v)) := put_dct keS (by have := h.lt; omega) _ _
theorem putC_ok (h : MOk k ts cs) (hk : k ≤ 40) (p v : Int) : dPut (dct D.int cs) (.int p) (.int v) = .ok (dct D.int (put cs p v)) := put_dct keI (by have := h.lc; omega) _ _
theorem dct_def (l : List (Int × Int)) : dDct (dct D.int l) = .ok (kvE D.int (tE l)) := rfl
theorem ixC {p v : Int} (h : get cs p = some v) : dIx (dct D.int cs) (.int p) = .ok (.int v) := ix_dct' keI h
/-- what a step changes, the cells as the dict has them -/
def chg (ts : Ts) (cs : Cs) : Sp → Ts × Cs
  | .set n t => (put ts n.s (vO ts t), cs)
  | .load n m => (put ts n.s ((get cs (val ts m)).getD 0), cs)
  | .store n t => (ts, put cs (val ts n) (vO ts t))
  | .new n => (put ts n.s (freshP ts cs), put cs (freshP ts cs) 0)
  | .free n => (ts, del cs (val ts n))
  | .test _ _ _ => (ts, cs)
def isTest : Sp → Bool
  | .test _ _ _ => true
  | _ => false
@[simp] theorem ifT {α : Type} {a b : α} : (if true = true then a else b) = a := if_pos rfl
@[simp] theorem ifF {α : Type} {a b : α} : (if false = true then a else b) = b := if_neg (by simp)
@[simp] theorem doneI2_nx (r : D × D) : doneI2 (.ok (.nx r)) = .ok r := rfl
theorem changed_ok (h : MOk k ts cs) (hk : k ≤ 40) (s : Sp) (ht : isTest s = false) (ha : ∀ p, asks ts s = some p → p ∈ cs.map (·.1)) : F_changed (dct D.str ts) (dct D.int cs) (dS s) = .ok (dct D.str (chg ts cs s).1, dct D.int (chg ts cs s).2) := by
  unfold F_changed m_changed
  cases s with
  | test _ _ _ => cases ht
  | set n t => simp [dS, ap2, place_told_ok h, putT_ok h, chg]
  | load n m =>
    obtain ⟨v, hv⟩ := get_some (ha _ rfl)
    simp [dS, ixT h, ixC hv, putT_ok h, chg, hv]
  | store n t => simp [dS, ap2, place_told_ok h, ixT h, putC_ok h hk, chg]
  | free n => simp [dS, ixT h, dct_def, del_dct keI (ha _ rfl), chg]
  | new n =>
    have hl : ¬ (60 : Int) ≤ cs.length := by have := h.lc; omega
    simp [dS, ap2, new_place_ok h hk, dct_len, hl, putC_ok h hk, putT_ok h, chg]
def resD : Re → D
  | .wrong => .tup [.str "wrong"]
  | .ends => .tup [.str "ends"]
  | .done ts cs => .tup [.str "done", mem ts cs]
theorem stepT_done (s : Sp) (ht : isTest s = false) (ha : ∀ p, asks ts s = some p → p ∈ cs.map (·.1)) : stepT ts cs s = .done (chg ts cs s).1 (sC (chg ts cs s).2) := by
  cases s with
  | test _ _ _ => cases ht
  | load n m =>
    obtain ⟨v, hv⟩ := get_some (ha _ rfl)
    show (match get cs (val ts m) with | some v => Re.done (put ts n.s v) (sC cs) | none => .wrong) = .done (put ts n.s ((get cs (val ts m)).getD 0)) (sC cs)
    rw [hv]
    rfl
  | store n t => exact if_pos (ha _ rfl)
  | free n => exact if_pos (ha _ rfl)
  | _ => rfl
theorem stepT_wrong (s : Sp) {p : Int} (hp : asks ts s = some p) (hn : p ∉ cs.map (·.1)) : stepT ts cs s = .wrong := by
  cases s with
  | load n m =>
    cases hp
    show (match get cs (val ts m) with | some v => Re.done (put ts n.s v) (sC cs) | none => .wrong) = _
    rw [get_none.mpr hn]
  | store n t => cases hp; exact if_neg hn
  | free n => cases hp; exact if_neg hn
  | _ => cases hp
theorem chg_mok (h : MOk k ts cs) (hk : k ≤ 40) (s : Sp) (ht : isTest s = false) (ha : ∀ p, asks ts s = some p → p ∈ cs.map (·.1)) : MOk (k + 1) (chg ts cs s).1 (chg ts cs s).2 := by
  cases s with
  | test _ _ _ => cases ht
  | set n t => exact (put_T h n (vO_ok h t)).mono (by omega)
  | load n m =>
    obtain ⟨v, hv⟩ := get_some (ha _ rfl)
    show MOk (k + 1) (put ts n.s ((get cs (val ts m)).getD 0)) cs
    rw [hv]
    exact (put_T h n (h.cv _ (get_mem hv))).mono (by omega)
  | store n t =>
    obtain ⟨q, hq, e⟩ := List.mem_map.mp (ha _ rfl)
    exact put_C h (e ▸ h.cp q hq) (vO_ok h t)
  | new n =>
    obtain ⟨_, f1, f2⟩ := fresh_mem ts cs
    have := used_len h
    exact put_C (put_T h n ⟨by omega, by omega⟩) ⟨by omega, by omega⟩ ⟨Int.le_refl _, by decide⟩
  | free n => exact (del_C h _).mono (by omega)
theorem done_ok (h : MOk k ts cs) (hk : k ≤ 40) (s : Sp) : F_done (mem ts cs) (dS s) = .ok (resD (stepT ts cs s)) := by
  unfold F_done m_done
  have notInC : ∀ p, dNotIn (.int p) (dct D.int cs) = .ok (!decide (p ∈ cs.map (·.1))) := notIn_dct keI cs
  simp only [R.bind_ok, asked_ok h, mem0, mem1, dT h, dC h, isNot_non]
  by_cases hw : ∃ p, asks ts s = some p ∧ p ∉ cs.map (·.1)
  · obtain ⟨p, hp, hn⟩ := hw
    rw [stepT_wrong s hp hn, hp]
    simp [oI, notInC, hn, resD]
  · have ha : ∀ p, asks ts s = some p → p ∈ cs.map (·.1) := fun p hp => Classical.byContradiction fun hn => hw ⟨p, hp, hn⟩
    have hc : (if (!(oI (asks ts s)).isNon) = true then dNotIn (oI (asks ts s)) (dct D.int cs) else .ok false) = .ok false := by
      cases e : asks ts s with
      | none => rfl
      | some p => rw [show (!(oI (some p)).isNon) = true from rfl, if_pos rfl]; show dNotIn (.int p) _ = _; rw [notInC, decide_eq_true (ha p e)]; rfl
    rw [hc]
    simp only [R.bind_ok, Bool.false_eq_true, if_false]
    cases ht : isTest s with
    | true =>
      cases s with
      | test b n t =>
        have e : stepT ts cs (.test b n t) = if (val ts n == vO ts t) = b then .done ts cs else .ends := rfl
        rw [e]
        cases b <;> cases hq : (val ts n == vO ts t) <;> simp [dS, ixT h, ap2, place_told_ok h, hq, dW, dEq, D.eqv, D.pl, resD]
      | _ => cases ht
    | false =>
      have hm := chg_mok h hk s ht ha
      have hw : (((dIx (dS s) (.int 0)).bind fun x => dEq x (.str "test"))) = .ok false := by
        cases s with
        | test _ _ _ => cases ht
        | _ => simp [dS]
      rw [stepT_done s ht ha, hw]
      simp only [R.bind_ok, Bool.false_eq_true, if_false, apj1, changed_ok h hk s ht ha, nox_ok, memory_of_ok hm, done_rt, resD]
end
end M99
end

section
/-! M99c: the law's step. -/
namespace M99
open PySem PD DV PM PP PQ
section
variable {k : Nat} {ts : Ts} {cs : Cs}
theorem law_place_ok (h : MOk k ts cs) (t : Option N) : F__law_place (mem ts cs) (dO t) = .ok (.int (vO ts t)) := by
  unfold F__law_place m__law_place
  cases t <;> simp [dO, vO, ixT h, dT h]
theorem law_placeN (h : MOk k ts cs) (n : N) : F__law_place (mem ts cs) (.str n.s) = .ok (.int (val ts n)) := law_place_ok h (some n)
theorem dSorted_dct {κ : Type} [DecidableEq κ] {e : κ → D} (h : KO e) (l : List (κ × Int)) : dSorted (dct e l) = .ok (.lst ((srt e l).map fun p => e p.1)) := by
  show dSortL (keysD (kvE e (tE l))) = _
  rw [keys_dct, sort_keys h]
theorem law_end (h : MOk k ts cs) : K__law_step_0 (dct D.str ts, dct D.int cs) = .ok (.rt (.tup [.str "done", mem ts (sC cs)]) none) := by
  unfold K__law_step_0
  have e1 : compR (L__law_step_5 (dct D.str ts, dct D.int cs)) (ts.map fun p => D.str p.1) = .ok (itD D.str ts) := by
    unfold itD
    refine compR_map fun p hp => ?_
    unfold L__law_step_5
    have : dIx (dct D.str ts) (.str p.1) = .ok (.int p.2) := ix_dct' keS (get_of h.nd hp)
    simp [this]
  have e2 : compR (L__law_step_4 (dct D.str ts, dct D.int cs)) ((sC cs).map fun p => D.int p.1) = .ok (itD D.int (sC cs)) := by
    unfold itD
    refine compR_map fun p hp => ?_
    unfold L__law_step_4
    have : dIx (dct D.int cs) (.int p.1) = .ok (.int p.2) := ix_dct' keI (get_of h.nc (srt_mem.mp hp))
    simp [this]
  simp only [R.bind_ok, dSorted_dct koS, dSorted_dct koI, srtT h, itr_lst, e1, tuple_lst]
  rw [show (srt D.int cs).map (fun p => D.int p.1) = (sC cs).map fun p => D.int p.1 from rfl, e2]
  simp only [R.bind_ok, tuple_lst]
  rfl
def lawD (ts : Ts) (cs : Cs) : Re → D
  | .wrong => .tup [.str "wrong", mem ts cs]
  | .ends => .tup [.str "ends", mem ts cs]
  | .done ts' cs' => .tup [.str "done", mem ts' cs']
theorem iter_dctS (l : List (Str × Int)) : dIter (dct D.str l) = .ok (l.map fun p => .str p.1) := by
  show R.ok (keysD (kvE D.str (tE l))) = _
  rw [keys_dct]
theorem iter_dctI (l : List (Int × Int)) : dIter (dct D.int l) = .ok (l.map fun p => .int p.1) := by
  show R.ok (keysD (kvE D.int (tE l))) = _
  rw [keys_dct]
theorem noBox_ints : ∀ l : List Int, D.noBoxL (l.map .int) = true
  | [] => rfl
  | x :: l => by rw [List.map_cons, D.noBoxL, noBox_ints l]; rfl
theorem flat_ints (l : List Int) : flatL (.lst (l.map .int)) = .ok (.lst (l.map .int)) := by
  show (if D.noBoxL (l.map .int) = true then R.ok (D.lst (l.map .int)) else .bad) = _
  rw [if_pos (noBox_ints l)]
theorem cat_ints {a b : List Int} (h : a.length + b.length ≤ 1000) : dCat (.lst (a.map .int)) (.lst (b.map .int)) = .ok (.lst ((a ++ b).map .int)) := by
  show (if (a.map D.int).length + (b.map D.int).length ≤ 1000000 then R.ok (D.lst (a.map .int ++ b.map .int)) else .bad) = _
  rw [if_pos (by rw [List.length_map, List.length_map]; omega), List.map_append]
theorem law_new (h : MOk k ts cs) (hk : k ≤ 40) : ((((dIter (dct D.str ts)).bind fun ds => (compR (L__law_step_0 (dct D.str ts)) ds).bind fun l => R.ok (.lst l)).bind fun x => ((dIter (dct D.int cs)).bind fun ds => (compR L__law_step_1 ds).bind fun l => R.ok (.lst l)).bind fun y => dCat x y).bind fun x => ((dIter (dct D.int cs)).bind fun ds => (compR (L__law_step_2 (dct D.int cs)) ds).bind fun l => R.ok (.lst l)).bind fun y => dCat x y) = .ok (.lst ((used ts cs).map .int)) := by
  have hlc := h.lc
  have hlt := h.lt
  have e1 : compR (L__law_step_0 (dct D.str ts)) (ts.map fun p => D.str p.1) = .ok (ts.map fun p => .int p.2) := compR_map fun p hp => by
    unfold L__law_step_0
    have : dIx (dct D.str ts) (.str p.1) = .ok (.int p.2) := ix_dct' keS (get_of h.nd hp)
    simp [this]
  have e2 : compR L__law_step_1 (cs.map fun p => D.int p.1) = .ok (cs.map fun p => .int p.1) := compR_map fun p hp => by
    unfold L__law_step_1
    simp
  have e3 : compR (L__law_step_2 (dct D.int cs)) (cs.map fun p => D.int p.1) = .ok (cs.map fun p => .int p.2) := compR_map fun p hp => by
    unfold L__law_step_2
    have : dIx (dct D.int cs) (.int p.1) = .ok (.int p.2) := ix_dct' keI (get_of h.nc hp)
    simp [this]
  have m : ∀ {α : Type} (f : α → Int) (l : List α), (l.map fun p => D.int (f p)) = (l.map f).map .int := fun f l => by rw [List.map_map]; rfl
  simp only [iter_dctS, iter_dctI, R.bind_ok, e1, e2, e3]
  rw [m (fun p : Str × Int => p.2), m (fun p : Int × Int => p.1), m (fun p : Int × Int => p.2), cat_ints (by rw [List.length_map, List.length_map]; omega), R.bind_ok, cat_ints (by rw [List.length_append, List.length_map, List.length_map, List.length_map]; omega)]
  rfl
theorem law_min (h : MOk k ts cs) (hk : k ≤ 40) : (((dLen (D.lst ((used ts cs).map D.int))).bind fun x => dAdd x (.int 2)).bind fun y => dRng2 (.int 1) y).bind (fun ds => (compR (L__law_step_3 (D.lst ((used ts cs).map D.int))) ds).bind fun l => R.ok (D.lst l)) = .ok (D.lst ((cand ts cs).map D.int)) := by
  have hl := used_len h
  simp only [len_lst, List.length_map, R.bind_ok, add_int]
  rw [rng2 (by decide) (by omega) (by decide) (by omega), R.bind_ok, compR_if (g := fun i : Nat => D.int ((1 : Int) + i)) (h := fun i : Nat => D.int ((1 : Int) + i)) (q := fun i : Nat => decide (((1 : Int) + i) ∉ used ts cs))]
  · rw [R.bind_ok]
    unfold cand
    have e : (((used ts cs).length : Int) + 2 - 1).toNat = (used ts cs).length + 1 := by omega
    rw [e, List.filter_map, List.map_map]
    rfl
  · intro i _
    unfold L__law_step_3
    simp only [R.bind_ok]
    rw [dNotIn_lst eeI (by decide)]
    by_cases hm : ((1 : Int) + i) ∈ used ts cs
    · simp [hm]
    · simp [hm]
theorem law_step_ok (h : MOk k ts cs) (hk : k ≤ 40) (s : Sp) : F__law_step (mem ts cs) (dS s) = .ok (lawD ts cs (stepT ts cs s)) := by
  have notInC : ∀ p, dNotIn (.int p) (dct D.int cs) = .ok (!decide (p ∈ cs.map (·.1))) := notIn_dct keI cs
  unfold F__law_step m__law_step
  simp only [R.bind_ok, mem0, mem1, dT h, dC h]
  cases ht : isTest s with
  | true =>
    cases s with
    | test b n t =>
      have e : stepT ts cs (.test b n t) = if (val ts n == vO ts t) = b then .done ts cs else .ends := rfl
      rw [e]
      cases b <;> cases hq : (val ts n == vO ts t) <;> simp [dS, law_place_ok h, law_placeN h, hq, dW, dEq, D.eqv, D.pl, lawD]
    | _ => cases ht
  | false =>
    by_cases hw : ∃ p, asks ts s = some p ∧ p ∉ cs.map (·.1)
    · obtain ⟨p, hp, hn⟩ := hw
      rw [stepT_wrong s hp hn]
      cases s with
      | load n m => cases hp; simp [dS, ixT h, in_three, notInC, hn, lawD]
      | store n m => cases hp; simp [dS, ixT h, in_three, notInC, hn, lawD]
      | free n => cases hp; simp [dS, ixT h, in_three, notInC, hn, lawD]
      | _ => cases hp
    · have ha : ∀ p, asks ts s = some p → p ∈ cs.map (·.1) := fun p hp => Classical.byContradiction fun hn => hw ⟨p, hp, hn⟩
      have hm := chg_mok h hk s ht ha
      rw [stepT_done s ht ha]
      have le := law_end hm
      cases s with
      | test _ _ _ => cases ht
      | set n t => simp only [chg] at le; simp [dS, ixT h, in_three, law_place_ok h, putT_ok h, lawD, le, chg]
      | load n m =>
        have hm' := ha _ rfl
        obtain ⟨v, hv⟩ := get_some hm'
        simp only [chg, hv, Option.getD_some] at le
        simp [dS, ixT h, in_three, notInC, hm', ixC hv, putT_ok h, lawD, le, chg, hv]
      | store n t =>
        have hm' := ha _ rfl
        simp only [chg] at le
        simp [dS, ixT h, in_three, notInC, hm', law_place_ok h, putC_ok h hk, lawD, le, chg]
      | free n =>
        have hm' := ha _ rfl
        simp only [chg] at le
        simp [dS, ixT h, in_three, notInC, hm', dct_def, del_dct keI hm', lawD, le, chg]
      | new n =>
        have l1 := law_new h hk
        have l2 := law_min h hk
        simp only [chg] at le
        simp only [dS, ix_t0, ix_t1, R.bind_ok, eq_str', ne_new_test, ne_new_load, Bool.false_eq_true, if_false, ixT h, in_three, List.mem_cons, np_new_load, np_new_store, np_new_free, List.not_mem_nil, or_false, decide_false, ne_new_set, ne_new_store, ne_new_free, l1, flat_ints]
        simp only [l2, R.bind_ok, dMin_ints (cand_ne ts cs)]
        simp [putT_ok h, putC_ok h hk, show mn (cand ts cs) = freshP ts cs from rfl, le, lawD, chg]
end
end M99
end

section
/-! M99d: logs. -/
namespace M99
open PySem PD DV PM PP PQ
abbrev Row := Sp × Ts
def dRow (r : Row) : D := .tup [dS r.1, .tup (itD D.str r.2)]
def logD (ts : Ts) (cs : Cs) (rows : List Row) : D := .tup [mem ts cs, .tup (rows.map dRow)]
@[simp] theorem log0 (ts : Ts) (cs : Cs) (rows : List Row) : dIx (logD ts cs rows) (.int 0) = .ok (mem ts cs) := ix_t0 _ _
@[simp] theorem log1 (ts : Ts) (cs : Cs) (rows : List Row) : dIx (logD ts cs rows) (.int 1) = .ok (.tup (rows.map dRow)) := ix_t1 _ _ _
def logT : Ts → Cs → List Sp → List Row
  | _, _, [] => []
  | ts, cs, s :: r => match stepT ts cs s with
    | .done ts' cs' => (s, ts') :: logT ts' cs' r
    | _ => []
theorem logT_done {ts ts' : Ts} {cs cs' : Cs} {s : Sp} {r : List Sp} (e : stepT ts cs s = .done ts' cs') : logT ts cs (s :: r) = (s, ts') :: logT ts' cs' r := by
  show (match stepT ts cs s with | .done ts' cs' => (s, ts') :: logT ts' cs' r | _ => []) = _
  rw [e]
theorem logT_no {ts : Ts} {cs : Cs} {s : Sp} {r : List Sp} (e : ∀ ts' cs', stepT ts cs s ≠ .done ts' cs') : logT ts cs (s :: r) = [] := by
  show (match stepT ts cs s with | .done ts' cs' => (s, ts') :: logT ts' cs' r | _ => []) = _
  cases h : stepT ts cs s with
  | done a b => exact absurd h (e a b)
  | _ => rfl
theorem app_ok {rows : List D} {d : D} (h : rows.length ≤ 1000) : appL rows d = .ok (.lst (rows ++ [d])) := if_pos (size_lt (by omega))
section
variable {k : Nat} {ts : Ts} {cs : Cs}
theorem law_logged_loop : ∀ (l : List Sp) (k : Nat) (ts : Ts) (cs : Cs) (acc : List Row), MOk k ts cs → k + l.length ≤ 40 → acc.length + l.length ≤ 100 →
    (forR L__law_logged_0 (l.map dS) (.lst (acc.map dRow), mem ts cs)).bind (Fl.go fun s1 : D × D => ((R.ok s1.1).bind dTuple).bind fun d => .ok (.rt d none)) = (.ok (.rt (.tup ((acc ++ logT ts cs l).map dRow)) none) : R (Fl Unit Empty))
  | [], k, ts, cs, acc, h, hk, ha => by simp [logT]
  | s :: l, k, ts, cs, acc, h, hk, ha => by
    rw [List.map_cons]
    have hs := law_step_ok h (by simp at hk; omega) s
    cases e : stepT ts cs s with
    | done ts' cs' =>
      have hm := step_mok h (by simp at hk; omega) s e
      rw [forR_cons_nx (s' := (.lst ((acc ++ [(s, ts')]).map dRow), mem ts' cs'))]
      · rw [law_logged_loop l (k + 1) ts' cs' (acc ++ [(s, ts')]) hm (by simp at hk ⊢; omega) (by simp at ha ⊢; omega), logT_done e, List.append_assoc]
        rfl
      · unfold L__law_logged_0
        simp only [R.bind_ok, hs, e, lawD, un2_tup, ne_str, beq_self_eq_true, Bool.not_true, Bool.false_eq_true, if_false, mem0, lst_lst]
        rw [app_ok (by rw [List.length_map]; omega), R.bind_ok, List.map_append]
        rfl
    | wrong =>
      rw [forR_cons_rt (d := .tup (acc.map dRow)) (b := none), logT_no (fun a b z => by rw [e] at z; cases z)]
      · simp
      · unfold L__law_logged_0
        simp [hs, e, lawD]
    | ends =>
      rw [forR_cons_rt (d := .tup (acc.map dRow)) (b := none), logT_no (fun a b z => by rw [e] at z; cases z)]
      · simp
      · unfold L__law_logged_0
        simp [hs, e, lawD]
theorem law_logged_ok (h : MOk k ts cs) (l : List Sp) (hk : k + l.length ≤ 40) : F__law_logged (mem ts cs) (.tup (l.map dS)) = .ok (.tup ((logT ts cs l).map dRow)) := by
  unfold F__law_logged m__law_logged
  simp only [R.bind_ok, itr_tup]
  have := law_logged_loop l k ts cs [] h hk (by simp; omega)
  simp only [List.map_nil, List.nil_append, R.bind_ok] at this
  rw [this]
  rfl
theorem log_of_loop : ∀ (l : List Sp) (k : Nat) (ts : Ts) (cs : Cs) (acc : List Row) (d0 : D), MOk k ts cs → k + l.length ≤ 40 → acc.length + l.length ≤ 100 →
    ∃ m, (forR L_log_of_3 (l.map dS) (mem ts cs, .lst (acc.map dRow)) : R (Fl (D × D) Empty)) = .ok (.nx (m, .lst ((acc ++ logT ts cs l).map dRow)))
  | [], k, ts, cs, acc, d0, h, hk, ha => ⟨mem ts cs, by simp [logT]⟩
  | s :: l, k, ts, cs, acc, d0, h, hk, ha => by
    rw [List.map_cons]
    have hs := done_ok h (by simp at hk; omega) s
    cases e : stepT ts cs s with
    | done ts' cs' =>
      have hm := step_mok h (by simp at hk; omega) s e
      obtain ⟨m, hm2⟩ := log_of_loop l (k + 1) ts' cs' (acc ++ [(s, ts')]) d0 hm (by simp at hk ⊢; omega) (by simp at ha ⊢; omega)
      refine ⟨m, ?_⟩
      rw [forR_cons_nx (s' := (mem ts' cs', .lst ((acc ++ [(s, ts')]).map dRow))), hm2, logT_done e, List.append_assoc]
      · rfl
      · unfold L_log_of_3
        simp only [R.bind_ok, hs, e, resD, ix_t0, ix_t1, ne_str, beq_self_eq_true, Bool.not_true, Bool.false_eq_true, if_false, mem0, lst_lst]
        rw [app_ok (by rw [List.length_map]; omega), R.bind_ok, List.map_append]
        rfl
    | wrong =>
      refine ⟨mem ts cs, ?_⟩
      rw [forR_cons_bk (s' := (mem ts cs, .lst (acc.map dRow))), logT_no (fun a b z => by rw [e] at z; cases z)]
      · simp
      · unfold L_log_of_3
        simp [hs, e, resD]
    | ends =>
      refine ⟨mem ts cs, ?_⟩
      rw [forR_cons_bk (s' := (mem ts cs, .lst (acc.map dRow))), logT_no (fun a b z => by rw [e] at z; cases z)]
      · simp
      · unfold L_log_of_3
        simp [hs, e, resD]
@[simp] theorem chk_self (x : Str) : chkFn x (.fn x) = .ok () := chkFn_ok x
theorem tup_of_steps (l : List Sp) : F_is_tuple_of__is_step_forms (.tup (l.map dS)) = .ok (.bl true) := by
  unfold F_is_tuple_of__is_step_forms m_is_tuple_of__is_step_forms
  have : compR L_is_tuple_of__is_step_forms_0 (l.map dS) = .ok (l.map fun s => .bl ((fun _ => true) s)) := compR_map fun s _ => by
    unfold L_is_tuple_of__is_step_forms_0
    simp [tabR, ap1, forms_ok]
  simp only [R.bind_ok, dIsI, isTy, asB_bl, if_true, itr_tup, this, dAll_map]
  simp
theorem names_in (n : N) : (n.s : Str) ∈ [("x" : Str), "y"] := by cases n <;> decide
theorem uniq_len (s : Sp) : (uniq (partsL s)).length ≤ 2 := by
  have hp : ∀ m : List N, m.length ≤ 2 → (uniq m).length ≤ 2 := fun m hm => by
    unfold uniq
    split
    · exact by decide
    · exact by decide
    · exact by decide
    · exact hm
  refine hp _ ?_
  cases s with
  | set n t => cases t <;> simp [partsL]
  | store n t => cases t <;> simp [partsL]
  | test s n t => cases t <;> simp [partsL]
  | _ => simp [partsL]
theorem log_of_ok (h : MOk k ts cs) (l : List Sp) (hk : k + l.length ≤ 40) : F_log_of (mem ts cs) (.tup (l.map dS)) = .ok (logD ts cs (logT ts cs l)) := by
  unfold F_log_of m_log_of
  obtain ⟨m, hm⟩ := log_of_loop l k ts cs [] .non h hk (by simp; omega)
  have hl : ¬ (200 : Int) < (l.length : Nat) := by omega
  have e1 : compR L_log_of_0 (itD D.str ts) = .ok (ts.map fun p => .str p.1) := by
    unfold itD
    exact compR_map fun p _ => by unfold L_log_of_0; simp
  have e2 : compR2 (L_log_of_2 (.lst (ts.map fun p => D.str p.1))) (l.map dS) = .ok ((l.flatMap fun s => uniq (partsL s)).map fun n => .bl ((fun _ => true) n)) := by
    have hin : ∀ n : N, dIn (.str n.s) (.lst (ts.map fun p => D.str p.1)) = .ok true := fun n => by
      have : (ts.map fun p => D.str p.1) = (ts.map (·.1)).map D.str := by rw [List.map_map]; rfl
      rw [this, dIn_lst eeS (by decide), decide_eq_true (h.has n)]
    clear hm hk hl
    induction l with
    | nil => rfl
    | cons s l ih =>
      rw [List.map_cons, compR2]
      have : L_log_of_2 (.lst (ts.map fun p => D.str p.1)) (dS s) = .ok ((uniq (partsL s)).map fun n => .bl ((fun _ => true) n)) := by
        unfold L_log_of_2
        simp only [R.bind_ok, if_true, stepn_ok, itr_tup]
        exact compR_map fun n _ => by unfold L_log_of_1; simp [hin]
      rw [this, nox_ok, R.bind_ok, ih, R.bind_ok, ← List.map_append]
      rfl
  have hsz : ((l.flatMap fun s => uniq (partsL s)).map fun n : N => D.bl ((fun _ => true) n)).length ≤ 1000 := by
    have hu := uniq_len
    have hf : ∀ l : List Sp, (l.flatMap fun s => uniq (partsL s)).length ≤ 2 * l.length := fun l => by
      induction l with
      | nil => simp
      | cons s l ih =>
        rw [List.flatMap_cons, List.length_append, List.length_cons]
        have := hu s
        omega
    have := hf l
    rw [List.length_map]
    omega
  have hz : szOk ((l.flatMap fun s => uniq (partsL s)).map fun n : N => D.bl ((fun _ => true) n)) = .ok _ := if_pos (size_ok (by omega))
  simp only [R.bind_ok, G_is_tuple_of__is_step_forms, chk_self, tup_of_steps, asB_bl, Bool.not_true, Bool.false_eq_true, if_false, len_tup, List.length_map, gt_int, decide_eq_false hl, mem0, itr_tup, e1, e2, hz, dAll_map]
  simp only [List.map_nil] at hm
  simp [hm, logD]
end
end M99
end

section
/-! M99e: logs played. -/
namespace M99
open PySem PD DV PM PP PQ
def eF (i : Nat) (l : List Row) : List D := (l.zipIdx i).map fun p => .tup [.int (p.2 : Nat), dRow p.1]
theorem enum_rows (l : List Row) : enumD (l.map dRow) = eF 0 l := by
  unfold enumD eF
  rw [List.zipIdx_map, List.map_map]; rfl
theorem eF_cons (i : Nat) (r : Row) (l : List Row) : eF i (r :: l) = .tup [.int (i : Nat), dRow r] :: eF (i + 1) l := by
  unfold eF
  rw [List.zipIdx_cons]; rfl
theorem src_tup {l : List D} (h : l.length ≤ 1000) : dSrc (.tup l) = .ok l := if_pos (size_ok (by omega))
def Named (l : Ts) : Prop := ∀ p ∈ l, p.1 = "x" ∨ p.1 = "y"
structure RowOk (r : Row) : Prop where
  nm : Named r.2
  nd : (r.2.map (·.1)).Nodup
  v : ∀ p ∈ r.2, 0 ≤ p.2 ∧ p.2 ≤ 101
  l : r.2.length ≤ 2
def soT (ts noted : Ts) : Bool := noted.all fun p => decide (get ts p.1 = some p.2)
inductive Wd where
  | wrong | ends | noted | right
  deriving DecidableEq
def Wd.s : Wd → Str
  | .wrong => "wrong"
  | .ends => "ends"
  | .noted => "noted"
  | .right => "right"
def playT : Nat → Ts → Cs → List Row → Nat × Wd × Ts × Cs
  | i, ts, cs, [] => (i, .right, ts, cs)
  | i, ts, cs, r :: l => match stepT ts cs r.1 with
    | .wrong => (i, .wrong, ts, cs)
    | .ends => (i, .ends, ts, cs)
    | .done ts' cs' => if soT ts' r.2 = true then playT (i + 1) ts' cs' l else (i, .noted, ts', cs')
def playD (p : Nat × Wd × Ts × Cs) : D := .tup [.int (p.1 : Nat), .str p.2.1.s, mem p.2.2.1 p.2.2.2]
section
variable {k : Nat} {ts : Ts} {cs : Cs}
theorem MOk.hasS (h : MOk k ts cs) {x : Str} (e : x = "x" ∨ x = "y") : x ∈ ts.map (·.1) := by
  rw [h.nt]; rcases e with rfl | rfl <;> simp
theorem is_so_ok (h : MOk k ts cs) {l : Ts} (hn : Named l) : F_is_so (mem ts cs) (.tup (itD D.str l)) = .ok (.bl (soT ts l)) := by
  unfold F_is_so m_is_so
  have : compR (L_is_so_0 (dct D.str ts)) (itD D.str l) = .ok (l.map fun p => .bl (decide (get ts p.1 = some p.2))) := by
    unfold itD
    refine compR_map fun p hp => ?_
    obtain ⟨v, hv⟩ := get_some (h.hasS (hn p hp))
    unfold L_is_so_0
    have e : decide (get ts p.1 = some p.2) = (v == p.2) := by rw [hv, Bool.eq_iff_iff]; simp
    simp [ix_dct' keS hv, e]
  simp only [R.bind_ok, mem0, dT h, itr_tup, this, dAll_map (fun p : Str × Int => decide (get ts p.1 = some p.2))]
  rfl
theorem ne_lst0 (l : List Str) : dNe (.lst (l.map D.str)) (.lst []) = .ok (!decide (l = [])) := by
  unfold dNe
  rw [if_pos]
  · cases l <;> rfl
  · refine ⟨?_, rfl⟩
    show D.plL (l.map D.str) 59 = true
    exact eeS.plL l (by decide)
theorem filter_so (ts l : Ts) : decide (((l.filter fun p => !decide (get ts p.1 = some p.2)).map (·.1)) = []) = soT ts l := by
  unfold soT
  rw [Bool.eq_iff_iff, decide_eq_true_iff, List.map_eq_nil_iff, List.filter_eq_nil_iff, List.all_eq_true]
  simp
theorem law_not_ok (h : MOk k ts cs) {l : Ts} (hn : Named l) : compR (L__law_played_0 (dct D.str ts)) (itD D.str l) = .ok (((l.filter fun p => !decide (get ts p.1 = some p.2)).map (·.1)).map D.str) := by
  unfold itD
  rw [compR_if (h := fun p : Str × Int => D.str p.1) (q := fun p => !decide (get ts p.1 = some p.2))]
  · rw [List.map_map]; rfl
  · intro p hp
    obtain ⟨v, hv⟩ := get_some (h.hasS (hn p hp))
    unfold L__law_played_0
    have e : decide (get ts p.1 = some p.2) = (v == p.2) := by rw [hv, Bool.eq_iff_iff]; simp
    simp [ix_dct' keS hv, e]
    split <;> rfl
theorem play_loop : ∀ (l : List Row) (i k : Nat) (ts : Ts) (cs : Cs), MOk k ts cs → k + l.length ≤ 40 → (∀ r ∈ l, RowOk r) →
    (∀ (p0 : D × D) (n : Nat), dLen p0.2 = .ok (.int (n : Nat)) → n = i + l.length → done ((forR L_played_log_0 (eF i l) (mem ts cs)).bind (Fl.go (K_played_log_0 p0))) = .ok (playD (playT i ts cs l)))
  | [], i, k, ts, cs, h, hk, hr, p0, n, hp, hn => by
    unfold eF K_played_log_0
    simp [hp, hn, playT, playD, Wd.s]
  | r :: l, i, k, ts, cs, h, hk, hr, p0, n, hp, hn => by
    rw [eF_cons]
    have hs := done_ok h (by simp at hk; omega) r.1
    have hrow := hr r List.mem_cons_self
    cases e : stepT ts cs r.1 with
    | wrong =>
      rw [forR_cons_rt (d := playD (i, .wrong, ts, cs)) (b := none)]
      · simp [playT, e]
      · unfold L_played_log_0
        simp [hs, e, resD, dRow, playD, Wd.s]
    | ends =>
      rw [forR_cons_rt (d := playD (i, .ends, ts, cs)) (b := none)]
      · simp [playT, e]
      · unfold L_played_log_0
        simp [hs, e, resD, dRow, playD, Wd.s]
    | done ts' cs' =>
      have hm := step_mok h (by simp at hk; omega) r.1 e
      have hso := is_so_ok hm hrow.nm
      cases hq : soT ts' r.2 with
      | false =>
        rw [forR_cons_rt (d := playD (i, .noted, ts', cs')) (b := none)]
        · simp [playT, e, hq]
        · unfold L_played_log_0
          simp [hs, e, resD, dRow, playD, Wd.s, hso, hq]
      | true =>
        rw [forR_cons_nx (s' := mem ts' cs')]
        · rw [play_loop l (i + 1) (k + 1) ts' cs' hm (by simp at hk ⊢; omega) (fun r hr' => hr r (List.mem_cons_of_mem _ hr')) p0 n hp (by simp at hn ⊢; omega)]
          simp [playT, e, hq]
        · unfold L_played_log_0
          simp [hs, e, resD, dRow, hso, hq]
theorem law_play_loop : ∀ (l : List Row) (i k : Nat) (ts : Ts) (cs : Cs), MOk k ts cs → k + l.length ≤ 40 → (∀ r ∈ l, RowOk r) →
    (∀ (d : D) (n : Nat), (dIx d (.int 1)).bind dLen = .ok (.int (n : Nat)) → n = i + l.length → done ((forR L__law_played_1 (eF i l) (mem ts cs)).bind (Fl.go (K__law_played_0 d))) = .ok (playD (playT i ts cs l)))
  | [], i, k, ts, cs, h, hk, hr, p0, n, hp, hn => by
    unfold eF K__law_played_0
    simp [hp, hn, playT, playD, Wd.s]
  | r :: l, i, k, ts, cs, h, hk, hr, p0, n, hp, hn => by
    rw [eF_cons]
    have hs := law_step_ok h (by simp at hk; omega) r.1
    have hrow := hr r List.mem_cons_self
    cases e : stepT ts cs r.1 with
    | wrong =>
      rw [forR_cons_rt (d := playD (i, .wrong, ts, cs)) (b := none)]
      · simp [playT, e]
      · unfold L__law_played_1
        simp [hs, e, lawD, dRow, playD, Wd.s]
    | ends =>
      rw [forR_cons_rt (d := playD (i, .ends, ts, cs)) (b := none)]
      · simp [playT, e]
      · unfold L__law_played_1
        simp [hs, e, lawD, dRow, playD, Wd.s]
    | done ts' cs' =>
      have hm := step_mok h (by simp at hk; omega) r.1 e
      have hso := law_not_ok hm hrow.nm
      cases hq : soT ts' r.2 with
      | false =>
        rw [forR_cons_rt (d := playD (i, .noted, ts', cs')) (b := none)]
        · simp [playT, e, hq]
        · unfold L__law_played_1
          simp only [R.bind_ok, un2_tup, dRow, hs, e, lawD, ne_str, beq_self_eq_true, Bool.not_true, ifF, mem0, dT hm, itr_tup, hso, ne_lst0, filter_so, hq, Bool.not_false, ifT, lft_ok, lift_rt]
          rfl
      | true =>
        rw [forR_cons_nx (s' := mem ts' cs')]
        · rw [law_play_loop l (i + 1) (k + 1) ts' cs' hm (by simp at hk ⊢; omega) (fun r hr' => hr r (List.mem_cons_of_mem _ hr')) p0 n hp (by simp at hn ⊢; omega)]
          simp [playT, e, hq]
        · unfold L__law_played_1
          simp only [R.bind_ok, un2_tup, dRow, hs, e, lawD, ne_str, beq_self_eq_true, Bool.not_true, ifF, mem0, dT hm, itr_tup, hso, ne_lst0, filter_so, hq]
theorem played_ok (h : MOk k ts cs) {l : List Row} (hk : k + l.length ≤ 40) (hr : ∀ r ∈ l, RowOk r) : F_played_log (logD ts cs l) = .ok (playD (playT 0 ts cs l)) := by
  unfold F_played_log m_played_log logD
  simp only [R.bind_ok, un2_tup]
  rw [src_tup (by rw [List.length_map]; omega), R.bind_ok, R.bind_ok, enum_rows]
  exact play_loop l 0 k ts cs h hk hr _ l.length (by simp) (by simp)
theorem law_played_ok (h : MOk k ts cs) {l : List Row} (hk : k + l.length ≤ 40) (hr : ∀ r ∈ l, RowOk r) : F__law_played (logD ts cs l) = .ok (playD (playT 0 ts cs l)) := by
  unfold F__law_played m__law_played
  simp only [R.bind_ok, log0, log1]
  rw [src_tup (by rw [List.length_map]; omega), R.bind_ok, R.bind_ok, enum_rows]
  exact law_play_loop l 0 k ts cs h hk hr _ l.length (by simp) (by simp)
def faultD (p : Nat × Wd × Ts × Cs) : D := if p.2.1 = .right then .non else .tup [.int (p.1 : Nat), .str p.2.1.s]
theorem wd_right (w : Wd) : ((w.s : Str) == "right") = decide (w = .right) := by cases w <;> decide +kernel
theorem fault_ok (h : MOk k ts cs) {l : List Row} (hk : k + l.length ≤ 40) (hr : ∀ r ∈ l, RowOk r) : F_fault_in (logD ts cs l) = .ok (faultD (playT 0 ts cs l)) := by
  unfold F_fault_in m_fault_in
  simp only [R.bind_ok, played_ok h hk hr, playD, un3_tup, eq_str', wd_right, faultD]
  by_cases hw : (playT 0 ts cs l).2.1 = .right
  · simp [hw]
  · simp [hw]
theorem soT_self (nd : (ts.map (·.1)).Nodup) : soT ts ts = true := by
  unfold soT
  rw [List.all_eq_true]
  exact fun p hp => decide_eq_true (get_of nd hp)
theorem log_rows : ∀ (l : List Sp) (k : Nat) (ts : Ts) (cs : Cs), MOk k ts cs → k + l.length ≤ 40 → (∀ r ∈ logT ts cs l, RowOk r ∧ ∃ k cs, MOk k r.2 cs) ∧ (logT ts cs l).length ≤ l.length
  | [], k, ts, cs, h, hk => ⟨by simp [logT], by simp [logT]⟩
  | s :: l, k, ts, cs, h, hk => by
    cases e : stepT ts cs s with
    | done ts' cs' =>
      have hm := step_mok h (by simp at hk; omega) s e
      obtain ⟨h1, h2⟩ := log_rows l (k + 1) ts' cs' hm (by simp at hk ⊢; omega)
      rw [logT_done e]
      refine ⟨fun r hr => ?_, by simp; exact h2⟩
      rcases List.mem_cons.mp hr with rfl | hr
      · refine ⟨⟨fun p hp => ?_, hm.nd, fun p hp => ?_, Nat.le_of_eq hm.lt⟩, _, _, hm⟩
        · have : p.1 ∈ ts'.map (·.1) := List.mem_map.mpr ⟨p, hp, rfl⟩
          rw [hm.nt] at this
          simpa using this
        · have := hm.tv p hp
          omega
      · exact h1 r hr
    | wrong =>
      rw [logT_no (fun a b z => by rw [e] at z; cases z)]
      simp
    | ends =>
      rw [logT_no (fun a b z => by rw [e] at z; cases z)]
      simp
theorem log_plays : ∀ (l : List Sp) (i k : Nat) (ts : Ts) (cs : Cs), MOk k ts cs → k + l.length ≤ 40 → (playT i ts cs (logT ts cs l)).2.1 = .right
  | [], i, k, ts, cs, h, hk => rfl
  | s :: l, i, k, ts, cs, h, hk => by
    cases e : stepT ts cs s with
    | done ts' cs' =>
      have hm := step_mok h (by simp at hk; omega) s e
      rw [logT_done e]
      simp only [playT, e, soT_self hm.nd, if_true]
      exact log_plays l (i + 1) (k + 1) ts' cs' hm (by simp at hk ⊢; omega)
    | wrong =>
      rw [logT_no (fun a b z => by rw [e] at z; cases z)]; rfl
    | ends =>
      rw [logT_no (fun a b z => by rw [e] at z; cases z)]; rfl
end
end M99
end

section
/-! M99f: a log is checked. -/
namespace M99
open PySem PD DV PM PP PQ
theorem nmX_ok : F_is_name (.str "x") = .ok (.bl true) := by kernel_rfl
theorem nmY_ok : F_is_name (.str "y") = .ok (.bl true) := by kernel_rfl
@[simp] theorem count_ok {i : Int} (h : 0 ≤ i) : F_is_count (.int i) = .ok (.bl true) := by
  unfold F_is_count m_is_count F_is_integer m_is_integer
  simp [dIsI, isTy, h]
theorem name_in {x : Str} (h : x = "x" ∨ x = "y") : F_is_name (.str x) = .ok (.bl true) := by exact h.elim (fun e => e ▸ nmX_ok) (fun e => e ▸ nmY_ok)
theorem told_form {x : Str} {v : Int} (h : x = "x" ∨ x = "y") (hv : 0 ≤ v) : F_is_told_form (.tup [.str x, .int v]) = .ok (.bl true) := by
  unfold F_is_told_form m_is_told_form
  simp [dIsI, isTy, name_in h, count_ok hv]
theorem told_ok {x : Str} {v : Int} (h : x = "x" ∨ x = "y") (hv : 0 ≤ v) : F_is_told (.tup [.str x, .int v]) = .ok (.bl true) := by
  unfold F_is_told m_is_told F_is_sized m_is_sized
  simp [dIsI, isTy, name_in h, count_ok hv]
theorem cell_form {p v : Int} (h : 0 ≤ p) (hv : 0 ≤ v) : F_is_cell_form (.tup [.int p, .int v]) = .ok (.bl true) := by
  unfold F_is_cell_form m_is_cell_form
  simp [dIsI, isTy, count_ok h, count_ok hv]
/-- a first memory -/
structure M0 (ts : Ts) (cs : Cs) : Prop where
  t : ∃ a b, ts = [(("x" : Str), a), (("y" : Str), b)] ∧ 0 ≤ a ∧ a ≤ 10 ∧ 0 ≤ b ∧ b ≤ 10
  lc : cs.length ≤ 3
  kc : cs.map (·.1) = (List.range cs.length).map fun (i : Nat) => (i : Int) + 1
  cv : ∀ p ∈ cs, 0 ≤ p.2 ∧ p.2 ≤ 10
section
variable {ts : Ts} {cs : Cs}
theorem M0.kp (h : M0 ts cs) : ∀ p ∈ cs, 0 < p.1 ∧ p.1 ≤ 3 := by
  intro p hp
  have : p.1 ∈ cs.map (·.1) := List.mem_map.mpr ⟨p, hp, rfl⟩
  rw [h.kc] at this
  obtain ⟨i, hi, e⟩ := List.mem_map.mp this
  have := List.mem_range.mp hi
  have := h.lc
  omega
theorem M0.ok (h : M0 ts cs) : MOk 3 ts cs := by
  obtain ⟨a, b, rfl, ha⟩ := h.t
  refine ⟨rfl, fun t ht => ?_, ?_, fun p hp => ⟨(h.kp p hp).1, by have := h.kp p hp; omega⟩, fun p hp => by have := h.cv p hp; omega, h.lc⟩
  · simp only [List.mem_cons, List.not_mem_nil, or_false] at ht
    rcases ht with rfl | rfl <;> (simp only; omega)
  · rw [h.kc]
    exact List.pairwise_map.mpr (List.nodup_range.imp fun h e => h (by omega))
theorem xy_lt : dLt (.str "x") (.str "y") = .ok true := by kernel_rfl
theorem check_told_ok (h : M0 ts cs) : F_check_told (.tup (itD D.str ts)) = .ok .non := by
  obtain ⟨a, b, rfl, ha, ha', hb, hb'⟩ := h.t
  unfold F_check_told m_check_told
  have e : (itD D.str [(("x" : Str), a), ("y", b)]) = [.tup [.str "x", .int a], .tup [.str "y", .int b]] := rfl
  rw [e, R.bind_ok, show dSrc (.tup [D.tup [.str "x", .int a], .tup [.str "y", .int b]]) = .ok [D.tup [.str "x", .int a], .tup [.str "y", .int b]] from src_tup (show 2 ≤ 1000 by decide)]
  have a1 : ¬ (1000000000 : Int) ≤ a := by omega
  have b1 : ¬ (1000000000 : Int) ≤ b := by omega
  simp [enumD, List.zipIdx, forR, L_check_told_0, a1, b1, xy_lt]
theorem cells_shape (h : M0 ts cs) : cs = [] ∨ (∃ a, cs = [(1, a)] ∧ 0 ≤ a ∧ a ≤ 10) ∨ (∃ a b, cs = [(1, a), (2, b)] ∧ (0 ≤ a ∧ a ≤ 10) ∧ 0 ≤ b ∧ b ≤ 10) ∨ (∃ a b c, cs = [(1, a), (2, b), (3, c)] ∧ (0 ≤ a ∧ a ≤ 10) ∧ (0 ≤ b ∧ b ≤ 10) ∧ 0 ≤ c ∧ c ≤ 10) := by
  have hl := h.lc
  have hk := h.kc
  have hv := h.cv
  match cs, hl, hk, hv with
  | [], _, _, _ => exact .inl rfl
  | [(p, a)], _, hk, hv =>
    have e : p = 1 := by simpa [List.range, List.range.loop] using hk
    exact .inr (.inl ⟨a, by rw [e], hv (p, a) (by simp)⟩)
  | [(p, a), (q, b)], _, hk, hv =>
    have e : p = 1 ∧ q = 2 := by simpa [List.range, List.range.loop] using hk
    exact .inr (.inr (.inl ⟨a, b, by rw [e.1, e.2], hv (p, a) (by simp), hv (q, b) (by simp)⟩))
  | [(p, a), (q, b), (r, c)], _, hk, hv =>
    have e : p = 1 ∧ q = 2 ∧ r = 3 := by simpa [List.range, List.range.loop] using hk
    exact .inr (.inr (.inr ⟨a, b, c, by rw [e.1, e.2.1, e.2.2], hv (p, a) (by simp), hv (q, b) (by simp), hv (r, c) (by simp)⟩))
  | _ :: _ :: _ :: _ :: _, hl, _, _ => simp at hl
theorem check_cells_ok (h : M0 ts cs) : F_check_cells (.tup (itD D.int cs)) = .ok .non := by
  unfold F_check_cells m_check_cells
  rw [R.bind_ok, src_tup (by unfold itD; rw [List.length_map]; have := h.lc; omega)]
  rcases cells_shape h with rfl | ⟨a, rfl, ha⟩ | ⟨a, b, rfl, ha, hb⟩ | ⟨a, b, c, rfl, ha, hb, hc⟩
  · simp [itD, enumD, forR]
  · have a1 : ¬ (1000000000 : Int) ≤ a := by omega
    simp [itD, enumD, List.zipIdx, forR, L_check_cells_0, a1]
  · have a1 : ¬ (1000000000 : Int) ≤ a := by omega
    have b1 : ¬ (1000000000 : Int) ≤ b := by omega
    simp [itD, enumD, List.zipIdx, forR, L_check_cells_0, a1, b1]
  · have a1 : ¬ (1000000000 : Int) ≤ a := by omega
    have b1 : ¬ (1000000000 : Int) ≤ b := by omega
    have c1 : ¬ (1000000000 : Int) ≤ c := by omega
    simp [itD, enumD, List.zipIdx, forR, L_check_cells_0, a1, b1, c1]
theorem memory_form (h : M0 ts cs) : F_is_memory_form (mem ts cs) = .ok (.bl true) := by
  unfold F_is_memory_form m_is_memory_form
  have e1 : compR L_is_memory_form_0 (itD D.int cs) = .ok (cs.map fun p => .bl ((fun _ => true) p)) := by
    unfold itD
    refine compR_map fun p hp => ?_
    unfold L_is_memory_form_0
    simp [cell_form (Int.le_of_lt (h.kp p hp).1) (h.cv p hp).1]
  have e2 : compR L_is_memory_form_1 (itD D.str ts) = .ok (ts.map fun p => .bl ((fun _ => true) p)) := by
    unfold itD
    refine compR_map fun p hp => ?_
    unfold L_is_memory_form_1
    have hn : p.1 = "x" ∨ p.1 = "y" := by
      have : p.1 ∈ ts.map (·.1) := List.mem_map.mpr ⟨p, hp, rfl⟩
      rw [h.ok.nt] at this
      simpa using this
    simp [told_form hn (h.ok.tv p hp).1]
  simp only [R.bind_ok, mem0, mem1, show dIsI .tuple (mem ts cs) = .ok (.bl true) from rfl, show dIsI .tuple (D.tup (itD D.str ts)) = .ok (.bl true) from rfl, show dIsI .tuple (D.tup (itD D.int cs)) = .ok (.bl true) from rfl, show dLen (mem ts cs) = .ok (.int 2) from rfl, asB_bl, Bool.not_true, ifF, ne_int, itr_tup, e1, e2, dAll_map]
  simp
theorem checked_mem (h : M0 ts cs) : F_checked_memory (mem ts cs) = .ok (mem ts cs) := by
  unfold F_checked_memory m_checked_memory
  have h1 := h.ok.lt
  have h2 := h.lc
  have e : un2 (mem ts cs) = .ok (.tup (itD D.str ts), .tup (itD D.int cs)) := rfl
  have l1 : ¬ (8 : Int) < ((itD D.str ts).length : Nat) := by unfold itD; rw [List.length_map]; omega
  have l2 : ¬ (60 : Int) < ((itD D.int cs).length : Nat) := by unfold itD; rw [List.length_map]; omega
  simp only [R.bind_ok, memory_form h, asB_bl, Bool.not_true, ifF, e, len_tup, gt_int, decide_eq_false l1, decide_eq_false l2, check_told_ok h, check_cells_ok h, done_rt]
theorem noted_ok {k : Nat} (h : MOk k ts cs) : F_is_noted (.tup (itD D.str ts)) = .ok (.bl true) := by
  have e : ∃ a b, ts = [(("x" : Str), a), (("y" : Str), b)] ∧ 0 ≤ a ∧ 0 ≤ b := by
    have e := h.nt
    have h2 := h.lt
    have h3 := h.tv
    match ts, h2, e, h3 with
    | [(p, a), (q, b)], _, e, h3 =>
      simp only [List.map_cons, List.map_nil, List.cons.injEq, and_true] at e
      exact ⟨a, b, by rw [e.1, e.2], (h3 (p, a) (by simp)).1, (h3 (q, b) (by simp)).1⟩
  obtain ⟨a, b, rfl, ha, hb⟩ := e
  unfold F_is_noted m_is_noted G_is_tuple_of__is_told F_is_tuple_of__is_told m_is_tuple_of__is_told
  have e1 : compR L_is_tuple_of__is_told_0 (itD D.str [("x", a), ("y", b)]) = .ok ([(("x" : Str), a), ("y", b)].map fun p => .bl ((fun _ => true) p)) := by
    unfold itD
    refine compR_map fun p hp => ?_
    unfold L_is_tuple_of__is_told_0
    simp only [List.mem_cons, List.not_mem_nil, or_false] at hp
    rcases hp with rfl | rfl
    · simp [tabR, ap1, told_ok (.inl rfl) ha]
    · simp [tabR, ap1, told_ok (.inr rfl) hb]
  have e2 : compR L_is_noted_0 (itD D.str [("x", a), ("y", b)]) = .ok ([(("x" : Str), a), ("y", b)].map fun p => .str p.1) := by
    unfold itD
    exact compR_map fun p _ => by unfold L_is_noted_0; simp
  have e3 : F_are_rising (.lst [.str "x", .str "y"]) = .ok (.bl true) := by kernel_rfl
  simp only [R.bind_ok, chk_self, show dIsI .tuple (D.tup (itD D.str [("x", a), ("y", b)])) = .ok (.bl true) from rfl, asB_bl, ifT, itr_tup, e1, dAll_map, done_rt]
  simp only [e2, R.bind_ok, List.map_cons, List.map_nil, e3, List.all_cons, List.all_nil, ifT, Bool.and_self, done_rt]
  simp
theorem row_ok' {k : Nat} {r : Row} (h : MOk k r.2 cs) : F_is_row (dRow r) = .ok (.bl true) := by
  unfold F_is_row m_is_row F_is_sized m_is_sized dRow
  simp [dIsI, isTy, forms_ok, noted_ok h]
theorem row_names {k j : Nat} {ts0 : Ts} {cs0 cs1 : Cs} {r : Row} (h0 : MOk j ts0 cs0) (h : MOk k r.2 cs1) : ∃ l : List Str, F_names_of_row (dRow r) = .ok (.lst (l.map .str)) ∧ ∀ x ∈ l, x ∈ ts0.map (·.1) := by
  refine ⟨(uniq (partsL r.1)).map N.s ++ r.2.map (·.1), ?_, fun x hx => ?_⟩
  · have e : compR L_names_of_row_0 (itD D.str r.2) = .ok (r.2.map fun p => .str p.1) := by
      unfold itD
      exact compR_map fun p _ => by unfold L_names_of_row_0; simp
    have hu : (uniq (partsL r.1)).length ≤ 2 := uniq_len r.1
    have hr := h.lt
    unfold F_names_of_row m_names_of_row dRow
    simp only [R.bind_ok, ix_t0, ix_t1, stepn_ok, list_tup, itr_tup, e]
    rw [show dAdd (.lst ((uniq (partsL r.1)).map fun n : N => D.str n.s)) (.lst (r.2.map fun p => D.str p.1)) = .ok (.lst (((uniq (partsL r.1)).map fun n : N => D.str n.s) ++ (r.2.map fun p => D.str p.1))) from if_pos (by rw [List.length_map, List.length_map]; omega)]
    simp only [R.bind_ok, done_rt]
    rw [List.map_append, List.map_map, List.map_map]
    rfl
  · rcases List.mem_append.mp hx with hx | hx
    · obtain ⟨n, _, rfl⟩ := List.mem_map.mp hx
      exact h0.has n
    · rw [h.nt] at hx
      rw [h0.nt]; exact hx
theorem checked_log_ok (h : M0 ts cs) {rows : List Row} (hl : rows.length ≤ 40) (hr : ∀ r ∈ rows, ∃ k cs, MOk k r.2 cs) : F_checked_log (logD ts cs rows) = .ok (logD ts cs rows) := by
  unfold F_checked_log m_checked_log K_checked_log_0 F_is_sized m_is_sized
  have l1 : ¬ (200 : Int) < (rows.length : Nat) := by omega
  have e1 : ∀ (rows : List Row) (i : Nat), (∀ r ∈ rows, ∃ k cs, MOk k r.2 cs) → (forR L_checked_log_3 (eF i rows) () : R (Fl Unit Empty)) = .ok (.nx ()) := by
    intro rows
    induction rows with
    | nil => intro i _; unfold eF; simp
    | cons r l ih =>
      intro i hr
      obtain ⟨k, cs', hm⟩ := hr r List.mem_cons_self
      rw [eF_cons, forR_cons_nx (s' := ()) (by unfold L_checked_log_3; simp [row_ok' hm])]
      exact ih (i + 1) fun r hr' => hr r (List.mem_cons_of_mem _ hr')
  have e2 : compR L_checked_log_0 (itD D.str ts) = .ok (ts.map fun p => .str p.1) := by
    unfold itD
    exact compR_map fun p _ => by unfold L_checked_log_0; simp
  have hin : ∀ x : Str, x ∈ ts.map (·.1) → dIn (.str x) (.lst (ts.map fun p => D.str p.1)) = .ok true := fun x hx => by
    have : (ts.map fun p => D.str p.1) = (ts.map (·.1)).map D.str := by rw [List.map_map]; rfl
    rw [this, dIn_lst eeS (by decide), decide_eq_true hx]
  have e3 : ∀ (rows : List Row) (i : Nat), (∀ r ∈ rows, ∃ k cs, MOk k r.2 cs) → (forR (L_checked_log_2 (.lst (ts.map fun p => D.str p.1))) (eF i rows) () : R (Fl Unit Empty)) = .ok (.nx ()) := by
    intro rows
    induction rows with
    | nil => intro i _; unfold eF; simp
    | cons r l ih =>
      intro i hr
      obtain ⟨k, cs', hm⟩ := hr r List.mem_cons_self
      obtain ⟨nl, en, hn⟩ := row_names h.ok hm
      have ec : compR (L_checked_log_1 (.lst (ts.map fun p => D.str p.1))) (nl.map .str) = .ok (nl.map fun x => .bl ((fun _ => true) x)) := compR_map fun x hx => by
        unfold L_checked_log_1
        simp [hin x (hn x hx)]
      rw [eF_cons, forR_cons_nx (s' := ())]
      · exact ih (i + 1) fun r hr' => hr r (List.mem_cons_of_mem _ hr')
      · unfold L_checked_log_2
        simp only [R.bind_ok, un2_tup, en, itr_lst, ec, dAll_map]
        simp
  have e4 : dIsI .tuple (logD ts cs rows) = .ok (.bl true) := rfl
  have e5 : dIsI .tuple (.tup (rows.map dRow)) = .ok (.bl true) := rfl
  have e6 : dLen (logD ts cs rows) = .ok (.int 2) := rfl
  simp only [R.bind_ok, e4, e5, e6, asB_bl, ifT, eq_int, beq_self_eq_true, done_rt, Bool.not_true, ifF, log0, log1, checked_mem h, len_tup, List.length_map, gt_int, decide_eq_false l1]
  rw [src_tup (by rw [List.length_map]; omega), R.bind_ok, R.bind_ok, enum_rows, e1 rows 0 hr]
  simp only [R.bind_ok, go_nx, mem0, itr_tup, e2]
  rw [e3 rows 0 hr]
  simp
end
end M99
end

section
/-! M99g: what the law draws. -/
namespace M99
open PySem PD DV PM PP PQ MT
theorem some_ok {b : D} (h : BagOk b) {ds : List D} (h0 : 0 < ds.length) (h1 : ds.length ≤ 1000) : ∃ d b', F__law_some b (.lst ds) = .ok (d, b') ∧ BagOk b' ∧ d ∈ ds := by
  obtain ⟨v, b', e, hb, hv⟩ := take_ok h (n := (ds.length : Int)) (by omega) (by omega)
  obtain ⟨i, rfl⟩ : ∃ i : Nat, v = (i : Int) := ⟨v.toNat, by omega⟩
  have hi : i < ds.length := by omega
  refine ⟨ds[i], b', ?_, hb, List.getElem_mem hi⟩
  unfold F__law_some m__law_some
  simp only [R.bind_ok, len_lst, api1, e, nox_ok, ix_lst (List.getElem?_eq_getElem hi), doneI_rt]
theorem some_name {b : D} (h : BagOk b) : ∃ (n : N) (b' : D), F__law_some b (.lst [.str "x", .str "y"]) = .ok (.str n.s, b') ∧ BagOk b' := by
  obtain ⟨d, b', e, hb, hd⟩ := some_ok h (ds := [.str "x", .str "y"]) (by simp) (by simp)
  simp only [List.mem_cons, List.not_mem_nil, or_false] at hd
  rcases hd with rfl | rfl
  · exact ⟨.x, b', e, hb⟩
  · exact ⟨.y, b', e, hb⟩
theorem some_term {b : D} (h : BagOk b) : ∃ (t : Option N) (b' : D), F__law_some b (.lst [.non, .str "x", .str "y"]) = .ok (dO t, b') ∧ BagOk b' := by
  obtain ⟨d, b', e, hb, hd⟩ := some_ok h (ds := [.non, .str "x", .str "y"]) (by simp) (by simp)
  simp only [List.mem_cons, List.not_mem_nil, or_false] at hd
  rcases hd with rfl | rfl | rfl
  · exact ⟨none, b', e, hb⟩
  · exact ⟨some .x, b', e, hb⟩
  · exact ⟨some .y, b', e, hb⟩
theorem some_same {b : D} (h : BagOk b) : ∃ (s : Bool) (b' : D), F__law_some b (.lst [.str "same", .str "unlike"]) = .ok (dW s, b') ∧ BagOk b' := by
  obtain ⟨d, b', e, hb, hd⟩ := some_ok h (ds := [.str "same", .str "unlike"]) (by simp) (by simp)
  simp only [List.mem_cons, List.not_mem_nil, or_false] at hd
  rcases hd with rfl | rfl
  · exact ⟨true, b', e, hb⟩
  · exact ⟨false, b', e, hb⟩
theorem cat_non : dAdd (.lst [.non]) (.lst [.str "x", .str "y"]) = .ok (.lst [.non, .str "x", .str "y"]) := rfl
theorem drawn_step_ok {b : D} (h : BagOk b) : ∃ (s : Sp) (b' : D), F__law_drawn_step b (.tup [.str "x", .str "y"]) = .ok (dS s, b') ∧ BagOk b' := by
  obtain ⟨w, b1, e1, h1, hw⟩ := some_ok h (ds := [.str "set", .str "load", .str "store", .str "new", .str "free", .str "load", .str "store", .str "test"]) (by simp) (by simp)
  obtain ⟨n, b2, e2, h2⟩ := some_name h1
  obtain ⟨t, b3, e3, h3⟩ := some_term h2
  obtain ⟨m, b4, e4, h4⟩ := some_name h3
  obtain ⟨s, b5, e5, h5⟩ := some_same h3
  have base : ∀ {r : D × D}, doneI ((R.ok (.rt r.1 (some r.2)) : R (Fl Unit Empty))) = .ok r := rfl
  simp only [List.mem_cons, List.not_mem_nil, or_false] at hw
  unfold F__law_drawn_step m__law_drawn_step
  rcases hw with rfl | rfl | rfl | rfl | rfl | rfl | rfl | rfl
  · exact ⟨.set n t, b3, by simp [api1, e1, e2, e3, list_tup, cat_non, un2L, in_two, dS], h3⟩
  · exact ⟨.load n m, b4, by simp [api1, e1, e2, e3, e4, list_tup, cat_non, un2L, in_two, dS], h4⟩
  · exact ⟨.store n t, b3, by simp [api1, e1, e2, e3, list_tup, cat_non, un2L, in_two, dS], h3⟩
  · exact ⟨.new n, b3, by simp [api1, e1, e2, e3, list_tup, cat_non, un2L, in_two, dS], h3⟩
  · exact ⟨.free n, b3, by simp [api1, e1, e2, e3, list_tup, cat_non, un2L, in_two, dS], h3⟩
  · exact ⟨.load n m, b4, by simp [api1, e1, e2, e3, e4, list_tup, cat_non, un2L, in_two, dS], h4⟩
  · exact ⟨.store n t, b3, by simp [api1, e1, e2, e3, list_tup, cat_non, un2L, in_two, dS], h3⟩
  · exact ⟨.test s n t, b5, by simp [api1, e1, e2, e3, e5, list_tup, cat_non, un2L, in_two, dS], h5⟩
theorem take0 {r0 : D × D} {b : D} {many : Nat} (hm : many ≤ 100) (e : r0.1 = .int (many : Int)) (x : Str) (h : BagOk b) : ∃ (y : Int) (b' : D), L__law_memory_0 r0 (.str x) b = .ok (.tup [.str x, .int y], b') ∧ BagOk b' ∧ (0 ≤ y ∧ y < (many : Int) + 3) := by
  obtain ⟨v, b', e1, h1, h2⟩ := take_ok h (n := (many : Int) + 3) (by omega) (by omega)
  refine ⟨v, b', ?_, h1, h2⟩
  unfold L__law_memory_0
  simp only [e, R.bind_ok, add_int, api1, e1, nox_ok]
theorem take1 {r0 : D × D} {b : D} {many : Nat} (hm : many ≤ 100) (e : r0.1 = .int (many : Int)) (i : Nat) (h : BagOk b) : ∃ (y : Int) (b' : D), L__law_memory_1 r0 (.int ((0 : Int) + (i : Nat))) b = .ok (.tup [.int ((i : Int) + 1), .int y], b') ∧ BagOk b' ∧ (0 ≤ y ∧ y < (many : Int) + 3) := by
  obtain ⟨v, b', e1, h1, h2⟩ := take_ok h (n := (many : Int) + 3) (by omega) (by omega)
  refine ⟨v, b', ?_, h1, h2⟩
  unfold L__law_memory_1
  simp only [e, R.bind_ok, add_int, api1, e1, nox_ok, Int.zero_add]
theorem law_memory_ok {b : D} (h : BagOk b) : ∃ ts cs b', F__law_memory b (.tup [.str "x", .str "y"]) (.int 3) = .ok (mem ts cs, b') ∧ BagOk b' ∧ M0 ts cs := by
  obtain ⟨v, b1, e1, h1, h2, h3⟩ := take_ok h (n := 4) (by omega) (by omega)
  obtain ⟨many, rfl⟩ : ∃ m : Nat, v = (m : Int) := ⟨v.toNat, by omega⟩
  obtain ⟨ps, b2, m2, e2, h4, q2⟩ := compF_ok (f := L__law_memory_0 (.int (many : Int), b1)) (g := D.str) (e := fun x y => .tup [.str x, .int y]) BagOk (fun _ y => 0 ≤ y ∧ y < (many : Int) + 3) (fun x b hb => take0 (by omega) rfl x hb) ["x", "y"] b1 h1
  obtain ⟨qs, b3, m3, e3, h5, q3⟩ := compF_ok (f := L__law_memory_1 (.int (many : Int), b1)) (g := fun i : Nat => D.int ((0 : Int) + (i : Nat))) (e := fun x y => .tup [.int ((x : Int) + 1), .int y]) BagOk (fun _ y => 0 ≤ y ∧ y < (many : Int) + 3) (fun x b hb => take1 (by omega) rfl x hb) (List.range many) b2 h4
  have hl : qs.length = many := by have := congrArg List.length m3; simpa using this
  refine ⟨ps, qs.map fun q => ((q.1 : Int) + 1, q.2), b3, ?_, h5, ⟨?_, ?_, ?_, ?_⟩⟩
  · unfold F__law_memory m__law_memory
    rw [show ((["x", "y"] : List Str).map D.str) = [.str "x", .str "y"] from rfl] at e2
    simp only [R.bind_ok, add_int, api1, show (3 : Int) + 1 = 4 from rfl, e1, nox_ok, itr_tup, e2, tuple_lst, rng1 (show many ≤ 1000 by omega), e3]
    simp only [doneI_rt, mem, itD, List.map_map]
    rfl
  · have l2 : ps.length = 2 := by have := congrArg List.length m2; simpa using this
    match ps, l2, m2, q2 with
    | [(p, a), (q, c)], _, m2, q2 =>
      simp only [List.map_cons, List.map_nil, List.cons.injEq, and_true] at m2
      have ha := q2 (p, a) (by simp)
      have hc := q2 (q, c) (by simp)
      refine ⟨a, c, by rw [m2.1, m2.2], ?_⟩
      simp only at ha hc
      omega
  · rw [List.length_map, hl]; omega
  · rw [List.map_map, List.length_map, hl, ← m3, List.map_map]; rfl
  · intro p hp
    obtain ⟨q, hq, rfl⟩ := List.mem_map.mp hp
    have := q3 q hq
    simp only
    omega
theorem steps_ok {b : D} (h : BagOk b) {n : Nat} : ∃ (l : List Sp) (b' : D), compF L_law_0 ((List.range n).map fun i => .int ((0 : Int) + (i : Nat))) b = .ok (l.map dS, b') ∧ BagOk b' ∧ l.length = n := by
  obtain ⟨ps, b2, m2, e2, h4, _⟩ := compF_ok (f := L_law_0) (g := fun i : Nat => D.int ((0 : Int) + (i : Nat))) (e := fun _ (y : Sp) => dS y) BagOk (fun _ _ => True) (fun x b hb => by
    obtain ⟨s, b', e, h'⟩ := drawn_step_ok hb
    refine ⟨s, b', ?_, h', trivial⟩
    unfold L_law_0
    simp only [R.bind_ok, api1, e, nox_ok]) (List.range n) b h
  refine ⟨ps.map (·.2), b2, ?_, h4, ?_⟩
  · rw [e2, List.map_map]; rfl
  · rw [List.length_map]
    have := congrArg List.length m2
    simpa using this
end M99
end

section
/-! M99h: sizes; a log turned. -/
namespace M99
open PySem PD DV PM PP PQ MT
open PySem.PyData (strOk)
theorem vI {i : Int} (h1 : -100 ≤ i) (h2 : i ≤ 200) : VD (.int i) 0 41 := VD.int (by rw [show (10 : Nat) ^ 12 = 1000000000000 from by decide]; omega)
theorem vS {x : Str} (h : strOk x = true) (h2 : x.cps.size ≤ 41) : VD (.str x) 0 41 := (VD.str h).mono (Nat.le_refl _) h2
theorem vN (n : N) : VD (.str n.s) 0 41 := by cases n <;> exact vS (by decide +kernel) (by decide +kernel)
theorem vO' (t : Option N) : VD (dO t) 0 41 := by
  cases t with
  | none => exact VD.non.mono (by decide) (by decide)
  | some n => exact vN n
theorem vW (s : Bool) : VD (dW s) 0 41 := by cases s <;> exact vS (by decide +kernel) (by decide +kernel)
theorem vStep (s : Sp) : VD (dS s) 1 168 := by
  have t : ∀ {ds : List D}, ds.length ≤ 4 → (∀ d ∈ ds, VD d 0 41) → VD (.tup ds) 1 168 := fun {ds} h k => (VD.tup k).mono (Nat.le_refl _) (by omega)
  have set : VD (.str "set") 0 41 := vS (by decide +kernel) (by decide +kernel)
  have load : VD (.str "load") 0 41 := vS (by decide +kernel) (by decide +kernel)
  have store : VD (.str "store") 0 41 := vS (by decide +kernel) (by decide +kernel)
  have new : VD (.str "new") 0 41 := vS (by decide +kernel) (by decide +kernel)
  have free : VD (.str "free") 0 41 := vS (by decide +kernel) (by decide +kernel)
  have test : VD (.str "test") 0 41 := vS (by decide +kernel) (by decide +kernel)
  cases s <;> refine t (by simp) (fun d hd => ?_) <;> simp only [List.mem_cons, List.not_mem_nil, or_false] at hd
  · rcases hd with rfl | rfl | rfl <;> first | assumption | exact vN _ | exact vO' _ | exact vW _
  · rcases hd with rfl | rfl | rfl <;> first | assumption | exact vN _ | exact vO' _ | exact vW _
  · rcases hd with rfl | rfl | rfl <;> first | assumption | exact vN _ | exact vO' _ | exact vW _
  · rcases hd with rfl | rfl <;> first | assumption | exact vN _ | exact vO' _ | exact vW _
  · rcases hd with rfl | rfl <;> first | assumption | exact vN _ | exact vO' _ | exact vW _
  · rcases hd with rfl | rfl | rfl | rfl <;> first | assumption | exact vN _ | exact vO' _ | exact vW _
theorem vNamed {x : Str} (h : x = "x" ∨ x = "y") : VD (.str x) 0 41 := h.elim (fun e => e ▸ vN .x) (fun e => e ▸ vN .y)
theorem vPair {a b : D} {n w : Nat} (ha : VD a n w) (hb : VD b n w) : VD (.tup [a, b]) (n + 1) (2 * (w + 1)) := VD.tup (ds := [a, b]) fun d hd => by
  simp only [List.mem_cons, List.not_mem_nil, or_false] at hd
  rcases hd with rfl | rfl
  · exact ha
  · exact hb
theorem vTs {l : Ts} (h : Named l) (hv : ∀ p ∈ l, 0 ≤ p.2 ∧ p.2 ≤ 101) (hl : l.length ≤ 2) : VD (.tup (itD D.str l)) 2 170 := by
  refine (VD.tup (ds := itD D.str l) (n := 1) (w := 84) fun d hd => ?_).mono (Nat.le_refl _) (by unfold itD; rw [List.length_map]; omega)
  obtain ⟨p, hp, rfl⟩ := List.mem_map.mp hd
  have := hv p hp
  exact vPair (vNamed (h p hp)) (vI (by omega) (by omega))
theorem vCs {k : Nat} {ts : Ts} {cs : Cs} (h : MOk k ts cs) (hk : k ≤ 41) : VD (.tup (itD D.int cs)) 2 3485 := by
  have hl := h.lc
  refine (VD.tup (ds := itD D.int cs) (n := 1) (w := 84) fun d hd => ?_).mono (Nat.le_refl _) (by unfold itD; rw [List.length_map]; omega)
  obtain ⟨p, hp, rfl⟩ := List.mem_map.mp hd
  have h1 := h.cp p hp
  have h2 := h.cv p hp
  exact vPair (vI (by omega) (by omega)) (vI (by omega) (by omega))
theorem named_of {k : Nat} {ts : Ts} {cs : Cs} (h : MOk k ts cs) : Named ts := fun p hp => by
  have : p.1 ∈ ts.map (·.1) := List.mem_map.mpr ⟨p, hp, rfl⟩
  rw [h.nt] at this
  simpa using this
theorem vMem {k : Nat} {ts : Ts} {cs : Cs} (h : MOk k ts cs) (hk : k ≤ 41) : VD (mem ts cs) 3 6972 :=
  vPair ((vTs (named_of h) (fun p hp => by have := h.tv p hp; omega) (Nat.le_of_eq h.lt)).mono (by decide) (by decide)) (vCs h hk)
theorem vRow {r : Row} (h : RowOk r) : VD (dRow r) 3 342 := vPair ((vStep r.1).mono (by decide) (by decide)) (vTs h.nm h.v h.l)
theorem vRows {l : List Row} (h : ∀ r ∈ l, RowOk r) (hl : l.length ≤ 40) : VD (.tup (l.map dRow)) 4 13720 := by
  refine (VD.tup (ds := l.map dRow) (n := 3) (w := 342) fun d hd => ?_).mono (Nat.le_refl _) (by rw [List.length_map]; omega)
  obtain ⟨r, hr, rfl⟩ := List.mem_map.mp hd
  exact vRow (h r hr)
theorem vLog {k : Nat} {ts : Ts} {cs : Cs} (h : MOk k ts cs) (hk : k ≤ 41) {l : List Row} (hr : ∀ r ∈ l, RowOk r) (hl : l.length ≤ 40) : VD (logD ts cs l) 5 27442 :=
  vPair ((vMem h hk).mono (by decide) (by decide)) (vRows hr hl)
theorem rows_nil {l : List Row} (h : ∀ r ∈ l, RowOk r) (hl : l.length ≤ 40) : dEq (.tup (l.map dRow)) (.tup []) = .ok (decide (l = [])) := by
  rw [dEq_of (pl_mono (by decide) (vRows h hl).pl) rfl]
  cases l <;> rfl
theorem addT {a b : List D} (h : a.length + b.length ≤ 1000) : dAdd (.tup a) (.tup b) = .ok (.tup (a ++ b)) := if_pos (by omega)
theorem turn_end {mem' : D} {l : List Row} (hl : l.length ≤ 40) (i : Nat) (b b' : D) (r : Row) : K__law_turned_0 (mem', .tup (l.map dRow)) (.int (i : Nat), b) (b', dRow r) = .ok (.rt (.tup [mem', .tup ((l.take i ++ [r] ++ l.drop (i + 1)).map dRow)]) (some b')) := by
  unfold K__law_turned_0
  have e : ((i : Int) + 1) = ((i + 1 : Nat) : Int) := by omega
  have l1 : (l.take i).length ≤ 40 := by rw [List.length_take]; omega
  have l2 : (l.drop (i + 1)).length ≤ 40 := by rw [List.length_drop]; omega
  simp only [R.bind_ok, asI_int, add_int, sl_tup, cut_to, e, cut_from, ← List.map_take, ← List.map_drop]
  rw [addT (by rw [List.length_map]; simp only [List.length_cons, List.length_nil]; omega), R.bind_ok, addT (by rw [List.length_append, List.length_map, List.length_map]; simp only [List.length_cons, List.length_nil]; omega)]
  simp only [R.bind_ok, List.map_append, List.map_cons, List.map_nil]
theorem rows_turned {l : List Row} (h : ∀ r ∈ l, RowOk r) {i : Nat} (hi : i < l.length) {w : Row} (hr : RowOk w) : (∀ r ∈ l.take i ++ [w] ++ l.drop (i + 1), RowOk r) ∧ (l.take i ++ [w] ++ l.drop (i + 1)).length = l.length := by
  refine ⟨fun q hq => ?_, ?_⟩
  · rcases List.mem_append.mp hq with hq | hq
    · rcases List.mem_append.mp hq with hq | hq
      · exact h q (List.mem_of_mem_take hq)
      · have e := List.mem_singleton.mp hq
        rw [e]; exact hr
    · exact h q (List.mem_of_mem_drop hq)
  · simp only [List.length_append, List.length_take, List.length_drop, List.length_cons, List.length_nil]
    omega
theorem turned_ok {b : D} (h : BagOk b) (ts : Ts) (cs : Cs) {l : List Row} (hr : ∀ r ∈ l, RowOk r) (hv : ∀ r ∈ l, ∀ p ∈ r.2, p.2 ≤ 100) (hl : l.length ≤ 40) : ∃ l' b', F__law_turned b (logD ts cs l) = .ok (logD ts cs l', b') ∧ BagOk b' ∧ (∀ r ∈ l', RowOk r) ∧ l'.length = l.length := by
  unfold F__law_turned m__law_turned
  rw [R.bind_ok, show un2 (logD ts cs l) = .ok (mem ts cs, .tup (l.map dRow)) from rfl]
  simp only [R.bind_ok, rows_nil hr hl]
  by_cases h0 : l = []
  · refine ⟨l, b, ?_, h, hr, rfl⟩
    rw [decide_eq_true h0]
    simp
  · rw [decide_eq_false h0]
    have hp : 0 < l.length := Nat.pos_of_ne_zero (fun z => h0 (List.length_eq_zero_iff.mp z))
    obtain ⟨v, b1, e1, h1, hv1⟩ := take_ok h (n := (l.length : Int)) (by omega) (by omega)
    obtain ⟨i, rfl⟩ : ∃ i : Nat, v = (i : Int) := ⟨v.toNat, by omega⟩
    have hi : i < l.length := by omega
    obtain ⟨kd, b2, e2, h2, hv2⟩ := take_ok h1 (n := 3) (by omega) (by omega)
    have hrow := hr l[i] (List.getElem_mem hi)
    have hval := hv l[i] (List.getElem_mem hi)
    have eix : dIx (.tup (l.map dRow)) (.int (i : Int)) = .ok (dRow l[i]) := ix_tup (by rw [List.getElem?_map, List.getElem?_eq_getElem hi]; rfl)
    have eun : un2 (dRow l[i]) = .ok (dS l[i].1, .tup (itD D.str l[i].2)) := rfl
    simp only [ifF, R.bind_ok, len_tup, List.length_map, api1, e1, nox_ok, eix, eun, e2, eq_int]
    have hk : kd = 0 ∨ kd = 1 ∨ kd = 2 := by omega
    rcases hk with rfl | rfl | rfl
    · let r' : Row := (l[i].1, l[i].2.map fun p => (p.1, p.2 + 1))
      have hr' : RowOk r' := by
        refine ⟨fun p hp => ?_, ?_, fun p hp => ?_, ?_⟩
        · obtain ⟨q, hq, rfl⟩ := List.mem_map.mp hp
          exact hrow.nm q hq
        · have : r'.2.map (·.1) = l[i].2.map (·.1) := by show (l[i].2.map _).map _ = _; rw [List.map_map]; rfl
          rw [this]; exact hrow.nd
        · obtain ⟨q, hq, rfl⟩ := List.mem_map.mp hp
          have a := hrow.v q hq
          have b := hval q hq
          simp only
          omega
        · show (l[i].2.map _).length ≤ 2
          rw [List.length_map]; exact hrow.l
      refine ⟨_, b2, ?_, h2, rows_turned hr hi hr'⟩
      have ec : compR L__law_turned_0 (itD D.str l[i].2) = .ok (itD D.str r'.2) := by
        show _ = R.ok (itD D.str (l[i].2.map fun p => (p.1, p.2 + 1)))
        unfold itD
        rw [List.map_map]
        exact compR_map fun p _ => by unfold L__law_turned_0; simp
      have et := turn_end (mem' := mem ts cs) hl i b1 b2 r'
      simp only [beq_self_eq_true, ifT, if_true, itr_tup, R.bind_ok, ec, tuple_lst, go_nx]
      rw [show D.tup [dS l[i].1, .tup (itD D.str r'.2)] = dRow r' from rfl, et]
      rfl
    · let r' : Row := (l[i].1, l[i].2.take 1)
      have hr' : RowOk r' := ⟨fun p hp => hrow.nm p (List.mem_of_mem_take hp), hrow.nd.sublist ((List.take_sublist _ _).map _), fun p hp => hrow.v p (List.mem_of_mem_take hp), by
        show (l[i].2.take 1).length ≤ 2
        rw [List.length_take]; omega⟩
      refine ⟨_, b2, ?_, h2, rows_turned hr hi hr'⟩
      have et := turn_end (mem' := mem ts cs) hl i b1 b2 r'
      have ec : cutD (itD D.str l[i].2) none (some 1) = itD D.str r'.2 := by
        show cutD _ none (some ((1 : Nat) : Int)) = itD D.str (l[i].2.take 1)
        rw [cut_to]; unfold itD; rw [List.map_take]
      simp only [show ((1 : Int) == 0) = false from rfl, ifF, beq_self_eq_true, ifT, if_true, itr_tup, R.bind_ok, asI_int, sl_tup, ec, go_nx]
      rw [show D.tup [dS l[i].1, .tup (itD D.str r'.2)] = dRow r' from rfl, et]
      rfl
    · obtain ⟨s, b3, e3, h3⟩ := drawn_step_ok h2
      let r' : Row := (s, l[i].2)
      have hr' : RowOk r' := ⟨hrow.nm, hrow.nd, hrow.v, hrow.l⟩
      refine ⟨_, b3, ?_, h3, rows_turned hr hi hr'⟩
      have et := turn_end (mem' := mem ts cs) hl i b1 b3 r'
      simp only [show ((2 : Int) == 0) = false from rfl, show ((2 : Int) == 1) = false from rfl, ifF, R.bind_ok, e3, nox_ok, go_nx, api1]
      rw [show D.tup [dS s, .tup (itD D.str l[i].2)] = dRow r' from rfl, et]
      rfl
end M99
end

section
/-! M99i: logs cut, notes found, logs mended. -/
namespace M99
open PySem PD DV PM PP PQ MT
section
variable {k : Nat} {ts : Ts} {cs : Cs}
theorem cut_ok (ts : Ts) (cs : Cs) {l : List Row} {m : Nat} (hm : m ≤ l.length) : F_cut_log (logD ts cs l) (.int (m : Int)) = .ok (logD ts cs (l.take m)) := by
  unfold F_cut_log m_cut_log
  have h1 : ¬ ((l.length : Nat) : Int) < (m : Int) := by omega
  simp only [R.bind_ok, count_ok (show (0 : Int) ≤ (m : Int) by omega), asB_bl, Bool.not_true, ifF, log0, log1, len_tup, List.length_map, gt_int, decide_eq_false h1, asI_int, sl_tup, cut_to, done_rt]
  unfold logD
  rw [List.map_take]
theorem count_neg {i : Int} (h : i < 0) : F_is_count (.int i) = .ok (.bl false) := by
  unfold F_is_count m_is_count F_is_integer m_is_integer
  have : ¬ 0 ≤ i := by omega
  simp [dIsI, isTy, this]
theorem count_bl (b : Bool) : F_is_count (.bl b) = .ok (.bl false) := by
  unfold F_is_count m_is_count F_is_integer m_is_integer
  simp [dIsI, isTy]
theorem count_non : F_is_count .non = .ok (.bl false) := by
  unfold F_is_count m_is_count F_is_integer m_is_integer
  simp [dIsI, isTy]
theorem cut_big (ts : Ts) (cs : Cs) (l : List Row) : F_cut_log (logD ts cs l) (.int ((l.length : Int) + 1)) = .exc "Nothing" := by
  unfold F_cut_log m_cut_log
  have h1 : ((l.length : Nat) : Int) < (l.length : Int) + 1 := by omega
  simp only [R.bind_ok, count_ok (show (0 : Int) ≤ (l.length : Int) + 1 by omega), asB_bl, Bool.not_true, ifF, log0, log1, len_tup, List.length_map, gt_int, decide_eq_true h1, ifT]
  simp
theorem cut_no (ts : Ts) (cs : Cs) (l : List Row) {d : D} (h : F_is_count d = .ok (.bl false)) : F_cut_log (logD ts cs l) d = .exc "Nothing" := by
  unfold F_cut_log m_cut_log
  simp [h]
/-! ### notes -/
theorem filt_get {α : Type} [DecidableEq α] : ∀ {l : List (α × Int)} {x : α}, (l.map (·.1)).Nodup → l.filter (fun p => decide (p.1 = x)) = match get l x with | some v => [(x, v)] | none => []
  | [], x, _ => rfl
  | p :: l, x, nd => by
    rw [List.map_cons, List.nodup_cons] at nd
    unfold PM.get
    rw [List.filter_cons, List.find?_cons]
    by_cases h : p.1 = x
    · subst h
      have : l.filter (fun q => decide (q.1 = p.1)) = [] := by
        rw [List.filter_eq_nil_iff]
        exact fun q hq z => nd.1 (List.mem_map.mpr ⟨q, hq, of_decide_eq_true z⟩)
      rw [decide_eq_true rfl, if_pos rfl, this]
      rfl
    · rw [decide_eq_false h, if_neg (by simp)]
      exact filt_get nd.2
def noteT (p : Row × Nat) : Option D := (get p.1.2 "x").map fun v => .tup [.int (p.2 : Nat), .int v]
theorem noted_loop : ∀ (l : List Row) (i : Nat) (acc : List D), (∀ r ∈ l, RowOk r) → acc.length + l.length ≤ 1000 →
    (forR (L_noted_of_1 (.str "x")) (eF i l) (.lst acc) : R (Fl D Empty)) = .ok (.nx (.lst (acc ++ (l.zipIdx i).filterMap noteT)))
  | [], i, acc, _, _ => by unfold eF; simp
  | r :: l, i, acc, hr, ha => by
    have h := hr r List.mem_cons_self
    rw [eF_cons]
    have e1 : compR (L_noted_of_0 (.str "x") (.int (i : Nat), dS r.1, .tup (itD D.str r.2))) (itD D.str r.2) = .ok ((r.2.filter fun p => decide (p.1 = ("x" : Str))).map fun p => .tup [.int (i : Nat), .int p.2]) := by
      unfold itD
      refine compR_if fun p _ => ?_
      unfold L_noted_of_0
      by_cases q : p.1 = ("x" : Str)
      · simp [q]
      · have : (p.1 == ("x" : Str)) = false := by simpa using q
        simp [q, this]
    have e2 : ((r.2.filter fun p => decide (p.1 = ("x" : Str))).map fun p => D.tup [.int (i : Nat), .int p.2]) = (noteT (r, i)).toList := by
      rw [filt_get h.nd]
      unfold noteT
      cases get r.2 "x" <;> rfl
    have hl : (noteT (r, i)).toList.length ≤ 1 := by cases noteT (r, i) <;> simp
    simp only [List.length_cons] at ha
    rw [forR_cons_nx (s' := .lst (acc ++ (noteT (r, i)).toList))]
    · rw [noted_loop l (i + 1) _ (fun r hr' => hr r (List.mem_cons_of_mem _ hr')) (by rw [List.length_append]; omega), List.zipIdx_cons, List.filterMap_cons, List.append_assoc]
      cases noteT (r, i) <;> rfl
    · unfold L_noted_of_1
      simp only [R.bind_ok, un2_tup, dRow, lst_lst, itr_tup, e1, e2]
      rw [show extL acc (.lst (noteT (r, i)).toList) = .ok (.lst (acc ++ (noteT (r, i)).toList)) from if_pos (size_ok (by omega)), R.bind_ok]
theorem noted_of_ok {l : List Row} (hr : ∀ r ∈ l, RowOk r) (hl : l.length ≤ 40) : F_noted_of (logD ts cs l) (.str "x") = .ok (.tup ((l.zipIdx 0).filterMap noteT)) := by
  unfold F_noted_of m_noted_of
  simp only [R.bind_ok, log1]
  rw [src_tup (by rw [List.length_map]; omega), R.bind_ok, R.bind_ok, enum_rows, noted_loop l 0 [] hr (by simp; omega)]
  simp
theorem law_noted_ok {l : List Row} (hr : ∀ r ∈ l, RowOk r) : compR L_law_1 (eF 0 l) = .ok ((l.zipIdx 0).filterMap noteT) := by
  unfold eF
  refine compR_ok fun p hp => ?_
  have h := hr p.1 (List.fst_mem_of_mem_zipIdx hp)
  unfold L_law_1 noteT
  simp only [R.bind_ok, un2_tup, dRow, of_items keS h.nd, in_dct keS]
  cases e : get p.1.2 "x" with
  | none =>
    have : ("x" : Str) ∉ p.1.2.map (·.1) := get_none.mp e
    simp [this]
  | some v =>
    have : ("x" : Str) ∈ p.1.2.map (·.1) := get_key e
    rw [decide_eq_true this, ifT]
    simp only [ix_dct' keS e, R.bind_ok]
    rfl
/-! ### mended -/
def mendT : Ts → Cs → List Row → List Row
  | _, _, [] => []
  | ts, cs, r :: l => match stepT ts cs r.1 with
    | .done ts' cs' => (r.1, r.2.map fun p => (p.1, (get ts' p.1).getD 0)) :: mendT ts' cs' l
    | _ => []
theorem mendT_no {r : Row} {l : List Row} (e : ∀ ts' cs', stepT ts cs r.1 ≠ .done ts' cs') : mendT ts cs (r :: l) = [] := by
  show (match stepT ts cs r.1 with | .done ts' cs' => _ | _ => []) = _
  cases h : stepT ts cs r.1 with
  | done a b => exact absurd h (e a b)
  | _ => rfl
theorem mendT_done {r : Row} {l : List Row} {ts' : Ts} {cs' : Cs} (e : stepT ts cs r.1 = .done ts' cs') : mendT ts cs (r :: l) = (r.1, r.2.map fun p => (p.1, (get ts' p.1).getD 0)) :: mendT ts' cs' l := by
  show (match stepT ts cs r.1 with | .done ts' cs' => _ | _ => []) = _
  rw [e]
theorem mend_loop : ∀ (l : List Row) (k : Nat) (ts : Ts) (cs : Cs) (acc : List Row), MOk k ts cs → k + l.length ≤ 40 → acc.length + l.length ≤ 100 → (∀ r ∈ l, RowOk r) →
    ∃ m, (forR L_mended_1 (l.map dRow) (mem ts cs, .lst (acc.map dRow)) : R (Fl (D × D) Empty)) = .ok (.nx (m, .lst ((acc ++ mendT ts cs l).map dRow)))
  | [], k, ts, cs, acc, h, hk, ha, hr => ⟨mem ts cs, by simp [mendT]⟩
  | r :: l, k, ts, cs, acc, h, hk, ha, hr => by
    rw [List.map_cons]
    have hs := done_ok h (by simp at hk; omega) r.1
    have hrow := hr r List.mem_cons_self
    cases e : stepT ts cs r.1 with
    | done ts' cs' =>
      have hm := step_mok h (by simp at hk; omega) r.1 e
      let r' : Row := (r.1, r.2.map fun p => (p.1, (get ts' p.1).getD 0))
      obtain ⟨m, hm2⟩ := mend_loop l (k + 1) ts' cs' (acc ++ [r']) hm (by simp at hk ⊢; omega) (by simp at ha ⊢; omega) (fun r hr' => hr r (List.mem_cons_of_mem _ hr'))
      have ec : compR (L_mended_0 (dct D.str ts')) (itD D.str r.2) = .ok (itD D.str r'.2) := by
        show _ = R.ok (itD D.str (r.2.map fun p => (p.1, (get ts' p.1).getD 0)))
        unfold itD
        rw [List.map_map]
        refine compR_map fun p hp => ?_
        obtain ⟨v, hv⟩ := get_some (hm.hasS (hrow.nm p hp))
        unfold L_mended_0
        simp [ix_dct' keS hv, hv]
      refine ⟨m, ?_⟩
      rw [forR_cons_nx (s' := (mem ts' cs', .lst ((acc ++ [r']).map dRow))), hm2, mendT_done e, List.append_assoc]
      · rfl
      · unfold L_mended_1
        simp only [R.bind_ok, dRow, un2_tup, hs, e, resD, ix_t0, ix_t1, ne_str, beq_self_eq_true, Bool.not_true, ifF, mem0, dT hm, lst_lst, itr_tup, ec, tuple_lst]
        have ha' : acc.length ≤ 1000 := by simp at ha; omega
        rw [show D.tup [dS r.1, .tup (itD D.str r'.2)] = dRow r' from rfl, app_ok (by rw [List.length_map]; omega), R.bind_ok, List.map_append]
        rfl
    | wrong =>
      refine ⟨mem ts cs, ?_⟩
      rw [forR_cons_bk (s' := (mem ts cs, .lst (acc.map dRow))), mendT_no (fun a b z => by rw [e] at z; cases z)]
      · simp
      · unfold L_mended_1
        simp [hs, e, resD, dRow]
    | ends =>
      refine ⟨mem ts cs, ?_⟩
      rw [forR_cons_bk (s' := (mem ts cs, .lst (acc.map dRow))), mendT_no (fun a b z => by rw [e] at z; cases z)]
      · simp
      · unfold L_mended_1
        simp [hs, e, resD, dRow]
theorem mended_ok (h : MOk k ts cs) {l : List Row} (hk : k + l.length ≤ 40) (hr : ∀ r ∈ l, RowOk r) : F_mended (logD ts cs l) = .ok (logD ts cs (mendT ts cs l)) := by
  unfold F_mended m_mended
  obtain ⟨m, hm⟩ := mend_loop l k ts cs [] h hk (by simp; omega) hr
  simp only [List.map_nil] at hm
  simp only [R.bind_ok, log0, log1, itr_tup, hm, go_nx, tuple_lst, done_rt, List.nil_append]
  rfl
theorem mend_rows : ∀ (l : List Row) (k : Nat) (ts : Ts) (cs : Cs), MOk k ts cs → k + l.length ≤ 40 → (∀ r ∈ l, RowOk r) →
    (∀ r ∈ mendT ts cs l, RowOk r) ∧ (mendT ts cs l).map (·.1) = (l.map (·.1)).take (mendT ts cs l).length ∧ ∀ i, (playT i ts cs (mendT ts cs l)).2.1 = .right
  | [], k, ts, cs, h, hk, hr => by simp [mendT, playT]
  | r :: l, k, ts, cs, h, hk, hr => by
    have hrow := hr r List.mem_cons_self
    cases e : stepT ts cs r.1 with
    | done ts' cs' =>
      have hm := step_mok h (by simp at hk; omega) r.1 e
      obtain ⟨h1, h2, h3⟩ := mend_rows l (k + 1) ts' cs' hm (by simp at hk ⊢; omega) (fun r hr' => hr r (List.mem_cons_of_mem _ hr'))
      rw [mendT_done e]
      refine ⟨fun q hq => ?_, ?_, fun i => ?_⟩
      · rcases List.mem_cons.mp hq with rfl | hq
        · refine ⟨fun p hp => ?_, ?_, fun p hp => ?_, ?_⟩
          · obtain ⟨q, hq, rfl⟩ := List.mem_map.mp hp
            exact hrow.nm q hq
          · simp only [List.map_map]
            exact hrow.nd
          · obtain ⟨q, hq, rfl⟩ := List.mem_map.mp hp
            obtain ⟨v, hv⟩ := get_some (hm.hasS (hrow.nm q hq))
            have := hm.tv _ (get_mem hv)
            simp only [hv, Option.getD_some] at this ⊢
            omega
          · simp only [List.length_map]; exact hrow.l
        · exact h1 q hq
      · simp only [List.map_cons, List.length_cons, List.take_succ_cons, h2]
      · have : soT ts' (r.2.map fun p => (p.1, (get ts' p.1).getD 0)) = true := by
          unfold soT
          rw [List.all_eq_true]
          intro p hp
          obtain ⟨q, hq, rfl⟩ := List.mem_map.mp hp
          obtain ⟨v, hv⟩ := get_some (hm.hasS (hrow.nm q hq))
          simp [hv]
        simp only [playT, e, this, if_true]
        exact h3 (i + 1)
    | wrong =>
      rw [mendT_no (fun a b z => by rw [e] at z; cases z)]
      simp [playT]
    | ends =>
      rw [mendT_no (fun a b z => by rw [e] at z; cases z)]
      simp [playT]
end
end M99
end

section
/-! M99j: the law. -/
namespace M99
open PySem PD DV PM PP PQ MT
theorem fmN : fm_Nothing "Nothing" = some true := if_pos rfl
theorem tryR_exc {α β : Type} (e : Str) (m1 mh : R (Fl α β)) (h : fm_Nothing e = some true) : tryR fm_Nothing (.exc e) m1 mh = mh := by
  show (match fm_Nothing e with | some true => mh | some false => .exc e | none => .bad) = mh
  rw [h]
theorem dNe_self {d : D} (h : d.pl 60 = true) : dNe d d = .ok false := by
  rw [dNe_of h h, eqv_refl d 60 h]; rfl
theorem odd_loop (ts : Ts) (cs : Cs) (l : List Row) (r2 : D × D) (hr : r2.1 = logD ts cs l) {β : Type} : (forR (L_law_4 r2) [.int ((l.length : Int) + 1), .int (-1), .bl true, .non] () : R (Fl Unit β)) = .ok (.nx ()) := by
  have key : ∀ d, F_cut_log (logD ts cs l) d = .exc "Nothing" → L_law_4 r2 d () = .ok (.ct ()) := fun d h => by
    unfold L_law_4
    simp only [R.bind_ok, hr, h, tryR_exc _ _ _ fmN, go_ct]
  rw [forR_cons_ct (key _ (cut_big ts cs l)), forR_cons_ct (key _ (cut_no ts cs l (count_neg (by decide)))), forR_cons_ct (key _ (cut_no ts cs l (count_bl true))), forR_cons_ct (key _ (cut_no ts cs l count_non))]
  rfl
theorem vWd (w : Wd) : VD (.str w.s) 0 41 := by cases w <;> exact vS (by decide +kernel) (by decide +kernel)
theorem play_bd : ∀ (l : List Row) (i k : Nat) (ts : Ts) (cs : Cs), MOk k ts cs → k + l.length ≤ 40 → (playT i ts cs l).1 ≤ i + l.length ∧ ∃ k', k' ≤ 40 ∧ MOk k' (playT i ts cs l).2.2.1 (playT i ts cs l).2.2.2
  | [], i, k, ts, cs, h, hk => ⟨Nat.le_refl _, k, by simp at hk; omega, h⟩
  | r :: l, i, k, ts, cs, h, hk => by
    simp only [List.length_cons] at hk ⊢
    cases e : stepT ts cs r.1 with
    | wrong => simp only [playT, e]; exact ⟨by omega, k, by omega, h⟩
    | ends => simp only [playT, e]; exact ⟨by omega, k, by omega, h⟩
    | done ts' cs' =>
      have hm := step_mok h (by omega) r.1 e
      simp only [playT, e]
      split
      · obtain ⟨h1, h2⟩ := play_bd l (i + 1) (k + 1) ts' cs' hm (by omega)
        exact ⟨by omega, h2⟩
      · exact ⟨by omega, k + 1, by omega, hm⟩
theorem vPlay {k : Nat} {ts : Ts} {cs : Cs} (h : MOk k ts cs) {l : List Row} (hk : k + l.length ≤ 40) : VD (playD (playT 0 ts cs l)) 4 30000 ∧ VD (faultD (playT 0 ts cs l)) 4 30000 := by
  obtain ⟨h1, k', h2, h3⟩ := play_bd l 0 k ts cs h hk
  have hi : VD (.int ((playT 0 ts cs l).1 : Nat)) 0 41 := vI (by omega) (by omega)
  refine ⟨?_, ?_⟩
  · refine (VD.tup (n := 3) (w := 6972) fun d hd => ?_).mono (Nat.le_refl _) (show 3 * 6973 ≤ 30000 by decide)
    simp only [List.mem_cons, List.not_mem_nil, or_false] at hd
    rcases hd with rfl | rfl | rfl
    · exact hi.mono (by decide) (by decide)
    · exact (vWd _).mono (by decide) (by decide)
    · exact vMem h3 (by omega)
  · unfold faultD
    split
    · exact VD.non.mono (by decide) (by decide)
    · exact (vPair hi (vWd _)).mono (by decide) (by decide)
theorem vNotes {l : List Row} (hr : ∀ r ∈ l, RowOk r) (hl : l.length ≤ 40) : VD (.tup ((l.zipIdx 0).filterMap noteT)) 2 4000 := by
  have hlen : ((l.zipIdx 0).filterMap noteT).length ≤ 40 := Nat.le_trans (List.length_filterMap_le _ _) (by rw [List.length_zipIdx]; exact hl)
  refine (VD.tup (n := 1) (w := 84) fun d hd => ?_).mono (Nat.le_refl _) (show _ * 85 ≤ 4000 by omega)
  obtain ⟨p, hp, e⟩ := List.mem_filterMap.mp hd
  unfold noteT at e
  cases hg : PM.get p.1.2 "x" with
  | none => rw [hg] at e; cases e
  | some v =>
    rw [hg] at e
    cases e
    have h1 := (hr p.1 (List.fst_mem_of_mem_zipIdx hp)).v _ (get_mem hg)
    have h2 := List.snd_lt_of_mem_zipIdx hp
    simp only at h1
    exact vPair (vI (by omega) (by omega)) (vI (by omega) (by omega))
theorem lap_ok {d s : D} (hs : BagOk s) : ∃ s', BagOk s' ∧ (L_law_5 d s = .ok (.nx s') ∨ L_law_5 d s = .ok (.ct s')) := by
  obtain ⟨ts, cs, b1, e1, h1, m0⟩ := law_memory_ok hs
  obtain ⟨v, b2, e2, h2, hv⟩ := take_ok h1 (n := 6) (by omega) (by omega)
  obtain ⟨n, rfl⟩ : ∃ n : Nat, v = (n : Int) := ⟨v.toNat, by omega⟩
  obtain ⟨l, b3, e3, h3, hl⟩ := steps_ok h2 (n := n)
  have ok := m0.ok
  have hl5 : 3 + l.length ≤ 40 := by omega
  have e4 := log_of_ok ok l hl5
  have e5 := law_logged_ok ok l hl5
  obtain ⟨hrows, hlen⟩ := log_rows l 3 ts cs ok hl5
  have hr1 : ∀ r ∈ logT ts cs l, RowOk r := fun r hr => (hrows r hr).1
  have e6 := checked_log_ok m0 (show (logT ts cs l).length ≤ 40 by omega) (fun r hr => (hrows r hr).2)
  have vlog := vLog ok (by decide) hr1 (by omega)
  have e7 := dNe_self (pl_mono (by decide) vlog.pl)
  have a1 := alike_self vlog (by decide) (by decide)
  have e8 := fault_ok ok (show 3 + (logT ts cs l).length ≤ 40 by omega) hr1
  have e9 : faultD (playT 0 ts cs (logT ts cs l)) = .non := by unfold faultD; rw [if_pos (log_plays l 0 3 ts cs ok hl5)]
  rw [e9] at e8
  obtain ⟨o, b4, e10, h4, ho, hol⟩ := turned_ok h3 ts cs hr1 (fun r hr p hp => by obtain ⟨k, cs', hm⟩ := (hrows r hr).2; exact (hm.tv p hp).2) (by omega)
  have hok : 3 + o.length ≤ 40 := by omega
  have e11 := law_played_ok ok hok ho
  have e12 := played_ok ok hok ho
  have e13 := fault_ok ok hok ho
  obtain ⟨vp, vf⟩ := vPlay ok hok
  have a2 := alike_self vp (by decide) (by decide)
  have a3 := alike_self vf (by decide) (by decide)
  obtain ⟨w, b5, e14, h5, hw⟩ := take_ok h4 (n := (o.length : Int) + 1) (by omega) (by omega)
  obtain ⟨m, rfl⟩ : ∃ n : Nat, w = (n : Int) := ⟨w.toNat, by omega⟩
  have e15 := cut_ok ts cs (show m ≤ o.length by omega)
  have vcut := vLog ok (by decide) (l := o.take m) (fun r hr => ho r (List.mem_of_mem_take hr)) (by rw [List.length_take]; omega)
  have a4 := alike_self vcut (by decide) (by decide)
  have e16 := noted_of_ok (ts := ts) (cs := cs) ho (by omega)
  have e17 := law_noted_ok ho
  have a5 := alike_self (vNotes ho (by omega)) (by decide) (by decide)
  have e18 := mended_ok ok hok ho
  obtain ⟨hm1, hm2, hm3⟩ := mend_rows o 3 ts cs ok hok ho
  have hml : (mendT ts cs o).length ≤ o.length := by
    have := congrArg List.length hm2
    rw [List.length_map, List.length_take, List.length_map] at this
    omega
  have e19 := law_played_ok ok (show 3 + (mendT ts cs o).length ≤ 40 by omega) hm1
  have e20 := dNe_self (pl_mono (by decide) (vMem ok (by decide)).pl)
  have e21 : compR L_law_2 ((mendT ts cs o).map dRow) = .ok (((mendT ts cs o).map (·.1)).map dS) := by
    rw [List.map_map]
    exact compR_map fun r _ => by unfold L_law_2; simp [dRow]
  have e22 : compR L_law_3 (o.map dRow) = .ok ((o.map (·.1)).map dS) := by
    rw [List.map_map]
    exact compR_map fun r _ => by unfold L_law_3; simp [dRow]
  have e23 : dNe (.lst (((mendT ts cs o).map (·.1)).map dS)) (.lst (((mendT ts cs o).map (·.1)).map dS)) = .ok false := by
    refine dNe_self (pl_mono (n := 2) (by decide) (VD.lst (n := 1) (w := 168) fun d hd => ?_).pl)
    obtain ⟨s, _, rfl⟩ := List.mem_map.mp hd
    exact vStep s
  have efd : (if (playT 0 ts cs o).2.1 = .right then R.ok D.non else R.ok (.tup [.int ((playT 0 ts cs o).1 : Nat), .str (playT 0 ts cs o).2.1.s])) = .ok (faultD (playT 0 ts cs o)) := by
    unfold faultD; split <;> rfl
  have esl : dSl (playD (playT 0 ts cs o)) none (some 2) = .ok (.tup [.int ((playT 0 ts cs o).1 : Nat), .str (playT 0 ts cs o).2.1.s]) := by
    show dSl (.tup _) none (some ((2 : Nat) : Int)) = _
    rw [sl_tup, cut_to]; rfl
  have ep1 : ∀ p, dIx (playD p) (.int 1) = .ok (.str p.2.1.s) := fun p => ix_t1 _ _ _
  have esrc : dSrc (.tup (o.map dRow)) = .ok (o.map dRow) := src_tup (by rw [List.length_map]; omega)
  refine ⟨b5, h5, .inl ?_⟩
  unfold L_law_5
  simp only [R.bind_ok, api2, e1, nox_ok, api1, e2, rng1 (show n ≤ 1000 by omega), e3, tuple_lst, e4, e5]
  rw [show D.tup [mem ts cs, .tup ((logT ts cs l).map dRow)] = logD ts cs (logT ts cs l) from rfl]
  simp only [a1, R.bind_ok, asB_bl, Bool.not_true, ifF, e6, e7, e8, isNot_non, isNon_non, e10, e11, e12, a2, ep1, eq_str', wd_right, e13, decide_eq_true_eq, asI_int, esl, efd, a3]
  simp only [log1, log0, len_tup, List.length_map, add_int, R.bind_ok, api1, e14, nox_ok, e15, asI_int, sl_tup, cut_to, ← List.map_take]
  rw [show D.tup [mem ts cs, .tup ((o.take m).map dRow)] = logD ts cs (o.take m) from rfl]
  simp only [a4, R.bind_ok, asB_bl, Bool.not_true, ifF, esrc, enum_rows, e17, tuple_lst, e16, a5, e18, e19, ep1, ne_str, wd_right, hm3, log0, log1, e20, itr_tup, e21, e22, len_tup, List.length_map, asI_int, sl_lst, cut_to, ← List.map_take, ← hm2, e23, decide_true, neg_int]
  rw [odd_loop ts cs o _ rfl]
  simp only [e11, e12, a2, ep1, eq_str', wd_right, e13, decide_eq_true_eq, esl, efd, a3, R.bind_ok, go_nx, asB_bl, Bool.not_true, ifF]
theorem law_true (ns : List Int) (h : ns.length ≤ 63) : F_law (.scr ns) = .ok (.bl true) := by
  obtain ⟨d, e, hd⟩ := bag_ok h
  unfold F_law m_law
  obtain ⟨s', e2, _⟩ := forR_bag (f := L_law_5) (β := Empty) (fun d s hs => lap_ok hs) ((List.range 6).map fun i => .int ((0 : Int) + (i : Nat))) d hd
  have er : dRng1 (.int 6) = .ok ((List.range 6).map fun i => .int ((0 : Int) + (i : Nat))) := rng1 (n := 6) (by decide)
  simp only [R.bind_ok, ap1, e, nox_ok, er, e2, go_nx, done_rt]
end M99
end

section
open PySem PySem.Spec L2 PD
open PyProof.Rows hiding St
namespace DV
def mkD (g x : Str) (i : Nat) : He.DefD := ⟨(g, none), x, x, defArgs (top i), defBody (top i), defScope (top i), [], []⟩
def hfn : List He.DefD := [mkD "_law_take" "_law_take" 71, mkD "_law_some" "_law_some" 72, mkD "_law_place" "_law_place" 75, mkD "_law_step" "_law_step" 76, mkD "_law_drawn_step" "_law_drawn_step" 77, mkD "is_integer" "is_integer" 13, mkD "is_count" "is_count" 14, mkD "is_name" "is_name" 15, mkD "is_cell_form" "is_cell_form" 30, mkD "is_told_form" "is_told_form" 29, mkD "check_cells" "check_cells" 33, mkD "check_told" "check_told" 32, mkD "is_memory_form" "is_memory_form" 31, mkD "is_sized" "is_sized" 20, mkD "is_told" "is_told" 21, mkD "are_rising" "are_rising" 19, mkD "is_tuple_of" "is_tuple_of" 18, mkD "is_term_forms" "is_term" 16, mkD "is_test" "is_test" 22, mkD "is_step_forms" "is_step" 23, mkD "is_noted" "is_noted" 58, mkD "names_among" "names_among" 36, mkD "step_names" "step_names" 37, mkD "names_of_row" "names_of_row" 60, mkD "checked_memory" "checked_memory" 34, mkD "is_row" "is_row" 59, mkD "is_test_word" "is_test_word" 43, mkD "is_worded" "is_worded" 45, mkD "is_term_steps" "is_term" 41, mkD "names_in_step" "names_in_step" 48, mkD "is_step_steps" "is_step" 46, mkD "check_step" "check_step" 51, mkD "new_place" "new_place" 50, mkD "place_told" "place_told" 49, mkD "memory_of" "memory_of" 53, mkD "changed" "changed" 54, mkD "asked_place" "asked_place" 52, mkD "is_so" "is_so" 63, mkD "done" "done" 55, mkD "played_log" "played_log" 64, mkD "_law_alike" "_law_alike" 73, mkD "_law_bag" "_law_bag" 70, mkD "noted_of" "noted_of" 67, mkD "_law_memory" "_law_memory" 74, mkD "_law_logged" "_law_logged" 78, mkD "_law_played" "_law_played" 79, mkD "cut_log" "cut_log" 66, mkD "_law_turned" "_law_turned" 80, mkD "checked_log" "checked_log" 61, mkD "log_of" "log_of" 62, mkD "mended" "mended" 68, mkD "fault_in" "fault_in" 65, mkD "law" "law" 81]
def hfa : List He.Fa := [.glo "_law_take", .glo "_law_some", .glo "_law_place", .glo "_law_step", .glo "_law_drawn_step", .glo "is_integer", .glo "is_count", .glo "is_name", .glo "is_cell_form", .glo "is_told_form", .glo "check_cells", .glo "check_told", .glo "is_memory_form", .glo "is_sized", .glo "is_told", .glo "are_rising", .glo "is_tuple_of", .glo "is_term_forms", .glo "is_test", .glo "is_step_forms", .glo "is_noted", .glo "names_among", .glo "step_names", .glo "names_of_row", .glo "checked_memory", .glo "is_row", .glo "is_test_word", .glo "is_worded", .glo "is_term_steps", .glo "names_in_step", .glo "is_step_steps", .glo "check_step", .glo "new_place", .glo "place_told", .glo "memory_of", .glo "changed", .glo "asked_place", .glo "is_so", .glo "done", .glo "played_log", .glo "_law_alike", .glo "_law_bag", .glo "noted_of", .glo "_law_memory", .glo "_law_logged", .glo "_law_played", .glo "cut_log", .glo "_law_turned", .glo "checked_log", .glo "log_of", .glo "mended", .glo "fault_in", .glo "law", .glo "Nothing", .exc "Nothing", .exm "Nothing" "Nothing" true, .free "abs", .free "all", .free "bool", .free "dict", .free "enumerate", .free "int", .free "isinstance", .free "len", .free "list", .free "min", .free "range", .free "repr", .free "sorted", .free "str", .free "tuple", .free "zip", .str "LETTERS" "abcdefghijklmnopqrstuvwxyz", .str "DIGITS" "0123456789", .int "MOST_LETTERS" 8, .glo "RESERVED", .glo "STEPS", .int "MOST_NAMES" 8, .int "MOST_CELLS_memories" 60, .int "MOST_PLACE" 1000000000, .int "MOST_CELLS_steps" 60, .glo "TESTS", .glo "KINDS", .int "MOST_ROWS" 200]
def hts : List He.Tab := [(fun K => He.ga K "STEPS", ["set", "load", "store", "new", "free"]), (fun K => He.ga K "KINDS", ["set", "load", "store", "new", "free", "test"])]
def hex (K : PySem.W.Frag) : Bool := (tupN K "RESERVED" k_RESERVED && (dctN K "STEPS" t_STEPS && (tupN K "TESTS" k_TESTS && dctN K "KINDS" t_KINDS)))
def names0 : List PySem.Str := ["_wall", "ListError", "BadMemory", "BadStep", "Nothing", "TooLarge", "LETTERS", "DIGITS", "MOST_LETTERS", "RESERVED", "STEPS", "is_integer", "is_count", "is_name", "is_term", "is_term_forms", "is_tuple_of", "are_rising", "is_sized", "is_told", "is_test", "is_step", "is_step_forms", "MOST_NAMES", "MOST_CELLS_memories", "MOST_PLACE", "is_told_form", "is_cell_form", "is_memory_form", "check_told"]
def names1 : List PySem.Str := ["check_cells", "checked_memory", "names_among", "step_names", "MOST_CELLS_steps", "TESTS", "is_term_steps", "is_test_word", "KINDS", "is_worded", "is_step_steps", "names_in_step", "place_told", "new_place", "check_step", "asked_place", "memory_of", "changed", "done", "MOST_ROWS", "is_noted", "is_row", "names_of_row", "checked_log", "log_of", "is_so", "played_log", "fault_in", "cut_log", "noted_of"]
def names2 : List PySem.Str := ["mended", "_law_bag", "_law_take", "_law_some", "_law_alike", "_law_memory", "_law_place", "_law_step", "_law_drawn_step", "_law_logged", "_law_played", "_law_turned"]
def names : List PySem.Str := names0 ++ names1 ++ names2
abbrev HR : PySem.W.OpenRow := PySem.W.OpenLaw.row PySem.Challenge.rw_listworlds_k99_whole_logs_of_steps
abbrev hk : PySem.W.Hook := He.hookX 5 hfa hfn hts [] hex
def ob (s : PySem.W.SharedT) : He.AlX := He.obsX 5 hfa hfn hts [] hex (HandSHeadRun.getT s)
theorem ob_eq (s : PySem.W.SharedT) : ob s = hk.obs s.abs := He.obsX_eq (HandSHeadRun.getT_eq s)
set_option maxHeartbeats 0 in
theorem run_f (w : World) : HandSHeadRun.RunEq HR (PySem.W.view HR.prog [81]) hk ob 20000 names (w.withFollow "special-get-raises" false) := by
  intro os
  kernel_rfl
set_option maxHeartbeats 0 in
theorem run_t (w : World) : HandSHeadRun.RunEq HR (PySem.W.view HR.prog [81]) hk ob 20000 names (w.withFollow "special-get-raises" true) := by
  intro os
  kernel_rfl
theorem run (w : World) : HandSHeadRun.RunEq HR (PySem.W.view HR.prog [81]) hk ob 20000 names w := PySem.W.byRow2 "special-get-raises" run_f run_t w
theorem mf {K : PySem.W.Frag} {h : Heap} {mg : Str → Option Value} {w : World} (X : K.In h) (G : h.Ns mainGlobals mg) (c : He.SaysX hfa hfn hts [] hex w h K) : MF K w mg where
  g_abs := He.free_ok X G (c.t.d.fact 56 (f := .free "abs") rfl)
  g_all := He.free_ok X G (c.t.d.fact 57 (f := .free "all") rfl)
  g_bool := He.free_ok X G (c.t.d.fact 58 (f := .free "bool") rfl)
  g_dict := He.free_ok X G (c.t.d.fact 59 (f := .free "dict") rfl)
  g_enumerate := He.free_ok X G (c.t.d.fact 60 (f := .free "enumerate") rfl)
  g_int := He.free_ok X G (c.t.d.fact 61 (f := .free "int") rfl)
  g_isinstance := He.free_ok X G (c.t.d.fact 62 (f := .free "isinstance") rfl)
  g_len := He.free_ok X G (c.t.d.fact 63 (f := .free "len") rfl)
  g_list := He.free_ok X G (c.t.d.fact 64 (f := .free "list") rfl)
  g_min := He.free_ok X G (c.t.d.fact 65 (f := .free "min") rfl)
  g_range := He.free_ok X G (c.t.d.fact 66 (f := .free "range") rfl)
  g_repr := He.free_ok X G (c.t.d.fact 67 (f := .free "repr") rfl)
  g_sorted := He.free_ok X G (c.t.d.fact 68 (f := .free "sorted") rfl)
  g_str := He.free_ok X G (c.t.d.fact 69 (f := .free "str") rfl)
  g_tuple := He.free_ok X G (c.t.d.fact 70 (f := .free "tuple") rfl)
  g_zip := He.free_ok X G (c.t.d.fact 71 (f := .free "zip") rfl)
  s_LETTERS := He.str_ok X G (c.t.d.fact 72 (f := .str "LETTERS" "abcdefghijklmnopqrstuvwxyz") rfl)
  s_DIGITS := He.str_ok X G (c.t.d.fact 73 (f := .str "DIGITS" "0123456789") rfl)
  i_MOST_LETTERS := He.int_ok X G (c.t.d.fact 74 (f := .int "MOST_LETTERS" 8) rfl)
  t_RESERVED := gtup_of X G (c.t.d.fact 75 (f := .glo "RESERVED") rfl) (He.ba c.more).1
  d_STEPS := gtab_of X G (c.t.d.fact 76 (f := .glo "STEPS") rfl) (c.t.tab 0) (He.ba (He.ba c.more).2).1
  i_MOST_NAMES := He.int_ok X G (c.t.d.fact 77 (f := .int "MOST_NAMES" 8) rfl)
  i_MOST_CELLS_memories := He.int_ok X G (c.t.d.fact 78 (f := .int "MOST_CELLS_memories" 60) rfl)
  i_MOST_PLACE := He.int_ok X G (c.t.d.fact 79 (f := .int "MOST_PLACE" 1000000000) rfl)
  i_MOST_CELLS_steps := He.int_ok X G (c.t.d.fact 80 (f := .int "MOST_CELLS_steps" 60) rfl)
  t_TESTS := gtup_of X G (c.t.d.fact 81 (f := .glo "TESTS") rfl) (He.ba (He.ba (He.ba c.more).2).2).1
  d_KINDS := gtab_of X G (c.t.d.fact 82 (f := .glo "KINDS") rfl) (c.t.tab 1) (He.ba (He.ba (He.ba c.more).2).2).2
  i_MOST_ROWS := He.int_ok X G (c.t.d.fact 83 (f := .int "MOST_ROWS" 200) rfl)
  f_is_step_forms := ⟨_, He.glo_ok X G (c.t.d.fact 19 (f := .glo "is_step_forms") rfl)⟩
  f_is_told := ⟨_, He.glo_ok X G (c.t.d.fact 14 (f := .glo "is_told") rfl)⟩
  e_Nothing := exm_of X G (c.t.d.fact 53 (f := .glo "Nothing") rfl) (c.t.d.fact 55 (f := .exm "Nothing" "Nothing" true) rfl)
  x_Nothing := exCls_of X G (c.t.d.fact 53 (f := .glo "Nothing") rfl) (c.t.d.fact 54 (f := .exc "Nothing") rfl)
section
variable {P : Program} {w : World} {K : PySem.W.Frag} {mg : Str → Option Value} {base : Heap} {f : Addr} {fd : FuncData}
theorem sc__law_alike : FnScope ["found", "due"] ["found", "due"] (defScope (top 73)) := ⟨rfl, rfl, rfl, by decide +kernel, rfl, by decide +kernel, by decide +kernel⟩
theorem p__law_alike (M : MF K w mg) (Fd : FunD K "_law_alike" "_law_alike" (defArgs (top 73)) (defBody (top 73)) (defScope (top 73)) [] [] f fd) (hm : mg "_law_alike" = some (.ref f))  : FnD P w K mg base 1 "_law_alike" 2 (ap2 F__law_alike) :=
  fnD_of2 (N := ["found", "due"]) (fun ds => match ds with | [a, b] => m__law_alike a b | _ => .bad) Fd sc__law_alike hm (Fd.bindsN fun _ _ _ _ _ _ us hl => match us, hl with | [_, _], _ => rfl) rfl (by decide) (fun ds hd => match ds, hd with | [a, b], _ => rfl) fun cdv A outer s H E hr hg ds hd => match ds, hd with | [a, b], _ => b__law_alike M  hr hg a b
theorem sc__law_bag : FnScope ["script", "cell"] ["script"] (defScope (top 70)) := ⟨rfl, rfl, rfl, by decide +kernel, rfl, by decide +kernel, by decide +kernel⟩
theorem p__law_bag (M : MF K w mg) (Fd : FunD K "_law_bag" "_law_bag" (defArgs (top 70)) (defBody (top 70)) (defScope (top 70)) [] [] f fd) (hm : mg "_law_bag" = some (.ref f))  : FnO P w K mg base 1 "_law_bag" 1 (ap1 F__law_bag) :=
  fnO_of (N := ["script", "cell"]) (fun ds => match ds with | [a] => m__law_bag a | _ => .bad) Fd sc__law_bag hm (Fd.bindsN fun _ _ _ _ _ _ us hl => match us, hl with | [_], _ => rfl) rfl (by decide) (fun ds d hd e => match ds, hd, e with | [a], _, e => doneO_ok e) fun cdv A outer s H E hr hg ds hd => match ds, hd with | [a], _ => b__law_bag (E := E) M  hr hg a
theorem sc__law_take : FnScope ["bag", "many", "begin", "second", "cell", "stirred", "value"] ["bag", "many"] (defScope (top 71)) := ⟨rfl, rfl, rfl, by decide +kernel, rfl, by decide +kernel, by decide +kernel⟩
theorem p__law_take (M : MF K w mg) (Fd : FunD K "_law_take" "_law_take" (defArgs (top 71)) (defBody (top 71)) (defScope (top 71)) [] [] f fd) (hm : mg "_law_take" = some (.ref f))  : FnI P w K mg base 1 "_law_take" 1 (api1 F__law_take) :=
  fnI_of (N := ["bag", "many", "begin", "second", "cell", "stirred", "value"]) (fun z ds => match ds with | [b] => m__law_take z b | _ => .bad) Fd sc__law_take hm (Fd.bindsN fun _ _ _ _ _ _ us hl => match us, hl with | [_, _], _ => rfl) rfl (by decide) (fun z ds hd => match ds, hd with | [b], _ => rfl) fun cdv A outer s H E p hr hg z ds hd => match ds, hd with | [b], _ => b__law_take (E := E) M  hr hg z b
theorem sc__law_some : FnScope ["bag", "things"] ["bag", "things"] (defScope (top 72)) := ⟨rfl, rfl, rfl, by decide +kernel, rfl, by decide +kernel, by decide +kernel⟩
theorem p__law_some (M : MF K w mg) (Fd : FunD K "_law_some" "_law_some" (defArgs (top 72)) (defBody (top 72)) (defScope (top 72)) [] [] f fd) (hm : mg "_law_some" = some (.ref f)) (h__law_take : FnI P w K mg base 1 "_law_take" 1 (api1 F__law_take)) : FnI P w K mg base 2 "_law_some" 1 (api1 F__law_some) :=
  fnI_of (N := ["bag", "things"]) (fun z ds => match ds with | [b] => m__law_some z b | _ => .bad) Fd sc__law_some hm (Fd.bindsN fun _ _ _ _ _ _ us hl => match us, hl with | [_, _], _ => rfl) rfl (by decide) (fun z ds hd => match ds, hd with | [b], _ => rfl) fun cdv A outer s H E p hr hg z ds hd => match ds, hd with | [b], _ => b__law_some (E := E) M h__law_take hr hg z b
theorem sc__law_drawn_step : FnScope ["bag", "names", "word", "one", "other"] ["bag", "names"] (defScope (top 77)) := ⟨rfl, rfl, rfl, by decide +kernel, rfl, by decide +kernel, by decide +kernel⟩
theorem p__law_drawn_step (M : MF K w mg) (Fd : FunD K "_law_drawn_step" "_law_drawn_step" (defArgs (top 77)) (defBody (top 77)) (defScope (top 77)) [] [] f fd) (hm : mg "_law_drawn_step" = some (.ref f)) (h__law_some : FnI P w K mg base 2 "_law_some" 1 (api1 F__law_some)) : FnI P w K mg base 3 "_law_drawn_step" 1 (api1 F__law_drawn_step) :=
  fnI_of (N := ["bag", "names", "word", "one", "other"]) (fun z ds => match ds with | [b] => m__law_drawn_step z b | _ => .bad) Fd sc__law_drawn_step hm (Fd.bindsN fun _ _ _ _ _ _ us hl => match us, hl with | [_, _], _ => rfl) rfl (by decide) (fun z ds hd => match ds, hd with | [b], _ => rfl) fun cdv A outer s H E p hr hg z ds hd => match ds, hd with | [b], _ => b__law_drawn_step (E := E) M h__law_some hr hg z b
theorem sc__law_place : FnScope ["memory", "term"] ["memory", "term"] (defScope (top 75)) := ⟨rfl, rfl, rfl, by decide +kernel, rfl, by decide +kernel, by decide +kernel⟩
theorem p__law_place (M : MF K w mg) (Fd : FunD K "_law_place" "_law_place" (defArgs (top 75)) (defBody (top 75)) (defScope (top 75)) [] [] f fd) (hm : mg "_law_place" = some (.ref f))  : FnD P w K mg base 1 "_law_place" 2 (ap2 F__law_place) :=
  fnD_of2 (N := ["memory", "term"]) (fun ds => match ds with | [a, b] => m__law_place a b | _ => .bad) Fd sc__law_place hm (Fd.bindsN fun _ _ _ _ _ _ us hl => match us, hl with | [_, _], _ => rfl) rfl (by decide) (fun ds hd => match ds, hd with | [a, b], _ => rfl) fun cdv A outer s H E hr hg ds hd => match ds, hd with | [a, b], _ => b__law_place M  hr hg a b
theorem sc__law_step : FnScope ["memory", "step", "told", "cells", "word", "asked", "same", "used", "place", "name", "one"] ["memory", "step"] (defScope (top 76)) := ⟨rfl, rfl, rfl, by decide +kernel, rfl, by decide +kernel, by decide +kernel⟩
theorem p__law_step (M : MF K w mg) (Fd : FunD K "_law_step" "_law_step" (defArgs (top 76)) (defBody (top 76)) (defScope (top 76)) [] [] f fd) (hm : mg "_law_step" = some (.ref f)) (h__law_place : FnD P w K mg base 1 "_law_place" 2 (ap2 F__law_place)) : FnD P w K mg base 2 "_law_step" 2 (ap2 F__law_step) :=
  fnD_of2 (N := ["memory", "step", "told", "cells", "word", "asked", "same", "used", "place", "name", "one"]) (fun ds => match ds with | [a, b] => m__law_step a b | _ => .bad) Fd sc__law_step hm (Fd.bindsN fun _ _ _ _ _ _ us hl => match us, hl with | [_, _], _ => rfl) rfl (by decide) (fun ds hd => match ds, hd with | [a, b], _ => rfl) fun cdv A outer s H E hr hg ds hd => match ds, hd with | [a, b], _ => b__law_step M h__law_place hr hg a b
theorem sc__law_logged : FnScope ["memory", "steps", "rows", "here", "step", "word", "later"] ["memory", "steps"] (defScope (top 78)) := ⟨rfl, rfl, rfl, by decide +kernel, rfl, by decide +kernel, by decide +kernel⟩
theorem p__law_logged (M : MF K w mg) (Fd : FunD K "_law_logged" "_law_logged" (defArgs (top 78)) (defBody (top 78)) (defScope (top 78)) [] [] f fd) (hm : mg "_law_logged" = some (.ref f)) (h__law_step : FnD P w K mg base 2 "_law_step" 2 (ap2 F__law_step)) : FnD P w K mg base 3 "_law_logged" 2 (ap2 F__law_logged) :=
  fnD_of2 (N := ["memory", "steps", "rows", "here", "step", "word", "later"]) (fun ds => match ds with | [a, b] => m__law_logged a b | _ => .bad) Fd sc__law_logged hm (Fd.bindsN fun _ _ _ _ _ _ us hl => match us, hl with | [_, _], _ => rfl) rfl (by decide) (fun ds hd => match ds, hd with | [a, b], _ => rfl) fun cdv A outer s H E hr hg ds hd => match ds, hd with | [a, b], _ => b__law_logged M h__law_step hr hg a b
theorem sc__law_memory : FnScope ["bag", "names", "most", "many", "told", "name", "k"] ["bag", "names", "most"] (defScope (top 74)) := ⟨rfl, rfl, rfl, by decide +kernel, rfl, by decide +kernel, by decide +kernel⟩
theorem p__law_memory (M : MF K w mg) (Fd : FunD K "_law_memory" "_law_memory" (defArgs (top 74)) (defBody (top 74)) (defScope (top 74)) [] [] f fd) (hm : mg "_law_memory" = some (.ref f)) (h__law_take : FnI P w K mg base 1 "_law_take" 1 (api1 F__law_take)) : FnI P w K mg base 2 "_law_memory" 2 (api2 F__law_memory) :=
  fnI_of (N := ["bag", "names", "most", "many", "told", "name", "k"]) (fun z ds => match ds with | [b, c] => m__law_memory z b c | _ => .bad) Fd sc__law_memory hm (Fd.bindsN fun _ _ _ _ _ _ us hl => match us, hl with | [_, _, _], _ => rfl) rfl (by decide) (fun z ds hd => match ds, hd with | [b, c], _ => rfl) fun cdv A outer s H E p hr hg z ds hd => match ds, hd with | [b, c], _ => b__law_memory (E := E) M h__law_take hr hg z b c
theorem sc__law_played : FnScope ["log", "here", "index", "step", "noted", "word", "later", "told", "name", "place"] ["log"] (defScope (top 79)) := ⟨rfl, rfl, rfl, by decide +kernel, rfl, by decide +kernel, by decide +kernel⟩
theorem p__law_played (M : MF K w mg) (Fd : FunD K "_law_played" "_law_played" (defArgs (top 79)) (defBody (top 79)) (defScope (top 79)) [] [] f fd) (hm : mg "_law_played" = some (.ref f)) (h__law_step : FnD P w K mg base 2 "_law_step" 2 (ap2 F__law_step)) : FnD P w K mg base 3 "_law_played" 1 (ap1 F__law_played) :=
  fnD_of2 (N := ["log", "here", "index", "step", "noted", "word", "later", "told", "name", "place"]) (fun ds => match ds with | [a] => m__law_played a | _ => .bad) Fd sc__law_played hm (Fd.bindsN fun _ _ _ _ _ _ us hl => match us, hl with | [_], _ => rfl) rfl (by decide) (fun ds hd => match ds, hd with | [a], _ => rfl) fun cdv A outer s H E hr hg ds hd => match ds, hd with | [a], _ => b__law_played M h__law_step hr hg a
theorem sc__law_turned : FnScope ["bag", "log", "memory", "rows", "at", "step", "noted", "kind", "row", "name", "place"] ["bag", "log"] (defScope (top 80)) := ⟨rfl, rfl, rfl, by decide +kernel, rfl, by decide +kernel, by decide +kernel⟩
theorem p__law_turned (M : MF K w mg) (Fd : FunD K "_law_turned" "_law_turned" (defArgs (top 80)) (defBody (top 80)) (defScope (top 80)) [] [] f fd) (hm : mg "_law_turned" = some (.ref f)) (h__law_take : FnI P w K mg base 1 "_law_take" 1 (api1 F__law_take)) (h__law_drawn_step : FnI P w K mg base 3 "_law_drawn_step" 1 (api1 F__law_drawn_step)) : FnI P w K mg base 4 "_law_turned" 1 (api1 F__law_turned) :=
  fnI_of (N := ["bag", "log", "memory", "rows", "at", "step", "noted", "kind", "row", "name", "place"]) (fun z ds => match ds with | [b] => m__law_turned z b | _ => .bad) Fd sc__law_turned hm (Fd.bindsN fun _ _ _ _ _ _ us hl => match us, hl with | [_, _], _ => rfl) rfl (by decide) (fun z ds hd => match ds, hd with | [b], _ => rfl) fun cdv A outer s H E p hr hg z ds hd => match ds, hd with | [b], _ => b__law_turned (E := E) M h__law_take h__law_drawn_step hr hg z b
theorem sc_check_cells : FnScope ["cells", "index", "place", "other"] ["cells"] (defScope (top 33)) := ⟨rfl, rfl, rfl, by decide +kernel, rfl, by decide +kernel, by decide +kernel⟩
theorem p_check_cells (M : MF K w mg) (Fd : FunD K "check_cells" "check_cells" (defArgs (top 33)) (defBody (top 33)) (defScope (top 33)) [] [] f fd) (hm : mg "check_cells" = some (.ref f))  : FnD P w K mg base 1 "check_cells" 1 (ap1 F_check_cells) :=
  fnD_of2 (N := ["cells", "index", "place", "other"]) (fun ds => match ds with | [a] => m_check_cells a | _ => .bad) Fd sc_check_cells hm (Fd.bindsN fun _ _ _ _ _ _ us hl => match us, hl with | [_], _ => rfl) rfl (by decide) (fun ds hd => match ds, hd with | [a], _ => rfl) fun cdv A outer s H E hr hg ds hd => match ds, hd with | [a], _ => b_check_cells M  hr hg a
theorem sc_check_told : FnScope ["told", "index", "name", "place"] ["told"] (defScope (top 32)) := ⟨rfl, rfl, rfl, by decide +kernel, rfl, by decide +kernel, by decide +kernel⟩
theorem p_check_told (M : MF K w mg) (Fd : FunD K "check_told" "check_told" (defArgs (top 32)) (defBody (top 32)) (defScope (top 32)) [] [] f fd) (hm : mg "check_told" = some (.ref f))  : FnD P w K mg base 1 "check_told" 1 (ap1 F_check_told) :=
  fnD_of2 (N := ["told", "index", "name", "place"]) (fun ds => match ds with | [a] => m_check_told a | _ => .bad) Fd sc_check_told hm (Fd.bindsN fun _ _ _ _ _ _ us hl => match us, hl with | [_], _ => rfl) rfl (by decide) (fun ds hd => match ds, hd with | [a], _ => rfl) fun cdv A outer s H E hr hg ds hd => match ds, hd with | [a], _ => b_check_told M  hr hg a
theorem sc_is_integer : FnScope ["thing"] ["thing"] (defScope (top 13)) := ⟨rfl, rfl, rfl, by decide +kernel, rfl, by decide +kernel, by decide +kernel⟩
theorem p_is_integer (M : MF K w mg) (Fd : FunD K "is_integer" "is_integer" (defArgs (top 13)) (defBody (top 13)) (defScope (top 13)) [] [] f fd) (hm : mg "is_integer" = some (.ref f))  : FnD P w K mg base 1 "is_integer" 1 (ap1 F_is_integer) :=
  fnD_of2 (N := ["thing"]) (fun ds => match ds with | [a] => m_is_integer a | _ => .bad) Fd sc_is_integer hm (Fd.bindsN fun _ _ _ _ _ _ us hl => match us, hl with | [_], _ => rfl) rfl (by decide) (fun ds hd => match ds, hd with | [a], _ => rfl) fun cdv A outer s H E hr hg ds hd => match ds, hd with | [a], _ => b_is_integer M  hr hg a
theorem sc_is_count : FnScope ["thing"] ["thing"] (defScope (top 14)) := ⟨rfl, rfl, rfl, by decide +kernel, rfl, by decide +kernel, by decide +kernel⟩
theorem p_is_count (M : MF K w mg) (Fd : FunD K "is_count" "is_count" (defArgs (top 14)) (defBody (top 14)) (defScope (top 14)) [] [] f fd) (hm : mg "is_count" = some (.ref f)) (h_is_integer : FnD P w K mg base 1 "is_integer" 1 (ap1 F_is_integer)) : FnD P w K mg base 2 "is_count" 1 (ap1 F_is_count) :=
  fnD_of2 (N := ["thing"]) (fun ds => match ds with | [a] => m_is_count a | _ => .bad) Fd sc_is_count hm (Fd.bindsN fun _ _ _ _ _ _ us hl => match us, hl with | [_], _ => rfl) rfl (by decide) (fun ds hd => match ds, hd with | [a], _ => rfl) fun cdv A outer s H E hr hg ds hd => match ds, hd with | [a], _ => b_is_count M h_is_integer hr hg a
theorem sc_is_cell_form : FnScope ["thing"] ["thing"] (defScope (top 30)) := ⟨rfl, rfl, rfl, by decide +kernel, rfl, by decide +kernel, by decide +kernel⟩
theorem p_is_cell_form (M : MF K w mg) (Fd : FunD K "is_cell_form" "is_cell_form" (defArgs (top 30)) (defBody (top 30)) (defScope (top 30)) [] [] f fd) (hm : mg "is_cell_form" = some (.ref f)) (h_is_count : FnD P w K mg base 2 "is_count" 1 (ap1 F_is_count)) : FnD P w K mg base 3 "is_cell_form" 1 (ap1 F_is_cell_form) :=
  fnD_of2 (N := ["thing"]) (fun ds => match ds with | [a] => m_is_cell_form a | _ => .bad) Fd sc_is_cell_form hm (Fd.bindsN fun _ _ _ _ _ _ us hl => match us, hl with | [_], _ => rfl) rfl (by decide) (fun ds hd => match ds, hd with | [a], _ => rfl) fun cdv A outer s H E hr hg ds hd => match ds, hd with | [a], _ => b_is_cell_form M h_is_count hr hg a
theorem sc_is_name : FnScope ["thing", "sign"] ["thing"] (defScope (top 15)) := ⟨rfl, rfl, rfl, by decide +kernel, rfl, by decide +kernel, by decide +kernel⟩
theorem p_is_name (M : MF K w mg) (Fd : FunD K "is_name" "is_name" (defArgs (top 15)) (defBody (top 15)) (defScope (top 15)) [] [] f fd) (hm : mg "is_name" = some (.ref f))  : FnD P w K mg base 1 "is_name" 1 (ap1 F_is_name) :=
  fnD_of2 (N := ["thing", "sign"]) (fun ds => match ds with | [a] => m_is_name a | _ => .bad) Fd sc_is_name hm (Fd.bindsN fun _ _ _ _ _ _ us hl => match us, hl with | [_], _ => rfl) rfl (by decide) (fun ds hd => match ds, hd with | [a], _ => rfl) fun cdv A outer s H E hr hg ds hd => match ds, hd with | [a], _ => b_is_name M  hr hg a
theorem sc_is_told_form : FnScope ["thing"] ["thing"] (defScope (top 29)) := ⟨rfl, rfl, rfl, by decide +kernel, rfl, by decide +kernel, by decide +kernel⟩
theorem p_is_told_form (M : MF K w mg) (Fd : FunD K "is_told_form" "is_told_form" (defArgs (top 29)) (defBody (top 29)) (defScope (top 29)) [] [] f fd) (hm : mg "is_told_form" = some (.ref f)) (h_is_name : FnD P w K mg base 1 "is_name" 1 (ap1 F_is_name)) (h_is_count : FnD P w K mg base 2 "is_count" 1 (ap1 F_is_count)) : FnD P w K mg base 3 "is_told_form" 1 (ap1 F_is_told_form) :=
  fnD_of2 (N := ["thing"]) (fun ds => match ds with | [a] => m_is_told_form a | _ => .bad) Fd sc_is_told_form hm (Fd.bindsN fun _ _ _ _ _ _ us hl => match us, hl with | [_], _ => rfl) rfl (by decide) (fun ds hd => match ds, hd with | [a], _ => rfl) fun cdv A outer s H E hr hg ds hd => match ds, hd with | [a], _ => b_is_told_form M h_is_name h_is_count hr hg a
theorem sc_is_memory_form : FnScope ["thing", "one"] ["thing"] (defScope (top 31)) := ⟨rfl, rfl, rfl, by decide +kernel, rfl, by decide +kernel, by decide +kernel⟩
theorem p_is_memory_form (M : MF K w mg) (Fd : FunD K "is_memory_form" "is_memory_form" (defArgs (top 31)) (defBody (top 31)) (defScope (top 31)) [] [] f fd) (hm : mg "is_memory_form" = some (.ref f)) (h_is_cell_form : FnD P w K mg base 3 "is_cell_form" 1 (ap1 F_is_cell_form)) (h_is_told_form : FnD P w K mg base 3 "is_told_form" 1 (ap1 F_is_told_form)) : FnD P w K mg base 4 "is_memory_form" 1 (ap1 F_is_memory_form) :=
  fnD_of2 (N := ["thing", "one"]) (fun ds => match ds with | [a] => m_is_memory_form a | _ => .bad) Fd sc_is_memory_form hm (Fd.bindsN fun _ _ _ _ _ _ us hl => match us, hl with | [_], _ => rfl) rfl (by decide) (fun ds hd => match ds, hd with | [a], _ => rfl) fun cdv A outer s H E hr hg ds hd => match ds, hd with | [a], _ => b_is_memory_form M h_is_cell_form h_is_told_form hr hg a
theorem sc_checked_memory : FnScope ["thing", "told", "cells"] ["thing"] (defScope (top 34)) := ⟨rfl, rfl, rfl, by decide +kernel, rfl, by decide +kernel, by decide +kernel⟩
theorem p_checked_memory (M : MF K w mg) (Fd : FunD K "checked_memory" "checked_memory" (defArgs (top 34)) (defBody (top 34)) (defScope (top 34)) [] [] f fd) (hm : mg "checked_memory" = some (.ref f)) (h_check_cells : FnD P w K mg base 1 "check_cells" 1 (ap1 F_check_cells)) (h_check_told : FnD P w K mg base 1 "check_told" 1 (ap1 F_check_told)) (h_is_memory_form : FnD P w K mg base 4 "is_memory_form" 1 (ap1 F_is_memory_form)) : FnD P w K mg base 5 "checked_memory" 1 (ap1 F_checked_memory) :=
  fnD_of2 (N := ["thing", "told", "cells"]) (fun ds => match ds with | [a] => m_checked_memory a | _ => .bad) Fd sc_checked_memory hm (Fd.bindsN fun _ _ _ _ _ _ us hl => match us, hl with | [_], _ => rfl) rfl (by decide) (fun ds hd => match ds, hd with | [a], _ => rfl) fun cdv A outer s H E hr hg ds hd => match ds, hd with | [a], _ => b_checked_memory M h_check_cells h_check_told h_is_memory_form hr hg a
theorem sc_are_rising : FnScope ["things", "one", "other"] ["things"] (defScope (top 19)) := ⟨rfl, rfl, rfl, by decide +kernel, rfl, by decide +kernel, by decide +kernel⟩
theorem p_are_rising (M : MF K w mg) (Fd : FunD K "are_rising" "are_rising" (defArgs (top 19)) (defBody (top 19)) (defScope (top 19)) [] [] f fd) (hm : mg "are_rising" = some (.ref f))  : FnD P w K mg base 1 "are_rising" 1 (ap1 F_are_rising) :=
  fnD_of2 (N := ["things", "one", "other"]) (fun ds => match ds with | [a] => m_are_rising a | _ => .bad) Fd sc_are_rising hm (Fd.bindsN fun _ _ _ _ _ _ us hl => match us, hl with | [_], _ => rfl) rfl (by decide) (fun ds hd => match ds, hd with | [a], _ => rfl) fun cdv A outer s H E hr hg ds hd => match ds, hd with | [a], _ => b_are_rising M  hr hg a
theorem sc_is_sized : FnScope ["thing", "many"] ["thing", "many"] (defScope (top 20)) := ⟨rfl, rfl, rfl, by decide +kernel, rfl, by decide +kernel, by decide +kernel⟩
theorem p_is_sized (M : MF K w mg) (Fd : FunD K "is_sized" "is_sized" (defArgs (top 20)) (defBody (top 20)) (defScope (top 20)) [] [] f fd) (hm : mg "is_sized" = some (.ref f))  : FnD P w K mg base 1 "is_sized" 2 (ap2 F_is_sized) :=
  fnD_of2 (N := ["thing", "many"]) (fun ds => match ds with | [a, b] => m_is_sized a b | _ => .bad) Fd sc_is_sized hm (Fd.bindsN fun _ _ _ _ _ _ us hl => match us, hl with | [_, _], _ => rfl) rfl (by decide) (fun ds hd => match ds, hd with | [a, b], _ => rfl) fun cdv A outer s H E hr hg ds hd => match ds, hd with | [a, b], _ => b_is_sized M  hr hg a b
theorem sc_is_told : FnScope ["thing"] ["thing"] (defScope (top 21)) := ⟨rfl, rfl, rfl, by decide +kernel, rfl, by decide +kernel, by decide +kernel⟩
theorem p_is_told (M : MF K w mg) (Fd : FunD K "is_told" "is_told" (defArgs (top 21)) (defBody (top 21)) (defScope (top 21)) [] [] f fd) (hm : mg "is_told" = some (.ref f)) (h_is_name : FnD P w K mg base 1 "is_name" 1 (ap1 F_is_name)) (h_is_sized : FnD P w K mg base 1 "is_sized" 2 (ap2 F_is_sized)) (h_is_count : FnD P w K mg base 2 "is_count" 1 (ap1 F_is_count)) : FnD P w K mg base 3 "is_told" 1 (ap1 F_is_told) :=
  fnD_of2 (N := ["thing"]) (fun ds => match ds with | [a] => m_is_told a | _ => .bad) Fd sc_is_told hm (Fd.bindsN fun _ _ _ _ _ _ us hl => match us, hl with | [_], _ => rfl) rfl (by decide) (fun ds hd => match ds, hd with | [a], _ => rfl) fun cdv A outer s H E hr hg ds hd => match ds, hd with | [a], _ => b_is_told M h_is_name h_is_sized h_is_count hr hg a
theorem sc_is_tuple_of__is_told : FnScope ["thing", "is_item", "item"] ["thing", "is_item"] (defScope (top 18)) := ⟨rfl, rfl, rfl, by decide +kernel, rfl, by decide +kernel, by decide +kernel⟩
theorem p_is_tuple_of__is_told (M : MF K w mg) (Fd : FunD K "is_tuple_of" "is_tuple_of" (defArgs (top 18)) (defBody (top 18)) (defScope (top 18)) [] [] f fd) (hm : mg "is_tuple_of" = some (.ref f)) (h_is_told : FnD P w K mg base 3 "is_told" 1 (ap1 F_is_told)) : FnD P w K mg base 4 "is_tuple_of" 2 (ap2 G_is_tuple_of__is_told) :=
  fnD_of2 (N := ["thing", "is_item", "item"]) (fun ds => match ds with | [a, b] => (chkFn "is_told" b).bind fun _ => m_is_tuple_of__is_told a | _ => .bad) Fd sc_is_tuple_of__is_told hm (Fd.bindsN fun _ _ _ _ _ _ us hl => match us, hl with | [_, _], _ => rfl) rfl (by decide) (fun ds hd => match ds, hd with | [a, b], _ => done_chk.symm) fun cdv A outer s H E hr hg ds hd => match ds, hd with | [a, b], _ => jn_chk (G := fun z => env0 [a, z] 1) (b_is_tuple_of__is_told M h_is_told hr hg a)
theorem sc_is_noted : FnScope ["thing", "name", "place"] ["thing"] (defScope (top 58)) := ⟨rfl, rfl, rfl, by decide +kernel, rfl, by decide +kernel, by decide +kernel⟩
theorem p_is_noted (M : MF K w mg) (Fd : FunD K "is_noted" "is_noted" (defArgs (top 58)) (defBody (top 58)) (defScope (top 58)) [] [] f fd) (hm : mg "is_noted" = some (.ref f)) (h_are_rising : FnD P w K mg base 1 "are_rising" 1 (ap1 F_are_rising)) (h_is_tuple_of__is_told : FnD P w K mg base 4 "is_tuple_of" 2 (ap2 G_is_tuple_of__is_told)) : FnD P w K mg base 5 "is_noted" 1 (ap1 F_is_noted) :=
  fnD_of2 (N := ["thing", "name", "place"]) (fun ds => match ds with | [a] => m_is_noted a | _ => .bad) Fd sc_is_noted hm (Fd.bindsN fun _ _ _ _ _ _ us hl => match us, hl with | [_], _ => rfl) rfl (by decide) (fun ds hd => match ds, hd with | [a], _ => rfl) fun cdv A outer s H E hr hg ds hd => match ds, hd with | [a], _ => b_is_noted M h_are_rising h_is_tuple_of__is_told hr hg a
theorem sc_is_term_forms : FnScope ["thing"] ["thing"] (defScope (top 16)) := ⟨rfl, rfl, rfl, by decide +kernel, rfl, by decide +kernel, by decide +kernel⟩
theorem p_is_term_forms (M : MF K w mg) (Fd : FunD K "is_term" "is_term" (defArgs (top 16)) (defBody (top 16)) (defScope (top 16)) [] [] f fd) (hm : mg "is_term_forms" = some (.ref f)) (h_is_name : FnD P w K mg base 1 "is_name" 1 (ap1 F_is_name)) : FnD P w K mg base 2 "is_term_forms" 1 (ap1 F_is_term_forms) :=
  fnD_of2 (N := ["thing"]) (fun ds => match ds with | [a] => m_is_term_forms a | _ => .bad) Fd sc_is_term_forms hm (Fd.bindsN fun _ _ _ _ _ _ us hl => match us, hl with | [_], _ => rfl) rfl (by decide) (fun ds hd => match ds, hd with | [a], _ => rfl) fun cdv A outer s H E hr hg ds hd => match ds, hd with | [a], _ => b_is_term_forms M h_is_name hr hg a
theorem sc_is_test : FnScope ["thing"] ["thing"] (defScope (top 22)) := ⟨rfl, rfl, rfl, by decide +kernel, rfl, by decide +kernel, by decide +kernel⟩
theorem p_is_test (M : MF K w mg) (Fd : FunD K "is_test" "is_test" (defArgs (top 22)) (defBody (top 22)) (defScope (top 22)) [] [] f fd) (hm : mg "is_test" = some (.ref f)) (h_is_name : FnD P w K mg base 1 "is_name" 1 (ap1 F_is_name)) (h_is_sized : FnD P w K mg base 1 "is_sized" 2 (ap2 F_is_sized)) (h_is_term_forms : FnD P w K mg base 2 "is_term_forms" 1 (ap1 F_is_term_forms)) : FnD P w K mg base 3 "is_test" 1 (ap1 F_is_test) :=
  fnD_of2 (N := ["thing"]) (fun ds => match ds with | [a] => m_is_test a | _ => .bad) Fd sc_is_test hm (Fd.bindsN fun _ _ _ _ _ _ us hl => match us, hl with | [_], _ => rfl) rfl (by decide) (fun ds hd => match ds, hd with | [a], _ => rfl) fun cdv A outer s H E hr hg ds hd => match ds, hd with | [a], _ => b_is_test M h_is_name h_is_sized h_is_term_forms hr hg a
theorem sc_is_step_forms : FnScope ["thing", "part", "kind"] ["thing"] (defScope (top 23)) := ⟨rfl, rfl, rfl, by decide +kernel, rfl, by decide +kernel, by decide +kernel⟩
theorem p_is_step_forms (M : MF K w mg) (Fd : FunD K "is_step" "is_step" (defArgs (top 23)) (defBody (top 23)) (defScope (top 23)) [] [] f fd) (hm : mg "is_step_forms" = some (.ref f)) (h_is_name : FnD P w K mg base 1 "is_name" 1 (ap1 F_is_name)) (h_is_term_forms : FnD P w K mg base 2 "is_term_forms" 1 (ap1 F_is_term_forms)) (h_is_test : FnD P w K mg base 3 "is_test" 1 (ap1 F_is_test)) : FnD P w K mg base 4 "is_step_forms" 1 (ap1 F_is_step_forms) :=
  fnD_of2 (N := ["thing", "part", "kind"]) (fun ds => match ds with | [a] => m_is_step_forms a | _ => .bad) Fd sc_is_step_forms hm (Fd.bindsN fun _ _ _ _ _ _ us hl => match us, hl with | [_], _ => rfl) rfl (by decide) (fun ds hd => match ds, hd with | [a], _ => rfl) fun cdv A outer s H E hr hg ds hd => match ds, hd with | [a], _ => b_is_step_forms M h_is_name h_is_term_forms h_is_test hr hg a
theorem sc_is_row : FnScope ["thing"] ["thing"] (defScope (top 59)) := ⟨rfl, rfl, rfl, by decide +kernel, rfl, by decide +kernel, by decide +kernel⟩
theorem p_is_row (M : MF K w mg) (Fd : FunD K "is_row" "is_row" (defArgs (top 59)) (defBody (top 59)) (defScope (top 59)) [] [] f fd) (hm : mg "is_row" = some (.ref f)) (h_is_sized : FnD P w K mg base 1 "is_sized" 2 (ap2 F_is_sized)) (h_is_step_forms : FnD P w K mg base 4 "is_step_forms" 1 (ap1 F_is_step_forms)) (h_is_noted : FnD P w K mg base 5 "is_noted" 1 (ap1 F_is_noted)) : FnD P w K mg base 6 "is_row" 1 (ap1 F_is_row) :=
  fnD_of2 (N := ["thing"]) (fun ds => match ds with | [a] => m_is_row a | _ => .bad) Fd sc_is_row hm (Fd.bindsN fun _ _ _ _ _ _ us hl => match us, hl with | [_], _ => rfl) rfl (by decide) (fun ds hd => match ds, hd with | [a], _ => rfl) fun cdv A outer s H E hr hg ds hd => match ds, hd with | [a], _ => b_is_row M h_is_sized h_is_step_forms h_is_noted hr hg a
theorem sc_names_among : FnScope ["terms", "term"] ["terms"] (defScope (top 36)) := ⟨rfl, rfl, rfl, by decide +kernel, rfl, by decide +kernel, by decide +kernel⟩
theorem p_names_among (M : MF K w mg) (Fd : FunD K "names_among" "names_among" (defArgs (top 36)) (defBody (top 36)) (defScope (top 36)) [] [] f fd) (hm : mg "names_among" = some (.ref f))  : FnD P w K mg base 1 "names_among" 1 (ap1 F_names_among) :=
  fnD_of2 (N := ["terms", "term"]) (fun ds => match ds with | [a] => m_names_among a | _ => .bad) Fd sc_names_among hm (Fd.bindsN fun _ _ _ _ _ _ us hl => match us, hl with | [_], _ => rfl) rfl (by decide) (fun ds hd => match ds, hd with | [a], _ => rfl) fun cdv A outer s H E hr hg ds hd => match ds, hd with | [a], _ => b_names_among M  hr hg a
theorem sc_step_names : FnScope ["step"] ["step"] (defScope (top 37)) := ⟨rfl, rfl, rfl, by decide +kernel, rfl, by decide +kernel, by decide +kernel⟩
theorem p_step_names (M : MF K w mg) (Fd : FunD K "step_names" "step_names" (defArgs (top 37)) (defBody (top 37)) (defScope (top 37)) [] [] f fd) (hm : mg "step_names" = some (.ref f)) (h_names_among : FnD P w K mg base 1 "names_among" 1 (ap1 F_names_among)) : FnD P w K mg base 2 "step_names" 1 (ap1 F_step_names) :=
  fnD_of2 (N := ["step"]) (fun ds => match ds with | [a] => m_step_names a | _ => .bad) Fd sc_step_names hm (Fd.bindsN fun _ _ _ _ _ _ us hl => match us, hl with | [_], _ => rfl) rfl (by decide) (fun ds hd => match ds, hd with | [a], _ => rfl) fun cdv A outer s H E hr hg ds hd => match ds, hd with | [a], _ => b_step_names M h_names_among hr hg a
theorem sc_names_of_row : FnScope ["row", "name", "place"] ["row"] (defScope (top 60)) := ⟨rfl, rfl, rfl, by decide +kernel, rfl, by decide +kernel, by decide +kernel⟩
theorem p_names_of_row (M : MF K w mg) (Fd : FunD K "names_of_row" "names_of_row" (defArgs (top 60)) (defBody (top 60)) (defScope (top 60)) [] [] f fd) (hm : mg "names_of_row" = some (.ref f)) (h_step_names : FnD P w K mg base 2 "step_names" 1 (ap1 F_step_names)) : FnD P w K mg base 3 "names_of_row" 1 (ap1 F_names_of_row) :=
  fnD_of2 (N := ["row", "name", "place"]) (fun ds => match ds with | [a] => m_names_of_row a | _ => .bad) Fd sc_names_of_row hm (Fd.bindsN fun _ _ _ _ _ _ us hl => match us, hl with | [_], _ => rfl) rfl (by decide) (fun ds hd => match ds, hd with | [a], _ => rfl) fun cdv A outer s H E hr hg ds hd => match ds, hd with | [a], _ => b_names_of_row M h_step_names hr hg a
theorem sc_checked_log : FnScope ["thing", "memory", "rows", "index", "row", "told", "name", "place"] ["thing"] (defScope (top 61)) := ⟨rfl, rfl, rfl, by decide +kernel, rfl, by decide +kernel, by decide +kernel⟩
theorem p_checked_log (M : MF K w mg) (Fd : FunD K "checked_log" "checked_log" (defArgs (top 61)) (defBody (top 61)) (defScope (top 61)) [] [] f fd) (hm : mg "checked_log" = some (.ref f)) (h_is_sized : FnD P w K mg base 1 "is_sized" 2 (ap2 F_is_sized)) (h_names_of_row : FnD P w K mg base 3 "names_of_row" 1 (ap1 F_names_of_row)) (h_checked_memory : FnD P w K mg base 5 "checked_memory" 1 (ap1 F_checked_memory)) (h_is_row : FnD P w K mg base 6 "is_row" 1 (ap1 F_is_row)) : FnD P w K mg base 7 "checked_log" 1 (ap1 F_checked_log) :=
  fnD_of2 (N := ["thing", "memory", "rows", "index", "row", "told", "name", "place"]) (fun ds => match ds with | [a] => m_checked_log a | _ => .bad) Fd sc_checked_log hm (Fd.bindsN fun _ _ _ _ _ _ us hl => match us, hl with | [_], _ => rfl) rfl (by decide) (fun ds hd => match ds, hd with | [a], _ => rfl) fun cdv A outer s H E hr hg ds hd => match ds, hd with | [a], _ => b_checked_log M h_is_sized h_names_of_row h_checked_memory h_is_row hr hg a
theorem sc_cut_log : FnScope ["log", "many"] ["log", "many"] (defScope (top 66)) := ⟨rfl, rfl, rfl, by decide +kernel, rfl, by decide +kernel, by decide +kernel⟩
theorem p_cut_log (M : MF K w mg) (Fd : FunD K "cut_log" "cut_log" (defArgs (top 66)) (defBody (top 66)) (defScope (top 66)) [] [] f fd) (hm : mg "cut_log" = some (.ref f)) (h_is_count : FnD P w K mg base 2 "is_count" 1 (ap1 F_is_count)) : FnD P w K mg base 3 "cut_log" 2 (ap2 F_cut_log) :=
  fnD_of2 (N := ["log", "many"]) (fun ds => match ds with | [a, b] => m_cut_log a b | _ => .bad) Fd sc_cut_log hm (Fd.bindsN fun _ _ _ _ _ _ us hl => match us, hl with | [_, _], _ => rfl) rfl (by decide) (fun ds hd => match ds, hd with | [a, b], _ => rfl) fun cdv A outer s H E hr hg ds hd => match ds, hd with | [a, b], _ => b_cut_log M h_is_count hr hg a b
theorem sc_is_term : FnScope ["thing"] ["thing"] (defScope (top 41)) := ⟨rfl, rfl, rfl, by decide +kernel, rfl, by decide +kernel, by decide +kernel⟩
theorem p_is_term_at_is_term_steps (M : MF K w mg) (Fd : FunD K "is_term" "is_term" (defArgs (top 41)) (defBody (top 41)) (defScope (top 41)) [] [] f fd) (hm : mg "is_term_steps" = some (.ref f)) (h_is_name : FnD P w K mg base 1 "is_name" 1 (ap1 F_is_name)) : FnD P w K mg base 2 "is_term_steps" 1 (ap1 F_is_term) :=
  fnD_of2 (N := ["thing"]) (fun ds => match ds with | [a] => m_is_term a | _ => .bad) Fd sc_is_term hm (Fd.bindsN fun _ _ _ _ _ _ us hl => match us, hl with | [_], _ => rfl) rfl (by decide) (fun ds hd => match ds, hd with | [a], _ => rfl) fun cdv A outer s H E hr hg ds hd => match ds, hd with | [a], _ => b_is_term M h_is_name hr hg a
theorem sc_is_test_word : FnScope ["thing"] ["thing"] (defScope (top 43)) := ⟨rfl, rfl, rfl, by decide +kernel, rfl, by decide +kernel, by decide +kernel⟩
theorem p_is_test_word (M : MF K w mg) (Fd : FunD K "is_test_word" "is_test_word" (defArgs (top 43)) (defBody (top 43)) (defScope (top 43)) [] [] f fd) (hm : mg "is_test_word" = some (.ref f))  : FnD P w K mg base 1 "is_test_word" 1 (ap1 F_is_test_word) :=
  fnD_of2 (N := ["thing"]) (fun ds => match ds with | [a] => m_is_test_word a | _ => .bad) Fd sc_is_test_word hm (Fd.bindsN fun _ _ _ _ _ _ us hl => match us, hl with | [_], _ => rfl) rfl (by decide) (fun ds hd => match ds, hd with | [a], _ => rfl) fun cdv A outer s H E hr hg ds hd => match ds, hd with | [a], _ => b_is_test_word M  hr hg a
theorem sc_is_worded : FnScope ["thing"] ["thing"] (defScope (top 45)) := ⟨rfl, rfl, rfl, by decide +kernel, rfl, by decide +kernel, by decide +kernel⟩
theorem p_is_worded (M : MF K w mg) (Fd : FunD K "is_worded" "is_worded" (defArgs (top 45)) (defBody (top 45)) (defScope (top 45)) [] [] f fd) (hm : mg "is_worded" = some (.ref f))  : FnD P w K mg base 1 "is_worded" 1 (ap1 F_is_worded) :=
  fnD_of2 (N := ["thing"]) (fun ds => match ds with | [a] => m_is_worded a | _ => .bad) Fd sc_is_worded hm (Fd.bindsN fun _ _ _ _ _ _ us hl => match us, hl with | [_], _ => rfl) rfl (by decide) (fun ds hd => match ds, hd with | [a], _ => rfl) fun cdv A outer s H E hr hg ds hd => match ds, hd with | [a], _ => b_is_worded M  hr hg a
theorem sc_is_step : FnScope ["thing", "is_one", "part"] ["thing"] (defScope (top 46)) := ⟨rfl, rfl, rfl, by decide +kernel, rfl, by decide +kernel, by decide +kernel⟩
theorem p_is_step_at_is_step_steps (M : MF K w mg) (Fd : FunD K "is_step" "is_step" (defArgs (top 46)) (defBody (top 46)) (defScope (top 46)) [] [] f fd) (hm : mg "is_step_steps" = some (.ref f)) (h_is_name : FnD P w K mg base 1 "is_name" 1 (ap1 F_is_name)) (h_is_test_word : FnD P w K mg base 1 "is_test_word" 1 (ap1 F_is_test_word)) (h_is_worded : FnD P w K mg base 1 "is_worded" 1 (ap1 F_is_worded)) (h_is_term_at_is_term_steps : FnD P w K mg base 2 "is_term_steps" 1 (ap1 F_is_term)) : FnD P w K mg base 3 "is_step_steps" 1 (ap1 F_is_step) :=
  fnD_of2 (N := ["thing", "is_one", "part"]) (fun ds => match ds with | [a] => m_is_step a | _ => .bad) Fd sc_is_step hm (Fd.bindsN fun _ _ _ _ _ _ us hl => match us, hl with | [_], _ => rfl) rfl (by decide) (fun ds hd => match ds, hd with | [a], _ => rfl) fun cdv A outer s H E hr hg ds hd => match ds, hd with | [a], _ => b_is_step M h_is_name h_is_test_word h_is_worded h_is_term_at_is_term_steps hr hg a
theorem sc_names_in_step : FnScope ["step", "parts", "part"] ["step"] (defScope (top 48)) := ⟨rfl, rfl, rfl, by decide +kernel, rfl, by decide +kernel, by decide +kernel⟩
theorem p_names_in_step (M : MF K w mg) (Fd : FunD K "names_in_step" "names_in_step" (defArgs (top 48)) (defBody (top 48)) (defScope (top 48)) [] [] f fd) (hm : mg "names_in_step" = some (.ref f))  : FnD P w K mg base 1 "names_in_step" 1 (ap1 F_names_in_step) :=
  fnD_of2 (N := ["step", "parts", "part"]) (fun ds => match ds with | [a] => m_names_in_step a | _ => .bad) Fd sc_names_in_step hm (Fd.bindsN fun _ _ _ _ _ _ us hl => match us, hl with | [_], _ => rfl) rfl (by decide) (fun ds hd => match ds, hd with | [a], _ => rfl) fun cdv A outer s H E hr hg ds hd => match ds, hd with | [a], _ => b_names_in_step M  hr hg a
theorem sc_check_step : FnScope ["memory", "step", "told", "name"] ["memory", "step"] (defScope (top 51)) := ⟨rfl, rfl, rfl, by decide +kernel, rfl, by decide +kernel, by decide +kernel⟩
theorem p_check_step (M : MF K w mg) (Fd : FunD K "check_step" "check_step" (defArgs (top 51)) (defBody (top 51)) (defScope (top 51)) [] [] f fd) (hm : mg "check_step" = some (.ref f)) (h_names_in_step : FnD P w K mg base 1 "names_in_step" 1 (ap1 F_names_in_step)) (h_is_step_at_is_step_steps : FnD P w K mg base 3 "is_step_steps" 1 (ap1 F_is_step)) : FnD P w K mg base 4 "check_step" 2 (ap2 F_check_step) :=
  fnD_of2 (N := ["memory", "step", "told", "name"]) (fun ds => match ds with | [a, b] => m_check_step a b | _ => .bad) Fd sc_check_step hm (Fd.bindsN fun _ _ _ _ _ _ us hl => match us, hl with | [_, _], _ => rfl) rfl (by decide) (fun ds hd => match ds, hd with | [a, b], _ => rfl) fun cdv A outer s H E hr hg ds hd => match ds, hd with | [a, b], _ => b_check_step M h_names_in_step h_is_step_at_is_step_steps hr hg a b
theorem sc_asked_place : FnScope ["memory", "step", "told"] ["memory", "step"] (defScope (top 52)) := ⟨rfl, rfl, rfl, by decide +kernel, rfl, by decide +kernel, by decide +kernel⟩
theorem p_asked_place (M : MF K w mg) (Fd : FunD K "asked_place" "asked_place" (defArgs (top 52)) (defBody (top 52)) (defScope (top 52)) [] [] f fd) (hm : mg "asked_place" = some (.ref f)) (h_check_step : FnD P w K mg base 4 "check_step" 2 (ap2 F_check_step)) : FnD P w K mg base 5 "asked_place" 2 (ap2 F_asked_place) :=
  fnD_of2 (N := ["memory", "step", "told"]) (fun ds => match ds with | [a, b] => m_asked_place a b | _ => .bad) Fd sc_asked_place hm (Fd.bindsN fun _ _ _ _ _ _ us hl => match us, hl with | [_, _], _ => rfl) rfl (by decide) (fun ds hd => match ds, hd with | [a, b], _ => rfl) fun cdv A outer s H E hr hg ds hd => match ds, hd with | [a, b], _ => b_asked_place M h_check_step hr hg a b
theorem sc_new_place : FnScope ["told", "cells", "taken", "found", "place"] ["told", "cells"] (defScope (top 50)) := ⟨rfl, rfl, rfl, by decide +kernel, rfl, by decide +kernel, by decide +kernel⟩
theorem p_new_place (M : MF K w mg) (Fd : FunD K "new_place" "new_place" (defArgs (top 50)) (defBody (top 50)) (defScope (top 50)) [] [] f fd) (hm : mg "new_place" = some (.ref f))  : FnV P w K mg base 1 "new_place" [true, true] (ap2 F_new_place) :=
  fnV_of (N := ["told", "cells", "taken", "found", "place"]) (fun ds => match ds with | [a, b] => m_new_place a b | _ => .bad) Fd sc_new_place hm (Fd.bindsN fun _ _ _ _ _ _ us hl => match us, hl with | [_, _], _ => rfl) rfl (by decide) (fun ds hd => match ds, hd with | [a, b], _ => rfl) fun cdv A outer s H E hr hg ds hd => match ds, hd with | [a, b], _ => b_new_place M  hr hg a b
theorem sc_place_told : FnScope ["told", "term"] ["told", "term"] (defScope (top 49)) := ⟨rfl, rfl, rfl, by decide +kernel, rfl, by decide +kernel, by decide +kernel⟩
theorem p_place_told (M : MF K w mg) (Fd : FunD K "place_told" "place_told" (defArgs (top 49)) (defBody (top 49)) (defScope (top 49)) [] [] f fd) (hm : mg "place_told" = some (.ref f))  : FnV P w K mg base 1 "place_told" [true, false] (ap2 F_place_told) :=
  fnV_of (N := ["told", "term"]) (fun ds => match ds with | [a, b] => m_place_told a b | _ => .bad) Fd sc_place_told hm (Fd.bindsN fun _ _ _ _ _ _ us hl => match us, hl with | [_, _], _ => rfl) rfl (by decide) (fun ds hd => match ds, hd with | [a, b], _ => rfl) fun cdv A outer s H E hr hg ds hd => match ds, hd with | [a, b], _ => b_place_told M  hr hg a b
theorem sc_changed : FnScope ["told", "cells", "step", "place"] ["told", "cells", "step"] (defScope (top 54)) := ⟨rfl, rfl, rfl, by decide +kernel, rfl, by decide +kernel, by decide +kernel⟩
theorem p_changed (M : MF K w mg) (Fd : FunD K "changed" "changed" (defArgs (top 54)) (defBody (top 54)) (defScope (top 54)) [] [] f fd) (hm : mg "changed" = some (.ref f)) (h_new_place : FnV P w K mg base 1 "new_place" [true, true] (ap2 F_new_place)) (h_place_told : FnV P w K mg base 1 "place_told" [true, false] (ap2 F_place_told)) : FnI2 P w K mg base 2 "changed" 1 (apj1 F_changed) :=
  fnI2_of (N := ["told", "cells", "step", "place"]) (fun y z ds => match ds with | [c] => m_changed y z c | _ => .bad) Fd sc_changed hm (Fd.bindsN fun _ _ _ _ _ _ us hl => match us, hl with | [_, _, _], _ => rfl) rfl (by decide) (fun y z ds hd => match ds, hd with | [c], _ => rfl) fun cdv A outer s H E p q hpq hr hg y z ds hd => match ds, hd with | [c], _ => b_changed (E := E) M h_new_place h_place_told hr hg y z c
theorem sc_memory_of : FnScope ["told", "cells"] ["told", "cells"] (defScope (top 53)) := ⟨rfl, rfl, rfl, by decide +kernel, rfl, by decide +kernel, by decide +kernel⟩
theorem p_memory_of (M : MF K w mg) (Fd : FunD K "memory_of" "memory_of" (defArgs (top 53)) (defBody (top 53)) (defScope (top 53)) [] [] f fd) (hm : mg "memory_of" = some (.ref f))  : FnD P w K mg base 1 "memory_of" 2 (ap2 F_memory_of) :=
  fnD_of2 (N := ["told", "cells"]) (fun ds => match ds with | [a, b] => m_memory_of a b | _ => .bad) Fd sc_memory_of hm (Fd.bindsN fun _ _ _ _ _ _ us hl => match us, hl with | [_, _], _ => rfl) rfl (by decide) (fun ds hd => match ds, hd with | [a, b], _ => rfl) fun cdv A outer s H E hr hg ds hd => match ds, hd with | [a, b], _ => b_memory_of M  hr hg a b
theorem sc_done : FnScope ["memory", "step", "asked", "told", "cells", "is_same"] ["memory", "step"] (defScope (top 55)) := ⟨rfl, rfl, rfl, by decide +kernel, rfl, by decide +kernel, by decide +kernel⟩
theorem p_done (M : MF K w mg) (Fd : FunD K "done" "done" (defArgs (top 55)) (defBody (top 55)) (defScope (top 55)) [] [] f fd) (hm : mg "done" = some (.ref f)) (h_memory_of : FnD P w K mg base 1 "memory_of" 2 (ap2 F_memory_of)) (h_place_told : FnV P w K mg base 1 "place_told" [true, false] (ap2 F_place_told)) (h_changed : FnI2 P w K mg base 2 "changed" 1 (apj1 F_changed)) (h_asked_place : FnD P w K mg base 5 "asked_place" 2 (ap2 F_asked_place)) : FnD P w K mg base 6 "done" 2 (ap2 F_done) :=
  fnD_of2 (N := ["memory", "step", "asked", "told", "cells", "is_same"]) (fun ds => match ds with | [a, b] => m_done a b | _ => .bad) Fd sc_done hm (Fd.bindsN fun _ _ _ _ _ _ us hl => match us, hl with | [_, _], _ => rfl) rfl (by decide) (fun ds hd => match ds, hd with | [a, b], _ => rfl) fun cdv A outer s H E hr hg ds hd => match ds, hd with | [a, b], _ => b_done M h_memory_of h_place_told h_changed h_asked_place hr hg a b
theorem sc_is_so : FnScope ["memory", "noted", "told", "name", "place"] ["memory", "noted"] (defScope (top 63)) := ⟨rfl, rfl, rfl, by decide +kernel, rfl, by decide +kernel, by decide +kernel⟩
theorem p_is_so (M : MF K w mg) (Fd : FunD K "is_so" "is_so" (defArgs (top 63)) (defBody (top 63)) (defScope (top 63)) [] [] f fd) (hm : mg "is_so" = some (.ref f))  : FnD P w K mg base 1 "is_so" 2 (ap2 F_is_so) :=
  fnD_of2 (N := ["memory", "noted", "told", "name", "place"]) (fun ds => match ds with | [a, b] => m_is_so a b | _ => .bad) Fd sc_is_so hm (Fd.bindsN fun _ _ _ _ _ _ us hl => match us, hl with | [_, _], _ => rfl) rfl (by decide) (fun ds hd => match ds, hd with | [a, b], _ => rfl) fun cdv A outer s H E hr hg ds hd => match ds, hd with | [a, b], _ => b_is_so M  hr hg a b
theorem sc_played_log : FnScope ["log", "memory", "rows", "index", "step", "noted", "answer"] ["log"] (defScope (top 64)) := ⟨rfl, rfl, rfl, by decide +kernel, rfl, by decide +kernel, by decide +kernel⟩
theorem p_played_log (M : MF K w mg) (Fd : FunD K "played_log" "played_log" (defArgs (top 64)) (defBody (top 64)) (defScope (top 64)) [] [] f fd) (hm : mg "played_log" = some (.ref f)) (h_is_so : FnD P w K mg base 1 "is_so" 2 (ap2 F_is_so)) (h_done : FnD P w K mg base 6 "done" 2 (ap2 F_done)) : FnD P w K mg base 7 "played_log" 1 (ap1 F_played_log) :=
  fnD_of2 (N := ["log", "memory", "rows", "index", "step", "noted", "answer"]) (fun ds => match ds with | [a] => m_played_log a | _ => .bad) Fd sc_played_log hm (Fd.bindsN fun _ _ _ _ _ _ us hl => match us, hl with | [_], _ => rfl) rfl (by decide) (fun ds hd => match ds, hd with | [a], _ => rfl) fun cdv A outer s H E hr hg ds hd => match ds, hd with | [a], _ => b_played_log M h_is_so h_done hr hg a
theorem sc_fault_in : FnScope ["log", "index", "word", "memory"] ["log"] (defScope (top 65)) := ⟨rfl, rfl, rfl, by decide +kernel, rfl, by decide +kernel, by decide +kernel⟩
theorem p_fault_in (M : MF K w mg) (Fd : FunD K "fault_in" "fault_in" (defArgs (top 65)) (defBody (top 65)) (defScope (top 65)) [] [] f fd) (hm : mg "fault_in" = some (.ref f)) (h_played_log : FnD P w K mg base 7 "played_log" 1 (ap1 F_played_log)) : FnD P w K mg base 8 "fault_in" 1 (ap1 F_fault_in) :=
  fnD_of2 (N := ["log", "index", "word", "memory"]) (fun ds => match ds with | [a] => m_fault_in a | _ => .bad) Fd sc_fault_in hm (Fd.bindsN fun _ _ _ _ _ _ us hl => match us, hl with | [_], _ => rfl) rfl (by decide) (fun ds hd => match ds, hd with | [a], _ => rfl) fun cdv A outer s H E hr hg ds hd => match ds, hd with | [a], _ => b_fault_in M h_played_log hr hg a
theorem sc_is_tuple_of__is_step_forms : FnScope ["thing", "is_item", "item"] ["thing", "is_item"] (defScope (top 18)) := ⟨rfl, rfl, rfl, by decide +kernel, rfl, by decide +kernel, by decide +kernel⟩
theorem p_is_tuple_of__is_step_forms (M : MF K w mg) (Fd : FunD K "is_tuple_of" "is_tuple_of" (defArgs (top 18)) (defBody (top 18)) (defScope (top 18)) [] [] f fd) (hm : mg "is_tuple_of" = some (.ref f)) (h_is_step_forms : FnD P w K mg base 4 "is_step_forms" 1 (ap1 F_is_step_forms)) : FnD P w K mg base 5 "is_tuple_of" 2 (ap2 G_is_tuple_of__is_step_forms) :=
  fnD_of2 (N := ["thing", "is_item", "item"]) (fun ds => match ds with | [a, b] => (chkFn "is_step_forms" b).bind fun _ => m_is_tuple_of__is_step_forms a | _ => .bad) Fd sc_is_tuple_of__is_step_forms hm (Fd.bindsN fun _ _ _ _ _ _ us hl => match us, hl with | [_, _], _ => rfl) rfl (by decide) (fun ds hd => match ds, hd with | [a, b], _ => done_chk.symm) fun cdv A outer s H E hr hg ds hd => match ds, hd with | [a, b], _ => jn_chk (G := fun z => env0 [a, z] 1) (b_is_tuple_of__is_step_forms M h_is_step_forms hr hg a)
theorem sc_log_of : FnScope ["memory", "steps", "told", "first", "rows", "step", "answer", "name", "place"] ["memory", "steps"] (defScope (top 62)) := ⟨rfl, rfl, rfl, by decide +kernel, rfl, by decide +kernel, by decide +kernel⟩
theorem p_log_of (M : MF K w mg) (Fd : FunD K "log_of" "log_of" (defArgs (top 62)) (defBody (top 62)) (defScope (top 62)) [] [] f fd) (hm : mg "log_of" = some (.ref f)) (h_step_names : FnD P w K mg base 2 "step_names" 1 (ap1 F_step_names)) (h_is_tuple_of__is_step_forms : FnD P w K mg base 5 "is_tuple_of" 2 (ap2 G_is_tuple_of__is_step_forms)) (h_done : FnD P w K mg base 6 "done" 2 (ap2 F_done)) : FnD P w K mg base 7 "log_of" 2 (ap2 F_log_of) :=
  fnD_of2 (N := ["memory", "steps", "told", "first", "rows", "step", "answer", "name", "place"]) (fun ds => match ds with | [a, b] => m_log_of a b | _ => .bad) Fd sc_log_of hm (Fd.bindsN fun _ _ _ _ _ _ us hl => match us, hl with | [_, _], _ => rfl) rfl (by decide) (fun ds hd => match ds, hd with | [a, b], _ => rfl) fun cdv A outer s H E hr hg ds hd => match ds, hd with | [a, b], _ => b_log_of M h_step_names h_is_tuple_of__is_step_forms h_done hr hg a b
theorem sc_mended : FnScope ["log", "memory", "rows", "found", "step", "noted", "answer", "told", "name", "place"] ["log"] (defScope (top 68)) := ⟨rfl, rfl, rfl, by decide +kernel, rfl, by decide +kernel, by decide +kernel⟩
theorem p_mended (M : MF K w mg) (Fd : FunD K "mended" "mended" (defArgs (top 68)) (defBody (top 68)) (defScope (top 68)) [] [] f fd) (hm : mg "mended" = some (.ref f)) (h_done : FnD P w K mg base 6 "done" 2 (ap2 F_done)) : FnD P w K mg base 7 "mended" 1 (ap1 F_mended) :=
  fnD_of2 (N := ["log", "memory", "rows", "found", "step", "noted", "answer", "told", "name", "place"]) (fun ds => match ds with | [a] => m_mended a | _ => .bad) Fd sc_mended hm (Fd.bindsN fun _ _ _ _ _ _ us hl => match us, hl with | [_], _ => rfl) rfl (by decide) (fun ds hd => match ds, hd with | [a], _ => rfl) fun cdv A outer s H E hr hg ds hd => match ds, hd with | [a], _ => b_mended M h_done hr hg a
theorem sc_noted_of : FnScope ["log", "name", "found", "index", "step", "noted", "its", "place"] ["log", "name"] (defScope (top 67)) := ⟨rfl, rfl, rfl, by decide +kernel, rfl, by decide +kernel, by decide +kernel⟩
theorem p_noted_of (M : MF K w mg) (Fd : FunD K "noted_of" "noted_of" (defArgs (top 67)) (defBody (top 67)) (defScope (top 67)) [] [] f fd) (hm : mg "noted_of" = some (.ref f))  : FnD P w K mg base 1 "noted_of" 2 (ap2 F_noted_of) :=
  fnD_of2 (N := ["log", "name", "found", "index", "step", "noted", "its", "place"]) (fun ds => match ds with | [a, b] => m_noted_of a b | _ => .bad) Fd sc_noted_of hm (Fd.bindsN fun _ _ _ _ _ _ us hl => match us, hl with | [_, _], _ => rfl) rfl (by decide) (fun ds hd => match ds, hd with | [a, b], _ => rfl) fun cdv A outer s H E hr hg ds hd => match ds, hd with | [a, b], _ => b_noted_of M  hr hg a b
theorem sc_law : FnScope ["script", "bag", "lap", "memory", "steps", "log", "other", "due", "many", "told", "right", "odd", "k", "index", "step", "noted", "row"] ["script"] (defScope (top 81)) := ⟨rfl, rfl, rfl, by decide +kernel, rfl, by decide +kernel, by decide +kernel⟩
theorem p_law (M : MF K w mg) (Fd : FunD K "law" "law" (defArgs (top 81)) (defBody (top 81)) (defScope (top 81)) [] [] f fd) (h__law_alike : FnD P w K mg base 1 "_law_alike" 2 (ap2 F__law_alike)) (h__law_bag : FnO P w K mg base 1 "_law_bag" 1 (ap1 F__law_bag)) (h__law_take : FnI P w K mg base 1 "_law_take" 1 (api1 F__law_take)) (h_noted_of : FnD P w K mg base 1 "noted_of" 2 (ap2 F_noted_of)) (h__law_memory : FnI P w K mg base 2 "_law_memory" 2 (api2 F__law_memory)) (h__law_drawn_step : FnI P w K mg base 3 "_law_drawn_step" 1 (api1 F__law_drawn_step)) (h__law_logged : FnD P w K mg base 3 "_law_logged" 2 (ap2 F__law_logged)) (h__law_played : FnD P w K mg base 3 "_law_played" 1 (ap1 F__law_played)) (h_cut_log : FnD P w K mg base 3 "cut_log" 2 (ap2 F_cut_log)) (h__law_turned : FnI P w K mg base 4 "_law_turned" 1 (api1 F__law_turned)) (h_checked_log : FnD P w K mg base 7 "checked_log" 1 (ap1 F_checked_log)) (h_log_of : FnD P w K mg base 7 "log_of" 2 (ap2 F_log_of)) (h_mended : FnD P w K mg base 7 "mended" 1 (ap1 F_mended)) (h_played_log : FnD P w K mg base 7 "played_log" 1 (ap1 F_played_log)) (h_fault_in : FnD P w K mg base 8 "fault_in" 1 (ap1 F_fault_in)) : FnG P w K mg base 9 f fd ["script"] (spD K ⟨mg, w⟩ 1 (ap1 F_law)) :=
  fnGD_of (N := ["script", "bag", "lap", "memory", "steps", "log", "other", "due", "many", "told", "right", "odd", "k", "index", "step", "noted", "row"]) (fun ds => match ds with | [a] => m_law a | _ => .bad) Fd sc_law rfl (by decide) (fun ds hd => match ds, hd with | [a], _ => rfl) fun cdv A outer s H E hr hg ds hd => match ds, hd with | [a], _ => b_law M h__law_alike h__law_bag h__law_take h_noted_of h__law_memory h__law_drawn_step h__law_logged h__law_played h_cut_log h__law_turned h_checked_log h_log_of h_mended h_played_log h_fault_in hr hg a
end
theorem facts {P : Program} {w : World} {K : PySem.W.Frag} {h : Heap} {mg : Str → Option Value} {f : Addr} (X : K.In h) (G : h.Ns mainGlobals mg) (hf : mg ("law" : Str) = some (.ref f)) (c : He.SaysX hfa hfn hts [] hex w h K) :
    ∃ fd : FuncData, (∀ (s : Shared) (v : Value), BindsTo s fd ⟨[v], []⟩ [("script", v)]) ∧ ∀ base : Heap, K.In base → base.Ns mainGlobals mg → FnG P w K mg base 9 f fd ["script"] (spD K ⟨mg, w⟩ 1 (ap1 F_law)) := by
  have M := mf X G c
  obtain ⟨d__law_take, k__law_take⟩ := c.t.d.def_ 0 (d := mkD "_law_take" "_law_take" 71) rfl
  obtain ⟨d__law_some, k__law_some⟩ := c.t.d.def_ 1 (d := mkD "_law_some" "_law_some" 72) rfl
  obtain ⟨d__law_place, k__law_place⟩ := c.t.d.def_ 2 (d := mkD "_law_place" "_law_place" 75) rfl
  obtain ⟨d__law_step, k__law_step⟩ := c.t.d.def_ 3 (d := mkD "_law_step" "_law_step" 76) rfl
  obtain ⟨d__law_drawn_step, k__law_drawn_step⟩ := c.t.d.def_ 4 (d := mkD "_law_drawn_step" "_law_drawn_step" 77) rfl
  obtain ⟨d_is_integer, k_is_integer⟩ := c.t.d.def_ 5 (d := mkD "is_integer" "is_integer" 13) rfl
  obtain ⟨d_is_count, k_is_count⟩ := c.t.d.def_ 6 (d := mkD "is_count" "is_count" 14) rfl
  obtain ⟨d_is_name, k_is_name⟩ := c.t.d.def_ 7 (d := mkD "is_name" "is_name" 15) rfl
  obtain ⟨d_is_cell_form, k_is_cell_form⟩ := c.t.d.def_ 8 (d := mkD "is_cell_form" "is_cell_form" 30) rfl
  obtain ⟨d_is_told_form, k_is_told_form⟩ := c.t.d.def_ 9 (d := mkD "is_told_form" "is_told_form" 29) rfl
  obtain ⟨d_check_cells, k_check_cells⟩ := c.t.d.def_ 10 (d := mkD "check_cells" "check_cells" 33) rfl
  obtain ⟨d_check_told, k_check_told⟩ := c.t.d.def_ 11 (d := mkD "check_told" "check_told" 32) rfl
  obtain ⟨d_is_memory_form, k_is_memory_form⟩ := c.t.d.def_ 12 (d := mkD "is_memory_form" "is_memory_form" 31) rfl
  obtain ⟨d_is_sized, k_is_sized⟩ := c.t.d.def_ 13 (d := mkD "is_sized" "is_sized" 20) rfl
  obtain ⟨d_is_told, k_is_told⟩ := c.t.d.def_ 14 (d := mkD "is_told" "is_told" 21) rfl
  obtain ⟨d_are_rising, k_are_rising⟩ := c.t.d.def_ 15 (d := mkD "are_rising" "are_rising" 19) rfl
  obtain ⟨d_is_tuple_of, k_is_tuple_of⟩ := c.t.d.def_ 16 (d := mkD "is_tuple_of" "is_tuple_of" 18) rfl
  obtain ⟨d_is_term_forms, k_is_term_forms⟩ := c.t.d.def_ 17 (d := mkD "is_term_forms" "is_term" 16) rfl
  obtain ⟨d_is_test, k_is_test⟩ := c.t.d.def_ 18 (d := mkD "is_test" "is_test" 22) rfl
  obtain ⟨d_is_step_forms, k_is_step_forms⟩ := c.t.d.def_ 19 (d := mkD "is_step_forms" "is_step" 23) rfl
  obtain ⟨d_is_noted, k_is_noted⟩ := c.t.d.def_ 20 (d := mkD "is_noted" "is_noted" 58) rfl
  obtain ⟨d_names_among, k_names_among⟩ := c.t.d.def_ 21 (d := mkD "names_among" "names_among" 36) rfl
  obtain ⟨d_step_names, k_step_names⟩ := c.t.d.def_ 22 (d := mkD "step_names" "step_names" 37) rfl
  obtain ⟨d_names_of_row, k_names_of_row⟩ := c.t.d.def_ 23 (d := mkD "names_of_row" "names_of_row" 60) rfl
  obtain ⟨d_checked_memory, k_checked_memory⟩ := c.t.d.def_ 24 (d := mkD "checked_memory" "checked_memory" 34) rfl
  obtain ⟨d_is_row, k_is_row⟩ := c.t.d.def_ 25 (d := mkD "is_row" "is_row" 59) rfl
  obtain ⟨d_is_test_word, k_is_test_word⟩ := c.t.d.def_ 26 (d := mkD "is_test_word" "is_test_word" 43) rfl
  obtain ⟨d_is_worded, k_is_worded⟩ := c.t.d.def_ 27 (d := mkD "is_worded" "is_worded" 45) rfl
  obtain ⟨d_is_term_steps, k_is_term_steps⟩ := c.t.d.def_ 28 (d := mkD "is_term_steps" "is_term" 41) rfl
  obtain ⟨d_names_in_step, k_names_in_step⟩ := c.t.d.def_ 29 (d := mkD "names_in_step" "names_in_step" 48) rfl
  obtain ⟨d_is_step_steps, k_is_step_steps⟩ := c.t.d.def_ 30 (d := mkD "is_step_steps" "is_step" 46) rfl
  obtain ⟨d_check_step, k_check_step⟩ := c.t.d.def_ 31 (d := mkD "check_step" "check_step" 51) rfl
  obtain ⟨d_new_place, k_new_place⟩ := c.t.d.def_ 32 (d := mkD "new_place" "new_place" 50) rfl
  obtain ⟨d_place_told, k_place_told⟩ := c.t.d.def_ 33 (d := mkD "place_told" "place_told" 49) rfl
  obtain ⟨d_memory_of, k_memory_of⟩ := c.t.d.def_ 34 (d := mkD "memory_of" "memory_of" 53) rfl
  obtain ⟨d_changed, k_changed⟩ := c.t.d.def_ 35 (d := mkD "changed" "changed" 54) rfl
  obtain ⟨d_asked_place, k_asked_place⟩ := c.t.d.def_ 36 (d := mkD "asked_place" "asked_place" 52) rfl
  obtain ⟨d_is_so, k_is_so⟩ := c.t.d.def_ 37 (d := mkD "is_so" "is_so" 63) rfl
  obtain ⟨d_done, k_done⟩ := c.t.d.def_ 38 (d := mkD "done" "done" 55) rfl
  obtain ⟨d_played_log, k_played_log⟩ := c.t.d.def_ 39 (d := mkD "played_log" "played_log" 64) rfl
  obtain ⟨d__law_alike, k__law_alike⟩ := c.t.d.def_ 40 (d := mkD "_law_alike" "_law_alike" 73) rfl
  obtain ⟨d__law_bag, k__law_bag⟩ := c.t.d.def_ 41 (d := mkD "_law_bag" "_law_bag" 70) rfl
  obtain ⟨d_noted_of, k_noted_of⟩ := c.t.d.def_ 42 (d := mkD "noted_of" "noted_of" 67) rfl
  obtain ⟨d__law_memory, k__law_memory⟩ := c.t.d.def_ 43 (d := mkD "_law_memory" "_law_memory" 74) rfl
  obtain ⟨d__law_logged, k__law_logged⟩ := c.t.d.def_ 44 (d := mkD "_law_logged" "_law_logged" 78) rfl
  obtain ⟨d__law_played, k__law_played⟩ := c.t.d.def_ 45 (d := mkD "_law_played" "_law_played" 79) rfl
  obtain ⟨d_cut_log, k_cut_log⟩ := c.t.d.def_ 46 (d := mkD "cut_log" "cut_log" 66) rfl
  obtain ⟨d__law_turned, k__law_turned⟩ := c.t.d.def_ 47 (d := mkD "_law_turned" "_law_turned" 80) rfl
  obtain ⟨d_checked_log, k_checked_log⟩ := c.t.d.def_ 48 (d := mkD "checked_log" "checked_log" 61) rfl
  obtain ⟨d_log_of, k_log_of⟩ := c.t.d.def_ 49 (d := mkD "log_of" "log_of" 62) rfl
  obtain ⟨d_mended, k_mended⟩ := c.t.d.def_ 50 (d := mkD "mended" "mended" 68) rfl
  obtain ⟨d_fault_in, k_fault_in⟩ := c.t.d.def_ 51 (d := mkD "fault_in" "fault_in" 65) rfl
  obtain ⟨d_law, k_law⟩ := c.t.d.def_ 52 (d := mkD "law" "law" 81) rfl
  have e := hf.symm.trans (He.glo_ok X G (c.t.d.fact 52 (f := .glo "law") rfl))
  cases e
  have bl := FunD.bindsA (ps := ["script"]) k_law fun _ _ _ _ _ _ us hl => match us, hl with | [_], _ => rfl
  refine ⟨d_law, fun s v => bl s [v] rfl, fun base _ _ => ?_⟩
  have q__law_alike := p__law_alike (P := P) (w := w) (base := base) M k__law_alike (He.glo_ok X G (c.t.d.fact 40 (f := .glo "_law_alike") rfl)) 
  have q__law_bag := p__law_bag (P := P) (w := w) (base := base) M k__law_bag (He.glo_ok X G (c.t.d.fact 41 (f := .glo "_law_bag") rfl)) 
  have q__law_take := p__law_take (P := P) (w := w) (base := base) M k__law_take (He.glo_ok X G (c.t.d.fact 0 (f := .glo "_law_take") rfl)) 
  have q__law_some := p__law_some (P := P) (w := w) (base := base) M k__law_some (He.glo_ok X G (c.t.d.fact 1 (f := .glo "_law_some") rfl)) q__law_take
  have q__law_drawn_step := p__law_drawn_step (P := P) (w := w) (base := base) M k__law_drawn_step (He.glo_ok X G (c.t.d.fact 4 (f := .glo "_law_drawn_step") rfl)) q__law_some
  have q__law_place := p__law_place (P := P) (w := w) (base := base) M k__law_place (He.glo_ok X G (c.t.d.fact 2 (f := .glo "_law_place") rfl)) 
  have q__law_step := p__law_step (P := P) (w := w) (base := base) M k__law_step (He.glo_ok X G (c.t.d.fact 3 (f := .glo "_law_step") rfl)) q__law_place
  have q__law_logged := p__law_logged (P := P) (w := w) (base := base) M k__law_logged (He.glo_ok X G (c.t.d.fact 44 (f := .glo "_law_logged") rfl)) q__law_step
  have q__law_memory := p__law_memory (P := P) (w := w) (base := base) M k__law_memory (He.glo_ok X G (c.t.d.fact 43 (f := .glo "_law_memory") rfl)) q__law_take
  have q__law_played := p__law_played (P := P) (w := w) (base := base) M k__law_played (He.glo_ok X G (c.t.d.fact 45 (f := .glo "_law_played") rfl)) q__law_step
  have q__law_turned := p__law_turned (P := P) (w := w) (base := base) M k__law_turned (He.glo_ok X G (c.t.d.fact 47 (f := .glo "_law_turned") rfl)) q__law_take q__law_drawn_step
  have q_check_cells := p_check_cells (P := P) (w := w) (base := base) M k_check_cells (He.glo_ok X G (c.t.d.fact 10 (f := .glo "check_cells") rfl)) 
  have q_check_told := p_check_told (P := P) (w := w) (base := base) M k_check_told (He.glo_ok X G (c.t.d.fact 11 (f := .glo "check_told") rfl)) 
  have q_is_integer := p_is_integer (P := P) (w := w) (base := base) M k_is_integer (He.glo_ok X G (c.t.d.fact 5 (f := .glo "is_integer") rfl)) 
  have q_is_count := p_is_count (P := P) (w := w) (base := base) M k_is_count (He.glo_ok X G (c.t.d.fact 6 (f := .glo "is_count") rfl)) q_is_integer
  have q_is_cell_form := p_is_cell_form (P := P) (w := w) (base := base) M k_is_cell_form (He.glo_ok X G (c.t.d.fact 8 (f := .glo "is_cell_form") rfl)) q_is_count
  have q_is_name := p_is_name (P := P) (w := w) (base := base) M k_is_name (He.glo_ok X G (c.t.d.fact 7 (f := .glo "is_name") rfl)) 
  have q_is_told_form := p_is_told_form (P := P) (w := w) (base := base) M k_is_told_form (He.glo_ok X G (c.t.d.fact 9 (f := .glo "is_told_form") rfl)) q_is_name q_is_count
  have q_is_memory_form := p_is_memory_form (P := P) (w := w) (base := base) M k_is_memory_form (He.glo_ok X G (c.t.d.fact 12 (f := .glo "is_memory_form") rfl)) q_is_cell_form q_is_told_form
  have q_checked_memory := p_checked_memory (P := P) (w := w) (base := base) M k_checked_memory (He.glo_ok X G (c.t.d.fact 24 (f := .glo "checked_memory") rfl)) q_check_cells q_check_told q_is_memory_form
  have q_are_rising := p_are_rising (P := P) (w := w) (base := base) M k_are_rising (He.glo_ok X G (c.t.d.fact 15 (f := .glo "are_rising") rfl)) 
  have q_is_sized := p_is_sized (P := P) (w := w) (base := base) M k_is_sized (He.glo_ok X G (c.t.d.fact 13 (f := .glo "is_sized") rfl)) 
  have q_is_told := p_is_told (P := P) (w := w) (base := base) M k_is_told (He.glo_ok X G (c.t.d.fact 14 (f := .glo "is_told") rfl)) q_is_name q_is_sized q_is_count
  have q_is_tuple_of__is_told := p_is_tuple_of__is_told (P := P) (w := w) (base := base) M k_is_tuple_of (He.glo_ok X G (c.t.d.fact 16 (f := .glo "is_tuple_of") rfl)) q_is_told
  have q_is_noted := p_is_noted (P := P) (w := w) (base := base) M k_is_noted (He.glo_ok X G (c.t.d.fact 20 (f := .glo "is_noted") rfl)) q_are_rising q_is_tuple_of__is_told
  have q_is_term_forms := p_is_term_forms (P := P) (w := w) (base := base) M k_is_term_forms (He.glo_ok X G (c.t.d.fact 17 (f := .glo "is_term_forms") rfl)) q_is_name
  have q_is_test := p_is_test (P := P) (w := w) (base := base) M k_is_test (He.glo_ok X G (c.t.d.fact 18 (f := .glo "is_test") rfl)) q_is_name q_is_sized q_is_term_forms
  have q_is_step_forms := p_is_step_forms (P := P) (w := w) (base := base) M k_is_step_forms (He.glo_ok X G (c.t.d.fact 19 (f := .glo "is_step_forms") rfl)) q_is_name q_is_term_forms q_is_test
  have q_is_row := p_is_row (P := P) (w := w) (base := base) M k_is_row (He.glo_ok X G (c.t.d.fact 25 (f := .glo "is_row") rfl)) q_is_sized q_is_step_forms q_is_noted
  have q_names_among := p_names_among (P := P) (w := w) (base := base) M k_names_among (He.glo_ok X G (c.t.d.fact 21 (f := .glo "names_among") rfl)) 
  have q_step_names := p_step_names (P := P) (w := w) (base := base) M k_step_names (He.glo_ok X G (c.t.d.fact 22 (f := .glo "step_names") rfl)) q_names_among
  have q_names_of_row := p_names_of_row (P := P) (w := w) (base := base) M k_names_of_row (He.glo_ok X G (c.t.d.fact 23 (f := .glo "names_of_row") rfl)) q_step_names
  have q_checked_log := p_checked_log (P := P) (w := w) (base := base) M k_checked_log (He.glo_ok X G (c.t.d.fact 48 (f := .glo "checked_log") rfl)) q_is_sized q_names_of_row q_checked_memory q_is_row
  have q_cut_log := p_cut_log (P := P) (w := w) (base := base) M k_cut_log (He.glo_ok X G (c.t.d.fact 46 (f := .glo "cut_log") rfl)) q_is_count
  have q_is_term_at_is_term_steps := p_is_term_at_is_term_steps (P := P) (w := w) (base := base) M k_is_term_steps (He.glo_ok X G (c.t.d.fact 28 (f := .glo "is_term_steps") rfl)) q_is_name
  have q_is_test_word := p_is_test_word (P := P) (w := w) (base := base) M k_is_test_word (He.glo_ok X G (c.t.d.fact 26 (f := .glo "is_test_word") rfl)) 
  have q_is_worded := p_is_worded (P := P) (w := w) (base := base) M k_is_worded (He.glo_ok X G (c.t.d.fact 27 (f := .glo "is_worded") rfl)) 
  have q_is_step_at_is_step_steps := p_is_step_at_is_step_steps (P := P) (w := w) (base := base) M k_is_step_steps (He.glo_ok X G (c.t.d.fact 30 (f := .glo "is_step_steps") rfl)) q_is_name q_is_test_word q_is_worded q_is_term_at_is_term_steps
  have q_names_in_step := p_names_in_step (P := P) (w := w) (base := base) M k_names_in_step (He.glo_ok X G (c.t.d.fact 29 (f := .glo "names_in_step") rfl)) 
  have q_check_step := p_check_step (P := P) (w := w) (base := base) M k_check_step (He.glo_ok X G (c.t.d.fact 31 (f := .glo "check_step") rfl)) q_names_in_step q_is_step_at_is_step_steps
  have q_asked_place := p_asked_place (P := P) (w := w) (base := base) M k_asked_place (He.glo_ok X G (c.t.d.fact 36 (f := .glo "asked_place") rfl)) q_check_step
  have q_new_place := p_new_place (P := P) (w := w) (base := base) M k_new_place (He.glo_ok X G (c.t.d.fact 32 (f := .glo "new_place") rfl)) 
  have q_place_told := p_place_told (P := P) (w := w) (base := base) M k_place_told (He.glo_ok X G (c.t.d.fact 33 (f := .glo "place_told") rfl)) 
  have q_changed := p_changed (P := P) (w := w) (base := base) M k_changed (He.glo_ok X G (c.t.d.fact 35 (f := .glo "changed") rfl)) q_new_place q_place_told
  have q_memory_of := p_memory_of (P := P) (w := w) (base := base) M k_memory_of (He.glo_ok X G (c.t.d.fact 34 (f := .glo "memory_of") rfl)) 
  have q_done := p_done (P := P) (w := w) (base := base) M k_done (He.glo_ok X G (c.t.d.fact 38 (f := .glo "done") rfl)) q_memory_of q_place_told q_changed q_asked_place
  have q_is_so := p_is_so (P := P) (w := w) (base := base) M k_is_so (He.glo_ok X G (c.t.d.fact 37 (f := .glo "is_so") rfl)) 
  have q_played_log := p_played_log (P := P) (w := w) (base := base) M k_played_log (He.glo_ok X G (c.t.d.fact 39 (f := .glo "played_log") rfl)) q_is_so q_done
  have q_fault_in := p_fault_in (P := P) (w := w) (base := base) M k_fault_in (He.glo_ok X G (c.t.d.fact 51 (f := .glo "fault_in") rfl)) q_played_log
  have q_is_tuple_of__is_step_forms := p_is_tuple_of__is_step_forms (P := P) (w := w) (base := base) M k_is_tuple_of (He.glo_ok X G (c.t.d.fact 16 (f := .glo "is_tuple_of") rfl)) q_is_step_forms
  have q_log_of := p_log_of (P := P) (w := w) (base := base) M k_log_of (He.glo_ok X G (c.t.d.fact 49 (f := .glo "log_of") rfl)) q_step_names q_is_tuple_of__is_step_forms q_done
  have q_mended := p_mended (P := P) (w := w) (base := base) M k_mended (He.glo_ok X G (c.t.d.fact 50 (f := .glo "mended") rfl)) q_done
  have q_noted_of := p_noted_of (P := P) (w := w) (base := base) M k_noted_of (He.glo_ok X G (c.t.d.fact 42 (f := .glo "noted_of") rfl)) 
  exact p_law M k_law q__law_alike q__law_bag q__law_take q_noted_of q__law_memory q__law_drawn_step q__law_logged q__law_played q_cut_log q__law_turned q_checked_log q_log_of q_mended q_played_log q_fault_in
end DV
open PySem PySem.W PySem.Calls PyProof.Rows
set_option maxHeartbeats 0 in
theorem PD.law_holds (hM : ∀ ns : List Int, ns.length ≤ 63 → DV.F_law (.scr ns) = .ok (.bl true)) : PySem.Challenge.rw_listworlds_k99_whole_logs_of_steps.Holds := by
  w_on; o_law
  refine HandSHeadRun.head_any (r := OpenLaw.row PySem.Challenge.rw_listworlds_k99_whole_logs_of_steps) (q := view (OpenLaw.row PySem.Challenge.rw_listworlds_k99_whole_logs_of_steps).prog [81]) (H := DV.hk) (ob := DV.ob) (M := 20000) (loose := DV.names) (d := (HandSHeadRun.topDef (OpenLaw.row PySem.Challenge.rw_listworlds_k99_whole_logs_of_steps).prog 81)) (kwd := []) DV.ob_eq
    (by kernel_rfl) (fun s => by kernel_rfl) DV.run (by kernel_rfl) (by kernel_rfl) (by kernel_rfl) (by rfl) (by first | assumption | decide +kernel) (by decide +kernel) ⟨rfl, rfl, rfl, rfl, rfl, by decide +kernel⟩ ?hw ?hc
  case hw => w_witness2
  case hc =>
    refine PD.walk_ofG (l := PySem.Challenge.rw_listworlds_k99_whole_logs_of_steps) (n := 63) (k := 9) (x := "script") (M := PD.ap1 DV.F_law) rfl (by decide) (by kernel_rfl) ⟨rfl, by decide, by decide⟩ ?F (fun ns h => hM ns h)
    intro w mg fa h Y G hmg0
    obtain ⟨K, KX, c⟩ := Y
    have hmg : mg ("law" : PySem.Str) = some (.ref fa) := by
      have e : (HandSHeadRun.topDef (OpenLaw.row PySem.Challenge.rw_listworlds_k99_whole_logs_of_steps).prog 81).name = ("law" : PySem.Str) := by kernel_rfl
      rw [← e]
      exact hmg0
    obtain ⟨fd, hb, hF⟩ := DV.facts (P := (PySem.Challenge.rw_listworlds_k99_whole_logs_of_steps).prog) (w := w) KX G hmg c
    exact ⟨K, fd, KX, hb, hF⟩
end
set_option maxHeartbeats 0 in
theorem PySem.Challenge.cw_listworlds_k99_whole_logs_of_steps_holds : PySem.Challenge.rw_listworlds_k99_whole_logs_of_steps.Holds := by
  exact PD.law_holds M99.law_true
