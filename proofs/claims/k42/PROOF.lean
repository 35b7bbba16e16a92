import PyProof.Rows.All
import HandS.ForMost
import KE.DataEq
import KE.KeyNested
import HandS.TupAny
import KE.LtData
import KE.KDictKeyed
import HandS.Style
import HandS.IsInst
import HandS.Conv
import KE.SortData
import HandS.WideBits
import HandS.More
import HandS.SetFor
import HandS.Strs
import KE.KRevSl
import HandS.Zip
import KE.KDictDisplayH
import KE.GoesDict
import KE.KDictWalk
import HandS.Sort
import Wide.All
import OpenK.AllK
import Wide.FinOn
import PySem.Challenge.RW_chasedwebs_k42_fires_and_plans_are_read
set_option Elab.async false
set_option linter.all false
set_option maxRecDepth 100000
/-! My layer, part 1: plain data, the small monad, what Python's operators do on plain data. -/
namespace Pw
open PySem

inductive D where
  | non
  | bl (b : Bool)
  | int (i : Int)
  | str (x : Str)
  | tup (xs : List D)
  | lst (xs : List D)
  | dic (kvs : List (D × D))
  | tok

namespace D
mutual
/-- Python's == (no dict, no token inside) -/
def deq : D → D → Bool
  | .non, .non => true
  | .bl a, .bl b => a == b
  | .bl a, .int j => (if a then 1 else 0) == j
  | .int i, .bl b => i == (if b then 1 else 0)
  | .int i, .int j => i == j
  | .str x, .str y => x == y
  | .lst xs, .lst ys => deqs xs ys
  | .tup xs, .tup ys => deqs xs ys
  | _, _ => false
def deqs : List D → List D → Bool
  | [], [] => true
  | x :: xs, y :: ys => deq x y && deqs xs ys
  | _, _ => false
end
mutual
/-- nothing of a dict or of the token in it -/
def plain : D → Bool
  | .dic _ => false
  | .tok => false
  | .tup xs => plains xs
  | .lst xs => plains xs
  | _ => true
def plains : List D → Bool
  | [] => true
  | x :: xs => plain x && plains xs
end
mutual
/-- no list, dict, token in it -/
def imm : D → Bool
  | .dic _ => false
  | .tok => false
  | .lst _ => false
  | .tup xs => imms xs
  | _ => true
def imms : List D → Bool
  | [] => true
  | x :: xs => imm x && imms xs
end
mutual
def depth : D → Nat
  | .tup xs => depths xs + 1
  | .lst xs => depths xs + 1
  | _ => 0
def depths : List D → Nat
  | [] => 0
  | x :: xs => max (depth x) (depths xs)
end
/-- as data of the model -/
def py : D → PyData
  | .non => .none
  | .bl b => .bool b
  | .int i => .int i
  | .str x => .str x
  | .tup xs => .tuple (pys xs)
  | .lst xs => .list (pys xs)
  | .dic _ => .none
  | .tok => .none
where pys : List D → List PyData
  | [] => []
  | x :: xs => py x :: pys xs
/-- a list or a dict: what can be changed -/
def cont : D → Bool
  | .lst _ => true
  | .dic _ => true
  | _ => false
mutual
/-- a key that I serve: an int, a text, a tuple of such: as the model's own key -/
def keyT : D → Option NestedKey
  | .int i => some (.num i)
  | .str x => some (.text x)
  | .non => some .none
  | .tup xs => (keyTs xs).map .tup
  | _ => none
def keyTs : List D → Option (List NestedKey)
  | [] => some []
  | x :: xs => match keyT x, keyTs xs with
    | some k, some ks => some (k :: ks)
    | _, _ => none
end
end D
end Pw
namespace Pw
open PySem
/-- the state of the law's draws: cells and seed -/
abbrev Om := List Int × Int
def M (α : Type) : Type := Om → Option (α × Om)
namespace M
def fail {α : Type} : M α := fun _ => none
protected def pur {α : Type} (a : α) : M α := fun ω => some (a, ω)
protected def bnd {α β : Type} (m : M α) (f : α → M β) : M β := fun ω => match m ω with
  | none => none
  | some (a, ω') => f a ω'
instance : Monad M where
  pure := M.pur
  bind := M.bnd
theorem pure_run {α : Type} (a : α) (ω : Om) : (pure a : M α) ω = some (a, ω) := rfl
theorem bind_run {α β : Type} (m : M α) (f : α → M β) (ω : Om) : (m >>= f) ω = (match m ω with | none => none | some (a, ω') => f a ω') := rfl
instance : LawfulMonad M := LawfulMonad.mk' M
  (id_map := fun m => by funext ω; show (match m ω with | none => none | some (a, ω') => some (a, ω')) = m ω; cases m ω <;> rfl)
  (pure_bind := fun a f => rfl)
  (bind_assoc := fun m f g => by
    funext ω
    show (match (match m ω with | none => none | some (a, ω') => f a ω') with | none => none | some (a, ω') => g a ω') = (match m ω with | none => none | some (a, ω') => (match f a ω' with | none => none | some (b, ω'') => g b ω''))
    cases m ω <;> rfl)
theorem bind_some {α β : Type} {m : M α} {f : α → M β} {ω ω' : Om} {b : β} (h : (m >>= f) ω = some (b, ω')) : ∃ a ω1, m ω = some (a, ω1) ∧ f a ω1 = some (b, ω') := by
  rw [bind_run] at h
  cases e : m ω with
  | none => rw [e] at h; cases h
  | some p =>
    obtain ⟨a, ω1⟩ := p
    rw [e] at h
    exact ⟨a, ω1, rfl, h⟩
theorem pure_some {α : Type} {a b : α} {ω ω' : Om} (h : (pure a : M α) ω = some (b, ω')) : a = b ∧ ω = ω' := by
  rw [pure_run] at h
  cases h
  exact ⟨rfl, rfl⟩
theorem fail_some {α : Type} {b : α} {ω ω' : Om} (h : (fail : M α) ω = some (b, ω')) : False := by cases h
end M
abbrev DEnv := List (Option D)
def getE (env : DEnv) (i : Nat) : M D := match env[i]? with
  | some (some d) => pure d
  | _ => M.fail
theorem getE_some {env : DEnv} {i : Nat} {d : D} {ω ω' : Om} (h : getE env i ω = some (d, ω')) : env[i]? = some (some d) ∧ ω' = ω := by
  unfold getE at h
  match e : env[i]?, h with
  | some (some x), h =>
    obtain ⟨rfl, rfl⟩ := M.pure_some h
    exact ⟨rfl, rfl⟩
  | some none, h => exact (M.fail_some h).elim
  | none, h => exact (M.fail_some h).elim
/-- expressions, one after the other -/
def evs : List (DEnv → M D) → DEnv → M (List D)
  | [], _ => pure []
  | m :: ms, env => do
    let d ← m env
    let ds ← evs ms env
    pure (d :: ds)
/-- behind a statement -/
inductive Fl where
  | nx (env : DEnv)
  | rt (d : D)
  | bk (env : DEnv)
end Pw
set_option Elab.async false
set_option linter.all false
set_option maxRecDepth 100000
/-! My layer, part 2: plain data in the abstract heap; the judgements. -/
namespace Pw
open PySem PySem.Spec PyProof.Rows L2

/-- the ghosts of a running def: what is written, the state object and its cells, the heap and the base at the entry, the slots of containers that the def changes, the level -/
structure Gh where
  K : PySem.W.Frag
  P : Program
  w : World
  st : Addr
  ct : Addr
  H0 : Hp
  B0 : Hp
  W : List Nat
  k : Nat

def Ex (B B' : Hp) : Prop := ∀ a o, B a = some o → B' a = some o
theorem Ex.refl (B : Hp) : Ex B B := fun _ _ h => h
theorem Ex.trans {A B C : Hp} (h : Ex A B) (k : Ex B C) : Ex A C := fun a o e => k a o (h a o e)
theorem Ex.new {B : Hp} {p : Addr} {o : HO} (h : B p = none) : Ex B (upd B p o) := fun a u e => by
  rw [upd_ne (ne_of_none e h)]
  exact e
theorem Ex.both {B H : Hp} {p : Addr} {o : HO} (h : Ex B H) : Ex (upd B p o) (upd H p o) := fun a u e => by
  by_cases hp : a = p
  · subst hp; rw [upd_same] at e ⊢; exact e
  · rw [upd_ne hp] at e ⊢; exact h a u e
theorem Ex.rd {B B' : Hp} {a : Addr} {u : HO} (e : Ex B B') (h : Rd B a u) : Rd B' a u := by
  rcases h with h | ⟨o, h⟩
  · exact .inl (e a _ h)
  · exact .inr ⟨o, e a _ h⟩
theorem Ex.sqL {K : PySem.W.Frag} {B B' : Hp} {a : Addr} {xs : List V} (e : Ex B B') (h : SqL K B a xs) : SqL K B' a xs := by
  rcases h with h | h
  · exact .inl (e.rd h)
  · exact .inr h
theorem Ex.sqT {K : PySem.W.Frag} {B B' : Hp} {a : Addr} {xs : List V} (e : Ex B B') (h : SqT K B a xs) : SqT K B' a xs := by
  rcases h with h | h
  · exact .inl (e.rd h)
  · exact .inr h

/-- an int's or a text's key as data -/
def kD : Key → D
  | .inl i => .int i
  | .inr x => .str x
/-- a dict whose keys are tuples: key, where its tuple stands, value -/
def dN (P : Program) (w : World) (a : Addr) (xs : List (NestedKey × Addr × V)) : HO := .ext fun h =>
  xs.length ≤ sizeLine ∧ (a == sysModules) = false ∧ ∃ ws : List (NestedKey × Addr × Value), Paired (fun (p : NestedKey × Addr × V) (q : NestedKey × Addr × Value) => p.1 = q.1 ∧ p.2.1 = q.2.1 ∧ RelV p.2.2 q.2.2) xs ws ∧
    ∃ o es ep, h.get? a = some o ∧ o.ExactDict ∧ o.data = .dict es ep ∧ es.toList = ws.map (entryOfKey (nestedKind P w)) ∧ (ws.map (·.1)).Nodup
mutual
/-- the value v is the data d, in the base B -/
inductive Rp (g : Gh) (B : Hp) : D → V → Prop
  | non : Rp g B .non .non
  | bl (b : Bool) : Rp g B (.bl b) (.bl b)
  | int (i : Int) : Rp g B (.int i) (.int i)
  | str (x : Str) : Rp g B (.str x) (.str x)
  | tup {a : Addr} {xs : List V} {ds : List D} : SqT g.K B a xs → Rps g B ds xs → Rp g B (.tup ds) (.ref a)
  | lst {a : Addr} {xs : List V} {ds : List D} : B a = some (.lst xs) → Rps g B ds xs → Rp g B (.lst ds) (.ref a)
  | dicK {a : Addr} {kk : List (Key × V)} {kvs : List (D × D)} : Rd B a (.dK kk) → RpK g B kvs kk → Rp g B (.dic kvs) (.ref a)
  | dicN {a : Addr} {xs : List (NestedKey × Addr × V)} {kvs : List (D × D)} : Rd B a (dN g.P g.w a xs) → RpN g B kvs xs → Rp g B (.dic kvs) (.ref a)
  | tok : Rp g B .tok (.ref g.st)
inductive Rps (g : Gh) (B : Hp) : List D → List V → Prop
  | nil : Rps g B [] []
  | cons {d : D} {v : V} {ds : List D} {vs : List V} : Rp g B d v → Rps g B ds vs → Rps g B (d :: ds) (v :: vs)
inductive RpK (g : Gh) (B : Hp) : List (D × D) → List (Key × V) → Prop
  | nil : RpK g B [] []
  | cons {k : Key} {d : D} {v : V} {kvs : List (D × D)} {es : List (Key × V)} : Rp g B d v → RpK g B kvs es → RpK g B ((kD k, d) :: kvs) ((k, v) :: es)
inductive RpN (g : Gh) (B : Hp) : List (D × D) → List (NestedKey × Addr × V) → Prop
  | nil : RpN g B [] []
  | cons {k d : D} {n : NestedKey} {b : Addr} {v : V} {kvs : List (D × D)} {es : List (NestedKey × Addr × V)} : k.keyT = some n → k.depth ≤ 8 → Rp g B k (.ref b) → Rp g B d v → RpN g B kvs es → RpN g B ((k, d) :: kvs) ((n, b, v) :: es)
end
section
variable {g : Gh} {B B' : Hp}
mutual
theorem Rp.mono (e : Ex B B') : ∀ {d : D} {v : V}, Rp g B d v → Rp g B' d v
  | _, _, .non => .non
  | _, _, .bl b => .bl b
  | _, _, .int i => .int i
  | _, _, .str x => .str x
  | _, _, .tup h r => .tup (e.sqT h) (Rps.mono e r)
  | _, _, .lst h r => .lst (e _ _ h) (Rps.mono e r)
  | _, _, .dicK h r => .dicK (e.rd h) (RpK.mono e r)
  | _, _, .dicN h r => .dicN (e.rd h) (RpN.mono e r)
  | _, _, .tok => .tok
theorem Rps.mono (e : Ex B B') : ∀ {ds : List D} {vs : List V}, Rps g B ds vs → Rps g B' ds vs
  | _, _, .nil => .nil
  | _, _, .cons h r => .cons (Rp.mono e h) (Rps.mono e r)
theorem RpK.mono (e : Ex B B') : ∀ {ds : List (D × D)} {vs : List (Key × V)}, RpK g B ds vs → RpK g B' ds vs
  | _, _, .nil => .nil
  | _, _, .cons h r => .cons (Rp.mono e h) (RpK.mono e r)
theorem RpN.mono (e : Ex B B') : ∀ {ds : List (D × D)} {vs : List (NestedKey × Addr × V)}, RpN g B ds vs → RpN g B' ds vs
  | _, _, .nil => .nil
  | _, _, .cons k q h j r => .cons k q (Rp.mono e h) (Rp.mono e j) (RpN.mono e r)
end
mutual
/-- for data without lists and dicts only tuples of the base matter -/
theorem Rp.imm (e : ∀ a xs, Rd B a (.tup xs) → Rd B' a (.tup xs)) : ∀ {d : D} {v : V}, d.imm = true → Rp g B d v → Rp g B' d v
  | _, _, _, .non => .non
  | _, _, _, .bl b => .bl b
  | _, _, _, .int i => .int i
  | _, _, _, .str x => .str x
  | _, _, hi, .tup h r => .tup (by rcases h with h | h; exact .inl (e _ _ h); exact .inr h) (Rps.imm e (by simpa [D.imm] using hi) r)
  | _, _, hi, .lst h r => by simp [D.imm] at hi
  | _, _, hi, .dicK h r => by simp [D.imm] at hi
  | _, _, hi, .dicN h r => by simp [D.imm] at hi
  | _, _, hi, .tok => by simp [D.imm] at hi
theorem Rps.imm (e : ∀ a xs, Rd B a (.tup xs) → Rd B' a (.tup xs)) : ∀ {ds : List D} {vs : List V}, D.imms ds = true → Rps g B ds vs → Rps g B' ds vs
  | _, _, _, .nil => .nil
  | _, _, hi, .cons h r => by
    simp only [D.imms, Bool.and_eq_true] at hi
    exact .cons (Rp.imm e hi.1 h) (Rps.imm e hi.2 r)
end
theorem Rps.length : ∀ {ds : List D} {vs : List V}, Rps g B ds vs → ds.length = vs.length
  | _, _, .nil => rfl
  | _, _, .cons _ r => congrArg (· + 1) r.length
theorem Rps.get : ∀ {ds : List D} {vs : List V}, Rps g B ds vs → ∀ {i : Nat} {d : D}, ds[i]? = some d → ∃ v, vs[i]? = some v ∧ Rp g B d v
  | _, _, .nil, i, d, h => by simp at h
  | _, _, .cons r t, 0, d, h => by
    simp at h; subst h
    exact ⟨_, rfl, r⟩
  | _, _, .cons r t, i + 1, d, h => by
    obtain ⟨v, h1, h2⟩ := Rps.get t (i := i) (d := d) (by simpa using h)
    exact ⟨v, by simpa using h1, h2⟩
theorem Rps.get' : ∀ {ds : List D} {vs : List V}, Rps g B ds vs → ∀ {i : Nat} {v : V}, vs[i]? = some v → ∃ d, ds[i]? = some d ∧ Rp g B d v
  | _, _, .nil, i, d, h => by simp at h
  | _, _, .cons r t, 0, d, h => by
    simp at h; subst h
    exact ⟨_, rfl, r⟩
  | _, _, .cons r t, i + 1, d, h => by
    obtain ⟨v, h1, h2⟩ := Rps.get' t (i := i) (v := d) (by simpa using h)
    exact ⟨v, by simpa using h1, h2⟩
theorem Rps.append : ∀ {ds : List D} {vs : List V} {es : List D} {us : List V}, Rps g B ds vs → Rps g B es us → Rps g B (ds ++ es) (vs ++ us)
  | _, _, _, _, .nil, k => k
  | _, _, _, _, .cons r t, k => .cons r (Rps.append t k)
theorem Rps.set {d : D} {v : V} (r : Rp g B d v) : ∀ {ds : List D} {vs : List V} (i : Nat), Rps g B ds vs → Rps g B (ds.set i d) (vs.set i v)
  | _, _, _, .nil => .nil
  | _, _, 0, .cons _ t => .cons r t
  | _, _, i + 1, .cons q t => .cons q (Rps.set r i t)
theorem Rps.take : ∀ {ds : List D} {vs : List V} (n : Nat), Rps g B ds vs → Rps g B (ds.take n) (vs.take n)
  | _, _, 0, _ => .nil
  | _, _, _ + 1, .nil => .nil
  | _, _, n + 1, .cons r t => .cons r (Rps.take n t)
theorem Rps.drop : ∀ {ds : List D} {vs : List V} (n : Nat), Rps g B ds vs → Rps g B (ds.drop n) (vs.drop n)
  | _, _, 0, r => r
  | _, _, _ + 1, .nil => .nil
  | _, _, n + 1, .cons _ t => Rps.drop n t
theorem Rps.reverse : ∀ {ds : List D} {vs : List V}, Rps g B ds vs → Rps g B ds.reverse vs.reverse
  | _, _, .nil => .nil
  | _, _, .cons r t => by
    rw [List.reverse_cons, List.reverse_cons]
    exact (Rps.reverse t).append (.cons r .nil)
theorem RpK.length : ∀ {ds : List (D × D)} {vs : List (Key × V)}, RpK g B ds vs → ds.length = vs.length
  | _, _, .nil => rfl
  | _, _, .cons _ r => congrArg (· + 1) r.length
theorem RpN.length : ∀ {ds : List (D × D)} {vs : List (NestedKey × Addr × V)}, RpN g B ds vs → ds.length = vs.length
  | _, _, .nil => rfl
  | _, _, .cons _ _ _ _ r => congrArg (· + 1) r.length
end

/-- a container stands at p: its items are of the base, it need not be -/
inductive Cell (g : Gh) (B H : Hp) : D → Addr → Prop
  | lst {p : Addr} {xs : List V} {ds : List D} : H p = some (.lst xs) → Rps g B ds xs → Cell g B H (.lst ds) p
  | dicK {p : Addr} {kk : List (Key × V)} {kvs : List (D × D)} : H p = some (.dK kk) → RpK g B kvs kk → Cell g B H (.dic kvs) p
  | dicN {p : Addr} {xs : List (NestedKey × Addr × V)} {kvs : List (D × D)} : H p = some (dN g.P g.w p xs) → RpN g B kvs xs → Cell g B H (.dic kvs) p
theorem Cell.some {g : Gh} {B H : Hp} {d : D} {p : Addr} (c : Cell g B H d p) : ∃ o, H p = some o := by
  cases c with
  | lst h _ => exact ⟨_, h⟩
  | dicK h _ => exact ⟨_, h⟩
  | dicN h _ => exact ⟨_, h⟩
theorem Cell.cont {g : Gh} {B H : Hp} {d : D} {p : Addr} (c : Cell g B H d p) : d.cont = true := by cases c <;> rfl
theorem Cell.step {g : Gh} {B B' H H' : Hp} {d : D} {p : Addr} (c : Cell g B H d p) (e : Ex B B') (h : ∀ o, H p = Option.some o → H' p = Option.some o) : Cell g B' H' d p := by
  cases c with
  | lst hp r => exact .lst (h _ hp) (r.mono e)
  | dicK hp r => exact .dicK (h _ hp) (r.mono e)
  | dicN hp r => exact .dicN (h _ hp) (r.mono e)
theorem Cell.notTup {g : Gh} {B H : Hp} {d : D} {p : Addr} (c : Cell g B H d p) {xs : List V} (h : Rd H p (.tup xs)) : False := by
  have key : ∀ o, H p = Option.some o → (∀ ys, o ≠ .tup ys) → (∀ ob ys, o ≠ .frz ob (.tup ys)) → False := fun o ho h1 h2 => by
    rcases h with h | ⟨ob, h⟩
    · rw [ho] at h; cases h; exact h1 xs rfl
    · rw [ho] at h; cases h; exact h2 ob xs rfl
  cases c with
  | lst hp r => exact key _ hp (by intro _ z; cases z) (by intro _ _ z; cases z)
  | dicK hp r => exact key _ hp (by intro _ z; cases z) (by intro _ _ z; cases z)
  | dicN hp r => exact key _ hp (by intro _ z; cases z) (by intro _ _ z; cases z)
/-- the same container in the base -/
theorem Cell.rp {g : Gh} {B B' H : Hp} {d : D} {p : Addr} (c : Cell g B H d p) (e : Ex B B') (h : ∀ o, H p = Option.some o → B' p = Option.some o) : Rp g B' d (.ref p) := by
  cases c with
  | lst hp r => exact .lst (h _ hp) (r.mono e)
  | dicK hp r => exact .dicK (.inl (h _ hp)) (r.mono e)
  | dicN hp r => exact .dicN (.inl (h _ hp)) (r.mono e)
/-- read: of the base, or a container that need not be -/
def Rc (g : Gh) (B H : Hp) (d : D) (v : V) : Prop := Rp g B d v ∨ ∃ p, v = .ref p ∧ Cell g B H d p
/-- the state object -/
def StOk (g : Gh) (H : Hp) (ω : Om) : Prop := g.st ≠ g.ct ∧ H g.st = some (.lst [.ref g.ct, .int ω.2]) ∧ H g.ct = some (.lst (ω.1.map V.int))
/-- the base in the heap -/
structure Bas (g : Gh) (B H : Hp) (ω : Om) : Prop where
  ex : Ex B H
  nb : B g.st = none ∧ B g.ct = none
  st : StOk g H ω
  fr : ∀ a o, g.H0 a = some o → a ≠ g.st → a ≠ g.ct → H a = some o
  nw : ∀ a, g.B0 a = none → (∃ o, g.H0 a = some o) → B a = none
/-- slots, heap, plain data -/
structure Rel (g : Gh) (B : Hp) (σ : L2.St) (H : Hp) (env : DEnv) (ω : Om) : Prop where
  bas : Bas g B H ω
  len : env.length = σ.length
  rd : ∀ i d, env[i]? = some (some d) → ∃ v, σ[i]? = some (some v) ∧ ((i ∈ g.W ∧ d.cont = true) ∨ Rp g B d v)
  ow : ∀ i d, i ∈ g.W → env[i]? = some (some d) → d.cont = true → ∃ p, σ[i]? = some (some (.ref p)) ∧ Cell g B H d p ∧ B p = none ∧ g.H0 p = none ∧ p ≠ g.st ∧ p ≠ g.ct
  ap : ∀ i j d e p, i ∈ g.W → j ∈ g.W → i ≠ j → env[i]? = some (some d) → d.cont = true → env[j]? = some (some e) → e.cont = true → σ[i]? = some (some (.ref p)) → σ[j]? = some (some (.ref p)) → False
/-- from (B, H) to (B', H') by an expression: nothing that stood has changed but the state; the base has grown by new things alone -/
structure Mov (g : Gh) (B H B' H' : Hp) : Prop where
  ex : Ex B B'
  fr : ∀ a o, H a = some o → a ≠ g.st → a ≠ g.ct → H' a = some o
  nw : ∀ a, B a = none → (∃ o, H a = some o) → B' a = none
section
variable {g : Gh} {B B' B2 H H' H2 : Hp} {σ : L2.St} {env : DEnv} {ω ω' : Om} {d : D} {v : V} {p : Addr} {o : HO}
theorem Mov.refl (g : Gh) (B H : Hp) : Mov g B H B H := ⟨Ex.refl B, fun _ _ h _ _ => h, fun _ h _ => h⟩
theorem StOk.apart (h : StOk g H ω) (hp : H p = none) : p ≠ g.st ∧ p ≠ g.ct := ⟨fun e => (by rw [e, h.2.1] at hp; cases hp), fun e => (by rw [e, h.2.2] at hp; cases hp)⟩
theorem Mov.trans (a : Mov g B H B' H') (b : Mov g B' H' B2 H2) (s : StOk g H ω) (s' : StOk g H' ω') : Mov g B H B2 H2 :=
  ⟨a.ex.trans b.ex, fun x o h h1 h2 => b.fr x o (a.fr x o h h1 h2) h1 h2, fun x h ho => b.nw x (a.nw x h ho) (by
    obtain ⟨o, ho⟩ := ho
    by_cases h1 : x = g.st
    · exact ⟨_, h1 ▸ s'.2.1⟩
    by_cases h2 : x = g.ct
    · exact ⟨_, h2 ▸ s'.2.2⟩
    exact ⟨o, a.fr x o ho h1 h2⟩)⟩
theorem Bas.off (b : Bas g B H ω) (h : H p = none) : B p = none := by
  cases e : B p with
  | none => rfl
  | some o => rw [b.ex p o e] at h; cases h
theorem Bas.h0 (b : Bas g B H ω) (h : H p = none) : g.H0 p = none := by
  cases e : g.H0 p with
  | none => rfl
  | some o =>
    obtain ⟨h1, h2⟩ := b.st.apart h
    rw [b.fr p o e h1 h2] at h; cases h
/-- a new object, of the base from now on -/
theorem Mov.frz (b : Bas g B H ω) (h : H p = none) : Mov g B H (upd B p o) (upd H p o) :=
  ⟨Ex.new (b.off h), fun a u e _ _ => by rw [upd_ne (ne_of_none e h)]; exact e, fun a e ⟨u, hu⟩ => by rw [upd_ne (ne_of_none hu h)]; exact e⟩
/-- a new object, not of the base -/
theorem Mov.new (h : H p = none) : Mov g B H B (upd H p o) :=
  ⟨Ex.refl B, fun a u e _ _ => by rw [upd_ne (ne_of_none e h)]; exact e, fun a e _ => e⟩
theorem StOk.new (s : StOk g H ω) (h : H p = none) : StOk g (upd H p o) ω := by
  obtain ⟨h1, h2⟩ := s.apart h
  exact ⟨s.1, by rw [upd_ne h1.symm]; exact s.2.1, by rw [upd_ne h2.symm]; exact s.2.2⟩
theorem Bas.mov (b : Bas g B H ω) (m : Mov g B H B' H') (ex : Ex B' H') (st : StOk g H' ω') : Bas g B' H' ω' :=
  ⟨ex, ⟨m.nw _ b.nb.1 ⟨_, b.st.2.1⟩, m.nw _ b.nb.2 ⟨_, b.st.2.2⟩⟩, st, fun a o e h1 h2 => m.fr a o (b.fr a o e h1 h2) h1 h2, fun a e ⟨o, ho⟩ => m.nw a (b.nw a e ⟨o, ho⟩) (by
    by_cases h1 : a = g.st
    · exact ⟨_, h1 ▸ b.st.2.1⟩
    by_cases h2 : a = g.ct
    · exact ⟨_, h2 ▸ b.st.2.2⟩
    exact ⟨o, b.fr a o ho h1 h2⟩)⟩
theorem Bas.frz (b : Bas g B H ω) (h : H p = none) : Bas g (upd B p o) (upd H p o) ω := b.mov (Mov.frz b h) b.ex.both (b.st.new h)
theorem Bas.add (b : Bas g B H ω) (h : H p = none) : Bas g B (upd H p o) ω := b.mov (Mov.new h) (fun a u e => by rw [upd_ne (ne_of_none (b.ex a u e) h)]; exact b.ex a u e) (b.st.new h)
theorem Rel.mov (r : Rel g B σ H env ω) (m : Mov g B H B' H') (b : Bas g B' H' ω') : Rel g B' σ H' env ω' where
  bas := b
  len := r.len
  rd := fun i d e => by
    obtain ⟨v, h1, h2⟩ := r.rd i d e
    exact ⟨v, h1, h2.imp id fun h => h.mono m.ex⟩
  ow := fun i d hi e hc => by
    obtain ⟨p, h1, h2, h3, h4, h5, h6⟩ := r.ow i d hi e hc
    exact ⟨p, h1, h2.step m.ex fun o ho => m.fr p o ho h5 h6, m.nw p h3 h2.some, h4, h5, h6⟩
  ap := r.ap
theorem Rel.frz (r : Rel g B σ H env ω) (h : H p = none) : Rel g (upd B p o) σ (upd H p o) env ω := r.mov (Mov.frz r.bas h) (r.bas.frz h)
theorem Rel.new (r : Rel g B σ H env ω) (h : H p = none) : Rel g B σ (upd H p o) env ω := r.mov (Mov.new h) (r.bas.add h)
end
end Pw
set_option Elab.async false
set_option linter.all false
set_option maxRecDepth 100000
/-! My layer, part 3: the judgements, names, constants, operators. -/
namespace Pw
open PySem PySem.Spec PyProof.Rows L2

theorem ni_of {W : List Nat} {i : Nat} (h : W.contains i = false) : i ∉ W := fun k => by
  rw [← List.contains_iff_mem] at k
  rw [h] at k; cases k
theorem ii_of {W : List Nat} {i : Nat} (h : W.contains i = true) : i ∈ W := List.contains_iff_mem.mp h
theorem al_of {W sl : List Nat} (h : (sl.all fun i => !W.contains i) = true) : ∀ i ∈ sl, i ∉ W := fun i hi => by
  have := List.all_eq_true.mp h i hi
  exact ni_of (by simpa using this)
/-- read from outside the base: a container that is no state -/
def Rb (g : Gh) (B H : Hp) (d : D) (v : V) : Prop := Rp g B d v ∨ ∃ p, v = .ref p ∧ Cell g B H d p ∧ p ≠ g.st ∧ p ≠ g.ct
theorem Rb.mov {g : Gh} {B B' H H' : Hp} {d : D} {v : V} (h : Rb g B H d v) (m : Mov g B H B' H') : Rb g B' H' d v := by
  rcases h with h | ⟨p, e, c, h1, h2⟩
  · exact .inl (h.mono m.ex)
  · exact .inr ⟨p, e, c.step m.ex fun o ho => m.fr p o ho h1 h2, h1, h2⟩
theorem Rb.lst {g : Gh} {B H : Hp} {ds : List D} {v : V} (e : Ex B H) (h : Rb g B H (.lst ds) v) : ∃ a xs, v = .ref a ∧ H a = some (.lst xs) ∧ Rps g B ds xs := by
  rcases h with h | ⟨p, rfl, c, _⟩
  · cases h with
    | lst h r => exact ⟨_, _, rfl, e _ _ h, r⟩
  · cases c with
    | lst h r => exact ⟨_, _, rfl, h, r⟩
theorem Rb.tup {g : Gh} {B H : Hp} {ds : List D} {v : V} (e : Ex B H) (h : Rb g B H (.tup ds) v) : ∃ a xs, v = .ref a ∧ SqT g.K H a xs ∧ Rps g B ds xs := by
  rcases h with h | ⟨p, rfl, c, _⟩
  · cases h with
    | tup h r => exact ⟨_, _, rfl, e.sqT h, r⟩
  · cases c
/-- a dict at a: its two kinds -/
def DicAt (g : Gh) (B H : Hp) (a : Addr) (kvs : List (D × D)) : Prop :=
  (∃ kk, Rd H a (.dK kk) ∧ RpK g B kvs kk) ∨ ∃ xs, Rd H a (dN g.P g.w a xs) ∧ RpN g B kvs xs
theorem Rb.dic {g : Gh} {B H : Hp} {kvs : List (D × D)} {v : V} (e : Ex B H) (h : Rb g B H (.dic kvs) v) : ∃ a, v = .ref a ∧ DicAt g B H a kvs := by
  rcases h with h | ⟨p, rfl, c, _⟩
  · cases h with
    | dicK h r => exact ⟨_, rfl, .inl ⟨_, e.rd h, r⟩⟩
    | dicN h r => exact ⟨_, rfl, .inr ⟨_, e.rd h, r⟩⟩
  · cases c with
    | dicK h r => exact ⟨_, rfl, .inl ⟨_, .inl h, r⟩⟩
    | dicN h r => exact ⟨_, rfl, .inr ⟨_, .inl h, r⟩⟩
theorem Rb.int {g : Gh} {B H : Hp} {i : Int} {v : V} (h : Rb g B H (.int i) v) : v = .int i := by
  rcases h with h | ⟨p, rfl, c, _⟩
  · cases h; rfl
  · cases c
theorem Rb.bl {g : Gh} {B H : Hp} {i : Bool} {v : V} (h : Rb g B H (.bl i) v) : v = .bl i := by
  rcases h with h | ⟨p, rfl, c, _⟩
  · cases h; rfl
  · cases c
theorem Rb.str {g : Gh} {B H : Hp} {i : Str} {v : V} (h : Rb g B H (.str i) v) : v = .str i := by
  rcases h with h | ⟨p, rfl, c, _⟩
  · cases h; rfl
  · cases c
theorem Rb.non {g : Gh} {B H : Hp} {v : V} (h : Rb g B H .non v) : v = .non := by
  rcases h with h | ⟨p, rfl, c, _⟩
  · cases h; rfl
  · cases c

structure Fits (X : Cx) (g : Gh) : Prop where
  K : g.K = X.K
  P : g.P = X.prog
  w : g.w = X.w
  calm : X.calm = true
  nd : X.N.Nodup
  room : Room g.k X.A
theorem Fits.hu {X : Cx} {g : Gh} (f : Fits X g) : X.A.units + 1 < cLine := hu_of f.room
theorem Fits.h64 {X : Cx} {g : Gh} (f : Fits X g) : X.A.units + 64 < cLine := Nat.lt_of_le_of_lt (Nat.add_le_add_left (Nat.le_refl _) _) (Nat.lt_of_le_of_lt (by omega) f.room.units)

/-- what comes of an expression -/
def OV (X : Cx) (g : Gh) (pins : List (Addr × Obj)) (σ : L2.St) (env : DEnv) (B H : Hp) (d : D) (ω' : Om) : Value → Shared → Prop :=
  fun r s' => ∃ z H' B', Inv X pins σ H' s' ∧ RelV z r ∧ Mov g B H B' H' ∧ Rel g B' σ H' env ω' ∧ Rp g B' d z
def OB (X : Cx) (g : Gh) (pins : List (Addr × Obj)) (σ : L2.St) (env : DEnv) (B H : Hp) (d : D) (ω' : Om) : Value → Shared → Prop :=
  fun r s' => ∃ z H' B', Inv X pins σ H' s' ∧ RelV z r ∧ Mov g B H B' H' ∧ Rel g B' σ H' env ω' ∧ Rb g B' H' d z
/-- a new container, owned by nobody -/
structure New (g : Gh) (B H B' H' : Hp) (d : D) (p : Addr) : Prop where
  cell : Cell g B' H' d p
  off : B' p = none
  new : H p = none
  nst : p ≠ g.st
  nct : p ≠ g.ct
def OF (X : Cx) (g : Gh) (pins : List (Addr × Obj)) (σ : L2.St) (env : DEnv) (B H : Hp) (d : D) (ω' : Om) : Value → Shared → Prop :=
  fun r s' => ∃ p H' B', Inv X pins σ H' s' ∧ r = .ref p ∧ Mov g B H B' H' ∧ Rel g B' σ H' env ω' ∧ New g B H B' H' d p
def OT (X : Cx) (g : Gh) (pins : List (Addr × Obj)) (σ : L2.St) (env : DEnv) (B H : Hp) (d : Bool) (ω' : Om) : Bool → Shared → Prop :=
  fun r s' => ∃ H' B', Inv X pins σ H' s' ∧ r = d ∧ Mov g B H B' H' ∧ Rel g B' σ H' env ω'
def OA (X : Cx) (g : Gh) (pins : List (Addr × Obj)) (σ : L2.St) (env : DEnv) (B H : Hp) (ds : List D) (ω' : Om) : List Value → Shared → Prop :=
  fun us s' => ∃ vs H' B', Inv X pins σ H' s' ∧ Vals vs us ∧ Mov g B H B' H' ∧ Rel g B' σ H' env ω' ∧ Rps g B' ds vs
/-- a value of the base; a container to be read; a new container; a test; arguments -/
structure PV (X : Cx) (g : Gh) (e : Expr) (m : DEnv → M D) : Prop where
  run : Fits X g → ∀ pins s σ H B env ω d ω', Inv X pins σ H s → Rel g B σ H env ω → m env ω = some (d, ω') → wpAny (model X.prog X.w) X.A (eval e X.env) (OV X g pins σ env B H d ω') X.xe s
structure PB (X : Cx) (g : Gh) (e : Expr) (m : DEnv → M D) : Prop where
  run : Fits X g → ∀ pins s σ H B env ω d ω', Inv X pins σ H s → Rel g B σ H env ω → m env ω = some (d, ω') → wpAny (model X.prog X.w) X.A (eval e X.env) (OB X g pins σ env B H d ω') X.xe s
structure PF (X : Cx) (g : Gh) (e : Expr) (m : DEnv → M D) : Prop where
  run : Fits X g → ∀ pins s σ H B env ω d ω', Inv X pins σ H s → Rel g B σ H env ω → m env ω = some (d, ω') → wpAny (model X.prog X.w) X.A (eval e X.env) (OF X g pins σ env B H d ω') X.xe s
structure PTt (X : Cx) (g : Gh) (e : Expr) (m : DEnv → M Bool) : Prop where
  run : Fits X g → ∀ pins s σ H B env ω d ω', Inv X pins σ H s → Rel g B σ H env ω → m env ω = some (d, ω') → wpAny (model X.prog X.w) X.A (isTrue e X.env (eval e X.env)) (OT X g pins σ env B H d ω') X.xe s
structure PWt (X : Cx) (g : Gh) (e : Expr) (m : DEnv → M Bool) : Prop where
  run : Fits X g → ∀ whole pins s σ H B env ω d ω', Inv X pins σ H s → Rel g B σ H env ω → m env ω = some (d, ω') → wpAny (model X.prog X.w) X.A (isTrue e X.env whole) (OT X g pins σ env B H d ω') X.xe s
structure PAs (X : Cx) (g : Gh) (es : List Expr) (ms : List (DEnv → M D)) : Prop where
  run : Fits X g → ∀ pos pins s σ H B env ω ds ω', Inv X pins σ H s → Rel g B σ H env ω → evs ms env ω = some (ds, ω') → wpAny (model X.prog X.w) X.A (spliced (backTo pos (starEach es X.env))) (OA X g pins σ env B H ds ω') X.xe s

section
variable {X : Cx} {g : Gh} {e : Expr} {m : DEnv → M D}
theorem PWt.pt {m : DEnv → M Bool} (h : PWt X g e m) : PTt X g e m := ⟨fun f => h.run f _⟩
theorem PF.pv (h : PF X g e m) : PV X g e m := ⟨fun f pins s σ H B env ω d ω' I r q => thn (h.run f pins s σ H B env ω d ω' I r q) fun u s1 ⟨p, H1, B1, I1, eu, mv, r1, n⟩ => by
  obtain ⟨o, ho⟩ := n.cell.some
  -- the new container joins the base
  have ex1 : Ex B1 (upd B1 p o) := Ex.new n.off
  have exH : Ex (upd B1 p o) H1 := fun a u e => by
    by_cases hp : a = p
    · subst hp; rw [upd_same] at e; cases e; exact ho
    · rw [upd_ne hp] at e; exact r1.bas.ex a u e
  have m1 : Mov g B H (upd B1 p o) H1 := ⟨mv.ex.trans ex1, mv.fr, fun a ha hb => by
    by_cases hp : a = p
    · subst hp; obtain ⟨w, hw⟩ := hb; rw [n.new] at hw; cases hw
    · rw [upd_ne hp]; exact mv.nw a ha hb⟩
  have b1 : Bas g (upd B1 p o) H1 ω' := r.bas.mov m1 exH r1.bas.st
  refine ⟨.ref p, H1, upd B1 p o, I1, eu, m1, r.mov m1 b1, ?_⟩
  exact n.cell.rp ex1 fun o' ho' => by rw [ho] at ho'; cases ho'; exact upd_same⟩
theorem PV.pb (h : PV X g e m) : PB X g e m := ⟨fun f pins s σ H B env ω d ω' I r q => thn (h.run f pins s σ H B env ω d ω' I r q) fun u s1 ⟨v, H1, B1, I1, eu, mv, r1, n⟩ => ⟨v, H1, B1, I1, eu, mv, r1, .inl n⟩⟩
theorem PF.pb (h : PF X g e m) : PB X g e m := h.pv.pb

/-! names -/
def eVar (i : Nat) : DEnv → M D := fun env => getE env i
theorem name_ok {i : Nat} {x : Str} {pos : Pos} {pins : List (Addr × Obj)} {s : Shared} {σ : L2.St} {H : Hp} {v : V} {Q : Value → Shared → Prop} (I : Inv X pins σ H s) (hN : X.N[i]? = some x) (hv : Vis X.env.scope x) (e : σ[i]? = some (some v)) (hQ : ∀ u, RelV v u → Q u s)
    (hd : (x == ("__debug__" : Str)) = false) (hcd : (x == ("__classdict__" : Str)) = false) : wpAny (model X.prog X.w) X.A (eval (.Name x pos) X.env) Q X.xe s := by
  have h := (pe_var (X := X) (pos := pos) hN hv hd hcd).run pins s σ H (fun y H' => y = v ∧ H' = H) I ⟨v, e, rfl, rfl⟩
  obtain ⟨m, hn, hl⟩ := I.loc
  obtain ⟨u, r, l⟩ := hl i x v hN e hv
  rcases l with ⟨hk, hm⟩ | ⟨hk, c, hc, hcell⟩
  · exact wpAny_Name (wpAny_loadName_local I.ok.kind hk hn hm (hQ u r)) hd
  · rcases hk with hk | hk
    · exact wpAny_Name (wpAny_loadName_cell I.ok.kind hk hc hcell (hQ u r)) hd
    · exact wpAny_Name (wpAny_loadName_free I.ok.kind hk hc hcell (hQ u r) hcd) hd
/-- a name whose container is not changed here -/
theorem pv_var (i : Nat) {x : Str} {pos : Pos} (hN : X.N[i]? = some x := by rfl) (hW : i ∉ g.W := by exact ni_of rfl) (hv : Vis X.env.scope x := by first | exact Or.inl rfl | exact Or.inr (Or.inl rfl) | exact Or.inr (Or.inr rfl)) (hd : (x == ("__debug__" : Str)) = false := by decide)
    (hcd : (x == ("__classdict__" : Str)) = false := by decide) : PV X g (.Name x pos) (eVar i) := ⟨fun f pins s σ H B env ω d ω' I r q => by
  obtain ⟨he, rfl⟩ := getE_some q
  obtain ⟨v, e, h⟩ := r.rd i d he
  rcases h with ⟨h, _⟩ | h
  · exact absurd h hW
  · exact name_ok I hN hv e (fun u ru => ⟨v, H, B, I, ru, Mov.refl g B H, r, h⟩) hd hcd⟩
/-- any name, to be read -/
theorem pb_var (i : Nat) {x : Str} {pos : Pos} (hN : X.N[i]? = some x := by rfl) (hv : Vis X.env.scope x := by first | exact Or.inl rfl | exact Or.inr (Or.inl rfl) | exact Or.inr (Or.inr rfl)) (hd : (x == ("__debug__" : Str)) = false := by decide)
    (hcd : (x == ("__classdict__" : Str)) = false := by decide) : PB X g (.Name x pos) (eVar i) := ⟨fun f pins s σ H B env ω d ω' I r q => by
  obtain ⟨he, rfl⟩ := getE_some q
  obtain ⟨v, e, h⟩ := r.rd i d he
  rcases h with ⟨h, hc⟩ | h
  · obtain ⟨p, e', c, _, _, h1, h2⟩ := r.ow i d h he hc
    exact name_ok I hN hv e' (fun u ru => ⟨_, H, B, I, ru, Mov.refl g B H, r, .inr ⟨p, rfl, c, h1, h2⟩⟩) hd hcd
  · exact name_ok I hN hv e (fun u ru => ⟨v, H, B, I, ru, Mov.refl g B H, r, .inl h⟩) hd hcd⟩

/-! constants -/
def eC (d : D) : DEnv → M D := fun _ => pure d
theorem pv_int {i j pos} : PV X g (.Constant (.int i) j pos) (eC (.int i)) := ⟨fun f pins s σ H B env ω d ω' I r q => by
  obtain ⟨rfl, rfl⟩ := M.pure_some q
  exact wpAny_Constant_int ⟨.int i, H, B, I.tok _, ⟨_, rfl⟩, Mov.refl g B H, r, .int i⟩⟩
theorem pv_bl {i j pos} : PV X g (.Constant (.bool i) j pos) (eC (.bl i)) := ⟨fun f pins s σ H B env ω d ω' I r q => by
  obtain ⟨rfl, rfl⟩ := M.pure_some q
  exact Constant_bool ⟨.bl i, H, B, I, rfl, Mov.refl g B H, r, .bl i⟩⟩
theorem pv_non {j pos} : PV X g (.Constant .none j pos) (eC .non) := ⟨fun f pins s σ H B env ω d ω' I r q => by
  obtain ⟨rfl, rfl⟩ := M.pure_some q
  exact Constant_none ⟨.non, H, B, I, rfl, Mov.refl g B H, r, .non⟩⟩
theorem pv_str {i j pos} : PV X g (.Constant (.str i) j pos) (eC (.str i)) := ⟨fun f pins s σ H B env ω d ω' I r q => by
  obtain ⟨rfl, rfl⟩ := M.pure_some q
  exact Calls.Constant_str ⟨.str i, H, B, I.tok _, ⟨_, rfl⟩, Mov.refl g B H, r, .str i⟩⟩

/-! arguments -/
theorem pas_nil : PAs X g [] [] := ⟨fun f pos pins s σ H B env ω ds ω' I r q => by
  obtain ⟨rfl, rfl⟩ := M.pure_some (show (pure [] : M (List D)) ω = some (ds, ω') from q)
  exact Calls.spliced_nil ⟨[], H, B, I, .nil, Mov.refl g B H, r, .nil⟩⟩
theorem evs_cons {m : DEnv → M D} {ms : List (DEnv → M D)} {env : DEnv} {ω ω' : Om} {ds : List D} (h : evs (m :: ms) env ω = some (ds, ω')) : ∃ d ω1 r, m env ω = some (d, ω1) ∧ evs ms env ω1 = some (r, ω') ∧ ds = d :: r := by
  obtain ⟨d, ω1, h1, h⟩ := M.bind_some (show (m env >>= fun d => evs ms env >>= fun ds => pure (d :: ds)) ω = some (ds, ω') from h)
  obtain ⟨r, ω2, h2, h⟩ := M.bind_some h
  obtain ⟨rfl, rfl⟩ := M.pure_some h
  exact ⟨d, ω1, r, h1, h2, rfl⟩
theorem pas_cons {es : List Expr} {ms : List (DEnv → M D)} (ha : PV X g e m) (hr : PAs X g es ms) (hs : starEach (e :: es) X.env = (false, eval e X.env) :: starEach es X.env := by rfl) : PAs X g (e :: es) (m :: ms) := ⟨fun f pos pins s σ H B env ω ds ω' I r q => by
  obtain ⟨d, ω1, rr, h1, h2, rfl⟩ := evs_cons q
  rw [hs]
  show wpAny _ _ (spliced ((false, eval e X.env) :: backTo pos (starEach es X.env))) _ _ s
  refine Calls.spliced_cons (thn (ha.run f pins s σ H B env ω d ω1 I r h1) fun v s1 ⟨x, H1, B1, I1, r1, m1, rl1, p1⟩ => ?_)
  refine thn (hr.run f pos pins s1 σ H1 B1 env ω1 rr ω' I1 rl1 h2) fun us s2 ⟨xs, H2, B2, I2, r2, m2, rl2, p2⟩ => ?_
  exact ⟨x :: xs, H2, B2, I2, .cons r1 r2, m1.trans m2 r.bas.st rl1.bas.st, rl2, .cons (p1.mono m2.ex) p2⟩⟩

/-! two operands -/
def eBin (op : D → D → M D) (a b : DEnv → M D) : DEnv → M D := fun env => do
  let x ← a env
  let y ← b env
  op x y
theorem eBin_some {op : D → D → M D} {a b : DEnv → M D} {env : DEnv} {ω ω' : Om} {d : D} (h : eBin op a b env ω = some (d, ω')) : ∃ x ω1 y ω2, a env ω = some (x, ω1) ∧ b env ω1 = some (y, ω2) ∧ op x y ω2 = some (d, ω') := by
  obtain ⟨x, ω1, h1, h⟩ := M.bind_some (show (a env >>= fun x => b env >>= fun y => op x y) ω = some (d, ω') from h)
  obtain ⟨y, ω2, h2, h⟩ := M.bind_some h
  exact ⟨x, ω1, y, ω2, h1, h2, h⟩
/-- an operator by values -/
def OpD (X : Cx) (g : Gh) (f : Value → Value → Sem Value) (op : D → D → M D) : Prop :=
  Fits X g → ∀ pins s σ H B env ω x y v u a b d ω', Inv X pins σ H s → Rel g B σ H env ω → Rb g B H x v → Rb g B H y u → RelV v a → RelV u b → op x y ω = some (d, ω') →
    wpAny (model X.prog X.w) X.A (f a b) (OV X g pins σ env B H d ω') X.xe s
def OpFr (X : Cx) (g : Gh) (f : Value → Value → Sem Value) (op : D → D → M D) : Prop :=
  Fits X g → ∀ pins s σ H B env ω x y v u a b d ω', Inv X pins σ H s → Rel g B σ H env ω → Rb g B H x v → Rb g B H y u → RelV v a → RelV u b → op x y ω = some (d, ω') →
    wpAny (model X.prog X.w) X.A (f a b) (OF X g pins σ env B H d ω') X.xe s
theorem OV.after {pins : List (Addr × Obj)} {σ : L2.St} {env : DEnv} {B H B1 H1 : Hp} {d : D} {ω ω1 ω' : Om} {u : Value} {s : Shared} (m : Mov g B H B1 H1) (b0 : Bas g B H ω) (b1 : Bas g B1 H1 ω1) (h : OV X g pins σ env B1 H1 d ω' u s) : OV X g pins σ env B H d ω' u s := by
  obtain ⟨z, H2, B2, I2, r2, m2, rl2, p2⟩ := h
  exact ⟨z, H2, B2, I2, r2, m.trans m2 b0.st b1.st, rl2, p2⟩
theorem New.after {B H B1 H1 B2 H2 : Hp} {d : D} {p : Addr} {ω : Om} (m : Mov g B H B1 H1) (s1 : StOk g H1 ω) (n : New g B1 H1 B2 H2 d p) : New g B H B2 H2 d p := { cell := n.cell, off := n.off, nst := n.nst, nct := n.nct, new := (by
  cases e : H p with
  | none => rfl
  | some o =>
    have h := m.fr p o e n.nst n.nct
    rw [n.new] at h; cases h) }
theorem OF.after {pins : List (Addr × Obj)} {σ : L2.St} {env : DEnv} {B H B1 H1 : Hp} {d : D} {ω ω1 ω' : Om} {u : Value} {s : Shared} (m : Mov g B H B1 H1) (b0 : Bas g B H ω) (b1 : Bas g B1 H1 ω1) (h : OF X g pins σ env B1 H1 d ω' u s) : OF X g pins σ env B H d ω' u s := by
  obtain ⟨z, H2, B2, I2, r2, m2, rl2, p2⟩ := h
  exact ⟨z, H2, B2, I2, r2, m.trans m2 b0.st b1.st, rl2, p2.after m b1.st⟩
theorem OT.after {pins : List (Addr × Obj)} {σ : L2.St} {env : DEnv} {B H B1 H1 : Hp} {d : Bool} {ω ω1 ω' : Om} {u : Bool} {s : Shared} (m : Mov g B H B1 H1) (b0 : Bas g B H ω) (b1 : Bas g B1 H1 ω1) (h : OT X g pins σ env B1 H1 d ω' u s) : OT X g pins σ env B H d ω' u s := by
  obtain ⟨H2, B2, I2, r2, m2, rl2⟩ := h
  exact ⟨H2, B2, I2, r2, m.trans m2 b0.st b1.st, rl2⟩
section
variable {a b : Expr} {ma mb : DEnv → M D} {op : D → D → M D} {pos : Pos}
theorem bin_run (f : Fits X g) (ha : PB X g a ma) (hb : PB X g b mb) {pins : List (Addr × Obj)} {s : Shared} {σ : L2.St} {H B : Hp} {env : DEnv} {ω ω' : Om} {d : D} (I : Inv X pins σ H s) (r : Rel g B σ H env ω) (q : eBin op ma mb env ω = some (d, ω')) {α : Type} {Q : α → Shared → Prop} {F : Value → Value → Sem α}
    (hF : ∀ s2 H2 B2 x y v u p1 p2 ω2, Inv X pins σ H2 s2 → Mov g B H B2 H2 → Rel g B2 σ H2 env ω2 → Rb g B2 H2 x v → Rb g B2 H2 y u → RelV v p1 → RelV u p2 → op x y ω2 = some (d, ω') → wpAny (model X.prog X.w) X.A (F p1 p2) Q X.xe s2) :
    wpAny (model X.prog X.w) X.A (eval a X.env) (fun v s₁ => wpAny (model X.prog X.w) X.A (eval b X.env) (fun u s₂ => wpAny (model X.prog X.w) X.A (F v u) Q X.xe s₂) X.xe s₁) X.xe s := by
  obtain ⟨x, ω1, y, ω2, h1, h2, h3⟩ := eBin_some q
  refine thn (ha.run f pins s σ H B env ω x ω1 I r h1) fun p1 s1 ⟨v, H1, B1, I1, rv, m1, rl1, k1⟩ => ?_
  refine thn (hb.run f pins s1 σ H1 B1 env ω1 y ω2 I1 rl1 h2) fun p2 s2 ⟨u, H2, B2, I2, ru, m2, rl2, k2⟩ => ?_
  exact hF s2 H2 B2 x y v u p1 p2 ω2 I2 (m1.trans m2 r.bas.st rl1.bas.st) rl2 (k1.mov m2) k2 rv ru h3
theorem pv_op {o : Operator} (ho : OpD X g (binaryOp o) op) (ha : PB X g a ma) (hb : PB X g b mb) : PV X g (.BinOp a o b pos) (eBin op ma mb) := ⟨fun f pins s σ H B env ω d ω' I r q =>
  wpAny_BinOp (bin_run f ha hb I r q fun s2 H2 B2 x y v u p1 p2 ω2 I2 mv rl k1 k2 r1 r2 h => thn (ho f pins s2 σ H2 B2 env ω2 x y v u p1 p2 d ω' I2 rl k1 k2 r1 r2 h) fun _ _ z => z.after mv r.bas rl.bas)⟩
theorem pf_op {o : Operator} (ho : OpFr X g (binaryOp o) op) (ha : PB X g a ma) (hb : PB X g b mb) : PF X g (.BinOp a o b pos) (eBin op ma mb) := ⟨fun f pins s σ H B env ω d ω' I r q =>
  wpAny_BinOp (bin_run f ha hb I r q fun s2 H2 B2 x y v u p1 p2 ω2 I2 mv rl k1 k2 r1 r2 h => thn (ho f pins s2 σ H2 B2 env ω2 x y v u p1 p2 d ω' I2 rl k1 k2 r1 r2 h) fun _ _ z => z.after mv r.bas rl.bas)⟩
theorem pv_cmp {o : CmpOp} (ho : OpD X g (compareOp o) op) (ha : PB X g a ma) (hb : PB X g b mb) (hm : behindInMarks o b = false) : PV X g (.Compare a [o] [b] pos) (eBin op ma mb) := ⟨fun f pins s σ H B env ω d ω' I r q =>
  wpAny_Compare1 (bin_run f ha hb I r q fun s2 H2 B2 x y v u p1 p2 ω2 I2 mv rl k1 k2 r1 r2 h => thn (ho f pins s2 σ H2 B2 env ω2 x y v u p1 p2 d ω' I2 rl k1 k2 r1 r2 h) fun _ _ z => z.after mv r.bas rl.bas) hm⟩
/-- a value that is a bool, as a test -/
def asB (m : DEnv → M D) : DEnv → M Bool := fun env => do
  match ← m env with
  | .bl b => pure b
  | _ => M.fail
theorem asB_some {m : DEnv → M D} {env : DEnv} {ω ω' : Om} {b : Bool} (h : asB m env ω = some (b, ω')) : m env ω = some (.bl b, ω') := by
  obtain ⟨x, ω1, h1, h⟩ := M.bind_some (show (m env >>= fun x => (match x with | .bl b => pure b | _ => M.fail : M Bool)) ω = some (b, ω') from h)
  cases x with
  | bl c => obtain ⟨rfl, rfl⟩ := M.pure_some h; exact h1
  | _ => exact (M.fail_some h).elim
theorem pt_cmp {o : CmpOp} (ho : OpD X g (compareOp o) op) (ha : PB X g a ma) (hb : PB X g b mb) (hm : behindInMarks o b = false) : PTt X g (.Compare a [o] [b] pos) (asB (eBin op ma mb)) := ⟨fun f pins s σ H B env ω d ω' I r q => by
  refine wpAny_isTrue_Compare1 (bin_run f ha hb I r (asB_some q) fun s2 H2 B2 x y v u p1 p2 ω2 I2 mv rl k1 k2 r1 r2 h => thn (ho f pins s2 σ H2 B2 env ω2 x y v u p1 p2 _ ω' I2 rl k1 k2 r1 r2 h) fun c s3 z => ?_) hm
  obtain ⟨z, H3, B3, I3, r3, m3, rl3, p3⟩ := z.after mv r.bas rl.bas
  cases p3
  cases r3
  exact wpAny_truthy_bool ⟨H3, B3, I3, rfl, m3, rl3⟩⟩
/-- an expression whose value is a bool, as a test -/
theorem pt_val {e : Expr} {m : DEnv → M D} (h : PV X g e m) (he : ∀ whole, isTrue e X.env whole = (do let v ← whole; standAt e.pos; holding [v] (truthy v)) := by intro _; rfl) : PTt X g e (asB m) := ⟨fun f pins s σ H B env ω d ω' I r q => by
  refine isTrue_plain (thn (h.run f pins s σ H B env ω _ ω' I r (asB_some q)) fun v s1 ⟨x, H1, B1, I1, r1, m1, rl1, p1⟩ => ?_) (he _)
  cases p1
  cases r1
  exact wpAny_truthy_bool ⟨H1, B1, I1, rfl, m1, rl1⟩⟩
/-! and, or, not, a if c else b -/
variable {ta tb : DEnv → M Bool} {rest : List Expr}
def bAnd (t u : DEnv → M Bool) : DEnv → M Bool := fun env => do if ← t env then u env else pure false
def bOr (t u : DEnv → M Bool) : DEnv → M Bool := fun env => do if ← t env then pure true else u env
def bNot (t : DEnv → M Bool) : DEnv → M Bool := fun env => do pure (!(← t env))
theorem pw_and1 (ha : PTt X g a ta) : PWt X g (.BoolOp .And [a] pos) ta := ⟨fun f wh pins s σ H B env ω d ω' I r q => by
  refine isTrue_and (thn (ha.run f pins s σ H B env ω d ω' I r q) fun c s1 e => ?_)
  cases c with
  | true => exact isTrue_and_nil e
  | false => exact e⟩
theorem pw_or1 (ha : PTt X g a ta) : PWt X g (.BoolOp .Or [a] pos) ta := ⟨fun f wh pins s σ H B env ω d ω' I r q => by
  refine isTrue_or (thn (ha.run f pins s σ H B env ω d ω' I r q) fun c s1 e => ?_)
  cases c with
  | false => exact isTrue_or_nil e
  | true => exact e⟩
theorem pw_and (ha : PTt X g a ta) (hb : PWt X g (.BoolOp .And (b :: rest) pos) tb) : PWt X g (.BoolOp .And (a :: b :: rest) pos) (bAnd ta tb) := ⟨fun f wh pins s σ H B env ω d ω' I r q => by
  obtain ⟨c, ω1, h1, h2⟩ := M.bind_some (show (ta env >>= fun c => if c = true then tb env else pure false) ω = some (d, ω') from q)
  refine isTrue_and (thn (ha.run f pins s σ H B env ω c ω1 I r h1) fun c' s1 ⟨H1, B1, I1, e1, m1, rl1⟩ => ?_)
  subst e1
  cases c' with
  | true => exact thn (hb.run f wh pins s1 σ H1 B1 env ω1 d ω' I1 rl1 h2) fun _ _ z => z.after m1 r.bas rl1.bas
  | false => obtain ⟨rfl, rfl⟩ := M.pure_some (show (pure false : M Bool) ω1 = some (d, ω') from h2); exact ⟨H1, B1, I1, rfl, m1, rl1⟩⟩
theorem pw_or (ha : PTt X g a ta) (hb : PWt X g (.BoolOp .Or (b :: rest) pos) tb) : PWt X g (.BoolOp .Or (a :: b :: rest) pos) (bOr ta tb) := ⟨fun f wh pins s σ H B env ω d ω' I r q => by
  obtain ⟨c, ω1, h1, h2⟩ := M.bind_some (show (ta env >>= fun c => if c = true then pure true else tb env) ω = some (d, ω') from q)
  refine isTrue_or (thn (ha.run f pins s σ H B env ω c ω1 I r h1) fun c' s1 ⟨H1, B1, I1, e1, m1, rl1⟩ => ?_)
  subst e1
  cases c' with
  | false => exact thn (hb.run f wh pins s1 σ H1 B1 env ω1 d ω' I1 rl1 h2) fun _ _ z => z.after m1 r.bas rl1.bas
  | true => obtain ⟨rfl, rfl⟩ := M.pure_some (show (pure true : M Bool) ω1 = some (d, ω') from h2); exact ⟨H1, B1, I1, rfl, m1, rl1⟩⟩
theorem pt_not (ha : PTt X g a ta) : PTt X g (.UnaryOp .Not a pos) (bNot ta) := ⟨fun f pins s σ H B env ω d ω' I r q => by
  obtain ⟨c, ω1, h1, h2⟩ := M.bind_some (show (ta env >>= fun c => pure (!c)) ω = some (d, ω') from q)
  obtain ⟨rfl, rfl⟩ := M.pure_some h2
  exact isTrue_not (thn (ha.run f pins s σ H B env ω c ω1 I r h1) fun c' s1 ⟨H1, B1, I1, e1, m1, rl1⟩ => ⟨H1, B1, I1, by rw [e1], m1, rl1⟩)⟩
/-- tests as values -/
def eAnd (t u : DEnv → M D) : DEnv → M D := fun env => do
  match ← t env with
  | .bl true => u env
  | .bl false => pure (.bl false)
  | _ => M.fail
def eOr (t u : DEnv → M D) : DEnv → M D := fun env => do
  match ← t env with
  | .bl true => pure (.bl true)
  | .bl false => u env
  | _ => M.fail
def eNot (t : DEnv → M D) : DEnv → M D := fun env => do
  match ← t env with
  | .bl b => pure (.bl (!b))
  | _ => M.fail
theorem pv_one {op} (h : PV X g a ma) : PV X g (.BoolOp op [a] pos) ma := ⟨fun f pins s σ H B env ω d ω' I r q => BoolOp_one (h.run f pins s σ H B env ω d ω' I r q)⟩
theorem pv_and (ha : PV X g a ma) (hb : PV X g (.BoolOp .And (b :: rest) pos) mb) : PV X g (.BoolOp .And (a :: b :: rest) pos) (eAnd ma mb) := ⟨fun f pins s σ H B env ω d ω' I r q => by
  obtain ⟨c, ω1, h1, h2⟩ := M.bind_some (show (ma env >>= fun c => (match c with | .bl true => mb env | .bl false => pure (.bl false) | _ => M.fail : M D)) ω = some (d, ω') from q)
  refine BoolOp_and (thn (ha.run f pins s σ H B env ω c ω1 I r h1) fun v s1 ⟨x, H1, B1, I1, r1, m1, rl1, p1⟩ => ?_)
  cases p1 with
  | bl c =>
    cases r1
    refine wpAny_truthy_bool ?_
    cases c with
    | true => exact thn (hb.run f pins s1 σ H1 B1 env ω1 d ω' I1 rl1 h2) fun _ _ z => z.after m1 r.bas rl1.bas
    | false => obtain ⟨rfl, rfl⟩ := M.pure_some h2; exact ⟨.bl false, H1, B1, I1, rfl, m1, rl1, .bl false⟩
  | _ => exact (M.fail_some h2).elim⟩
theorem pv_or (ha : PV X g a ma) (hb : PV X g (.BoolOp .Or (b :: rest) pos) mb) : PV X g (.BoolOp .Or (a :: b :: rest) pos) (eOr ma mb) := ⟨fun f pins s σ H B env ω d ω' I r q => by
  obtain ⟨c, ω1, h1, h2⟩ := M.bind_some (show (ma env >>= fun c => (match c with | .bl true => pure (.bl true) | .bl false => mb env | _ => M.fail : M D)) ω = some (d, ω') from q)
  refine BoolOp_or (thn (ha.run f pins s σ H B env ω c ω1 I r h1) fun v s1 ⟨x, H1, B1, I1, r1, m1, rl1, p1⟩ => ?_)
  cases p1 with
  | bl c =>
    cases r1
    refine wpAny_truthy_bool ?_
    cases c with
    | false => exact thn (hb.run f pins s1 σ H1 B1 env ω1 d ω' I1 rl1 h2) fun _ _ z => z.after m1 r.bas rl1.bas
    | true => obtain ⟨rfl, rfl⟩ := M.pure_some h2; exact ⟨.bl true, H1, B1, I1, rfl, m1, rl1, .bl true⟩
  | _ => exact (M.fail_some h2).elim⟩
theorem pv_not (ha : PV X g a ma) : PV X g (.UnaryOp .Not a pos) (eNot ma) := ⟨fun f pins s σ H B env ω d ω' I r q => by
  obtain ⟨c, ω1, h1, h2⟩ := M.bind_some (show (ma env >>= fun c => (match c with | .bl b => pure (.bl (!b)) | _ => M.fail : M D)) ω = some (d, ω') from q)
  refine UnaryOp_ (thn (ha.run f pins s σ H B env ω c ω1 I r h1) fun v s1 ⟨x, H1, B1, I1, r1, m1, rl1, p1⟩ => ?_)
  cases p1 with
  | bl c =>
    cases r1
    obtain ⟨rfl, rfl⟩ := M.pure_some h2
    exact not_of (wpAny_truthy_bool ⟨.bl (!c), H1, B1, I1, rfl, m1, rl1, .bl _⟩)
  | _ => exact (M.fail_some h2).elim⟩
def eIf (t : DEnv → M Bool) (u v : DEnv → M D) : DEnv → M D := fun env => do if ← t env then u env else v env
theorem pv_if {c : Expr} (hc : PTt X g c ta) (ha : PV X g a ma) (hb : PV X g b mb) : PV X g (.IfExp c a b pos) (eIf ta ma mb) := ⟨fun f pins s σ H B env ω d ω' I r q => by
  obtain ⟨c, ω1, h1, h2⟩ := M.bind_some (show (ta env >>= fun c => if c = true then ma env else mb env) ω = some (d, ω') from q)
  refine wpAny_IfExp (thn (hc.run f pins s σ H B env ω c ω1 I r h1) fun c' s1 ⟨H1, B1, I1, e1, m1, rl1⟩ => ?_)
  subst e1
  cases c' with
  | true => exact thn (ha.run f pins s1 σ H1 B1 env ω1 d ω' I1 rl1 h2) fun _ _ z => z.after m1 r.bas rl1.bas
  | false => exact thn (hb.run f pins s1 σ H1 B1 env ω1 d ω' I1 rl1 h2) fun _ _ z => z.after m1 r.bas rl1.bas⟩
end
end
end Pw
set_option Elab.async false
set_option linter.all false
set_option maxRecDepth 100000
/-! My layer, part 4: operators on plain data. -/
namespace Pw
open PySem PySem.Spec PyProof.Rows L2

/-- the longest list that is made -/
def LIM : Nat := 1000000
theorem lim_le {n : Nat} (h : n ≤ LIM) : n ≤ sizeLine := Nat.le_trans h (by decide)
theorem lim_lt {n : Nat} (h : n < LIM) : n < sizeLine := Nat.lt_of_lt_of_le h (by decide)

/-! ### as data of the model -/
theorem sqL_of {K : PySem.W.Frag} {H : Hp} {a : Addr} {xs : List V} (h : H a = some (.lst xs)) : SqL K H a xs := .inl (.inl h)
mutual
theorem Rp.dp {g : Gh} {B H : Hp} (e : Ex B H) : ∀ {d : D} {v : V}, d.plain = true → Rp g B d v → Dp g.K H v d.py
  | _, _, _, .non => .non
  | _, _, _, .bl b => .bl b
  | _, _, _, .int i => .int i
  | _, _, _, .str x => .str x
  | _, _, h, .tup hq r => .tup (e.sqT hq) (Rps.dp e (by simpa [D.plain] using h) r)
  | _, _, h, .lst hq r => .lst (sqL_of (e _ _ hq)) (Rps.dp e (by simpa [D.plain] using h) r)
  | _, _, h, .dicK _ _ => by simp [D.plain] at h
  | _, _, h, .dicN _ _ => by simp [D.plain] at h
  | _, _, h, .tok => by simp [D.plain] at h
theorem Rps.dp {g : Gh} {B H : Hp} (e : Ex B H) : ∀ {ds : List D} {vs : List V}, D.plains ds = true → Rps g B ds vs → DpAll g.K H vs (D.py.pys ds)
  | _, _, _, .nil => .nil
  | _, _, h, .cons r t => by
    simp only [D.plains, Bool.and_eq_true] at h
    exact .cons (Rp.dp e h.1 r) (Rps.dp e h.2 t)
end
theorem Rb.dp {g : Gh} {B H : Hp} {d : D} {v : V} (e : Ex B H) (hp : d.plain = true) (h : Rb g B H d v) : Dp g.K H v d.py := by
  rcases h with h | ⟨p, rfl, c, _⟩
  · exact h.dp e hp
  · cases c with
    | lst h r => exact .lst (sqL_of h) (r.dp e (by simpa [D.plain] using hp))
    | dicK _ _ => simp [D.plain] at hp
    | dicN _ _ => simp [D.plain] at hp
mutual
theorem py_plain : ∀ d : D, d.plain = true → d.py.plain = true
  | .non, _ => rfl
  | .bl _, _ => rfl
  | .int _, _ => rfl
  | .str _, _ => rfl
  | .tup xs, h => by
    simp only [D.py, PyData.plain]
    exact pys_plain xs (by simpa [D.plain] using h)
  | .lst xs, h => by
    simp only [D.py, PyData.plain]
    exact pys_plain xs (by simpa [D.plain] using h)
  | .dic _, h => by simp [D.plain] at h
  | .tok, h => by simp [D.plain] at h
theorem pys_plain : ∀ ds : List D, D.plains ds = true → PyData.plainAll (D.py.pys ds) = true
  | [], _ => rfl
  | d :: ds, h => by
    simp only [D.plains, Bool.and_eq_true] at h
    simp only [D.py.pys, PyData.plainAll, py_plain d h.1, pys_plain ds h.2, Bool.and_self]
end
mutual
theorem py_depth : ∀ d : D, d.py.depth ≤ d.depth
  | .non => Nat.zero_le _
  | .bl _ => Nat.zero_le _
  | .int _ => Nat.zero_le _
  | .str _ => Nat.zero_le _
  | .tup xs => by
    simp only [D.py, PyData.depth, D.depth]
    exact Nat.succ_le_succ (pys_depth xs)
  | .lst xs => by
    simp only [D.py, PyData.depth, D.depth]
    exact Nat.succ_le_succ (pys_depth xs)
  | .dic _ => Nat.zero_le _
  | .tok => Nat.zero_le _
theorem pys_depth : ∀ ds : List D, PyData.depthAll (D.py.pys ds) ≤ D.depths ds
  | [] => Nat.zero_le _
  | d :: ds => by
    have h1 := py_depth d
    have h2 := pys_depth ds
    simp only [D.py.pys, PyData.depthAll, D.depths]
    omega
end
mutual
theorem py_eqv : ∀ d e : D, d.plain = true → e.plain = true → PyData.eqv d.py e.py = D.deq d e
  | .non, e, _, h => by cases e <;> simp_all [D.py, PyData.eqv, D.deq, D.plain]
  | .bl _, e, _, h => by cases e <;> simp_all [D.py, PyData.eqv, D.deq, D.plain]
  | .int _, e, _, h => by cases e <;> simp_all [D.py, PyData.eqv, D.deq, D.plain]
  | .str _, e, _, h => by cases e <;> simp_all [D.py, PyData.eqv, D.deq, D.plain]
  | .tup xs, e, hd, h => by
    cases e with
    | tup ys =>
      simp only [D.py, PyData.eqv, D.deq]
      exact pys_eqv xs ys (by simpa [D.plain] using hd) (by simpa [D.plain] using h)
    | _ => simp_all [D.py, PyData.eqv, D.deq, D.plain]
  | .lst xs, e, hd, h => by
    cases e with
    | lst ys =>
      simp only [D.py, PyData.eqv, D.deq]
      exact pys_eqv xs ys (by simpa [D.plain] using hd) (by simpa [D.plain] using h)
    | _ => simp_all [D.py, PyData.eqv, D.deq, D.plain]
  | .dic _, _, h, _ => by simp [D.plain] at h
  | .tok, _, h, _ => by simp [D.plain] at h
theorem pys_eqv : ∀ ds es : List D, D.plains ds = true → D.plains es = true → PyData.eqvAll (D.py.pys ds) (D.py.pys es) = D.deqs ds es
  | [], [], _, _ => rfl
  | [], _ :: _, _, _ => rfl
  | _ :: _, [], _, _ => rfl
  | d :: ds, e :: es, h, k => by
    simp only [D.plains, Bool.and_eq_true] at h k
    simp only [D.py.pys, PyData.eqvAll, D.deqs, py_eqv d e h.1 k.1, pys_eqv ds es h.2 k.2]
end

/-! ### operators -/
section
variable {X : Cx} {g : Gh}
/-- what a value's rule of the hand layer gives -/
def Qv (g : Gh) (σ : L2.St) (env : DEnv) (B H : Hp) (d : D) (ω' : Om) : VK := fun z H' => ∃ B', Mov g B H B' H' ∧ Rel g B' σ H' env ω' ∧ Rp g B' d z
theorem OpD.of {f : Value → Value → Sem Value} {r : R2} {op : D → D → M D} (ho : OpR X f r)
    (h : Fits X g → ∀ (B H : Hp) (σ : L2.St) (env : DEnv) (ω : Om) (x y d : D) (v u : V) (ω' : Om), Rel g B σ H env ω → Rb g B H x v → Rb g B H y u → op x y ω = some (d, ω') → r v u H (Qv g σ env B H d ω')) : OpD X g f op := by
  intro ft pins s σ H B env ω x y v u a b d ω' I rl hx hy ra rb q
  refine thn (ho pins s σ H v u a b _ I ra rb (h ft B H σ env ω x y d v u ω' rl hx hy q)) fun w' s' ⟨z, H', I', rz, B', m, rl', p⟩ => ?_
  exact ⟨z, H', B', I', rz, m, rl', p⟩
/-- nothing new was made -/
theorem Qv.same {σ : L2.St} {env : DEnv} {B H : Hp} {d : D} {ω : Om} {z : V} (r : Rel g B σ H env ω) (p : Rp g B d z) : Qv g σ env B H d ω z H := ⟨B, Mov.refl g B H, r, p⟩
/-- a new tuple -/
theorem Qv.tup {σ : L2.St} {env : DEnv} {B H : Hp} {ds : List D} {xs : List V} {ω : Om} {p : Addr} (r : Rel g B σ H env ω) (hs : Rps g B ds xs) (hp : H p = none) : Qv g σ env B H (.tup ds) ω (.ref p) (upd H p (.tup xs)) :=
  ⟨upd B p (.tup xs), Mov.frz r.bas hp, r.frz hp, .tup (SqT.of upd_same) (hs.mono (Ex.new (r.bas.off hp)))⟩

/-- two ints -/
def oI (c : Int → Int → Bool) (f : Int → Int → D) : D → D → M D
  | .int i, .int j => if c i j = true then pure (f i j) else M.fail
  | _, _ => M.fail
theorem oI_some {c : Int → Int → Bool} {f : Int → Int → D} {x y d : D} {ω ω' : Om} (h : oI c f x y ω = some (d, ω')) : ∃ i j, x = .int i ∧ y = .int j ∧ c i j = true ∧ d = f i j ∧ ω' = ω := by
  cases x with
  | int i =>
    cases y with
    | int j =>
      have h : (if c i j = true then pure (f i j) else M.fail : M D) ω = some (d, ω') := h
      by_cases hc : c i j = true
      · rw [if_pos hc] at h
        obtain ⟨rfl, rfl⟩ := M.pure_some h
        exact ⟨i, j, rfl, rfl, hc, rfl, rfl⟩
      · rw [if_neg hc] at h
        exact (M.fail_some (ω := ω) h).elim
    | _ => exact (M.fail_some (ω := ω) h).elim
  | _ => exact (M.fail_some (ω := ω) h).elim
theorem opI_ok {f : Value → Value → Sem Value} {C : Int → Int → Prop} {c : Int → Int → Bool} {k : Int → Int → Int} (ho : OpR X f (rI C fun i j => .int (k i j))) (hc : ∀ i j, c i j = true → C i j) : OpD X g f (oI c fun i j => .int (k i j)) :=
  OpD.of ho fun _ B H σ env ω x y d v u ω' rl hx hy q => by
    obtain ⟨i, j, rfl, rfl, hcc, rfl, rfl⟩ := oI_some q
    exact ⟨i, j, hx.int, hy.int, hc i j hcc, Qv.same rl (.int _)⟩
theorem opI0_ok {f : Value → Value → Sem Value} {k : Int → Int → Int} (ho : OpR X f (rI0 fun i j => .int (k i j))) : OpD X g f (oI (fun _ _ => true) fun i j => .int (k i j)) :=
  OpD.of ho fun _ B H σ env ω x y d v u ω' rl hx hy q => by
    obtain ⟨i, j, rfl, rfl, hcc, rfl, rfl⟩ := oI_some q
    exact ⟨i, j, hx.int, hy.int, Qv.same rl (.int _)⟩
theorem opB0_ok {f : Value → Value → Sem Value} {k : Int → Int → Bool} (ho : OpR X f (rI0 fun i j => .bl (k i j))) : OpD X g f (oI (fun _ _ => true) fun i j => .bl (k i j)) :=
  OpD.of ho fun _ B H σ env ω x y d v u ω' rl hx hy q => by
    obtain ⟨i, j, rfl, rfl, hcc, rfl, rfl⟩ := oI_some q
    exact ⟨i, j, hx.int, hy.int, Qv.same rl (.bl _)⟩
def aSub : D → D → M D := oI (fun _ _ => true) fun i j => .int (i - j)
def aMul : D → D → M D := oI (fun i j => decide ((-(2 ^ 64) < i ∧ i < 2 ^ 64) ∨ (-(2 ^ 64) < j ∧ j < 2 ^ 64))) fun i j => .int (i * j)
def aDiv : D → D → M D := oI (fun i j => decide (0 < j ∧ j < 1073741824)) fun i j => .int (i / j)
def aMod : D → D → M D := oI (fun i j => decide (0 < j)) fun i j => .int (i % j)
def aPow : D → D → M D := oI (fun i j => decide (0 ≤ j ∧ j ≤ 1000000 ∧ i.natAbs < 2 ^ 64)) fun i j => .int (i ^ j.toNat)
def aShl : D → D → M D := oI (fun i j => decide (0 ≤ j ∧ j ≤ 1000000 ∧ i.natAbs < 2 ^ 64)) fun i j => .int (i * 2 ^ j.toNat)
def aShr : D → D → M D := oI (fun i j => decide (0 ≤ j)) fun i j => .int (i / 2 ^ j.toNat)
def aAnd : D → D → M D := oI (fun _ _ => true) fun i j => .int (Builtin.bitAnd i j)
def aOr : D → D → M D := oI (fun _ _ => true) fun i j => .int (Builtin.bitOr i j)
def aXor : D → D → M D := oI (fun _ _ => true) fun i j => .int (Builtin.bitXor i j)
def aLt : D → D → M D := oI (fun _ _ => true) fun i j => .bl (decide (i < j))
def aLe : D → D → M D := oI (fun _ _ => true) fun i j => .bl (decide (i ≤ j))
def aGt : D → D → M D := oI (fun _ _ => true) fun i j => .bl (decide (j < i))
def aGe : D → D → M D := oI (fun _ _ => true) fun i j => .bl (decide (j ≤ i))
theorem d_sub : OpD X g (binaryOp .Sub) aSub := opI0_ok op_sub
theorem d_mul : OpD X g (binaryOp .Mult) aMul := opI_ok op_mul fun i j h => by
  have h' : (-(2 ^ 64) < i ∧ i < 2 ^ 64) ∨ (-(2 ^ 64) < j ∧ j < 2 ^ 64) := of_decide_eq_true h
  exact h'
theorem d_div : OpD X g (binaryOp .FloorDiv) aDiv := opI_ok op_fdiv fun i j h => by
  have h' : 0 < j ∧ j < 1073741824 := of_decide_eq_true h
  exact h'
theorem d_mod : OpD X g (binaryOp .Mod) aMod := opI_ok (C := fun _ j => 0 < j) op_mod fun i j h => by
  have h' : 0 < j := of_decide_eq_true h
  exact h'
theorem d_pow : OpD X g (binaryOp .Pow) aPow := opI_ok op_pow fun i j h => by
  have h' : 0 ≤ j ∧ j ≤ 1000000 ∧ i.natAbs < 2 ^ 64 := of_decide_eq_true h
  exact h'
theorem d_shl : OpD X g (binaryOp .LShift) aShl := opI_ok op_shl fun i j h => by
  have h' : 0 ≤ j ∧ j ≤ 1000000 ∧ i.natAbs < 2 ^ 64 := of_decide_eq_true h
  exact h'
theorem d_shr : OpD X g (binaryOp .RShift) aShr := opI_ok (C := fun _ j => 0 ≤ j) op_shr fun i j h => by
  have h' : 0 ≤ j := of_decide_eq_true h
  exact h'
theorem d_and : OpD X g (binaryOp .BitAnd) aAnd := opI0_ok op_and
theorem d_or : OpD X g (binaryOp .BitOr) aOr := opI0_ok op_or
theorem d_xor : OpD X g (binaryOp .BitXor) aXor := opI0_ok op_xor
theorem d_lt : OpD X g (compareOp .Lt) aLt := opB0_ok op_lt
theorem d_le : OpD X g (compareOp .LtE) aLe := opB0_ok op_le
theorem d_gt : OpD X g (compareOp .Gt) aGt := opB0_ok op_gt
theorem d_ge : OpD X g (compareOp .GtE) aGe := opB0_ok op_ge
/-- a + b: ints, tuples, texts -/
def aAdd : D → D → M D
  | .int i, .int j => pure (.int (i + j))
  | .tup xs, .tup ys => if xs.length + ys.length ≤ LIM then pure (.tup (xs ++ ys)) else M.fail
  | .str x, .str y => if x.length + y.length ≤ LIM then pure (.str (x ++ y)) else M.fail
  | _, _ => M.fail
theorem if_some {c : Prop} [Decidable c] {α : Type} {a : α} {d : α} {ω ω' : Om} (h : (if c then pure a else M.fail : M α) ω = some (d, ω')) : c ∧ d = a ∧ ω' = ω := by
  by_cases hc : c
  · rw [if_pos hc] at h
    obtain ⟨rfl, rfl⟩ := M.pure_some h
    exact ⟨hc, rfl, rfl⟩
  · rw [if_neg hc] at h
    exact (M.fail_some (ω := ω) h).elim
theorem d_add : OpD X g (binaryOp .Add) aAdd := OpD.of (OpR.or (OpR.or op_add op_catA) op_add_str) fun ft B H σ env ω x y d v u ω' rl hx hy q => by
  cases x with
  | int i =>
    cases y with
    | int j =>
      obtain ⟨rfl, rfl⟩ := M.pure_some q
      exact .inl (.inl ⟨i, j, hx.int, hy.int, Qv.same rl (.int _)⟩)
    | _ => exact (M.fail_some (ω := ω) q).elim
  | tup xs =>
    cases y with
    | tup ys =>
      obtain ⟨hz, rfl, rfl⟩ := if_some q
      obtain ⟨a, vs, rfl, ha, ra⟩ := hx.tup rl.bas.ex
      obtain ⟨b, us, rfl, hb, rb⟩ := hy.tup rl.bas.ex
      refine .inl (.inr ⟨a, b, vs, us, rfl, rfl, ft.K ▸ ha, ft.K ▸ hb, ?_, fun e => ?_, fun _ e => ?_, fun _ _ p hp => Qv.tup rl (ra.append rb) hp⟩)
      · rw [← ra.length, ← rb.length]; exact lim_le hz
      · subst e
        cases ra
        refine Qv.same rl ?_
        rcases hy with k | ⟨p, _, c, _⟩
        · exact k
        · cases c
      · subst e
        cases rb
        rw [List.append_nil]
        refine Qv.same rl ?_
        rcases hx with k | ⟨p, _, c, _⟩
        · exact k
        · cases c
    | _ => exact (M.fail_some (ω := ω) q).elim
  | str a =>
    cases y with
    | str b =>
      obtain ⟨hz, rfl, rfl⟩ := if_some q
      exact .inr ⟨a, b, hx.str, hy.str, lim_le hz, Qv.same rl (.str _)⟩
    | _ => exact (M.fail_some (ω := ω) q).elim
  | _ => exact (M.fail_some (ω := ω) q).elim
/-- a == b, a != b, of plain data -/
def aEq : D → D → M D := fun x y => if (x.plain && y.plain && decide (x.depth ≤ 60)) = true then pure (.bl (D.deq x y)) else M.fail
def aNe : D → D → M D := fun x y => if (x.plain && y.plain && decide (x.depth ≤ 60)) = true then pure (.bl (!D.deq x y)) else M.fail
theorem d_eq : OpD X g (compareOp .Eq) aEq := by
  intro ft pins s σ H B env ω x y v u a b d ω' I rl hx hy ra rb q
  obtain ⟨hc, rfl, rfl⟩ := if_some q
  simp only [Bool.and_eq_true, decide_eq_true_eq] at hc
  obtain ⟨as, r1⟩ := Dp.reads I _ v a (ft.K ▸ hx.dp rl.bas.ex hc.1.1) ra
  obtain ⟨bs, r2⟩ := Dp.reads I _ u b (ft.K ▸ hy.dp rl.bas.ex hc.1.2) rb
  have hd := py_depth x
  have h64 := ft.h64
  refine PySem.SeqAt.eq_plain r1 r2 (py_plain x hc.1.1) (py_plain y hc.1.2) (Nat.lt_of_le_of_lt (Nat.add_le_add_left (Nat.le_trans (Nat.min_le_left _ _) (by omega : x.py.depth ≤ 64)) _) h64) ?_
  rw [py_eqv x y hc.1.1 hc.1.2]
  exact ⟨.bl _, H, B, I, rfl, Mov.refl g B H, rl, .bl _⟩
theorem d_ne : OpD X g (compareOp .NotEq) aNe := by
  intro ft pins s σ H B env ω x y v u a b d ω' I rl hx hy ra rb q
  obtain ⟨hc, rfl, rfl⟩ := if_some q
  simp only [Bool.and_eq_true, decide_eq_true_eq] at hc
  obtain ⟨as, r1⟩ := Dp.reads I _ v a (ft.K ▸ hx.dp rl.bas.ex hc.1.1) ra
  obtain ⟨bs, r2⟩ := Dp.reads I _ u b (ft.K ▸ hy.dp rl.bas.ex hc.1.2) rb
  have hd := py_depth x
  have h64 := ft.h64
  refine PySem.SeqAt.ne_plain r1 r2 (py_plain x hc.1.1) (py_plain y hc.1.2) (Nat.lt_of_le_of_lt (Nat.add_le_add_left (Nat.le_trans (Nat.min_le_left _ _) (by omega : x.py.depth ≤ 64)) _) h64) ?_
  rw [py_eqv x y hc.1.1 hc.1.2]
  exact ⟨.bl _, H, B, I, rfl, Mov.refl g B H, rl, .bl _⟩
/-- x in t, t a list or a tuple of plain data -/
def dmem (x : D) (ys : List D) : Bool := ys.any fun y => D.deq y x
def inOk (x : D) (ys : List D) : Bool := x.plain && D.plains ys && decide (x.depth ≤ 60)
def aIn : D → D → M D
  | x, .lst ys => if inOk x ys = true then pure (.bl (dmem x ys)) else M.fail
  | x, .tup ys => if inOk x ys = true then pure (.bl (dmem x ys)) else M.fail
  | _, _ => M.fail
def aNotIn : D → D → M D
  | x, .lst ys => if inOk x ys = true then pure (.bl (!dmem x ys)) else M.fail
  | x, .tup ys => if inOk x ys = true then pure (.bl (!dmem x ys)) else M.fail
  | _, _ => M.fail
theorem any_py : ∀ (ys : List D) (x : D), D.plains ys = true → x.plain = true → ((D.py.pys ys).any fun z => PyData.eqv z x.py) = dmem x ys
  | [], _, _, _ => rfl
  | y :: ys, x, h, k => by
    simp only [D.plains, Bool.and_eq_true] at h
    have ih := any_py ys x h.2 k
    simp only [D.py.pys, List.any_cons, dmem, py_eqv y x h.1 k]
    rw [ih]
    rfl
theorem in_hyp {x : D} {ys : List D} (h : inOk x ys = true) : x.plain = true ∧ D.plains ys = true ∧ x.depth ≤ 60 := by
  simp only [inOk, Bool.and_eq_true, decide_eq_true_eq] at h
  exact ⟨h.1.1, h.1.2, h.2⟩
theorem in_room {X : Cx} {g : Gh} (ft : Fits X g) {x : D} {ys : List D} (h : x.depth ≤ 60) : X.A.units + 1 + min (PyData.depthAll (D.py.pys ys)) x.py.depth < cLine := by
  have hd := py_depth x
  have h64 := ft.h64
  have := Nat.min_le_right (PyData.depthAll (D.py.pys ys)) x.py.depth
  omega
theorem d_in : OpD X g (compareOp .In) aIn := by
  intro ft pins s σ H B env ω x y v u a b d ω' I rl hx hy ra rb q
  cases y with
  | lst ys =>
    obtain ⟨hc, rfl, rfl⟩ := if_some q
    obtain ⟨h1, h2, h3⟩ := in_hyp hc
    obtain ⟨as, r1⟩ := Dp.reads I _ v a (ft.K ▸ hx.dp rl.bas.ex h1) ra
    obtain ⟨bs, r2⟩ := Dp.reads I _ u b (ft.K ▸ hy.dp rl.bas.ex (by simpa [D.plain] using h2)) rb
    refine PySem.SeqAt.in_list_data (by simpa [D.py] using r2) r1 (pys_plain ys h2) (py_plain x h1) (in_room ft h3) ?_
    rw [any_py ys x h2 h1]
    exact ⟨.bl _, H, B, I, rfl, Mov.refl g B H, rl, .bl _⟩
  | tup ys =>
    obtain ⟨hc, rfl, rfl⟩ := if_some q
    obtain ⟨h1, h2, h3⟩ := in_hyp hc
    obtain ⟨as, r1⟩ := Dp.reads I _ v a (ft.K ▸ hx.dp rl.bas.ex h1) ra
    obtain ⟨bs, r2⟩ := Dp.reads I _ u b (ft.K ▸ hy.dp rl.bas.ex (by simpa [D.plain] using h2)) rb
    refine PySem.SeqAt.in_tuple_data (by simpa [D.py] using r2) r1 (pys_plain ys h2) (py_plain x h1) (in_room ft h3) ?_
    rw [any_py ys x h2 h1]
    exact ⟨.bl _, H, B, I, rfl, Mov.refl g B H, rl, .bl _⟩
  | _ => exact (M.fail_some (show (M.fail : M D) ω = some (d, ω') by cases x <;> exact q)).elim
theorem d_notIn : OpD X g (compareOp .NotIn) aNotIn := by
  intro ft pins s σ H B env ω x y v u a b d ω' I rl hx hy ra rb q
  cases y with
  | lst ys =>
    obtain ⟨hc, rfl, rfl⟩ := if_some q
    obtain ⟨h1, h2, h3⟩ := in_hyp hc
    obtain ⟨as, r1⟩ := Dp.reads I _ v a (ft.K ▸ hx.dp rl.bas.ex h1) ra
    obtain ⟨bs, r2⟩ := Dp.reads I _ u b (ft.K ▸ hy.dp rl.bas.ex (by simpa [D.plain] using h2)) rb
    refine PySem.SeqAt.notIn_list_data (by simpa [D.py] using r2) r1 (pys_plain ys h2) (py_plain x h1) (in_room ft h3) ?_
    rw [any_py ys x h2 h1]
    exact ⟨.bl _, H, B, I, rfl, Mov.refl g B H, rl, .bl _⟩
  | tup ys =>
    obtain ⟨hc, rfl, rfl⟩ := if_some q
    obtain ⟨h1, h2, h3⟩ := in_hyp hc
    obtain ⟨as, r1⟩ := Dp.reads I _ v a (ft.K ▸ hx.dp rl.bas.ex h1) ra
    obtain ⟨bs, r2⟩ := Dp.reads I _ u b (ft.K ▸ hy.dp rl.bas.ex (by simpa [D.plain] using h2)) rb
    refine PySem.SeqAt.notIn_tuple_data (by simpa [D.py] using r2) r1 (pys_plain ys h2) (py_plain x h1) (in_room ft h3) ?_
    rw [any_py ys x h2 h1]
    exact ⟨.bl _, H, B, I, rfl, Mov.refl g B H, rl, .bl _⟩
  | _ => exact (M.fail_some (show (M.fail : M D) ω = some (d, ω') by cases x <;> exact q)).elim
/-- x is None, x is not None -/
def isNon : D → Bool
  | .non => true
  | _ => false
def aIs : D → D → M D
  | x, .non => pure (.bl (isNon x))
  | _, _ => M.fail
def aIsNot : D → D → M D
  | x, .non => pure (.bl (!isNon x))
  | _, _ => M.fail
theorem isNon_v {B H : Hp} {x : D} {v : V} (h : Rb g B H x v) : decide (v = .non) = isNon x := by
  rcases h with h | ⟨p, rfl, c, _⟩
  · cases h <;> rfl
  · cases c <;> rfl
theorem d_is : OpD X g (compareOp .Is) aIs := OpD.of op_isN fun ft B H σ env ω x y d v u ω' rl hx hy q => by
  cases y with
  | non =>
    obtain ⟨rfl, rfl⟩ := M.pure_some (show (pure (.bl (isNon x)) : M D) ω = some (d, ω') by cases x <;> exact q)
    exact ⟨hy.non, by rw [isNon_v hx]; exact Qv.same rl (.bl _)⟩
  | _ => exact (M.fail_some (show (M.fail : M D) ω = some (d, ω') by cases x <;> exact q)).elim
theorem d_isNot : OpD X g (compareOp .IsNot) aIsNot := OpD.of op_notN fun ft B H σ env ω x y d v u ω' rl hx hy q => by
  cases y with
  | non =>
    obtain ⟨rfl, rfl⟩ := M.pure_some (show (pure (.bl (!isNon x)) : M D) ω = some (d, ω') by cases x <;> exact q)
    exact ⟨hy.non, by rw [isNon_v hx]; exact Qv.same rl (.bl _)⟩
  | _ => exact (M.fail_some (show (M.fail : M D) ω = some (d, ω') by cases x <;> exact q)).elim
end
end Pw
set_option Elab.async false
set_option linter.all false
set_option maxRecDepth 100000
/-! My layer, part 5: dicts. -/
namespace Pw
open PySem PySem.Spec PyProof.Rows L2

/-- the same key -/
def keq (a b : D) : Bool := match a.keyT, b.keyT with
  | some x, some y => decide (x = y)
  | _, _ => false
def dget (kvs : List (D × D)) (k : D) : Option D := (kvs.find? fun p => keq p.1 k).map (·.2)
def dput (kvs : List (D × D)) (k v : D) : List (D × D) := if (dget kvs k).isSome then kvs.map (fun p => if keq p.1 k then (p.1, v) else p) else kvs ++ [(k, v)]
def ddel (kvs : List (D × D)) (k : D) : List (D × D) := kvs.filter fun p => !keq p.1 k
/-- a key that stands alone: an int or a text; or a tuple -/
def keyA : D → Option Key
  | .int i => some (.inl i)
  | .str x => some (.inr x)
  | _ => none
theorem keyA_kD (k : Key) : keyA (kD k) = some k := by cases k <;> rfl
theorem keyA_eq {d : D} {k : Key} (h : keyA d = some k) : d = kD k := by
  cases d with
  | int i => cases h; rfl
  | str x => cases h; rfl
  | _ => cases h
theorem keq_kD (a b : Key) : keq (kD a) (kD b) = decide (a = b) := by
  have e1 : ∀ i j : Int, decide (NestedKey.num i = NestedKey.num j) = decide ((Sum.inl i : Key) = Sum.inl j) := fun i j => decide_eq_decide.mpr ⟨fun h => (by cases h; rfl), fun h => (by cases h; rfl)⟩
  have e2 : ∀ i j : Str, decide (NestedKey.text i = NestedKey.text j) = decide ((Sum.inr i : Key) = Sum.inr j) := fun i j => decide_eq_decide.mpr ⟨fun h => (by cases h; rfl), fun h => (by cases h; rfl)⟩
  have e3 : ∀ (i : Int) (j : Str), decide (NestedKey.num i = NestedKey.text j) = decide ((Sum.inl i : Key) = Sum.inr j) := fun i j => decide_eq_decide.mpr ⟨fun h => (by cases h), fun h => (by cases h)⟩
  have e4 : ∀ (i : Str) (j : Int), decide (NestedKey.text i = NestedKey.num j) = decide ((Sum.inr i : Key) = Sum.inl j) := fun i j => decide_eq_decide.mpr ⟨fun h => (by cases h), fun h => (by cases h)⟩
  cases a <;> cases b
  · exact e1 _ _
  · exact e3 _ _
  · exact e4 _ _
  · exact e2 _ _
theorem keq_of {a b : D} {x y : NestedKey} (ha : a.keyT = some x) (hb : b.keyT = some y) : keq a b = decide (x = y) := by
  unfold keq
  rw [ha, hb]
mutual
theorem keyT_depth : ∀ (d : D) (n : NestedKey), d.keyT = some n → n.depth ≤ d.depth
  | .non, n, h => by cases h; exact Nat.le_refl _
  | .bl _, n, h => by cases h
  | .int _, n, h => by cases h; exact Nat.le_refl _
  | .str _, n, h => by cases h; exact Nat.le_refl _
  | .tup ds, n, h => by
    simp only [D.keyT, Option.map_eq_some_iff] at h
    obtain ⟨ks, h, rfl⟩ := h
    exact Nat.succ_le_succ (keyTs_depth ds ks h)
  | .lst _, n, h => by cases h
  | .dic _, n, h => by cases h
  | .tok, n, h => by cases h
theorem keyTs_depth : ∀ (ds : List D) (ns : List NestedKey), D.keyTs ds = some ns → NestedKey.depthAll ns ≤ D.depths ds
  | [], ns, h => by cases h; exact Nat.le_refl _
  | d :: ds, ns, h => by
    simp only [D.keyTs] at h
    cases h1 : d.keyT with
    | none => rw [h1] at h; cases h
    | some k =>
      cases h2 : D.keyTs ds with
      | none => rw [h1, h2] at h; cases h
      | some ks =>
        rw [h1, h2] at h
        cases h
        have q1 := keyT_depth d k h1
        have q2 := keyTs_depth ds ks h2
        simp only [NestedKey.depthAll, D.depths]
        omega
end
section
variable {X : Cx} {g : Gh} {pins : List (Addr × Obj)} {σ : L2.St} {H B : Hp} {s : Shared}
mutual
/-- a key of the base as the model's key -/
theorem Rp.nested (ft : Fits X g) (I : Inv X pins σ H s) (e : Ex B H) : ∀ (d : D) (n : NestedKey) (v : V) (u : Value), d.keyT = some n → Rp g B d v → RelV v u → NestedIs s.heap n u
  | .non, n, v, u, h, r, q => by cases h; cases r; cases q; exact .none
  | .bl _, n, v, u, h, _, _ => by cases h
  | .int i, n, v, u, h, r, q => by
    cases h; cases r
    obtain ⟨t, rfl⟩ := q
    exact .int i t
  | .str x, n, v, u, h, r, q => by
    cases h; cases r
    obtain ⟨t, rfl⟩ := q
    exact .text x t
  | .tup ds, n, v, u, h, r, q => by
    simp only [D.keyT, Option.map_eq_some_iff] at h
    obtain ⟨ks, h, rfl⟩ := h
    cases r with
    | tup hs r =>
      cases q
      obtain ⟨its, rv, ⟨o, ho, hc, m, hd⟩, _⟩ := I.tuple (ft.K ▸ e.sqT hs)
      exact .tup ho hc hd (Rps.nested ft I e ds ks _ _ h r rv)
  | .lst _, n, v, u, h, _, _ => by cases h
  | .dic _, n, v, u, h, _, _ => by cases h
  | .tok, n, v, u, h, _, _ => by cases h
theorem Rps.nested (ft : Fits X g) (I : Inv X pins σ H s) (e : Ex B H) : ∀ (ds : List D) (ns : List NestedKey) (vs : List V) (us : List Value), D.keyTs ds = some ns → Rps g B ds vs → Vals vs us → NestedAll s.heap ns us
  | [], ns, vs, us, h, r, q => by cases h; cases r; cases q; exact .nil
  | d :: ds, ns, vs, us, h, r, q => by
    simp only [D.keyTs] at h
    cases h1 : d.keyT with
    | none => rw [h1] at h; cases h
    | some k =>
      cases h2 : D.keyTs ds with
      | none => rw [h1, h2] at h; cases h
      | some ks =>
        rw [h1, h2] at h
        cases h
        cases r with
        | cons r1 r2 =>
          cases q with
          | cons q1 q2 => exact .cons (Rp.nested ft I e d k _ _ h1 r1 q1) (Rps.nested ft I e ds ks _ _ h2 r2 q2)
end
end
/-- a key that is a tuple -/
def keyB (d : D) : Option NestedKey := match d with
  | .tup _ => if d.depth ≤ 8 then d.keyT else none
  | _ => none
theorem keyB_eq {d : D} {n : NestedKey} (h : keyB d = some n) : (∃ ds, d = .tup ds) ∧ d.depth ≤ 8 ∧ d.keyT = some n := by
  unfold keyB at h
  cases d with
  | tup ds =>
    by_cases hd : (D.tup ds).depth ≤ 8
    · simp only [if_pos hd] at h
      exact ⟨⟨ds, rfl⟩, hd, h⟩
    · simp only [if_neg hd] at h
      cases h
  | _ => cases h
/-! ### looking up -/
section
variable {g : Gh} {B : Hp}
theorem RpK.get : ∀ {kvs : List (D × D)} {kk : List (Key × V)}, RpK g B kvs kk → ∀ k : Key, (∀ d, dget kvs (kD k) = some d → ∃ v, valV kk k = some v ∧ Rp g B d v) ∧ (dget kvs (kD k) = none → valV kk k = none)
  | _, _, .nil, k => ⟨fun _ h => (by cases h), fun _ => rfl⟩
  | _, _, .cons (k := j) (d := d) (v := v) (kvs := kvs) (es := es) r t, k => by
    have ih := RpK.get t k
    by_cases e : j = k
    · subst e
      have h1 : dget ((kD j, d) :: kvs) (kD j) = some d := by
        unfold dget
        rw [List.find?_cons_of_pos (by show keq (kD j) (kD j) = true; rw [keq_kD]; simp)]
        rfl
      have h2 : valV ((j, v) :: es) j = some v := valV_pos rfl
      rw [h1, h2]
      exact ⟨fun d' h => (by cases h; exact ⟨v, rfl, r⟩), fun h => (by cases h)⟩
    · have h1 : dget ((kD j, d) :: kvs) (kD k) = dget kvs (kD k) := by
        unfold dget
        rw [List.find?_cons_of_neg (by show ¬ keq (kD j) (kD k) = true; rw [keq_kD]; simp [e])]
      have h2 : valV ((j, v) :: es) k = valV es k := valV_neg e
      rw [h1, h2]
      exact ih
/-- tuples' keys: what the heap's list tells -/
abbrev PN : List (NestedKey × Addr × V) → List (NestedKey × Addr × Value) → Prop := Paired fun p q => p.1 = q.1 ∧ p.2.1 = q.2.1 ∧ RelV p.2.2 q.2.2
theorem RpN.get : ∀ {kvs : List (D × D)} {xs : List (NestedKey × Addr × V)} {ws : List (NestedKey × Addr × Value)}, RpN g B kvs xs → PN xs ws → ∀ {k : D} {n : NestedKey}, k.keyT = some n →
    (∀ d, dget kvs k = some d → ∃ v p, atKey ws n = some p ∧ RelV v p.2 ∧ Rp g B d v) ∧ (dget kvs k = none → atKey ws n = none)
  | _, _, _, .nil, .nil, k, n, _ => ⟨fun _ h => (by cases h), fun _ => rfl⟩
  | _, _, _, .cons (k := j) (d := d) (n := m) (v := v) (kvs := kvs) hj _ _ r t, .cons (l₂ := ws) (b := q) hq tq, k, n, hk => by
    have ih := RpN.get t tq hk
    obtain ⟨e1, e2, e3⟩ := hq
    obtain ⟨q1, q2, q3⟩ := q
    have e1' : m = q1 := e1
    subst e1'
    have hkq := keq_of hj hk
    by_cases e : m = n
    · subst e
      have h1 : dget ((j, d) :: kvs) k = some d := by
        unfold dget
        rw [List.find?_cons_of_pos (by show keq j k = true; rw [hkq]; simp)]
        rfl
      have h2 : atKey ((m, q2, q3) :: ws) m = some (q2, q3) := by simp [atKey, List.find?_cons]
      rw [h1, h2]
      exact ⟨fun d' h => (by cases h; exact ⟨v, _, rfl, e3, r⟩), fun h => (by cases h)⟩
    · have h1 : dget ((j, d) :: kvs) k = dget kvs k := by
        unfold dget
        rw [List.find?_cons_of_neg (by show ¬ keq j k = true; rw [hkq]; simp [e])]
      have h2 : atKey ((m, q2, q3) :: ws) n = atKey ws n := by simp [atKey, List.find?_cons, e]
      rw [h1, h2]
      exact ih
theorem RpN.mem : ∀ {kvs : List (D × D)} {xs : List (NestedKey × Addr × V)} {ws : List (NestedKey × Addr × Value)}, RpN g B kvs xs → PN xs ws → ∀ x ∈ ws, ∃ k : D, k.keyT = some x.1 ∧ k.depth ≤ 8 ∧ Rp g B k (.ref x.2.1)
  | _, _, _, .nil, .nil, x, h => by cases h
  | _, _, _, .cons hj hd hr _ t, .cons (l₂ := ws) (b := q) hq tq, x, h => by
    rcases List.mem_cons.mp h with rfl | h
    · obtain ⟨e1, e2, _⟩ := hq
      exact ⟨_, by rw [← e1]; exact hj, hd, by rw [← e2]; exact hr⟩
    · exact RpN.mem t tq x h
end
-- what stands at a dict's address
section
variable {X : Cx} {g : Gh} {pins : List (Addr × Obj)} {σ : L2.St} {H B : Hp} {s : Shared} {a : Addr}
theorem dN_at {P : Program} {w : World} (I : Inv X pins σ H s) {xs : List (NestedKey × Addr × V)} (h : Rd H a (dN P w a xs)) : xs.length ≤ sizeLine ∧ (a == sysModules) = false ∧ ∃ ws, PN xs ws ∧ ∃ o es ep, s.heap.get? a = some o ∧ o.ExactDict ∧ o.data = .dict es ep ∧ es.toList = ws.map (entryOfKey (nestedKind P w)) ∧ (ws.map (·.1)).Nodup :=
  (show ObjOk X.prog X.w H s.heap a (dN P w a xs) from h.ok I.hok).1
/-- as the kit tells it -/
theorem dN_dict (ft : Fits X g) (I : Inv X pins σ H s) (e : Ex B H) {kvs : List (D × D)} {xs : List (NestedKey × Addr × V)} (r : RpN g B kvs xs) (h : Rd H a (dN g.P g.w a xs)) :
    xs.length ≤ sizeLine ∧ (a == sysModules) = false ∧ ∃ ws, PN xs ws ∧ s.heap.DictOfH (nestedKind X.prog X.w) a ws := by
  obtain ⟨z, hd, ws, p, o, es, ep, ho, h1, h2, h3, h4⟩ := dN_at I h
  rw [ft.P, ft.w] at h3
  refine ⟨z, hd, ws, p, o, es, ep, ho, h1, h2, h3, fun x hx => ?_, h4⟩
  obtain ⟨k, hk, hdp, hr⟩ := r.mem p x hx
  exact ⟨Rp.nested ft I e k x.1 _ _ hk hr rfl, Nat.le_trans (keyT_depth k _ hk) hdp⟩
theorem room8 (ft : Fits X g) : X.A.in1.units + 8 < cLine := by
  have h := ft.h64
  show X.A.units + 1 + 8 < cLine
  omega
theorem keyN (ft : Fits X g) (I : Inv X pins σ H s) (e : Ex B H) {k : D} {n : NestedKey} {v : V} {u : Value} (hk : keyB k = some n) (r : Rb g B H k v) (q : RelV v u) : ∃ b, u = .ref b ∧ v = .ref b ∧ (nestedKind X.prog X.w).is s.heap n b ∧ Rp g B k (.ref b) := by
  obtain ⟨⟨ds, rfl⟩, h8, hk⟩ := keyB_eq hk
  have rp : Rp g B (.tup ds) v := by
    rcases r with r | ⟨p, _, c, _⟩
    · exact r
    · cases c
  have rp' := rp
  cases rp' with
  | tup h1 h2 =>
    cases q
    exact ⟨_, rfl, rfl, ⟨Rp.nested ft I e _ _ _ _ hk rp rfl, Nat.le_trans (keyT_depth _ _ hk) h8⟩, rp⟩
theorem keyV {k : D} {kk : Key} {v : V} (hk : keyA k = some kk) (r : Rb g B H k v) : v = kV kk := by
  have e := keyA_eq hk
  subst e
  cases kk with
  | inl i => exact Rb.int r
  | inr x => exact Rb.str r
/-- the key may stand in the dict: an int or a text among such, a tuple among tuples -/
def keyOk (kvs : List (D × D)) (k : D) : Bool := ((keyA k).isSome || (keyB k).isSome) && (match kvs with
  | [] => true
  | p :: _ => (keyA p.1).isSome == (keyA k).isSome)
/-- a dict of ints and texts, a dict of tuples, as the kit tells them -/
structure ViewK (X : Cx) (g : Gh) (B : Hp) (h : Heap) (a : Addr) (kvs : List (D × D)) (kk : List (Key × V)) (vs : List (Key × Value)) : Prop where
  rp : RpK g B kvs kk
  kv : KV kk vs
  dict : h.DictOf (mixKind X.prog X.w) a vs
  nsys : (a == sysModules) = false
  z : kk.length ≤ sizeLine
structure ViewN (X : Cx) (g : Gh) (B : Hp) (h : Heap) (a : Addr) (kvs : List (D × D)) (xs : List (NestedKey × Addr × V)) (ws : List (NestedKey × Addr × Value)) : Prop where
  rp : RpN g B kvs xs
  pn : PN xs ws
  dict : h.DictOfH (nestedKind X.prog X.w) a ws
  nsys : (a == sysModules) = false
  z : xs.length ≤ sizeLine
theorem KV.nil_of {vs : List (Key × Value)} (h : KV [] vs) : vs = [] := by cases h; rfl
theorem keyA_B {k : D} {n : NestedKey} (h : keyB k = some n) : keyA k = none := by
  obtain ⟨⟨ds, rfl⟩, _⟩ := keyB_eq h
  rfl
theorem keyA_tup {g : Gh} {B : Hp} {k : D} {b : Addr} {n : NestedKey} (h : k.keyT = some n) (r : Rp g B k (.ref b)) : keyA k = none := by
  cases r with
  | tup _ _ => rfl
  | lst _ _ => rfl
  | dicK _ _ => rfl
  | dicN _ _ => rfl
  | tok => rfl
theorem dic_view (ft : Fits X g) (I : Inv X pins σ H s) (e : Ex B H) {kvs : List (D × D)} {k : D} (hd : DicAt g B H a kvs) (ok : keyOk kvs k = true) :
    (∃ key kk vs, keyA k = some key ∧ ViewK X g B s.heap a kvs kk vs) ∨ ∃ n xs ws, keyB k = some n ∧ ViewN X g B s.heap a kvs xs ws := by
  unfold keyOk at ok
  rw [Bool.and_eq_true] at ok
  obtain ⟨o1, o2⟩ := ok
  rcases hd with ⟨kk, ha, r⟩ | ⟨xs, ha, r⟩
  · obtain ⟨z, hs, vs, rel, dd⟩ := dk_rd I.hok ha
    cases hk : keyA k with
    | some key => exact .inl ⟨key, kk, vs, rfl, r, rel, dd, hs, z⟩
    | none =>
      rw [hk] at o1 o2
      cases hn : keyB k with
      | none => rw [hn] at o1; cases o1
      | some n =>
        cases r with
        | nil =>
          have hv := KV.nil_of rel
          subst hv
          obtain ⟨o, es, ep, ho, hc, hdt, hn', hp, hr⟩ := dd
          have hes : es.toList = [] := by
            have := hp.length
            simpa using this
          exact .inr ⟨n, [], [], rfl, .nil, .nil, ⟨o, es, ep, ho, hc, hdt, by rw [hes]; rfl, fun x hx => (by cases hx), List.nodup_nil⟩, hs, Nat.zero_le _⟩
        | cons _ _ =>
          have o3 : ((keyA (kD _)).isSome == (none : Option Key).isSome) = true := o2
          rw [keyA_kD] at o3
          cases o3
  · obtain ⟨z, hs, ws, p, dd⟩ := dN_dict ft I e r ha
    cases hn : keyB k with
    | some n => exact .inr ⟨n, xs, ws, rfl, r, p, dd, hs, z⟩
    | none =>
      rw [hn] at o1
      cases hk : keyA k with
      | none => rw [hk] at o1; cases o1
      | some key =>
        rw [hk] at o2
        cases r with
        | nil =>
          cases p
          obtain ⟨o, es, ep, ho, hc, hdt, hes, _⟩ := dd
          have hes' : es = #[] := by
            have : es.toList = [] := by rw [hes]; rfl
            exact Array.toList_eq_nil_iff.mp this
          subst hes'
          exact .inl ⟨key, [], [], rfl, .nil, .nil, ⟨o, #[], ep, ho, hc, hdt, fun _ he => absurd he (by simp), .nil, List.nodup_nil⟩, hs, Nat.zero_le _⟩
        | cons h1 _ h3 _ _ =>
          have o3 : ((keyA _).isSome == (some key).isSome) = true := o2
          rw [keyA_tup h1 h3] at o3
          cases o3

theorem ViewK.look {h : Heap} {kvs : List (D × D)} {kk : List (Key × V)} {vs : List (Key × Value)} (w : ViewK X g B h a kvs kk vs) (key : Key) :
    (∀ d, dget kvs (kD key) = some d → ∃ z r, valueAt vs key = some r ∧ RelV z r ∧ Rp g B d z) ∧ (dget kvs (kD key) = none → valueAt vs key = none) := by
  have h1 := w.rp.get key
  have h2 := w.kv.val key
  refine ⟨fun d hd => ?_, fun hd => ?_⟩
  · obtain ⟨z, hz, rp⟩ := h1.1 d hd
    rw [hz] at h2
    obtain ⟨r, hr, rv⟩ := RelO.some_of h2
    exact ⟨z, r, hr, rv, rp⟩
  · rw [h1.2 hd] at h2
    exact h2.none_of
/-- d[k] -/
theorem dict_get (ft : Fits X g) (I : Inv X pins σ H s) (e : Ex B H) {kvs : List (D × D)} {k d : D} {v : V} {u : Value} (hd : DicAt g B H a kvs) (hk : Rb g B H k v) (ru : RelV v u) (ok : keyOk kvs k = true) (hg : dget kvs k = some d) {Q : Value → Shared → Prop} {E : Value → Shared → Prop}
    (h : ∀ z w' s', Inv X pins σ H s' → RelV z w' → Rp g B d z → Q w' s') : wpAny (model X.prog X.w) X.A (getItem (.ref a) u) Q E s := by
  rcases dic_view ft I e hd ok with ⟨key, kk, vs, hkey, w⟩ | ⟨n, xs, ws, hn, w⟩
  · have ev := keyV hkey hk
    have ek := keyA_eq hkey
    subst ev ek
    obtain ⟨z, r, hr, rv, rp⟩ := (w.look key).1 d hg
    exact wpAny_getItem_of (kV_is ru) w.dict.mapOf hr (h z r _ (I.tok _) rv rp)
  · obtain ⟨b, rfl, rfl, his, _⟩ := keyN ft I e hn hk ru
    obtain ⟨z, q, hq, rv, rp⟩ := (w.rp.get w.pn (keyB_eq hn).2.2).1 d hg
    exact wpAny_getItem_heap (room8 ft) his w.dict hq (h z _ _ (I.tok _) rv rp)
/-- k in d -/
theorem dict_in (ft : Fits X g) (I : Inv X pins σ H s) (e : Ex B H) {kvs : List (D × D)} {k : D} {v : V} {u : Value} (hd : DicAt g B H a kvs) (hk : Rb g B H k v) (ru : RelV v u) (ok : keyOk kvs k = true) {Q : Value → Shared → Prop} {E : Value → Shared → Prop}
    (h : ∀ s', Inv X pins σ H s' → Q (.bool (dget kvs k).isSome) s') : wpAny (model X.prog X.w) X.A (compareOp .In u (.ref a)) Q E s := by
  rcases dic_view ft I e hd ok with ⟨key, kk, vs, hkey, w⟩ | ⟨n, xs, ws, hn, w⟩
  · have ev := keyV hkey hk
    have ek := keyA_eq hkey
    subst ev ek
    refine wpAny_in_of (kV_is ru) w.nsys w.dict.mapOf ?_
    have hl := w.look key
    cases hg : dget kvs (kD key) with
    | none => rw [hl.2 hg]; rw [hg] at h; exact h _ (I.tok _)
    | some d =>
      obtain ⟨z, r, hr, _⟩ := hl.1 d hg
      rw [hr]; rw [hg] at h; exact h _ (I.tok _)
  · obtain ⟨b, rfl, rfl, his, _⟩ := keyN ft I e hn hk ru
    refine wpAny_in_heap (room8 ft) his w.nsys w.dict ?_
    have hl := w.rp.get w.pn (keyB_eq hn).2.2
    cases hg : dget kvs k with
    | none => rw [hl.2 hg]; rw [hg] at h; exact h _ (I.tok _)
    | some d =>
      obtain ⟨z, r, hr, _⟩ := hl.1 d hg
      rw [hr]; rw [hg] at h; exact h _ (I.tok _)
theorem dict_notIn (ft : Fits X g) (I : Inv X pins σ H s) (e : Ex B H) {kvs : List (D × D)} {k : D} {v : V} {u : Value} (hd : DicAt g B H a kvs) (hk : Rb g B H k v) (ru : RelV v u) (ok : keyOk kvs k = true) {Q : Value → Shared → Prop} {E : Value → Shared → Prop}
    (h : ∀ s', Inv X pins σ H s' → Q (.bool (!(dget kvs k).isSome)) s') : wpAny (model X.prog X.w) X.A (compareOp .NotIn u (.ref a)) Q E s := by
  rcases dic_view ft I e hd ok with ⟨key, kk, vs, hkey, w⟩ | ⟨n, xs, ws, hn, w⟩
  · have ev := keyV hkey hk
    have ek := keyA_eq hkey
    subst ev ek
    refine wpAny_notIn_of (kV_is ru) w.nsys w.dict.mapOf ?_
    have hl := w.look key
    cases hg : dget kvs (kD key) with
    | none => rw [hl.2 hg]; rw [hg] at h; exact h _ (I.tok _)
    | some d =>
      obtain ⟨z, r, hr, _⟩ := hl.1 d hg
      rw [hr]; rw [hg] at h; exact h _ (I.tok _)
  · obtain ⟨b, rfl, rfl, his, _⟩ := keyN ft I e hn hk ru
    refine wpAny_notIn_heap (room8 ft) his w.nsys w.dict ?_
    have hl := w.rp.get w.pn (keyB_eq hn).2.2
    cases hg : dget kvs k with
    | none => rw [hl.2 hg]; rw [hg] at h; exact h _ (I.tok _)
    | some d =>
      obtain ⟨z, r, hr, _⟩ := hl.1 d hg
      rw [hr]; rw [hg] at h; exact h _ (I.tok _)
/-! storing -/
theorem RpK.append : ∀ {ds : List (D × D)} {vs : List (Key × V)} {es : List (D × D)} {us : List (Key × V)}, RpK g B ds vs → RpK g B es us → RpK g B (ds ++ es) (vs ++ us)
  | _, _, _, _, .nil, k => k
  | _, _, _, _, .cons r t, k => .cons r (RpK.append t k)
theorem RpN.append : ∀ {ds : List (D × D)} {vs : List (NestedKey × Addr × V)} {es : List (D × D)} {us : List (NestedKey × Addr × V)}, RpN g B ds vs → RpN g B es us → RpN g B (ds ++ es) (vs ++ us)
  | _, _, _, _, .nil, k => k
  | _, _, _, _, .cons a b c d t, k => .cons a b c d (RpN.append t k)
theorem RpK.repl {key : Key} {d : D} {z : V} (rz : Rp g B d z) : ∀ {ds : List (D × D)} {vs : List (Key × V)}, RpK g B ds vs →
    RpK g B (ds.map fun p => if keq p.1 (kD key) then (p.1, d) else p) (vs.map fun kv => if kv.1 = key then (kv.1, z) else kv)
  | _, _, .nil => .nil
  | _, _, .cons (k := j) r t => by
    have ih := RpK.repl (key := key) rz t
    simp only [List.map_cons, keq_kD]
    by_cases e : j = key
    · subst e
      simp only [decide_true, if_true]
      exact .cons rz ih
    · simp only [e, decide_false, if_false, Bool.false_eq_true]
      exact .cons r ih
theorem RpK.put {key : Key} {d : D} {z : V} (rz : Rp g B d z) {ds : List (D × D)} {vs : List (Key × V)} (r : RpK g B ds vs) : RpK g B (dput ds (kD key) d) (putK vs key z) := by
  unfold dput putK
  have h := r.get key
  have e : (vs.any fun kv => decide (kv.1 = key)) = (dget ds (kD key)).isSome := by
    rw [valV_any]
    cases hg : dget ds (kD key) with
    | none => rw [h.2 hg] <;> rfl
    | some x => obtain ⟨v, hv, _⟩ := h.1 x hg; rw [hv] <;> rfl
  rw [e]
  by_cases c : (dget ds (kD key)).isSome = true
  · rw [if_pos c, if_pos c]
    exact r.repl rz
  · rw [if_neg c, if_neg c]
    exact r.append (.cons rz .nil)
def putN (xs : List (NestedKey × Addr × V)) (n : NestedKey) (b : Addr) (z : V) (c : Bool) : List (NestedKey × Addr × V) :=
  if c then xs.map (fun x => if x.1 = n then (x.1, x.2.1, z) else x) else xs ++ [(n, b, z)]
theorem RpN.repl {k : D} {n : NestedKey} (hk : k.keyT = some n) {d : D} {z : V} (rz : Rp g B d z) : ∀ {ds : List (D × D)} {vs : List (NestedKey × Addr × V)}, RpN g B ds vs →
    RpN g B (ds.map fun p => if keq p.1 k then (p.1, d) else p) (vs.map fun x => if x.1 = n then (x.1, x.2.1, z) else x)
  | _, _, .nil => .nil
  | _, _, .cons (k := j) (n := m) h1 h2 h3 r t => by
    have ih := RpN.repl hk rz t
    simp only [List.map_cons, keq_of h1 hk]
    by_cases e : m = n
    · subst e
      simp only [decide_true, if_true]
      exact .cons h1 h2 h3 rz ih
    · simp only [e, decide_false, if_false, Bool.false_eq_true]
      exact .cons h1 h2 h3 r ih
theorem PN.repl {n : NestedKey} {z : V} {r : Value} (rz : RelV z r) : ∀ {xs : List (NestedKey × Addr × V)} {ws : List (NestedKey × Addr × Value)}, PN xs ws →
    PN (xs.map fun x => if x.1 = n then (x.1, x.2.1, z) else x) (ws.map (putAt n r))
  | _, _, .nil => .nil
  | _, _, .cons (a := x) (b := q) h t => by
    have ih := PN.repl (n := n) rz t
    obtain ⟨e1, e2, e3⟩ := h
    simp only [List.map_cons]
    refine .cons ?_ ih
    unfold putAt
    by_cases e : x.1 = n
    · rw [if_pos e, if_pos (e1 ▸ e)]
      exact ⟨e1, e2, rz⟩
    · rw [if_neg e, if_neg (e1 ▸ e)]
      exact ⟨e1, e2, e3⟩
theorem PN.append {xs ys : List (NestedKey × Addr × V)} {ws us : List (NestedKey × Addr × Value)} (p : PN xs ws) (q : PN ys us) : PN (xs ++ ys) (ws ++ us) := by
  induction p with
  | nil => exact q
  | cons h _ ih => exact .cons h ih
theorem PN.length {xs : List (NestedKey × Addr × V)} {ws : List (NestedKey × Addr × Value)} (p : PN xs ws) : xs.length = ws.length := Paired.length p
theorem dput_len (kvs : List (D × D)) (k v : D) : (dput kvs k v).length ≤ kvs.length + 1 := by
  unfold dput
  split
  · simp
  · simp
/-- d[k] = x -/
theorem dict_set (ft : Fits X g) (I : Inv X pins σ H s) (e : Ex B H) {kvs : List (D × D)} {k d : D} {v z : V} {u r : Value} (hd : Cell g B H (.dic kvs) a) (hk : Rb g B H k v) (ru : RelV v u) (ok : keyOk kvs k = true) (rz : Rp g B d z) (rr : RelV z r) (hl : kvs.length < LIM) {Q : Unit → Shared → Prop} {E : Value → Shared → Prop}
    (h : ∀ o s', Inv X pins σ (upd H a o) s' → Cell g B (upd H a o) (.dic (dput kvs k d)) a → Q () s') : wpAny (model X.prog X.w) X.A (setItem (.ref a) u r) Q E s := by
  have mu : Mut (H a) := by
    cases hd with
    | dicK ha _ => rw [ha]; exact True.intro
    | dicN ha _ => rw [ha]; exact True.intro
  have hd : DicAt g B H a kvs := by
    cases hd with
    | dicK ha r => exact .inl ⟨_, .inl ha, r⟩
    | dicN ha r => exact .inr ⟨_, .inl ha, r⟩
  rcases dic_view ft I e hd ok with ⟨key, kk, vs, hkey, w⟩ | ⟨n, xs, ws, hn, w⟩
  · have ev := keyV hkey hk
    have ek := keyA_eq hkey
    subst ev ek
    have hz : vs.length ≤ sizeLine := by rw [← w.kv.length]; exact w.z
    have hl' : (putK kk key z).length ≤ sizeLine := by
      have h1 := length_putK kk key z
      have h2 := w.rp.length
      have h3 : kvs.length + 1 ≤ LIM := hl
      have h4 := lim_le h3
      omega
    refine wpAny_setItem_pairs (hsz := hz) (kV_is ru) w.dict fun h' dd' hs => h (.dK (putK kk key z)) _ ?_ ?_
    · have he : ∃ q, h'.get? a = some q := let ⟨q, _, _, hq, _⟩ := dd'; ⟨q, hq⟩
      exact d_write I mu hs he (dk_new hl' w.nsys (w.kv.put key rr) dd')
    · exact .dicK upd_same (w.rp.put rz)
  · obtain ⟨b, rfl, rfl, his, rpk⟩ := keyN ft I e hn hk ru
    have hkt := (keyB_eq hn).2.2
    have h8 := (keyB_eq hn).2.1
    have hz : ws.length ≤ sizeLine := by rw [← w.pn.length]; exact w.z
    have hget := w.rp.get w.pn hkt
    have hcs : (atKey ws n).isSome = (dget kvs k).isSome := by
      cases hg : dget kvs k with
      | none => rw [hget.2 hg] <;> rfl
      | some x => obtain ⟨_, _, hp, _⟩ := hget.1 x hg; rw [hp] <;> rfl
    have pn' : PN (putN xs n b z (dget kvs k).isSome) (storedH ws n b r) := by
      unfold putN storedH
      rw [hcs]
      by_cases c : (dget kvs k).isSome = true
      · rw [if_pos c, if_pos c]; exact PN.repl rr w.pn
      · rw [if_neg c, if_neg c]; exact w.pn.append (.cons ⟨rfl, rfl, rr⟩ .nil)
    have rn' : RpN g B (dput kvs k d) (putN xs n b z (dget kvs k).isSome) := by
      unfold putN dput
      by_cases c : (dget kvs k).isSome = true
      · rw [if_pos c, if_pos c]; exact w.rp.repl hkt rz
      · rw [if_neg c, if_neg c]; exact w.rp.append (.cons hkt h8 rpk rz .nil)
    have hl' : (putN xs n b z (dget kvs k).isSome).length ≤ sizeLine := by
      have h1 := dput_len kvs k d
      have h2 := rn'.length
      have h3 : kvs.length + 1 ≤ LIM := hl
      have h4 := lim_le h3
      omega
    refine wpAny_setItem_heap (hsz := hz) (room8 ft) his w.dict fun h' dd' hs => h (dN g.P g.w a (putN xs n b z (dget kvs k).isSome)) _ ?_ ?_
    · obtain ⟨q, es, ep, hq, h2, h3, h4, _, h5⟩ := dd'
      refine d_write I mu hs ⟨q, hq⟩ ⟨⟨hl', w.nsys, _, pn', q, es, ep, hq, h2, h3, by rw [ft.P, ft.w]; exact h4, h5⟩, ⟨q, hq⟩, fun g1 g2 hf hk => ?_⟩
      obtain ⟨f1, f2, ws2, f3, o2, es2, ep2, f4, f5⟩ := hf
      exact ⟨f1, f2, ws2, f3, o2, es2, ep2, hk _ f4, f5⟩
    · exact .dicN upd_same rn'
end
end Pw
set_option Elab.async false
set_option linter.all false
set_option maxRecDepth 100000
/-! My layer, part 6: in (dicts too), chains, subscripts, slices, displays, built-in calls. -/
namespace Pw
open PySem PySem.Spec PyProof.Rows L2
section
variable {X : Cx} {g : Gh}
/-! ### in, not in -/
def oIn : D → D → M D
  | x, .dic kvs => if keyOk kvs x = true then pure (.bl (dget kvs x).isSome) else M.fail
  | x, y => aIn x y
def oNotIn : D → D → M D
  | x, .dic kvs => if keyOk kvs x = true then pure (.bl (!(dget kvs x).isSome)) else M.fail
  | x, y => aNotIn x y
theorem o_in : OpD X g (compareOp .In) oIn := by
  intro ft pins s σ H B env ω x y v u a b d ω' I rl hx hy ra rb q
  cases y with
  | dic kvs =>
    have q : (if keyOk kvs x = true then pure (.bl (dget kvs x).isSome) else M.fail : M D) ω = some (d, ω') := by cases x <;> exact q
    obtain ⟨ok, rfl, rfl⟩ := if_some q
    obtain ⟨p, rfl, hd⟩ := hy.dic rl.bas.ex
    cases rb
    exact dict_in ft I rl.bas.ex hd hx ra ok fun s' I' => ⟨.bl _, H, B, I', rfl, Mov.refl g B H, rl, .bl _⟩
  | _ => exact d_in ft pins s σ H B env ω x _ v u a b d ω' I rl hx hy ra rb (by cases x <;> exact q)
theorem o_notIn : OpD X g (compareOp .NotIn) oNotIn := by
  intro ft pins s σ H B env ω x y v u a b d ω' I rl hx hy ra rb q
  cases y with
  | dic kvs =>
    have q : (if keyOk kvs x = true then pure (.bl (!(dget kvs x).isSome)) else M.fail : M D) ω = some (d, ω') := by cases x <;> exact q
    obtain ⟨ok, rfl, rfl⟩ := if_some q
    obtain ⟨p, rfl, hd⟩ := hy.dic rl.bas.ex
    cases rb
    exact dict_notIn ft I rl.bas.ex hd hx ra ok fun s' I' => ⟨.bl _, H, B, I', rfl, Mov.refl g B H, rl, .bl _⟩
  | _ => exact d_notIn ft pins s σ H B env ω x _ v u a b d ω' I rl hx hy ra rb (by cases x <;> exact q)
/-! ### chains a < b < c -/
def eChain (op op' : D → D → M D) (a b c : DEnv → M D) : DEnv → M D := fun env => do
  let x ← a env
  let y ← b env
  match ← op x y with
  | .bl true => do
    let z ← c env
    op' y z
  | .bl false => pure (.bl false)
  | _ => M.fail
theorem eChain_some {op op' : D → D → M D} {a b c : DEnv → M D} {env : DEnv} {ω ω' : Om} {d : D} (h : eChain op op' a b c env ω = some (d, ω')) :
    ∃ x ω1 y ω2 t ω3, a env ω = some (x, ω1) ∧ b env ω1 = some (y, ω2) ∧ op x y ω2 = some (.bl t, ω3) ∧ ((t = true ∧ ∃ z ω4, c env ω3 = some (z, ω4) ∧ op' y z ω4 = some (d, ω')) ∨ (t = false ∧ d = .bl false ∧ ω' = ω3)) := by
  obtain ⟨x, ω1, h1, h⟩ := M.bind_some h
  obtain ⟨y, ω2, h2, h⟩ := M.bind_some h
  obtain ⟨t, ω3, h3, h⟩ := M.bind_some h
  cases t with
  | bl t =>
    cases t with
    | true =>
      obtain ⟨z, ω4, h4, h⟩ := M.bind_some h
      exact ⟨x, ω1, y, ω2, true, ω3, h1, h2, h3, .inl ⟨rfl, z, ω4, h4, h⟩⟩
    | false =>
      obtain ⟨e1, e2⟩ := M.pure_some h
      exact ⟨x, ω1, y, ω2, false, ω3, h1, h2, h3, .inr ⟨rfl, e1.symm, e2.symm⟩⟩
  | _ => exact (M.fail_some h).elim
section
variable {a b c : Expr} {ma mb mc : DEnv → M D} {op op' : D → D → M D} {o o' : CmpOp} {pos : Pos}
theorem pv_chain (ho : OpD X g (compareOp o) op) (ho' : OpD X g (compareOp o') op') (ha : PB X g a ma) (hb : PB X g b mb) (hc : PB X g c mc) (hm : lastMarks [o, o'] [b, c] = false := by with_unfolding_all rfl) :
    PV X g (.Compare a [o, o'] [b, c] pos) (eChain op op' ma mb mc) := ⟨fun f pins s σ H B env ω d ω' I r q => by
  obtain ⟨x, ω1, y, ω2, t, ω3, h1, h2, h3, h4⟩ := eChain_some q
  refine Compare_chain (thn (ha.run f pins s σ H B env ω x ω1 I r h1) fun p1 s1 ⟨v, H1, B1, I1, rv, m1, rl1, k1⟩ => chain_link (thn (hb.run f pins s1 σ H1 B1 env ω1 y ω2 I1 rl1 h2) fun p2 s2 ⟨u, H2, B2, I2, ru, m2, rl2, k2⟩ =>
    thn (ho f pins s2 σ H2 B2 env ω2 x y v u p1 p2 _ ω3 I2 rl2 (k1.mov m2) k2 rv ru h3) fun p3 s3 ⟨z, H3, B3, I3, rz, m3, rl3, k3⟩ => ?_)) hm
  cases k3
  cases rz
  have m13 : Mov g B H B3 H3 := (m1.trans m2 r.bas.st rl1.bas.st).trans m3 r.bas.st rl2.bas.st
  refine wpAny_truthy_bool ?_
  rcases h4 with ⟨rfl, z, ω4, h4, h5⟩ | ⟨rfl, rfl, rfl⟩
  · exact ite_tt (chain_last (thn (hc.run f pins s3 σ H3 B3 env ω3 z ω4 I3 rl3 h4) fun p4 s4 ⟨z', H4, B4, I4, r4, m4, rl4, k4⟩ =>
      thn (ho' f pins s4 σ H4 B4 env ω4 y z u z' p2 p4 d ω' I4 rl4 ((k2.mov m3).mov m4) k4 ru r4 h5) fun _ _ w => w.after (m13.trans m4 r.bas.st rl3.bas.st) r.bas rl4.bas))
  · exact ite_ff ⟨.bl false, H3, B3, I3, rfl, m13, rl3, .bl false⟩⟩
theorem pt_chain (ho : OpD X g (compareOp o) op) (ho' : OpD X g (compareOp o') op') (ha : PB X g a ma) (hb : PB X g b mb) (hc : PB X g c mc) (hm : lastMarks [o, o'] [b, c] = false := by with_unfolding_all rfl) :
    PTt X g (.Compare a [o, o'] [b, c] pos) (asB (eChain op op' ma mb mc)) := ⟨fun f pins s σ H B env ω d ω' I r q => by
  obtain ⟨x, ω1, y, ω2, t, ω3, h1, h2, h3, h4⟩ := eChain_some (asB_some q)
  refine isTrue_chain (thn (ha.run f pins s σ H B env ω x ω1 I r h1) fun p1 s1 ⟨v, H1, B1, I1, rv, m1, rl1, k1⟩ => test_link (thn (hb.run f pins s1 σ H1 B1 env ω1 y ω2 I1 rl1 h2) fun p2 s2 ⟨u, H2, B2, I2, ru, m2, rl2, k2⟩ =>
    thn (ho f pins s2 σ H2 B2 env ω2 x y v u p1 p2 _ ω3 I2 rl2 (k1.mov m2) k2 rv ru h3) fun p3 s3 ⟨z, H3, B3, I3, rz, m3, rl3, k3⟩ => ?_)) hm
  cases k3
  cases rz
  have m13 : Mov g B H B3 H3 := (m1.trans m2 r.bas.st rl1.bas.st).trans m3 r.bas.st rl2.bas.st
  refine wpAny_truthy_bool ?_
  rcases h4 with ⟨rfl, z, ω4, h4, h5⟩ | ⟨rfl, hd, rfl⟩
  · refine ite_tt (test_last (thn (hc.run f pins s3 σ H3 B3 env ω3 z ω4 I3 rl3 h4) fun p4 s4 ⟨z', H4, B4, I4, r4, m4, rl4, k4⟩ =>
      thn (ho' f pins s4 σ H4 B4 env ω4 y z u z' p2 p4 _ ω' I4 rl4 ((k2.mov m3).mov m4) k4 ru r4 h5) fun p5 s5 w => ?_))
    obtain ⟨z5, H5, B5, I5, r5, m5, rl5, k5⟩ := w.after (m13.trans m4 r.bas.st rl3.bas.st) r.bas rl4.bas
    cases k5
    cases r5
    exact wpAny_truthy_bool ⟨H5, B5, I5, rfl, m5, rl5⟩
  · cases hd
    exact ite_ff ⟨H3, B3, I3, rfl, m13, rl3⟩⟩
/-! ### one operand -/
def eUn (f : Int → Int) (a : DEnv → M D) : DEnv → M D := fun env => do
  match ← a env with
  | .int i => pure (.int (f i))
  | _ => M.fail
theorem pv_un {uo : UnaryOp} {k : Int → Int} (ho : UnR X (unaryOp uo) (rU fun i => .int (k i))) (ha : PV X g a ma) : PV X g (.UnaryOp uo a pos) (eUn k ma) := ⟨fun f pins s σ H B env ω d ω' I r q => by
  obtain ⟨x, ω1, h1, h2⟩ := M.bind_some q
  refine UnaryOp_ (thn (ha.run f pins s σ H B env ω x ω1 I r h1) fun p1 s1 ⟨v, H1, B1, I1, rv, m1, rl1, k1⟩ => ?_)
  cases k1 with
  | int i =>
    obtain ⟨rfl, rfl⟩ := M.pure_some h2
    exact thn (ho pins s1 σ H1 (.int i) p1 (fun z H' => z = .int (k i) ∧ H' = H1) I1 rv ⟨i, rfl, rfl, rfl⟩) fun w s2 ⟨z, H2, I2, rz, e1, e2⟩ => by
      subst e1 e2
      exact ⟨_, _, B1, I2, rz, m1, rl1, .int _⟩
  | _ => exact (M.fail_some h2).elim⟩
/-! ### subscripts -/
def oIx : D → D → M D
  | .lst ds, .int i => match atI ds i with
    | some d => pure d
    | none => M.fail
  | .tup ds, .int i => match atI ds i with
    | some d => pure d
    | none => M.fail
  | .dic kvs, k => if keyOk kvs k = true then (match dget kvs k with
    | some d => pure d
    | none => M.fail) else M.fail
  | _, _ => M.fail
theorem Rps.atI {B : Hp} {ds : List D} {xs : List V} (r : Rps g B ds xs) {i : Int} {d : D} (h : L2.atI ds i = some d) : ∃ v, L2.atI xs i = some v ∧ Rp g B d v := by
  unfold L2.atI at h ⊢
  rw [← r.length]
  cases e : ixN ds.length i with
  | none => rw [e] at h; cases h
  | some j =>
    rw [e] at h
    exact r.get h
theorem ix_run {f : Fits X g} {value slice : Expr} {pins : List (Addr × Obj)} {s : Shared} {σ : L2.St} {H B : Hp} {env : DEnv} {ω ω' : Om} {x y d : D} {v u : V} {p1 p2 : Value} (I : Inv X pins σ H s) (rl : Rel g B σ H env ω) (hx : Rb g B H x v) (hy : Rb g B H y u) (ra : RelV v p1) (rb : RelV u p2) (q : oIx x y ω = some (d, ω'))
    (hs : ∀ o i, subscripted slice false o i = operate [o, i] (getItem o i)) : wpAny (model X.prog X.w) X.A (subscriptTail value slice p1 p2) (OV X g pins σ env B H d ω') X.xe s := by
  cases x with
  | lst ds =>
    cases y with
    | int i =>
      cases e : L2.atI ds i with
      | none => exact (M.fail_some (ω := ω) (by simp only [oIx, e] at q; exact q)).elim
      | some d' =>
        have q' : (pure d' : M D) ω = some (d, ω') := by simp only [oIx, e] at q; exact q
        obtain ⟨rfl, rfl⟩ := M.pure_some q'
        obtain ⟨a, xs, rfl, ha, r⟩ := hx.lst rl.bas.ex
        have hu := hy.int
        subst hu
        obtain ⟨z, hz, rz⟩ := r.atI e
        exact thn (ix_list value slice pins s σ H _ _ p1 p2 (fun w H' => w = z ∧ H' = H) I ra rb ⟨a, xs, i, z, rfl, rfl, sqL_of ha, hz, rfl, rfl⟩ (hs _ _)) fun w s' ⟨z', H', I', rz', e1, e2⟩ => by
          subst e1 e2
          exact ⟨_, _, B, I', rz', Mov.refl g B _, rl, rz⟩
    | _ => exact (M.fail_some (ω := ω) q).elim
  | tup ds =>
    cases y with
    | int i =>
      cases e : L2.atI ds i with
      | none => exact (M.fail_some (ω := ω) (by simp only [oIx, e] at q; exact q)).elim
      | some d' =>
        have q' : (pure d' : M D) ω = some (d, ω') := by simp only [oIx, e] at q; exact q
        obtain ⟨rfl, rfl⟩ := M.pure_some q'
        obtain ⟨a, xs, rfl, ha, r⟩ := hx.tup rl.bas.ex
        have hu := hy.int
        subst hu
        obtain ⟨z, hz, rz⟩ := r.atI e
        exact thn (ix_tup value slice pins s σ H _ _ p1 p2 (fun w H' => w = z ∧ H' = H) I ra rb ⟨a, xs, i, z, rfl, rfl, f.K ▸ ha, hz, rfl, rfl⟩ (hs _ _)) fun w s' ⟨z', H', I', rz', e1, e2⟩ => by
          subst e1 e2
          exact ⟨_, _, B, I', rz', Mov.refl g B _, rl, rz⟩
    | _ => exact (M.fail_some (ω := ω) q).elim
  | dic kvs =>
    have q : (if keyOk kvs y = true then (match dget kvs y with | some d => pure d | none => M.fail) else M.fail : M D) ω = some (d, ω') := by cases y <;> exact q
    by_cases ok : keyOk kvs y = true
    · rw [if_pos ok] at q
      cases e : dget kvs y with
      | none => rw [e] at q; exact (M.fail_some q).elim
      | some d' =>
        rw [e] at q
        obtain ⟨rfl, rfl⟩ := M.pure_some q
        obtain ⟨a, rfl, hd⟩ := hx.dic rl.bas.ex
        cases ra
        have ht : s.TypeIs (.ref a) "dict" := by
          rcases dic_view f I rl.bas.ex hd ok with ⟨_, _, _, _, w⟩ | ⟨_, _, _, _, w⟩
          · exact w.dict.typeIs
          · exact w.dict.typeIs
        exact tail_any ht PySem.F.slot_dict_getitem.lookup (dict_get f I rl.bas.ex hd hy rb ok e fun z w' s' I' rz rp => ⟨z, H, B, I', rz, Mov.refl g B H, rl, rp⟩) (hs _ _)
    · rw [if_neg ok] at q
      exact (M.fail_some q).elim
  | _ => exact (M.fail_some (ω := ω) q).elim
theorem pv_ix (ha : PB X g a ma) (hb : PB X g b mb) (hs : PlainIx b := by intro _ _; rfl) : PV X g (.Subscript a b pos) (eBin oIx ma mb) := ⟨fun f pins s σ H B env ω d ω' I r q =>
  Subscript_ (bin_run f ha hb I r q fun s2 H2 B2 x y v u p1 p2 ω2 I2 mv rl k1 k2 r1 r2 h => thn (ix_run (f := f) I2 rl k1 k2 r1 r2 h hs) fun _ _ z => z.after mv r.bas rl.bas)⟩
end
end
end Pw
set_option Elab.async false
set_option linter.all false
set_option maxRecDepth 100000
/-! My layer, part 7: displays, slices, sorting, built-in calls. -/
namespace Pw
open PySem PySem.Spec PyProof.Rows L2
section
variable {X : Cx} {g : Gh}
/-! ### what is new -/
/-- a new container from a rule of the hand layer -/
def Qf (g : Gh) (σ : L2.St) (env : DEnv) (B H : Hp) (d : D) (ω' : Om) : VK := fun z H' => ∃ p B', z = .ref p ∧ Mov g B H B' H' ∧ Rel g B' σ H' env ω' ∧ New g B H B' H' d p
theorem Qf.lst {σ : L2.St} {env : DEnv} {B H : Hp} {ds : List D} {xs : List V} {ω : Om} {p : Addr} (r : Rel g B σ H env ω) (hs : Rps g B ds xs) (hp : H p = none) : Qf g σ env B H (.lst ds) ω (.ref p) (upd H p (.lst xs)) :=
  ⟨p, B, rfl, Mov.new hp, r.new hp, ⟨.lst upd_same hs, r.bas.off hp, hp, (r.bas.st.apart hp).1, (r.bas.st.apart hp).2⟩⟩
theorem Qf.of {pins : List (Addr × Obj)} {σ : L2.St} {env : DEnv} {B H : Hp} {d : D} {ω' : Om} {u : Value} {s : Shared} (h : EP X pins σ (Qf g σ env B H d ω') u s) : OF X g pins σ env B H d ω' u s := by
  obtain ⟨z, H', I', rz, p, B', rfl, m, rl, n⟩ := h
  cases rz
  exact ⟨p, H', B', I', rfl, m, rl, n⟩
theorem Qv.of {pins : List (Addr × Obj)} {σ : L2.St} {env : DEnv} {B H : Hp} {d : D} {ω' : Om} {u : Value} {s : Shared} (h : EP X pins σ (Qv g σ env B H d ω') u s) : OV X g pins σ env B H d ω' u s := by
  obtain ⟨z, H', I', rz, B', m, rl, p⟩ := h
  exact ⟨z, H', B', I', rz, m, rl, p⟩
/-! ### displays -/
def eTup (ms : List (DEnv → M D)) : DEnv → M D := fun env => do
  let ds ← evs ms env
  pure (.tup ds)
def eLst (ms : List (DEnv → M D)) : DEnv → M D := fun env => do
  let ds ← evs ms env
  pure (.lst ds)
section
variable {es : List Expr} {ms : List (DEnv → M D)} {pos : Pos}
theorem evs_len : ∀ {ms : List (DEnv → M D)} {env : DEnv} {ω ω' : Om} {ds : List D}, evs ms env ω = some (ds, ω') → ds.length = ms.length
  | [], env, ω, ω', ds, h => by
    obtain ⟨rfl, _⟩ := M.pure_some (show (pure [] : M (List D)) ω = some (ds, ω') from h)
    rfl
  | m :: ms, env, ω, ω', ds, h => by
    obtain ⟨d, ω1, r, _, h2, rfl⟩ := evs_cons h
    rw [List.length_cons, List.length_cons, evs_len h2]
theorem pv_tup {x1} (h : PAs X g es ms) (hl : ms.length ≤ 1000 := by decide) : PV X g (.Tuple es x1 pos) (eTup ms) := ⟨fun f pins s σ H B env ω d ω' I r q => by
  obtain ⟨ds, ω1, h1, h2⟩ := M.bind_some q
  obtain ⟨rfl, rfl⟩ := M.pure_some h2
  have hz : ds.length ≤ sizeLine := by rw [evs_len h1]; exact Nat.le_of_lt (small1000 hl)
  refine wpAny_Tuple_spliced (thn (h.run f pos pins s σ H B env ω ds ω1 I r h1) fun us s1 ⟨xs, H1, B1, I1, rv, m1, rl1, rp⟩ => ?_)
  have hz2 : xs.length ≤ sizeLine := by rw [← rp.length]; exact hz
  refine ⟨by rw [← rv.length]; exact hz2, ?_⟩
  have hn : H1 s1.heap.objs.size = none := I1.hok.fresh (Nat.le_refl _)
  have I2 : Inv X pins σ (upd H1 s1.heap.objs.size (.tup xs)) { s1 with heap := s1.heap.push { cls := .type "tuple", data := .seq us.toArray } } :=
    I1.laid (t' := s1.toks) (fun b u e => Heap.get?_push_of_some _ e) (Nat.le_refl _) ⟨hz2, us, rv, ⟨_, Heap.get?_push_size _ rfl, rfl, _, rfl⟩⟩
  obtain ⟨B2, m2, rl2, p2⟩ := Qv.tup rl1 rp hn
  exact ⟨.ref s1.heap.objs.size, _, B2, I2, rfl, m1.trans m2 r.bas.st rl1.bas.st, rl2, p2⟩⟩
theorem pf_lst (h : PAs X g es ms) (hl : ms.length ≤ 1000 := by decide) : PF X g (.List es pos) (eLst ms) := ⟨fun f pins s σ H B env ω d ω' I r q => by
  obtain ⟨ds, ω1, h1, h2⟩ := M.bind_some q
  obtain ⟨rfl, rfl⟩ := M.pure_some h2
  have hz : ds.length ≤ sizeLine := by rw [evs_len h1]; exact Nat.le_of_lt (small1000 hl)
  refine wpAny_List_spliced (thn (h.run f pos pins s σ H B env ω ds ω1 I r h1) fun us s1 ⟨xs, H1, B1, I1, rv, m1, rl1, rp⟩ => ?_)
  have hz2 : xs.length ≤ sizeLine := by rw [← rp.length]; exact hz
  refine ⟨by rw [← rv.length]; exact hz2, ?_⟩
  have hn : H1 s1.heap.objs.size = none := I1.hok.fresh (Nat.le_refl _)
  have I2 : Inv X pins σ (upd H1 s1.heap.objs.size (.lst xs)) { s1 with heap := s1.heap.push { cls := .type "list", data := .seq us.toArray } } :=
    I1.laid (t' := s1.toks) (fun b u e => Heap.get?_push_of_some _ e) (Nat.le_refl _) ⟨hz2, us, 0, rv, Heap.get?_push_size _ rfl⟩
  obtain ⟨p, B2, e, m2, rl2, n2⟩ := Qf.lst rl1 rp hn
  cases e
  exact ⟨_, _, B2, I2, rfl, m1.trans m2 r.bas.st rl1.bas.st, rl2, n2.after m1 rl1.bas.st⟩⟩
theorem pf_dict0 : PF X g (.Dict [] [] pos) (eC (.dic [])) := ⟨fun f pins s σ H B env ω d ω' I r q => by
  obtain ⟨rfl, rfl⟩ := M.pure_some q
  refine thn (pe_dnewK.run pins s σ H _ I (fun p hp => ?_)) fun _ _ w => Qf.of w
  exact ⟨p, B, rfl, Mov.new hp, r.new hp, ⟨.dicK upd_same .nil, r.bas.off hp, hp, (r.bas.st.apart hp).1, (r.bas.st.apart hp).2⟩⟩⟩
end
/-! ### slices -/
def cutD (xs : List D) (lo hi : Option Int) : List D := (xs.drop (HT.sIx xs.length 0 lo)).take (HT.sIx xs.length xs.length hi - HT.sIx xs.length 0 lo)
theorem Rps.cut {B : Hp} {ds : List D} {xs : List V} (r : Rps g B ds xs) (lo hi : Option Int) : Rps g B (cutD ds lo hi) (cutV xs lo hi) := by
  unfold cutD cutV
  rw [r.length]
  exact (r.drop _).take _
/-- a part of a slice -/
structure PPart (X : Cx) (g : Gh) (e : Option Expr) (m : DEnv → M (Option Int)) : Prop where
  run : Fits X g → ∀ pins s σ H B env ω o ω', Inv X pins σ H s → Rel g B σ H env ω → m env ω = some (o, ω') →
    wpAny (model X.prog X.w) X.A (evalPart e X.env) (fun u s' => ∃ H' B', Inv X pins σ H' s' ∧ IsPart u o ∧ Mov g B H B' H' ∧ Rel g B' σ H' env ω') X.xe s
def pNo : DEnv → M (Option Int) := fun _ => pure none
def pAt (m : DEnv → M D) : DEnv → M (Option Int) := fun env => do
  match ← m env with
  | .int i => pure (some i)
  | _ => M.fail
theorem pp_none : PPart X g none pNo := ⟨fun f pins s σ H B env ω o ω' I r q => by
  obtain ⟨rfl, rfl⟩ := M.pure_some (show (pure none : M (Option Int)) ω = some (o, ω') from q)
  rw [evalPart_none]
  exact wpAny_pure ⟨H, B, I, .none, Mov.refl g B H, r⟩⟩
theorem pp_some {e : Expr} {m : DEnv → M D} (h : PV X g e m) : PPart X g (some e) (pAt m) := ⟨fun f pins s σ H B env ω o ω' I r q => by
  obtain ⟨d, ω1, h1, h2⟩ := M.bind_some q
  rw [evalPart_some]
  refine thn (h.run f pins s σ H B env ω d ω1 I r h1) fun u s1 ⟨v, H1, B1, I1, rv, m1, rl1, k1⟩ => ?_
  cases k1 with
  | int i =>
    obtain ⟨rfl, rfl⟩ := M.pure_some h2
    obtain ⟨t, rfl⟩ := rv
    exact ⟨H1, B1, I1, .int i t, m1, rl1⟩
  | _ => exact (M.fail_some h2).elim⟩
def eSl (k : D → Option Int → Option Int → M D) (a : DEnv → M D) (lo hi : DEnv → M (Option Int)) : DEnv → M D := fun env => do
  let x ← a env
  let l ← lo env
  let h ← hi env
  k x l h
def slT : D → Option Int → Option Int → M D
  | .tup xs, lo, hi => pure (.tup (cutD xs lo hi))
  | _, _, _ => M.fail
def slL : D → Option Int → Option Int → M D
  | .lst xs, lo, hi => pure (.lst (cutD xs lo hi))
  | _, _, _ => M.fail
theorem cut_whole {xs : List D} {lo hi : Option Int} (h : HT.sIx xs.length 0 lo = 0 ∧ HT.sIx xs.length xs.length hi = xs.length) : cutD xs lo hi = xs := by
  unfold cutD
  rw [h.1, h.2]
  simp
section
variable {a : Expr} {ma : DEnv → M D} {lo hi : Option Expr} {ml mh : DEnv → M (Option Int)} {pos p2 : Pos}
theorem sl_run {k : D → Option Int → Option Int → M D} {r : V → Option Int → Option Int → Hp → VK → Prop} (hr : SlR X r) (f : Fits X g) (ha : PB X g a ma) (hl : PPart X g lo ml) (hu : PPart X g hi mh) {pins : List (Addr × Obj)} {s : Shared} {σ : L2.St} {H B : Hp} {env : DEnv} {ω ω' : Om} {d : D} (I : Inv X pins σ H s) (rl : Rel g B σ H env ω) (q : eSl k ma ml mh env ω = some (d, ω')) {Q : VK}
    (hk : ∀ x l h v H1 B1 ω1, Mov g B H B1 H1 → Rel g B1 σ H1 env ω1 → Rb g B1 H1 x v → k x l h ω1 = some (d, ω') → r v l h H1 Q) : wpAny (model X.prog X.w) X.A (eval (.Subscript a (.Slice lo hi none p2) pos) X.env) (EP X pins σ Q) X.xe s := by
  obtain ⟨x, ω1, h1, q⟩ := M.bind_some q
  obtain ⟨l, ω2, h2, q⟩ := M.bind_some q
  obtain ⟨h, ω3, h3, q⟩ := M.bind_some q
  refine Subscript_ (thn (ha.run f pins s σ H B env ω x ω1 I rl h1) fun v s1 ⟨y, H1, B1, I1, r1, m1, rl1, k1⟩ => ?_)
  refine wpAny_Slice (thn (hl.run f pins s1 σ H1 B1 env ω1 l ω2 I1 rl1 h2) fun vl s2 ⟨H2, B2, I2, pl, m2, rl2⟩ => thn (hu.run f pins s2 σ H2 B2 env ω2 h ω3 I2 rl2 h3) fun vu s3 ⟨H3, B3, I3, pu, m3, rl3⟩ => ?_)
  rw [evalPart_none]
  refine wpAny_pure ?_
  have I4 : Inv X pins σ H3 { s3 with heap := s3.heap.push { cls := .type "slice", data := .fields #[vl, vu, .none] } } := I3.kept (t' := s3.toks) fun b ob q => Heap.get?_push_of_some _ q
  obtain ⟨T, id, hT, ht, hg⟩ := hr pins { s3 with heap := s3.heap.push { cls := .type "slice", data := .fields #[vl, vu, .none] } } σ H3 y v vl vu l h s3.heap.objs.size Q I4 r1 (Heap.IsSliceOf.new ..) pl pu
    (hk x l h y H3 B3 ω3 ((m1.trans m2 rl.bas.st rl1.bas.st).trans m3 rl.bas.st rl2.bas.st) rl3 ((k1.mov m2).mov m3) q)
  exact tail_any (ops := [.ref s3.heap.objs.size, v]) ht hT hg (by with_unfolding_all rfl)
theorem pv_slT (ha : PB X g a ma) (hl : PPart X g lo ml) (hu : PPart X g hi mh) : PV X g (.Subscript a (.Slice lo hi none p2) pos) (eSl slT ma ml mh) := ⟨fun f pins s σ H B env ω d ω' I r q =>
  thn (sl_run sl_tupA f ha hl hu I r q fun x l h v H1 B1 ω1 m1 rl1 kx e => by
    cases x with
    | tup xs =>
      obtain ⟨rfl, rfl⟩ := M.pure_some e
      obtain ⟨p, vs, rfl, hp, rp⟩ := kx.tup rl1.bas.ex
      have hlen := rp.length
      refine ⟨p, vs, rfl, f.K ▸ hp, fun hw => ?_, fun _ t ht => ?_⟩
      · rw [← hlen] at hw
        refine ⟨B1, m1, rl1, ?_⟩
        rw [cut_whole hw]
        rcases kx with kx | ⟨_, _, c, _⟩
        · exact kx
        · cases c
      · obtain ⟨B2, m2, rl2, p2⟩ := Qv.tup rl1 (rp.cut l h) ht
        exact ⟨B2, m1.trans m2 r.bas.st rl1.bas.st, rl2, p2⟩
    | _ => exact (M.fail_some (ω := ω1) e).elim) fun _ _ w => Qv.of w⟩
theorem pf_slL (ha : PB X g a ma) (hl : PPart X g lo ml) (hu : PPart X g hi mh) : PF X g (.Subscript a (.Slice lo hi none p2) pos) (eSl slL ma ml mh) := ⟨fun f pins s σ H B env ω d ω' I r q =>
  thn (sl_run sl_list f ha hl hu I r q fun x l h v H1 B1 ω1 m1 rl1 kx e => by
    cases x with
    | lst xs =>
      obtain ⟨rfl, rfl⟩ := M.pure_some e
      obtain ⟨p, vs, rfl, hp, rp⟩ := kx.lst rl1.bas.ex
      refine ⟨p, vs, rfl, sqL_of hp, fun t ht => ?_⟩
      obtain ⟨p2, B2, e2, m2, rl2, n2⟩ := Qf.lst rl1 (rp.cut l h) ht
      exact ⟨p2, B2, e2, m1.trans m2 r.bas.st rl1.bas.st, rl2, n2.after m1 rl1.bas.st⟩
    | _ => exact (M.fail_some (ω := ω1) e).elim) fun _ _ w => Qf.of w⟩
end
/-! ### calls of built-ins: arguments that are read -/
inductive Rbs (g : Gh) (B H : Hp) : List D → List V → Prop
  | nil : Rbs g B H [] []
  | cons {d : D} {v : V} {ds : List D} {vs : List V} : Rb g B H d v → Rbs g B H ds vs → Rbs g B H (d :: ds) (v :: vs)
theorem Rbs.mov {B B' H H' : Hp} (m : Mov g B H B' H') : ∀ {ds : List D} {vs : List V}, Rbs g B H ds vs → Rbs g B' H' ds vs
  | _, _, .nil => .nil
  | _, _, .cons h t => .cons (h.mov m) (Rbs.mov m t)
structure PBs (X : Cx) (g : Gh) (es : List Expr) (ms : List (DEnv → M D)) : Prop where
  run : Fits X g → ∀ pos pins s σ H B env ω ds ω', Inv X pins σ H s → Rel g B σ H env ω → evs ms env ω = some (ds, ω') →
    wpAny (model X.prog X.w) X.A (spliced (backTo pos (starEach es X.env))) (fun us s' => ∃ vs H' B', Inv X pins σ H' s' ∧ Vals vs us ∧ Mov g B H B' H' ∧ Rel g B' σ H' env ω' ∧ Rbs g B' H' ds vs) X.xe s
theorem pbs_nil : PBs X g [] [] := ⟨fun f pos pins s σ H B env ω ds ω' I r q => by
  obtain ⟨rfl, rfl⟩ := M.pure_some (show (pure [] : M (List D)) ω = some (ds, ω') from q)
  exact Calls.spliced_nil ⟨[], H, B, I, .nil, Mov.refl g B H, r, .nil⟩⟩
theorem pbs_cons {e : Expr} {m : DEnv → M D} {es : List Expr} {ms : List (DEnv → M D)} (ha : PB X g e m) (hr : PBs X g es ms) (hs : starEach (e :: es) X.env = (false, eval e X.env) :: starEach es X.env := by rfl) : PBs X g (e :: es) (m :: ms) := ⟨fun f pos pins s σ H B env ω ds ω' I r q => by
  obtain ⟨d, ω1, rr, h1, h2, rfl⟩ := evs_cons q
  rw [hs]
  show wpAny _ _ (spliced ((false, eval e X.env) :: backTo pos (starEach es X.env))) _ _ s
  refine Calls.spliced_cons (thn (ha.run f pins s σ H B env ω d ω1 I r h1) fun v s1 ⟨x, H1, B1, I1, r1, m1, rl1, p1⟩ => ?_)
  refine thn (hr.run f pos pins s1 σ H1 B1 env ω1 rr ω' I1 rl1 h2) fun us s2 ⟨xs, H2, B2, I2, r2, m2, rl2, p2⟩ => ?_
  exact ⟨x :: xs, H2, B2, I2, .cons r1 r2, m1.trans m2 r.bas.st rl1.bas.st, rl2, .cons (p1.mov m2) p2⟩⟩
def eCall (f : List D → M D) (ms : List (DEnv → M D)) : DEnv → M D := fun env => do
  let ds ← evs ms env
  f ds
/-- what a built-in does, by values -/
def CaD (X : Cx) (g : Gh) (f : Value) (op : List D → M D) : Prop :=
  Fits X g → ∀ pins s σ H B env ω ds vs us d ω', Inv X pins σ H s → Rel g B σ H env ω → Rbs g B H ds vs → Vals vs us → op ds ω = some (d, ω') → wpAny (model X.prog X.w) X.A (call f us) (OV X g pins σ env B H d ω') X.xe s
def CaF (X : Cx) (g : Gh) (f : Value) (op : List D → M D) : Prop :=
  Fits X g → ∀ pins s σ H B env ω ds vs us d ω', Inv X pins σ H s → Rel g B σ H env ω → Rbs g B H ds vs → Vals vs us → op ds ω = some (d, ω') → wpAny (model X.prog X.w) X.A (call f us) (OF X g pins σ env B H d ω') X.xe s
theorem CaD.of {f : Value} {r : List V → Hp → VK → Prop} {op : List D → M D} (hr : CallR X f r)
    (h : Fits X g → ∀ (B H : Hp) (σ : L2.St) (env : DEnv) (ω : Om) (ds : List D) (vs : List V) (d : D) (ω' : Om), Rel g B σ H env ω → Rbs g B H ds vs → op ds ω = some (d, ω') → r vs H (Qv g σ env B H d ω')) : CaD X g f op :=
  fun ft pins s σ H B env ω ds vs us d ω' I rl hs rv q => thn (hr pins s σ H vs us _ I rv (h ft B H σ env ω ds vs d ω' rl hs q)) fun _ _ w => Qv.of w
theorem CaF.of {f : Value} {r : List V → Hp → VK → Prop} {op : List D → M D} (hr : CallR X f r)
    (h : Fits X g → ∀ (B H : Hp) (σ : L2.St) (env : DEnv) (ω : Om) (ds : List D) (vs : List V) (d : D) (ω' : Om), Rel g B σ H env ω → Rbs g B H ds vs → op ds ω = some (d, ω') → r vs H (Qf g σ env B H d ω')) : CaF X g f op :=
  fun ft pins s σ H B env ω ds vs us d ω' I rl hs rv q => thn (hr pins s σ H vs us _ I rv (h ft B H σ env ω ds vs d ω' rl hs q)) fun _ _ w => Qf.of w
section
variable {e : Expr} {es : List Expr} {ms : List (DEnv → M D)} {op : List D → M D} {x : Str} {p pos : Pos} {id T : String}
theorem pv_callB (hc : CaD X g (.builtin id) op) (ha : PBs X g (e :: es) ms) (hm : X.mg x = none) (hg : Gl X x := by rfl) (hv : bootBuiltins x = some (.builtin id) := by decide +kernel) (hn : x ≠ "__name__" := by decide) (hdb : (x == ("__debug__" : Str)) = false := by decide)
    (he : starEach (e :: es) X.env = (false, eval e X.env) :: starEach es X.env := by rfl) (hpl : (backTo pos (starEach es X.env)).any (·.1) = false := by rfl) : PV X g (.Call (.Name x p) (e :: es) [] pos) (eCall op ms) := ⟨fun f pins s σ H B env ω d ω' I r q => by
  obtain ⟨ds, ω1, h1, h2⟩ := M.bind_some q
  refine wpAny_Call_Name_kw (ld_blt I hg hm hv ?_ hn hdb)
  exact PyProof.Rows.callWith_builtin1 (thn (ha.run f pos pins s σ H B env ω ds ω1 I r h1) fun us s1 ⟨vs, H1, B1, I1, r1, m1, rl1, k1⟩ => thn (hc f pins s1 σ H1 B1 env ω1 ds vs us d ω' I1 rl1 k1 r1 h2) fun _ _ w => w.after m1 r.bas rl1.bas) he hpl⟩
theorem pf_callB (hc : CaF X g (.builtin id) op) (ha : PBs X g (e :: es) ms) (hm : X.mg x = none) (hg : Gl X x := by rfl) (hv : bootBuiltins x = some (.builtin id) := by decide +kernel) (hn : x ≠ "__name__" := by decide) (hdb : (x == ("__debug__" : Str)) = false := by decide)
    (he : starEach (e :: es) X.env = (false, eval e X.env) :: starEach es X.env := by rfl) (hpl : (backTo pos (starEach es X.env)).any (·.1) = false := by rfl) : PF X g (.Call (.Name x p) (e :: es) [] pos) (eCall op ms) := ⟨fun f pins s σ H B env ω d ω' I r q => by
  obtain ⟨ds, ω1, h1, h2⟩ := M.bind_some q
  refine wpAny_Call_Name_kw (ld_blt I hg hm hv ?_ hn hdb)
  exact PyProof.Rows.callWith_builtin1 (thn (ha.run f pos pins s σ H B env ω ds ω1 I r h1) fun us s1 ⟨vs, H1, B1, I1, r1, m1, rl1, k1⟩ => thn (hc f pins s1 σ H1 B1 env ω1 ds vs us d ω' I1 rl1 k1 r1 h2) fun _ _ w => w.after m1 r.bas rl1.bas) he hpl⟩
theorem pv_callT (hc : CaD X g (.type T) op) (ha : PBs X g (e :: es) ms) (hm : X.mg x = none) (hg : Gl X x := by rfl) (hv : bootBuiltins x = some (.type T) := by decide +kernel) (hn : x ≠ "__name__" := by decide) (hdb : (x == ("__debug__" : Str)) = false := by decide)
    (he : starEach (e :: es) X.env = (false, eval e X.env) :: starEach es X.env := by rfl) (hpl : (backTo pos (starEach es X.env)).any (·.1) = false := by rfl) : PV X g (.Call (.Name x p) (e :: es) [] pos) (eCall op ms) := ⟨fun f pins s σ H B env ω d ω' I r q => by
  obtain ⟨ds, ω1, h1, h2⟩ := M.bind_some q
  refine wpAny_Call_Name_kw (ld_blt I hg hm hv ?_ hn hdb)
  exact PyProof.Rows.callWith_type1 (thn (ha.run f pos pins s σ H B env ω ds ω1 I r h1) fun us s1 ⟨vs, H1, B1, I1, r1, m1, rl1, k1⟩ => thn (hc f pins s1 σ H1 B1 env ω1 ds vs us d ω' I1 rl1 k1 r1 h2) fun _ _ w => w.after m1 r.bas rl1.bas) he hpl⟩
theorem pf_callT (hc : CaF X g (.type T) op) (ha : PBs X g (e :: es) ms) (hm : X.mg x = none) (hg : Gl X x := by rfl) (hv : bootBuiltins x = some (.type T) := by decide +kernel) (hn : x ≠ "__name__" := by decide) (hdb : (x == ("__debug__" : Str)) = false := by decide)
    (he : starEach (e :: es) X.env = (false, eval e X.env) :: starEach es X.env := by rfl) (hpl : (backTo pos (starEach es X.env)).any (·.1) = false := by rfl) : PF X g (.Call (.Name x p) (e :: es) [] pos) (eCall op ms) := ⟨fun f pins s σ H B env ω d ω' I r q => by
  obtain ⟨ds, ω1, h1, h2⟩ := M.bind_some q
  refine wpAny_Call_Name_kw (ld_blt I hg hm hv ?_ hn hdb)
  exact PyProof.Rows.callWith_type1 (thn (ha.run f pos pins s σ H B env ω ds ω1 I r h1) fun us s1 ⟨vs, H1, B1, I1, r1, m1, rl1, k1⟩ => thn (hc f pins s1 σ H1 B1 env ω1 ds vs us d ω' I1 rl1 k1 r1 h2) fun _ _ w => w.after m1 r.bas rl1.bas) he hpl⟩
end
theorem Rbs.one {B H : Hp} {d : D} {vs : List V} (h : Rbs g B H [d] vs) : ∃ v, vs = [v] ∧ Rb g B H d v := by
  cases h with
  | cons h t => cases t; exact ⟨_, rfl, h⟩
theorem Rbs.two {B H : Hp} {d e : D} {vs : List V} (h : Rbs g B H [d, e] vs) : ∃ v u, vs = [v, u] ∧ Rb g B H d v ∧ Rb g B H e u := by
  cases h with
  | cons h t => cases t with | cons h2 t => cases t; exact ⟨_, _, rfl, h, h2⟩
/-- len -/
def fLen : List D → M D
  | [.lst ds] => pure (.int ds.length)
  | [.tup ds] => pure (.int ds.length)
  | [.dic kvs] => pure (.int kvs.length)
  | _ => M.fail
theorem c_len : CaD X g (.builtin "len") fLen := by
  intro ft pins s σ H B env ω ds vs us d ω' I rl hs rv q
  match ds, hs, q with
  | [.lst ds], hs, q =>
    obtain ⟨rfl, rfl⟩ := M.pure_some q
    obtain ⟨v, rfl, hv⟩ := hs.one
    obtain ⟨a, xs, rfl, ha, r⟩ := hv.lst rl.bas.ex
    exact thn (call_len_seq pins s σ H _ us _ I rv ⟨a, xs, rfl, .inl (sqL_of ha), by rw [← r.length]; exact Qv.same rl (.int _)⟩) fun _ _ w => Qv.of w
  | [.tup ds], hs, q =>
    obtain ⟨rfl, rfl⟩ := M.pure_some q
    obtain ⟨v, rfl, hv⟩ := hs.one
    obtain ⟨a, xs, rfl, ha, r⟩ := hv.tup rl.bas.ex
    exact thn (call_len_seq pins s σ H _ us _ I rv ⟨a, xs, rfl, .inr (ft.K ▸ ha), by rw [← r.length]; exact Qv.same rl (.int _)⟩) fun _ _ w => Qv.of w
  | [.dic kvs], hs, q =>
    obtain ⟨rfl, rfl⟩ := M.pure_some q
    obtain ⟨v, rfl, hv⟩ := hs.one
    obtain ⟨a, rfl, hd⟩ := hv.dic rl.bas.ex
    obtain ⟨u, rfl, ru⟩ := vals1 rv
    cases ru
    rcases hd with ⟨kk, ha, r⟩ | ⟨xs, ha, r⟩
    · refine d_len I ha fun t s' I' => ?_
      rw [← r.length]
      exact ⟨.int _, H, B, I', ⟨_, rfl⟩, Mov.refl g B H, rl, .int _⟩
    · obtain ⟨z, hsys, ws, pn, dd⟩ := dN_dict ft I rl.bas.ex r ha
      have hz2 : ws.length ≤ sizeLine := by rw [← pn.length]; exact z
      have el : kvs.length = ws.length := r.length.trans pn.length
      refine PyProof.Rows.call_len_slot (n := ws.length) dd.typeIs PySem.F.slot_dict_len (fun Q' hq => len_keyed hsys ⟨ws, dd, rfl⟩ (by rw [pairsH_length]; exact hq)) (by omega) (by rw [sizeLine_eq] at hz2; omega) ?_
      rw [el]
      exact ⟨.int _, H, B, I.tok _, ⟨_, rfl⟩, Mov.refl g B H, rl, .int _⟩
/-- list(x), tuple(x) of lists and tuples -/
def fList : List D → M D
  | [.lst ds] => pure (.lst ds)
  | [.tup ds] => pure (.lst ds)
  | _ => M.fail
theorem c_list : CaF X g (.type "list") fList := CaF.of call_list_of fun ft B H σ env ω ds vs d ω' rl hs q => by
  match ds, hs, q with
  | [.lst ds], hs, q =>
    obtain ⟨rfl, rfl⟩ := M.pure_some q
    obtain ⟨v, rfl, hv⟩ := hs.one
    obtain ⟨a, xs, rfl, ha, r⟩ := hv.lst rl.bas.ex
    exact ⟨a, xs, rfl, .inl (sqL_of ha), fun l hl => Qf.lst rl r hl⟩
  | [.tup ds], hs, q =>
    obtain ⟨rfl, rfl⟩ := M.pure_some q
    obtain ⟨v, rfl, hv⟩ := hs.one
    obtain ⟨a, xs, rfl, ha, r⟩ := hv.tup rl.bas.ex
    exact ⟨a, xs, rfl, .inr (ft.K ▸ ha), fun l hl => Qf.lst rl r hl⟩
def fTuple : List D → M D
  | [.lst ds] => pure (.tup ds)
  | [.tup ds] => pure (.tup ds)
  | _ => M.fail
theorem c_tuple : CaD X g (.type "tuple") fTuple := CaD.of call_tuple_of fun ft B H σ env ω ds vs d ω' rl hs q => by
  match ds, hs, q with
  | [.lst ds], hs, q =>
    obtain ⟨rfl, rfl⟩ := M.pure_some q
    obtain ⟨v, rfl, hv⟩ := hs.one
    obtain ⟨a, xs, rfl, ha, r⟩ := hv.lst rl.bas.ex
    exact ⟨a, xs, rfl, .inl ⟨sqL_of ha, fun l hl => Qv.tup rl r hl⟩⟩
  | [.tup ds], hs, q =>
    obtain ⟨rfl, rfl⟩ := M.pure_some q
    obtain ⟨v, rfl, hv⟩ := hs.one
    have hv' := hv
    obtain ⟨a, xs, rfl, ha, r⟩ := hv.tup rl.bas.ex
    refine ⟨a, xs, rfl, .inr ⟨ft.K ▸ ha, Qv.same rl ?_⟩⟩
    rcases hv' with k | ⟨_, _, c, _⟩
    · exact k
    · cases c
/-- int(x), abs(x), max(a, b), min(a, b) -/
def fInt : List D → M D
  | [.int i] => pure (.int i)
  | [.bl b] => pure (.int (if b then 1 else 0))
  | _ => M.fail
theorem c_int : CaD X g (.type "int") fInt := CaD.of call_int1 fun ft B H σ env ω ds vs d ω' rl hs q => by
  match ds, hs, q with
  | [.int i], hs, q =>
    obtain ⟨rfl, rfl⟩ := M.pure_some q
    obtain ⟨v, rfl, hv⟩ := hs.one
    exact .inl ⟨i, by rw [hv.int], Qv.same rl (.int _)⟩
  | [.bl b], hs, q =>
    obtain ⟨rfl, rfl⟩ := M.pure_some q
    obtain ⟨v, rfl, hv⟩ := hs.one
    exact .inr ⟨b, by rw [hv.bl], Qv.same rl (.int _)⟩
def fAbs : List D → M D
  | [.int i] => pure (.int (if i < 0 then -i else i))
  | _ => M.fail
theorem c_abs : CaD X g (.builtin "abs") fAbs := CaD.of call_abs fun ft B H σ env ω ds vs d ω' rl hs q => by
  match ds, hs, q with
  | [.int i], hs, q =>
    obtain ⟨rfl, rfl⟩ := M.pure_some q
    obtain ⟨v, rfl, hv⟩ := hs.one
    exact ⟨i, by rw [hv.int], Qv.same rl (.int _)⟩
def fMax2 : List D → M D
  | [.int i, .int j] => pure (.int (if j > i then j else i))
  | _ => M.fail
def fMin2 : List D → M D
  | [.int i, .int j] => pure (.int (if j < i then j else i))
  | _ => M.fail
theorem c_max2 (hc : X.calm = true) : CaD X g (.builtin "max") fMax2 := CaD.of (call_max2 hc) fun ft B H σ env ω ds vs d ω' rl hs q => by
  match ds, hs, q with
  | [.int i, .int j], hs, q =>
    obtain ⟨rfl, rfl⟩ := M.pure_some q
    obtain ⟨v, u, rfl, hv, hu⟩ := hs.two
    exact ⟨i, j, by rw [hv.int, hu.int], Qv.same rl (.int _)⟩
theorem c_min2 (hc : X.calm = true) : CaD X g (.builtin "min") fMin2 := CaD.of (call_min2 hc) fun ft B H σ env ω ds vs d ω' rl hs q => by
  match ds, hs, q with
  | [.int i, .int j], hs, q =>
    obtain ⟨rfl, rfl⟩ := M.pure_some q
    obtain ⟨v, u, rfl, hv, hu⟩ := hs.two
    exact ⟨i, j, by rw [hv.int, hu.int], Qv.same rl (.int _)⟩
/-! lists of ints, of bools -/
def asInts : List D → Option (List Int)
  | [] => some []
  | .int i :: ds => (asInts ds).map (i :: ·)
  | _ => none
def asBls : List D → Option (List Bool)
  | [] => some []
  | .bl i :: ds => (asBls ds).map (i :: ·)
  | _ => none
theorem asInts_vs {B : Hp} : ∀ {ds : List D} {xs : List V} {ns : List Int}, asInts ds = some ns → Rps g B ds xs → xs = ns.map V.int
  | [], _, ns, h, r => by cases r; cases h; rfl
  | d :: ds, _, ns, h, r => by
    cases r with
    | cons r1 r2 =>
      cases r1 with
      | int i =>
        obtain ⟨ms, hm, rfl⟩ := Option.map_eq_some_iff.mp (show (asInts ds).map (i :: ·) = some ns from h)
        rw [asInts_vs hm r2]
        rfl
      | _ => cases h
theorem asBls_vs {B : Hp} : ∀ {ds : List D} {xs : List V} {ns : List Bool}, asBls ds = some ns → Rps g B ds xs → xs = ns.map V.bl
  | [], _, ns, h, r => by cases r; cases h; rfl
  | d :: ds, _, ns, h, r => by
    cases r with
    | cons r1 r2 =>
      cases r1 with
      | bl i =>
        obtain ⟨ms, hm, rfl⟩ := Option.map_eq_some_iff.mp (show (asBls ds).map (i :: ·) = some ns from h)
        rw [asBls_vs hm r2]
        rfl
      | _ => cases h
/-- sum, max, min of a list of ints; any, all of a list of bools -/
def fInts (k : List Int → Option D) : List D → M D
  | [.lst ds] => match (asInts ds).bind k with
    | some d => pure d
    | none => M.fail
  | _ => M.fail
def fBls (k : List Bool → D) : List D → M D
  | [.lst ds] => match asBls ds with
    | some bs => pure (k bs)
    | none => M.fail
  | _ => M.fail
theorem fInts_some {k : List Int → Option D} {ds : List D} {d : D} {ω ω' : Om} (h : fInts k ds ω = some (d, ω')) : ∃ es ns, ds = [.lst es] ∧ asInts es = some ns ∧ k ns = some d ∧ ω' = ω := by
  match ds, h with
  | [.lst es], h =>
    cases e : (asInts es).bind k with
    | none => simp only [fInts, e] at h; exact (M.fail_some h).elim
    | some d' =>
      simp only [fInts, e] at h
      obtain ⟨rfl, rfl⟩ := M.pure_some h
      obtain ⟨ns, h1, h2⟩ := Option.bind_eq_some_iff.mp e
      exact ⟨es, ns, rfl, h1, h2, rfl⟩
theorem fBls_some {k : List Bool → D} {ds : List D} {d : D} {ω ω' : Om} (h : fBls k ds ω = some (d, ω')) : ∃ es ns, ds = [.lst es] ∧ asBls es = some ns ∧ d = k ns ∧ ω' = ω := by
  match ds, h with
  | [.lst es], h =>
    cases e : asBls es with
    | none => simp only [fBls, e] at h; exact (M.fail_some h).elim
    | some d' =>
      simp only [fBls, e] at h
      obtain ⟨rfl, rfl⟩ := M.pure_some h
      exact ⟨es, _, rfl, e, rfl, rfl⟩
def fSum : List D → M D := fInts fun ns => some (.int ns.sum)
def fMax : List D → M D := fInts fun ns => ns.max?.map .int
def fMin : List D → M D := fInts fun ns => ns.min?.map .int
def fAny : List D → M D := fBls fun bs => .bl (bs.any id)
def fAll : List D → M D := fBls fun bs => .bl (bs.all id)
theorem c_sum (hc : X.calm = true) : CaD X g (.builtin "sum") fSum := CaD.of (cr_sum hc) fun ft B H σ env ω ds vs d ω' rl hs q => by
  obtain ⟨es, ns, rfl, h1, h2, rfl⟩ := fInts_some q
  cases h2
  obtain ⟨v, rfl, hv⟩ := hs.one
  obtain ⟨a, xs, rfl, ha, r⟩ := hv.lst rl.bas.ex
  have e := asInts_vs h1 r
  subst e
  exact ⟨a, ns, rfl, sqL_of ha, Qv.same rl (.int _)⟩
theorem c_max (hc : X.calm = true) : CaD X g (.builtin "max") fMax := CaD.of (cr_max hc) fun ft B H σ env ω ds vs d ω' rl hs q => by
  obtain ⟨es, ns, rfl, h1, h2, rfl⟩ := fInts_some q
  obtain ⟨m, hm, rfl⟩ := Option.map_eq_some_iff.mp h2
  obtain ⟨v, rfl, hv⟩ := hs.one
  obtain ⟨a, xs, rfl, ha, r⟩ := hv.lst rl.bas.ex
  have e := asInts_vs h1 r
  subst e
  obtain ⟨k1, k2⟩ := List.max?_eq_some_iff.mp hm
  refine ⟨a, ns, rfl, sqL_of ha, List.length_pos_of_mem k1, fun m' h3 h4 => ?_⟩
  have : m' = m := Int.le_antisymm (k2 m' h3) (h4 m k1)
  subst this
  exact Qv.same rl (.int _)
theorem c_min (hc : X.calm = true) : CaD X g (.builtin "min") fMin := CaD.of (cr_min hc) fun ft B H σ env ω ds vs d ω' rl hs q => by
  obtain ⟨es, ns, rfl, h1, h2, rfl⟩ := fInts_some q
  obtain ⟨m, hm, rfl⟩ := Option.map_eq_some_iff.mp h2
  obtain ⟨v, rfl, hv⟩ := hs.one
  obtain ⟨a, xs, rfl, ha, r⟩ := hv.lst rl.bas.ex
  have e := asInts_vs h1 r
  subst e
  obtain ⟨k1, k2⟩ := List.min?_eq_some_iff.mp hm
  refine ⟨a, ns, rfl, sqL_of ha, List.length_pos_of_mem k1, fun m' h3 h4 => ?_⟩
  have : m' = m := Int.le_antisymm (h4 m k1) (k2 m' h3)
  subst this
  exact Qv.same rl (.int _)
theorem c_any (hc : X.calm = true) : CaD X g (.builtin "any") fAny := CaD.of (cr_any hc) fun ft B H σ env ω ds vs d ω' rl hs q => by
  obtain ⟨es, ns, rfl, h1, rfl, rfl⟩ := fBls_some q
  obtain ⟨v, rfl, hv⟩ := hs.one
  obtain ⟨a, xs, rfl, ha, r⟩ := hv.lst rl.bas.ex
  have e := asBls_vs h1 r
  subst e
  exact ⟨a, ns, rfl, sqL_of ha, Qv.same rl (.bl _)⟩
theorem c_all (hc : X.calm = true) : CaD X g (.builtin "all") fAll := CaD.of (cr_all hc) fun ft B H σ env ω ds vs d ω' rl hs q => by
  obtain ⟨es, ns, rfl, h1, rfl, rfl⟩ := fBls_some q
  obtain ⟨v, rfl, hv⟩ := hs.one
  obtain ⟨a, xs, rfl, ha, r⟩ := hv.lst rl.bas.ex
  have e := asBls_vs h1 r
  subst e
  exact ⟨a, ns, rfl, sqL_of ha, Qv.same rl (.bl _)⟩
end
end Pw
set_option Elab.async false
set_option linter.all false
set_option maxRecDepth 100000
/-! My layer, part 8: the hand layer's judgements and mine; statements. -/
namespace Pw
open PySem PySem.Spec PyProof.Rows L2
section
variable {X : Cx} {g : Gh}
def Qb (g : Gh) (σ : L2.St) (env : DEnv) (B H : Hp) (d : D) (ω' : Om) : VK := fun z H' => ∃ B', Mov g B H B' H' ∧ Rel g B' σ H' env ω' ∧ Rb g B' H' d z
def tV (g : Gh) (m : DEnv → M D) : TE := fun σ H Q => ∃ B env ω d ω', Rel g B σ H env ω ∧ m env ω = some (d, ω') ∧ ∀ z H', Qv g σ env B H d ω' z H' → Q z H'
def tF (g : Gh) (m : DEnv → M D) : TE := fun σ H Q => ∃ B env ω d ω', Rel g B σ H env ω ∧ m env ω = some (d, ω') ∧ ∀ z H', Qf g σ env B H d ω' z H' → Q z H'
def tR (g : Gh) (m : DEnv → M D) : TE := fun σ H Q => ∃ B env ω d ω', Rel g B σ H env ω ∧ m env ω = some (d, ω') ∧ ∀ z H', Qb g σ env B H d ω' z H' → Q z H'
def tTt (g : Gh) (m : DEnv → M Bool) : TT := fun σ H Q => ∃ B env ω d ω', Rel g B σ H env ω ∧ m env ω = some (d, ω') ∧ ∀ H' B', Mov g B H B' H' → Rel g B' σ H' env ω' → Q d H'
def tAs (g : Gh) (ms : List (DEnv → M D)) : TA := fun σ H Q => ∃ B env ω ds ω', Rel g B σ H env ω ∧ evs ms env ω = some (ds, ω') ∧ ∀ vs H' B', Mov g B H B' H' → Rel g B' σ H' env ω' → Rps g B' ds vs → Q vs H'
def tBs (g : Gh) (ms : List (DEnv → M D)) : TA := fun σ H Q => ∃ B env ω ds ω', Rel g B σ H env ω ∧ evs ms env ω = some (ds, ω') ∧ ∀ vs H' B', Mov g B H B' H' → Rel g B' σ H' env ω' → Rbs g B' H' ds vs → Q vs H'
theorem PV.pe {e : Expr} {m : DEnv → M D} (h : PV X g e m) (f : Fits X g) : PE X e (tV g m) := ⟨fun pins s σ H Q I ⟨B, env, ω, d, ω', r, q, k⟩ =>
  thn (h.run f pins s σ H B env ω d ω' I r q) fun u s1 ⟨z, H1, B1, I1, rz, m1, rl1, p1⟩ => ⟨z, H1, I1, rz, k z H1 ⟨B1, m1, rl1, p1⟩⟩⟩
theorem PF.pe {e : Expr} {m : DEnv → M D} (h : PF X g e m) (f : Fits X g) : PE X e (tF g m) := ⟨fun pins s σ H Q I ⟨B, env, ω, d, ω', r, q, k⟩ =>
  thn (h.run f pins s σ H B env ω d ω' I r q) fun u s1 ⟨p, H1, B1, I1, rz, m1, rl1, n1⟩ => ⟨.ref p, H1, I1, rz, k _ H1 ⟨p, B1, rfl, m1, rl1, n1⟩⟩⟩
theorem PB.pe {e : Expr} {m : DEnv → M D} (h : PB X g e m) (f : Fits X g) : PE X e (tR g m) := ⟨fun pins s σ H Q I ⟨B, env, ω, d, ω', r, q, k⟩ =>
  thn (h.run f pins s σ H B env ω d ω' I r q) fun u s1 ⟨z, H1, B1, I1, rz, m1, rl1, p1⟩ => ⟨z, H1, I1, rz, k z H1 ⟨B1, m1, rl1, p1⟩⟩⟩
theorem PTt.pt {e : Expr} {m : DEnv → M Bool} (h : PTt X g e m) (f : Fits X g) : PT X e (tTt g m) := ⟨fun pins s σ H Q I ⟨B, env, ω, d, ω', r, q, k⟩ =>
  thn (h.run f pins s σ H B env ω d ω' I r q) fun u s1 ⟨H1, B1, I1, e1, m1, rl1⟩ => ⟨H1, I1, by rw [e1]; exact k H1 B1 m1 rl1⟩⟩
theorem PAs.pa {es : List Expr} {ms : List (DEnv → M D)} (h : PAs X g es ms) (f : Fits X g) : PA X es (tAs g ms) := ⟨fun pos pins s σ H Q I ⟨B, env, ω, d, ω', r, q, k⟩ =>
  thn (h.run f pos pins s σ H B env ω d ω' I r q) fun u s1 ⟨z, H1, B1, I1, rz, m1, rl1, p1⟩ => ⟨z, H1, I1, rz, k z H1 B1 m1 rl1 p1⟩⟩
theorem PBs.pa {es : List Expr} {ms : List (DEnv → M D)} (h : PBs X g es ms) (f : Fits X g) : PA X es (tBs g ms) := ⟨fun pos pins s σ H Q I ⟨B, env, ω, d, ω', r, q, k⟩ =>
  thn (h.run f pos pins s σ H B env ω d ω' I r q) fun u s1 ⟨z, H1, B1, I1, rz, m1, rl1, p1⟩ => ⟨z, H1, I1, rz, k z H1 B1 m1 rl1 p1⟩⟩
/-- a rule of the hand layer, by a reading of mine -/
theorem PV.of_pe {e : Expr} {t : TE} {m : DEnv → M D} (h : Fits X g → PE X e t) (k : Fits X g → ∀ B σ H env ω d ω', Rel g B σ H env ω → m env ω = some (d, ω') → t σ H (Qv g σ env B H d ω')) : PV X g e m :=
  ⟨fun f pins s σ H B env ω d ω' I r q => thn ((h f).run pins s σ H _ I (k f B σ H env ω d ω' r q)) fun _ _ w => Qv.of w⟩
theorem PF.of_pe {e : Expr} {t : TE} {m : DEnv → M D} (h : Fits X g → PE X e t) (k : Fits X g → ∀ B σ H env ω d ω', Rel g B σ H env ω → m env ω = some (d, ω') → t σ H (Qf g σ env B H d ω')) : PF X g e m :=
  ⟨fun f pins s σ H B env ω d ω' I r q => thn ((h f).run pins s σ H _ I (k f B σ H env ω d ω' r q)) fun _ _ w => Qf.of w⟩

/-! ### statements -/
def EndsOk (g : Gh) (B : Hp) (r : Fl) (ω' : Om) (D : Ends) : Prop := match r with
  | .nx env' => ∀ σ' H' B', Ex B B' → Rel g B' σ' H' env' ω' → D.nx σ' H'
  | .bk env' => ∀ σ' H' B', Ex B B' → Rel g B' σ' H' env' ω' → D.bk σ' H'
  | .rt d => ∀ v H' B', Ex B B' → Bas g B' H' ω' → Rp g B' d v → D.rt v H'
theorem EndsOk.mono {B B' : Hp} {r : Fl} {ω' : Om} {D : Ends} (h : EndsOk g B r ω' D) (e : Ex B B') : EndsOk g B' r ω' D := by
  cases r with
  | nx env' => exact fun σ' H' B2 e2 r => h σ' H' B2 (e.trans e2) r
  | bk env' => exact fun σ' H' B2 e2 r => h σ' H' B2 (e.trans e2) r
  | rt d => exact fun v H' B2 e2 b r => h v H' B2 (e.trans e2) b r
def tS (g : Gh) (m : DEnv → M Fl) : TS := fun D σ H => ∃ B env ω r ω', Rel g B σ H env ω ∧ m env ω = some (r, ω') ∧ EndsOk g B r ω' D
structure PSt (X : Cx) (g : Gh) (st : Stmt) (m : DEnv → M Fl) : Prop where
  ps : Fits X g → PS X st (tS g m)
structure PBl (X : Cx) (g : Gh) (st : List Stmt) (m : DEnv → M Fl) : Prop where
  ps : Fits X g → PSs X st (tS g m)
theorem PS.imp {st : Stmt} {t t' : TS} (h : PS X st t) (k : ∀ D σ H, t' D σ H → t D σ H) : PS X st t' := ⟨fun pins s σ H D I q => h.run pins s σ H D I (k D σ H q)⟩
theorem PSs.imp {st : List Stmt} {t t' : TS} (h : PSs X st t) (k : ∀ D σ H, t' D σ H → t D σ H) : PSs X st t' := ⟨fun pins s σ H D I q => h.run pins s σ H D I (k D σ H q)⟩
def sNil : DEnv → M Fl := fun env => pure (.nx env)
def sSeq (a b : DEnv → M Fl) : DEnv → M Fl := fun env => do
  match ← a env with
  | .nx env' => b env'
  | r => pure r
theorem sSeq_some {a b : DEnv → M Fl} {env : DEnv} {ω ω' : Om} {r : Fl} (h : sSeq a b env ω = some (r, ω')) : ∃ r1 ω1, a env ω = some (r1, ω1) ∧ ((∃ e1, r1 = .nx e1 ∧ b e1 ω1 = some (r, ω')) ∨ ((∀ e1, r1 ≠ .nx e1) ∧ r = r1 ∧ ω' = ω1)) := by
  obtain ⟨r1, ω1, h1, h2⟩ := M.bind_some h
  refine ⟨r1, ω1, h1, ?_⟩
  cases r1 with
  | nx e1 => exact .inl ⟨e1, rfl, h2⟩
  | rt d => obtain ⟨rfl, rfl⟩ := M.pure_some h2; exact .inr ⟨fun _ z => (by cases z), rfl, rfl⟩
  | bk d => obtain ⟨rfl, rfl⟩ := M.pure_some h2; exact .inr ⟨fun _ z => (by cases z), rfl, rfl⟩
theorem bl_nil : PBl X g [] sNil := ⟨fun f => PSs.imp pss_nil fun D σ H ⟨B, env, ω, r, ω', rl, q, k⟩ => by
  obtain ⟨rfl, rfl⟩ := M.pure_some q
  exact k σ H B (Ex.refl B) rl⟩
theorem bl_cons {st : Stmt} {rest : List Stmt} {a b : DEnv → M Fl} (h1 : PSt X g st a) (h2 : PBl X g rest b) : PBl X g (st :: rest) (sSeq a b) := ⟨fun f => PSs.imp (pss_cons (h1.ps f) (h2.ps f)) fun D σ H ⟨B, env, ω, r, ω', rl, q, k⟩ => by
  obtain ⟨r1, ω1, q1, q2⟩ := sSeq_some q
  refine ⟨B, env, ω, r1, ω1, rl, q1, ?_⟩
  rcases q2 with ⟨e1, rfl, q2⟩ | ⟨hn, rfl, rfl⟩
  · exact fun σ' H' B' e rl' => ⟨B', e1, ω1, r, ω', rl', q2, k.mono e⟩
  · cases r with
    | nx e1 => exact absurd rfl (hn e1)
    | rt d => exact k
    | bk d => exact k⟩
theorem bl_one {st : Stmt} {a : DEnv → M Fl} (h1 : PSt X g st a) : PBl X g [st] a := ⟨fun f => PSs.imp (pss_one (h1.ps f)) fun D σ H ⟨B, env, ω, r, ω', rl, q, k⟩ => ⟨B, env, ω, r, ω', rl, q, by cases r <;> exact k⟩⟩

/-! slots -/
theorem Rel.set {B H : Hp} {σ : L2.St} {env : DEnv} {ω : Om} (r : Rel g B σ H env ω) (i : Nat) {d : D} {v : V} (hw : i ∈ g.W → d.cont = false) (h : Rp g B d v) : Rel g B (σ.set i (some v)) H (env.set i (some d)) ω := by
  have look : ∀ {j e}, (env.set i (some d))[j]? = some (some e) → (j = i ∧ e = d ∧ i < env.length) ∨ (j ≠ i ∧ env[j]? = some (some e)) := fun {j e} q => by
    by_cases hj : j = i
    · subst hj
      have hl : j < env.length := by
        have h1 := (List.getElem?_eq_some_iff.mp q).1
        simpa using h1
      rw [List.getElem?_set_self hl] at q
      exact .inl ⟨rfl, (Option.some.inj (Option.some.inj q)).symm, hl⟩
    · rw [List.getElem?_set_ne (Ne.symm hj)] at q
      exact .inr ⟨hj, q⟩
  refine ⟨r.bas, by simp [r.len], fun j e q => ?_, fun j e hj q hc => ?_, fun j l e e2 p hj hl hne q hc q2 hc2 z z2 => ?_⟩
  · rcases look q with ⟨rfl, rfl, hl⟩ | ⟨hj, q⟩
    · exact ⟨v, List.getElem?_set_self (by rw [← r.len]; exact hl), .inr h⟩
    · obtain ⟨v', q1, q2⟩ := r.rd j e q
      exact ⟨v', by rw [List.getElem?_set_ne (Ne.symm hj)]; exact q1, q2⟩
  · rcases look q with ⟨rfl, rfl, hl⟩ | ⟨hji, q⟩
    · rw [hw hj] at hc; cases hc
    · obtain ⟨p, q1, q2⟩ := r.ow j e hj q hc
      exact ⟨p, by rw [List.getElem?_set_ne (Ne.symm hji)]; exact q1, q2⟩
  · rcases look q with ⟨rfl, rfl, _⟩ | ⟨hji, q⟩
    · rw [hw hj] at hc; cases hc
    · rcases look q2 with ⟨rfl, rfl, _⟩ | ⟨hli, q2⟩
      · rw [hw hl] at hc2; cases hc2
      · rw [List.getElem?_set_ne (Ne.symm hji)] at z
        rw [List.getElem?_set_ne (Ne.symm hli)] at z2
        exact r.ap j l e e2 p hj hl hne q hc q2 hc2 z z2
/-- a new container for the slot i -/
theorem Rel.setNew {B0 H0 B H : Hp} {σ : L2.St} {env : DEnv} {ω0 ω : Om} (r0 : Rel g B0 σ H0 env ω0) (r : Rel g B σ H env ω) (i : Nat) (hi : i ∈ g.W) {d : D} {p : Addr} (n : New g B0 H0 B H d p) : Rel g B (σ.set i (some (.ref p))) H (env.set i (some d)) ω := by
  have look : ∀ {j e}, (env.set i (some d))[j]? = some (some e) → (j = i ∧ e = d ∧ i < env.length) ∨ (j ≠ i ∧ env[j]? = some (some e)) := fun {j e} q => by
    by_cases hj : j = i
    · subst hj
      have hl : j < env.length := by
        have h1 := (List.getElem?_eq_some_iff.mp q).1
        simpa using h1
      rw [List.getElem?_set_self hl] at q
      exact .inl ⟨rfl, (Option.some.inj (Option.some.inj q)).symm, hl⟩
    · rw [List.getElem?_set_ne (Ne.symm hj)] at q
      exact .inr ⟨hj, q⟩
  -- an owner of old does not stand at the new place
  have apart : ∀ j e, j ∈ g.W → env[j]? = some (some e) → e.cont = true → σ[j]? = some (some (.ref p)) → False := fun j e hj q hc z => by
    obtain ⟨p', q1, q2, _⟩ := r0.ow j e hj q hc
    rw [z] at q1
    cases q1
    obtain ⟨o, ho⟩ := q2.some
    rw [n.new] at ho; cases ho
  refine ⟨r.bas, by simp [r.len], fun j e q => ?_, fun j e hj q hc => ?_, fun j l e e2 p' hj hl hne q hc q2 hc2 z z2 => ?_⟩
  · rcases look q with ⟨rfl, rfl, hl⟩ | ⟨hj, q⟩
    · exact ⟨.ref p, List.getElem?_set_self (by rw [← r.len]; exact hl), .inl ⟨hi, n.cell.cont⟩⟩
    · obtain ⟨v', q1, q2⟩ := r.rd j e q
      exact ⟨v', by rw [List.getElem?_set_ne (Ne.symm hj)]; exact q1, q2⟩
  · rcases look q with ⟨rfl, rfl, hl⟩ | ⟨hji, q⟩
    · exact ⟨p, List.getElem?_set_self (by rw [← r.len]; exact hl), n.cell, n.off, r0.bas.h0 n.new, n.nst, n.nct⟩
    · obtain ⟨p, q1, q2⟩ := r.ow j e hj q hc
      exact ⟨p, by rw [List.getElem?_set_ne (Ne.symm hji)]; exact q1, q2⟩
  · rcases look q with ⟨rfl, rfl, hl2⟩ | ⟨hji, q⟩
    · rcases look q2 with ⟨rfl, _⟩ | ⟨hli, q2⟩
      · exact hne rfl
      · rw [List.getElem?_set_self (by rw [← r.len]; exact hl2)] at z
        rw [List.getElem?_set_ne (Ne.symm hli)] at z2
        cases z
        exact apart l e2 hl q2 hc2 z2
    · rcases look q2 with ⟨el, _, hl2⟩ | ⟨hli, q2⟩
      · rw [el, List.getElem?_set_self (by rw [← r.len]; exact hl2)] at z2
        rw [List.getElem?_set_ne (Ne.symm hji)] at z
        cases z2
        exact apart j e hj q hc z
      · rw [List.getElem?_set_ne (Ne.symm hji)] at z
        rw [List.getElem?_set_ne (Ne.symm hli)] at z2
        exact r.ap j l e e2 p' hj hl hne q hc q2 hc2 z z2
/-! x = e -/
def sAsg (i : Nat) (m : DEnv → M D) : DEnv → M Fl := fun env => do
  let d ← m env
  pure (.nx (env.set i (some d)))
/-- a slot of containers that holds something else for once -/
def sAsgN (i : Nat) (m : DEnv → M D) : DEnv → M Fl := fun env => do
  let d ← m env
  if d.cont = true then M.fail else pure (.nx (env.set i (some d)))
theorem asg_of {i : Nat} {st : Stmt} {m : DEnv → M D} (hW : i ∉ g.W) (h : Fits X g → PS X st (tAsg (tV g m) (gName i))) : PSt X g st (sAsg i m) := ⟨fun f => PS.imp (h f) fun D σ H ⟨B, env, ω, r, ω', rl, q, k⟩ => by
  obtain ⟨d, ω1, q1, q2⟩ := M.bind_some q
  obtain ⟨rfl, rfl⟩ := M.pure_some q2
  exact ⟨B, env, ω, d, ω1, rl, q1, fun z H' ⟨B', m1, rl1, p1⟩ => k _ H' B' m1.ex (rl1.set i (fun hi => absurd hi hW) p1)⟩⟩
theorem asgF_of {i : Nat} {st : Stmt} {m : DEnv → M D} (hW : i ∈ g.W) (h : Fits X g → PS X st (tAsg (tF g m) (gName i))) : PSt X g st (sAsg i m) := ⟨fun f => PS.imp (h f) fun D σ H ⟨B, env, ω, r, ω', rl, q, k⟩ => by
  obtain ⟨d, ω1, q1, q2⟩ := M.bind_some q
  obtain ⟨rfl, rfl⟩ := M.pure_some q2
  exact ⟨B, env, ω, d, ω1, rl, q1, fun z H' ⟨p, B', ez, m1, rl1, n1⟩ => by
    subst ez
    exact k _ H' B' m1.ex (rl.setNew rl1 i hW n1)⟩⟩
theorem asgN_of {i : Nat} {st : Stmt} {m : DEnv → M D} (h : Fits X g → PS X st (tAsg (tV g m) (gName i))) : PSt X g st (sAsgN i m) := ⟨fun f => PS.imp (h f) fun D σ H ⟨B, env, ω, r, ω', rl, q, k⟩ => by
  obtain ⟨d, ω1, q1, q2⟩ := M.bind_some q
  by_cases hc : d.cont = true
  · rw [if_pos hc] at q2
    exact (M.fail_some q2).elim
  · rw [if_neg hc] at q2
    obtain ⟨rfl, rfl⟩ := M.pure_some q2
    exact ⟨B, env, ω, d, ω1, rl, q1, fun z H' ⟨B', m1, rl1, p1⟩ => k _ H' B' m1.ex (rl1.set i (fun hi => Bool.eq_false_iff.mpr hc) p1)⟩⟩
section
variable {x : Str} {e : Expr} {m : DEnv → M D} {pos pos' : Pos}
theorem st_set (i : Nat) (he : PV X g e m) (hi : X.N[i]? = some x := by rfl) (hW : i ∉ g.W := by exact ni_of rfl) (hx : Loc X.env.scope x := by first | exact .inl rfl | exact .inr rfl) (hs : swapsWith e (some (.Name x pos')) pos.line X.env = pure false := by rfl)
    (hf : X.fn x = true ∨ X.env.scope.names.lookup x = some .local := by first | exact .inl rfl | exact .inr rfl) : PSt X g (.Assign [.Name x pos'] e pos) (sAsg i m) := asg_of hW fun f => ps_set f.nd hi hx (he.pe f) hs hf
theorem st_setF (i : Nat) (he : PF X g e m) (hi : X.N[i]? = some x := by rfl) (hW : i ∈ g.W := by exact ii_of rfl) (hx : Loc X.env.scope x := by first | exact .inl rfl | exact .inr rfl) (hs : swapsWith e (some (.Name x pos')) pos.line X.env = pure false := by rfl)
    (hf : X.fn x = true ∨ X.env.scope.names.lookup x = some .local := by first | exact .inl rfl | exact .inr rfl) : PSt X g (.Assign [.Name x pos'] e pos) (sAsg i m) := asgF_of hW fun f => ps_set f.nd hi hx (he.pe f) hs hf
theorem st_setN (i : Nat) (he : PV X g e m) (hi : X.N[i]? = some x := by rfl) (hx : Loc X.env.scope x := by first | exact .inl rfl | exact .inr rfl) (hs : swapsWith e (some (.Name x pos')) pos.line X.env = pure false := by rfl)
    (hf : X.fn x = true ∨ X.env.scope.names.lookup x = some .local := by first | exact .inl rfl | exact .inr rfl) : PSt X g (.Assign [.Name x pos'] e pos) (sAsgN i m) := asgN_of fun f => ps_set f.nd hi hx (he.pe f) hs hf
end
/-! if, return -/
def sIf (t : DEnv → M Bool) (a b : DEnv → M Fl) : DEnv → M Fl := fun env => do if ← t env then a env else b env
theorem st_if {c : Expr} {a b : List Stmt} {t : DEnv → M Bool} {ma mb : DEnv → M Fl} {pos : Pos} (hc : PTt X g c t) (ha : PBl X g a ma) (hb : PBl X g b mb) : PSt X g (.If c a b pos) (sIf t ma mb) := ⟨fun f => PS.imp (ps_if (hc.pt f) (ha.ps f) (hb.ps f)) fun D σ H ⟨B, env, ω, r, ω', rl, q, k⟩ => by
  obtain ⟨c, ω1, q1, q2⟩ := M.bind_some (show (t env >>= fun c => if c = true then ma env else mb env) ω = some (r, ω') from q)
  refine ⟨B, env, ω, c, ω1, rl, q1, fun H' B' m1 rl1 => ?_⟩
  cases c with
  | true => exact ⟨B', env, ω1, r, ω', rl1, q2, k.mono m1.ex⟩
  | false => exact ⟨B', env, ω1, r, ω', rl1, q2, k.mono m1.ex⟩⟩
/-- nothing is changed from here on: all that the def owns joins the base -/
def Gh.still (g : Gh) : Gh := { g with W := [] }
/-- ghosts that read data alike -/
structure Sam (g g' : Gh) : Prop where
  K : g.K = g'.K
  P : g.P = g'.P
  w : g.w = g'.w
  st : g.st = g'.st
mutual
theorem Rp.to {g g' : Gh} (e : Sam g g') {B : Hp} : ∀ {d : D} {v : V}, Rp g B d v → Rp g' B d v
  | _, _, .non => .non
  | _, _, .bl b => .bl b
  | _, _, .int i => .int i
  | _, _, .str x => .str x
  | _, _, .tup h r => .tup (e.K ▸ h) (Rps.to e r)
  | _, _, .lst h r => .lst h (Rps.to e r)
  | _, _, .dicK h r => .dicK h (RpK.to e r)
  | _, _, .dicN h r => .dicN (e.P ▸ e.w ▸ h) (RpN.to e r)
  | _, _, .tok => e.st ▸ .tok
theorem Rps.to {g g' : Gh} (e : Sam g g') {B : Hp} : ∀ {d : List D} {v : List V}, Rps g B d v → Rps g' B d v
  | _, _, .nil => .nil
  | _, _, .cons h r => .cons (Rp.to e h) (Rps.to e r)
theorem RpK.to {g g' : Gh} (e : Sam g g') {B : Hp} : ∀ {d : List (D × D)} {v : List (Key × V)}, RpK g B d v → RpK g' B d v
  | _, _, .nil => .nil
  | _, _, .cons h r => .cons (Rp.to e h) (RpK.to e r)
theorem RpN.to {g g' : Gh} (e : Sam g g') {B : Hp} : ∀ {d : List (D × D)} {v : List (NestedKey × Addr × V)}, RpN g B d v → RpN g' B d v
  | _, _, .nil => .nil
  | _, _, .cons a b h j r => .cons a b (Rp.to e h) (Rp.to e j) (RpN.to e r)
end
theorem Rp.still {B : Hp} {d : D} {v : V} (h : Rp g B d v) : Rp g.still B d v := Rp.to (g := g) (g' := g.still) ⟨rfl, rfl, rfl, rfl⟩ h
theorem Rp.unstill {B : Hp} {d : D} {v : V} (h : Rp g.still B d v) : Rp g B d v := Rp.to (g := g.still) (g' := g) ⟨rfl, rfl, rfl, rfl⟩ h
theorem Bas.still {B H : Hp} {ω : Om} (b : Bas g B H ω) : Bas g.still B H ω := ⟨b.ex, b.nb, b.st, b.fr, b.nw⟩
theorem Bas.unstill {B H : Hp} {ω : Om} (b : Bas g.still B H ω) : Bas g B H ω := ⟨b.ex, b.nb, b.st, b.fr, b.nw⟩
open Classical in
/-- the base with all owned containers -/
noncomputable def baseAll (g : Gh) (B H : Hp) : Hp := fun a => match B a with
  | some o => some o
  | none => if (∃ o, g.H0 a = some o) ∨ a = g.st ∨ a = g.ct then none else H a
theorem baseAll_ex (B H : Hp) : Ex B (baseAll g B H) := fun a o e => by unfold baseAll; rw [e]
open Classical in
theorem baseAll_own {B H : Hp} {p : Addr} (h1 : B p = none) (h2 : g.H0 p = none) (h3 : p ≠ g.st) (h4 : p ≠ g.ct) : baseAll g B H p = H p := by
  unfold baseAll
  rw [h1]
  show (if _ then _ else _) = _
  rw [if_neg]
  rintro (⟨o, h⟩ | h | h)
  · rw [h2] at h; cases h
  · exact h3 h
  · exact h4 h
open Classical in
theorem Bas.all {B H : Hp} {ω : Om} (b : Bas g B H ω) : Bas g (baseAll g B H) H ω := by
  refine ⟨fun a o e => ?_, ⟨?_, ?_⟩, b.st, b.fr, fun a h0 ⟨o, ho⟩ => ?_⟩
  · unfold baseAll at e
    cases h : B a with
    | some u => rw [h] at e; cases e; exact b.ex a _ h
    | none =>
      rw [h] at e
      by_cases hc : (∃ o, g.H0 a = some o) ∨ a = g.st ∨ a = g.ct
      · rw [show (if (∃ o, g.H0 a = some o) ∨ a = g.st ∨ a = g.ct then none else H a) = none from if_pos hc] at e; cases e
      · rw [show (if (∃ o, g.H0 a = some o) ∨ a = g.st ∨ a = g.ct then none else H a) = H a from if_neg hc] at e; exact e
  · unfold baseAll
    rw [b.nb.1]
    exact if_pos (.inr (.inl rfl))
  · unfold baseAll
    rw [b.nb.2]
    exact if_pos (.inr (.inr rfl))
  · unfold baseAll
    rw [b.nw a h0 ⟨o, ho⟩]
    exact if_pos (.inl ⟨o, ho⟩)
theorem Rel.still {B H : Hp} {σ : L2.St} {env : DEnv} {ω : Om} (r : Rel g B σ H env ω) : Rel g.still (baseAll g B H) σ H env ω := by
  refine ⟨r.bas.all.still, r.len, fun i d e => ?_, fun i d hi => (by cases hi), fun i j d e p hi => (by cases hi)⟩
  obtain ⟨v, q1, q2⟩ := r.rd i d e
  refine ⟨v, q1, .inr ?_⟩
  rcases q2 with ⟨hi, hc⟩ | q2
  · obtain ⟨p, z1, z2, z3, z4, z5, z6⟩ := r.ow i d hi e hc
    rw [q1] at z1
    cases z1
    exact (z2.rp (baseAll_ex B H) fun o ho => (baseAll_own z3 z4 z5 z6).trans ho).still
  · exact (q2.mono (baseAll_ex B H)).still
def sRet (m : DEnv → M D) : DEnv → M Fl := fun env => do
  let d ← m env
  pure (.rt d)
theorem Fits.still {X : Cx} {g : Gh} (f : Fits X g) : Fits X g.still := ⟨f.K, f.P, f.w, f.calm, f.nd, f.room⟩
theorem st_ret {e : Expr} {m : DEnv → M D} {pos : Pos} (he : PV X g.still e m) : PSt X g (.Return (some e) pos) (sRet m) := ⟨fun f => PS.imp (ps_ret (he.pe f.still)) fun D σ H ⟨B, env, ω, r, ω', rl, q, k⟩ => by
  obtain ⟨d, ω1, q1, q2⟩ := M.bind_some q
  obtain ⟨rfl, rfl⟩ := M.pure_some q2
  exact ⟨_, env, ω, d, ω1, rl.still, q1, fun z H' ⟨B', m1, rl1, p1⟩ => k z H' B' ((baseAll_ex B H).trans m1.ex) rl1.bas.unstill p1.unstill⟩⟩
end
end Pw
set_option Elab.async false
set_option linter.all false
set_option maxRecDepth 100000
/-! My layer, part 9: defs and their calls; while; for; list comprehensions. -/
namespace Pw
open PySem PySem.Spec PyProof.Rows L2

/-! ### a def's promise -/
/-- of a def that answers as m says: the ghosts are the caller's -/
def spD (K : PySem.W.Frag) (P : Program) (w : World) (m : List D → M D) : Sp := fun vs H Q _ => ∃ (g : Gh) (B : Hp) (ds : List D) (ω : Om) (d : D) (ω' : Om), g.K = K ∧ g.P = P ∧ g.w = w ∧
  Ex B H ∧ B g.st = none ∧ B g.ct = none ∧ StOk g H ω ∧ Rps g B ds vs ∧ m ds ω = some (d, ω') ∧
  ∀ v H' B', Mov g B H B' H' → Ex B' H' → StOk g H' ω' → Rp g B' d v → Q v H'
/-- the def x of the program answers as m says, at most k calls deep -/
def FnD (P : Program) (w : World) (K : PySem.W.Frag) (mg : Str → Option Value) (base : Heap) (k : Nat) (x : Str) (ps : List Str) (m : List D → M D) : Prop :=
  ∃ (f : Addr) (fd : FuncData), mg x = some (.ref f) ∧ PySem.W.keepIn K (.ref f) = true ∧ Binds K fd ps [] ∧ FnOk P w K mg base CX0 k f fd ps (spD K P w m)
theorem FnD.mono {P : Program} {w : World} {K : PySem.W.Frag} {mg : Str → Option Value} {base : Heap} {j k : Nat} {x : Str} {ps : List Str} {m : List D → M D} (F : FnD P w K mg base j x ps m) (h : j ≤ k) : FnD P w K mg base k x ps m := by
  obtain ⟨f, fd, h1, h2, h3, h4⟩ := F
  exact ⟨f, fd, h1, h2, h3, h4.mono h⟩
/-- an m that is defined less often -/
theorem FnD.imp {P : Program} {w : World} {K : PySem.W.Frag} {mg : Str → Option Value} {base : Heap} {k : Nat} {x : Str} {ps : List Str} {m m' : List D → M D} (F : FnD P w K mg base k x ps m) (h : ∀ ds ω d ω', m' ds ω = some (d, ω') → m ds ω = some (d, ω')) : FnD P w K mg base k x ps m' := by
  obtain ⟨f, fd, h1, h2, h3, h4⟩ := F
  refine ⟨f, fd, h1, h2, h3, h4.imp fun vs H Q E q => ?_⟩
  obtain ⟨g, B, ds, ω, d, ω', a1, a2, a3, a4, a5, a6, a7, a8, a9, a10⟩ := q
  exact ⟨g, B, ds, ω, d, ω', a1, a2, a3, a4, a5, a6, a7, a8, h _ _ _ _ a9, a10⟩
section
variable {X : Cx} {g : Gh}
section
variable {x : Str} {ps : List Str} {m : List D → M D} {e : Expr} {es : List Expr} {ms : List (DEnv → M D)} {p pos : Pos} {k : Nat}
/-- f(e, ..), f a def of the program -/
theorem pv_fn (F : FnD X.prog X.w X.K X.mg X.base k x ps m) (ha : PAs X g (e :: es) ms) (hk : k ≤ g.k := by exact Nat.le_of_ble_eq_true rfl) (hg : Gl X x := by rfl) (hdb : (x == ("__debug__" : Str)) = false := by decide)
    (he : starEach (e :: es) X.env = (false, eval e X.env) :: starEach es X.env := by rfl) (hpl : (backTo pos (starEach es X.env)).any (·.1) = false := by rfl) : PV X g (.Call (.Name x p) (e :: es) [] pos) (eCall m ms) := ⟨fun f pins s σ H B env ω d ω' I r q => by
  obtain ⟨ds, ω1, h1, h2⟩ := M.bind_some q
  obtain ⟨fa, fd, f1, f2, f3, f4⟩ := F
  refine thn ((pe_call f4 (f.room.mono hk) hg f1 f2 f3 .nil pass0 (ha.pa f) hdb he hpl).run pins s σ H (Qv g σ env B H d ω') I ⟨B, env, ω, ds, ω1, r, h1, fun vs H1 B1 m1 rl1 rp1 => ?_⟩) fun _ _ w => Qv.of w
  show spD X.K X.prog X.w m (vs ++ []) H1 _ _
  rw [List.append_nil]
  refine ⟨g, B1, ds, ω1, d, ω', f.K, f.P, f.w, rl1.bas.ex, rl1.bas.nb.1, rl1.bas.nb.2, rl1.bas.st, rp1, h2, fun v H2 B2 m2 ex2 st2 rp2 => ?_⟩
  exact ⟨B2, m1.trans m2 r.bas.st rl1.bas.st, rl1.mov m2 (rl1.bas.mov m2 ex2 st2), rp2⟩⟩
/-- the same, containers lent to it: what comes back has no list, no dict -/
def immM (m : List D → M D) : List D → M D := fun ds => do
  let d ← m ds
  if d.imm = true then pure d else M.fail
/-- what is lent joins the base for the call -/
theorem Rbs.lent {B H : Hp} (ex : Ex B H) : ∀ {ds : List D} {vs : List V}, Rbs g B H ds vs → ∃ Bc, Ex B Bc ∧ Ex Bc H ∧ Rps g Bc ds vs ∧ ∀ a, B a = none → (∃ o, Bc a = some o) → ∃ d, Cell g B H d a ∧ a ≠ g.st ∧ a ≠ g.ct
  | _, _, .nil => ⟨B, Ex.refl B, ex, .nil, fun a h ⟨o, ho⟩ => by rw [h] at ho; cases ho⟩
  | _, _, .cons (d := d) (v := v) h t => by
    obtain ⟨Bc, e1, e2, r, hc⟩ := Rbs.lent ex t
    rcases h with h | ⟨p, rfl, c, h1, h2⟩
    · exact ⟨Bc, e1, e2, .cons (h.mono e1) r, hc⟩
    · cases hb : Bc p with
      | some o =>
        refine ⟨Bc, e1, e2, .cons (c.rp e1 fun o' ho' => ?_) r, hc⟩
        have := e2 p o hb
        rw [ho'] at this
        rw [hb, this]
      | none =>
        obtain ⟨o, ho⟩ := c.some
        have e3 : Ex Bc (upd Bc p o) := Ex.new hb
        refine ⟨upd Bc p o, e1.trans e3, fun a u e => ?_, .cons (c.rp (e1.trans e3) fun o' ho' => by rw [ho] at ho'; cases ho'; exact upd_same) (r.mono e3), fun a h ⟨u, hu⟩ => ?_⟩
        · by_cases hp : a = p
          · subst hp; rw [upd_same] at e; cases e; exact ho
          · rw [upd_ne hp] at e; exact e2 a u e
        · by_cases hp : a = p
          · subst hp; exact ⟨d, c, h1, h2⟩
          · rw [upd_ne hp] at hu; exact hc a h ⟨u, hu⟩
open Classical in
theorem lent_back {B Bc B' H H' : Hp} {d : D} {v : V} {ω ω' : Om} (b : Bas g B H ω) (e1 : Ex B Bc) (e2 : Ex Bc H) (hc : ∀ a, B a = none → (∃ o, Bc a = some o) → ∃ d, Cell g B H d a ∧ a ≠ g.st ∧ a ≠ g.ct)
    (m : Mov g Bc H B' H') (ex : Ex B' H') (st : StOk g H' ω') (hi : d.imm = true) (r : Rp g B' d v) : ∃ B2, Mov g B H B2 H' ∧ Bas g B2 H' ω' ∧ Rp g B2 d v := by
  let B2 : Hp := fun a => if B a = none ∧ ∃ o, Bc a = some o then none else B' a
  have hB2 : ∀ a o, B2 a = some o → B' a = some o := fun a o e => by
    by_cases h : B a = none ∧ ∃ o, Bc a = some o
    · rw [show B2 a = none from if_pos h] at e; cases e
    · rw [show B2 a = B' a from if_neg h] at e; exact e
  have m2 : Mov g B H B2 H' := by
    refine ⟨fun a o e => ?_, m.fr, fun a h ho => ?_⟩
    · have h : ¬ (B a = none ∧ ∃ o, Bc a = some o) := fun z => by rw [z.1] at e; cases e
      rw [show B2 a = B' a from if_neg h]
      exact m.ex a o (e1 a o e)
    · by_cases hb : ∃ o, Bc a = some o
      · exact if_pos ⟨h, hb⟩
      · rw [show B2 a = B' a from if_neg fun z => hb z.2]
        refine m.nw a ?_ ho
        cases q : Bc a with
        | none => rfl
        | some o => exact absurd ⟨o, q⟩ hb
  refine ⟨B2, m2, b.mov m2 (fun a o e => ex a o (hB2 a o e)) st, r.imm (fun a xs ht => ?_) hi⟩
  -- tuples are not lent
  have key : ∀ o, B' a = some o → Rd B' a (.tup xs) → B2 a = some o := fun o ho ht => by
    by_cases h : B a = none ∧ ∃ o, Bc a = some o
    · obtain ⟨d', c, z1, z2⟩ := hc a h.1 h.2
      obtain ⟨u, hu⟩ := c.some
      have hH' := m.fr a u hu z1 z2
      have hu' : H' a = some o := ex a o ho
      rw [hH'] at hu'
      cases hu'
      refine (c.notTup (xs := xs) ?_).elim
      rcases ht with ht | ⟨ob, ht⟩
      · rw [ho] at ht; cases ht; exact .inl hu
      · rw [ho] at ht; cases ht; exact .inr ⟨ob, hu⟩
    · rw [show B2 a = B' a from if_neg h]; exact ho
  rcases ht with ht | ⟨ob, ht⟩
  · exact .inl (key _ ht (.inl ht))
  · exact .inr ⟨ob, key _ ht (.inr ⟨ob, ht⟩)⟩
theorem pv_fnB (F : FnD X.prog X.w X.K X.mg X.base k x ps m) (ha : PBs X g (e :: es) ms) (hk : k ≤ g.k := by exact Nat.le_of_ble_eq_true rfl) (hg : Gl X x := by rfl) (hdb : (x == ("__debug__" : Str)) = false := by decide)
    (he : starEach (e :: es) X.env = (false, eval e X.env) :: starEach es X.env := by rfl) (hpl : (backTo pos (starEach es X.env)).any (·.1) = false := by rfl) : PV X g (.Call (.Name x p) (e :: es) [] pos) (eCall (immM m) ms) := ⟨fun f pins s σ H B env ω d ω' I r q => by
  obtain ⟨ds, ω1, h1, h2⟩ := M.bind_some q
  obtain ⟨d1, ω2, h2, h3⟩ := M.bind_some h2
  obtain ⟨hi, rfl, rfl⟩ := if_some h3
  obtain ⟨fa, fd, f1, f2, f3, f4⟩ := F
  refine thn ((pe_call f4 (f.room.mono hk) hg f1 f2 f3 .nil pass0 (ha.pa f) hdb he hpl).run pins s σ H (Qv g σ env B H d ω') I ⟨B, env, ω, ds, ω1, r, h1, fun vs H1 B1 m1 rl1 rp1 => ?_⟩) fun _ _ w => Qv.of w
  show spD X.K X.prog X.w m (vs ++ []) H1 _ _
  rw [List.append_nil]
  obtain ⟨Bc, e1, e2, rps, hc⟩ := rp1.lent rl1.bas.ex
  have nbc : ∀ a, B1 a = none → (∃ o, H1 a = some o) → (a = g.st ∨ a = g.ct) → Bc a = none := fun a h _ hs => by
    cases q : Bc a with
    | none => rfl
    | some o =>
      obtain ⟨_, _, z1, z2⟩ := hc a h ⟨o, q⟩
      rcases hs with z | z
      · exact absurd z z1
      · exact absurd z z2
  refine ⟨g, Bc, ds, ω1, d, ω', f.K, f.P, f.w, e2, nbc _ rl1.bas.nb.1 ⟨_, rl1.bas.st.2.1⟩ (.inl rfl), nbc _ rl1.bas.nb.2 ⟨_, rl1.bas.st.2.2⟩ (.inr rfl), rl1.bas.st, rps, h2, fun v H2 B2 m2 ex2 st2 rp2 => ?_⟩
  obtain ⟨B3, m3, b3, rp3⟩ := lent_back rl1.bas e1 e2 hc m2 ex2 st2 hi rp2
  exact ⟨B3, m1.trans m3 r.bas.st rl1.bas.st, rl1.mov m3 b3, rp3⟩⟩
end
/-! ### a def by its body -/
def startE (n : Nat) (ds : List D) : DEnv := ds.map some ++ List.replicate (n - ds.length) none
def fnM (n a : Nat) (mb : DEnv → M Fl) : List D → M D := fun ds => if ds.length = a then (do
    match ← mb (startE n ds) with
    | .rt d => pure d
    | .nx _ => pure .non
    | .bk _ => M.fail) else M.fail
theorem startE_get {n : Nat} {ds : List D} {i : Nat} {d : D} (h : (startE n ds)[i]? = some (some d)) : ds[i]? = some d := by
  unfold startE at h
  by_cases hi : i < ds.length
  · rw [List.getElem?_append_left (by simpa using hi), List.getElem?_map] at h
    cases e : ds[i]? with
    | none => rw [e] at h; cases h
    | some x => rw [e] at h; cases h; rfl
  · rw [List.getElem?_append_right (by simpa using hi)] at h
    have := List.mem_of_getElem? h
    rw [List.mem_replicate] at this
    exact absurd this.2 (by simp)
theorem start_get {N : List Str} {vs : List V} {i : Nat} {v : V} (h : vs[i]? = some v) : (L2.start N vs)[i]? = some (some v) := by
  unfold L2.start
  have hi := (List.getElem?_eq_some_iff.mp h).1
  rw [List.getElem?_append_left (by simpa using hi), List.getElem?_map, h]
  rfl
theorem fnD_of {P : Program} {w : World} {K : PySem.W.Frag} {mg : Str → Option Value} {base : Heap} {x : Str} {st : Stmt} {f : Addr} {fd : FuncData} {N ps : List Str} {k : Nat} {W : List Nat} {mb : DEnv → M Fl} (F : Fun K x x st f fd) (hx : mg x = some (.ref f)) (S : FnScope N ps (defScope st)) (hb : Binds K fd ps []) (hW : ∀ i ∈ W, ps.length ≤ i)
    (body : ∀ (cdv : Value) (A : Around) (outer : List Env) (s : Shared) (H : Hp) (E : XK) (g : Gh), g.W = W → g.k = k → PBl (cxOf CX0 P w K mg base N x (defScope st) f cdv A outer s H E).nox g (defBody st) mb) : FnD P w K mg base (k + 1) x ps (fnM N.length ps.length mb) := by
  refine ⟨f, fd, hx, F.kp, hb, F.ok S (fun vs H Q E h => ?_) (fun cdv A outer s H vs Q E hr h => ?_)⟩
  · obtain ⟨g, B, ds, ω, d, ω', _, _, _, _, _, _, _, rps, hm, _⟩ := h
    unfold fnM at hm
    by_cases hl : ds.length = ps.length
    · rw [← rps.length]; exact hl
    · rw [if_neg hl] at hm; exact (M.fail_some hm).elim
  · obtain ⟨g0, B, ds, ω, d, ω', hK, hP, hw, ex, nb1, nb2, st0, rps, hm, hq⟩ := h
    let g : Gh := { g0 with H0 := H, B0 := B, W := W, k := k }
    have fits : Fits (cxOf CX0 P w K mg base N x (defScope st) f cdv A outer s H E).nox g := ⟨hK, hP, hw, rfl, S.nd, hr⟩
    refine ⟨_, (body cdv A outer s H E g rfl rfl).ps fits, ?_⟩
    unfold fnM at hm
    by_cases hl : ds.length = ps.length
    · rw [if_pos hl] at hm
      obtain ⟨r, ω1, h1, h2⟩ := M.bind_some hm
      have conv : ∀ {d : D} {v : V} {B : Hp}, Rp g0 B d v → Rp g B d v := fun h => Rp.to (g := g0) (g' := g) ⟨rfl, rfl, rfl, rfl⟩ h
      have convs : ∀ {d : List D} {v : List V} {B : Hp}, Rps g0 B d v → Rps g B d v := fun h => Rps.to (g := g0) (g' := g) ⟨rfl, rfl, rfl, rfl⟩ h
      have back : ∀ {d : D} {v : V} {B : Hp}, Rp g B d v → Rp g0 B d v := fun h => Rp.to (g := g) (g' := g0) ⟨rfl, rfl, rfl, rfl⟩ h
      have bas : Bas g B H ω := ⟨ex, ⟨nb1, nb2⟩, st0, fun a o e _ _ => e, fun a e _ => e⟩
      have hN : ps.length ≤ N.length := by
        have := congrArg List.length S.pre
        rw [List.length_take] at this
        omega
      have rl : Rel g B (L2.start N vs) H (startE N.length ds) ω := by
        refine ⟨bas, ?_, fun i d e => ?_, fun i d hi e hc => ?_, fun i j d e p hi hj hne q hc => ?_⟩
        · unfold startE L2.start
          have := rps.length
          simp [this]
        · obtain ⟨v, hv, rv⟩ := (convs rps).get (startE_get e)
          exact ⟨v, start_get hv, .inr rv⟩
        · have := hW i hi
          have h3 := (List.getElem?_eq_some_iff.mp (startE_get e)).1
          omega
        · have := hW i hi
          have h3 := (List.getElem?_eq_some_iff.mp (startE_get q)).1
          omega
      refine ⟨B, _, ω, r, ω1, rl, h1, ?_⟩
      have mv : ∀ {B' H' : Hp} {ω2 : Om}, Ex B B' → Bas g B' H' ω2 → Mov g0 B H B' H' := fun e b => ⟨e, b.fr, b.nw⟩
      cases r with
      | nx env' =>
        obtain ⟨rfl, rfl⟩ := M.pure_some h2
        exact fun σ' H' B' e r' => hq .non H' B' (mv e r'.bas) r'.bas.ex r'.bas.st .non
      | rt d' =>
        obtain ⟨rfl, rfl⟩ := M.pure_some h2
        exact fun v H' B' e b rp => hq v H' B' (mv e b) b.ex b.st (back rp)
      | bk env' => exact (M.fail_some h2).elim
    · rw [if_neg hl] at hm; exact (M.fail_some hm).elim
/-! ### while -/
def whileN (c : DEnv → M Bool) (b : DEnv → M Fl) : Nat → DEnv → M Fl
  | 0, _ => M.fail
  | n + 1, env => do
    if ← c env then
      match ← b env with
      | .nx env' => whileN c b n env'
      | .bk env' => pure (.nx env')
      | .rt d => pure (.rt d)
    else pure (.nx env)
theorem whileN_mono {c : DEnv → M Bool} {b : DEnv → M Fl} : ∀ {n k : Nat} {env : DEnv} {ω : Om} {r : Fl × Om}, whileN c b n env ω = some r → n ≤ k → whileN c b k env ω = some r
  | 0, _, _, _, _, h, _ => by cases h
  | n + 1, 0, _, _, _, _, hk => absurd hk (by omega)
  | n + 1, k + 1, env, ω, (r, ω'), h, hk => by
    obtain ⟨t, ω1, h1, h2⟩ := M.bind_some h
    show (c env >>= _) ω = _
    rw [M.bind_run, h1]
    show (if t = true then _ else _ : M Fl) ω1 = _
    cases t with
    | false => exact h2
    | true =>
      obtain ⟨f, ω2, h3, h4⟩ := M.bind_some h2
      show (b env >>= _) ω1 = _
      rw [M.bind_run, h3]
      cases f with
      | nx env' => exact whileN_mono h4 (by omega)
      | bk env' => exact h4
      | rt d => exact h4
open Classical in
/-- a loop that ends: what it leaves -/
noncomputable def sWhile (c : DEnv → M Bool) (b : DEnv → M Fl) : DEnv → M Fl := fun env ω => if h : ∃ n r, whileN c b n env ω = some r then some h.choose_spec.choose else none
theorem sWhile_of {c : DEnv → M Bool} {b : DEnv → M Fl} {n : Nat} {env : DEnv} {ω : Om} {r : Fl × Om} (h : whileN c b n env ω = some r) : sWhile c b env ω = some r := by
  have hx : ∃ n r, whileN c b n env ω = some r := ⟨n, r, h⟩
  unfold sWhile
  rw [dif_pos hx]
  have h2 := hx.choose_spec.choose_spec
  have h3 := whileN_mono h2 (Nat.le_max_left hx.choose n)
  have h4 := whileN_mono h (Nat.le_max_right hx.choose n)
  rw [h3] at h4
  exact h4
theorem sWhile_some {c : DEnv → M Bool} {b : DEnv → M Fl} {env : DEnv} {ω : Om} {r : Fl × Om} (h : sWhile c b env ω = some r) : ∃ n, whileN c b n env ω = some r := by
  unfold sWhile at h
  split at h
  · rename_i hx
    cases h
    exact ⟨_, hx.choose_spec.choose_spec⟩
  · cases h
theorem st_while {c : Expr} {body : List Stmt} {t : DEnv → M Bool} {mb : DEnv → M Fl} {pos : Pos} (hc : PTt X g c t) (hb : PBl X g body mb) (hp : PassesOwn (model X.prog X.w) X.A X.env X.xe := by exact PassesOwn.never) : PSt X g (.While c body [] pos) (sWhile t mb) :=
  ⟨fun f => PS.imp (ps_while hp (hc.pt f) (hb.ps f)) fun D σ H ⟨B, env, ω, r, ω', rl, q, k⟩ => by
  obtain ⟨n, hn⟩ := sWhile_some q
  refine ⟨fun j σ1 H1 => ∃ B1 env1 ω1, Ex B B1 ∧ Rel g B1 σ1 H1 env1 ω1 ∧ whileN t mb j env1 ω1 = some (r, ω'), ⟨n, B, env, ω, Ex.refl B, rl, hn⟩, ?_⟩
  rintro j σ1 H1 ⟨B1, env1, ω1, e1, rl1, h1⟩
  cases j with
  | zero => cases h1
  | succ j =>
    obtain ⟨b, ω2, h2, h3⟩ := M.bind_some h1
    refine ⟨B1, env1, ω1, b, ω2, rl1, h2, fun H2 B2 m2 rl2 => ?_⟩
    cases b with
    | false =>
      obtain ⟨rfl, rfl⟩ := M.pure_some h3
      exact k σ1 H2 B2 (e1.trans m2.ex) rl2
    | true =>
      obtain ⟨fl, ω3, h4, h5⟩ := M.bind_some h3
      refine ⟨fun σ3 H3 => ∃ B3 env3, fl = .nx env3 ∧ Ex B B3 ∧ Rel g B3 σ3 H3 env3 ω3, fun σ3 H3 ⟨B3, env3, ef, e3, rl3⟩ => ?_, B2, env1, ω2, fl, ω3, rl2, h4, ?_⟩
      · subst ef
        exact ⟨j, Nat.lt_succ_self j, B3, env3, ω3, e3, rl3, h5⟩
      · cases fl with
        | nx env3 => exact fun σ3 H3 B3 e3 rl3 => ⟨B3, env3, rfl, (e1.trans m2.ex).trans e3, rl3⟩
        | bk env3 =>
          obtain ⟨rfl, rfl⟩ := M.pure_some h5
          exact fun σ3 H3 B3 e3 rl3 => k σ3 H3 B3 ((e1.trans m2.ex).trans e3) rl3
        | rt d =>
          obtain ⟨rfl, rfl⟩ := M.pure_some h5
          exact fun v H3 B3 e3 b3 rp => k v H3 B3 ((e1.trans m2.ex).trans e3) b3 rp⟩
/-! ### what is walked -/
/-- at each turn -/
structure ItAt (g : Gh) (B H : Hp) (J : It) (ds : List D) : Prop where
  go : ∀ i, i < ds.length → J.go i H
  stop : ∀ i, i = ds.length → J.stop i H
  yld : ∀ i x H' d, J.yld i H x H' → ds[i]? = some d → (H' = H ∧ Rp g B d x) ∨ ∃ p o, H p = none ∧ H' = upd H p o ∧ Rp g (upd B p o) d x
/-- as long as what stood stands (a comprehension); as long as the base stands (a loop) -/
def ItB (g : Gh) (B H : Hp) (J : It) (ds : List D) : Prop := ∀ B2 H2, (∀ a o, H a = some o → a ≠ g.st → a ≠ g.ct → H2 a = some o) → Ex B B2 → Ex B2 H2 → ItAt g B2 H2 J ds
def ItF (g : Gh) (B : Hp) (J : It) (ds : List D) : Prop := ∀ B2 H2, Ex B B2 → Ex B2 H2 → ItAt g B2 H2 J ds
structure PIb (X : Cx) (g : Gh) (tg iter : Expr) (m : DEnv → M (List D)) : Prop where
  run : Fits X g → ∀ pins s σ H B env ω ds ω', Inv X pins σ H s → Rel g B σ H env ω → m env ω = some (ds, ω') →
    wpAny (model X.prog X.w) X.A (eval iter X.env) (fun v s1 => wpAny (model X.prog X.w) X.A (pyIter v) (PIE X pins σ tg fun J H' => ∃ B', Mov g B H B' H' ∧ Rel g B' σ H' env ω' ∧ ItB g B' H' J ds) X.xe s1) X.xe s
structure PIf (X : Cx) (g : Gh) (tg iter : Expr) (m : DEnv → M (List D)) : Prop where
  run : Fits X g → ∀ pins s σ H B env ω ds ω', Inv X pins σ H s → Rel g B σ H env ω → m env ω = some (ds, ω') →
    wpAny (model X.prog X.w) X.A (eval iter X.env) (fun v s1 => wpAny (model X.prog X.w) X.A (pyIter v) (PIE X pins σ tg fun J H' => ∃ B', Mov g B H B' H' ∧ Rel g B' σ H' env ω' ∧ ItF g B' J ds) X.xe s1) X.xe s
def iB (g : Gh) (m : DEnv → M (List D)) : TI := fun σ H R => ∃ B env ω ds ω', Rel g B σ H env ω ∧ m env ω = some (ds, ω') ∧ ∀ J H' B', Mov g B H B' H' → Rel g B' σ H' env ω' → ItB g B' H' J ds → R J H'
def iF (g : Gh) (m : DEnv → M (List D)) : TI := fun σ H R => ∃ B env ω ds ω', Rel g B σ H env ω ∧ m env ω = some (ds, ω') ∧ ∀ J H' B', Mov g B H B' H' → Rel g B' σ H' env ω' → ItF g B' J ds → R J H'
theorem pie_imp {pins : List (Addr × Obj)} {σ : L2.St} {tg : Expr} {R R' : It → Hp → Prop} {v : Value} {s : Shared} (h : PIE X pins σ tg R v s) (k : ∀ J H, R J H → R' J H) : PIE X pins σ tg R' v s := by
  obtain ⟨it, fp, tn, J, H', h1, h2, h3, h4, h5, h6⟩ := h
  exact ⟨it, fp, tn, J, H', h1, h2, h3, h4, h5, k J H' h6⟩
theorem PIb.pi {tg iter : Expr} {m : DEnv → M (List D)} (h : PIb X g tg iter m) (f : Fits X g) : PI X tg iter (iB g m) := ⟨fun pins s σ H R I ⟨B, env, ω, ds, ω', r, q, k⟩ =>
  thn (h.run f pins s σ H B env ω ds ω' I r q) fun v s1 w => thn w fun u s2 z => pie_imp z fun J H' ⟨B', m1, rl1, it⟩ => k J H' B' m1 rl1 it⟩
theorem PIf.pi {tg iter : Expr} {m : DEnv → M (List D)} (h : PIf X g tg iter m) (f : Fits X g) : PI X tg iter (iF g m) := ⟨fun pins s σ H R I ⟨B, env, ω, ds, ω', r, q, k⟩ =>
  thn (h.run f pins s σ H B env ω ds ω' I r q) fun v s1 w => thn w fun u s2 z => pie_imp z fun J H' ⟨B', m1, rl1, it⟩ => k J H' B' m1 rl1 it⟩
/-- the items of a list or a tuple -/
def itemsM : D → M (List D)
  | .lst ds => pure ds
  | .tup ds => pure ds
  | _ => M.fail
def eItems (m : DEnv → M D) : DEnv → M (List D) := fun env => do
  let d ← m env
  itemsM d
theorem itemsM_some {d : D} {ds : List D} {ω ω' : Om} (h : itemsM d ω = some (ds, ω')) : (d = .lst ds ∨ d = .tup ds) ∧ ω' = ω := by
  cases d with
  | lst es => obtain ⟨rfl, rfl⟩ := M.pure_some (show (pure es : M (List D)) ω = some (ds, ω') from h); exact ⟨.inl rfl, rfl⟩
  | tup es => obtain ⟨rfl, rfl⟩ := M.pure_some (show (pure es : M (List D)) ω = some (ds, ω') from h); exact ⟨.inr rfl, rfl⟩
  | _ => exact (M.fail_some (ω := ω) h).elim
theorem itl_at {K : PySem.W.Frag} {B H : Hp} {a : Addr} {xs : List V} {ds : List D} (h : SqL K H a xs) (r : Rps g B ds xs) : ItAt g B H (Itl K a) ds where
  go := fun i hi => by
    have hi' : i < xs.length := by rw [← r.length]; exact hi
    exact ⟨xs, xs[i], h, List.getElem?_eq_getElem hi'⟩
  stop := fun i hi => ⟨xs, h, by rw [← r.length]; exact Nat.le_of_eq hi.symm⟩
  yld := fun i x H' d ⟨e, f⟩ hd => by
    obtain ⟨v, hv, rv⟩ := r.get hd
    have := f xs h
    rw [hv] at this
    cases this
    exact .inl ⟨e, rv⟩
theorem itt_at {K : PySem.W.Frag} {B H : Hp} {a : Addr} {xs : List V} {ds : List D} (h : SqT K H a xs) (r : Rps g B ds xs) : ItAt g B H (Itt K a) ds where
  go := fun i hi => by
    have hi' : i < xs.length := by rw [← r.length]; exact hi
    exact ⟨xs, xs[i], h, List.getElem?_eq_getElem hi'⟩
  stop := fun i hi => ⟨xs, h, by rw [← r.length]; exact Nat.le_of_eq hi.symm⟩
  yld := fun i x H' d ⟨e, f⟩ hd => by
    obtain ⟨v, hv, rv⟩ := r.get hd
    have := f xs h
    rw [hv] at this
    cases this
    exact .inl ⟨e, rv⟩
theorem iter_lst {pins : List (Addr × Obj)} {σ : L2.St} {tg : Expr} {H : Hp} {s : Shared} {a : Addr} {xs : List V} {R : It → Hp → Prop} {E : Value → Shared → Prop} (I : Inv X pins σ H s) (h : SqL X.K H a xs) (q : R (Itl X.K a) H) : wpAny (model X.prog X.w) X.A (pyIter (.ref a)) (PIE X pins σ tg R) E s := by
  obtain ⟨its, rv, p, hz⟩ := I.list h
  refine wpAny_pyIter_list p.isList ?_
  refine ⟨s.heap.objs.size, [s.heap.objs.size], _, _, H, rfl, I.kept (t' := s.toks) fun b o e => Heap.get?_push_of_some _ e, turn_list a _, ⟨_, Heap.get?_push_size _ rfl, rfl, rfl⟩, fun b hb => ?_, q⟩
  have e : b = s.heap.objs.size := by simpa using hb
  rw [e]
  exact I.fpOk (Nat.le_refl _) (I.hok.fresh (Nat.le_refl _))
theorem iter_tup {pins : List (Addr × Obj)} {σ : L2.St} {tg : Expr} {H : Hp} {s : Shared} {a : Addr} {xs : List V} {R : It → Hp → Prop} {E : Value → Shared → Prop} (I : Inv X pins σ H s) (h : SqT X.K H a xs) (q : R (Itt X.K a) H) : wpAny (model X.prog X.w) X.A (pyIter (.ref a)) (PIE X pins σ tg R) E s := by
  obtain ⟨its, rv, p, hz⟩ := I.tuple h
  refine wpAny_pyIter_tuple p ?_
  refine ⟨s.heap.objs.size, [s.heap.objs.size], _, _, H, rfl, I.kept (t' := s.toks) fun b o e => Heap.get?_push_of_some _ e, turn_tuple a _, ⟨_, Heap.get?_push_size _ rfl, rfl, rfl⟩, fun b hb => ?_, q⟩
  have e : b = s.heap.objs.size := by simpa using hb
  rw [e]
  exact I.fpOk (Nat.le_refl _) (I.hok.fresh (Nat.le_refl _))
section
variable {tg e : Expr} {m : DEnv → M D}
theorem pib_seq (h : PB X g e m) : PIb X g tg e (eItems m) := ⟨fun f pins s σ H B env ω ds ω' I r q => by
  obtain ⟨d, ω1, h1, h2⟩ := M.bind_some q
  obtain ⟨hd, rfl⟩ := itemsM_some h2
  refine thn (h.run f pins s σ H B env ω d ω' I r h1) fun u s1 ⟨v, H1, B1, I1, rv, m1, rl1, k1⟩ => ?_
  rcases hd with rfl | rfl
  · rcases k1 with k1 | ⟨p, rfl, c, z1, z2⟩
    · cases k1 with
      | lst ha rp =>
        cases rv
        exact iter_lst I1 (sqL_of (rl1.bas.ex _ _ ha)) ⟨B1, m1, rl1, fun B2 H2 hk e1 e2 => itl_at (sqL_of (e2 _ _ (e1 _ _ ha))) (rp.mono e1)⟩
    · cases c with
      | lst ha rp =>
        cases rv
        exact iter_lst I1 (sqL_of ha) ⟨B1, m1, rl1, fun B2 H2 hk e1 e2 => itl_at (sqL_of (hk _ _ ha z1 z2)) (rp.mono e1)⟩
  · have k2 : Rp g B1 (.tup ds) v := by
      rcases k1 with k1 | ⟨_, _, c, _⟩
      · exact k1
      · cases c
    cases k2 with
    | tup ha rp =>
      cases rv
      exact iter_tup I1 (f.K ▸ rl1.bas.ex.sqT ha) ⟨B1, m1, rl1, fun B2 H2 hk e1 e2 => itt_at (f.K ▸ e2.sqT (e1.sqT ha)) (rp.mono e1)⟩⟩
theorem pif_seq (h : PV X g e m) : PIf X g tg e (eItems m) := ⟨fun f pins s σ H B env ω ds ω' I r q => by
  obtain ⟨d, ω1, h1, h2⟩ := M.bind_some q
  obtain ⟨hd, rfl⟩ := itemsM_some h2
  refine thn (h.run f pins s σ H B env ω d ω' I r h1) fun u s1 ⟨v, H1, B1, I1, rv, m1, rl1, k1⟩ => ?_
  rcases hd with rfl | rfl
  · cases k1 with
    | lst ha rp =>
      cases rv
      exact iter_lst I1 (sqL_of (rl1.bas.ex _ _ ha)) ⟨B1, m1, rl1, fun B2 H2 e1 e2 => itl_at (sqL_of (e2 _ _ (e1 _ _ ha))) (rp.mono e1)⟩
  · cases k1 with
    | tup ha rp =>
      cases rv
      exact iter_tup I1 (f.K ▸ rl1.bas.ex.sqT ha) ⟨B1, m1, rl1, fun B2 H2 e1 e2 => itt_at (f.K ▸ e2.sqT (e1.sqT ha)) (rp.mono e1)⟩⟩
end
/-! ranges -/
def rangeD (lo hi : Int) : List D := (List.range (hi - lo).toNat).map fun (i : Nat) => D.int (lo + i)
def eRng1 (a : DEnv → M D) : DEnv → M (List D) := fun env => do
  match ← a env with
  | .int n => if n ≤ LIM ∧ -(2 ^ 62) ≤ n then pure (rangeD 0 n) else M.fail
  | _ => M.fail
def eRng2 (a b : DEnv → M D) : DEnv → M (List D) := fun env => do
  match ← a env with
  | .int m => do
    match ← b env with
    | .int n => if (-(2 ^ 62) ≤ m ∧ m < 2 ^ 62) ∧ (-(2 ^ 62) ≤ n ∧ n < 2 ^ 62) ∧ n - m ≤ LIM then pure (rangeD m n) else M.fail
    | _ => M.fail
  | _ => M.fail
theorem itr_at {B H : Hp} (lo hi : Int) : ItAt g B H (Itr lo (hi - lo).toNat) (rangeD lo hi) where
  go := fun i h => by
    have e : (rangeD lo hi).length = (hi - lo).toNat := by simp [rangeD]
    rw [e] at h
    exact h
  stop := fun i h => by
    have e : (rangeD lo hi).length = (hi - lo).toNat := by simp [rangeD]
    rw [e] at h
    exact Nat.le_of_eq h.symm
  yld := fun i x H' d ⟨e, f⟩ hd => by
    subst f
    have h : d = .int (lo + (i : Nat)) := by
      unfold rangeD at hd
      rw [List.getElem?_map] at hd
      obtain ⟨j, hj, rfl⟩ := Option.map_eq_some_iff.mp hd
      obtain ⟨h1, h2⟩ := List.getElem?_eq_some_iff.mp hj
      rw [List.getElem_range] at h2
      rw [h2]
    subst h
    exact .inl ⟨e, .int _⟩
section
variable {tg a b : Expr} {ma mb : DEnv → M D} {p pos : Pos}
theorem rng1_some {env : DEnv} {ω ω' : Om} {ds : List D} (h : eRng1 ma env ω = some (ds, ω')) : ∃ n : Int, ma env ω = some (.int n, ω') ∧ n ≤ LIM ∧ -(2 ^ 62) ≤ n ∧ ds = rangeD 0 n := by
  obtain ⟨d, ω1, h1, h2⟩ := M.bind_some h
  cases d with
  | int n =>
    obtain ⟨hc, rfl, rfl⟩ := if_some h2
    exact ⟨n, h1, hc.1, hc.2, rfl⟩
  | _ => exact (M.fail_some h2).elim
theorem rng2_some {env : DEnv} {ω ω' : Om} {ds : List D} (h : eRng2 ma mb env ω = some (ds, ω')) : ∃ (m n : Int) (ω1 : Om), ma env ω = some (.int m, ω1) ∧ mb env ω1 = some (.int n, ω') ∧ ((-(2 ^ 62) ≤ m ∧ m < 2 ^ 62) ∧ (-(2 ^ 62) ≤ n ∧ n < 2 ^ 62) ∧ n - m ≤ LIM) ∧ ds = rangeD m n := by
  obtain ⟨d, ω1, h1, h2⟩ := M.bind_some h
  cases d with
  | int m =>
    obtain ⟨e, ω2, h3, h4⟩ := M.bind_some h2
    cases e with
    | int n =>
      obtain ⟨hc, rfl, rfl⟩ := if_some h4
      exact ⟨m, n, ω1, h1, h3, hc, rfl⟩
    | _ => exact (M.fail_some h4).elim
  | _ => exact (M.fail_some h2).elim
theorem lim62 {n : Int} (h : n ≤ LIM) : n < 2 ^ 62 := by
  have : (LIM : Int) = 1000000 := rfl
  omega
theorem rng1_run (f : Fits X g) (ha : PV X g a ma) (hm : X.mg "range" = none) (hg : Gl X "range") (hs : starEach [a] X.env = [(false, eval a X.env)]) {pins : List (Addr × Obj)} {s : Shared} {σ : L2.St} {H B : Hp} {env : DEnv} {ω ω' : Om} {ds : List D} (I : Inv X pins σ H s) (r : Rel g B σ H env ω) (q : eRng1 ma env ω = some (ds, ω')) :
    wpAny (model X.prog X.w) X.A (eval (.Call (.Name "range" p) [a] [] pos) X.env) (fun v s1 => wpAny (model X.prog X.w) X.A (pyIter v) (PIE X pins σ tg fun J H' => ∃ B', Mov g B H B' H' ∧ Rel g B' σ H' env ω' ∧ ∀ B2 H2, ItAt g B2 H2 J ds) X.xe s1) X.xe s := by
  obtain ⟨n, h1, h2, h3, rfl⟩ := rng1_some q
  have hp : PA X [a] (tCons (tV g ma) tNil) := pa_cons (ha.pe f) pa_nil hs
  refine (pi_range1 (tg := tg) hg hm hp hs).run pins s σ H _ I ?_
  refine ⟨B, env, ω, _, ω', r, h1, fun z H1 ⟨B1, m1, rl1, p1⟩ => ?_⟩
  cases p1
  refine ⟨n, rfl, h3, lim62 h2, B1, m1, rl1, fun B2 H2 => ?_⟩
  have := itr_at (g := g) (B := B2) (H := H2) 0 n
  rwa [show (n - 0).toNat = n.toNat from by rw [Int.sub_zero]] at this
theorem rng2_run (f : Fits X g) (ha : PV X g a ma) (hb : PV X g b mb) (hm : X.mg "range" = none) (hg : Gl X "range") (hs : starEach [a, b] X.env = [(false, eval a X.env), (false, eval b X.env)]) (hs2 : starEach [b] X.env = [(false, eval b X.env)]) {pins : List (Addr × Obj)} {s : Shared} {σ : L2.St} {H B : Hp} {env : DEnv} {ω ω' : Om} {ds : List D} (I : Inv X pins σ H s) (r : Rel g B σ H env ω) (q : eRng2 ma mb env ω = some (ds, ω')) :
    wpAny (model X.prog X.w) X.A (eval (.Call (.Name "range" p) [a, b] [] pos) X.env) (fun v s1 => wpAny (model X.prog X.w) X.A (pyIter v) (PIE X pins σ tg fun J H' => ∃ B', Mov g B H B' H' ∧ Rel g B' σ H' env ω' ∧ ∀ B2 H2, ItAt g B2 H2 J ds) X.xe s1) X.xe s := by
  obtain ⟨m, n, ω1, h1, h2, h3, rfl⟩ := rng2_some q
  have hp : PA X [a, b] (tCons (tV g ma) (tCons (tV g mb) tNil)) := pa_cons (ha.pe f) (pa_cons (hb.pe f) pa_nil hs2) (by rw [hs, hs2])
  refine (pi_range2 (tg := tg) hg hm hp hs hs2).run pins s σ H _ I ?_
  refine ⟨B, env, ω, _, ω1, r, h1, fun z H1 ⟨B1, m1, rl1, p1⟩ => ?_⟩
  cases p1
  refine ⟨B1, env, ω1, _, ω', rl1, h2, fun z H2 ⟨B2, m2, rl2, p2⟩ => ?_⟩
  cases p2
  exact ⟨m, n, rfl, ⟨h3.1.1, h3.1.2, h3.2.1.1, h3.2.1.2⟩, B2, m1.trans m2 r.bas.st rl1.bas.st, rl2, fun _ _ => itr_at m n⟩
theorem pib_range1 (ha : PV X g a ma) (hm : X.mg "range" = none) (hg : Gl X "range" := by rfl) (hs : starEach [a] X.env = [(false, eval a X.env)] := by rfl) : PIb X g tg (.Call (.Name "range" p) [a] [] pos) (eRng1 ma) := ⟨fun f pins s σ H B env ω ds ω' I r q =>
  thn (rng1_run f ha hm hg hs I r q) fun v s1 w => thn w fun u s2 z => pie_imp z fun J H' ⟨B', m1, rl1, it⟩ => ⟨B', m1, rl1, fun B2 H2 _ _ _ => it B2 H2⟩⟩
theorem pif_range1 (ha : PV X g a ma) (hm : X.mg "range" = none) (hg : Gl X "range" := by rfl) (hs : starEach [a] X.env = [(false, eval a X.env)] := by rfl) : PIf X g tg (.Call (.Name "range" p) [a] [] pos) (eRng1 ma) := ⟨fun f pins s σ H B env ω ds ω' I r q =>
  thn (rng1_run f ha hm hg hs I r q) fun v s1 w => thn w fun u s2 z => pie_imp z fun J H' ⟨B', m1, rl1, it⟩ => ⟨B', m1, rl1, fun B2 H2 _ _ => it B2 H2⟩⟩
theorem pib_range2 (ha : PV X g a ma) (hb : PV X g b mb) (hm : X.mg "range" = none) (hg : Gl X "range" := by rfl) (hs : starEach [a, b] X.env = [(false, eval a X.env), (false, eval b X.env)] := by rfl) (hs2 : starEach [b] X.env = [(false, eval b X.env)] := by rfl) : PIb X g tg (.Call (.Name "range" p) [a, b] [] pos) (eRng2 ma mb) := ⟨fun f pins s σ H B env ω ds ω' I r q =>
  thn (rng2_run f ha hb hm hg hs hs2 I r q) fun v s1 w => thn w fun u s2 z => pie_imp z fun J H' ⟨B', m1, rl1, it⟩ => ⟨B', m1, rl1, fun B2 H2 _ _ _ => it B2 H2⟩⟩
theorem pif_range2 (ha : PV X g a ma) (hb : PV X g b mb) (hm : X.mg "range" = none) (hg : Gl X "range" := by rfl) (hs : starEach [a, b] X.env = [(false, eval a X.env), (false, eval b X.env)] := by rfl) (hs2 : starEach [b] X.env = [(false, eval b X.env)] := by rfl) : PIf X g tg (.Call (.Name "range" p) [a, b] [] pos) (eRng2 ma mb) := ⟨fun f pins s σ H B env ω ds ω' I r q =>
  thn (rng2_run f ha hb hm hg hs hs2 I r q) fun v s1 w => thn w fun u s2 z => pie_imp z fun J H' ⟨B', m1, rl1, it⟩ => ⟨B', m1, rl1, fun B2 H2 _ _ => it B2 H2⟩⟩
end
end
end Pw
set_option Elab.async false
set_option linter.all false
set_option maxRecDepth 100000
/-! My layer, part 10: targets, for, list comprehensions. -/
namespace Pw
open PySem PySem.Spec PyProof.Rows L2
section
variable {X : Cx} {g : Gh}
/-! ### targets -/
def wipeE (env : DEnv) : List Nat → DEnv
  | [] => env
  | v :: vs => (wipeE env vs).set v none
theorem wipe_get {σ : L2.St} {i : Nat} : ∀ {vs : List Nat}, i ∉ vs → (wipe σ vs)[i]? = σ[i]?
  | [], _ => rfl
  | v :: vs, h => by
    simp only [List.mem_cons, not_or] at h
    unfold wipe
    rw [List.getElem?_set_ne (Ne.symm h.1)]
    exact wipe_get h.2
theorem wipe_in {σ : L2.St} {i : Nat} : ∀ {vs : List Nat}, i ∈ vs → i < σ.length → (wipe σ vs)[i]? = some none
  | v :: vs, h, hl => by
    unfold wipe
    by_cases e : i = v
    · subst e
      rw [List.getElem?_set_self (by rw [wipe_length]; exact hl)]
    · rw [List.getElem?_set_ne (Ne.symm e)]
      exact wipe_in ((List.mem_cons.mp h).resolve_left e) hl
theorem wipeE_len {env : DEnv} : ∀ {vs : List Nat}, (wipeE env vs).length = env.length
  | [] => rfl
  | v :: vs => by unfold wipeE; rw [List.length_set]; exact wipeE_len
theorem wipeE_get {env : DEnv} {i : Nat} {d : D} : ∀ {vs : List Nat}, (wipeE env vs)[i]? = some (some d) → env[i]? = some (some d) ∧ i ∉ vs
  | [], h => ⟨h, by simp⟩
  | v :: vs, h => by
    unfold wipeE at h
    by_cases e : i = v
    · subst e
      by_cases hl : i < (wipeE env vs).length
      · rw [List.getElem?_set_self hl] at h; cases h
      · rw [List.getElem?_eq_none (by simpa using hl)] at h; cases h
    · rw [List.getElem?_set_ne (Ne.symm e)] at h
      obtain ⟨h1, h2⟩ := wipeE_get h
      exact ⟨h1, by simp only [List.mem_cons, not_or]; exact ⟨e, h2⟩⟩
theorem wipe_ext {σ τ : L2.St} {vs : List Nat} (hl : σ.length = τ.length) (h : ∀ i, i ∉ vs → σ[i]? = τ[i]?) : wipe σ vs = wipe τ vs := by
  refine List.ext_getElem? fun i => ?_
  by_cases hi : i ∈ vs
  · by_cases hl2 : i < σ.length
    · rw [wipe_in hi hl2, wipe_in hi (by omega)]
    · rw [List.getElem?_eq_none (by rw [wipe_length]; omega), List.getElem?_eq_none (by rw [wipe_length]; omega)]
  · rw [wipe_get hi, wipe_get hi, h i hi]
theorem wipe_wipe (σ : L2.St) (vs : List Nat) : wipe (wipe σ vs) vs = wipe σ vs := wipe_ext (wipe_length _ _) fun i hi => wipe_get hi
theorem Rel.wipe {B H : Hp} {σ : L2.St} {env : DEnv} {ω : Om} (r : Rel g B σ H env ω) (vs : List Nat) : Rel g B (L2.wipe σ vs) H (wipeE env vs) ω := by
  refine ⟨r.bas, by rw [wipeE_len, wipe_length]; exact r.len, fun i d e => ?_, fun i d hi e hc => ?_, fun i j d e p hi hj hne q hc q2 hc2 z z2 => ?_⟩
  · obtain ⟨e, hv⟩ := wipeE_get e
    rw [wipe_get hv]
    exact r.rd i d e
  · obtain ⟨e, hv⟩ := wipeE_get e
    rw [wipe_get hv]
    exact r.ow i d hi e hc
  · obtain ⟨q, hv⟩ := wipeE_get q
    obtain ⟨q2, hv2⟩ := wipeE_get q2
    rw [wipe_get hv] at z
    rw [wipe_get hv2] at z2
    exact r.ap i j d e p hi hj hne q hc q2 hc2 z z2
/-- what a target does; its slots -/
def gD (g : Gh) (sl : List Nat) (m : D → DEnv → M DEnv) : TG := fun v σ H Q => ∃ B env ω d env' ω', Rel g B σ H env ω ∧ Rp g B d v ∧ m d env ω = some (env', ω') ∧
  ∀ σ', Rel g B σ' H env' ω' → σ'.length = σ.length → (∀ i, i ∉ sl → σ'[i]? = σ[i]?) → Q σ' H
structure PTg (X : Cx) (g : Gh) (tg : Expr) (sl : List Nat) (m : D → DEnv → M DEnv) : Prop where
  pg : Fits X g → PG X tg (gD g sl m)
  fr : ∀ d env ω env' ω', m d env ω = some (env', ω') → ∀ i, i ∉ sl → env'[i]? = env[i]?
def mName (i : Nat) : D → DEnv → M DEnv := fun d env => pure (env.set i (some d))
theorem PG.imp {tg : Expr} {t t' : TG} (h : PG X tg t) (k : ∀ v σ H Q, t' v σ H Q → t v σ H Q) : PG X tg t' := ⟨fun pins s σ H v u Q I r q => h.run pins s σ H v u Q I r (k v σ H Q q)⟩
theorem PGs.imp {tg : List Expr} {t t' : TGs} (h : PGs X tg t) (k : ∀ v σ H Q, t' v σ H Q → t v σ H Q) : PGs X tg t' := ⟨fun pins s σ H v u Q I r q => h.run pins s σ H v u Q I r (k v σ H Q q)⟩
theorem tg_name (i : Nat) {x : Str} {pos : Pos} (hi : X.N[i]? = some x := by rfl) (hW : i ∉ g.W := by exact ni_of rfl) (hx : Loc X.env.scope x := by first | exact .inl rfl | exact .inr rfl) (hf : X.fn x = true ∨ X.env.scope.names.lookup x = some .local := by first | exact .inl rfl | exact .inr rfl) : PTg X g (.Name x pos) [i] (mName i) :=
  ⟨fun f => PG.imp (pg_name f.nd hi hx hf) fun v σ H Q ⟨B, env, ω, d, env', ω', r, p, q, k⟩ => by
    obtain ⟨rfl, rfl⟩ := M.pure_some q
    refine k _ (r.set i (fun h => absurd h hW) p) (by simp) fun j hj => ?_
    rw [List.getElem?_set_ne (fun e => hj (by rw [e]; exact List.mem_singleton.mpr rfl))], fun d env ω env' ω' q j hj => by
    obtain ⟨rfl, rfl⟩ := M.pure_some q
    rw [List.getElem?_set_ne (fun e => hj (by rw [e]; exact List.mem_singleton.mpr rfl))]⟩
/-- several targets -/
def mAll : List (D → DEnv → M DEnv) → List D → DEnv → M DEnv
  | [], [], env => pure env
  | m :: ms, d :: ds, env => do
    let env' ← m d env
    mAll ms ds env'
  | _, _, _ => M.fail
def gDs (g : Gh) (sl : List Nat) (ms : List (D → DEnv → M DEnv)) : TGs := fun vs σ H Q => ∃ B env ω ds env' ω', Rel g B σ H env ω ∧ Rps g B ds vs ∧ mAll ms ds env ω = some (env', ω') ∧
  ∀ σ', Rel g B σ' H env' ω' → σ'.length = σ.length → (∀ i, i ∉ sl → σ'[i]? = σ[i]?) → Q σ' H
structure PTgs (X : Cx) (g : Gh) (tgs : List Expr) (sl : List Nat) (ms : List (D → DEnv → M DEnv)) : Prop where
  pg : Fits X g → PGs X tgs (gDs g sl ms)
  fr : ∀ ds env ω env' ω', mAll ms ds env ω = some (env', ω') → ∀ i, i ∉ sl → env'[i]? = env[i]?
theorem tgs_nil : PTgs X g [] [] [] := ⟨fun f => PGs.imp pgs_nil fun v σ H Q ⟨B, env, ω, ds, env', ω', r, p, q, k⟩ => by
  cases ds with
  | nil =>
    cases p
    obtain ⟨rfl, rfl⟩ := M.pure_some (show (pure env : M DEnv) ω = some (env', ω') from q)
    exact ⟨rfl, k σ r rfl fun _ _ => rfl⟩
  | cons d ds => exact (M.fail_some (ω := ω) q).elim, fun ds env ω env' ω' q i _ => by
  cases ds with
  | nil => obtain ⟨rfl, rfl⟩ := M.pure_some (show (pure env : M DEnv) ω = some (env', ω') from q); rfl
  | cons d ds => exact (M.fail_some (ω := ω) q).elim⟩
theorem tgs_cons {e : Expr} {es : List Expr} {sl sls : List Nat} {m : D → DEnv → M DEnv} {ms : List (D → DEnv → M DEnv)} (h1 : PTg X g e sl m) (h2 : PTgs X g es sls ms)
    (hs : (assignEach (e :: es) X.env).map (·.2) = assign e X.env :: (assignEach es X.env).map (·.2) := by rfl) : PTgs X g (e :: es) (sl ++ sls) (m :: ms) := ⟨fun f => PGs.imp (pgs_cons (h1.pg f) (h2.pg f) hs) fun v σ H Q ⟨B, env, ω, ds, env', ω', r, p, q, k⟩ => by
  cases p with
  | nil => exact (M.fail_some (ω := ω) q).elim
  | cons p1 p2 =>
    obtain ⟨e1, ω1, q1, q2⟩ := M.bind_some (show (m _ env >>= fun env' => mAll ms _ env') ω = some (env', ω') from q)
    refine ⟨_, _, rfl, B, env, ω, _, e1, ω1, r, p1, q1, fun σ1 r1 l1 s1 => ?_⟩
    refine ⟨B, e1, ω1, _, env', ω', r1, p2, q2, fun σ2 r2 l2 s2 => k σ2 r2 (l2.trans l1) fun i hi => ?_⟩
    simp only [List.mem_append, not_or] at hi
    rw [s2 i hi.2, s1 i hi.1], fun ds env ω env' ω' q i hi => by
  simp only [List.mem_append, not_or] at hi
  cases ds with
  | nil => exact (M.fail_some (ω := ω) q).elim
  | cons d ds =>
    obtain ⟨e1, ω1, q1, q2⟩ := M.bind_some (show (m d env >>= fun env' => mAll ms ds env') ω = some (env', ω') from q)
    rw [h2.fr _ _ _ _ _ q2 i hi.2, h1.fr _ _ _ _ _ q1 i hi.1]⟩
def mTup (ms : List (D → DEnv → M DEnv)) : D → DEnv → M DEnv := fun d env => match d with
  | .tup ds => mAll ms ds env
  | _ => M.fail
theorem mAll_len : ∀ {ms : List (D → DEnv → M DEnv)} {ds : List D} {env : DEnv} {ω : Om} {r : DEnv × Om}, mAll ms ds env ω = some r → ds.length = ms.length
  | [], [], _, _, _, _ => rfl
  | [], _ :: _, _, ω, r, h => (M.fail_some (ω := ω) (b := r.1) (ω' := r.2) h).elim
  | _ :: _, [], _, ω, r, h => (M.fail_some (ω := ω) (b := r.1) (ω' := r.2) h).elim
  | m :: ms, d :: ds, env, ω, (e2, ω2), h => by
    obtain ⟨e1, ω1, q1, q2⟩ := M.bind_some (show (m d env >>= fun env' => mAll ms ds env') ω = some (e2, ω2) from h)
    rw [List.length_cons, List.length_cons, mAll_len q2]
theorem tg_tup {es : List Expr} {sl : List Nat} {ms : List (D → DEnv → M DEnv)} {k : Nat} {pos : Pos} (h : PTgs X g es sl ms) (hn : (assignEach es X.env).length = ms.length := by rfl) (hst : (assignEach es X.env).findIdx? (·.1) = none := by rfl) : PTg X g (.Tuple es k pos) sl (mTup ms) :=
  ⟨fun f => PG.imp (pg_tup f.calm (h.pg f) hn hst) fun v σ H Q ⟨B, env, ω, d, env', ω', r, p, q, k⟩ => by
    cases p with
    | tup ha rp =>
      have q : mAll ms _ env ω = some (env', ω') := q
      have hl := mAll_len q
      exact ⟨_, _, rfl, f.K ▸ r.bas.ex.sqT ha, by rw [← rp.length, hl], B, env, ω, _, env', ω', r, rp, q, k⟩
    | _ => exact (M.fail_some (ω := ω) q).elim, fun d env ω env' ω' q i hi => by
    cases d with
    | tup ds => exact h.fr ds env ω env' ω' q i hi
    | _ => exact (M.fail_some (ω := ω) q).elim⟩
/-- a, b = e -/
def sUnp (m : DEnv → M D) (t : D → DEnv → M DEnv) : DEnv → M Fl := fun env => do
  let d ← m env
  let env' ← t d env
  pure (.nx env')
theorem st_unp {tg e : Expr} {sl : List Nat} {m : DEnv → M D} {t : D → DEnv → M DEnv} {pos : Pos} (he : PV X g e m) (ht : PTg X g tg sl t) (hs : swapsWithSole [tg] e pos.line X.env = pure false := by rfl) (hw : swappedStores [tg] e X.env = pure none := by rfl)
    (h1 : (assignEach [tg] X.env).map (·.2) = [assign tg X.env] := by rfl) : PSt X g (.Assign [tg] e pos) (sUnp m t) := ⟨fun f => PS.imp (ps_asg (he.pe f) (ht.pg f) hs hw h1) fun D σ H ⟨B, env, ω, r, ω', rl, q, k⟩ => by
  obtain ⟨d, ω1, q1, q2⟩ := M.bind_some q
  obtain ⟨e1, ω2, q3, q4⟩ := M.bind_some q2
  obtain ⟨rfl, rfl⟩ := M.pure_some q4
  exact ⟨B, env, ω, d, ω1, rl, q1, fun z H' ⟨B', m1, rl1, p1⟩ => ⟨B', env, ω1, d, e1, ω2, rl1, p1, q3, fun σ' r' _ _ => k σ' H' B' m1.ex r'⟩⟩⟩
/-! ### for -/
def forD (t : D → DEnv → M DEnv) (b : DEnv → M Fl) : List D → DEnv → M Fl
  | [], env => pure (.nx env)
  | d :: ds, env => do
    let env1 ← t d env
    match ← b env1 with
    | .nx e => forD t b ds e
    | .bk e => pure (.nx e)
    | .rt x => pure (.rt x)
def sFor (src : DEnv → M (List D)) (t : D → DEnv → M DEnv) (b : DEnv → M Fl) : DEnv → M Fl := fun env => do
  let ds ← src env
  forD t b ds env
/-- an item that may have been made for the turn -/
theorem Rel.item {B H H' : Hp} {σ : L2.St} {env : DEnv} {ω : Om} {d : D} {x : V} (r : Rel g B σ H env ω) (h : (H' = H ∧ Rp g B d x) ∨ ∃ p o, H p = none ∧ H' = upd H p o ∧ Rp g (upd B p o) d x) : ∃ B', Mov g B H B' H' ∧ Rel g B' σ H' env ω ∧ Rp g B' d x := by
  rcases h with ⟨rfl, h⟩ | ⟨p, o, h1, rfl, h⟩
  · exact ⟨B, Mov.refl g B _, r, h⟩
  · exact ⟨upd B p o, Mov.frz r.bas h1, r.frz h1, h⟩
theorem st_for {tg iter : Expr} {body : List Stmt} {sl : List Nat} {src : DEnv → M (List D)} {t : D → DEnv → M DEnv} {mb : DEnv → M Fl} {pos : Pos} (hi : PIf X g tg iter src) (ht : PTg X g tg sl t) (hb : PBl X g body mb) (hs : ∀ x, foldedSetIterable iter X.env x = pure x := by intro _; rfl)
    (hp : PassesOwn (model X.prog X.w) X.A X.env X.xe := by exact PassesOwn.never) : PSt X g (.For tg iter body [] pos) (sFor src t mb) := ⟨fun f => PS.imp (ps_for hp f.calm (hi.pi f) (ht.pg f) (hb.ps f) hs) fun D σ H ⟨B, env, ω, r, ω', rl, q, k⟩ => by
  obtain ⟨ds, ω1, q1, q2⟩ := M.bind_some q
  refine ⟨B, env, ω, ds, ω1, rl, q1, fun J H1 B1 m1 rl1 it => ?_⟩
  refine ⟨fun i n σ2 H2 => n = ds.length - i ∧ i ≤ ds.length ∧ ∃ B2 env2 ω2, Ex B1 B2 ∧ Rel g B2 σ2 H2 env2 ω2 ∧ forD t mb (ds.drop i) env2 ω2 = some (r, ω'), ⟨ds.length, by simp, Nat.zero_le _, B1, env, ω1, Ex.refl B1, rl1, q2⟩, ?_⟩
  rintro i n σ2 H2 ⟨rfl, hi, B2, env2, ω2, e2, rl2, q2⟩
  have at2 := it B2 H2 e2 rl2.bas.ex
  by_cases hlt : i < ds.length
  · rw [List.drop_eq_getElem_cons hlt] at q2
    obtain ⟨env3, ω3, q3, q4⟩ := M.bind_some (show (t ds[i] env2 >>= _) ω2 = _ from q2)
    obtain ⟨fl, ω4, q4, q5⟩ := M.bind_some q4
    refine .inr ⟨at2.go i hlt, fun σ5 H5 => ∃ B5 env5, fl = .nx env5 ∧ Ex B1 B5 ∧ Rel g B5 σ5 H5 env5 ω4, fun σ5 H5 ⟨B5, env5, ef, e5, rl5⟩ => ?_, fun x H3 hy => ?_⟩
    · subst ef
      exact ⟨ds.length - (i + 1), by omega, rfl, hlt, B5, env5, ω4, e5, rl5, q5⟩
    · obtain ⟨B3, m3, rl3, p3⟩ := rl2.item (at2.yld i x H3 ds[i] hy (List.getElem?_eq_getElem hlt))
      refine ⟨B3, env2, ω2, ds[i], env3, ω3, rl3, p3, q3, fun σ4 rl4 _ _ => ?_⟩
      refine ⟨B3, env3, ω3, fl, ω4, rl4, q4, ?_⟩
      have e3 := e2.trans m3.ex
      cases fl with
      | nx env5 => exact fun σ5 H5 B5 e5 rl5 => ⟨B5, env5, rfl, e3.trans e5, rl5⟩
      | bk env5 =>
        obtain ⟨rfl, rfl⟩ := M.pure_some q5
        exact fun σ5 H5 B5 e5 rl5 => k σ5 H5 B5 ((m1.ex.trans e3).trans e5) rl5
      | rt d =>
        obtain ⟨rfl, rfl⟩ := M.pure_some q5
        exact fun v H5 B5 e5 b5 rp => k v H5 B5 ((m1.ex.trans e3).trans e5) b5 rp
  · have ei : i = ds.length := by omega
    subst ei
    rw [List.drop_length] at q2
    obtain ⟨rfl, rfl⟩ := M.pure_some (show (pure (.nx env2) : M Fl) ω2 = some (r, ω') from q2)
    exact .inl ⟨at2.stop _ rfl, k σ2 H2 B2 (m1.ex.trans e2) rl2⟩⟩
/-! ### list comprehensions -/
structure PTl (X : Cx) (g : Gh) (ifs : List Expr) (m : DEnv → M Bool) : Prop where
  ts : Fits X g → PTs X ifs (tTt g m)
def bYes : DEnv → M Bool := fun _ => pure true
theorem PTs.imp {es : List Expr} {t t' : TT} (h : PTs X es t) (k : ∀ σ H Q, t' σ H Q → t σ H Q) : PTs X es t' := ⟨fun pins s σ H Q I q => h.run pins s σ H Q I (k σ H Q q)⟩
theorem tl_nil : PTl X g [] bYes := ⟨fun f => PTs.imp pts_nil fun σ H Q ⟨B, env, ω, d, ω', r, q, k⟩ => by
  obtain ⟨rfl, rfl⟩ := M.pure_some q
  exact k H B (Mov.refl g B H) r⟩
theorem tl_one {c : Expr} {m : DEnv → M Bool} (h : PTt X g c m) : PTl X g [c] m := ⟨fun f => pts_one (h.pt f)⟩
/-- the block's own context -/
abbrev InBlk (X : Cx) (scope : Scope) (P : Cx → Prop) : Prop := ∀ (s : Shared) (H : Hp) (C : Addr) (cl : List (Str × Addr)) (fp : List Addr), P (X.blk s H scope (compEnvC scope cl C X.env) fp)
theorem Fits.blk (f : Fits X g) {s : Shared} {H : Hp} {scope : Scope} {ce : PySem.Env} {fp : List Addr} : Fits (X.blk s H scope ce fp) g := ⟨f.K, f.P, f.w, f.calm, f.nd, f.room⟩
def lcD (own : List Nat) (t : D → DEnv → M DEnv) (c : DEnv → M Bool) (e : DEnv → M D) (env : DEnv) : List D → M (List D)
  | [] => pure []
  | x :: xs => do
    let env1 ← t x (wipeE env own)
    if ← c env1 then do
      let y ← e env1
      let r ← lcD own t c e env xs
      pure (y :: r)
    else lcD own t c e env xs
def eLc (src : DEnv → M (List D)) (own : List Nat) (t : D → DEnv → M DEnv) (c : DEnv → M Bool) (e : DEnv → M D) : DEnv → M D := fun env => do
  let xs ← src env
  let r ← lcD own t c e env xs
  if r.length ≤ LIM then pure (.lst r) else M.fail
theorem lc_read {σ : L2.St} {H B : Hp} {env : DEnv} {ω ω' : Om} {d : D} {src : DEnv → M (List D)} {own sl : List Nat} {t : D → DEnv → M DEnv} {c : DEnv → M Bool} {e : DEnv → M D} (rl : Rel g B σ H env ω) (q : eLc src own t c e env ω = some (d, ω')) (hsl : ∀ i ∈ sl, i ∈ own) {Q : VK}
    (hQ : ∀ z H', Qf g σ env B H d ω' z H' → Q z H') : tLc (iB g src) (gD g sl t) (tTt g c) (tV g e) own σ H Q := by
  obtain ⟨xs, ω1, q1, q2⟩ := M.bind_some q
  obtain ⟨fin, ω2, q2, q3⟩ := M.bind_some q2
  obtain ⟨hz, rfl, rfl⟩ := if_some q3
  refine ⟨B, env, ω, xs, ω1, rl, q1, fun J H1 B1 m1 rl1 it Dl hD => ?_⟩
  have hDs := rl1.bas.st.apart hD
  refine ⟨fun i n H2 => n = xs.length - i ∧ i ≤ xs.length ∧ ∃ B2 ω3 acc accV rest, Mov g B1 H1 B2 H2 ∧ Bas g B2 H2 ω3 ∧ B2 Dl = none ∧ H2 Dl = some (.lst accV) ∧ Rps g B2 acc accV ∧ lcD own t c e env (xs.drop i) ω3 = some (rest, ω') ∧ acc ++ rest = fin,
    ⟨xs.length, by simp, Nat.zero_le _, B1, ω1, [], [], fin, Mov.new hD, rl1.bas.add hD, rl1.bas.off hD, upd_same, .nil, q2, rfl⟩, ?_⟩
  rintro i n H2 ⟨rfl, hi, B2, ω3, acc, accV, rest, m2, b2, hB2, hH2, rp2, q2, hfin⟩
  have at2 := it B2 H2 (fun a o h1 h2 h3 => m2.fr a o h1 h2 h3) m2.ex b2.ex
  by_cases hlt : i < xs.length
  · rw [List.drop_eq_getElem_cons hlt] at q2
    obtain ⟨env4, ω4, q4, q5⟩ := M.bind_some (show (t xs[i] (wipeE env own) >>= _) ω3 = _ from q2)
    obtain ⟨b, ω5, q5, q6⟩ := M.bind_some q5
    refine .inr ⟨at2.go i hlt, fun H8 => ∃ B8 ω8 acc8 acc8V rest8, Mov g B1 H1 B8 H8 ∧ Bas g B8 H8 ω8 ∧ B8 Dl = none ∧ H8 Dl = some (.lst acc8V) ∧ Rps g B8 acc8 acc8V ∧ lcD own t c e env (xs.drop (i + 1)) ω8 = some (rest8, ω') ∧ acc8 ++ rest8 = fin,
      fun H8 h8 => ⟨xs.length - (i + 1), by omega, rfl, hlt, h8⟩, fun x H3 hy => ?_⟩
    obtain ⟨B3, m3, rl3, p3⟩ := (rl1.mov m2 b2).item (at2.yld i x H3 xs[i] hy (List.getElem?_eq_getElem hlt))
    refine ⟨B3, wipeE env own, ω3, xs[i], env4, ω4, rl3.wipe own, p3, q4, fun σ4 rl4 l4 s4 => ?_⟩
    refine ⟨?_, B3, env4, ω4, b, ω5, rl4, q5, fun H5 B5 m5 rl5 => ?_⟩
    · rw [← wipe_wipe σ own]
      exact wipe_ext l4 fun j hj => s4 j fun h => hj (hsl j h)
    have m35 : Mov g B2 H2 B5 H5 := m3.trans m5 b2.st rl4.bas.st
    have hB5 : B5 Dl = none := m35.nw Dl hB2 ⟨_, hH2⟩
    have hH5 : H5 Dl = some (.lst accV) := m35.fr Dl _ hH2 hDs.1 hDs.2
    have m15 : Mov g B1 H1 B5 H5 := m2.trans m35 rl1.bas.st b2.st
    cases b with
    | false =>
      refine iteF ?_
      exact ⟨B5, ω5, acc, accV, rest, m15, rl5.bas, hB5, hH5, rp2.mono m35.ex, q6, hfin⟩
    | true =>
      refine iteT ?_
      obtain ⟨y, ω6, q7, q8⟩ := M.bind_some q6
      obtain ⟨rest', ω7, q9, q10⟩ := M.bind_some q8
      obtain ⟨rfl, rfl⟩ := M.pure_some q10
      refine ⟨B5, env4, ω5, y, ω6, rl5, q7, fun z H6 ⟨B6, m6, rl6, p6⟩ => ?_⟩
      have hB6 : B6 Dl = none := m6.nw Dl hB5 ⟨_, hH5⟩
      have hH6 : H6 Dl = some (.lst accV) := m6.fr Dl _ hH5 hDs.1 hDs.2
      have m16 : Mov g B1 H1 B6 H6 := m15.trans m6 rl1.bas.st rl5.bas.st
      have m17 : Mov g B1 H1 B6 (upd H6 Dl (.lst (accV ++ [z]))) := ⟨m16.ex, fun a o h1 h2 h3 => by
        rw [upd_ne (ne_of_none h1 hD)]; exact m16.fr a o h1 h2 h3, m16.nw⟩
      have st6 : StOk g (upd H6 Dl (.lst (accV ++ [z]))) ω6 := ⟨rl6.bas.st.1, by rw [upd_ne hDs.1.symm]; exact rl6.bas.st.2.1, by rw [upd_ne hDs.2.symm]; exact rl6.bas.st.2.2⟩
      have ex6 : Ex B6 (upd H6 Dl (.lst (accV ++ [z]))) := fun a o h => by
        have : a ≠ Dl := fun e => by rw [e, hB6] at h; cases h
        rw [upd_ne this]; exact rl6.bas.ex a o h
      refine ⟨accV, hH6, ?_, B6, ω6, acc ++ [y], accV ++ [z], rest', m17, rl1.bas.mov m17 ex6 st6, hB6, upd_same, ((rp2.mono m35.ex).mono m6.ex).append (.cons p6 .nil), q9, by rw [List.append_assoc]; exact hfin⟩
      have hl := rp2.length
      have hf := congrArg List.length hfin
      simp only [List.length_append, List.length_cons] at hf
      exact lim_lt (by omega)
  · have ei : i = xs.length := by omega
    subst ei
    rw [List.drop_length] at q2
    obtain ⟨rfl, rfl⟩ := M.pure_some (show (pure [] : M (List D)) ω3 = some (rest, ω') from q2)
    refine .inl ⟨at2.stop _ rfl, hQ _ _ ⟨Dl, B2, rfl, m1.trans m2 rl.bas.st rl1.bas.st, (rl1.mov m2 b2), ?_⟩⟩
    rw [List.append_nil] at hfin
    subst hfin
    have n1 : New g B1 H1 B2 H2 (.lst acc) Dl := ⟨.lst hH2 rp2, hB2, hD, hDs.1, hDs.2⟩
    exact n1.after m1 rl1.bas.st
section
variable {elt tg iter : Expr} {ifs : List Expr} {scope : Scope} {own : List (Str × Nat)} {sl : List Nat} {src : DEnv → M (List D)} {t : D → DEnv → M DEnv} {c : DEnv → M Bool} {e : DEnv → M D} {pos spos py : Pos} {y : Str}
theorem pf_lc (own : List (Str × Nat)) (hi : PIb X g tg iter src) (ht : InBlk X scope fun Y => PTg Y g tg sl t) (hc : InBlk X scope fun Y => PTl Y g ifs c) (he : InBlk X scope fun Y => PV Y g elt e) (ok : blkC X.N X.env.scope scope own = true := by rfl)
    (hsl : ∀ i ∈ sl, i ∈ own.map (·.2) := by decide) (hs : ∀ x, foldedSetIterable iter X.env x = pure x := by intro _; rfl) : PF X g (.ListComp elt [⟨tg, iter, ifs, 0⟩] scope pos) (eLc src (own.map (·.2)) t c e) :=
  PF.of_pe (fun f => pe_lc f.calm f.nd (hi.pi f) (blkOk_by ok) (fun s H C cl fp => (ht s H C cl fp).pg f.blk) (fun s H C cl fp => (hc s H C cl fp).ts f.blk) (fun s H C cl fp => (he s H C cl fp).pe f.blk) hs)
    fun f B σ H env ω d ω' r q => lc_read r q hsl fun _ _ h => h
/-- x = [..] on one line, x a local -/
theorem lcset_of {i : Nat} {m : DEnv → M D} {st : Stmt} {tl : TE} (h : Fits X g → PS X st (tAsg tl (gName i))) (k : ∀ B σ H env ω d ω' Q, Rel g B σ H env ω → m env ω = some (d, ω') → (∀ z H', Qf g σ env B H d ω' z H' → Q z H') → tl σ H Q) : PSt X g st (sAsg i m) := ⟨fun f => PS.imp (h f) fun D σ H ⟨B, env, ω, r, ω', rl, q, kk⟩ => by
  obtain ⟨d, ω1, q1, q2⟩ := M.bind_some q
  obtain ⟨rfl, rfl⟩ := M.pure_some q2
  refine k B σ H env ω d ω1 _ rl q1 fun z H' ⟨p, B', ez, m1, rl1, n1⟩ => ?_
  subst ez
  by_cases hw : i ∈ g.W
  · exact kk _ H' B' m1.ex (rl.setNew rl1 i hw n1)
  · obtain ⟨o, ho⟩ := n1.cell.some
    have ex1 : Ex B' (upd B' p o) := Ex.new n1.off
    have exH : Ex (upd B' p o) H' := fun a u e => by
      by_cases hp : a = p
      · subst hp; rw [upd_same] at e; cases e; exact ho
      · rw [upd_ne hp] at e; exact rl1.bas.ex a u e
    have m2 : Mov g B H (upd B' p o) H' := ⟨m1.ex.trans ex1, m1.fr, fun a ha hb => by
      by_cases hp : a = p
      · subst hp; obtain ⟨w, hw⟩ := hb; rw [n1.new] at hw; cases hw
      · rw [upd_ne hp]; exact m1.nw a ha hb⟩
    have r2 := rl.mov m2 (rl.bas.mov m2 exH rl1.bas.st)
    exact kk _ H' (upd B' p o) m2.ex (r2.set i (fun h => absurd h hw) (n1.cell.rp ex1 fun o' ho' => by rw [ho] at ho'; cases ho'; exact upd_same))⟩
theorem st_setLc (i : Nat) (own : List (Str × Nat)) (hi : PIb X g tg iter src) (ht : InBlk X scope fun Y => PTg Y g tg sl t) (hc : InBlk X scope fun Y => PTl Y g ifs c) (he : InBlk X scope fun Y => PV Y g elt e) (hy : X.N[i]? = some y := by rfl) (hyl : X.env.scope.names.lookup y = some .local := by rfl)
    (hl : (py.line == pos.line) = true := by rfl) (ha : (scope.names.any fun (n, k) => n == y && (k == .local || k == .cell)) = false := by decide +kernel) (hk : X.env.scope.kind = .function := by rfl) (ok : blkC X.N X.env.scope scope own = true := by rfl)
    (hsl : ∀ i ∈ sl, i ∈ own.map (·.2) := by decide) (hs : ∀ x, foldedSetIterable iter X.env x = pure x := by intro _; rfl) : PSt X g (.Assign [.Name y py] (.ListComp elt [⟨tg, iter, ifs, 0⟩] scope pos) spos) (sAsg i (eLc src (own.map (·.2)) t c e)) :=
  lcset_of (fun f => ps_setLc f.calm f.nd hy hyl (sw_true hk hyl hl ha) (hi.pi f) (blkOk_by ok) (fun s H C cl fp => (ht s H C cl fp).pg f.blk) (fun s H C cl fp => (hc s H C cl fp).ts f.blk) (fun s H C cl fp => (he s H C cl fp).pe f.blk) hs)
    fun B σ H env ω d ω' Q r q hQ => lc_read r q hsl hQ
end
end
end Pw
set_option Elab.async false
set_option linter.all false
set_option maxRecDepth 100000
/-! My layer, part 11: what changes a container; several at once; truth. -/
namespace Pw
open PySem PySem.Spec PyProof.Rows L2
section
variable {X : Cx} {g : Gh}
/-- the owned container of the slot i is another one now -/
theorem Rel.change {B H : Hp} {σ : L2.St} {env : DEnv} {ω : Om} (r : Rel g B σ H env ω) {i : Nat} {d d' : D} {p : Addr} {o : HO} (hi : i ∈ g.W) (e : env[i]? = some (some d)) (hc : d.cont = true) (hp : σ[i]? = some (some (.ref p))) (c : Cell g B (upd H p o) d' p) : Rel g B σ (upd H p o) (env.set i (some d')) ω := by
  obtain ⟨p', z1, z2, z3, z4, z5, z6⟩ := r.ow i d hi e hc
  rw [hp] at z1
  cases z1
  have hl : i < env.length := (List.getElem?_eq_some_iff.mp e).1
  have look : ∀ {j e}, (env.set i (some d'))[j]? = some (some e) → (j = i ∧ e = d') ∨ (j ≠ i ∧ env[j]? = some (some e)) := fun {j e} q => by
    by_cases hj : j = i
    · subst hj
      rw [List.getElem?_set_self hl] at q
      exact .inl ⟨rfl, (Option.some.inj (Option.some.inj q)).symm⟩
    · rw [List.getElem?_set_ne (Ne.symm hj)] at q
      exact .inr ⟨hj, q⟩
  have notB : ∀ a u, B a = some u → a ≠ p := fun a u h q => by rw [q, z3] at h; cases h
  refine ⟨⟨fun a u h => ?_, r.bas.nb, ⟨r.bas.st.1, ?_, ?_⟩, fun a u h h1 h2 => ?_, r.bas.nw⟩, by simp [r.len], fun j x q => ?_, fun j x hj q hcx => ?_, fun j k x y q hj hk hne a1 a2 a3 a4 a5 a6 => ?_⟩
  · rw [upd_ne (notB a u h)]; exact r.bas.ex a u h
  · rw [upd_ne z5.symm]; exact r.bas.st.2.1
  · rw [upd_ne z6.symm]; exact r.bas.st.2.2
  · have : a ≠ p := fun q => by rw [q, z4] at h; cases h
    rw [upd_ne this]; exact r.bas.fr a u h h1 h2
  · rcases look q with ⟨rfl, rfl⟩ | ⟨hji, q⟩
    · exact ⟨.ref p, hp, .inl ⟨hi, c.cont⟩⟩
    · exact r.rd j x q
  · rcases look q with ⟨rfl, rfl⟩ | ⟨hji, q⟩
    · exact ⟨p, hp, c, z3, z4, z5, z6⟩
    · obtain ⟨p2, y1, y2, y3, y4, y5, y6⟩ := r.ow j x hj q hcx
      have hne : p2 ≠ p := fun h => by
        subst h
        exact r.ap i j d x p2 hi hj (Ne.symm hji) e hc q hcx hp y1
      exact ⟨p2, y1, y2.step (Ex.refl B) fun u hu => by rw [upd_ne hne]; exact hu, y3, y4, y5, y6⟩
  · -- the places are as they were
    have old : ∀ {j : Nat} {x : D}, (env.set i (some d'))[j]? = some (some x) → x.cont = true → ∃ x' : D, env[j]? = some (some x') ∧ x'.cont = true := fun {j x} h hx => by
      rcases look h with ⟨rfl, rfl⟩ | ⟨_, h⟩
      · exact ⟨d, e, hc⟩
      · exact ⟨x, h, hx⟩
    obtain ⟨x', b1, b2⟩ := old a1 a2
    obtain ⟨y', b3, b4⟩ := old a3 a4
    exact r.ap j k x' y' q hj hk hne b1 b2 b3 b4 a5 a6
/-- the slot of a container that is changed, behind an expression -/
theorem own_at {B H B' H' : Hp} {σ : L2.St} {env : DEnv} {ω' : Om} {i : Nat} {d : D} (r : Rel g B' σ H' env ω') (hi : i ∈ g.W) (e : env[i]? = some (some d)) (hc : d.cont = true) : ∃ p, σ[i]? = some (some (.ref p)) ∧ Cell g B' H' d p := by
  obtain ⟨p, h1, h2, _⟩ := r.ow i d hi e hc
  exact ⟨p, h1, h2⟩
/-! ### methods that change a list of the def -/
/-- x.append(e), x.insert(i, e), .. as statements: what becomes of the list -/
def sMut (i : Nat) (ms : List (DEnv → M D)) (k : D → List D → M D) : DEnv → M Fl := fun env => do
  let d ← getE env i
  let es ← evs ms env
  let d' ← k d es
  pure (.nx (env.set i (some d')))
theorem sMut_some {i : Nat} {ms : List (DEnv → M D)} {k : D → List D → M D} {env : DEnv} {ω ω' : Om} {r : Fl} (h : sMut i ms k env ω = some (r, ω')) : ∃ d es ω1 d', env[i]? = some (some d) ∧ evs ms env ω = some (es, ω1) ∧ k d es ω1 = some (d', ω') ∧ r = .nx (env.set i (some d')) := by
  obtain ⟨d, ω1, h1, h2⟩ := M.bind_some h
  obtain ⟨he, rfl⟩ := getE_some h1
  obtain ⟨es, ω2, h3, h4⟩ := M.bind_some h2
  obtain ⟨d', ω3, h5, h6⟩ := M.bind_some h4
  obtain ⟨rfl, rfl⟩ := M.pure_some h6
  exact ⟨d, es, ω2, d', he, h3, h5, rfl⟩
def kApp : D → List D → M D
  | .lst ds, [x] => if ds.length < LIM then pure (.lst (ds ++ [x])) else M.fail
  | _, _ => M.fail
def kIns : D → List D → M D
  | .lst ds, [.int i, x] => if ds.length < LIM ∧ 0 ≤ i ∧ i < 2 ^ 63 then pure (.lst (ds.take i.toNat ++ [x] ++ ds.drop i.toNat)) else M.fail
  | _, _ => M.fail
/-- the receiver's name, read -/
theorem recv (f : Fits X g) {i : Nat} {x : Str} {pos : Pos} (hN : X.N[i]? = some x) (hv : Vis X.env.scope x) (hd : (x == ("__debug__" : Str)) = false) (hcd : (x == ("__classdict__" : Str)) = false) : PE X (.Name x pos) (tVar i) := pe_var hN hv hd hcd
theorem mut_of {i : Nat} {ms : List (DEnv → M D)} {k : D → List D → M D} {st : Stmt} {rr : V → List V → Hp → VK → Prop} (hi : i ∈ g.W) (h : Fits X g → PS X st (tDrop (tBM X.K "list" rr (tVar i) (tAs g ms))))
    (hk : ∀ (B H : Hp) (d : D) (es : List D) (d' : D) (ω ω' : Om) (p : Addr) (vs : List V), Ex B H → Cell g B H d p → Rps g B es vs → k d es ω = some (d', ω') → ω' = ω ∧ d.cont = true ∧ (∃ ys, H p = some (.lst ys)) ∧ ∀ Q : VK, (∀ z o, Cell g B (upd H p o) d' p → Q z (upd H p o)) → rr (.ref p) vs H Q)
    (hl : ∀ (d : D) (es : List D) (d' : D) (ω ω' : Om), k d es ω = some (d', ω') → ∃ ds, d = .lst ds) : PSt X g st (sMut i ms k) := ⟨fun f => PS.imp (h f) fun D σ H ⟨B, env, ω, r, ω', rl, q, kk⟩ => by
  obtain ⟨d, es, ω1, d', he, q1, q2, rfl⟩ := sMut_some q
  obtain ⟨ds, rfl⟩ := hl _ _ _ _ _ q2
  obtain ⟨p, hp, c0⟩ := own_at (B := B) (H := H) rl hi he rfl
  refine ⟨.ref p, hp, ?_, B, env, ω, es, ω1, rl, q1, fun vs H1 B1 m1 rl1 rp1 => ?_⟩
  · cases c0 with
    | lst hh _ => exact .inl ⟨rfl, _, sqL_of hh⟩
  · obtain ⟨p', hp', c1⟩ := own_at (B := B) (H := H) rl1 hi he rfl
    rw [hp] at hp'
    cases hp'
    obtain ⟨ew, hc, _, hr⟩ := hk B1 H1 _ es d' ω1 ω' p vs rl1.bas.ex c1 rp1 q2
    subst ew
    exact hr _ fun z o c => kk σ _ B1 m1.ex (rl1.change hi he hc hp c)⟩
theorem st_append (i : Nat) {x : Str} {e : Expr} {m : DEnv → M D} {p1 apos cpos pos : Pos} (he : PV X g e m) (hi : i ∈ g.W := by exact ii_of rfl) (hN : X.N[i]? = some x := by rfl) (hv : Vis X.env.scope x := by first | exact Or.inl rfl | exact Or.inr (Or.inl rfl) | exact Or.inr (Or.inr rfl)) (hd : (x == ("__debug__" : Str)) = false := by decide) (hcd : (x == ("__classdict__" : Str)) = false := by decide)
    (hbase : attributeBase (.Name x p1) "append" X.env (eval (.Name x p1) X.env) = eval (.Name x p1) X.env := by rfl)
    (hfew : ((backTo cpos (starEach [e] X.env)).all (fun x => !x.1) && (backToKw cpos (keywordEach [] X.env)).all (fun x => x.1.isSome) && decide (([e] : List Expr).length + ([] : List Keyword).length + (if ([] : List Keyword).isEmpty then 0 else 1) < 30)) = true := by rfl)
    (hline : (apos.endLine == cpos.line) = true := by rfl) (hs : starEach [e] X.env = (false, eval e X.env) :: starEach [] X.env := by rfl) (hplain : (backTo cpos (starEach [] X.env)).any (·.1) = false := by rfl)
    (hsw : swapsWith (.Call (.Attribute (.Name x p1) "append" apos) [e] [] cpos) none pos.line X.env = pure false := by rfl) : PSt X g (.Expr (.Call (.Attribute (.Name x p1) "append" apos) [e] [] cpos) pos) (sMut i [m] kApp) :=
  mut_of hi (fun f => ps_expr (pe_bm PySem.F.plainAttrs_list PySem.F.slot_list_append PySem.F.type_list_append mt_append (recv f hN hv hd hcd) ((pas_cons he pas_nil hs).pa f) hbase hfew hline hs hplain) hsw)
    (fun B H d es d' ω ω' p vs ex c rs q => by
      cases c with
      | lst hp rp =>
        match es, rs, q with
        | [y], .cons ry .nil, q =>
          obtain ⟨hz, rfl, rfl⟩ := if_some q
          refine ⟨rfl, rfl, ⟨_, hp⟩, fun Q hQ => ⟨p, _, _, rfl, rfl, hp, ?_, hQ _ _ (.lst upd_same (rp.append (.cons ry .nil)))⟩⟩
          rw [← rp.length]; exact lim_lt hz
      | dicK _ _ => exact (M.fail_some (ω := ω) q).elim
      | dicN _ _ => exact (M.fail_some (ω := ω) q).elim)
    fun d es d' ω ω' q => by
      cases d with
      | lst ds => exact ⟨ds, rfl⟩
      | _ => exact (M.fail_some (ω := ω) q).elim
theorem st_insert (i : Nat) {x : Str} {e1 e2 : Expr} {m1 m2 : DEnv → M D} {p1 apos cpos pos : Pos} (h1 : PV X g e1 m1) (h2 : PV X g e2 m2) (hi : i ∈ g.W := by exact ii_of rfl) (hN : X.N[i]? = some x := by rfl) (hv : Vis X.env.scope x := by first | exact Or.inl rfl | exact Or.inr (Or.inl rfl) | exact Or.inr (Or.inr rfl)) (hd : (x == ("__debug__" : Str)) = false := by decide) (hcd : (x == ("__classdict__" : Str)) = false := by decide)
    (hbase : attributeBase (.Name x p1) "insert" X.env (eval (.Name x p1) X.env) = eval (.Name x p1) X.env := by rfl)
    (hfew : ((backTo cpos (starEach [e1, e2] X.env)).all (fun x => !x.1) && (backToKw cpos (keywordEach [] X.env)).all (fun x => x.1.isSome) && decide (([e1, e2] : List Expr).length + ([] : List Keyword).length + (if ([] : List Keyword).isEmpty then 0 else 1) < 30)) = true := by rfl)
    (hline : (apos.endLine == cpos.line) = true := by rfl) (hs : starEach [e1, e2] X.env = (false, eval e1 X.env) :: starEach [e2] X.env := by rfl) (hs2 : starEach [e2] X.env = (false, eval e2 X.env) :: starEach [] X.env := by rfl) (hplain : (backTo cpos (starEach [e2] X.env)).any (·.1) = false := by rfl)
    (hsw : swapsWith (.Call (.Attribute (.Name x p1) "insert" apos) [e1, e2] [] cpos) none pos.line X.env = pure false := by rfl) : PSt X g (.Expr (.Call (.Attribute (.Name x p1) "insert" apos) [e1, e2] [] cpos) pos) (sMut i [m1, m2] kIns) :=
  mut_of hi (fun f => ps_expr (pe_bm PySem.F.plainAttrs_list PySem.F.slot_list_insert PySem.F.type_list_insert mt_insert (recv f hN hv hd hcd) ((pas_cons h1 (pas_cons h2 pas_nil hs2) hs).pa f) hbase hfew hline hs hplain) hsw)
    (fun B H d es d' ω ω' p vs ex c rs q => by
      cases c with
      | lst hp rp =>
        match es, rs, q with
        | [.int i, y], .cons ri (.cons ry .nil), q =>
          obtain ⟨hz, rfl, rfl⟩ := if_some q
          cases ri
          refine ⟨rfl, rfl, ⟨_, hp⟩, fun Q hQ => ⟨p, _, i, _, rfl, rfl, hp, ?_, hz.2.1, hz.2.2, hQ _ _ (.lst upd_same (((rp.take _).append (.cons ry .nil)).append (rp.drop _)))⟩⟩
          rw [← rp.length]; exact lim_lt hz.1
      | dicK _ _ => exact (M.fail_some (ω := ω) (by cases es <;> exact q)).elim
      | dicN _ _ => exact (M.fail_some (ω := ω) (by cases es <;> exact q)).elim)
    fun d es d' ω ω' q => by
      cases d with
      | lst ds => exact ⟨ds, rfl⟩
      | _ => exact (M.fail_some (ω := ω) (by cases es <;> exact q)).elim
/-! ### x[k] = e: a list, a dict of the def -/
def kSet : D → D → D → M D
  | .lst ds, .int i, v => match ixN ds.length i with
    | some j => pure (.lst (ds.set j v))
    | none => M.fail
  | .dic kvs, k, v => if keyOk kvs k = true ∧ kvs.length < LIM then pure (.dic (dput kvs k v)) else M.fail
  | _, _, _ => M.fail
/-- the value first, then the place -/
def sPut (i : Nat) (mk mv : DEnv → M D) : DEnv → M Fl := fun env => do
  let v ← mv env
  let k ← mk env
  let d ← getE env i
  let d' ← kSet d k v
  pure (.nx (env.set i (some d')))
theorem st_put (i : Nat) {x : Str} {ke ve : Expr} {mk mv : DEnv → M D} {p1 pos' pos : Pos} (hk : PV X g ke mk) (hv : PV X g ve mv) (hi : i ∈ g.W := by exact ii_of rfl) (hN : X.N[i]? = some x := by rfl) (hvis : Vis X.env.scope x := by first | exact Or.inl rfl | exact Or.inr (Or.inl rfl) | exact Or.inr (Or.inr rfl)) (hd : (x == ("__debug__" : Str)) = false := by decide) (hcd : (x == ("__classdict__" : Str)) = false := by decide)
    (hs : swapsWith ve (some (.Subscript (.Name x p1) ke pos')) pos.line X.env = pure false := by rfl) : PSt X g (.Assign [.Subscript (.Name x p1) ke pos'] ve pos) (sPut i mk mv) := ⟨fun f => ⟨fun pins s σ H D I ⟨B, env, ω, r, ω', rl, q, kk⟩ => by
  obtain ⟨v, ω1, q1, qa⟩ := M.bind_some q
  obtain ⟨k, ω2, q2, qb⟩ := M.bind_some qa
  obtain ⟨d, ω3, q3, qc⟩ := M.bind_some qb
  obtain ⟨he, rfl⟩ := getE_some q3
  obtain ⟨d', ω4, q4, qd⟩ := M.bind_some qc
  obtain ⟨rfl, rfl⟩ := M.pure_some qd
  refine wpAny_Assign_Subscript (thn (hv.run f pins s σ H B env ω v ω1 I rl q1) fun p1 s1 ⟨z1, H1, B1, I1, rz1, m1, rl1, k1⟩ => ?_) hs
  have hc : d.cont = true := by
    cases d with
    | lst _ => rfl
    | dic _ => rfl
    | _ => exact (M.fail_some (ω := ω3) q4).elim
  obtain ⟨p, hp, c1⟩ := own_at (B := B) (H := H) rl1 hi he hc
  refine name_ok I1 hN hvis hp (fun u ru => ?_) hd hcd
  refine thn (hk.run f pins s1 σ H1 B1 env ω1 k ω3 I1 rl1 q2) fun p3 s3 ⟨z3, H3, B3, I3, rz3, m3, rl3, k3⟩ => ?_
  obtain ⟨p', hp', c3⟩ := own_at (B := B) (H := H) rl3 hi he hc
  rw [hp] at hp'
  cases hp'
  have fin : ∀ o s4, Inv X pins σ (upd H3 p o) s4 → Cell g B3 (upd H3 p o) d' p → ω4 = ω3 → SP X pins D .next s4 := fun o s4 I4 c4 e => by
    subst e
    exact ⟨σ, _, I4, kk σ _ B3 (m1.ex.trans m3.ex) (rl3.change hi he hc hp c4)⟩
  cases d with
  | lst ds =>
    cases k with
    | int j =>
      cases c3 with
      | lst hh rp =>
        cases e : ixN ds.length j with
        | none => simp only [kSet, e] at q4; exact (M.fail_some q4).elim
        | some n =>
          simp only [kSet, e] at q4
          obtain ⟨rfl, rfl⟩ := M.pure_some q4
          cases k3
          refine thn (set_list pins s3 σ H3 (.ref p) (.int j) z1 u p3 _ (fun H' => H' = upd H3 p (.lst (_ : List V)) ∧ True) I3 ru rz3 rz1 ⟨p, _, j, n, rfl, rfl, hh, by rw [← rp.length]; exact e, rfl, trivial⟩) fun _ s4 ⟨H4, I4, e4, _⟩ => ?_
          subst e4
          exact fin _ s4 I4 (.lst upd_same (Rps.set (k1.mono m3.ex) n rp)) rfl
    | _ => exact (M.fail_some (ω := ω3) q4).elim
  | dic kvs =>
    obtain ⟨hok, rfl, rfl⟩ := if_some (show (if keyOk kvs k = true ∧ kvs.length < LIM then pure (.dic (dput kvs k v)) else M.fail : M Pw.D) ω3 = some (d', ω4) by cases k <;> exact q4)
    cases ru
    exact dict_set f I3 rl3.bas.ex c3 (.inl k3) rz3 hok.1 (k1.mono m3.ex) rz1 hok.2 fun o s4 I4 c4 => fin o s4 I4 c4 rfl
  | _ => exact (M.fail_some (ω := ω3) q4).elim⟩⟩
/-! ### x = y, y a container of the def: y is given up -/
def sMove (i j : Nat) : DEnv → M Fl := fun env => do
  let d ← getE env j
  pure (.nx ((env.set j none).set i (some d)))
theorem Rel.drop {B H : Hp} {σ : L2.St} {env : DEnv} {ω : Om} (r : Rel g B σ H env ω) (j : Nat) : Rel g B σ H (env.set j none) ω := by
  have look : ∀ {i e}, (env.set j none)[i]? = some (some e) → i ≠ j ∧ env[i]? = some (some e) := fun {i e} q => by
    by_cases hj : j = i
    · subst hj
      by_cases hl : j < env.length
      · rw [List.getElem?_set_self hl] at q; cases q
      · rw [List.getElem?_eq_none (by simpa using hl)] at q; cases q
    · rw [List.getElem?_set_ne hj] at q
      exact ⟨fun e => hj e.symm, q⟩
  refine ⟨r.bas, by simp [r.len], fun i d e => r.rd i d (look e).2, fun i d hi e hc => r.ow i d hi (look e).2 hc, fun i k d e p hi hk hne q hc q2 hc2 => r.ap i k d e p hi hk hne (look q).2 hc (look q2).2 hc2⟩
/-- an owned container joins the base; its slot is given up -/
theorem Rel.join {B H : Hp} {σ : L2.St} {env : DEnv} {ω : Om} (r : Rel g B σ H env ω) {j : Nat} {d : D} {p : Addr} (hj : j ∈ g.W) (e : env[j]? = some (some d)) (hc : d.cont = true) (hp : σ[j]? = some (some (.ref p))) : ∃ B', Ex B B' ∧ Rel g B' σ H (env.set j none) ω ∧ Rp g B' d (.ref p) := by
  obtain ⟨p', z1, z2, z3, z4, z5, z6⟩ := r.ow j d hj e hc
  rw [hp] at z1
  cases z1
  obtain ⟨o, ho⟩ := z2.some
  have r2 := r.drop j
  have look : ∀ {i x}, (env.set j none)[i]? = some (some x) → i ≠ j ∧ env[i]? = some (some x) := fun {i x} q => by
    by_cases h : j = i
    · subst h
      by_cases hl : j < env.length
      · rw [List.getElem?_set_self hl] at q; cases q
      · rw [List.getElem?_eq_none (by simpa using hl)] at q; cases q
    · rw [List.getElem?_set_ne h] at q
      exact ⟨fun z => h z.symm, q⟩
  have ex1 : Ex B (upd B p o) := Ex.new z3
  refine ⟨upd B p o, ex1, ⟨⟨fun a u h => ?_, ⟨?_, ?_⟩, r.bas.st, r.bas.fr, fun a h0 hh => ?_⟩, r2.len, fun i x q => ?_, fun i x hi q hcx => ?_, r2.ap⟩, z2.rp ex1 fun o' ho' => by rw [ho] at ho'; cases ho'; exact upd_same⟩
  · by_cases h1 : a = p
    · subst h1; rw [upd_same] at h; cases h; exact ho
    · rw [upd_ne h1] at h; exact r.bas.ex a u h
  · rw [upd_ne z5.symm]; exact r.bas.nb.1
  · rw [upd_ne z6.symm]; exact r.bas.nb.2
  · have h1 : a ≠ p := fun q => by obtain ⟨u, hu⟩ := hh; rw [q, z4] at hu; cases hu
    rw [upd_ne h1]; exact r.bas.nw a h0 hh
  · obtain ⟨v, q1, q2⟩ := r2.rd i x q
    exact ⟨v, q1, q2.imp id fun h => h.mono ex1⟩
  · obtain ⟨p2, y1, y2, y3, y4, y5, y6⟩ := r2.ow i x hi q hcx
    obtain ⟨hij, q'⟩ := look q
    have hne : p2 ≠ p := fun h => by
      subst h
      exact r.ap i j x d p2 hi hj hij q' hcx e hc y1 hp
    exact ⟨p2, y1, y2.step ex1 fun u hu => hu, by rw [upd_ne hne]; exact y3, y4, y5, y6⟩
theorem st_move (i j : Nat) {x y : Str} {pos pos' p2 : Pos} (hj : j ∈ g.W := by exact ii_of rfl) (hW : i ∉ g.W := by exact ni_of rfl) (hi : X.N[i]? = some x := by rfl) (hN : X.N[j]? = some y := by rfl) (hv : Vis X.env.scope y := by first | exact Or.inl rfl | exact Or.inr (Or.inl rfl) | exact Or.inr (Or.inr rfl)) (hd : (y == ("__debug__" : Str)) = false := by decide) (hcd : (y == ("__classdict__" : Str)) = false := by decide)
    (hx : Loc X.env.scope x := by first | exact .inl rfl | exact .inr rfl) (hs : swapsWith (.Name y p2) (some (.Name x pos')) pos.line X.env = pure false := by rfl)
    (hf : X.fn x = true ∨ X.env.scope.names.lookup x = some .local := by first | exact .inl rfl | exact .inr rfl) : PSt X g (.Assign [.Name x pos'] (.Name y p2) pos) (sMove i j) := ⟨fun f => PS.imp (ps_set f.nd hi hx (recv f hN hv hd hcd) hs hf) fun D σ H ⟨B, env, ω, r, ω', rl, q, k⟩ => by
  obtain ⟨d, ω1, q1, q2⟩ := M.bind_some q
  obtain ⟨he, rfl⟩ := getE_some q1
  obtain ⟨rfl, rfl⟩ := M.pure_some q2
  by_cases hc : d.cont = true
  · obtain ⟨p, hp, _⟩ := rl.ow j d hj he hc
    obtain ⟨B', e1, r1, rp⟩ := rl.join hj he hc hp
    exact ⟨.ref p, hp, k _ H B' e1 (r1.set i (fun h => absurd h hW) rp)⟩
  · obtain ⟨v, hv, h⟩ := rl.rd j d he
    have rp := h.resolve_left fun z => hc z.2
    exact ⟨v, hv, k _ H B (Ex.refl B) ((rl.drop j).set i (fun h => absurd h hW) rp)⟩⟩
/-! ### x += e -/
def sAug (i : Nat) (op : D → D → M D) (m : DEnv → M D) : DEnv → M Fl := fun env => do
  let x ← getE env i
  let y ← m env
  let z ← op x y
  pure (.nx (env.set i (some z)))
def aAddI : D → D → M D := oI (fun _ _ => true) fun i j => .int (i + j)
theorem aug_of {i : Nat} {op : D → D → M D} {m : DEnv → M D} {st : Stmt} {k : Int → Int → Int} (hop : op = oI (fun _ _ => true) fun i j => .int (k i j)) (h : Fits X g → PS X st (tAug i (tV g m) (ipI k))) : PSt X g st (sAug i op m) := ⟨fun f => PS.imp (h f) fun D σ H ⟨B, env, ω, r, ω', rl, q, kk⟩ => by
  obtain ⟨x, ω1, q1, qa⟩ := M.bind_some q
  obtain ⟨he, rfl⟩ := getE_some q1
  obtain ⟨y, ω2, q2, qb⟩ := M.bind_some qa
  obtain ⟨z, ω3, q3, qc⟩ := M.bind_some qb
  obtain ⟨rfl, rfl⟩ := M.pure_some qc
  rw [hop] at q3
  obtain ⟨a, b, rfl, rfl, _, rfl, rfl⟩ := oI_some q3
  obtain ⟨v, hv, hr⟩ := rl.rd i _ he
  have hr := hr.resolve_left fun w => by cases w.2
  cases hr
  refine ⟨.int a, hv, B, env, ω1, .int b, ω3, rl, q2, fun w H1 ⟨B1, m1, rl1, p1⟩ => ?_⟩
  cases p1
  exact ⟨a, b, rfl, rfl, kk _ H1 B1 m1.ex (rl1.set i (fun _ => rfl) (.int _))⟩⟩
theorem st_augAdd (i : Nat) {x : Str} {e : Expr} {m : DEnv → M D} {pos pos' : Pos} (he : PV X g e m) (hi : X.N[i]? = some x := by rfl) (hx : Loc X.env.scope x := by first | exact .inl rfl | exact .inr rfl) (hf : X.fn x = true ∨ X.env.scope.names.lookup x = some .local := by first | exact .inl rfl | exact .inr rfl) :
    PSt X g (.AugAssign (.Name x pos') .Add e pos) (sAug i aAddI m) := aug_of rfl fun f => ps_aug f.nd hi hx (he.pe f) ip_add hf
/-! ### truth of a value -/
def truD : D → M Bool
  | .bl b => pure b
  | .int i => pure (i != 0)
  | .non => pure false
  | .lst ds => pure (!ds.isEmpty)
  | .tup ds => pure (!ds.isEmpty)
  | _ => M.fail
def asT (m : DEnv → M D) : DEnv → M Bool := fun env => do
  let d ← m env
  truD d
theorem truD_ok (f : Fits X g) {B H : Hp} {d : D} {v : V} {b : Bool} {ω ω' : Om} (ex : Ex B H) (h : Rb g B H d v) (q : truD d ω = some (b, ω')) : ω' = ω ∧ TruV X.K v H b := by
  cases d with
  | bl c => obtain ⟨rfl, rfl⟩ := M.pure_some q; rw [h.bl]; exact ⟨rfl, rfl⟩
  | int i => obtain ⟨rfl, rfl⟩ := M.pure_some q; rw [h.int]; exact ⟨rfl, rfl⟩
  | non => obtain ⟨rfl, rfl⟩ := M.pure_some q; rw [h.non]; exact ⟨rfl, rfl⟩
  | lst ds =>
    obtain ⟨rfl, rfl⟩ := M.pure_some q
    obtain ⟨a, xs, rfl, ha, r⟩ := h.lst ex
    refine ⟨rfl, .inl ⟨xs, sqL_of ha, ?_⟩⟩
    cases r <;> rfl
  | tup ds =>
    obtain ⟨rfl, rfl⟩ := M.pure_some q
    obtain ⟨a, xs, rfl, ha, r⟩ := h.tup ex
    refine ⟨rfl, .inr (.inl ⟨xs, f.K ▸ ha, ?_⟩)⟩
    cases r <;> rfl
  | _ => exact (M.fail_some (ω := ω) q).elim
theorem pt_truth {a : Expr} {ma : DEnv → M D} (ha : PB X g a ma) (he : ∀ whole, isTrue a X.env whole = (do let v ← whole; standAt a.pos; holding [v] (truthy v)) := by intro _; rfl) : PTt X g a (asT ma) := ⟨fun f pins s σ H B env ω d ω' I r q => by
  obtain ⟨x, ω1, q1, q2⟩ := M.bind_some q
  refine thn ((L2.pt_truth (ha.pe f) he).run pins s σ H (fun b H' => b = d ∧ ∃ B', Mov g B H B' H' ∧ Rel g B' σ H' env ω') I ⟨B, env, ω, x, ω1, r, q1, fun z H1 ⟨B1, m1, rl1, k1⟩ => ?_⟩) fun b s1 ⟨H1, I1, e, B1, m1, rl1⟩ => ⟨H1, B1, I1, e, m1, rl1⟩
  obtain ⟨ew, ht⟩ := truD_ok f rl1.bas.ex k1 q2
  subst ew
  exact ⟨d, ht, rfl, B1, m1, rl1⟩⟩
end
end Pw
set_option Elab.async false
set_option linter.all false
set_option maxRecDepth 100000
/-! My layer, part 12: sets of ints, sorting. -/
namespace Pw
open PySem PySem.Spec PyProof.Rows L2
section
theorem call_set_lstI {P : Program} {w : World} {A : Around} {E : Value → Shared → Prop} {s : Shared} {l : Addr} {items : Array Value} (ns : List Int) {Q : Value → Shared → Prop} (hA : A.handled = none) (hl : s.heap.IsList l items) (hi : PyProof.Rows.IntsAre items.toList ns) (hn : ns.length + 1 < scanBound)
    (hq : ∀ (h' : Heap) (tk c : Nat), SetR w h' s.heap.objs.size (fun j => decide (j ∈ ns)) c → c ≤ ns.length → (∀ b o, s.heap.get? b = some o → h'.get? b = some o) → Q (.ref s.heap.objs.size) { s with heap := h', toks := tk }) :
    wpAny (model P w) A (call (.type "set") [.ref l]) Q E s := by
  obtain ⟨c0, tl, hmro⟩ := F.called_set.mro
  have hmade := F.called_set.made
  have hsub := F.called_set.sub
  refine wpAny_call (codeAny_of_tree (wpAny_pure ⟨Code.quiet_builtin _ (by decide +kernel), codeAny_builtin F.entry_type_call ?_⟩))
  rw [Around.under_plain (weight_type_call_type _ _ _) rfl]
  unfold Builtin.«type.__call__»
  simp only []
  refine wpAny_ite_false (by rw [F.called_set.notType]; rfl) ?_
  refine wpAny_ite_false (by rw [F.called_set.canCreate]; rfl) ?_
  rw [F.typeCall_set_1]
  refine wpAny_bind (wpAny_pure ?_)
  rw [hmro]
  refine wpAny_bind (wpAny_pure ?_)
  refine wpAny_ite_false rfl ?_
  rw [hmade]
  refine wpAny_bind (wpAny_pure ?_)
  simp only []
  refine wpAny_bind (wpAny_pure ?_)
  let S0 : Obj := { cls := .type "set", data := .set #[] 0 (SetTable.fresh 0 0 !w.params.followText "set-order") }
  have hS := Heap.get?_push_size s.heap (o := S0) rfl
  have hty : Shared.TypeIs { s with heap := s.heap.push S0 } (.ref s.heap.objs.size) "set" := ⟨_, hS, rfl⟩
  refine wpAny_bind (wpAny_holding (wpAny_call (codeAny_mono (code_set_led1 (.ref l) (Q₁ := fun v s₁ => v = .ref s.heap.objs.size ∧ s₁ = { s with heap := s.heap.push S0 }) (E := fun _ _ => False) ⟨rfl, rfl⟩) ?_)))
  rintro r s1 h
  match r, h with
  | .error e, h => exact (show False from h).elim
  | .ok (.next), h => exact (show False from h).elim
  | .ok (.brk), h => exact (show False from h).elim
  | .ok (.cont), h => exact (show False from h).elim
  | .ok (.ret v), h =>
    obtain ⟨rfl, rfl⟩ : v = .ref s.heap.objs.size ∧ s1 = { s with heap := s.heap.push S0 } := h
    refine wpAny_bind (wpAny_isInstance hty hsub ?_)
    refine wpAny_ite_false rfl ?_
    refine wpAny_bind (wpAny_holding ?_)
    unfold callSpecial?
    refine wpAny_bind (wpAny_specialOf hty F.called_set.init.lookup ?_)
    simp only []
    refine wpAny_holding ?_
    rw [F.called_set.init.bind]
    refine wpAny_bind (wpAny_pure ?_)
    simp only []
    refine wpAny_bind (wpAny_call (codeAny_call_builtin F.called_set.init.plain F.entry_set_init (check_set_init_1 hty ?_)))
    unfold Builtin.«set.__init__»
    refine wpAny_bind (wpAny_pure ?_)
    simp only []
    unfold typeNameOfCut shownTypeOf
    refine wpAny_bind (wpAny_bind (wpAny_bind (wpAny_typeOf hty ?_)))
    refine wpAny_ite_false rfl (wpAny_pure ?_)
    unfold typeNameCut
    simp only []
    unfold typeName
    simp only []
    refine wpAny_pure ?_
    refine wpAny_bind ?_
    unfold checkCount
    refine wpAny_ite_false rfl ?_
    refine wpAny_ite_false rfl ?_
    refine wpAny_ite_false rfl (wpAny_pure ?_)
    refine wpAny_bind (wpAny_pure ?_)
    unfold setUsed setState
    refine wpAny_bind (wpAny_bind (wpAny_bind (wpAny_load' hS ?_)))
    simp only [S0]
    refine wpAny_ite_false rfl (wpAny_pure ?_)
    refine wpAny_pure ?_
    refine wpAny_ite_false rfl ?_
    simp only [List.append]
    refine wpAny_bind ?_
    unfold Builtin.Frozenset.updateFrom Builtin.Frozenset.isAnySet
    have hlo : ∃ o, s.heap.get? l = some o := by
      obtain ⟨o, ho, _⟩ := hl
      exact ⟨_, ho⟩
    have hl2 : (s.heap.push S0).IsList l items := by
      obtain ⟨o, ho, h2⟩ := hl
      exact ⟨o, Heap.get?_push_of_some _ ho, h2⟩
    have tl : Shared.TypeIs { s with heap := s.heap.push S0 } (.ref l) "list" := by
      obtain ⟨o, ho, hc, _⟩ := hl2
      exact ⟨_, ho, hc⟩
    refine wpAny_bind (wpAny_bind (wpAny_isInstance tl F.sub_list_set ?_))
    refine wpAny_isInstance tl F.sub_list_frozenset ?_
    refine wpAny_ite_false rfl ?_
    refine wpAny_bind (wpAny_typeOf tl ?_)
    refine wpAny_ite_false rfl ?_
    refine wpAny_bind (wpAny_pyIter_list hl2 ?_)
    refine wpAny_bind (wpAny_runValue ?_)
    have hlt : l < s.heap.objs.size := by
      obtain ⟨o, ho, _⟩ := hl
      exact Heap.lt_size ho
    have hsz : (s.heap.push S0).objs.size = s.heap.objs.size + 1 := Heap.size_push ..
    have hne : l ≠ (s.heap.push S0).objs.size := by rw [hsz]; exact Nat.ne_of_lt (Nat.lt_succ_of_lt hlt)
    have hne2 : s.heap.objs.size ≠ l := (Nat.ne_of_lt hlt).symm
    have hne3 : s.heap.objs.size ≠ (s.heap.push S0).objs.size := by rw [hsz]; exact Nat.ne_of_lt (Nat.lt_succ_self _)
    have hlen : items.size = ns.length := by
      have := hi.length
      simpa using this
    let S1 : Obj := { cls := .type "list_iterator", data := .fields #[.ref l, .int 0 0] }
    have hgS : ((s.heap.push S0).push S1).get? s.heap.objs.size = some S0 := Heap.get?_push_of_some _ hS
    refine set_update_ints (Walks.list (A := A.in1.in1.in1) hA (s.heap.push S0).objs.size l hne items).toS s.heap.objs.size (by simp [hne2, hne3]) ns hlen hn ?_ (items.size) 0 _ (by omega) (Nat.zero_le _) ?_ ⟨0, Nat.le_refl _, setR_new_at hgS⟩ ?_
    · intro i v hv
      have hv' : items.toList[i]? = some v := by rw [Array.getElem?_toList]; exact hv
      have key : ∀ {vs : List Value} {ms : List Int} {i : Nat} {v : Value}, PyProof.Rows.IntsAre vs ms → vs[i]? = some v → ∃ k t, ms[i]? = some k ∧ v = .int k t := by
        intro vs ms i v h
        induction h generalizing i with
        | nil => intro h; simp at h
        | cons n t _ ih =>
          cases i with
          | zero => intro h; simp at h; exact ⟨n, t, rfl, h.symm⟩
          | succ j => intro h; simpa using ih (by simpa using h)
      exact key hi hv'
    · refine ⟨?_, ?_⟩
      · exact ⟨S1, Heap.get?_push_size _ rfl, rfl, rfl⟩
      · obtain ⟨o, ho, h2⟩ := hl2
        exact ⟨o, Heap.get?_push_of_some _ ho, h2⟩
    · rintro ⟨h2, g2, d2, t2, o2⟩ c mv hc hr
      refine wpAny_pure (wpAny_pure (wpAny_pure ?_))
      simp only []
      refine wpAny_ite_false rfl ?_
      have e1 : g2 = s.gens := mv.gens
      have e2 : d2 = s.drawn := mv.drawn
      have e3 : o2 = s.os := mv.os
      subst e1 e2 e3
      refine wpAny_pure ?_
      refine hq h2 t2 c hr (hlen ▸ hc) fun b o hb => ?_
      have hbl := Heap.lt_size hb
      refine mv.heap b o ?_ (Heap.get?_push_of_some _ (Heap.get?_push_of_some _ hb))
      simp only [List.mem_cons, List.not_mem_nil, or_false, not_or]
      exact ⟨Nat.ne_of_lt hbl, by rw [hsz]; exact Nat.ne_of_lt (Nat.lt_succ_of_lt hbl)⟩
end
section
variable {X : Cx} {g : Gh}
/-! ### a set of ints, sorted -/
def uins (x : Int) : List Int → List Int
  | [] => [x]
  | y :: ys => if x < y then x :: y :: ys else if x = y then y :: ys else y :: uins x ys
def usort : List Int → List Int
  | [] => []
  | x :: xs => uins x (usort xs)
theorem mem_uins {x k : Int} : ∀ {ys : List Int}, k ∈ uins x ys ↔ k = x ∨ k ∈ ys
  | [] => by simp [uins]
  | y :: ys => by
    unfold uins
    by_cases h1 : x < y
    · simp [h1]
    · by_cases h2 : x = y
      · subst h2; simp
      · simp only [h1, h2, if_false, List.mem_cons, mem_uins (ys := ys)]
        constructor
        · rintro (h | h | h)
          · exact .inr (.inl h)
          · exact .inl h
          · exact .inr (.inr h)
        · rintro (h | h | h)
          · exact .inr (.inl h)
          · exact .inl h
          · exact .inr (.inr h)
theorem mem_usort {k : Int} : ∀ {ys : List Int}, k ∈ usort ys ↔ k ∈ ys
  | [] => Iff.rfl
  | y :: ys => by rw [usort, mem_uins, mem_usort (ys := ys), List.mem_cons]
theorem uins_up {x : Int} : ∀ {ys : List Int}, ys.Pairwise (· < ·) → (uins x ys).Pairwise (· < ·)
  | [], _ => by simp [uins]
  | y :: ys, h => by
    obtain ⟨h1, h2⟩ := List.pairwise_cons.mp h
    unfold uins
    by_cases q1 : x < y
    · rw [if_pos q1]
      refine List.pairwise_cons.mpr ⟨fun z hz => ?_, h⟩
      rcases List.mem_cons.mp hz with rfl | hz
      · exact q1
      · exact Int.lt_trans q1 (h1 z hz)
    · rw [if_neg q1]
      by_cases q2 : x = y
      · rw [if_pos q2]; exact h
      · rw [if_neg q2]
        refine List.pairwise_cons.mpr ⟨fun z hz => ?_, uins_up h2⟩
        rcases mem_uins.mp hz with rfl | hz
        · omega
        · exact h1 z hz
theorem usort_up : ∀ ys : List Int, (usort ys).Pairwise (· < ·)
  | [] => List.Pairwise.nil
  | y :: ys => uins_up (usort_up ys)
theorem up_eq : ∀ {xs ys : List Int}, xs.Pairwise (· < ·) → ys.Pairwise (· < ·) → (∀ k, k ∈ xs ↔ k ∈ ys) → xs = ys
  | [], [], _, _, _ => rfl
  | [], y :: ys, _, _, h => by have := (h y).mpr (List.mem_cons_self ..); simp at this
  | x :: xs, [], _, _, h => by have := (h x).mp (List.mem_cons_self ..); simp at this
  | x :: xs, y :: ys, hx, hy, h => by
    obtain ⟨x1, x2⟩ := List.pairwise_cons.mp hx
    obtain ⟨y1, y2⟩ := List.pairwise_cons.mp hy
    have e : x = y := by
      have a := (h x).mp (List.mem_cons_self ..)
      have b := (h y).mpr (List.mem_cons_self ..)
      rcases List.mem_cons.mp a with a | a
      · exact a
      · rcases List.mem_cons.mp b with b | b
        · exact b.symm
        · have := x1 y b; have := y1 x a; omega
    subst e
    rw [up_eq x2 y2 fun k => ?_]
    have := h k
    simp only [List.mem_cons] at this
    constructor
    · intro hk
      rcases this.mp (.inr hk) with e | e
      · subst e; have := x1 _ hk; omega
      · exact e
    · intro hk
      rcases this.mpr (.inr hk) with e | e
      · subst e; have := y1 _ hk; omega
      · exact e
theorem usort_of_up {ns : List Int} (h : ns.Pairwise (· < ·)) : usort ns = ns := up_eq (usort_up ns) h fun _ => mem_usort
def fSortSet : List D → M D
  | [.lst ds] => match asInts ds with
    | some ns => if (usort ns).length < 64 ∧ ns.length ≤ 4000 then pure (.lst ((usort ns).map .int)) else M.fail
    | none => M.fail
  | [.tup ds] => match asInts ds with
    | some ns => if (usort ns).length < 64 ∧ ns.length ≤ 4000 then pure (.lst ((usort ns).map .int)) else M.fail
    | none => M.fail
  | _ => M.fail
theorem fSortSet_some {ds : List D} {d : D} {ω ω' : Om} (h : fSortSet ds ω = some (d, ω')) : ∃ es ns, (ds = [.lst es] ∨ ds = [.tup es]) ∧ asInts es = some ns ∧ ((usort ns).length < 64 ∧ ns.length ≤ 4000) ∧ d = .lst ((usort ns).map .int) ∧ ω' = ω := by
  match ds, h with
  | [.lst es], h =>
    cases e : asInts es with
    | none => simp only [fSortSet, e] at h; exact (M.fail_some h).elim
    | some ns =>
      simp only [fSortSet, e] at h
      obtain ⟨h1, rfl, rfl⟩ := if_some h
      exact ⟨es, ns, .inl rfl, e, h1, rfl, rfl⟩
  | [.tup es], h =>
    cases e : asInts es with
    | none => simp only [fSortSet, e] at h; exact (M.fail_some h).elim
    | some ns =>
      simp only [fSortSet, e] at h
      obtain ⟨h1, rfl, rfl⟩ := if_some h
      exact ⟨es, ns, .inr rfl, e, h1, rfl, rfl⟩
theorem intsAre_of : ∀ {ns : List Int} {us : List Value}, Vals (ns.map V.int) us → IntsAre us ns
  | [], _, h => by cases h; exact .nil
  | n :: ns, _, h => by
    cases h with
    | cons h t =>
      obtain ⟨tk, rfl⟩ := h
      exact .cons n tk (intsAre_of t)
theorem small64 {n : Nat} (h : n ≤ 4000) : n + 1 < scanBound := by
  have : 4010 < scanBound := by decide
  omega
theorem setR_len {w : World} {h : Heap} {a : Addr} {ns : List Int} {c : Nat} (r : SetR w h a (fun j => decide (j ∈ ns)) c) : c = (usort ns).length := by
  obtain ⟨o, es, ep, t, _, _, _, _, nd, hk, _, _, hs, _⟩ := r
  have p : (es.toList.map L2.keyOf).Perm (usort ns) := by
    refine (List.perm_ext_iff_of_nodup nd ((usort_up ns).imp fun h => Int.ne_of_lt h)).mpr fun k => ?_
    rw [mem_usort]
    have := hk k
    simp only [decide_eq_true_eq] at this
    exact this.symm
  rw [← p.length_eq, List.length_map, Array.length_toList, hs]
/-- set(x), x a list or a tuple of ints -/
theorem call_setI (hcm : X.calm = true) {pins : List (Addr × Obj)} {s : Shared} {σ : L2.St} {H : Hp} {a : Addr} {ns : List Int} {us : List Value} (I : Inv X pins σ H s) (h : SqL X.K H a (ns.map V.int) ∨ SqT X.K H a (ns.map V.int)) (hn : ns.length ≤ 4000) (hu : Vals [V.ref a] us) {Q : Value → Shared → Prop}
    (hq : ∀ s' p c, H p = none → c = (usort ns).length → Inv X pins σ (upd H p (SetO X.w p (fun j => decide (j ∈ ns)) c)) s' → Q (.ref p) s') : wpAny (model X.prog X.w) X.A (call (.type "set") us) Q X.xe s := by
  have e := hu.ref1
  subst e
  have hf : H s.heap.objs.size = none := I.hok.fresh (Nat.le_refl _)
  rcases h with h | h
  · obtain ⟨its, rv, p, hz⟩ := I.list h
    exact call_set_lstI ns (I.ok.hd hcm) p.isList (by simpa using intsAre_of rv) (small64 hn) fun h' tk c hr hc hk => hq _ _ c hf (setR_len hr) (I.laid hk (Nat.le_refl _) (setO_new hr))
  · obtain ⟨its, rv, p, hz⟩ := I.tuple h
    exact call_set_tupI ns (I.ok.hd hcm) p (by simpa using intsAre_of rv) (small64 hn) fun h' tk c hr hc hk => hq _ _ c hf (setR_len hr) (I.laid hk (Nat.le_refl _) (setO_new hr))
section
variable {e : Expr} {m : DEnv → M D} {p1 p2 pos pos2 : Pos}
/-- the inner set(e) -/
theorem set_arg (ha : PB X g e m) (f : Fits X g) (hm : X.mg "set" = none) (hg : Gl X "set") (he : starEach [e] X.env = [(false, eval e X.env)]) {pins : List (Addr × Obj)} {s : Shared} {σ : L2.St} {H B : Hp} {env : DEnv} {ω ω1 : Om} {d : D} {es : List D} {ns : List Int} (I : Inv X pins σ H s) (r : Rel g B σ H env ω) (q : m env ω = some (d, ω1)) (hd : d = .lst es ∨ d = .tup es) (hi : asInts es = some ns) (hn : ns.length ≤ 4000) {Q : Value → Shared → Prop}
    (hq : ∀ s' p c H1 B1, Mov g B H B1 H1 → Rel g B1 σ H1 env ω1 → H1 p = none → c = (usort ns).length → Inv X pins σ (upd H1 p (SetO X.w p (fun j => decide (j ∈ ns)) c)) s' → Q (.ref p) s') : wpAny (model X.prog X.w) X.A (eval (.Call (.Name "set" p2) [e] [] pos2) X.env) Q X.xe s := by
  refine wpAny_Call_Name_kw (ld_blt I hg hm (show bootBuiltins "set" = some (.type "set") by decide +kernel) ?_ (by decide) (by decide))
  refine PyProof.Rows.callWith_type1 ?_ he rfl
  refine thn ((pbs_cons ha pbs_nil he).run f pos2 pins s σ H B env ω [d] ω1 I r ?_) fun us s1 ⟨vs, H1, B1, I1, rv, m1, rl1, k1⟩ => ?_
  · show (m env >>= fun d => (pure [] >>= fun ds => pure (d :: ds) : M (List D))) ω = _
    rw [M.bind_run, q]; rfl
  obtain ⟨v, rfl, hv⟩ := k1.one
  rcases hd with rfl | rfl
  · obtain ⟨a, xs, rfl, ha, rr⟩ := hv.lst rl1.bas.ex
    have ee := asInts_vs hi rr
    subst ee
    exact call_setI f.calm I1 (.inl (sqL_of ha)) hn rv fun s' p c h1 h2 h3 => hq s' p c H1 B1 m1 rl1 h1 h2 h3
  · obtain ⟨a, xs, rfl, ha, rr⟩ := hv.tup rl1.bas.ex
    have ee := asInts_vs hi rr
    subst ee
    exact call_setI f.calm I1 (.inr (f.K ▸ ha)) hn rv fun s' p c h1 h2 h3 => hq s' p c H1 B1 m1 rl1 h1 h2 h3
theorem rps_ints {B : Hp} : ∀ ns : List Int, Rps g B (ns.map .int) (ns.map V.int)
  | [] => .nil
  | n :: ns => .cons (.int n) (rps_ints ns)
theorem pf_sortSet (ha : PB X g e m) (hm : X.mg "sorted" = none) (hm2 : X.mg "set" = none) (hg : Gl X "sorted" := by rfl) (hg2 : Gl X "set" := by rfl) (he : starEach [e] X.env = [(false, eval e X.env)] := by rfl)
    (he2 : starEach [.Call (.Name "set" p2) [e] [] pos2] X.env = [(false, eval (.Call (.Name "set" p2) [e] [] pos2) X.env)] := by rfl) : PF X g (.Call (.Name "sorted" p1) [.Call (.Name "set" p2) [e] [] pos2] [] pos) (eCall fSortSet [m]) := ⟨fun f pins s σ H B env ω d ω' I r q => by
  obtain ⟨ds, ω1, h1, h2⟩ := M.bind_some q
  obtain ⟨d0, ω2, r0, q1, q2, rfl⟩ := evs_cons h1
  obtain ⟨rfl, rfl⟩ := M.pure_some (show (pure [] : M (List D)) ω2 = some (r0, ω1) from q2)
  obtain ⟨es, ns, hd, hi, hn, rfl, rfl⟩ := fSortSet_some h2
  have hd : d0 = .lst es ∨ d0 = .tup es := by
    rcases hd with h | h
    · exact .inl (List.cons.inj h).1
    · exact .inr (List.cons.inj h).1
  refine wpAny_Call_Name_kw (ld_blt I hg hm (show bootBuiltins "sorted" = some (.builtin "sorted") by decide +kernel) ?_ (by decide) (by decide))
  refine PyProof.Rows.callWith_builtin1 ?_ he2 rfl
  rw [he2]
  show wpAny _ _ (spliced ((false, _) :: [])) _ _ s
  refine Calls.spliced_cons (set_arg ha f hm2 hg2 he I r q1 hd hi hn.2 fun s1 p c H1 B1 m1 rl1 hp hc I1 => ?_)
  refine Calls.spliced_nil ?_
  refine thn (cr_sortedSet f.calm pins s1 σ _ [.ref p] [.ref p] _ I1 (.cons rfl .nil) ⟨p, _, c, rfl, upd_same, by rw [hc]; exact hn.1, fun ns' l h3 h4 _ h5 => ?_⟩) fun _ _ w => Qf.of w
  have en : ns' = usort ns := up_eq h3 (usort_up ns) fun k => by rw [h4, mem_usort]; simp
  subst en
  have rl2 : Rel g B1 σ (upd H1 p (SetO X.w p (fun j => decide (j ∈ ns)) c)) env ω' := rl1.new hp
  obtain ⟨l', B2, el, m3, rl3, n3⟩ := Qf.lst (p := l) rl2 (rps_ints (usort ns)) h5
  cases el
  have m2 : Mov g B1 H1 B1 (upd H1 p (SetO X.w p (fun j => decide (j ∈ ns)) c)) := Mov.new hp
  have m12 := m1.trans m2 r.bas.st rl1.bas.st
  exact ⟨l, B2, rfl, m12.trans m3 r.bas.st rl2.bas.st, rl3, n3.after m12 rl2.bas.st⟩⟩
end
end
end Pw
set_option Elab.async false
set_option linter.all false
set_option maxRecDepth 100000
/-! My layer, part 13: sorted of data; isinstance; more operators. -/
namespace Pw
open PySem PySem.Spec PyProof.Rows L2
section
variable {X : Cx} {g : Gh}
/-! ### sorted(xs) -/
def dle (x y : D) : Bool := PySem.W.dataLe false D.py x y
def isTup1 : D → Bool
  | .tup (_ :: _) => true
  | _ => false
def noTup : D → Bool
  | .tup _ => false
  | .non => false
  | _ => true
def sortOk (ds : List D) : Bool := D.plains ds && ds.all (fun d => ds.all fun e => PySem.W.alike d.py e.py) && (ds.all isTup1 || ds.all noTup) && decide (D.depths ds ≤ 60) && decide (ds.length ≤ LIM)
def fSort : List D → M D
  | [.lst ds] => if sortOk ds = true then pure (.lst (ds.mergeSort dle)) else M.fail
  | _ => M.fail
theorem plains_mem : ∀ {ds : List D} {d : D}, D.plains ds = true → d ∈ ds → d.plain = true
  | x :: xs, d, h, hd => by
    simp only [D.plains, Bool.and_eq_true] at h
    rcases List.mem_cons.mp hd with rfl | hd
    · exact h.1
    · exact plains_mem h.2 hd
theorem depths_mem : ∀ {ds : List D} {d : D}, d ∈ ds → d.depth ≤ D.depths ds
  | x :: xs, d, hd => by
    simp only [D.depths]
    rcases List.mem_cons.mp hd with rfl | hd
    · exact Nat.le_max_left _ _
    · exact Nat.le_trans (depths_mem hd) (Nat.le_max_right _ _)
theorem sort_pairs {B : Hp} : ∀ {ds : List D} {xs : List V} {us : List Value}, Rps g B ds xs → Vals xs us → PySem.W.EachIs (fun (u : Value) (b : D × V) => RelV b.2 u ∧ Rp g B b.1 b.2) us (ds.zip xs)
  | _, _, _, .nil, h => by cases h; exact .nil
  | _, _, _, .cons r t, h => by
    cases h with
    | cons h1 h2 => exact .cons ⟨h1, r⟩ (sort_pairs t h2)
theorem sort_back {B : Hp} : ∀ {us : List Value} {bs : List (D × V)}, PySem.W.EachIs (fun (u : Value) (b : D × V) => RelV b.2 u ∧ Rp g B b.1 b.2) us bs → Vals (bs.map (·.2)) us ∧ Rps g B (bs.map (·.1)) (bs.map (·.2))
  | _, _, .nil => ⟨.nil, .nil⟩
  | _, _, .cons h t => ⟨.cons h.1 (sort_back t).1, .cons h.2 (sort_back t).2⟩
theorem each_mem {α β : Type} {R S : α → β → Prop} : ∀ {as : List α} {bs : List β}, PySem.W.EachIs R as bs → (∀ a b, b ∈ bs → R a b → S a b) → PySem.W.EachIs S as bs
  | _, _, .nil, _ => .nil
  | _, _, .cons h t, k => .cons (k _ _ (List.mem_cons_self ..) h) (each_mem t fun a b hb => k a b (List.mem_cons_of_mem _ hb))
theorem zip_fst : ∀ {ds : List D} {xs : List V}, ds.length = xs.length → (ds.zip xs).map (·.1) = ds
  | [], [], _ => rfl
  | d :: ds, x :: xs, h => by simp only [List.zip_cons_cons, List.map_cons]; rw [zip_fst (by simpa using h)]
theorem map_sort {α : Type} (f : α → D) (l : List α) : (l.mergeSort (PySem.W.dataLe false fun b => (f b).py)).map f = (l.map f).mergeSort dle := PySem.W.sort_maps f fun a _ b _ => rfl
theorem c_sorted : CaF X g (.builtin "sorted") fSort := by
  intro ft pins s σ H B env ω ds vs us d ω' I rl hs rv q
  match ds, hs, q with
  | [.lst es], hs, q =>
    obtain ⟨hok, rfl, rfl⟩ := if_some q
    simp only [sortOk, Bool.and_eq_true, Bool.or_eq_true, decide_eq_true_eq, List.all_eq_true] at hok
    obtain ⟨⟨⟨⟨hp, ha⟩, hso⟩, hd⟩, hz⟩ := hok
    obtain ⟨v, rfl, hv⟩ := hs.one
    obtain ⟨a, xs, rfl, hl, r⟩ := hv.lst rl.bas.ex
    have e := rv.ref1
    subst e
    obtain ⟨its, ri, pl, hz2⟩ := I.list (sqL_of hl)
    have hmem : ∀ b ∈ es.zip xs, b.1 ∈ es := fun b hb => (List.of_mem_zip hb).1
    have h64 := ft.h64
    have each := sort_pairs r ri
    refine PySem.W.sorted_data (bs := es.zip xs) (enc := fun b => b.1.py) (R := fun u b => RelV b.2 u ∧ Rp g B b.1 b.2) pl.isList each (each_mem each fun u b hb h => Dp.reads I _ b.2 u (ft.K ▸ h.2.dp rl.bas.ex (plains_mem hp (hmem b hb))) h.1) ?_ ?_ ?_ ?_ ?_
    · intro d hd d' hd'
      simp only [List.mem_map] at hd hd'
      obtain ⟨b, hb, rfl⟩ := hd
      obtain ⟨b', hb', rfl⟩ := hd'
      exact ha _ (hmem b hb) _ (hmem b' hb')
    · rcases hso with h | h
      · left
        intro d hd
        simp only [List.mem_map] at hd
        obtain ⟨b, hb, rfl⟩ := hd
        have := h _ (hmem b hb)
        cases hb1 : b.1 with
        | tup ys =>
          rw [hb1] at this
          cases ys with
          | nil => simp [isTup1] at this
          | cons y ys => exact ⟨y.py, D.py.pys ys, by simp [D.py, D.py.pys]⟩
        | _ => rw [hb1] at this; simp [isTup1] at this
      · right
        intro d hd
        simp only [List.mem_map] at hd
        obtain ⟨b, hb, rfl⟩ := hd
        have h1 := h _ (hmem b hb)
        have h2 := plains_mem hp (hmem b hb)
        cases hb1 : b.1 <;> rw [hb1] at h1 h2 <;> simp_all [noTup, D.py, D.plain]
    · rw [List.length_zip, r.length, Nat.min_self]; exact hz2
    · intro b hb
      have h1 := py_depth b.1
      have h2 := depths_mem (hmem b hb)
      omega
    · intro out hlen hout
      obtain ⟨o1, o2⟩ := sort_back hout
      rw [map_sort (fun b : D × V => b.1), zip_fst r.length] at o2
      have hn1 : H s.heap.objs.size = none := I.hok.fresh (Nat.le_refl _)
      have hn : H (s.heap.objs.size + 1) = none := I.hok.fresh (Nat.le_succ _)
      have hz3 : ((es.zip xs).mergeSort (PySem.W.dataLe false fun b => b.1.py)).length ≤ sizeLine := by
        rw [(List.mergeSort_perm _ _).length_eq, List.length_zip, r.length, Nat.min_self]; exact hz2
      obtain ⟨p, B2, ep, m2, rl2, n2⟩ := Qf.lst (p := s.heap.objs.size + 1) rl o2 hn
      cases ep
      refine ⟨_, _, B2, I.laid (t' := s.toks) (fun b u e => sortedAll_old e) (Nat.le_succ _) ?_, rfl, m2, rl2, n2⟩
      obtain ⟨c, hc⟩ := sortedAll_at (h := s.heap) (vs := its) (out := out.toArray)
      exact ⟨by simpa using hz3, out, c, o1, hc⟩
end
end Pw
set_option Elab.async false
set_option linter.all false
set_option maxRecDepth 100000
/-! My layer, part 14: isinstance, slices from behind, lists joined, several names at once. -/
namespace Pw
open PySem PySem.Spec PyProof.Rows L2
theorem rev_pick (items : Array Value) : (List.filterMap (fun (k : Nat) => items[((items.size : Int) - 1 + (k : Int) * (-1)).toNat]?) (List.range items.size)) = items.toList.reverse := by
  refine List.ext_getElem? fun i => ?_
  have h : ∀ k ∈ List.range items.size, (fun (k : Nat) => items[((items.size : Int) - 1 + (k : Int) * (-1)).toNat]?) k = some (items.toList.reverse.getD k .none) := by
    intro k hk
    have hk := List.mem_range.mp hk
    have e : ((items.size : Int) - 1 + (k : Int) * (-1)).toNat = items.size - 1 - k := by omega
    simp only [e]
    rw [List.getD_eq_getElem?_getD, List.getElem?_reverse (by simpa using hk)]
    have h2 : items.size - 1 - k < items.size := by omega
    simp [h2]
  have key : ∀ (l : List Nat) (f : Nat → Option Value) (g : Nat → Value), (∀ k ∈ l, f k = some (g k)) → l.filterMap f = l.map g := by
    intro l f g
    induction l with
    | nil => intro _; rfl
    | cons a l ih =>
      intro hk
      rw [List.filterMap_cons_some (hk a (List.mem_cons_self ..)), ih fun k hl => hk k (List.mem_cons_of_mem _ hl)]
      rfl
  rw [key _ _ (fun k => items.toList.reverse.getD k .none) h, List.getElem?_map]
  by_cases hi : i < items.size
  · rw [List.getElem?_range hi, List.getElem?_eq_getElem (by simpa using hi)]
    rw [Option.map_some, List.getD_eq_getElem?_getD, List.getElem?_eq_getElem (by simpa using hi)]
    rfl
  · rw [List.getElem?_eq_none (by simpa using hi), List.getElem?_eq_none (by simpa using hi)]
    rfl
theorem getItem_tup_rev {P : Program} {w : World} {A : Around} {E : Value → Shared → Prop} {s : Shared} {t sl : Addr} {items : Array Value} {u : Tok} {Q : Value → Shared → Prop} (ht : IsTup s.heap t items) (hs : s.heap.IsSliceOf sl .none .none (.int (-1) u)) (hz : items.size ≤ sizeLine)
    (q : Q (.ref s.heap.objs.size) { s with heap := s.heap.push { cls := .type "tuple", data := .seq items.toList.reverse.toArray } }) : wpAny (model P w) A (getItem (.ref t) (.ref sl)) Q E s := by
  have tt := ht.typeIs
  obtain ⟨so, s1, s2, s3⟩ := hs
  have ts : s.TypeIs (.ref sl) "slice" := ⟨so, s1, s2⟩
  unfold getItem
  refine wpAny_holding (wpAny_bind (wpAny_sequenceKey (T := "tuple") tt (by decide) ?_))
  refine wpAny_bind (wpAny_callSpecial?_slot tt slot_tuple_getitem (wpAny_call_entry slot_tuple_getitem tt entry_tuple_getitem ?_ (args_tuple_getitem _ _)))
  unfold Builtin.«tuple.__getitem__»
  refine wpAny_bind (wpAny_pure ?_)
  simp only []
  refine wpAny_bind (tupleItemsOf_ ht ?_)
  refine wpAny_bind (wpAny_typeOf ts ?_)
  refine wpAny_ite_true rfl ?_
  unfold Builtin.Slice.sliceApplied Builtin.Slice.sliceFields
  refine wpAny_bind (wpAny_bind (wpAny_bind (wpAny_field s1 s3 rfl ?_)))
  refine wpAny_bind (wpAny_field s1 s3 rfl ?_)
  refine wpAny_bind (wpAny_field s1 s3 rfl (wpAny_pure ?_))
  simp only []
  refine wpAny_bind (slicePart_int ?_)
  refine wpAny_ite_false rfl ?_
  refine wpAny_bind (slicePart_none (wpAny_bind (slicePart_none (wpAny_bind (wpAny_pure ?_)))))
  have e1 : Builtin.Slice.sliceAdjust none none ((some (-1 : Int)).getD 1) items.size = ((items.size : Int) - 1, -1) := by
    simp [Builtin.Slice.sliceAdjust]
  rw [e1]
  simp only []
  refine wpAny_pure ?_
  have e2 : Builtin.Slice.slicePlaces ((items.size : Int) - 1) (-1) ((some (-1 : Int)).getD 1) = items.size := by
    show Builtin.Slice.slicePlaces ((items.size : Int) - 1) (-1) (-1) = items.size
    unfold Builtin.Slice.slicePlaces
    rw [if_neg (by omega : ¬ ((-1 : Int) > 0))]
    by_cases h0 : items.size = 0
    · rw [if_neg (by omega), h0]; rfl
    · rw [if_pos (by omega), show (- -1 : Int) = 1 from rfl, Int.ediv_one]; omega
  rw [e2]
  simp only []
  refine wpAny_ite_false (by simp) ?_
  unfold Builtin.Tuple.tupleExact
  have e3 : ((some (-1 : Int)).getD 1) = -1 := rfl
  rw [e3, rev_pick]
  refine wpAny_bind (wpAny_newObj_type ?_ ?_)
  · refine wpAny_pure ⟨_, rfl, ?_⟩
    exact wpAny_pure q
  · exact by simpa [sizeOk] using hz
section
variable {X : Cx} {g : Gh}
/-! ### xs[::-1] -/
def oRev : D → M D
  | .tup xs => pure (.tup xs.reverse)
  | .lst xs => pure (.lst xs.reverse)
  | _ => M.fail
def eRev (m : DEnv → M D) : DEnv → M D := fun env => do
  let d ← m env
  oRev d
theorem pv_rev {a : Expr} {ma : DEnv → M D} {k : Nat} {p1 p2 p3 pos : Pos} (ha : PB X g a ma) : PV X g (.Subscript a (.Slice none none (some (.UnaryOp .USub (.Constant (.int 1) k p1) p2)) p3) pos) (eRev ma) := ⟨fun f pins s σ H B env ω d ω' I r q => by
  obtain ⟨x, ω1, q1, q2⟩ := M.bind_some q
  cases x with
  | lst xs =>
    obtain ⟨rfl, rfl⟩ := M.pure_some q2
    refine thn ((L2.pe_revL (ha.pe f)).run pins s σ H (Qv g σ env B H (.lst xs.reverse) ω1) I ⟨B, env, ω, _, ω1, r, q1, fun z H1 ⟨B1, m1, rl1, k1⟩ => ?_⟩) fun _ _ w => Qv.of w
    obtain ⟨p, vs, rfl, hp, rp⟩ := k1.lst rl1.bas.ex
    refine ⟨p, vs, rfl, sqL_of hp, fun t ht => ?_⟩
    exact ⟨_, m1.trans (Mov.frz rl1.bas ht) r.bas.st rl1.bas.st, rl1.frz ht, .lst upd_same ((rp.reverse).mono (Ex.new (rl1.bas.off ht)))⟩
  | tup xs =>
    obtain ⟨rfl, rfl⟩ := M.pure_some q2
    refine Subscript_ (thn (ha.run f pins s σ H B env ω _ ω1 I r q1) fun v s1 ⟨y, H1, B1, I1, r1, m1, rl1, k1⟩ => ?_)
    obtain ⟨p, vs, rfl, hp, rp⟩ := k1.tup rl1.bas.ex
    cases r1
    refine wpAny_Slice ?_
    rw [evalPart_none]
    refine wpAny_pure (wpAny_pure ?_)
    rw [evalPart_some]
    refine thn ((pe_un un_neg pe_int).run pins s1 σ H1 (fun z H2 => z = .int (-1) ∧ H2 = H1) I1 ⟨1, rfl, rfl, rfl⟩) fun u s2 ⟨z, H2, I2, rz, ez, eh⟩ => ?_
    subst ez eh
    obtain ⟨tk, rfl⟩ := rz
    have I3 : Inv X pins σ H2 { s2 with heap := s2.heap.push { cls := .type "slice", data := .fields #[.none, .none, .int (-1) tk] } } := I2.kept (t' := s2.toks) fun b ob q => Heap.get?_push_of_some _ q
    obtain ⟨its, ri, pl, hz⟩ := I3.tuple (f.K ▸ hp)
    have hz2 : its.toArray.size ≤ sizeLine := by rw [List.size_toArray, ← ri.length]; exact hz
    refine tail_any (ops := [.ref p, .ref s2.heap.objs.size]) pl.typeIs slot_tuple_getitem.lookup ?_ (by with_unfolding_all rfl)
    refine getItem_tup_rev pl (Heap.IsSliceOf.new ..) hz2 ?_
    have hn : H2 (s2.heap.push { cls := .type "slice", data := .fields #[.none, .none, .int (-1) tk] }).objs.size = none := I3.hok.fresh (Nat.le_refl _)
    obtain ⟨B4, m4, rl4, p4⟩ := Qv.tup (p := (s2.heap.push { cls := .type "slice", data := .fields #[.none, .none, .int (-1) tk] }).objs.size) rl1 rp.reverse hn
    refine ⟨.ref (s2.heap.push { cls := .type "slice", data := .fields #[.none, .none, .int (-1) tk] }).objs.size, _, B4, I3.laid (t' := s2.toks) (fun b u e => Heap.get?_push_of_some _ e) (Nat.le_refl _) ?_, rfl, m1.trans m4 r.bas.st rl1.bas.st, rl4, p4⟩
    exact ⟨by simpa using hz, its.toArray.toList.reverse, by simpa using Vals.reverse ri, IsTup.new ..⟩
  | _ => exact (M.fail_some (ω := ω1) q2).elim⟩
/-! ### isinstance(e, T) -/
def tyD : D → String
  | .non => "NoneType"
  | .bl _ => "bool"
  | .int _ => "int"
  | .str _ => "str"
  | .tup _ => "tuple"
  | .lst _ => "list"
  | _ => ""
def isiB (a b : String) : Bool := a == b || (a == "bool" && b == "int")
def fIsi (T : String) : List D → M D
  | [.non] => pure (.bl (isiB "NoneType" T))
  | [.bl _] => pure (.bl (isiB "bool" T))
  | [.int _] => pure (.bl (isiB "int" T))
  | [.str _] => pure (.bl (isiB "str" T))
  | [.tup _] => pure (.bl (isiB "tuple" T))
  | [.lst _] => pure (.bl (isiB "list" T))
  | _ => M.fail
/-- the classes asked for -/
structure KiOk (T : String) : Prop where
  non : kitB "NoneType" T = some (isiB "NoneType" T)
  bl : kitB "bool" T = some (isiB "bool" T)
  int : kitB "int" T = some (isiB "int" T)
  str : kitB "str" T = some (isiB "str" T)
  tup : kitB "tuple" T = some (isiB "tuple" T)
  lst : kitB "list" T = some (isiB "list" T)
theorem ki_bool : KiOk "bool" := by constructor <;> decide +kernel
theorem ki_int : KiOk "int" := by constructor <;> decide +kernel
theorem ki_str : KiOk "str" := by constructor <;> decide +kernel
theorem ki_tuple : KiOk "tuple" := by constructor <;> decide +kernel
theorem ki_list : KiOk "list" := by constructor <;> decide +kernel
theorem tyL {K : PySem.W.Frag} {H : Hp} {a : Addr} {xs : List V} (h : H a = some (.lst xs)) : TyX K H (.ref a) (.type "list") := .base (.lst h)
theorem tyT {K : PySem.W.Frag} {H : Hp} {a : Addr} {xs : List V} (h : SqT K H a xs) : TyX K H (.ref a) (.type "tuple") := by
  rcases h with (h | ⟨o, h⟩) | ⟨o, its, n, h1, h2, _⟩
  · exact .base (.tup h)
  · exact .fTuple h
  · exact .kTuple h1 h2
theorem fIsi_ok (ft : Fits X g) {T : String} (k : KiOk T) {B H : Hp} {d r : D} {v : V} {ω ω' : Om} (ex : Ex B H) (hv : Rb g B H d v) (q : fIsi T [d] ω = some (r, ω')) : ω' = ω ∧ ∃ t b, r = .bl b ∧ TyX X.K H v (.type t) ∧ kitB t T = some b := by
  cases d with
  | non => obtain ⟨rfl, rfl⟩ := M.pure_some q; rw [hv.non]; exact ⟨rfl, _, _, rfl, .base .non, k.non⟩
  | bl b => obtain ⟨rfl, rfl⟩ := M.pure_some q; rw [hv.bl]; exact ⟨rfl, _, _, rfl, .base (.bl b), k.bl⟩
  | int b => obtain ⟨rfl, rfl⟩ := M.pure_some q; rw [hv.int]; exact ⟨rfl, _, _, rfl, .base (.int b), k.int⟩
  | str b => obtain ⟨rfl, rfl⟩ := M.pure_some q; rw [hv.str]; exact ⟨rfl, _, _, rfl, .base (.str b), k.str⟩
  | tup b =>
    obtain ⟨rfl, rfl⟩ := M.pure_some q
    obtain ⟨a, xs, rfl, ha, _⟩ := hv.tup ex
    exact ⟨rfl, _, _, rfl, tyT (ft.K ▸ ha), k.tup⟩
  | lst b =>
    obtain ⟨rfl, rfl⟩ := M.pure_some q
    obtain ⟨a, xs, rfl, ha, _⟩ := hv.lst ex
    exact ⟨rfl, _, _, rfl, tyL ha, k.lst⟩
  | _ => exact (M.fail_some (ω := ω) q).elim
theorem pv_isi {e : Expr} {m : DEnv → M D} {p1 p2 pos : Pos} {x : Str} (T : String) (k : KiOk T) (ha : PB X g e m) (hm : X.mg "isinstance" = none) (hm2 : X.mg x = none) (hv : bootBuiltins x = some (.type T) := by decide +kernel) (hn : x ≠ "__name__" := by decide) (hdb : (x == ("__debug__" : Str)) = false := by decide) (hg : Gl X "isinstance" := by rfl) (hg2 : Gl X x := by rfl)
    (he : starEach [e, .Name x p2] X.env = [(false, eval e X.env), (false, eval (.Name x p2) X.env)] := by rfl) (he2 : starEach [.Name x p2] X.env = [(false, eval (.Name x p2) X.env)] := by rfl) : PV X g (.Call (.Name "isinstance" p1) [e, .Name x p2] [] pos) (eCall (fIsi T) [m]) := ⟨fun f pins s σ H B env ω d ω' I r q => by
  obtain ⟨ds, ω1, h1, h2⟩ := M.bind_some q
  obtain ⟨d0, ω2, r0, q1, q2, rfl⟩ := evs_cons h1
  obtain ⟨rfl, rfl⟩ := M.pure_some (show (pure [] : M (List Pw.D)) ω2 = some (r0, ω1) from q2)
  refine wpAny_Call_Name_kw (ld_blt I hg hm (show bootBuiltins "isinstance" = some (.builtin "isinstance") by decide +kernel) ?_ (by decide) (by decide))
  refine PyProof.Rows.callWith_builtin1 ?_ (by rw [he, he2]) (by rw [he2]; rfl)
  rw [he]
  show wpAny _ _ (spliced ((false, _) :: (false, _) :: [])) _ _ s
  refine Calls.spliced_cons (thn (ha.run f pins s σ H B env ω d0 ω2 I r q1) fun u s1 ⟨v, H1, B1, I1, rv, m1, rl1, k1⟩ => ?_)
  refine Calls.spliced_cons (ld_blt I1 hg2 hm2 hv ?_ hn hdb)
  refine Calls.spliced_nil ?_
  obtain ⟨ew, t, b, rfl, ty, kk⟩ := fIsi_ok f k rl1.bas.ex k1 h2
  subst ew
  exact thn (call_isi pins s1 σ H1 [v, .ty T] [u, .type T] (Qv g σ env B H (.bl b) ω') I1 (.cons rv (.cons rfl .nil)) ⟨v, _, _, _, b, rfl, .ty T, ty, kit_ty kk, B1, m1, rl1, .bl b⟩) fun _ _ w => Qv.of w⟩
/-! ### + and * of all kinds -/
def aAddL : D → D → M D
  | .lst xs, .lst ys => if xs.length + ys.length ≤ LIM then pure (.lst (xs ++ ys)) else M.fail
  | x, y => aAdd x y
theorem d_addF {B H : Hp} {σ : L2.St} {env : DEnv} {ω ω' : Om} {xs ys : List D} {d : D} {v u : V} (rl : Rel g B σ H env ω) (hx : Rb g B H (.lst xs) v) (hy : Rb g B H (.lst ys) u) (q : aAddL (.lst xs) (.lst ys) ω = some (d, ω')) : rCat v u H (Qf g σ env B H d ω') := by
  obtain ⟨hz, rfl, rfl⟩ := if_some q
  obtain ⟨a, vs, rfl, ha, ra⟩ := hx.lst rl.bas.ex
  obtain ⟨b, us, rfl, hb, rb⟩ := hy.lst rl.bas.ex
  exact ⟨a, b, vs, us, rfl, rfl, ha, hb, by rw [← ra.length, ← rb.length]; exact lim_le hz, fun p hp => Qf.lst rl (ra.append rb) hp⟩
/-- a new container joins the base -/
theorem Qf.v {σ : L2.St} {env : DEnv} {B H : Hp} {d : D} {ω ω' : Om} {z : V} {H' : Hp} (r : Rel g B σ H env ω) (h : Qf g σ env B H d ω' z H') : Qv g σ env B H d ω' z H' := by
  obtain ⟨p, B1, rfl, mv, r1, n⟩ := h
  obtain ⟨o, ho⟩ := n.cell.some
  have ex1 : Ex B1 (upd B1 p o) := Ex.new n.off
  have exH : Ex (upd B1 p o) H' := fun a u e => by
    by_cases hp : a = p
    · subst hp; rw [upd_same] at e; cases e; exact ho
    · rw [upd_ne hp] at e; exact r1.bas.ex a u e
  have m1 : Mov g B H (upd B1 p o) H' := ⟨mv.ex.trans ex1, mv.fr, fun a ha hb => by
    by_cases hp : a = p
    · subst hp; obtain ⟨w, hw⟩ := hb; rw [n.new] at hw; cases hw
    · rw [upd_ne hp]; exact mv.nw a ha hb⟩
  exact ⟨upd B1 p o, m1, r.mov m1 (r.bas.mov m1 exH r1.bas.st), n.cell.rp ex1 fun o' ho' => by rw [ho] at ho'; cases ho'; exact upd_same⟩
theorem d_addL : OpD X g (binaryOp .Add) aAddL := by
  intro ft pins s σ H B env ω x y v u a b d ω' I rl hx hy ra rb q
  by_cases hl : ∃ xs ys, x = .lst xs ∧ y = .lst ys
  · obtain ⟨xs, ys, rfl, rfl⟩ := hl
    exact thn (op_cat pins s σ H v u a b _ I ra rb (d_addF rl hx hy q)) fun w' s' ⟨z, H', I', rz, w⟩ => by
      obtain ⟨B', m, rl', p⟩ := w.v rl
      exact ⟨z, H', B', I', rz, m, rl', p⟩
  · refine d_add ft pins s σ H B env ω x y v u a b d ω' I rl hx hy ra rb ?_
    cases x <;> cases y <;> first | exact q | exact absurd ⟨_, _, rfl, rfl⟩ hl
def aCat : D → D → M D
  | .lst xs, .lst ys => if xs.length + ys.length ≤ LIM then pure (.lst (xs ++ ys)) else M.fail
  | _, _ => M.fail
theorem f_cat : OpFr X g (binaryOp .Add) aCat := by
  intro ft pins s σ H B env ω x y v u a b d ω' I rl hx hy ra rb q
  cases x with
  | lst xs =>
    cases y with
    | lst ys => exact thn (op_cat pins s σ H v u a b _ I ra rb (d_addF rl hx hy q)) fun _ _ w => Qf.of w
    | _ => exact (M.fail_some (ω := ω) q).elim
  | _ => exact (M.fail_some (ω := ω) q).elim
def repD (xs : List D) (k : Int) : List D := (List.replicate k.toNat xs).flatten
def aRep : D → D → M D
  | .lst xs, .int k => if -(2 ^ 63) ≤ k ∧ k < 2 ^ 63 ∧ xs.length * k.toNat ≤ LIM then pure (.lst (repD xs k)) else M.fail
  | _, _ => M.fail
theorem Rps.rep {B : Hp} {ds : List D} {xs : List V} (r : Rps g B ds xs) : ∀ n : Nat, Rps g B (List.replicate n ds).flatten (List.replicate n xs).flatten
  | 0 => .nil
  | n + 1 => by
    rw [List.replicate_succ, List.replicate_succ, List.flatten_cons, List.flatten_cons]
    exact r.append (Rps.rep r n)
theorem d_repF {B H : Hp} {σ : L2.St} {env : DEnv} {ω ω' : Om} {xs : List D} {k : Int} {d : D} {v u : V} (rl : Rel g B σ H env ω) (hx : Rb g B H (.lst xs) v) (hy : Rb g B H (.int k) u) (q : aRep (.lst xs) (.int k) ω = some (d, ω')) : rRep v u H (Qf g σ env B H d ω') := by
  obtain ⟨hz, rfl, rfl⟩ := if_some q
  obtain ⟨a, vs, rfl, ha, ra⟩ := hx.lst rl.bas.ex
  refine ⟨a, k, vs, rfl, hy.int, ha, hz.1, hz.2.1, by rw [← ra.length]; exact lim_le hz.2.2, fun p hp => Qf.lst rl (ra.rep _) hp⟩
theorem f_rep : OpFr X g (binaryOp .Mult) aRep := by
  intro ft pins s σ H B env ω x y v u a b d ω' I rl hx hy ra rb q
  cases x with
  | lst xs =>
    cases y with
    | int k => exact thn (op_rep pins s σ H v u a b _ I ra rb (d_repF rl hx hy q)) fun _ _ w => Qf.of w
    | _ => exact (M.fail_some (ω := ω) q).elim
  | _ => exact (M.fail_some (ω := ω) q).elim
def aMulL : D → D → M D
  | .lst xs, y => aRep (.lst xs) y
  | x, y => aMul x y
theorem d_mulL : OpD X g (binaryOp .Mult) aMulL := by
  intro ft pins s σ H B env ω x y v u a b d ω' I rl hx hy ra rb q
  cases x with
  | lst xs =>
    cases y with
    | int k =>
      refine thn (op_rep pins s σ H v u a b _ I ra rb (d_repF rl hx hy q)) fun w' s' ⟨z, H', I', rz, w⟩ => ?_
      obtain ⟨B', m, rl', p⟩ := w.v rl
      exact ⟨z, H', B', I', rz, m, rl', p⟩
    | _ => exact (M.fail_some (ω := ω) q).elim
  | _ => exact d_mul ft pins s σ H B env ω _ y v u a b d ω' I rl hx hy ra rb q
/-! ### slices of lists and tuples -/
def slA : D → Option Int → Option Int → M D
  | .tup xs, lo, hi => pure (.tup (cutD xs lo hi))
  | .lst xs, lo, hi => pure (.lst (cutD xs lo hi))
  | _, _, _ => M.fail
theorem SlR.or {r1 r2 : V → Option Int → Option Int → Hp → VK → Prop} (h1 : SlR X r1) (h2 : SlR X r2) : SlR X fun v l h H Q => r1 v l h H Q ∨ r2 v l h H Q := by
  intro pins s σ H x v vl vu lo hi sl Q I rv hs hl hu h
  rcases h with h | h
  · exact h1 pins s σ H x v vl vu lo hi sl Q I rv hs hl hu h
  · exact h2 pins s σ H x v vl vu lo hi sl Q I rv hs hl hu h
theorem pv_sl {a : Expr} {ma : DEnv → M D} {lo hi : Option Expr} {ml mh : DEnv → M (Option Int)} {pos p2 : Pos} (ha : PB X g a ma) (hl : PPart X g lo ml) (hu : PPart X g hi mh) : PV X g (.Subscript a (.Slice lo hi none p2) pos) (eSl slA ma ml mh) := ⟨fun f pins s σ H B env ω d ω' I r q =>
  thn (sl_run (SlR.or sl_tupA sl_list) f ha hl hu I r q fun x l h v H1 B1 ω1 m1 rl1 kx e => by
    cases x with
    | tup xs =>
      left
      obtain ⟨rfl, rfl⟩ := M.pure_some e
      obtain ⟨p, vs, rfl, hp, rp⟩ := kx.tup rl1.bas.ex
      have hlen := rp.length
      refine ⟨p, vs, rfl, f.K ▸ hp, fun hw => ?_, fun _ t ht => ?_⟩
      · rw [← hlen] at hw
        refine ⟨B1, m1, rl1, ?_⟩
        rw [cut_whole hw]
        rcases kx with kx | ⟨_, _, c, _⟩
        · exact kx
        · cases c
      · obtain ⟨B2, m2, rl2, p2⟩ := Qv.tup rl1 (rp.cut l h) ht
        exact ⟨B2, m1.trans m2 r.bas.st rl1.bas.st, rl2, p2⟩
    | lst xs =>
      right
      obtain ⟨rfl, rfl⟩ := M.pure_some e
      obtain ⟨p, vs, rfl, hp, rp⟩ := kx.lst rl1.bas.ex
      refine ⟨p, vs, rfl, sqL_of hp, fun t ht => ?_⟩
      obtain ⟨B2, m2, rl2, p2⟩ := (Qf.lst rl1 (rp.cut l h) ht).v rl1
      exact ⟨B2, m1.trans m2 r.bas.st rl1.bas.st, rl2, p2⟩
    | _ => exact (M.fail_some (ω := ω1) e).elim) fun _ _ w => Qv.of w⟩
/-! ### n.bit_length() -/
def oBits : D → M D
  | .int i => pure (.int (Builtin.Int.intBits i : Nat))
  | _ => M.fail
def eBits (m : DEnv → M D) : DEnv → M D := fun env => do
  let d ← m env
  oBits d
theorem pv_bits {o : Expr} {m : DEnv → M D} {apos pos : Pos} (ha : PB X g o m) (hb : attributeBase o "bit_length" X.env (eval o X.env) = eval o X.env := by rfl) (hl : (apos.endLine == pos.line) = true := by rfl) : PV X g (.Call (.Attribute o "bit_length" apos) [] [] pos) (eBits m) :=
  PV.of_pe (fun f => pe_bits (ha.pe f) hb hl) fun f B σ H env ω d ω' r q => by
    obtain ⟨x, ω1, q1, q2⟩ := M.bind_some q
    cases x with
    | int i =>
      obtain ⟨rfl, rfl⟩ := M.pure_some q2
      exact ⟨B, env, ω, _, ω1, r, q1, fun z H1 ⟨B1, m1, rl1, k1⟩ => ⟨i, k1.int, B1, m1, rl1, .int _⟩⟩
    | _ => exact (M.fail_some (ω := ω1) q2).elim
/-! ### break, pass, return -/
def sBrk : DEnv → M Fl := fun env => pure (.bk env)
theorem st_break {pos : Pos} : PSt X g (.Break pos) sBrk := ⟨fun f => PS.imp ps_break fun D σ H ⟨B, env, ω, r, ω', rl, q, k⟩ => by
  obtain ⟨rfl, rfl⟩ := M.pure_some q
  exact k σ H B (Ex.refl B) rl⟩
theorem st_retN {pos : Pos} : PSt X g (.Return none pos) (sRet (eC .non)) := ⟨fun f => PS.imp ps_retN fun D σ H ⟨B, env, ω, r, ω', rl, q, k⟩ => by
  obtain ⟨rfl, rfl⟩ := M.pure_some (show (pure (.rt .non) : M Fl) ω = some (r, ω') from q)
  exact k .non H B (Ex.refl B) rl.bas .non⟩
/-! ### a, b = e, f -/
def sPar2 (i j : Nat) (a b : DEnv → M D) : DEnv → M Fl := fun env => do
  let x ← a env
  let y ← b env
  pure (.nx ((env.set i (some x)).set j (some y)))
def sPar3 (i j k : Nat) (a b c : DEnv → M D) : DEnv → M Fl := fun env => do
  let x ← a env
  let y ← b env
  let z ← c env
  pure (.nx (((env.set i (some x)).set j (some y)).set k (some z)))
theorem st_par (i j : Nat) {x y : Str} {a b : Expr} {ma mb : DEnv → M D} {px py pt pt2 pos : Pos} {kt k2 : Nat} (ha : PV X g a ma) (hb : PV X g b mb) (hi : X.N[i]? = some x := by rfl) (hj : X.N[j]? = some y := by rfl) (hWi : i ∉ g.W := by exact ni_of rfl) (hWj : j ∉ g.W := by exact ni_of rfl) (hij : i ≠ j := by decide)
    (hx : X.env.scope.names.lookup x = some .local := by rfl) (hy : X.env.scope.names.lookup y = some .local := by rfl) (hs1 : starEach [a, b] X.env = (false, eval a X.env) :: starEach [b] X.env := by rfl) (hs2 : starEach [b] X.env = (false, eval b X.env) :: starEach [] X.env := by rfl)
    (hw : swappedStores [.Tuple [.Name x px, .Name y py] kt pt] (.Tuple [a, b] k2 pt2) X.env = pure (some [x, y]) := by rfl) : PSt X g (.Assign [.Tuple [.Name x px, .Name y py] kt pt] (.Tuple [a, b] k2 pt2) pos) (sPar2 i j ma mb) :=
  ⟨fun f => PS.imp (ps_par f.calm f.nd hi hj hij hx hy ((pas_cons ha (pas_cons hb pas_nil hs2) hs1).pa f) hw) fun D σ H ⟨B, env, ω, r, ω', rl, q, k⟩ => by
    obtain ⟨v1, ω1, q1, qa⟩ := M.bind_some q
    obtain ⟨v2, ω2, q2, qb⟩ := M.bind_some qa
    obtain ⟨rfl, rfl⟩ := M.pure_some qb
    refine ⟨B, env, ω, [v1, v2], ω2, rl, ?_, fun vs H1 B1 m1 rl1 rp => ?_⟩
    · show (ma env >>= fun d => (mb env >>= fun e => pure [] >>= fun ds => pure (e :: ds)) >>= fun ds => pure (d :: ds) : M (List Pw.D)) ω = _
      rw [M.bind_run, q1]
      show ((mb env >>= _) >>= _ : M (List Pw.D)) ω1 = _
      rw [M.bind_run, M.bind_run, q2]; rfl
    · cases rp with
      | cons p1 rp =>
        cases rp with
        | cons p2 rp =>
          cases rp
          exact ⟨_, _, rfl, k _ H1 B1 m1.ex ((rl1.set i (fun h => absurd h hWi) p1).set j (fun h => absurd h hWj) p2)⟩⟩
theorem st_par3 (i j l : Nat) {x y z : Str} {a b c : Expr} {ma mb mc : DEnv → M D} {px py pz pt pt2 pos : Pos} {kt k2 : Nat} (ha : PV X g a ma) (hb : PV X g b mb) (hc : PV X g c mc) (hi : X.N[i]? = some x := by rfl) (hj : X.N[j]? = some y := by rfl) (hl : X.N[l]? = some z := by rfl) (hWi : i ∉ g.W := by exact ni_of rfl) (hWj : j ∉ g.W := by exact ni_of rfl) (hWl : l ∉ g.W := by exact ni_of rfl) (hij : i ≠ j := by decide) (hil : i ≠ l := by decide) (hjl : j ≠ l := by decide)
    (hx : X.env.scope.names.lookup x = some .local := by rfl) (hy : X.env.scope.names.lookup y = some .local := by rfl) (hz : X.env.scope.names.lookup z = some .local := by rfl) (hs1 : starEach [a, b, c] X.env = (false, eval a X.env) :: starEach [b, c] X.env := by rfl) (hs2 : starEach [b, c] X.env = (false, eval b X.env) :: starEach [c] X.env := by rfl) (hs3 : starEach [c] X.env = (false, eval c X.env) :: starEach [] X.env := by rfl)
    (hw : swappedStores [.Tuple [.Name x px, .Name y py, .Name z pz] kt pt] (.Tuple [a, b, c] k2 pt2) X.env = pure (some [x, y, z]) := by rfl) : PSt X g (.Assign [.Tuple [.Name x px, .Name y py, .Name z pz] kt pt] (.Tuple [a, b, c] k2 pt2) pos) (sPar3 i j l ma mb mc) :=
  ⟨fun f => PS.imp (ps_par3 f.calm f.nd hi hj hl hij hil hjl hx hy hz ((pas_cons ha (pas_cons hb (pas_cons hc pas_nil hs3) hs2) hs1).pa f) hw) fun D σ H ⟨B, env, ω, r, ω', rl, q, k⟩ => by
    obtain ⟨v1, ω1, q1, qa⟩ := M.bind_some q
    obtain ⟨v2, ω2, q2, qb⟩ := M.bind_some qa
    obtain ⟨v3, ω3, q3, qc⟩ := M.bind_some qb
    obtain ⟨rfl, rfl⟩ := M.pure_some qc
    refine ⟨B, env, ω, [v1, v2, v3], ω3, rl, ?_, fun vs H1 B1 m1 rl1 rp => ?_⟩
    · show (ma env >>= fun d => (mb env >>= fun e => (mc env >>= fun e2 => pure [] >>= fun ds => pure (e2 :: ds)) >>= fun ds => pure (e :: ds)) >>= fun ds => pure (d :: ds) : M (List Pw.D)) ω = _
      rw [M.bind_run, q1]
      show ((mb env >>= _) >>= _ : M (List Pw.D)) ω1 = _
      rw [M.bind_run, M.bind_run, q2]
      show (((mc env >>= _) >>= _) >>= _ : M (List Pw.D)) ω2 = _
      rw [M.bind_run, M.bind_run, M.bind_run, q3]; rfl
    · cases rp with
      | cons p1 rp =>
        cases rp with
        | cons p2 rp =>
          cases rp with
          | cons p3 rp =>
            cases rp
            exact ⟨_, _, _, rfl, k _ H1 B1 m1.ex (((rl1.set i (fun h => absurd h hWi) p1).set j (fun h => absurd h hWj) p2).set l (fun h => absurd h hWl) p3)⟩⟩
end
end Pw
set_option Elab.async false
set_option linter.all false
set_option maxRecDepth 100000
/-! My layer, part 15: list comprehensions of two for. -/
namespace Pw
open PySem PySem.Spec PyProof.Rows L2
section
variable {X : Cx} {g : Gh}
/-- a place that nobody owns or reads is written -/
theorem Rel.poke {B H : Hp} {σ : L2.St} {env : DEnv} {ω : Om} (r : Rel g B σ H env ω) {a : Addr} {o : HO} (hB : B a = none) (h0 : g.H0 a = none) (h1 : a ≠ g.st) (h2 : a ≠ g.ct) (ho : ∀ i d p, i ∈ g.W → env[i]? = some (some d) → d.cont = true → σ[i]? = some (some (.ref p)) → p ≠ a) : Rel g B σ (upd H a o) env ω where
  bas := ⟨fun b u e => by
      have : b ≠ a := fun q => by rw [q, hB] at e; cases e
      rw [upd_ne this]; exact r.bas.ex b u e, r.bas.nb, ⟨r.bas.st.1, by rw [upd_ne h1.symm]; exact r.bas.st.2.1, by rw [upd_ne h2.symm]; exact r.bas.st.2.2⟩, fun b u e z1 z2 => by
      have : b ≠ a := fun q => by rw [q, h0] at e; cases e
      rw [upd_ne this]; exact r.bas.fr b u e z1 z2, r.bas.nw⟩
  len := r.len
  rd := r.rd
  ow := fun i d hi e hc => by
    obtain ⟨p, q1, q2, q3⟩ := r.ow i d hi e hc
    exact ⟨p, q1, q2.step (Ex.refl B) (fun u hu => by rw [upd_ne (ho i d p hi e hc q1)]; exact hu), q3⟩
  ap := r.ap
def lcD2 (own own1 : List Nat) (t : D → DEnv → M DEnv) (c : DEnv → M Bool) (src1 : DEnv → M (List D)) (t1 : D → DEnv → M DEnv) (c1 : DEnv → M Bool) (e : DEnv → M D) (env : DEnv) : List D → M (List D)
  | [] => pure []
  | x :: xs => do
    let env1 ← t x (wipeE env own)
    if ← c env1 then do
      let ys ← src1 env1
      let r1 ← lcD own1 t1 c1 e env1 ys
      let r ← lcD2 own own1 t c src1 t1 c1 e env xs
      pure (r1 ++ r)
    else lcD2 own own1 t c src1 t1 c1 e env xs
def eLc2 (src : DEnv → M (List D)) (own own1 : List Nat) (t : D → DEnv → M DEnv) (c : DEnv → M Bool) (src1 : DEnv → M (List D)) (t1 : D → DEnv → M DEnv) (c1 : DEnv → M Bool) (e : DEnv → M D) : DEnv → M D := fun env => do
  let xs ← src env
  let r ← lcD2 own own1 t c src1 t1 c1 e env xs
  if r.length ≤ LIM then pure (.lst r) else M.fail
/-- what stands in the list that is made, and the frame around it -/
structure Acc (g : Gh) (B1 H1 B H : Hp) (ω : Om) (Dl : Addr) (acc : List D) : Prop where
  m : Mov g B1 H1 B H
  b : Bas g B H ω
  off : B Dl = none
  at' : ∃ accV, H Dl = some (.lst accV) ∧ Rps g B acc accV
theorem Acc.step {B1 H1 B H B' H' : Hp} {ω ω' : Om} {Dl : Addr} {acc : List D} (a : Acc g B1 H1 B H ω Dl acc) {ω1 : Om} (hst : StOk g H1 ω1) (hD : Dl ≠ g.st ∧ Dl ≠ g.ct) (m : Mov g B H B' H') (b : Bas g B' H' ω') : Acc g B1 H1 B' H' ω' Dl acc := by
  obtain ⟨v, h1, h2⟩ := a.at'
  exact ⟨a.m.trans m hst a.b.st, b, m.nw Dl a.off ⟨_, h1⟩, v, m.fr Dl _ h1 hD.1 hD.2, h2.mono m.ex⟩
theorem lc_read2 {σ : L2.St} {H B : Hp} {env : DEnv} {ω ω' : Om} {d : D} {src src1 : DEnv → M (List D)} {own own1 sl sl1 : List Nat} {t t1 : D → DEnv → M DEnv} {c c1 : DEnv → M Bool} {e : DEnv → M D} (rl : Rel g B σ H env ω) (q : eLc2 src own own1 t c src1 t1 c1 e env ω = some (d, ω')) (hsl : ∀ i ∈ sl, i ∈ own) (hsl1 : ∀ i ∈ sl1, i ∈ own1) (hWs : ∀ i ∈ sl, i ∉ g.W)
    (hfr : ∀ d env ω env' ω', t d env ω = some (env', ω') → ∀ i, i ∉ sl → env'[i]? = env[i]?) {Q : VK}
    (hQ : ∀ z H', Qf g σ env B H d ω' z H' → Q z H') : tLc2 (iB g src) (gD g sl t) (tTt g c) (iF g src1) (gD g sl1 t1) (tTt g c1) (tV g e) own own1 σ H Q := by
  obtain ⟨xs, ω1, q1, q2⟩ := M.bind_some q
  obtain ⟨fin, ω2, q2, q3⟩ := M.bind_some q2
  obtain ⟨hz, rfl, rfl⟩ := if_some q3
  refine ⟨B, env, ω, xs, ω1, rl, q1, fun J H1 B1 m1 rl1 it Dl hD => ?_⟩
  have hDs := rl1.bas.st.apart hD
  have hD0 : g.H0 Dl = none := rl1.bas.h0 hD
  refine ⟨fun i n H2 => n = xs.length - i ∧ i ≤ xs.length ∧ ∃ B2 ω3 acc rest, Acc g B1 H1 B2 H2 ω3 Dl acc ∧ lcD2 own own1 t c src1 t1 c1 e env (xs.drop i) ω3 = some (rest, ω') ∧ acc ++ rest = fin,
    ⟨xs.length, by simp, Nat.zero_le _, B1, ω1, [], fin, ⟨Mov.new hD, rl1.bas.add hD, rl1.bas.off hD, [], upd_same, .nil⟩, q2, rfl⟩, ?_⟩
  rintro i n H2 ⟨rfl, hi, B2, ω3, acc, rest, a2, q2, hfin⟩
  have at2 := it B2 H2 (fun a o h1 h2 h3 => a2.m.fr a o h1 h2 h3) a2.m.ex a2.b.ex
  by_cases hlt : i < xs.length
  · rw [List.drop_eq_getElem_cons hlt] at q2
    obtain ⟨env4, ω4, q4, q5⟩ := M.bind_some (show (t xs[i] (wipeE env own) >>= _) ω3 = _ from q2)
    obtain ⟨b, ω5, q5, q6⟩ := M.bind_some q5
    refine .inr ⟨at2.go i hlt, fun H8 => ∃ B8 ω8 acc8 rest8, Acc g B1 H1 B8 H8 ω8 Dl acc8 ∧ lcD2 own own1 t c src1 t1 c1 e env (xs.drop (i + 1)) ω8 = some (rest8, ω') ∧ acc8 ++ rest8 = fin,
      fun H8 h8 => ⟨xs.length - (i + 1), by omega, rfl, hlt, h8⟩, fun x H3 hy => ?_⟩
    obtain ⟨B3, m3, rl3, p3⟩ := (rl1.mov a2.m a2.b).item (at2.yld i x H3 xs[i] hy (List.getElem?_eq_getElem hlt))
    refine ⟨B3, wipeE env own, ω3, xs[i], env4, ω4, rl3.wipe own, p3, q4, fun σ4 rl4 l4 s4 => ?_⟩
    have hw4 : wipe σ4 own = wipe σ own := by
      rw [← wipe_wipe σ own]
      exact wipe_ext l4 fun j hj => s4 j fun h => hj (hsl j h)
    refine ⟨hw4, B3, env4, ω4, b, ω5, rl4, q5, fun H5 B5 m5 rl5 => ?_⟩
    have a5 : Acc g B1 H1 B5 H5 ω5 Dl acc := a2.step rl1.bas.st hDs (m3.trans m5 a2.b.st rl4.bas.st) rl5.bas
    cases b with
    | false =>
      refine iteF ?_
      exact ⟨B5, ω5, acc, rest, a5, q6, hfin⟩
    | true =>
      refine iteT ?_
      obtain ⟨ys, ω6, q7, q8⟩ := M.bind_some q6
      obtain ⟨r1, ω7, q9, q10⟩ := M.bind_some q8
      obtain ⟨r2, ω8, q11, q12⟩ := M.bind_some q10
      obtain ⟨rfl, rfl⟩ := M.pure_some q12
      refine ⟨B5, env4, ω5, ys, ω6, rl5, q7, fun J1 H6 B6 m6 rl6 it1 => ?_⟩
      have a6 : Acc g B1 H1 B6 H6 ω6 Dl acc := a5.step rl1.bas.st hDs m6 rl6.bas
      -- nobody owns the list that is made
      have hown : ∀ j dd p, j ∈ g.W → env4[j]? = some (some dd) → dd.cont = true → σ4[j]? = some (some (.ref p)) → p ≠ Dl := by
        intro j dd p hj he hc hp
        have hjs : j ∉ sl := fun h => hWs j h hj
        rw [hfr _ _ _ _ _ q4 j hjs] at he
        obtain ⟨he, hjo⟩ := wipeE_get he
        rw [s4 j hjs, wipe_get hjo] at hp
        obtain ⟨p', z1, z2, _⟩ := rl1.ow j dd hj he hc
        rw [hp] at z1
        cases z1
        obtain ⟨u, hu⟩ := z2.some
        intro hpd
        rw [hpd, hD] at hu; cases hu
      refine ⟨fun j k H7 => k = ys.length - j ∧ j ≤ ys.length ∧ ∃ B7 ωj accj restj, Acc g B1 H1 B7 H7 ωj Dl accj ∧ Ex B6 B7 ∧ Rel g B7 σ4 H7 env4 ωj ∧ lcD own1 t1 c1 e env4 (ys.drop j) ωj = some (restj, ω7) ∧ accj ++ restj = acc ++ r1,
        ⟨ys.length, by simp, Nat.zero_le _, B6, ω6, acc, r1, a6, Ex.refl B6, rl6, q9, rfl⟩, ?_⟩
      rintro j k H7 ⟨rfl, hj, B7, ωj, accj, restj, a7, e67, rl7, q9, hfj⟩
      have at7 := it1 B7 H7 e67 rl7.bas.ex
      by_cases hlj : j < ys.length
      · rw [List.drop_eq_getElem_cons hlj] at q9
        obtain ⟨envA, ωA, qA, qB⟩ := M.bind_some (show (t1 ys[j] (wipeE env4 own1) >>= _) ωj = _ from q9)
        obtain ⟨bA, ωB, qB, qC⟩ := M.bind_some qB
        refine .inr ⟨at7.go j hlj, fun H8 => ∃ B8 ω8 acc8 rest8, Acc g B1 H1 B8 H8 ω8 Dl acc8 ∧ Ex B6 B8 ∧ Rel g B8 σ4 H8 env4 ω8 ∧ lcD own1 t1 c1 e env4 (ys.drop (j + 1)) ω8 = some (rest8, ω7) ∧ acc8 ++ rest8 = acc ++ r1,
          fun H8 h8 => ⟨ys.length - (j + 1), by omega, rfl, hlj, h8⟩, fun xA HA hyA => ?_⟩
        obtain ⟨BA, mA, rlA, pA⟩ := rl7.item (at7.yld j xA HA ys[j] hyA (List.getElem?_eq_getElem hlj))
        refine ⟨BA, wipeE env4 own1, ωj, ys[j], envA, ωA, rlA.wipe own1, pA, qA, fun σB rlB lB sB => ?_⟩
        refine ⟨?_, BA, envA, ωA, bA, ωB, rlB, qB, fun HC BC mC rlC => ?_⟩
        · rw [← wipe_wipe σ4 own1]
          exact wipe_ext lB fun j hj => sB j fun h => hj (hsl1 j h)
        have m7C : Mov g B7 H7 BC HC := mA.trans mC rl7.bas.st rlB.bas.st
        have aC : Acc g B1 H1 BC HC ωB Dl accj := a7.step rl1.bas.st hDs m7C rlC.bas
        cases bA with
        | false =>
          refine iteF ?_
          exact ⟨BC, ωB, accj, restj, aC, e67.trans m7C.ex, rl7.mov m7C rlC.bas, qC, hfj⟩
        | true =>
          refine iteT ?_
          obtain ⟨y, ωC, qD, qE⟩ := M.bind_some qC
          obtain ⟨rest', ωD, qF, qG⟩ := M.bind_some qE
          obtain ⟨rfl, rfl⟩ := M.pure_some qG
          refine ⟨BC, envA, ωB, y, ωC, rlC, qD, fun z HE ⟨BE, mE, rlE, pE⟩ => ?_⟩
          have aE : Acc g B1 H1 BE HE ωC Dl accj := aC.step rl1.bas.st hDs mE rlE.bas
          obtain ⟨accV, hHE, rpE⟩ := aE.at'
          have m7E : Mov g B7 H7 BE HE := m7C.trans mE rl7.bas.st rlC.bas.st
          have rl7E : Rel g BE σ4 HE env4 ωC := rl7.mov m7E rlE.bas
          have rlP : Rel g BE σ4 (upd HE Dl (.lst (accV ++ [z]))) env4 ωC := rl7E.poke aE.off hD0 hDs.1 hDs.2 hown
          have mP : Mov g B1 H1 BE (upd HE Dl (.lst (accV ++ [z]))) := ⟨aE.m.ex, fun a o h1 h2 h3 => by
            rw [upd_ne (ne_of_none h1 hD)]; exact aE.m.fr a o h1 h2 h3, aE.m.nw⟩
          refine ⟨accV, hHE, ?_, BE, ωC, accj ++ [y], rest', ⟨mP, rlP.bas, aE.off, accV ++ [z], upd_same, rpE.append (.cons pE .nil)⟩, e67.trans m7E.ex, rlP, qF, by rw [List.append_assoc]; exact hfj⟩
          have hl := rpE.length
          have hf := congrArg List.length hfj
          have hf2 := congrArg List.length hfin
          simp only [List.length_append, List.length_cons] at hf hf2
          exact lim_lt (by omega)
      · have ej : j = ys.length := by omega
        subst ej
        rw [List.drop_length] at q9
        obtain ⟨rfl, rfl⟩ := M.pure_some (show (pure [] : M (List D)) ωj = some (restj, ω7) from q9)
        rw [List.append_nil] at hfj
        subst hfj
        exact .inl ⟨at7.stop _ rfl, B7, ωj, _, r2, a7, q11, by rw [List.append_assoc]; exact hfin⟩
  · have ei : i = xs.length := by omega
    subst ei
    rw [List.drop_length] at q2
    obtain ⟨rfl, rfl⟩ := M.pure_some (show (pure [] : M (List D)) ω3 = some (rest, ω') from q2)
    obtain ⟨accV, hH2, rp2⟩ := a2.at'
    refine .inl ⟨at2.stop _ rfl, hQ _ _ ⟨Dl, B2, rfl, m1.trans a2.m rl.bas.st rl1.bas.st, (rl1.mov a2.m a2.b), ?_⟩⟩
    rw [List.append_nil] at hfin
    subst hfin
    have n1 : New g B1 H1 B2 H2 (.lst acc) Dl := ⟨.lst hH2 rp2, a2.off, hD, hDs.1, hDs.2⟩
    exact n1.after m1 rl1.bas.st
section
variable {elt tg tg1 iter iter1 : Expr} {ifs ifs1 : List Expr} {scope : Scope} {sl sl1 : List Nat} {src src1 : DEnv → M (List D)} {t t1 : D → DEnv → M DEnv} {c c1 : DEnv → M Bool} {e : DEnv → M D} {pos spos py : Pos} {y : Str}
theorem pf_lc2 (own : List (Str × Nat)) (own1 : List Nat) (hi : PIb X g tg iter src) (ht : InBlk X scope fun Y => PTg Y g tg sl t) (hc : InBlk X scope fun Y => PTl Y g ifs c) (hi1 : InBlk X scope fun Y => PIf Y g tg1 iter1 src1) (ht1 : InBlk X scope fun Y => PTg Y g tg1 sl1 t1) (hc1 : InBlk X scope fun Y => PTl Y g ifs1 c1) (he : InBlk X scope fun Y => PV Y g elt e)
    (ok : blkC X.N X.env.scope scope own = true := by rfl) (hsl : ∀ i ∈ sl, i ∈ own.map (·.2) := by decide) (hsl1 : ∀ i ∈ sl1, i ∈ own1 := by decide) (hv : ∀ i ∈ own1, i ∈ own.map (·.2) := by decide) (hW : ∀ i ∈ sl, i ∉ g.W := by exact al_of rfl) (hs : ∀ x, foldedSetIterable iter X.env x = pure x := by intro _; rfl) (hs1 : ∀ (E : PySem.Env) x, foldedSetIterable iter1 E x = pure x := by intro _ _; rfl)
    : PF X g (.ListComp elt [⟨tg, iter, ifs, 0⟩, ⟨tg1, iter1, ifs1, 0⟩] scope pos) (eLc2 src (own.map (·.2)) own1 t c src1 t1 c1 e) :=
  ⟨fun f pins s σ H B env ω d ω' I r q => by
    have hfr := (ht s H 0 [] []).fr
    refine thn ((pe_lc2 (own := own) (vs1 := own1) f.calm f.nd (hi.pi f) (blkOk_by ok) hv (fun s H C cl fp => (ht s H C cl fp).pg f.blk) (fun s H C cl fp => (hc s H C cl fp).ts f.blk) (fun s H C cl fp => (hi1 s H C cl fp).pi f.blk) (fun s H C cl fp => (ht1 s H C cl fp).pg f.blk) (fun s H C cl fp => (hc1 s H C cl fp).ts f.blk) (fun s H C cl fp => (he s H C cl fp).pe f.blk) hs hs1).run pins s σ H (Qf g σ env B H d ω') I (lc_read2 r q hsl hsl1 hW hfr fun _ _ h => h)) fun _ _ w => Qf.of w⟩
theorem st_setLc2 (i : Nat) (own : List (Str × Nat)) (own1 : List Nat) (hi : PIb X g tg iter src) (ht : InBlk X scope fun Y => PTg Y g tg sl t) (hc : InBlk X scope fun Y => PTl Y g ifs c) (hi1 : InBlk X scope fun Y => PIf Y g tg1 iter1 src1) (ht1 : InBlk X scope fun Y => PTg Y g tg1 sl1 t1) (hc1 : InBlk X scope fun Y => PTl Y g ifs1 c1) (he : InBlk X scope fun Y => PV Y g elt e)
    (hy : X.N[i]? = some y := by rfl) (hyl : X.env.scope.names.lookup y = some .local := by rfl) (hl : (py.line == pos.line) = true := by rfl) (ha : (scope.names.any fun (n, k) => n == y && (k == .local || k == .cell)) = false := by decide +kernel) (hk : X.env.scope.kind = .function := by rfl)
    (ok : blkC X.N X.env.scope scope own = true := by rfl) (hsl : ∀ i ∈ sl, i ∈ own.map (·.2) := by decide) (hsl1 : ∀ i ∈ sl1, i ∈ own1 := by decide) (hv : ∀ i ∈ own1, i ∈ own.map (·.2) := by decide) (hW : ∀ i ∈ sl, i ∉ g.W := by exact al_of rfl) (hs : ∀ x, foldedSetIterable iter X.env x = pure x := by intro _; rfl) (hs1 : ∀ (E : PySem.Env) x, foldedSetIterable iter1 E x = pure x := by intro _ _; rfl)
    : PSt X g (.Assign [.Name y py] (.ListComp elt [⟨tg, iter, ifs, 0⟩, ⟨tg1, iter1, ifs1, 0⟩] scope pos) spos) (sAsg i (eLc2 src (own.map (·.2)) own1 t c src1 t1 c1 e)) :=
  lcset_of (fun f => ps_setLc2 (own := own) (vs1 := own1) f.calm f.nd hy hyl (sw_true hk hyl hl ha) (hi.pi f) (blkOk_by ok) hv (fun s H C cl fp => (ht s H C cl fp).pg f.blk) (fun s H C cl fp => (hc s H C cl fp).ts f.blk) (fun s H C cl fp => (hi1 s H C cl fp).pi f.blk) (fun s H C cl fp => (ht1 s H C cl fp).pg f.blk) (fun s H C cl fp => (hc1 s H C cl fp).ts f.blk) (fun s H C cl fp => (he s H C cl fp).pe f.blk) hs hs1)
    fun B σ H env ω d ω' Q r q hQ => lc_read2 r q hsl hsl1 hW (fun d env ω env' ω' q => (ht X.s_0 H 0 [] []).fr d env ω env' ω' q) hQ
end
end
end Pw
set_option Elab.async false
set_option linter.all false
set_option maxRecDepth 100000
/-! My layer, part 16: dict displays of one entry; enumerate, zip, reversed; dicts walked under a lock. -/
namespace Pw
open PySem PySem.Spec PyProof.Rows L2
section
variable {X : Cx} {g : Gh} {pins : List (Addr × Obj)} {σ : L2.St} {H B : Hp} {s : Shared} {a : Addr}
/-- the store of a display -/
theorem dict_setR (ft : Fits X g) (I : Inv X pins σ H s) (e : Ex B H) {kvs : List (D × D)} {k d : D} {v z : V} {u r : Value} (hd : Cell g B H (.dic kvs) a) (hk : Rb g B H k v) (ru : RelV v u) (ok : keyOk kvs k = true) (rz : Rp g B d z) (rr : RelV z r) (hl : kvs.length < LIM) {Q : Unit → Shared → Prop} {E : Value → Shared → Prop}
    (h : ∀ o s', Inv X pins σ (upd H a o) s' → Cell g B (upd H a o) (.dic (dput kvs k d)) a → Q () s') : wpAny (model X.prog X.w) X.A (dictSet a u r) Q E s := by
  have mu : Mut (H a) := by
    cases hd with
    | dicK ha _ => rw [ha]; exact True.intro
    | dicN ha _ => rw [ha]; exact True.intro
  have hd : DicAt g B H a kvs := by
    cases hd with
    | dicK ha r => exact .inl ⟨_, .inl ha, r⟩
    | dicN ha r => exact .inr ⟨_, .inl ha, r⟩
  rcases dic_view ft I e hd ok with ⟨key, kk, vs, hkey, w⟩ | ⟨n, xs, ws, hn, w⟩
  · have ev := keyV hkey hk
    have ek := keyA_eq hkey
    subst ev ek
    have hz : vs.length ≤ sizeLine := by rw [← w.kv.length]; exact w.z
    have hl' : (putK kk key z).length ≤ sizeLine := by
      have h1 := length_putK kk key z
      have h2 := w.rp.length
      have h3 : kvs.length + 1 ≤ LIM := hl
      have h4 := lim_le h3
      omega
    refine wpAny_dictSet_pairs (hsz := hz) (kV_is ru) w.dict fun h' dd' hs => h (.dK (putK kk key z)) _ ?_ ?_
    · have he : ∃ q, h'.get? a = some q := let ⟨q, _, _, hq, _⟩ := dd'; ⟨q, hq⟩
      exact d_write I mu hs he (dk_new hl' w.nsys (w.kv.put key rr) dd')
    · exact .dicK upd_same (w.rp.put rz)
  · obtain ⟨b, rfl, rfl, his, rpk⟩ := keyN ft I e hn hk ru
    have hkt := (keyB_eq hn).2.2
    have h8 := (keyB_eq hn).2.1
    have hz : ws.length ≤ sizeLine := by rw [← w.pn.length]; exact w.z
    have hget := w.rp.get w.pn hkt
    have hcs : (atKey ws n).isSome = (dget kvs k).isSome := by
      cases hg : dget kvs k with
      | none => rw [hget.2 hg] <;> rfl
      | some x => obtain ⟨_, _, hp, _⟩ := hget.1 x hg; rw [hp] <;> rfl
    have pn' : PN (putN xs n b z (dget kvs k).isSome) (storedH ws n b r) := by
      unfold putN storedH
      rw [hcs]
      by_cases c : (dget kvs k).isSome = true
      · rw [if_pos c, if_pos c]; exact PN.repl rr w.pn
      · rw [if_neg c, if_neg c]; exact w.pn.append (.cons ⟨rfl, rfl, rr⟩ .nil)
    have rn' : RpN g B (dput kvs k d) (putN xs n b z (dget kvs k).isSome) := by
      unfold putN dput
      by_cases c : (dget kvs k).isSome = true
      · rw [if_pos c, if_pos c]; exact w.rp.repl hkt rz
      · rw [if_neg c, if_neg c]; exact w.rp.append (.cons hkt h8 rpk rz .nil)
    have hl' : (putN xs n b z (dget kvs k).isSome).length ≤ sizeLine := by
      have h1 := dput_len kvs k d
      have h2 := rn'.length
      have h3 : kvs.length + 1 ≤ LIM := hl
      have h4 := lim_le h3
      omega
    refine wpAny_dictSet_heap (hsz := hz) (by have := ft.h64; show X.A.units + 8 < cLine; omega) his w.dict fun h' dd' hs => h (dN g.P g.w a (putN xs n b z (dget kvs k).isSome)) _ ?_ ?_
    · obtain ⟨q, es, ep, hq, h2, h3, h4, _, h5⟩ := dd'
      refine d_write I mu hs ⟨q, hq⟩ ⟨⟨hl', w.nsys, _, pn', q, es, ep, hq, h2, h3, by rw [ft.P, ft.w]; exact h4, h5⟩, ⟨q, hq⟩, fun g1 g2 hf hk => ?_⟩
      obtain ⟨f1, f2, ws2, f3, o2, es2, ep2, f4, f5⟩ := hf
      exact ⟨f1, f2, ws2, f3, o2, es2, ep2, hk _ f4, f5⟩
    · exact .dicN upd_same rn'
end
section
variable {X : Cx} {g : Gh}
def eDic1 (mk mv : DEnv → M D) : DEnv → M D := fun env => do
  let k ← mk env
  let v ← mv env
  if keyOk [] k = true then pure (.dic [(k, v)]) else M.fail
theorem pf_dict1 {k v : Expr} {mk mv : DEnv → M D} {pos : Pos} (hk : PV X g k mk) (hv : PV X g v mv) (hp : pairTrees [some k] [v] X.env pos = [(eval k X.env, do let x ← eval v X.env; standAt pos; pure x)] := by rfl) : PF X g (.Dict [some k] [v] pos) (eDic1 mk mv) := ⟨fun f pins s σ H B env ω d ω' I r q => by
  obtain ⟨kd, ω1, q1, qa⟩ := M.bind_some q
  obtain ⟨vd, ω2, q2, qb⟩ := M.bind_some qa
  obtain ⟨hok, rfl, rfl⟩ := if_some qb
  refine wpAny_Dict_any rfl rfl (by simp) (by simp) ?_
  rw [hp]
  have hn : H s.heap.objs.size = none := I.hok.fresh (Nat.le_refl _)
  have I0 : Inv X pins σ (upd H s.heap.objs.size (.dK [])) { s with heap := s.heap.push { cls := .type "dict", data := .dict #[] } } := by
    refine I.laid (t' := s.toks) (fun b u e => Heap.get?_push_of_some _ e) (Nat.le_refl _) ?_
    exact dk_empty _ I.big
  have r0 : Rel g B σ (upd H s.heap.objs.size (.dK [])) env ω := r.new hn
  refine evalPairs_cons (thn (hk.run f pins _ σ _ B env ω kd ω1 I0 r0 q1) fun u1 s1 ⟨v1, H1, B1, I1, ru1, m1, rl1, p1⟩ => ?_)
  refine wpAny_bind (thn (hv.run f pins _ σ _ B1 env ω1 vd ω' I1 rl1 q2) fun u2 s2 ⟨v2, H2, B2, I2, ru2, m2, rl2, p2⟩ => ?_)
  refine wpAny_bind (wpAny_standAt (wpAny_pure (evalPairs_nil ?_)))
  have hs0 := r.bas.st.apart hn
  have m02 : Mov g B (upd H s.heap.objs.size (.dK [])) B2 H2 := m1.trans m2 r0.bas.st rl1.bas.st
  have hat : H2 s.heap.objs.size = some (.dK []) := m02.fr _ _ upd_same hs0.1 hs0.2
  have hoff : B2 s.heap.objs.size = none := m02.nw _ (r.bas.off hn) ⟨_, upd_same⟩
  unfold storeAll
  rw [List.forIn_cons]
  · refine wpAny_bind (wpAny_bind (dict_setR f I2 rl2.bas.ex (.dicK hat .nil) (.inl (p1.mono m2.ex)) ru1 hok p2 ru2 (by decide) fun o s3 I3 c3 => wpAny_pure ?_))
    simp only [List.forIn_nil]
    refine wpAny_pure ?_
    have e : dput [] kd vd = [(kd, vd)] := rfl
    rw [e] at c3
    have mP : Mov g B H B2 (upd H2 s.heap.objs.size o) := ⟨m02.ex, fun a u h1 h2 h3 => by
      have hne := ne_of_none h1 hn
      rw [upd_ne hne]; exact m02.fr a u (by rw [upd_ne hne]; exact h1) h2 h3, fun a h1 ⟨u, h2⟩ => m02.nw a h1 ⟨u, by rw [upd_ne (ne_of_none h2 hn)]; exact h2⟩⟩
    have stP : StOk g (upd H2 s.heap.objs.size o) ω' := ⟨rl2.bas.st.1, by rw [upd_ne hs0.1.symm]; exact rl2.bas.st.2.1, by rw [upd_ne hs0.2.symm]; exact rl2.bas.st.2.2⟩
    have exP : Ex B2 (upd H2 s.heap.objs.size o) := fun a u h => by
      have : a ≠ s.heap.objs.size := fun q => by rw [q, hoff] at h; cases h
      rw [upd_ne this]; exact rl2.bas.ex a u h
    exact ⟨_, _, B2, I3, rfl, mP, r.mov mP (r.bas.mov mP exP stP), ⟨c3, hoff, hn, hs0.1, hs0.2⟩⟩⟩
/-! ### enumerate, zip, reversed -/
def enumD (ds : List D) : List D := (List.range ds.length).zipWith (fun i d => D.tup [.int (i : Nat), d]) ds
theorem enumD_get {ds : List D} {i : Nat} {e : D} (h : (enumD ds)[i]? = some e) : ∃ d, ds[i]? = some d ∧ e = .tup [.int i, d] := by
  unfold enumD at h
  rw [List.getElem?_zipWith] at h
  cases h1 : ds[i]? with
  | none => rw [h1] at h; simp at h
  | some d =>
    have hl := (List.getElem?_eq_some_iff.mp h1).1
    rw [h1, List.getElem?_range hl] at h
    simp at h
    exact ⟨d, rfl, h.symm⟩
theorem enumD_len (ds : List D) : (enumD ds).length = ds.length := by simp [enumD]
def eEnum (m : DEnv → M D) : DEnv → M (List D) := fun env => do
  match ← m env with
  | .lst ds => pure (enumD ds)
  | _ => M.fail
theorem ite_at {K : PySem.W.Frag} {B H : Hp} {a : Addr} {xs : List V} {ds : List D} (h : SqL K H a xs) (ex : Ex B H) (r : Rps g B ds xs) : ItAt g B H (Ite K a) (enumD ds) where
  go := fun i hi => by
    have hi' : i < xs.length := by rw [← r.length, ← enumD_len]; exact hi
    exact ⟨xs, xs[i], h, List.getElem?_eq_getElem hi'⟩
  stop := fun i hi => ⟨xs, h, by rw [← r.length, ← enumD_len]; exact Nat.le_of_eq hi.symm⟩
  yld := fun i x H' d ⟨T, y, ex', hn, eh, f⟩ hd => by
    subst ex' eh
    obtain ⟨d', h1, rfl⟩ := enumD_get hd
    obtain ⟨v, hv, rv⟩ := r.get h1
    have := f xs h
    rw [hv] at this
    cases this
    have hB : B T = none := by
      cases e : B T with
      | none => rfl
      | some u => rw [ex T u e] at hn; cases hn
    exact .inr ⟨T, _, hn, rfl, .tup (SqT.of upd_same) (.cons (.int _) (.cons (rv.mono (Ex.new hB)) .nil))⟩
theorem eEnum_some {m : DEnv → M D} {env : DEnv} {ω ω' : Om} {es : List D} (h : eEnum m env ω = some (es, ω')) : ∃ ds, m env ω = some (.lst ds, ω') ∧ es = enumD ds := by
  obtain ⟨d, ω1, h1, h2⟩ := M.bind_some h
  cases d with
  | lst ds =>
    obtain ⟨rfl, rfl⟩ := M.pure_some (show (pure (enumD ds) : M (List D)) ω1 = some (es, ω') from h2)
    exact ⟨ds, h1, rfl⟩
  | _ => exact (M.fail_some (ω := ω1) h2).elim
section
variable {e : Expr} {m : DEnv → M D} {elts : List Expr} {kk : Nat} {p pos tpos : Pos}
theorem pib_enum (ha : PB X g e m) (hm : X.mg "enumerate" = none) (hg : Gl X "enumerate" := by rfl) (hs : starEach [e] X.env = [(false, eval e X.env)] := by rfl) : PIb X g (.Tuple elts kk tpos) (.Call (.Name "enumerate" p) [e] [] pos) (eEnum m) := ⟨fun f pins s σ H B env ω ds ω' I r q => by
  obtain ⟨ds, h1, rfl⟩ := eEnum_some q
  refine (pi_enum (elts := elts) (kk := kk) (tpos := tpos) hg hm (pa_cons (ha.pe f) pa_nil hs) hs).run pins s σ H _ I ?_
  refine ⟨B, env, ω, _, ω', r, h1, fun z H1 ⟨B1, m1, rl1, k1⟩ => ?_⟩
  rcases k1 with k1 | ⟨p, rfl, c, z1, z2⟩
  · cases k1 with
    | lst ha rp => exact ⟨_, _, rfl, sqL_of (rl1.bas.ex _ _ ha), B1, m1, rl1, fun B2 H2 hk e1 e2 => ite_at (sqL_of (e2 _ _ (e1 _ _ ha))) e2 (rp.mono e1)⟩
  · cases c with
    | lst ha rp => exact ⟨_, _, rfl, sqL_of ha, B1, m1, rl1, fun B2 H2 hk e1 e2 => ite_at (sqL_of (hk _ _ ha z1 z2)) e2 (rp.mono e1)⟩⟩
theorem pif_enum (ha : PV X g e m) (hm : X.mg "enumerate" = none) (hg : Gl X "enumerate" := by rfl) (hs : starEach [e] X.env = [(false, eval e X.env)] := by rfl) : PIf X g (.Tuple elts kk tpos) (.Call (.Name "enumerate" p) [e] [] pos) (eEnum m) := ⟨fun f pins s σ H B env ω ds ω' I r q => by
  obtain ⟨ds, h1, rfl⟩ := eEnum_some q
  refine (pi_enum (elts := elts) (kk := kk) (tpos := tpos) hg hm (pa_cons (ha.pe f) pa_nil hs) hs).run pins s σ H _ I ?_
  refine ⟨B, env, ω, _, ω', r, h1, fun z H1 ⟨B1, m1, rl1, k1⟩ => ?_⟩
  cases k1 with
  | lst ha rp => exact ⟨_, _, rfl, sqL_of (rl1.bas.ex _ _ ha), B1, m1, rl1, fun B2 H2 e1 e2 => ite_at (sqL_of (e2 _ _ (e1 _ _ ha))) e2 (rp.mono e1)⟩⟩
end
end
end Pw
set_option Elab.async false
set_option linter.all false
set_option maxRecDepth 100000
/-! My layer, part 17: dicts that are walked. -/
namespace Pw
open PySem PySem.Spec PyProof.Rows L2
/-- a dict of either kind and its pairs -/
def DU (P : Program) (w : World) (d : Addr) (u : HO) (ps : List (V × V)) : Prop :=
  (∃ kk, u = .dK kk ∧ ps = kk.map fun p => (kV p.1, p.2)) ∨ ∃ xs, u = dN P w d xs ∧ ps = xs.map fun p => (V.ref p.2.1, p.2.2)
theorem paired_at {α β : Type} {F : α → β → Prop} : ∀ {l : List α} {m : List β}, Paired F l m → ∀ {i : Nat} {b : β}, m[i]? = some b → ∃ a, l[i]? = some a ∧ F a b
  | _, _, .nil, i, b, h => by simp at h
  | _, _, .cons f t, 0, b, h => by simp at h; subst h; exact ⟨_, rfl, f⟩
  | _, _, .cons f t, i + 1, b, h => by simpa using paired_at t (i := i) (by simpa using h)
theorem pairs_at {P : Program} {w : World} {K : Type} [DecidableEq K] {knd : KeyKind P w K} : ∀ {es : List DictEntry} {kvs : List (K × Value)}, Pairs knd es kvs → es.length = kvs.length ∧ ∀ {i : Nat} {e : DictEntry}, es[i]? = some e → ∃ kv, kvs[i]? = some kv ∧ knd.is kv.1 e.key = true ∧ e.val = kv.2
  | _, _, .nil => ⟨rfl, fun {i e} h => by simp at h⟩
  | _, _, .cons h1 h2 t => by
    obtain ⟨hl, ih⟩ := pairs_at t
    refine ⟨by simp [hl], fun {i e} h => ?_⟩
    cases i with
    | zero => simp at h; subst h; exact ⟨_, rfl, h1, h2⟩
    | succ i => simpa using ih (i := i) (by simpa using h)
section
variable {X : Cx} {g : Gh} {pins : List (Addr × Obj)} {σ : L2.St} {H B : Hp} {s : Shared} {d : Addr}
theorem dict_raw {od : Obj} {u : HO} {ps : List (V × V)} (I : Inv X pins σ H s) (hd : H d = some (.frz od u)) (du : DU X.prog X.w d u ps) :
    (d == sysModules) = false ∧ s.heap.get? d = some od ∧ od.ExactDict ∧ ∃ es ep, od.data = .dict es ep ∧ es.size = ps.length ∧ ∀ (i : Nat) (e : DictEntry), es.toList[i]? = some e → ∃ p, ps[i]? = some p ∧ RelV p.1 e.key ∧ RelV p.2 e.val := by
  have hg : s.heap.get? d = some od := (show ObjOk X.prog X.w H s.heap d (.frz od u) from I.hok d _ hd).1
  rcases du with ⟨kk, rfl, rfl⟩ | ⟨xs, rfl, rfl⟩
  · obtain ⟨_, hs, vs, kv, o, es, ep, ho, hc, hdt, _, hp, _⟩ := dk_rd I.hok (.inr ⟨od, hd⟩)
    rw [hg] at ho
    cases ho
    obtain ⟨hl, hat⟩ := pairs_at hp
    refine ⟨hs, hg, hc, es, ep, hdt, ?_, fun i e he => ?_⟩
    · rw [List.length_map, Paired.length kv, ← hl, Array.length_toList]
    · obtain ⟨q, hq, h1, h2⟩ := hat he
      obtain ⟨p, hp1, e1, e2⟩ := paired_at kv hq
      refine ⟨(kV p.1, p.2), by rw [List.getElem?_map, hp1]; rfl, ?_, by rw [h2]; exact e2⟩
      rw [e1]
      exact relV_key h1
  · obtain ⟨_, hs, ws, pn, o, es, ep, ho, hc, hdt, hes, _⟩ := dN_at I (.inr ⟨od, hd⟩)
    rw [hg] at ho
    cases ho
    refine ⟨hs, hg, hc, es, ep, hdt, ?_, fun i e he => ?_⟩
    · rw [List.length_map, Paired.length pn, ← Array.length_toList, hes, List.length_map]
    · rw [hes, List.getElem?_map] at he
      obtain ⟨q, hq, rfl⟩ := Option.map_eq_some_iff.mp he
      obtain ⟨p, hp1, e1, e2, e3⟩ := paired_at pn hq
      refine ⟨(.ref p.2.1, p.2.2), by rw [List.getElem?_map, hp1]; rfl, ?_, e3⟩
      show Value.ref q.2.1 = _
      rw [e2]
/-- items, values, keys -/
def ItP (d : Addr) (od : Obj) (u : HO) (ps : List (V × V)) : It where
  go i H := H d = some (.frz od u) ∧ i < ps.length
  yld i H x H' := ∃ T k v, ps[i]? = some (k, v) ∧ x = .ref T ∧ H T = none ∧ H' = upd H T (.tup [k, v])
  stop i H := H d = some (.frz od u) ∧ i = ps.length
def ItV (d : Addr) (od : Obj) (u : HO) (ps : List (V × V)) : It where
  go i H := H d = some (.frz od u) ∧ i < ps.length
  yld i H x H' := H' = H ∧ ∃ k, ps[i]? = some (k, x)
  stop i H := H d = some (.frz od u) ∧ i = ps.length
def ItK (d : Addr) (od : Obj) (u : HO) (ps : List (V × V)) : It where
  go i H := H d = some (.frz od u) ∧ i < ps.length
  yld i H x H' := H' = H ∧ ∃ v, ps[i]? = some (x, v)
  stop i H := H d = some (.frz od u) ∧ i = ps.length
theorem fp_apart {it : Addr} {o : HO} (h : FpOk X pins H it) (hd : H d = some o) : d ≠ it := fun e => by rw [e, h.1] at hd; cases hd
theorem turn_itP {P : Program} {w : World} {K : PySem.W.Frag} {od : Obj} {u : HO} {ps : List (V × V)} {es : Array DictEntry} {ep : Nat} {elts : List Expr} {kk : Nat} {tpos : Pos} (it : Addr) (du : DU P w d u ps) (he : od.data = .dict es ep) (hz : es.size = ps.length) :
    Turn P w K (.Tuple elts kk tpos) (ItP d od u ps) [it] it fun i h => ∃ ok ov, IsItemIter h it d i es.size ep ok ov where
  mem := List.mem_singleton.mpr rfl
  obj := fun i h ⟨ok, ov, hi⟩ b hb => by
    rw [List.mem_singleton.mp hb]
    exact ⟨_, hi, by intro v z; cases z⟩
  keep := fun i h h' ⟨ok, ov, hi⟩ k => ⟨ok, ov, k it (List.mem_singleton.mpr rfl) _ hi⟩
  item := fun X h1 h2 h3 hcm i pins s σ H E I hf ht hgo => by
    subst h1 h2 h3
    obtain ⟨hd, hi⟩ := hgo
    obtain ⟨_, hg, hc, es', ep', he', _, hat⟩ := dict_raw I hd du
    rw [he] at he'
    cases he'
    have hfi := hf it (List.mem_singleton.mpr rfl)
    have hne := fp_apart hfi hd
    have hi' : i < es.size := by rw [hz]; exact hi
    refine (WalksT.rawItems (A := X.A) (I.ok.hd hcm) it d hne es ep).item i s _ _ hi' ⟨ht, od, hg, hc, he⟩ ?_
    rintro T vals h' tk ⟨hlt, rfl⟩ hT hTup hMid hk
    refine ⟨_, rfl, ?_⟩
    have hTne : T ≠ it := hMid.2
    refine (WalksT.rawItems (A := X.A) (I.ok.hd hcm) it d hne es ep).go elts kk tpos i T _ _ _ hMid fun h2 hSt hk2 => ?_
    obtain ⟨p, hp, r1, r2⟩ := hat i es[i] (by simp [hlt])
    obtain ⟨k, v⟩ := p
    have hTn : H T = none := I.hok.fresh hT
    have hk3 : ∀ b o, b ∉ [it] → s.heap.get? b = some o → h2.get? b = some o := fun b o hb ho => hk2 b o hb (hk b o hb ho)
    have hTup2 : h2.IsTuple T #[es[i].key, es[i].val] := by
      obtain ⟨o, ho, hx⟩ := hTup
      exact ⟨o, hk2 T o (by simpa using hTne) ho, hx⟩
    refine ⟨.ref T, upd H T (.tup [k, v]), I.turnedNew (ob := .tup [k, v]) hk3 hf hT ?_, rfl, ⟨T, k, v, hp, rfl, hTn, rfl⟩, hSt.1, fun b hb => ?_⟩
    · obtain ⟨o, ho, hx, n, hy⟩ := hTup2
      exact ⟨show 2 ≤ sizeLine by decide, [es[i].key, es[i].val], .cons r1 (.cons r2 .nil), o, ho, hx, n, hy⟩
    · rw [List.mem_singleton.mp hb, upd_ne hTne.symm]
      exact hfi.1
  done := fun X h1 h2 h3 hcm i pins s σ H E I hf ht hst => by
    subst h1 h2 h3
    obtain ⟨hd, hi⟩ := hst
    obtain ⟨_, hg, hc, es', ep', he', _, hat⟩ := dict_raw I hd du
    rw [he] at he'
    cases he'
    have hfi := hf it (List.mem_singleton.mpr rfl)
    have hne := fp_apart hfi hd
    subst hi
    rw [← hz] at ht
    refine (WalksT.rawItems (A := X.A) (I.ok.hd hcm) it d hne es ep).done s _ _ ⟨ht, od, hg, hc, he⟩ fun h' tk hk => ⟨rfl, ?_⟩
    exact I.turned (fun b o hb ho => hk b o (by simpa using hb) ho) hfi.1 hfi.2.1 hfi.2.2.2.1 hfi.2.2.2.2.1 hfi.2.2.2.2.2
  self := fun A i s Q E ⟨ok, ov, hi⟩ q => PySem.W.kcp_self hi q

theorem turn_itV {P : Program} {w : World} {K : PySem.W.Frag} {od : Obj} {u : HO} {ps : List (V × V)} {es : Array DictEntry} {ep : Nat} {tg : Expr} (it : Addr) (du : DU P w d u ps) (he : od.data = .dict es ep) (hz : es.size = ps.length) :
    Turn P w K tg (ItV d od u ps) [it] it fun i h => h.IsValIter it d i es.size ep where
  mem := List.mem_singleton.mpr rfl
  obj := fun i h ⟨o, hi, _, hd⟩ b hb => by
    rw [List.mem_singleton.mp hb]
    exact ⟨o, hi, by intro v z; rw [hd] at z; cases z⟩
  keep := fun i h h' ⟨o, hi, hx⟩ k => ⟨o, k it (List.mem_singleton.mpr rfl) _ hi, hx⟩
  item := fun X h1 h2 h3 hcm i pins s σ H E I hf ht hgo => by
    subst h1 h2 h3
    obtain ⟨hd, hi⟩ := hgo
    obtain ⟨_, hg, hc, es', ep', he', _, hat⟩ := dict_raw I hd du
    rw [he] at he'
    cases he'
    have hfi := hf it (List.mem_singleton.mpr rfl)
    have hne := fp_apart hfi hd
    have hi' : i < es.size := by rw [hz]; exact hi
    refine (Walks.rawValues (A := X.A) (I.ok.hd hcm) it d hne es ep).item i s _ _ hi' ⟨ht, od, hg, hc, he⟩ ?_
    rintro v h' tk ⟨hlt, rfl⟩ hSt hk
    refine ⟨_, rfl, ?_⟩
    obtain ⟨p, hp, r1, r2⟩ := hat i es[i] (by simp [hlt])
    have I2 : Inv X pins σ H { s with heap := h', toks := tk } := I.turned (fun b o hb ho => hk b o (by simpa using hb) ho) hfi.1 hfi.2.1 hfi.2.2.2.1 hfi.2.2.2.2.1 hfi.2.2.2.2.2
    obtain ⟨io, io1, io2, io3⟩ := hSt.1
    exact go_of io1 io2 io3 (by decide) ⟨_, H, I2, r2, ⟨rfl, _, hp⟩, hSt.1, fun b hb => (hf b hb).1⟩
  done := fun X h1 h2 h3 hcm i pins s σ H E I hf ht hst => by
    subst h1 h2 h3
    obtain ⟨hd, hi⟩ := hst
    obtain ⟨_, hg, hc, es', ep', he', _, hat⟩ := dict_raw I hd du
    rw [he] at he'
    cases he'
    have hfi := hf it (List.mem_singleton.mpr rfl)
    have hne := fp_apart hfi hd
    subst hi
    rw [← hz] at ht
    refine (Walks.rawValues (A := X.A) (I.ok.hd hcm) it d hne es ep).done s _ _ ⟨ht, od, hg, hc, he⟩ fun h' tk hk => ⟨rfl, ?_⟩
    exact I.turned (fun b o hb ho => hk b o (by simpa using hb) ho) hfi.1 hfi.2.1 hfi.2.2.2.1 hfi.2.2.2.2.1 hfi.2.2.2.2.2
  self := fun A i s Q E ht q => wpAny_pyIter_valiter ht q

theorem turn_itK {P : Program} {w : World} {K : PySem.W.Frag} {od : Obj} {u : HO} {ps : List (V × V)} {es : Array DictEntry} {ep : Nat} {tg : Expr} (it : Addr) (du : DU P w d u ps) (he : od.data = .dict es ep) (hz : es.size = ps.length) :
    Turn P w K tg (ItK d od u ps) [it] it fun i h => h.IsKeyIter it d i es.size ep where
  mem := List.mem_singleton.mpr rfl
  obj := fun i h ⟨o, hi, _, hd⟩ b hb => by
    rw [List.mem_singleton.mp hb]
    exact ⟨o, hi, by intro v z; rw [hd] at z; cases z⟩
  keep := fun i h h' ⟨o, hi, hx⟩ k => ⟨o, k it (List.mem_singleton.mpr rfl) _ hi, hx⟩
  item := fun X h1 h2 h3 hcm i pins s σ H E I hf ht hgo => by
    subst h1 h2 h3
    obtain ⟨hd, hi⟩ := hgo
    obtain ⟨_, hg, hc, es', ep', he', _, hat⟩ := dict_raw I hd du
    rw [he] at he'
    cases he'
    have hfi := hf it (List.mem_singleton.mpr rfl)
    have hne := fp_apart hfi hd
    have hi' : i < es.size := by rw [hz]; exact hi
    refine (Walks.rawKeys (A := X.A) (I.ok.hd hcm) it d hne es ep).item i s _ _ hi' ⟨ht, od, hg, hc, he⟩ ?_
    rintro v h' tk ⟨hlt, rfl⟩ hSt hk
    refine ⟨_, rfl, ?_⟩
    obtain ⟨p, hp, r1, r2⟩ := hat i es[i] (by simp [hlt])
    have I2 : Inv X pins σ H { s with heap := h', toks := tk } := I.turned (fun b o hb ho => hk b o (by simpa using hb) ho) hfi.1 hfi.2.1 hfi.2.2.2.1 hfi.2.2.2.2.1 hfi.2.2.2.2.2
    obtain ⟨io, io1, io2, io3⟩ := hSt.1
    exact go_of io1 io2 io3 (by decide) ⟨_, H, I2, r1, ⟨rfl, _, hp⟩, hSt.1, fun b hb => (hf b hb).1⟩
  done := fun X h1 h2 h3 hcm i pins s σ H E I hf ht hst => by
    subst h1 h2 h3
    obtain ⟨hd, hi⟩ := hst
    obtain ⟨_, hg, hc, es', ep', he', _, hat⟩ := dict_raw I hd du
    rw [he] at he'
    cases he'
    have hfi := hf it (List.mem_singleton.mpr rfl)
    have hne := fp_apart hfi hd
    subst hi
    rw [← hz] at ht
    refine (Walks.rawKeys (A := X.A) (I.ok.hd hcm) it d hne es ep).done s _ _ ⟨ht, od, hg, hc, he⟩ fun h' tk hk => ⟨rfl, ?_⟩
    exact I.turned (fun b o hb ho => hk b o (by simpa using hb) ho) hfi.1 hfi.2.1 hfi.2.2.2.1 hfi.2.2.2.2.1 hfi.2.2.2.2.2
  self := fun A i s Q E ht q => wpAny_pyIter_keyiter ht q

/-! ### the sources -/
def iD (P : Program) (w : World) (mk : Addr → Obj → HO → List (V × V) → It) (td : TE) : TI := fun σ H R => td σ H fun x H1 => ∃ d od u ps, x = .ref d ∧ H1 d = some (.frz od u) ∧ DU P w d u ps ∧ R (mk d od u ps) H1
section
variable {e : Expr} {td : TE} {apos cpos : Pos} {elts : List Expr} {kk : Nat} {tpos : Pos} {tg : Expr}
theorem pi_itemsA (he : PE X e td) (hb : attributeBase e "items" X.env (eval e X.env) = eval e X.env := by rfl) (hl : (apos.endLine == cpos.line) = true := by rfl) : PI X (.Tuple elts kk tpos) (.Call (.Attribute e "items" apos) [] [] cpos) (iD X.prog X.w ItP td) :=
  ⟨fun pins s σ H R I q => wpAny_Call_method hb rfl hl F.plainAttrs_dict F.slot_dict_items F.type_dict_items (thn (he.run pins s σ H _ I q) fun ov s1 ⟨x, H1, I1, rx, d, od, u, ps, ex, hd, du, r⟩ => by
    subst ex
    cases rx
    obtain ⟨hs, hg, hc, es, ep, hdt, hz, hat⟩ := dict_raw I1 hd du
    refine ⟨⟨od, hg, hc.1⟩, fun a ea => (by cases ea; exact ⟨od, hg, hc.2.1⟩), method_meetsIn F.slot_dict_items F.entry_dict_items rfl (wpAny_of_eq (a := { pos := [], kw := [] }) rfl ⟨rfl, ⟨od, hg, hc.1⟩, F.args_dict_items_1 _, _, meets_dict_items_raw d hs, ⟨es, ep, od, hg, hc, hdt⟩, ?_⟩)⟩
    show wpAny _ _ (pyIter _) _ _ _
    have I2 : Inv X pins σ H1 { s1 with heap := s1.heap.push { cls := .type "dict_items", data := .fields #[.ref d] } } := I1.kept (t' := s1.toks) fun b o e => Heap.get?_push_of_some _ e
    refine wpAny_pyIter_items_raw (es := es) (ep := ep) ⟨_, Heap.get?_push_size _ rfl, rfl, rfl⟩ ⟨od, Heap.get?_push_of_some _ hg, hc, hdt⟩ ?_
    have I3 := I2.kept (h' := (s1.heap.push { cls := .type "dict_items", data := .fields #[.ref d] }).push ({ cls := .type "dict_itemiterator", data := .fields #[.none, .bool false, .ref d, .int 0 0, .int es.size 0, .int ep 0, .none, .none] } : Obj)) (t' := s1.toks) fun b o e => Heap.get?_push_of_some _ e
    exact pi_one I2 ({ cls := .type "dict_itemiterator", data := .fields #[.none, .bool false, .ref d, .int 0 0, .int es.size 0, .int ep 0, .none, .none] } : Obj) (turn_itP _ du hdt hz) ⟨.none, .none, Heap.get?_push_size _ rfl⟩ r)⟩
theorem pi_valuesA (he : PE X e td) (hb : attributeBase e "values" X.env (eval e X.env) = eval e X.env := by rfl) (hl : (apos.endLine == cpos.line) = true := by rfl) : PI X tg (.Call (.Attribute e "values" apos) [] [] cpos) (iD X.prog X.w ItV td) :=
  ⟨fun pins s σ H R I q => wpAny_Call_method hb rfl hl F.plainAttrs_dict F.slot_dict_values F.type_dict_values (thn (he.run pins s σ H _ I q) fun ov s1 ⟨x, H1, I1, rx, d, od, u, ps, ex, hd, du, r⟩ => by
    subst ex
    cases rx
    obtain ⟨hs, hg, hc, es, ep, hdt, hz, hat⟩ := dict_raw I1 hd du
    refine ⟨⟨od, hg, hc.1⟩, fun a ea => (by cases ea; exact ⟨od, hg, hc.2.1⟩), method_meetsIn F.slot_dict_values F.entry_dict_values rfl (wpAny_of_eq (a := { pos := [], kw := [] }) rfl ⟨rfl, ⟨od, hg, hc.1⟩, F.args_dict_values_1 _, _, meets_dict_values_raw d hs, ⟨es, ep, od, hg, hc, hdt⟩, ?_⟩)⟩
    show wpAny _ _ (pyIter _) _ _ _
    have I2 : Inv X pins σ H1 { s1 with heap := s1.heap.push { cls := .type "dict_values", data := .fields #[.ref d] } } := I1.kept (t' := s1.toks) fun b o e => Heap.get?_push_of_some _ e
    refine wpAny_pyIter_values_raw (es := es) (ep := ep) ⟨_, Heap.get?_push_size _ rfl, rfl, rfl⟩ ⟨od, Heap.get?_push_of_some _ hg, hc, hdt⟩ ?_
    have I3 := I2.kept (h' := (s1.heap.push { cls := .type "dict_values", data := .fields #[.ref d] }).push ({ cls := .type "dict_valueiterator", data := .fields #[.ref d, .int 0 0, .int es.size 0, .int ep 0] } : Obj)) (t' := s1.toks) fun b o e => Heap.get?_push_of_some _ e
    exact pi_one I2 ({ cls := .type "dict_valueiterator", data := .fields #[.ref d, .int 0 0, .int es.size 0, .int ep 0] } : Obj) (turn_itV _ du hdt hz) ⟨_, Heap.get?_push_size _ rfl, rfl, rfl⟩ r)⟩
theorem pi_keysA (he : PE X e td) : PI X tg e (iD X.prog X.w ItK td) :=
  ⟨fun pins s σ H R I q => thn (he.run pins s σ H _ I q) fun ov s1 ⟨x, H1, I1, rx, d, od, u, ps, ex, hd, du, r⟩ => by
    subst ex
    cases rx
    obtain ⟨hs, hg, hc, es, ep, hdt, hz, hat⟩ := dict_raw I1 hd du
    refine wpAny_pyIter_dict_raw hs ⟨od, hg, hc, hdt⟩ ?_
    exact pi_one I1 ({ cls := .type "dict_keyiterator", data := .fields #[.ref d, .int 0 0, .int es.size 0, .int ep 0] } : Obj) (turn_itK _ du hdt hz) ⟨_, Heap.get?_push_size _ rfl, rfl, rfl⟩ r⟩
end
end
end Pw
set_option Elab.async false
set_option linter.all false
set_option maxRecDepth 100000
/-! My layer, part 18: dicts walked under a lock. -/
namespace Pw
open PySem PySem.Spec PyProof.Rows L2
/-- ghosts while the dict at d is locked -/
def lkH (H0 : Hp) (d : Addr) (o : HO) : Hp := match H0 d with
  | none => H0
  | some _ => upd H0 d o
def Gh.lk (g : Gh) (d : Addr) (o : HO) : Gh := { g with H0 := lkH g.H0 d o }
/-- what is read alike in two bases -/
structure Sw (B B' : Hp) : Prop where
  tup : ∀ a xs, Rd B a (.tup xs) → Rd B' a (.tup xs)
  lst : ∀ a xs, B a = some (.lst xs) → B' a = some (.lst xs)
  dK : ∀ a kk, Rd B a (.dK kk) → Rd B' a (.dK kk)
  ext : ∀ a φ, Rd B a (.ext φ) → Rd B' a (.ext φ)
section
variable {g : Gh} {B B' : Hp}
mutual
theorem Rp.sw (e : Sw B B') : ∀ {d : D} {v : V}, Rp g B d v → Rp g B' d v
  | _, _, .non => .non
  | _, _, .bl b => .bl b
  | _, _, .int i => .int i
  | _, _, .str x => .str x
  | _, _, .tup h r => .tup (h.imp (e.tup _ _) id) (Rps.sw e r)
  | _, _, .lst h r => .lst (e.lst _ _ h) (Rps.sw e r)
  | _, _, .dicK h r => .dicK (e.dK _ _ h) (RpK.sw e r)
  | _, _, .dicN h r => .dicN (e.ext _ _ h) (RpN.sw e r)
  | _, _, .tok => .tok
theorem Rps.sw (e : Sw B B') : ∀ {ds : List D} {vs : List V}, Rps g B ds vs → Rps g B' ds vs
  | _, _, .nil => .nil
  | _, _, .cons h r => .cons (Rp.sw e h) (Rps.sw e r)
theorem RpK.sw (e : Sw B B') : ∀ {ds : List (D × D)} {vs : List (Key × V)}, RpK g B ds vs → RpK g B' ds vs
  | _, _, .nil => .nil
  | _, _, .cons h r => .cons (Rp.sw e h) (RpK.sw e r)
theorem RpN.sw (e : Sw B B') : ∀ {ds : List (D × D)} {vs : List (NestedKey × Addr × V)}, RpN g B ds vs → RpN g B' ds vs
  | _, _, .nil => .nil
  | _, _, .cons k q h j r => .cons k q (Rp.sw e h) (Rp.sw e j) (RpN.sw e r)
end
end
theorem Cell.sw {g : Gh} {B B' H H' : Hp} {d : D} {p : Addr} (e : Sw B B') (c : Cell g B H d p) (h : H' p = H p) : Cell g B' H' d p := by
  cases c with
  | lst hp r => exact .lst (h.trans hp) (r.sw e)
  | dicK hp r => exact .dicK (h.trans hp) (r.sw e)
  | dicN hp r => exact .dicN (h.trans hp) (r.sw e)
/-- a dict that is not locked -/
def DictU (u : HO) : Prop := (∃ kk, u = .dK kk) ∨ ∃ φ, u = .ext φ
theorem DictU.mut {u : HO} (h : DictU u) : Mut (some u) := by rcases h with ⟨_, rfl⟩ | ⟨_, rfl⟩ <;> exact True.intro
theorem Sw.lock {B : Hp} {d : Addr} {u : HO} {od : Obj} (h : B d = some u) (hu : DictU u) : Sw B (upd B d (.frz od u)) := by
  have key : ∀ a x, Rd B a x → (a ≠ d) ∨ (a = d ∧ (x = u ∨ ∃ o, u = .frz o x)) := fun a x r => by
    by_cases ha : a = d
    · subst ha
      refine .inr ⟨rfl, ?_⟩
      rcases r with r | ⟨o, r⟩
      · rw [h] at r; cases r; exact .inl rfl
      · rw [h] at r; cases r; exact .inr ⟨o, rfl⟩
    · exact .inl ha
  have gen : ∀ a x, Rd B a x → Rd (upd B d (.frz od u)) a x := fun a x r => by
    rcases key a x r with ha | ⟨rfl, hx | ⟨o, hx⟩⟩
    · rcases r with r | ⟨o, r⟩
      · exact .inl (by rw [upd_ne ha]; exact r)
      · exact .inr ⟨o, by rw [upd_ne ha]; exact r⟩
    · subst hx; exact .inr ⟨od, upd_same⟩
    · rcases hu with ⟨_, rfl⟩ | ⟨_, rfl⟩ <;> cases hx
  refine ⟨fun a xs => gen a _, fun a xs r => ?_, fun a kk => gen a _, fun a φ => gen a _⟩
  have ha : a ≠ d := fun q => by
    subst q
    rw [h] at r; cases r
    rcases hu with ⟨_, q⟩ | ⟨_, q⟩ <;> cases q
  rw [upd_ne ha]; exact r
theorem Sw.unlock {B : Hp} {d : Addr} {u : HO} {od : Obj} (h : B d = some (.frz od u)) (hu : DictU u) : Sw B (upd B d u) := by
  have gen : ∀ a x, (∀ o y, x ≠ .frz o y) → Rd B a x → Rd (upd B d u) a x := fun a x hx r => by
    by_cases ha : a = d
    · subst ha
      rcases r with r | ⟨o, r⟩
      · rw [h] at r; cases r; exact absurd rfl (hx _ _)
      · rw [h] at r; cases r; exact .inl upd_same
    · rcases r with r | ⟨o, r⟩
      · exact .inl (by rw [upd_ne ha]; exact r)
      · exact .inr ⟨o, by rw [upd_ne ha]; exact r⟩
  refine ⟨fun a xs => gen a _ (by intro _ _ z; cases z), fun a xs r => ?_, fun a kk => gen a _ (by intro _ _ z; cases z), fun a φ => gen a _ (by intro _ _ z; cases z)⟩
  have ha : a ≠ d := fun q => by
    subst q
    rw [h] at r; cases r
  rw [upd_ne ha]; exact r
section
variable {g : Gh} {B H : Hp} {σ : L2.St} {env : DEnv} {ω : Om} {d : Addr} {u : HO} {od : Obj}
theorem lk_to {o : HO} {B : Hp} {x : D} {v : V} (h : Rp g B x v) : Rp (g.lk d o) B x v := Rp.to (g := g) (g' := g.lk d o) ⟨rfl, rfl, rfl, rfl⟩ h
theorem lk_back {o : HO} {B : Hp} {x : D} {v : V} (h : Rp (g.lk d o) B x v) : Rp g B x v := Rp.to (g := g.lk d o) (g' := g) ⟨rfl, rfl, rfl, rfl⟩ h
theorem Cell.to {g g' : Gh} (e : Sam g g') {B H : Hp} {d : D} {p : Addr} (c : Cell g B H d p) : Cell g' B H d p := by
  cases c with
  | lst hp r => exact .lst hp (r.to e)
  | dicK hp r => exact .dicK hp (r.to e)
  | dicN hp r => exact .dicN (e.P ▸ e.w ▸ hp) (r.to e)
/-- facts about the dict that stay through the lock -/
structure Lk (g : Gh) (B : Hp) (d : Addr) (u : HO) : Prop where
  at' : B d = some u
  du : DictU u
  h0 : ∀ o, g.H0 d = some o → o = u
  nb : g.B0 d = none → g.H0 d = none
theorem Bas.lk (b : Bas g B H ω) (h : B d = some u) (hu : DictU u) : Lk g B d u := by
  have hst : d ≠ g.st := fun q => by rw [q, b.nb.1] at h; cases h
  have hct : d ≠ g.ct := fun q => by rw [q, b.nb.2] at h; cases h
  refine ⟨h, hu, fun o ho => ?_, fun hb => ?_⟩
  · have h1 := b.fr d o ho hst hct
    rw [b.ex d u h] at h1
    cases h1; rfl
  · cases e : g.H0 d with
    | none => rfl
    | some o =>
      have := b.nw d hb ⟨o, e⟩
      rw [h] at this; cases this
theorem Bas.lock (b : Bas g B H ω) (l : Lk g B d u) : Bas (g.lk d (.frz od u)) (upd B d (.frz od u)) (upd H d (.frz od u)) ω := by
  have hst : d ≠ g.st := fun q => by have := l.at'; rw [q, b.nb.1] at this; cases this
  have hct : d ≠ g.ct := fun q => by have := l.at'; rw [q, b.nb.2] at this; cases this
  refine ⟨b.ex.both, ⟨?_, ?_⟩, ⟨b.st.1, ?_, ?_⟩, fun a o e h1 h2 => ?_, fun a h0 ⟨o, e⟩ => ?_⟩
  · show upd B d _ g.st = none
    rw [upd_ne hst.symm]; exact b.nb.1
  · show upd B d _ g.ct = none
    rw [upd_ne hct.symm]; exact b.nb.2
  · show upd H d _ g.st = _
    rw [upd_ne hst.symm]; exact b.st.2.1
  · show upd H d _ g.ct = _
    rw [upd_ne hct.symm]; exact b.st.2.2
  · have e : lkH g.H0 d (.frz od u) a = some o := e
    unfold lkH at e
    cases q : g.H0 d with
    | none =>
      rw [q] at e
      have e : g.H0 a = some o := e
      have : a ≠ d := fun z => by rw [z, q] at e; cases e
      rw [upd_ne this]; exact b.fr a o e h1 h2
    | some o' =>
      rw [q] at e
      have e : upd g.H0 d (.frz od u) a = some o := e
      by_cases z : a = d
      · subst z; rw [upd_same] at e ⊢; exact e
      · rw [upd_ne z] at e ⊢; exact b.fr a o e h1 h2
  · have e : lkH g.H0 d (.frz od u) a = some o := e
    have h0 : g.B0 a = none := h0
    unfold lkH at e
    cases q : g.H0 d with
    | none =>
      rw [q] at e
      have e : g.H0 a = some o := e
      have : a ≠ d := fun z => by rw [z, q] at e; cases e
      rw [upd_ne this]; exact b.nw a h0 ⟨o, e⟩
    | some o' =>
      rw [q] at e
      have e : upd g.H0 d (.frz od u) a = some o := e
      by_cases z : a = d
      · subst z; rw [l.nb h0] at q; cases q
      · rw [upd_ne z] at e ⊢; exact b.nw a h0 ⟨o, e⟩
theorem Rel.lock (r : Rel g B σ H env ω) (l : Lk g B d u) : Rel (g.lk d (.frz od u)) (upd B d (.frz od u)) σ (upd H d (.frz od u)) env ω where
  bas := r.bas.lock l
  len := r.len
  rd := fun i x e => by
    obtain ⟨v, h1, h2⟩ := r.rd i x e
    exact ⟨v, h1, h2.imp id fun h => lk_to (h.sw (Sw.lock l.at' l.du))⟩
  ow := fun i x hi e hc => by
    obtain ⟨p, h1, h2, h3, h4, h5, h6⟩ := r.ow i x hi e hc
    have hp : p ≠ d := fun q => by rw [q, l.at'] at h3; cases h3
    refine ⟨p, h1, Cell.to (g := g) (g' := g.lk d (.frz od u)) ⟨rfl, rfl, rfl, rfl⟩ (h2.sw (Sw.lock l.at' l.du) (upd_ne hp)), by rw [upd_ne hp]; exact h3, ?_, h5, h6⟩
    show lkH g.H0 d _ p = none
    unfold lkH
    cases q : g.H0 d with
    | none => exact h4
    | some o' => show upd g.H0 d _ p = none; rw [upd_ne hp]; exact h4
  ap := r.ap
theorem Bas.unlock {B0 : Hp} (l : Lk g B0 d u) (b : Bas (g.lk d (.frz od u)) B H ω) (h : B d = some (.frz od u)) : Bas g (upd B d u) (upd H d u) ω := by
  have hst : d ≠ g.st := fun q => by have : B g.st = none := b.nb.1; rw [← q, h] at this; cases this
  have hct : d ≠ g.ct := fun q => by have : B g.ct = none := b.nb.2; rw [← q, h] at this; cases this
  have lk : ∀ a o, a ≠ d → g.H0 a = some o → lkH g.H0 d (.frz od u) a = some o := fun a o ha e => by
    unfold lkH
    cases q : g.H0 d with
    | none => exact e
    | some o' => show upd g.H0 d _ a = _; rw [upd_ne ha]; exact e
  refine ⟨b.ex.both, ⟨?_, ?_⟩, ⟨b.st.1, ?_, ?_⟩, fun a o e h1 h2 => ?_, fun a h0 ⟨o, e⟩ => ?_⟩
  · rw [upd_ne hst.symm]; exact b.nb.1
  · rw [upd_ne hct.symm]; exact b.nb.2
  · rw [upd_ne hst.symm]; exact b.st.2.1
  · rw [upd_ne hct.symm]; exact b.st.2.2
  · by_cases z : a = d
    · subst z; rw [upd_same, l.h0 o e]
    · rw [upd_ne z]; exact b.fr a o (lk a o z e) h1 h2
  · by_cases z : a = d
    · subst z; rw [l.nb h0] at e; cases e
    · rw [upd_ne z]; exact b.nw a h0 ⟨o, lk a o z e⟩
theorem Rel.unlock {B0 : Hp} (l : Lk g B0 d u) (r : Rel (g.lk d (.frz od u)) B σ H env ω) (h : B d = some (.frz od u)) : Rel g (upd B d u) σ (upd H d u) env ω where
  bas := r.bas.unlock l h
  len := r.len
  rd := fun i x e => by
    obtain ⟨v, h1, h2⟩ := r.rd i x e
    exact ⟨v, h1, h2.imp id fun z => (lk_back z).sw (Sw.unlock h l.du)⟩
  ow := fun i x hi e hc => by
    obtain ⟨p, h1, h2, h3, h4, h5, h6⟩ := r.ow i x hi e hc
    have hp : p ≠ d := fun q => by rw [q, h] at h3; cases h3
    refine ⟨p, h1, (Cell.to (g := g.lk d (.frz od u)) (g' := g) ⟨rfl, rfl, rfl, rfl⟩ h2).sw (Sw.unlock h l.du) (upd_ne hp), by rw [upd_ne hp]; exact h3, ?_, h5, h6⟩
    have h4 : lkH g.H0 d (.frz od u) p = none := h4
    unfold lkH at h4
    cases q : g.H0 d with
    | none => rw [q] at h4; exact h4
    | some o' =>
      rw [q] at h4
      have h4 : upd g.H0 d (.frz od u) p = none := h4
      rw [upd_ne hp] at h4; exact h4
  ap := r.ap
theorem Ex.unlock {B B' : Hp} {d : Addr} {u : HO} {od : Obj} (h : B d = some u) (e : Ex (upd B d (.frz od u)) B') : Ex B (upd B' d u) := fun a o ho => by
  by_cases z : a = d
  · subst z; rw [h] at ho; cases ho; exact upd_same
  · rw [upd_ne z]; exact e a o (by rw [upd_ne z]; exact ho)
section
variable {X : Cx}
theorem Fits.lk (f : Fits X g) {d : Addr} {o : HO} : Fits X (g.lk d o) := ⟨f.K, f.P, f.w, f.calm, f.nd, f.room⟩
/-- the statement's ends, within the lock -/
theorem EndsOk.lock {B : Hp} {r : Fl} {ω' : Om} {D : Ends} (l : Lk g B d u) (k : EndsOk g B r ω' D) (od : Obj) : EndsOk (g.lk d (.frz od u)) (upd B d (.frz od u)) r ω' ⟨fun σ' H' => H' d = some (.frz od u) ∧ D.nx σ' (upd H' d u), fun v H' => H' d = some (.frz od u) ∧ D.rt v (upd H' d u), fun σ' H' => H' d = some (.frz od u) ∧ D.bk σ' (upd H' d u), fun σ' H' => H' d = some (.frz od u) ∧ D.ct σ' (upd H' d u)⟩ := by
  cases r with
  | nx env' =>
    intro σ' H' B' e r
    have hb : B' d = some (.frz od u) := e d _ upd_same
    exact ⟨r.bas.ex d _ hb, k σ' _ _ (Ex.unlock l.at' e) (Rel.unlock (B0 := B) l r hb)⟩
  | bk env' =>
    intro σ' H' B' e r
    have hb : B' d = some (.frz od u) := e d _ upd_same
    exact ⟨r.bas.ex d _ hb, k σ' _ _ (Ex.unlock l.at' e) (Rel.unlock (B0 := B) l r hb)⟩
  | rt x =>
    intro v H' B' e b rp
    have hb : B' d = some (.frz od u) := e d _ upd_same
    exact ⟨b.ex d _ hb, k v _ _ (Ex.unlock l.at' e) (Bas.unlock (B0 := B) l b hb) ((lk_back rp).sw (Sw.unlock hb l.du))⟩
end
/-! ### the items of a dict -/
def dItems (kvs : List (D × D)) : List D := kvs.map fun p => .tup [p.1, p.2]
def dVals (kvs : List (D × D)) : List D := kvs.map (·.2)
def dKeys (kvs : List (D × D)) : List D := kvs.map (·.1)
def eDic (k : List (D × D) → List D) (i : Nat) : DEnv → M (List D) := fun env => do
  match ← getE env i with
  | .dic kvs => pure (k kvs)
  | _ => M.fail
theorem eDic_some {k : List (D × D) → List D} {i : Nat} {env : DEnv} {ω ω' : Om} {ds : List D} (h : eDic k i env ω = some (ds, ω')) : ∃ kvs, env[i]? = some (some (.dic kvs)) ∧ ds = k kvs ∧ ω' = ω := by
  obtain ⟨x, ω1, h1, h2⟩ := M.bind_some h
  obtain ⟨he, rfl⟩ := getE_some h1
  cases x with
  | dic kvs =>
    obtain ⟨rfl, rfl⟩ := M.pure_some (show (pure (k kvs) : M (List D)) ω1 = some (ds, ω') from h2)
    exact ⟨kvs, he, rfl, rfl⟩
  | _ => exact (M.fail_some (ω := ω1) h2).elim
/-- the pairs of a dict of the base -/
inductive RpP (g : Gh) (B : Hp) : List (D × D) → List (V × V) → Prop
  | nil : RpP g B [] []
  | cons {k d : D} {w v : V} {kvs : List (D × D)} {ps : List (V × V)} : Rp g B k w → Rp g B d v → RpP g B kvs ps → RpP g B ((k, d) :: kvs) ((w, v) :: ps)
theorem RpP.ofK : ∀ {kvs : List (D × D)} {kk : List (Key × V)}, RpK g B kvs kk → RpP g B kvs (kk.map fun p => (kV p.1, p.2))
  | _, _, .nil => .nil
  | _, _, .cons (k := k) r t => .cons (by cases k; exact .int _; exact .str _) r (RpP.ofK t)
theorem RpP.ofN : ∀ {kvs : List (D × D)} {xs : List (NestedKey × Addr × V)}, RpN g B kvs xs → RpP g B kvs (xs.map fun p => (V.ref p.2.1, p.2.2))
  | _, _, .nil => .nil
  | _, _, .cons _ _ h j t => .cons h j (RpP.ofN t)
theorem RpP.mono {B' : Hp} (e : Ex B B') : ∀ {kvs : List (D × D)} {ps : List (V × V)}, RpP g B kvs ps → RpP g B' kvs ps
  | _, _, .nil => .nil
  | _, _, .cons h j t => .cons (h.mono e) (j.mono e) (RpP.mono e t)
theorem RpP.length : ∀ {kvs : List (D × D)} {ps : List (V × V)}, RpP g B kvs ps → kvs.length = ps.length
  | _, _, .nil => rfl
  | _, _, .cons _ _ t => by simp [RpP.length t]
theorem RpP.get : ∀ {kvs : List (D × D)} {ps : List (V × V)}, RpP g B kvs ps → ∀ {i : Nat} {k d : D}, kvs[i]? = some (k, d) → ∃ w v, ps[i]? = some (w, v) ∧ Rp g B k w ∧ Rp g B d v
  | _, _, .nil, i, _, _, h => by simp at h
  | _, _, .cons r1 r2 t, 0, _, _, h => by simp at h; obtain ⟨rfl, rfl⟩ := h; exact ⟨_, _, rfl, r1, r2⟩
  | _, _, .cons r1 r2 t, i + 1, _, _, h => by simpa using RpP.get t (i := i) (by simpa using h)
theorem dic_pairs {kvs : List (D × D)} {v : V} (h : Rp g B (.dic kvs) v) : ∃ a u ps, v = .ref a ∧ DictU u ∧ DU g.P g.w a u ps ∧ RpP g B kvs ps ∧ (B a = some u ∨ ∃ od, B a = some (.frz od u)) := by
  cases h with
  | dicK h r => exact ⟨_, _, _, rfl, .inl ⟨_, rfl⟩, .inl ⟨_, rfl, rfl⟩, RpP.ofK r, h⟩
  | dicN h r => exact ⟨_, _, _, rfl, .inr ⟨_, rfl⟩, .inr ⟨_, rfl, rfl⟩, RpP.ofN r, h⟩
/-- what a walk over the pairs gives -/
structure WalkD (mk : Addr → Obj → HO → List (V × V) → It) (k : List (D × D) → List D) : Prop where
  at' : ∀ (g : Gh) (B H : Hp) (d : Addr) (od : Obj) (u : HO) (kvs : List (D × D)) (ps : List (V × V)), H d = some (.frz od u) → Ex B H → RpP g B kvs ps → ItAt g B H (mk d od u ps) (k kvs)
theorem walk_items : WalkD ItP dItems := ⟨fun g B H d od u kvs ps hd ex r => {
  go := fun i hi => ⟨hd, by rw [← r.length]; simpa [dItems] using hi⟩
  stop := fun i hi => ⟨hd, by rw [← r.length]; simpa [dItems] using hi⟩
  yld := fun i x H' e ⟨T, w, v, hp, ex', hn, eh⟩ he => by
    subst ex' eh
    unfold dItems at he
    rw [List.getElem?_map] at he
    obtain ⟨⟨a, b⟩, h1, rfl⟩ := Option.map_eq_some_iff.mp he
    obtain ⟨w', v', h2, r1, r2⟩ := r.get h1
    rw [hp] at h2
    cases h2
    have hB : B T = none := by
      cases e : B T with
      | none => rfl
      | some u => rw [ex T u e] at hn; cases hn
    exact .inr ⟨T, _, hn, rfl, .tup (SqT.of upd_same) (.cons (r1.mono (Ex.new hB)) (.cons (r2.mono (Ex.new hB)) .nil))⟩ }⟩
theorem walk_vals : WalkD ItV dVals := ⟨fun g B H d od u kvs ps hd ex r => {
  go := fun i hi => ⟨hd, by rw [← r.length]; simpa [dVals] using hi⟩
  stop := fun i hi => ⟨hd, by rw [← r.length]; simpa [dVals] using hi⟩
  yld := fun i x H' e ⟨eh, w, hp⟩ he => by
    subst eh
    unfold dVals at he
    rw [List.getElem?_map] at he
    obtain ⟨⟨a, b⟩, h1, rfl⟩ := Option.map_eq_some_iff.mp he
    obtain ⟨w', v', h2, r1, r2⟩ := r.get h1
    rw [hp] at h2
    cases h2
    exact .inl ⟨rfl, r2⟩ }⟩
theorem walk_keys : WalkD ItK dKeys := ⟨fun g B H d od u kvs ps hd ex r => {
  go := fun i hi => ⟨hd, by rw [← r.length]; simpa [dKeys] using hi⟩
  stop := fun i hi => ⟨hd, by rw [← r.length]; simpa [dKeys] using hi⟩
  yld := fun i x H' e ⟨eh, w, hp⟩ he => by
    subst eh
    unfold dKeys at he
    rw [List.getElem?_map] at he
    obtain ⟨⟨a, b⟩, h1, rfl⟩ := Option.map_eq_some_iff.mp he
    obtain ⟨w', v', h2, r1, r2⟩ := r.get h1
    rw [hp] at h2
    cases h2
    exact .inl ⟨rfl, r1⟩ }⟩
/-! ### for .. in d.items() -/
section
variable {X : Cx} {tg iter : Expr} {body : List Stmt} {sl : List Nat} {t : D → DEnv → M DEnv} {mb : DEnv → M Fl} {pos : Pos}
def gDx (g : Gh) (sl : List Nat) (m : D → DEnv → M DEnv) : TG := fun v σ H Q => ∃ H0, gD { g with H0 := H0 } sl m v σ H Q
def tSx (g : Gh) (m : DEnv → M Fl) : TS := fun D σ H => ∃ H0, tS { g with H0 := H0 } m D σ H
theorem Fits.h0 (f : Fits X g) {H0 : Hp} : Fits X { g with H0 := H0 } := ⟨f.K, f.P, f.w, f.calm, f.nd, f.room⟩
theorem gDx_ok (f : Fits X g) (ht : ∀ H0, PTg X { g with H0 := H0 } tg sl t) : PG X tg (gDx g sl t) := ⟨fun pins s σ H v u Q I r ⟨H0, q⟩ => ((ht H0).pg f.h0).run pins s σ H v u Q I r q⟩
theorem tSx_ok (f : Fits X g) (hb : ∀ H0, PBl X { g with H0 := H0 } body mb) : PSs X body (tSx g mb) := ⟨fun pins s σ H D I ⟨H0, q⟩ => ((hb H0).ps f.h0).run pins s σ H D I q⟩
theorem RpP.sw {B' : Hp} (e : Sw B B') : ∀ {kvs : List (D × D)} {ps : List (V × V)}, RpP g B kvs ps → RpP g B' kvs ps
  | _, _, .nil => .nil
  | _, _, .cons h j t => .cons (h.sw e) (j.sw e) (RpP.sw e t)
theorem RpP.to {g g' : Gh} (e : Sam g g') : ∀ {kvs : List (D × D)} {ps : List (V × V)}, RpP g B kvs ps → RpP g' B kvs ps
  | _, _, .nil => .nil
  | _, _, .cons h j t => .cons (h.to e) (j.to e) (RpP.to e t)
theorem for_dict {mk : Addr → Obj → HO → List (V × V) → It} {k : List (D × D) → List D} (i : Nat) (W : WalkD mk k) (hW : i ∉ g.W) (hpi : PI X tg iter (iD X.prog X.w mk (tVar i))) (ht : ∀ H0, PTg X { g with H0 := H0 } tg sl t) (hb : ∀ H0, PBl X { g with H0 := H0 } body mb) (hs : ∀ x, foldedSetIterable iter X.env x = pure x)
    (hp : PassesOwn (model X.prog X.w) X.A X.env X.xe) : PSt X g (.For tg iter body [] pos) (sFor (eDic k i) t mb) := ⟨fun f => ⟨fun pins s σ H D I ⟨B, env, ω, r, ω', rl, q, kk⟩ => by
  obtain ⟨ds, ω1, q1, q2⟩ := M.bind_some q
  obtain ⟨kvs, he, rfl, rfl⟩ := eDic_some q1
  obtain ⟨v, hv, hr⟩ := rl.rd i _ he
  have hr := hr.resolve_left fun h => hW h.1
  obtain ⟨a, u, ps, rfl, hu, du, rp, hB⟩ := dic_pairs hr
  -- the loop, the dict being locked
  have core : ∀ (g' : Gh) (B H : Hp) (D : Ends) (od : Obj), Fits X g' → Rel g' B σ H env ω1 → (∃ H0, g' = { g with H0 := H0 }) → RpP g' B kvs ps → DU X.prog X.w a u ps → B a = some (.frz od u) → EndsOk g' B r ω' D → tFor (iD X.prog X.w mk (tVar i)) (gDx g sl t) (tSx g mb) D σ H := by
    intro g' B H D od f' rl hg rp du hB kk
    obtain ⟨H0, rfl⟩ := hg
    refine ⟨.ref a, hv, a, od, u, ps, rfl, rl.bas.ex a _ hB, du, ?_⟩
    refine ⟨fun i n σ2 H2 => n = (k kvs).length - i ∧ i ≤ (k kvs).length ∧ ∃ B2 env2 ω2, Ex B B2 ∧ Rel { g with H0 := H0 } B2 σ2 H2 env2 ω2 ∧ forD t mb ((k kvs).drop i) env2 ω2 = some (r, ω'), ⟨(k kvs).length, by simp, Nat.zero_le _, B, env, ω1, Ex.refl B, rl, q2⟩, ?_⟩
    rintro i n σ2 H2 ⟨rfl, hi, B2, env2, ω2, e2, rl2, q2⟩
    have at2 := W.at' _ B2 H2 a od u kvs ps (rl2.bas.ex a _ (e2 a _ hB)) rl2.bas.ex (rp.mono e2)
    by_cases hlt : i < (k kvs).length
    · rw [List.drop_eq_getElem_cons hlt] at q2
      obtain ⟨env3, ω3, q3, q4⟩ := M.bind_some (show (t (k kvs)[i] env2 >>= _) ω2 = _ from q2)
      obtain ⟨fl, ω4, q4, q5⟩ := M.bind_some q4
      refine .inr ⟨at2.go i hlt, fun σ5 H5 => ∃ B5 env5, fl = .nx env5 ∧ Ex B B5 ∧ Rel { g with H0 := H0 } B5 σ5 H5 env5 ω4, fun σ5 H5 ⟨B5, env5, ef, e5, rl5⟩ => ?_, fun x H3 hy => ?_⟩
      · subst ef
        exact ⟨(k kvs).length - (i + 1), by omega, rfl, hlt, B5, env5, ω4, e5, rl5, q5⟩
      · obtain ⟨B3, m3, rl3, p3⟩ := rl2.item (at2.yld i x H3 (k kvs)[i] hy (List.getElem?_eq_getElem hlt))
        refine ⟨H0, B3, env2, ω2, (k kvs)[i], env3, ω3, rl3, p3, q3, fun σ4 rl4 _ _ => ?_⟩
        refine ⟨H0, B3, env3, ω3, fl, ω4, rl4, q4, ?_⟩
        have e3 := e2.trans m3.ex
        cases fl with
        | nx env5 => exact fun σ5 H5 B5 e5 rl5 => ⟨B5, env5, rfl, e3.trans e5, rl5⟩
        | bk env5 =>
          obtain ⟨rfl, rfl⟩ := M.pure_some q5
          exact fun σ5 H5 B5 e5 rl5 => kk σ5 H5 B5 (e3.trans e5) rl5
        | rt d =>
          obtain ⟨rfl, rfl⟩ := M.pure_some q5
          exact fun v H5 B5 e5 b5 rp => kk v H5 B5 (e3.trans e5) b5 rp
    · have ei : i = (k kvs).length := by omega
      subst ei
      rw [List.drop_length] at q2
      obtain ⟨rfl, rfl⟩ := M.pure_some (show (pure (.nx env2) : M Fl) ω2 = some (r, ω') from q2)
      exact .inl ⟨at2.stop _ rfl, kk σ2 H2 B2 e2 rl2⟩
  have du' : DU X.prog X.w a u ps := by rw [← f.P, ← f.w]; exact du
  have base := ps_for hp f.calm hpi (gDx_ok f ht) (tSx_ok f hb) hs (pos := pos)
  rcases hB with hB | ⟨od, hB⟩
  · have l := rl.bas.lk hB hu
    refine (ps_lock base).run pins s σ H D I ⟨a, u, rl.bas.ex a _ hB, hu.mut, fun od => ?_⟩
    refine core (g.lk a (.frz od u)) (upd B a (.frz od u)) (upd H a (.frz od u)) _ od f.lk (rl.lock l) ⟨_, rfl⟩ ?_ du' upd_same (kk.lock l od)
    exact RpP.to (g := g) (g' := g.lk a (.frz od u)) ⟨rfl, rfl, rfl, rfl⟩ (rp.sw (Sw.lock hB hu))
  · exact base.run pins s σ H D I (core g B H D od f rl ⟨g.H0, rfl⟩ rp du' hB kk)⟩⟩
end
end
end Pw
set_option Elab.async false
set_option linter.all false
set_option maxRecDepth 100000
/-! My layer, part 19: comprehensions over dicts; what walks a dict. -/
namespace Pw
open PySem PySem.Spec PyProof.Rows L2
section
variable {X : Cx} {g : Gh}
theorem lc_readX {σ : L2.St} {H B : Hp} {env : DEnv} {ω ω1 ω' : Om} {xs fin : List D} {wi : TI} {tgx : TG} {ttx : TT} {tex : TE} {own sl : List Nat} {t : D → DEnv → M DEnv} {c : DEnv → M Bool} {e : DEnv → M D} (rl : Rel g B σ H env ω) (q2 : lcD own t c e env xs ω1 = some (fin, ω')) (hz : fin.length ≤ LIM) (hwi : ∀ R : It → Hp → Prop, (∀ J H' B', Mov g B H B' H' → Rel g B' σ H' env ω1 → ItB g B' H' J xs → R J H') → wi σ H R)
    (htg : ∀ v σ H Q, gD g sl t v σ H Q → tgx v σ H Q) (htt : ∀ σ H Q, tTt g c σ H Q → ttx σ H Q) (hte : ∀ σ H Q, tV g e σ H Q → tex σ H Q) (hsl : ∀ i ∈ sl, i ∈ own) {Q : VK}
    (hQ : ∀ z H', Qf g σ env B H (.lst fin) ω' z H' → Q z H') : tLc wi tgx ttx tex own σ H Q := by
  refine hwi _ fun J H1 B1 m1 rl1 it Dl hD => ?_
  have hDs := rl1.bas.st.apart hD
  refine ⟨fun i n H2 => n = xs.length - i ∧ i ≤ xs.length ∧ ∃ B2 ω3 acc accV rest, Mov g B1 H1 B2 H2 ∧ Bas g B2 H2 ω3 ∧ B2 Dl = none ∧ H2 Dl = some (.lst accV) ∧ Rps g B2 acc accV ∧ lcD own t c e env (xs.drop i) ω3 = some (rest, ω') ∧ acc ++ rest = fin,
    ⟨xs.length, by simp, Nat.zero_le _, B1, ω1, [], [], fin, Mov.new hD, rl1.bas.add hD, rl1.bas.off hD, upd_same, .nil, q2, rfl⟩, ?_⟩
  rintro i n H2 ⟨rfl, hi, B2, ω3, acc, accV, rest, m2, b2, hB2, hH2, rp2, q2, hfin⟩
  have at2 := it B2 H2 (fun a o h1 h2 h3 => m2.fr a o h1 h2 h3) m2.ex b2.ex
  by_cases hlt : i < xs.length
  · rw [List.drop_eq_getElem_cons hlt] at q2
    obtain ⟨env4, ω4, q4, q5⟩ := M.bind_some (show (t xs[i] (wipeE env own) >>= _) ω3 = _ from q2)
    obtain ⟨b, ω5, q5, q6⟩ := M.bind_some q5
    refine .inr ⟨at2.go i hlt, fun H8 => ∃ B8 ω8 acc8 acc8V rest8, Mov g B1 H1 B8 H8 ∧ Bas g B8 H8 ω8 ∧ B8 Dl = none ∧ H8 Dl = some (.lst acc8V) ∧ Rps g B8 acc8 acc8V ∧ lcD own t c e env (xs.drop (i + 1)) ω8 = some (rest8, ω') ∧ acc8 ++ rest8 = fin,
      fun H8 h8 => ⟨xs.length - (i + 1), by omega, rfl, hlt, h8⟩, fun x H3 hy => ?_⟩
    obtain ⟨B3, m3, rl3, p3⟩ := (rl1.mov m2 b2).item (at2.yld i x H3 xs[i] hy (List.getElem?_eq_getElem hlt))
    refine htg _ _ _ _ ⟨B3, wipeE env own, ω3, xs[i], env4, ω4, rl3.wipe own, p3, q4, fun σ4 rl4 l4 s4 => ?_⟩
    refine ⟨?_, htt _ _ _ ⟨B3, env4, ω4, b, ω5, rl4, q5, fun H5 B5 m5 rl5 => ?_⟩⟩
    · rw [← wipe_wipe σ own]
      exact wipe_ext l4 fun j hj => s4 j fun h => hj (hsl j h)
    have m35 : Mov g B2 H2 B5 H5 := m3.trans m5 b2.st rl4.bas.st
    have hB5 : B5 Dl = none := m35.nw Dl hB2 ⟨_, hH2⟩
    have hH5 : H5 Dl = some (.lst accV) := m35.fr Dl _ hH2 hDs.1 hDs.2
    have m15 : Mov g B1 H1 B5 H5 := m2.trans m35 rl1.bas.st b2.st
    cases b with
    | false =>
      refine iteF ?_
      exact ⟨B5, ω5, acc, accV, rest, m15, rl5.bas, hB5, hH5, rp2.mono m35.ex, q6, hfin⟩
    | true =>
      refine iteT ?_
      obtain ⟨y, ω6, q7, q8⟩ := M.bind_some q6
      obtain ⟨rest', ω7, q9, q10⟩ := M.bind_some q8
      obtain ⟨rfl, rfl⟩ := M.pure_some q10
      refine hte _ _ _ ⟨B5, env4, ω5, y, ω6, rl5, q7, fun z H6 ⟨B6, m6, rl6, p6⟩ => ?_⟩
      have hB6 : B6 Dl = none := m6.nw Dl hB5 ⟨_, hH5⟩
      have hH6 : H6 Dl = some (.lst accV) := m6.fr Dl _ hH5 hDs.1 hDs.2
      have m16 : Mov g B1 H1 B6 H6 := m15.trans m6 rl1.bas.st rl5.bas.st
      have m17 : Mov g B1 H1 B6 (upd H6 Dl (.lst (accV ++ [z]))) := ⟨m16.ex, fun a o h1 h2 h3 => by
        rw [upd_ne (ne_of_none h1 hD)]; exact m16.fr a o h1 h2 h3, m16.nw⟩
      have st6 : StOk g (upd H6 Dl (.lst (accV ++ [z]))) ω6 := ⟨rl6.bas.st.1, by rw [upd_ne hDs.1.symm]; exact rl6.bas.st.2.1, by rw [upd_ne hDs.2.symm]; exact rl6.bas.st.2.2⟩
      have ex6 : Ex B6 (upd H6 Dl (.lst (accV ++ [z]))) := fun a o h => by
        have : a ≠ Dl := fun e => by rw [e, hB6] at h; cases h
        rw [upd_ne this]; exact rl6.bas.ex a o h
      refine ⟨accV, hH6, ?_, B6, ω6, acc ++ [y], accV ++ [z], rest', m17, rl1.bas.mov m17 ex6 st6, hB6, upd_same, ((rp2.mono m35.ex).mono m6.ex).append (.cons p6 .nil), q9, by rw [List.append_assoc]; exact hfin⟩
      have hl := rp2.length
      have hf := congrArg List.length hfin
      simp only [List.length_append, List.length_cons] at hf
      exact lim_lt (by omega)
  · have ei : i = xs.length := by omega
    subst ei
    rw [List.drop_length] at q2
    obtain ⟨rfl, rfl⟩ := M.pure_some (show (pure [] : M (List D)) ω3 = some (rest, ω') from q2)
    refine .inl ⟨at2.stop _ rfl, hQ _ _ ⟨Dl, B2, rfl, m1.trans m2 rl.bas.st rl1.bas.st, (rl1.mov m2 b2), ?_⟩⟩
    rw [List.append_nil] at hfin
    subst hfin
    have n1 : New g B1 H1 B2 H2 (.lst acc) Dl := ⟨.lst hH2 rp2, hB2, hD, hDs.1, hDs.2⟩
    exact n1.after m1 rl1.bas.st

/-- what is new within the lock, behind it -/
theorem Mov.unlock {B H B' H' : Hp} {d : Addr} {u : HO} {od : Obj} {ω : Om} (b : Bas g B H ω) (l : Lk g B d u) (m : Mov (g.lk d (.frz od u)) (upd B d (.frz od u)) (upd H d (.frz od u)) B' H') : Mov g B H (upd B' d u) (upd H' d u) := by
  refine ⟨Ex.unlock l.at' m.ex, fun a o h h1 h2 => ?_, fun a h ⟨o, ho⟩ => ?_⟩
  · by_cases z : a = d
    · subst z
      rw [b.ex a u l.at'] at h; cases h; exact upd_same
    · rw [upd_ne z]; exact m.fr a o (by rw [upd_ne z]; exact h) h1 h2
  · have z : a ≠ d := fun q => by rw [q, l.at'] at h; cases h
    rw [upd_ne z]; exact m.nw a (by rw [upd_ne z]; exact h) ⟨o, by rw [upd_ne z]; exact ho⟩
theorem Qf.unlock {B H : Hp} {σ : L2.St} {env : DEnv} {d : Addr} {u : HO} {od : Obj} {ω ω' : Om} {x : D} {z : V} {H' : Hp} (rl : Rel g B σ H env ω) (l : Lk g B d u) (w : Qf (g.lk d (.frz od u)) σ env (upd B d (.frz od u)) (upd H d (.frz od u)) x ω' z H') : H' d = some (.frz od u) ∧ Qf g σ env B H x ω' z (upd H' d u) := by
  obtain ⟨p, B', rfl, m, r, n⟩ := w
  have hb : B' d = some (.frz od u) := m.ex d _ upd_same
  have hp : p ≠ d := fun q => by have := n.off; rw [q, hb] at this; cases this
  refine ⟨r.bas.ex d _ hb, p, _, rfl, m.unlock rl.bas l, Rel.unlock (B0 := B) l r hb, ?_⟩
  refine ⟨(Cell.to (g := g.lk d (.frz od u)) (g' := g) ⟨rfl, rfl, rfl, rfl⟩ n.cell).sw (Sw.unlock hb l.du) (upd_ne hp), by rw [upd_ne hp]; exact n.off, ?_, n.nst, n.nct⟩
  have := n.new
  rw [upd_ne hp] at this
  exact this
def tTx (g : Gh) (m : DEnv → M Bool) : TT := fun σ H Q => ∃ H0, tTt { g with H0 := H0 } m σ H Q
def tVx (g : Gh) (m : DEnv → M D) : TE := fun σ H Q => ∃ H0, tV { g with H0 := H0 } m σ H Q
section
variable {elt tg iter : Expr} {ifs : List Expr} {scope : Scope} {own : List (Str × Nat)} {sl : List Nat} {t : D → DEnv → M DEnv} {c : DEnv → M Bool} {e : DEnv → M D} {pos spos py : Pos} {y : Str}
theorem lc_dict {mk : Addr → Obj → HO → List (V × V) → It} {k : List (D × D) → List D} (i : Nat) (own : List (Str × Nat)) (W : WalkD mk k) (hW : i ∉ g.W) (hpi : PI X tg iter (iD X.prog X.w mk (tVar i))) (ht : ∀ H0, InBlk X scope fun Y => PTg Y { g with H0 := H0 } tg sl t) (hc : ∀ H0, InBlk X scope fun Y => PTl Y { g with H0 := H0 } ifs c) (he : ∀ H0, InBlk X scope fun Y => PV Y { g with H0 := H0 } elt e) (ok : blkC X.N X.env.scope scope own = true)
    (hsl : ∀ i ∈ sl, i ∈ own.map (·.2)) (hs : ∀ x, foldedSetIterable iter X.env x = pure x) : PF X g (.ListComp elt [⟨tg, iter, ifs, 0⟩] scope pos) (eLc (eDic k i) (own.map (·.2)) t c e) := ⟨fun f pins s σ H B env ω d ω' I rl q => by
  obtain ⟨ds, ω1, q1, q2⟩ := M.bind_some q
  obtain ⟨fin, ω2, q2, q3⟩ := M.bind_some q2
  obtain ⟨hz, rfl, rfl⟩ := if_some q3
  obtain ⟨kvs, hE, rfl, rfl⟩ := eDic_some q1
  obtain ⟨v, hv, hr⟩ := rl.rd i _ hE
  have hr := hr.resolve_left fun h => hW h.1
  obtain ⟨a, u, ps, rfl, hu, du, rp, hB⟩ := dic_pairs hr
  have du' : DU X.prog X.w a u ps := by rw [← f.P, ← f.w]; exact du
  have base : PE X (.ListComp elt [⟨tg, iter, ifs, 0⟩] scope pos) (tLc (iD X.prog X.w mk (tVar i)) (gDx g sl t) (tTx g c) (tVx g e) (own.map (·.2))) :=
    pe_lc f.calm f.nd hpi (blkOk_by ok) (fun s H C cl fp => ⟨fun pins s2 σ H2 v u Q I r ⟨H0, q⟩ => ((ht H0 s H C cl fp).pg f.h0.blk).run pins s2 σ H2 v u Q I r q⟩) (fun s H C cl fp => ⟨fun pins s2 σ H2 Q I ⟨H0, q⟩ => ((hc H0 s H C cl fp).ts f.h0.blk).run pins s2 σ H2 Q I q⟩)
      (fun s H C cl fp => ⟨fun pins s2 σ H2 Q I ⟨H0, q⟩ => ((he H0 s H C cl fp).pe f.h0.blk).run pins s2 σ H2 Q I q⟩) hs
  have core : ∀ (g' : Gh) (B H : Hp) (od : Obj) (Q : VK), Rel g' B σ H env ω1 → (∃ H0, g' = { g with H0 := H0 }) → RpP g' B kvs ps → B a = some (.frz od u) → (∀ z H', Qf g' σ env B H (.lst fin) ω' z H' → Q z H') → tLc (iD X.prog X.w mk (tVar i)) (gDx g sl t) (tTx g c) (tVx g e) (own.map (·.2)) σ H Q := by
    intro g' B H od Q rl hg rp hB hQ
    obtain ⟨H0, rfl⟩ := hg
    exact lc_readX rl q2 hz (fun R hR => ⟨.ref a, hv, a, od, u, ps, rfl, rl.bas.ex a _ hB, du', hR _ H B (Mov.refl _ B H) rl fun B2 H2 _ e1 e2 => W.at' _ B2 H2 a od u kvs ps (e2 a _ (e1 a _ hB)) e2 (rp.mono e1)⟩)
      (fun v σ H Q h => ⟨H0, h⟩) (fun σ H Q h => ⟨H0, h⟩) (fun σ H Q h => ⟨H0, h⟩) hsl hQ
  rcases hB with hB | ⟨od, hB⟩
  · have l := rl.bas.lk hB hu
    refine thn ((pe_lock base).run pins s σ H (Qf g σ env B H (.lst fin) ω') I ⟨a, u, rl.bas.ex a _ hB, hu.mut, fun od => ?_⟩) fun _ _ w => Qf.of w
    exact core (g.lk a (.frz od u)) (upd B a (.frz od u)) (upd H a (.frz od u)) od _ (rl.lock l) ⟨_, rfl⟩ (RpP.to (g := g) (g' := g.lk a (.frz od u)) ⟨rfl, rfl, rfl, rfl⟩ (rp.sw (Sw.lock hB hu))) upd_same fun z H' w => w.unlock rl l
  · exact thn (base.run pins s σ H (Qf g σ env B H (.lst fin) ω') I (core g B H od _ rl ⟨g.H0, rfl⟩ rp hB fun _ _ h => h)) fun _ _ w => Qf.of w⟩
end
end
/-! ### as they are written -/
section
variable {X : Cx} {g : Gh} {x : Str} {elt tg : Expr} {ifs : List Expr} {body : List Stmt} {sl : List Nat} {t : D → DEnv → M DEnv} {c : DEnv → M Bool} {e : DEnv → M D} {mb : DEnv → M Fl} {elts : List Expr} {kk : Nat} {tpos p1 apos cpos pos : Pos} {scope : Scope}
theorem st_forItems (i : Nat) (ht : ∀ H0, PTg X { g with H0 := H0 } (.Tuple elts kk tpos) sl t) (hb : ∀ H0, PBl X { g with H0 := H0 } body mb) (hN : X.N[i]? = some x := by rfl) (hW : i ∉ g.W := by exact ni_of rfl) (hv : Vis X.env.scope x := by first | exact Or.inl rfl | exact Or.inr (Or.inl rfl) | exact Or.inr (Or.inr rfl)) (hd : (x == ("__debug__" : Str)) = false := by decide) (hcd : (x == ("__classdict__" : Str)) = false := by decide)
    (hba : attributeBase (.Name x p1) "items" X.env (eval (.Name x p1) X.env) = eval (.Name x p1) X.env := by rfl) (hl : (apos.endLine == cpos.line) = true := by rfl) (hs : ∀ y, foldedSetIterable (.Call (.Attribute (.Name x p1) "items" apos) [] [] cpos) X.env y = pure y := by intro _; rfl) (hp : PassesOwn (model X.prog X.w) X.A X.env X.xe := by exact PassesOwn.never) :
    PSt X g (.For (.Tuple elts kk tpos) (.Call (.Attribute (.Name x p1) "items" apos) [] [] cpos) body [] pos) (sFor (eDic dItems i) t mb) := for_dict i walk_items hW (pi_itemsA (pe_var hN hv hd hcd) hba hl) ht hb hs hp
theorem st_forVals (i : Nat) (ht : ∀ H0, PTg X { g with H0 := H0 } tg sl t) (hb : ∀ H0, PBl X { g with H0 := H0 } body mb) (hN : X.N[i]? = some x := by rfl) (hW : i ∉ g.W := by exact ni_of rfl) (hv : Vis X.env.scope x := by first | exact Or.inl rfl | exact Or.inr (Or.inl rfl) | exact Or.inr (Or.inr rfl)) (hd : (x == ("__debug__" : Str)) = false := by decide) (hcd : (x == ("__classdict__" : Str)) = false := by decide)
    (hba : attributeBase (.Name x p1) "values" X.env (eval (.Name x p1) X.env) = eval (.Name x p1) X.env := by rfl) (hl : (apos.endLine == cpos.line) = true := by rfl) (hs : ∀ y, foldedSetIterable (.Call (.Attribute (.Name x p1) "values" apos) [] [] cpos) X.env y = pure y := by intro _; rfl) (hp : PassesOwn (model X.prog X.w) X.A X.env X.xe := by exact PassesOwn.never) :
    PSt X g (.For tg (.Call (.Attribute (.Name x p1) "values" apos) [] [] cpos) body [] pos) (sFor (eDic dVals i) t mb) := for_dict i walk_vals hW (pi_valuesA (pe_var hN hv hd hcd) hba hl) ht hb hs hp
theorem st_forKeys (i : Nat) (ht : ∀ H0, PTg X { g with H0 := H0 } tg sl t) (hb : ∀ H0, PBl X { g with H0 := H0 } body mb) (hN : X.N[i]? = some x := by rfl) (hW : i ∉ g.W := by exact ni_of rfl) (hv : Vis X.env.scope x := by first | exact Or.inl rfl | exact Or.inr (Or.inl rfl) | exact Or.inr (Or.inr rfl)) (hd : (x == ("__debug__" : Str)) = false := by decide) (hcd : (x == ("__classdict__" : Str)) = false := by decide)
    (hs : ∀ y, foldedSetIterable (.Name x p1) X.env y = pure y := by intro _; rfl) (hp : PassesOwn (model X.prog X.w) X.A X.env X.xe := by exact PassesOwn.never) :
    PSt X g (.For tg (.Name x p1) body [] pos) (sFor (eDic dKeys i) t mb) := for_dict i walk_keys hW (pi_keysA (pe_var hN hv hd hcd)) ht hb hs hp
theorem pf_lcItems (i : Nat) (own : List (Str × Nat)) (ht : ∀ H0, InBlk X scope fun Y => PTg Y { g with H0 := H0 } (.Tuple elts kk tpos) sl t) (hc : ∀ H0, InBlk X scope fun Y => PTl Y { g with H0 := H0 } ifs c) (he : ∀ H0, InBlk X scope fun Y => PV Y { g with H0 := H0 } elt e) (hN : X.N[i]? = some x := by rfl) (hW : i ∉ g.W := by exact ni_of rfl) (hv : Vis X.env.scope x := by first | exact Or.inl rfl | exact Or.inr (Or.inl rfl) | exact Or.inr (Or.inr rfl)) (hd : (x == ("__debug__" : Str)) = false := by decide) (hcd : (x == ("__classdict__" : Str)) = false := by decide)
    (hba : attributeBase (.Name x p1) "items" X.env (eval (.Name x p1) X.env) = eval (.Name x p1) X.env := by rfl) (hl : (apos.endLine == cpos.line) = true := by rfl) (ok : blkC X.N X.env.scope scope own = true := by rfl) (hsl : ∀ i ∈ sl, i ∈ own.map (·.2) := by decide) (hs : ∀ y, foldedSetIterable (.Call (.Attribute (.Name x p1) "items" apos) [] [] cpos) X.env y = pure y := by intro _; rfl) :
    PF X g (.ListComp elt [⟨.Tuple elts kk tpos, .Call (.Attribute (.Name x p1) "items" apos) [] [] cpos, ifs, 0⟩] scope pos) (eLc (eDic dItems i) (own.map (·.2)) t c e) := lc_dict i own walk_items hW (pi_itemsA (pe_var hN hv hd hcd) hba hl) ht hc he ok hsl hs
theorem pf_lcVals (i : Nat) (own : List (Str × Nat)) (ht : ∀ H0, InBlk X scope fun Y => PTg Y { g with H0 := H0 } tg sl t) (hc : ∀ H0, InBlk X scope fun Y => PTl Y { g with H0 := H0 } ifs c) (he : ∀ H0, InBlk X scope fun Y => PV Y { g with H0 := H0 } elt e) (hN : X.N[i]? = some x := by rfl) (hW : i ∉ g.W := by exact ni_of rfl) (hv : Vis X.env.scope x := by first | exact Or.inl rfl | exact Or.inr (Or.inl rfl) | exact Or.inr (Or.inr rfl)) (hd : (x == ("__debug__" : Str)) = false := by decide) (hcd : (x == ("__classdict__" : Str)) = false := by decide)
    (hba : attributeBase (.Name x p1) "values" X.env (eval (.Name x p1) X.env) = eval (.Name x p1) X.env := by rfl) (hl : (apos.endLine == cpos.line) = true := by rfl) (ok : blkC X.N X.env.scope scope own = true := by rfl) (hsl : ∀ i ∈ sl, i ∈ own.map (·.2) := by decide) (hs : ∀ y, foldedSetIterable (.Call (.Attribute (.Name x p1) "values" apos) [] [] cpos) X.env y = pure y := by intro _; rfl) :
    PF X g (.ListComp elt [⟨tg, .Call (.Attribute (.Name x p1) "values" apos) [] [] cpos, ifs, 0⟩] scope pos) (eLc (eDic dVals i) (own.map (·.2)) t c e) := lc_dict i own walk_vals hW (pi_valuesA (pe_var hN hv hd hcd) hba hl) ht hc he ok hsl hs
theorem pf_lcKeys (i : Nat) (own : List (Str × Nat)) (ht : ∀ H0, InBlk X scope fun Y => PTg Y { g with H0 := H0 } tg sl t) (hc : ∀ H0, InBlk X scope fun Y => PTl Y { g with H0 := H0 } ifs c) (he : ∀ H0, InBlk X scope fun Y => PV Y { g with H0 := H0 } elt e) (hN : X.N[i]? = some x := by rfl) (hW : i ∉ g.W := by exact ni_of rfl) (hv : Vis X.env.scope x := by first | exact Or.inl rfl | exact Or.inr (Or.inl rfl) | exact Or.inr (Or.inr rfl)) (hd : (x == ("__debug__" : Str)) = false := by decide) (hcd : (x == ("__classdict__" : Str)) = false := by decide)
    (ok : blkC X.N X.env.scope scope own = true := by rfl) (hsl : ∀ i ∈ sl, i ∈ own.map (·.2) := by decide) (hs : ∀ y, foldedSetIterable (.Name x p1) X.env y = pure y := by intro _; rfl) :
    PF X g (.ListComp elt [⟨tg, .Name x p1, ifs, 0⟩] scope pos) (eLc (eDic dKeys i) (own.map (·.2)) t c e) := lc_dict i own walk_keys hW (pi_keysA (pe_var hN hv hd hcd)) ht hc he ok hsl hs
end
end Pw
set_option Elab.async false
set_option linter.all false
set_option maxRecDepth 100000
/-! My layer, part 20: list(range(..)), tuple(range(..)), signs. -/
namespace Pw
open PySem PySem.Spec PyProof.Rows L2
section
variable {X : Cx} {g : Gh}
theorem rsize (a b : Int) : Builtin.Range.rangeSize a b 1 = (((b - a).toNat : Nat) : Int) := by
  unfold Builtin.Range.rangeSize
  rw [if_pos (by omega : (1 : Int) > 0)]
  by_cases h : a < b
  · rw [if_pos h, Int.ediv_one]; omega
  · rw [if_neg h]; omega
theorem fits1 {i : Int} (h1 : -(2 ^ 63) ≤ i) (h2 : i < 2 ^ 63) : Builtin.Range.rangeFitsLong i = true := by
  simp only [Builtin.Range.rangeFitsLong, Bool.and_eq_true, decide_eq_true_eq]
  exact ⟨h1, h2⟩
theorem rsmall {a b : Int} (h1 : -(2 ^ 62) ≤ a) (h2 : a < 2 ^ 62) (h3 : -(2 ^ 62) ≤ b) (h4 : b < 2 ^ 62) : Builtin.Range.small a b 1 = true := by
  unfold Builtin.Range.small
  rw [rsize, fits1 (by omega) (by omega), fits1 (by omega) (by omega), fits1 (by decide) (by decide), fits1 (by omega) (by omega), if_pos (by omega : (1 : Int) > 0), fits1 (by omega) (by omega)]
  simp
theorem items_vals {a : Int} : ∀ {n : Nat} {acc : Array Value}, ItemsOf (fun i v => ∃ t, v = Value.int (a + (i : Nat) * 1) t) acc n → Vals ((List.range n).map fun (i : Nat) => V.int (a + i)) acc.toList := by
  intro n acc h
  obtain ⟨hz, hi⟩ := h
  have key : ∀ (l : List Value) (k : Nat), (∀ (j : Nat) (v : Value), l[j]? = some v → ∃ t, v = Value.int (a + ((k + j : Nat) : Int)) t) → Vals ((List.range' k l.length).map fun (i : Nat) => V.int (a + i)) l := by
    intro l
    induction l with
    | nil => intro k _; exact .nil
    | cons v l ih =>
      intro k hl
      rw [List.length_cons, List.range'_succ, List.map_cons]
      obtain ⟨t, ht⟩ := hl 0 v rfl
      refine .cons ⟨t, ?_⟩ (ih (k + 1) fun j u hu => ?_)
      · rw [ht]; rfl
      · obtain ⟨t, ht⟩ := hl (j + 1) u (by simpa using hu)
        exact ⟨t, by rw [ht]; congr 2; omega⟩
  have := key acc.toList 0 fun j v hv => by
    obtain ⟨t, ht⟩ := hi j v (by rw [← Array.getElem?_toList]; exact hv)
    exact ⟨t, by rw [ht]; simp⟩
  rw [Array.length_toList, hz, ← List.range_eq_range'] at this
  exact this
/-- the range object -/
structure PRo (X : Cx) (g : Gh) (e : Expr) (m : DEnv → M (List D)) : Prop where
  run : Fits X g → ∀ pins s σ H B env ω ds ω', Inv X pins σ H s → Rel g B σ H env ω → m env ω = some (ds, ω') →
    wpAny (model X.prog X.w) X.A (eval e X.env) (fun v s' => ∃ (r : Addr) (a b : Int) (t u w : Tok) (H' B' : Hp), v = .ref r ∧ IsRange s'.heap r a b 1 t u w ∧ Inv X pins σ H' s' ∧ Mov g B H B' H' ∧ Rel g B' σ H' env ω' ∧ ds = rangeD a b ∧ -(2 ^ 62) ≤ a ∧ a < 2 ^ 62 ∧ -(2 ^ 62) ≤ b ∧ b < 2 ^ 62 ∧ (b - a).toNat ≤ 2 ^ 24) X.xe s
section
variable {a b : Expr} {ma mb : DEnv → M D} {p pos : Pos}
theorem pro_range1 (ha : PV X g a ma) (hm : X.mg "range" = none) (hg : Gl X "range" := by rfl) (hs : starEach [a] X.env = [(false, eval a X.env)] := by rfl) : PRo X g (.Call (.Name "range" p) [a] [] pos) (eRng1 ma) := ⟨fun f pins s σ H B env ω ds ω' I r q => by
  obtain ⟨n, h1, h2, h3, rfl⟩ := rng1_some q
  refine wpAny_Call_Name_kw (ld_blt I hg hm (show bootBuiltins "range" = some (.type "range") by decide +kernel) ?_ (by decide) (by decide))
  refine PyProof.Rows.callWith_type1 ?_ hs rfl
  refine thn ((pas_cons ha pas_nil hs).run f pos pins s σ H B env ω [.int n] ω' I r ?_) fun us s1 ⟨vs, H1, B1, I1, rv, m1, rl1, k1⟩ => ?_
  · show (ma env >>= fun d => (pure [] >>= fun ds => pure (d :: ds) : M (List D))) ω = _
    rw [M.bind_run, h1]; rfl
  · cases k1 with
    | cons p1 p2 =>
      cases p1; cases p2
      obtain ⟨u, rfl, ru⟩ := vals1 rv
      obtain ⟨t, rfl⟩ := ru
      refine call_range_1 ?_
      refine ⟨_, 0, n, _, _, _, H1, B1, rfl, Heap.get?_push_size _ rfl, I1.kept (t' := s1.toks + 1 + 1) fun b o e => Heap.get?_push_of_some _ e, m1, rl1, rfl, by decide, by decide, h3, lim62 h2, ?_⟩
      have : (LIM : Int) = 1000000 := rfl
      omega⟩
theorem pro_range2 (ha : PV X g a ma) (hb : PV X g b mb) (hm : X.mg "range" = none) (hg : Gl X "range" := by rfl) (hs : starEach [a, b] X.env = [(false, eval a X.env), (false, eval b X.env)] := by rfl) (hs2 : starEach [b] X.env = [(false, eval b X.env)] := by rfl) : PRo X g (.Call (.Name "range" p) [a, b] [] pos) (eRng2 ma mb) := ⟨fun f pins s σ H B env ω ds ω' I r q => by
  obtain ⟨m, n, ω1, h1, h2, h3, rfl⟩ := rng2_some q
  refine wpAny_Call_Name_kw (ld_blt I hg hm (show bootBuiltins "range" = some (.type "range") by decide +kernel) ?_ (by decide) (by decide))
  refine PyProof.Rows.callWith_type1 ?_ (by rw [hs, hs2]) (by rw [hs2]; rfl)
  refine thn ((pas_cons ha (pas_cons hb pas_nil hs2) (by rw [hs, hs2])).run f pos pins s σ H B env ω [.int m, .int n] ω' I r ?_) fun us s1 ⟨vs, H1, B1, I1, rv, m1, rl1, k1⟩ => ?_
  · show (ma env >>= fun d => (mb env >>= fun e => pure [] >>= fun ds => pure (e :: ds)) >>= fun ds => pure (d :: ds) : M (List D)) ω = _
    rw [M.bind_run, h1]
    show ((mb env >>= _) >>= _ : M (List D)) ω1 = _
    rw [M.bind_run, M.bind_run, h2]; rfl
  · cases k1 with
    | cons p1 p2 =>
      cases p2 with
      | cons p2 p3 =>
        cases p1; cases p2; cases p3
        cases rv with
        | cons r1 rv =>
          cases rv with
          | cons r2 rv =>
            cases rv
            obtain ⟨t, rfl⟩ := r1
            obtain ⟨u, rfl⟩ := r2
            refine call_range_2 ?_
            refine ⟨_, m, n, _, _, _, H1, B1, rfl, Heap.get?_push_size _ rfl, I1.kept (t' := s1.toks + 1) fun b o e => Heap.get?_push_of_some _ e, m1, rl1, rfl, h3.1.1, h3.1.2, h3.2.1.1, h3.2.1.2, ?_⟩
            have := h3.2.2
            have : (LIM : Int) = 1000000 := rfl
            omega⟩
end
theorem rangeD_rps {B : Hp} (a b : Int) : Rps g B (rangeD a b) ((List.range (b - a).toNat).map fun (i : Nat) => V.int (a + i)) := by
  unfold rangeD
  have : ∀ l : List Nat, Rps g B (l.map fun (i : Nat) => D.int (a + i)) (l.map fun (i : Nat) => V.int (a + i)) := fun l => by
    induction l with
    | nil => exact .nil
    | cons x l ih => exact .cons (.int _) ih
  exact this _
def eListR (m : DEnv → M (List D)) : DEnv → M D := fun env => do
  let ds ← m env
  pure (.lst ds)
def eTupR (m : DEnv → M (List D)) : DEnv → M D := fun env => do
  let ds ← m env
  pure (.tup ds)
section
variable {e : Expr} {m : DEnv → M (List D)} {p pos : Pos}
theorem pf_listR (h : PRo X g e m) (hm : X.mg "list" = none) (hg : Gl X "list" := by rfl) (hs : starEach [e] X.env = [(false, eval e X.env)] := by rfl) : PF X g (.Call (.Name "list" p) [e] [] pos) (eListR m) := ⟨fun f pins s σ H B env ω d ω' I r q => by
  obtain ⟨ds, ω1, q1, q2⟩ := M.bind_some q
  obtain ⟨rfl, rfl⟩ := M.pure_some q2
  refine wpAny_Call_Name_kw (ld_blt I hg hm (show bootBuiltins "list" = some (.type "list") by decide +kernel) ?_ (by decide) (by decide))
  refine PyProof.Rows.callWith_type1 ?_ hs rfl
  rw [hs]
  refine Calls.spliced_cons (thn (h.run f pins s σ H B env ω ds ω1 I r q1) fun v s1 ⟨r1, a, b, t, u, w, H1, B1, ev, ir, I1, m1, rl1, ed, z1, z2, z3, z4, z5⟩ => Calls.spliced_nil ?_)
  subst ev ed
  refine call_list_range (I1.ok.hd f.calm) ir (rsmall z1 z2 z3 z4) (rsize a b) z5 fun h' tk acc c hk hl hi => ?_
  have hn : H1 s1.heap.objs.size = none := I1.hok.fresh (Nat.le_refl _)
  have hv := items_vals hi
  obtain ⟨p1, B2, ep, m2, rl2, n2⟩ := Qf.lst (p := s1.heap.objs.size) rl1 (rangeD_rps (g := g) a b) hn
  cases ep
  refine ⟨_, _, B2, I1.laid (t' := tk) hk (Nat.le_refl _) ?_, rfl, m1.trans m2 r.bas.st rl1.bas.st, rl2, n2.after m1 rl1.bas.st⟩
  refine ⟨?_, acc.toList, c, hv, by simpa using hl⟩
  rw [List.length_map, List.length_range]
  exact Nat.le_trans z5 (by decide)⟩
theorem pv_tupR (h : PRo X g e m) (hm : X.mg "tuple" = none) (hg : Gl X "tuple" := by rfl) (hs : starEach [e] X.env = [(false, eval e X.env)] := by rfl) : PV X g (.Call (.Name "tuple" p) [e] [] pos) (eTupR m) := ⟨fun f pins s σ H B env ω d ω' I r q => by
  obtain ⟨ds, ω1, q1, q2⟩ := M.bind_some q
  obtain ⟨rfl, rfl⟩ := M.pure_some q2
  refine wpAny_Call_Name_kw (ld_blt I hg hm (show bootBuiltins "tuple" = some (.type "tuple") by decide +kernel) ?_ (by decide) (by decide))
  refine PyProof.Rows.callWith_type1 ?_ hs rfl
  rw [hs]
  refine Calls.spliced_cons (thn (h.run f pins s σ H B env ω ds ω1 I r q1) fun v s1 ⟨r1, a, b, t, u, w, H1, B1, ev, ir, I1, m1, rl1, ed, z1, z2, z3, z4, z5⟩ => Calls.spliced_nil ?_)
  subst ev ed
  refine call_tuple_range (I1.ok.hd f.calm) ir (rsmall z1 z2 z3 z4) (rsize a b) z5 fun h' tk acc hk hi => ?_
  have hv := items_vals hi
  have I2 : Inv X pins σ H1 { s1 with heap := h', toks := tk } := I1.kept hk
  have hn : H1 h'.objs.size = none := I2.hok.fresh (Nat.le_refl _)
  obtain ⟨B2, m2, rl2, n2⟩ := Qv.tup (p := h'.objs.size) rl1 (rangeD_rps (g := g) a b) hn
  refine ⟨.ref h'.objs.size, _, B2, I2.laid (t' := tk) (fun b u e => Heap.get?_push_of_some _ e) (Nat.le_refl _) ?_, rfl, m1.trans m2 r.bas.st rl1.bas.st, rl2, n2⟩
  refine ⟨?_, acc.toList, hv, by simpa using IsTup.new h' acc⟩
  rw [List.length_map, List.length_range]
  exact Nat.le_trans z5 (by decide)⟩
end
def oNeg : Int → Int := fun i => -i
def oInv : Int → Int := fun i => Builtin.bitNot i
theorem pv_neg {a : Expr} {ma : DEnv → M D} {pos : Pos} (ha : PV X g a ma) : PV X g (.UnaryOp .USub a pos) (eUn oNeg ma) := pv_un un_neg ha
theorem pv_inv {a : Expr} {ma : DEnv → M D} {pos : Pos} (ha : PV X g a ma) : PV X g (.UnaryOp .Invert a pos) (eUn oInv ma) := pv_un un_inv ha
end
end Pw
set_option Elab.async false
set_option linter.all false
set_option maxRecDepth 100000
/-! My layer, part 21: what the law's draws do; the law's own start. -/
namespace Pw
open PySem PySem.Spec PyProof.Rows L2
def seedNext (s : Int) : Int := (s * 48271 + 12345) % 2147483647
def drawG (m : Int) (ω : Om) : Option (D × Om) := if 0 < m ∧ m < 1073741824 then (match ω.1.dropWhile (· == 0) with
      | v :: cs => some (.int (v % m), (v / m :: cs, ω.2))
      | [] => some (.int (seedNext ω.2 / 64 % m), ([], seedNext ω.2))) else none
def drawM : List D → M D
  | [.tok, .int m] => drawG m
  | _ => M.fail
theorem drawG_some {m : Int} {ω ω' : Om} {d : D} (h : drawG m ω = some (d, ω')) : 0 < m ∧ m < 1073741824 ∧ ((∃ v cs, ω.1.dropWhile (· == 0) = v :: cs ∧ d = .int (v % m) ∧ ω' = (v / m :: cs, ω.2)) ∨
    (ω.1.dropWhile (· == 0) = [] ∧ d = .int (seedNext ω.2 / 64 % m) ∧ ω' = ([], seedNext ω.2))) := by
  unfold drawG at h
  by_cases hm : 0 < m ∧ m < 1073741824
  · refine ⟨hm.1, hm.2, ?_⟩
    rw [if_pos hm] at h
    cases e : ω.1.dropWhile (· == 0) with
    | nil =>
      rw [e] at h
      have h := Option.some.inj h
      exact .inr ⟨rfl, (congrArg Prod.fst h).symm, (congrArg Prod.snd h).symm⟩
    | cons v cs =>
      rw [e] at h
      have h := Option.some.inj h
      exact .inl ⟨v, cs, rfl, (congrArg Prod.fst h).symm, (congrArg Prod.snd h).symm⟩
  · rw [if_neg hm] at h; cases h
theorem drawM_some {ds : List D} {ω ω' : Om} {d : D} (h : drawM ds ω = some (d, ω')) : ∃ m : Int, ds = [.tok, .int m] ∧ drawG m ω = some (d, ω') := by
  match ds, h with
  | [.tok, .int m], h => exact ⟨m, rfl, h⟩
/-- the start of the law's draws -/
def seedOf : Int → List Int → Int
  | s, [] => s
  | s, c :: cs => seedOf ((s * 31 + c) % 1000003) cs
def nDraw : List Str := ["state", "many", "cells", "value", "mixed"]
def nState : List Str := ["script", "seed", "cell"]
theorem at0 (c : Int) (cs : List Int) : atI ((c :: cs).map V.int) 0 = some (.int c) := (atI_nat (show ((c :: cs).map V.int)[0]? = some (.int c) from rfl) : atI _ ((0 : Nat) : Int) = _)
theorem ixn0 (c : Int) (cs : List Int) : ixN ((c :: cs).map V.int).length 0 = some 0 := by simp [ixN]
theorem seq0 (c : Int) (cs : List Int) : seqIndex? 0 ((c :: cs).map V.int).length = some 0 := by simp [seqIndex?]
theorem upd_upd {H : Hp} {p : Addr} {o u : HO} : upd (upd H p o) p u = upd H p u := by
  funext a
  by_cases h : a = p
  · subst h; rw [upd_same, upd_same]
  · rw [upd_ne h, upd_ne h, upd_ne h]
theorem seedOf_take (s : Int) : ∀ (ns : List Int) (i : Nat) (c : Int), ns[i]? = some c → seedOf s (ns.take (i + 1)) = (seedOf s (ns.take i) * 31 + c) % 1000003 := by
  intro ns
  induction ns generalizing s with
  | nil => intro i c h; simp at h
  | cons n ns ih =>
    intro i c h
    cases i with
    | zero => simp at h; subst h; rfl
    | succ i => exact ih _ i c (by simpa using h)
/-- the law's state of a script -/
def spState (K : PySem.W.Frag) : Sp := fun vs H Q _ => ∃ (a : Addr) (ns : List Int), vs = [.ref a] ∧ SqL K H a (ns.map V.int) ∧ ns.length ≤ 63 ∧
  ∀ (st ct : Addr) (H' : Hp), Same H H' → H st = none → H ct = none → st ≠ ct → H' st = some (.lst [.ref ct, .int (seedOf 7 ns + 1)]) → H' ct = some (.lst ((ns.map fun i => if i < 0 then -i else i).map V.int)) → Q (.ref st) H'
end Pw
set_option Elab.async false
set_option linter.all false
set_option maxRecDepth 100000
/-! My layer, part 22: the law itself. -/
namespace Pw
open PySem PySem.Spec PyProof.Rows L2
/-- what law(script) promises: for a list of at most 63 ints the answer is True -/
def spLaw (K : PySem.W.Frag) : Sp := fun vs H Q _ => ∃ (a : Addr) (ns : List Int), vs = [.ref a] ∧ SqL K H a (ns.map V.int) ∧ ns.length ≤ 63 ∧ ∀ H', Q (.bl true) H'
/-- the draws' state at the law's start -/
structure OmOk (ω : Om) : Prop where
  len : ω.1.length ≤ 63
  pos : ∀ c ∈ ω.1, 0 ≤ c
  seed : 1 ≤ ω.2 ∧ ω.2 ≤ 1000003
def startL (n : Nat) : DEnv := (List.replicate n none).set 1 (some .tok)
theorem seedOf_bd : ∀ (ns : List Int) (s : Int), 0 ≤ s → s < 1000003 → 0 ≤ seedOf s ns ∧ seedOf s ns < 1000003
  | [], s, h1, h2 => ⟨h1, h2⟩
  | n :: ns, s, h1, h2 => seedOf_bd ns _ (Int.emod_nonneg _ (by decide)) (Int.emod_lt_of_pos _ (by decide))
theorem startL_get {n i : Nat} {d : D} (h : (startL n)[i]? = some (some d)) : i = 1 ∧ d = .tok := by
  unfold startL at h
  by_cases hi : 1 = i
  · subst hi
    by_cases hl : 1 < (List.replicate n (none : Option D)).length
    · rw [List.getElem?_set_self hl] at h; cases h; exact ⟨rfl, rfl⟩
    · rw [List.getElem?_eq_none (by simpa using hl)] at h; cases h
  · rw [List.getElem?_set_ne hi] at h
    have := List.mem_of_getElem? h
    rw [List.mem_replicate] at this
    exact absurd this.2 (by simp)
def tSg (X : Cx) (W : List Nat) (k : Nat) (m : DEnv → M Fl) : TS := fun D σ H => ∃ g : Gh, g.W = W ∧ g.k = k ∧ Fits X g ∧ tS g m D σ H
theorem law_of {P : Program} {w : World} {K : PySem.W.Frag} {mg : Str → Option Value} {base : Heap} {st : Stmt} {f fs : Addr} {fd fds : FuncData} {N : List Str} {k : Nat} {W : List Nat} {mb : DEnv → M Fl} {p1 p2 p3 p4 p5 : Pos} {rest : List Stmt} (F : Fun K "law" "law" st f fd) (Sc : FnScope N ["script"] (defScope st))
    (hbody : defBody st = .Assign [.Name "state" p1] (.Call (.Name "_law_state" p2) [.Name "script" p3] [] p4) p5 :: rest) (h1 : N[1]? = some ("state" : Str)) (hl : Loc (defScope st) "state") (hgl : ∀ cdv A outer s H E, Gl (cxOf CX0 P w K mg base N "law" (defScope st) f cdv A outer s H E).nox "_law_state")
    (hvs : Vis (defScope st) "script")
    (S : FnOk P w K mg base CX0 1 fs fds ["script"] (spState K)) (mS : mg "_law_state" = some (.ref fs)) (kS : PySem.W.keepIn K (.ref fs) = true) (bS : Binds K fds ["script"] []) (hk : 1 ≤ k)
    (body : ∀ (cdv : Value) (A : Around) (outer : List Env) (s : Shared) (H : Hp) (E : XK) (g : Gh), g.W = W → g.k = k → PBl (cxOf CX0 P w K mg base N "law" (defScope st) f cdv A outer s H E).nox g rest mb)
    (pure' : ∀ ω, OmOk ω → ∃ ω', mb (startL N.length) ω = some (.rt (.bl true), ω')) : FnOk P w K mg base CX0 (k + 1) f fd ["script"] (spLaw K) := by
  refine F.ok Sc (fun vs H Q E h => ?_) (fun cdv A outer s H vs Q E hr h => ?_)
  · obtain ⟨a, ns, rfl, _⟩ := h
    rfl
  obtain ⟨a, ns, rfl, hS, h63, hq⟩ := h
  have hN : N.length ≥ 2 := (List.getElem?_eq_some_iff.mp h1).1
  have h0 : N[0]? = some ("script" : Str) := by
    have := Sc.pre
    cases N with
    | nil => simp at hN
    | cons x N => simp at this; simp [this]
  rw [hbody]
  refine ⟨_, pss_cons (ps_set (i := 1) Sc.nd h1 hl (pe_call S (hr.mono hk) (hgl _ _ _ _ _ _) mS kS bS .nil pass0 (pa_cons (pe_var h0 hvs) pa_nil)))
    (⟨fun pins s σ H D I ⟨g, hgW, hgk, hf, q⟩ => ((body cdv A outer _ _ E g hgW hgk).ps hf).run pins s σ H D I q⟩ : PSs _ rest (tSg _ W k mb)), ?_⟩
  refine ⟨.ref a, start_get (i := 0) rfl, a, ns, rfl, hS, h63, fun st ct H' same n1 n2 ne hst hct => ?_⟩
  have hω : OmOk (ns.map (fun i => if i < 0 then -i else i), seedOf 7 ns + 1) := by
    refine ⟨by simpa using h63, fun c hc => ?_, ?_⟩
    · simp only [List.mem_map] at hc
      obtain ⟨i, _, rfl⟩ := hc
      by_cases hi : i < 0
      · rw [if_pos hi]; omega
      · rw [if_neg hi]; omega
    · have := seedOf_bd ns 7 (by decide) (by decide)
      constructor <;> show _ ≤ _
      · show 1 ≤ seedOf 7 ns + 1; omega
      · show seedOf 7 ns + 1 ≤ 1000003; omega
  obtain ⟨ω', hm⟩ := pure' _ hω
  let g : Gh := ⟨K, P, w, st, ct, H', fun _ => none, W, k⟩
  refine ⟨g, rfl, rfl, ⟨rfl, rfl, rfl, rfl, Sc.nd, hr⟩, fun _ => none, startL N.length, _, _, ω', ⟨⟨fun _ _ h => (by cases h), ⟨rfl, rfl⟩, ⟨ne, hst, hct⟩, fun _ _ h _ _ => h, fun _ _ _ => rfl⟩, ?_, fun i d e => ?_, fun i d _ e hc => ?_, fun i j d e p _ _ _ q hc => ?_⟩, hm, fun v H2 B2 _ _ rp => ?_⟩
  · unfold startL L2.start
    simp
    omega
  · have := startL_get e
    obtain ⟨rfl, rfl⟩ := this
    exact ⟨.ref st, by rw [List.getElem?_set_self (by unfold L2.start; simp; omega)], .inr .tok⟩
  · obtain ⟨rfl, rfl⟩ := startL_get e; cases hc
  · obtain ⟨rfl, rfl⟩ := startL_get q; cases hc
  · cases rp
    exact hq H2
end Pw
namespace Pw
open PySem PySem.Spec PyProof.Rows L2
theorem gh_eq {g : Gh} {W : List Nat} {k : Nat} (hW : g.W = W) (hk : g.k = k) : { g with W := W, k := k } = g := by
  cases g; cases hW; cases hk; rfl
theorem fnD_mk {P : Program} {w : World} {K : PySem.W.Frag} {mg : Str → Option Value} {base : Heap} {x : Str} {st : Stmt} {f : Addr} {fd : FuncData} {N ps : List Str} (k : Nat) (W : List Nat) {mb : DEnv → M Fl} (F : Fun K x x st f fd) (hx : mg x = some (.ref f)) (S : FnScope N ps (defScope st)) (hb : Binds K fd ps []) (n a : Nat)
    (body : ∀ (cdv : Value) (A : Around) (outer : List Env) (s : Shared) (H : Hp) (E : XK) (g : Gh), PBl (cxOf CX0 P w K mg base N x (defScope st) f cdv A outer s H E).nox { g with W := W, k := k } (defBody st) mb) (hn : N.length = n := by rfl) (ha : ps.length = a := by rfl) (hW : ∀ i ∈ W, a ≤ i := by decide) : FnD P w K mg base (k + 1) x ps (fnM n a mb) := by
  subst hn ha
  exact fnD_of F hx S hb hW fun cdv A outer s H E g h1 h2 => by
    have := body cdv A outer s H E g
    rwa [gh_eq h1 h2] at this
theorem law_mk {P : Program} {w : World} {K : PySem.W.Frag} {mg : Str → Option Value} {base : Heap} {st : Stmt} {f fs : Addr} {fd fds : FuncData} {N : List Str} (k : Nat) (W : List Nat) {mb : DEnv → M Fl} {p1 p2 p3 p4 p5 : Pos} (F : Fun K "law" "law" st f fd) (Sc : FnScope N ["script"] (defScope st))
    (S : FnOk P w K mg base CX0 1 fs fds ["script"] (spState K)) (mS : mg "_law_state" = some (.ref fs)) (kS : PySem.W.keepIn K (.ref fs) = true) (bS : Binds K fds ["script"] []) (n : Nat)
    (body : ∀ (cdv : Value) (A : Around) (outer : List Env) (s : Shared) (H : Hp) (E : XK) (g : Gh), PBl (cxOf CX0 P w K mg base N "law" (defScope st) f cdv A outer s H E).nox { g with W := W, k := k } (defBody st).tail mb)
    (pure' : ∀ ω, OmOk ω → ∃ ω', mb (startL n) ω = some (.rt (.bl true), ω'))
    (hbody : defBody st = .Assign [.Name "state" p1] (.Call (.Name "_law_state" p2) [.Name "script" p3] [] p4) p5 :: (defBody st).tail := by rfl) (hn : N.length = n := by rfl) (h1 : N[1]? = some ("state" : Str) := by rfl) (hl : Loc (defScope st) "state" := by first | exact .inl rfl | exact .inr rfl) (hgl : ∀ cdv A outer s H E, Gl (cxOf CX0 P w K mg base N "law" (defScope st) f cdv A outer s H E).nox "_law_state" := by intros; rfl)
    (hvs : Vis (defScope st) "script" := by first | exact Or.inl rfl | exact Or.inr (Or.inl rfl) | exact Or.inr (Or.inr rfl)) (hk : 1 ≤ k := by decide) : FnOk P w K mg base CX0 (k + 1) f fd ["script"] (spLaw K) := by
  subst hn
  exact law_of F Sc hbody h1 hl hgl hvs S mS kS bS hk (fun cdv A outer s H E g e1 e2 => by
    have := body cdv A outer s H E g
    rwa [gh_eq e1 e2] at this) pure'
end Pw
namespace Pw
open PySem PySem.Spec PyProof.Rows L2
abbrev m__law_draw : List D → M D := drawM
theorem FnOk.none {P : Program} {w : World} {K : PySem.W.Frag} {mg : Str → Option Value} {base : Heap} {f : Addr} {fd : FuncData} {ps : List Str} {sp : Sp} (no : ∀ vs H Q E, sp vs H Q E → False) : FnOk P w K mg base CX0 0 f fd ps sp :=
  ⟨fun vs H Q E h => (no vs H Q E h).elim, fun A outer s H args us vs Q E _ _ _ _ h => (no vs H Q E h).elim⟩
section
variable {X : Cx} {g : Gh} {x : Str} {ps : List Str} {m : List D → M D} {e : Expr} {es : List Expr} {ms : List (DEnv → M D)} {p pos : Pos} {k : Nat}
/-- a def that calls itself -/
theorem pv_fnL (F : FnD X.prog X.w X.K X.mg X.base g.k x ps m) (ha : PAs X g (e :: es) ms) (hg : Gl X x := by rfl) (hdb : (x == ("__debug__" : Str)) = false := by decide)
    (he : starEach (e :: es) X.env = (false, eval e X.env) :: starEach es X.env := by rfl) (hpl : (backTo pos (starEach es X.env)).any (·.1) = false := by rfl) : PV X g (.Call (.Name x p) (e :: es) [] pos) (eCall m ms) := pv_fn F ha (Nat.le_refl _) hg hdb he hpl
end
end Pw
set_option Elab.async false
set_option linter.all false
set_option maxRecDepth 100000
namespace Pw
open PySem
noncomputable def m__law_beside : List D → M D := fnM 4 2
  ((sRet (eCall fSort [(eLc (eItems (eVar 0)) [2, 3] (mTup [(mName 2), (mName 3)]) (asB (eBin oIn (eVar 1) (eLst [(eVar 2), (eVar 3)]))) (eBin aSub (eBin aAddL (eVar 2) (eVar 3)) (eVar 1)))])))
noncomputable def m__law_behind : List D → M D := fnM 8 5
  ((sSeq (sAsg 5 (eLst []))
    (sSeq (sFor (eItems (eVar 2)) (mName 6) (sIf (asB (eBin oNotIn (eVar 6) (eVar 3))) (sSeq (sAsg 7 (eCall m__law_beside [(eVar 1), (eVar 6)]))
    (sAsg 5 (eBin aAddL (eBin aAddL (eVar 5) (eVar 7)) (eIf (bOr (asT (eVar 4)) (asB (eBin aEq (eVar 7) (eLst [])))) (eLst [(eVar 6)]) (eLst []))))) sNil))
    (sRet (eCall fTuple [(eCall fSortSet [(eVar 5)])])))))
def b__law_eq (m__law_eq : List D → M D) : DEnv → M Fl :=
  (sSeq (sIf (bOr (asB (eCall (fIsi "list") [(eVar 1)])) (asB (eCall (fIsi "tuple") [(eVar 1)]))) (sSeq (sIf (bOr (asB (eBin aNe (eCall (fIsi "list") [(eVar 0)]) (eCall (fIsi "list") [(eVar 1)]))) (asB (eBin aNe (eCall (fIsi "tuple") [(eVar 0)]) (eCall (fIsi "tuple") [(eVar 1)])))) (sRet (eC (.bl false))) sNil)
    (sSeq (sIf (asB (eBin aNe (eCall fLen [(eVar 0)]) (eCall fLen [(eVar 1)]))) (sRet (eC (.bl false))) sNil)
    (sRet (eBin aEq (eLc (eRng1 (eCall fLen [(eVar 1)])) [2] (mName 2) (bNot (asB (eCall m__law_eq [(eBin oIx (eVar 0) (eVar 2)), (eBin oIx (eVar 1) (eVar 2))]))) (eVar 2)) (eLst []))))) sNil)
    (sSeq (sIf (asB (eBin aIs (eVar 1) (eC .non))) (sRet (eBin aIs (eVar 0) (eC .non))) sNil)
    (sSeq (sIf (asB (eCall (fIsi "str") [(eVar 1)])) (sRet (eAnd (eCall (fIsi "str") [(eVar 0)]) (eBin aEq (eVar 0) (eVar 1)))) sNil)
    (sSeq (sIf (asB (eCall (fIsi "bool") [(eVar 1)])) (sRet (eAnd (eCall (fIsi "bool") [(eVar 0)]) (eBin aEq (eVar 0) (eVar 1)))) sNil)
    (sRet (eAnd (eCall (fIsi "int") [(eVar 0)]) (eAnd (eNot (eCall (fIsi "bool") [(eVar 0)])) (eBin aEq (eVar 0) (eVar 1)))))))))
def r__law_eq : Nat → List D → M D
  | 0 => fun _ => M.fail
  | k + 1 => fnM 3 2 (b__law_eq (r__law_eq k))
noncomputable def m__law_eq : List D → M D := r__law_eq 9
noncomputable def m__law_sets : List D → M D := fnM 7 2
  ((sSeq (sAsg 2 (eLst [(eTup [])]))
    (sSeq (sFor (eRng1 (eVar 1)) (mName 3) (sSeq (sAsg 4 (eLst []))
    (sSeq (sFor (eItems (eVar 2)) (mName 5) (sAsg 4 (eBin aAddL (eVar 4) (eLc (eRng2 (eIf (asB (eBin aNe (eVar 5) (eTup []))) (eBin aAddL (eBin oIx (eVar 5) (eUn oNeg (eC (.int 1)))) (eC (.int 1))) (eC (.int 0))) (eVar 0)) [6] (mName 6) bYes (eBin aAddL (eVar 5) (eTup [(eVar 6)]))))))
    (sAsg 2 (eVar 4)))))
    (sRet (eVar 2)))))
noncomputable def m__law_is_burrow : List D → M D := fnM 10 5
  ((sSeq (sIf (bOr (asB (eBin aEq (eVar 3) (eTup []))) (asB (eBin aNe (eCall fList [(eVar 3)]) (eCall fSortSet [(eVar 3)])))) (sRet (eC (.bl false))) sNil)
    (sSeq (sFor (eItems (eVar 3)) (mName 5) (sIf (bOr (asB (eBin aEq (eVar 5) (eTup []))) (bOr (asB (eBin aNe (eCall fList [(eVar 5)]) (eCall fSortSet [(eVar 5)]))) (asB (eBin aNe (eLc (eItems (eVar 5)) [8] (mName 8) (bNot (asB (eChain aLe aLt (eC (.int 0)) (eVar 8) (eVar 0)))) (eVar 8)) (eLst []))))) (sRet (eC (.bl false))) sNil))
    (sSeq (sFor (eItems (eVar 3)) (mName 5) (sFor (eItems (eCall m__law_sets [(eVar 0), (eCall fMin2 [(eVar 2), (eVar 0)])])) (mName 6) (sSeq (sAsg 7 (eCall m__law_behind [(eVar 0), (eVar 1), (eVar 5), (eVar 6), (eVar 4)]))
    (sIf (asB (eBin aEq (eLc (eItems (eVar 3)) [9] (mName 9) (asB (eBin aEq (eLc (eItems (eVar 9)) [8] (mName 8) (asB (eBin oNotIn (eVar 8) (eVar 7))) (eVar 8)) (eLst []))) (eVar 9)) (eLst []))) (sRet (eC (.bl false))) sNil))))
    (sRet (eC (.bl true)))))))
noncomputable def m__law_is_hunt : List D → M D := fnM 8 5
  ((sSeq (sAsg 5 (eTupR (eRng1 (eVar 0))))
    (sSeq (sFor (eItems (eVar 3)) (mName 6) (sSeq (sIf (bOr (asB (eBin aGt (eCall fLen [(eVar 6)]) (eVar 2))) (bOr (asB (eBin aNe (eCall fList [(eVar 6)]) (eCall fSortSet [(eVar 6)]))) (asB (eBin aNe (eLc (eItems (eVar 6)) [7] (mName 7) (bNot (asB (eChain aLe aLt (eC (.int 0)) (eVar 7) (eVar 0)))) (eVar 7)) (eLst []))))) (sRet (eC (.bl false))) sNil)
    (sAsg 5 (eCall m__law_behind [(eVar 0), (eVar 1), (eVar 5), (eVar 6), (eVar 4)]))))
    (sRet (eBin aEq (eVar 5) (eTup []))))))
noncomputable def m__law_mixed : List D → M D := fnM 4 2
  ((sSeq (sAsg 2 (eLst []))
    (sSeq (sFor (eItems (eVar 1)) (mName 3) (sMut 2 [(eCall m__law_draw [(eVar 0), (eBin aAddL (eCall fLen [(eVar 2)]) (eC (.int 1)))]), (eVar 3)] kIns))
    (sRet (eVar 2)))))
noncomputable def m__law_path : List D → M D := fnM 2 1
  ((sRet (eCall fTuple [(eLc (eRng1 (eBin aSub (eVar 0) (eC (.int 1)))) [1] (mName 1) bYes (eTup [(eVar 1), (eBin aAddL (eVar 1) (eC (.int 1)))]))])))
noncomputable def m__law_pick : List D → M D := fnM 2 2
  ((sRet (eBin oIx (eVar 1) (eCall m__law_draw [(eVar 0), (eCall fLen [(eVar 1)])]))))
noncomputable def m__law_ring : List D → M D := fnM 2 1
  ((sRet (eCall fTuple [(eCall fSort [(eBin aAddL (eLc (eRng1 (eBin aSub (eVar 0) (eC (.int 1)))) [1] (mName 1) bYes (eTup [(eVar 1), (eBin aAddL (eVar 1) (eC (.int 1)))])) (eLst [(eTup [(eC (.int 0)), (eBin aSub (eVar 0) (eC (.int 1)))])]))])])))
noncomputable def m__law_star : List D → M D := fnM 2 1
  ((sRet (eCall fTuple [(eLc (eRng2 (eC (.int 1)) (eVar 0)) [1] (mName 1) bYes (eTup [(eC (.int 0)), (eVar 1)]))])))
noncomputable def m__law_web : List D → M D := fnM 6 3
  ((sSeq (sAsg 3 (eLst []))
    (sSeq (sFor (eRng1 (eVar 1)) (mName 4) (sAsg 3 (eBin aAddL (eVar 3) (eLc (eRng2 (eBin aAddL (eVar 4) (eC (.int 1))) (eVar 1)) [5] (mName 5) (asB (eBin aEq (eCall m__law_draw [(eVar 0), (eVar 2)]) (eC (.int 0)))) (eTup [(eVar 4), (eVar 5)])))))
    (sRet (eCall fTuple [(eVar 3)])))))
noncomputable def m__law_whole : List D → M D := fnM 4 1
  ((sSeq (sAsg 1 (eLst []))
    (sSeq (sFor (eRng1 (eVar 0)) (mName 2) (sAsg 1 (eBin aAddL (eVar 1) (eLc (eRng2 (eBin aAddL (eVar 2) (eC (.int 1))) (eVar 0)) [3] (mName 3) bYes (eTup [(eVar 2), (eVar 3)])))))
    (sRet (eCall fTuple [(eVar 1)])))))
noncomputable def m__law_named : List D → M D := fnM 4 2
  ((sSeq (sAsg 2 (eBin aAddL (eC (.int 1)) (eCall m__law_draw [(eVar 0), (eVar 1)])))
    (sSeq (sAsg 3 (eCall m__law_pick [(eVar 0), (eLst [(eCall m__law_web [(eVar 0), (eVar 2), (eC (.int 2))]), (eCall m__law_web [(eVar 0), (eVar 2), (eC (.int 3))]), (eCall m__law_path [(eVar 2)]), (eCall m__law_star [(eVar 2)]), (eCall m__law_whole [(eVar 2)]), (eIf (asB (eBin aGt (eVar 2) (eC (.int 2)))) (eCall m__law_ring [(eVar 2)]) (eTup []))])]))
    (sRet (eTup [(eVar 2), (eVar 3)])))))
noncomputable def m_after : List D → M D := fnM 7 3
  ((sSeq (sAsg 3 (eC (.int 0)))
    (sSeq (sAsg 4 (eBin aAnd (eVar 1) (eUn oInv (eVar 2))))
    (sSeq (sFor (eEnum (eVar 0)) (mTup [(mName 5), (mName 6)]) (sIf (asB (eBin aEq (eBin aAnd (eBin aShr (eVar 4) (eVar 5)) (eC (.int 1))) (eC (.int 1)))) (sAsg 3 (eBin aOr (eVar 3) (eVar 6))) sNil))
    (sRet (eVar 3))))))
noncomputable def m_figure_of : List D → M D := fnM 2 1
  ((sRet (eCall fSum [(eLc (eItems (eVar 0)) [1] (mName 1) bYes (eBin aShl (eC (.int 1)) (eVar 1)))])))
noncomputable def m_all_shots : List D → M D := fnM 6 2
  ((sSeq (sAsg 2 (eLst [(eTup [])]))
    (sSeq (sFor (eRng1 (eCall fMin2 [(eVar 1), (eVar 0)])) (mName 3) (sAsg 2 (eLc2 (eItems (eVar 2)) [4, 5] [5] (mName 4) bYes (eRng2 (eIf (asB (eBin aGt (eCall fLen [(eVar 4)]) (eC (.int 0)))) (eBin aAddL (eBin oIx (eVar 4) (eUn oNeg (eC (.int 1)))) (eC (.int 1))) (eC (.int 0))) (eVar 0)) (mName 5) bYes (eBin aAddL (eVar 4) (eTup [(eVar 5)])))))
    (sRet (eLc (eItems (eVar 2)) [4] (mName 4) bYes (eCall m_figure_of [(eVar 4)]))))))
noncomputable def m_beside : List D → M D := fnM 4 2
  ((sRet (eCall fSort [(eLc (eItems (eVar 0)) [2, 3] (mTup [(mName 2), (mName 3)]) (asB (eBin oIn (eVar 1) (eTup [(eVar 2), (eVar 3)]))) (eBin aSub (eBin aAddL (eVar 2) (eVar 3)) (eVar 1)))])))
noncomputable def m_reaches : List D → M D := fnM 7 3
  ((sSeq (sAsg 3 (eLst []))
    (sSeq (sFor (eRng1 (eVar 0)) (mName 4) (sSeq (sAsg 5 (eCall m_beside [(eVar 1), (eVar 4)]))
    (sSeq (sIf (bOr (asT (eVar 2)) (asB (eBin aEq (eCall fLen [(eVar 5)]) (eC (.int 0))))) (sAsg 5 (eBin aAddL (eVar 5) (eLst [(eVar 4)]))) sNil)
    (sMut 3 [(eCall fSum [(eLc (eItems (eVar 5)) [6] (mName 6) bYes (eBin aShl (eC (.int 1)) (eVar 6)))])] kApp))))
    (sRet (eVar 3)))))
noncomputable def m_hunts_from : List D → M D := fnM 12 4
  ((sSeq (sPar2 4 5 (eCall m_reaches [(eVar 0), (eVar 1), (eVar 3)]) (eCall m_all_shots [(eVar 0), (eVar 2)]))
    (sSeq (sAsg 6 (eBin aSub (eBin aShl (eC (.int 1)) (eVar 0)) (eC (.int 1))))
    (sSeq (sAsg 7 (eDic1 (eVar 6) (eC .non)))
    (sSeq (sAsg 8 (eLst [(eVar 6)]))
    (sSeq (sAsg 9 (eC (.int 0)))
    (sSeq (sWhile (asB (eBin aLt (eVar 9) (eCall fLen [(eVar 8)]))) (sSeq (sFor (eItems (eVar 5)) (mName 10) (sSeq (sAsg 11 (eCall m_after [(eVar 4), (eBin oIx (eVar 8) (eVar 9)), (eVar 10)]))
    (sIf (asB (eBin oNotIn (eVar 11) (eVar 7))) (sSeq (sPut 7 (eVar 11) (eTup [(eBin oIx (eVar 8) (eVar 9)), (eVar 10)]))
    (sMut 8 [(eVar 11)] kApp)) sNil)))
    (sAug 9 aAddI (eC (.int 1)))))
    (sRet (eVar 7)))))))))
noncomputable def m_set_of : List D → M D := fnM 2 1
  ((sRet (eCall fTuple [(eLc (eRng1 (eBits (eVar 0))) [1] (mName 1) (asB (eBin aEq (eBin aAnd (eBin aShr (eVar 0) (eVar 1)) (eC (.int 1))) (eC (.int 1)))) (eVar 1))])))
noncomputable def m_burrow : List D → M D := fnM 8 4
  ((sSeq (sAsg 4 (eCall m_hunts_from [(eVar 0), (eVar 1), (eVar 2), (eVar 3)]))
    (sSeq (sIf (asB (eBin oIn (eC (.int 0)) (eVar 4))) (sRet (eC .non)) sNil)
    (sSeq (sAsg 5 (eLc (eItems (eVar 4)) [6] (mName 6) (bNot (asB (eCall fAny [(eLc (eItems (eVar 4)) [7] (mName 7) bYes (eAnd (eBin aNe (eVar 7) (eVar 6)) (eBin aEq (eBin aAnd (eVar 7) (eVar 6)) (eVar 7))))]))) (eVar 6)))
    (sRet (eCall fTuple [(eCall fSort [(eLc (eItems (eVar 5)) [6] (mName 6) bYes (eCall m_set_of [(eVar 6)]))])]))))))
noncomputable def m_is_shot : List D → M D := fnM 4 3
  ((sRet (eAnd (eBin aLe (eCall fLen [(eVar 2)]) (eVar 1)) (eAnd (eBin aEq (eCall fList [(eVar 2)]) (eCall fSortSet [(eVar 2)])) (eCall fAll [(eLc (eItems (eVar 2)) [3] (mName 3) bYes (eChain aLe aLt (eC (.int 0)) (eVar 3) (eVar 0)))])))))
noncomputable def m_is_burrow : List D → M D := fnM 12 5
  ((sSeq (sIf (bOr (asB (eBin aEq (eCall fLen [(eVar 3)]) (eC (.int 0)))) (asB (eBin aNe (eCall fList [(eVar 3)]) (eCall fSortSet [(eVar 3)])))) (sRet (eC (.bl false))) sNil)
    (sSeq (sIf (bNot (asB (eCall fAll [(eLc (eItems (eVar 3)) [10] (mName 10) bYes (eAnd (eBin aGt (eCall fLen [(eVar 10)]) (eC (.int 0))) (eCall m_is_shot [(eVar 0), (eVar 0), (eVar 10)])))]))) (sRet (eC (.bl false))) sNil)
    (sSeq (sPar2 5 6 (eCall m_reaches [(eVar 0), (eVar 1), (eVar 4)]) (eLc (eItems (eVar 3)) [10] (mName 10) bYes (eCall m_figure_of [(eVar 10)])))
    (sSeq (sFor (eItems (eVar 6)) (mName 7) (sFor (eItems (eCall m_all_shots [(eVar 0), (eVar 2)])) (mName 8) (sSeq (sAsg 9 (eCall m_after [(eVar 5), (eVar 7), (eVar 8)]))
    (sIf (bNot (asB (eCall fAny [(eLc (eItems (eVar 6)) [11] (mName 11) bYes (eBin aEq (eBin aAnd (eVar 11) (eVar 9)) (eVar 11)))]))) (sRet (eC (.bl false))) sNil))))
    (sRet (eC (.bl true))))))))
noncomputable def m_is_hunt : List D → M D := fnM 8 5
  ((sSeq (sIf (bNot (asB (eCall fAll [(eLc (eItems (eVar 3)) [7] (mName 7) bYes (eCall m_is_shot [(eVar 0), (eVar 2), (eVar 7)]))]))) (sRet (eC (.bl false))) sNil)
    (sSeq (sAsg 5 (eCall m_reaches [(eVar 0), (eVar 1), (eVar 4)]))
    (sSeq (sAsg 6 (eBin aSub (eBin aShl (eC (.int 1)) (eVar 0)) (eC (.int 1))))
    (sSeq (sFor (eItems (eVar 3)) (mName 7) (sAsg 6 (eCall m_after [(eVar 5), (eVar 6), (eCall m_figure_of [(eVar 7)])])))
    (sRet (eBin aEq (eVar 6) (eC (.int 0)))))))))
noncomputable def m_places_after : List D → M D := fnM 5 5
  ((sRet (eCall m_set_of [(eCall m_after [(eCall m_reaches [(eVar 0), (eVar 1), (eVar 4)]), (eCall m_figure_of [(eVar 2)]), (eCall m_figure_of [(eVar 3)])])])))
noncomputable def m_shortest_hunt : List D → M D := fnM 8 4
  ((sSeq (sAsg 4 (eCall m_hunts_from [(eVar 0), (eVar 1), (eVar 2), (eVar 3)]))
    (sSeq (sIf (asB (eBin oNotIn (eC (.int 0)) (eVar 4))) (sRet (eC .non)) sNil)
    (sSeq (sAsg 5 (eLst []))
    (sSeq (sAsg 6 (eC (.int 0)))
    (sSeq (sWhile (asB (eBin aIsNot (eBin oIx (eVar 4) (eVar 6)) (eC .non))) (sSeq (sUnp (eBin oIx (eVar 4) (eVar 6)) (mTup [(mName 6), (mName 7)]))
    (sAsg 5 (eBin aAddL (eLst [(eCall m_set_of [(eVar 7)])]) (eVar 5)))))
    (sRet (eCall fTuple [(eVar 5)]))))))))
noncomputable def m_hunters_number : List D → M D := fnM 4 3
  ((sSeq (sAsg 3 (eC (.int 1)))
    (sSeq (sWhile (asB (eBin aIs (eCall m_shortest_hunt [(eVar 0), (eVar 1), (eVar 3), (eVar 2)]) (eC .non))) (sAug 3 aAddI (eC (.int 1))))
    (sRet (eVar 3)))))
noncomputable def m__law_joined : List D → M D := fnM 8 3
  ((sSeq (sAsg 3 (eLc (eRng2 (eC (.int 1)) (eVar 1)) [7] (mName 7) bYes (eTup [(eCall m__law_draw [(eVar 0), (eVar 7)]), (eVar 7)])))
    (sSeq (sFor (eRng1 (eVar 2)) (mName 4) (sSeq (sPar2 5 6 (eCall m__law_draw [(eVar 0), (eVar 1)]) (eCall m__law_draw [(eVar 0), (eVar 1)]))
    (sAsg 3 (eBin aAddL (eVar 3) (eIf (asB (eBin aNe (eVar 5) (eVar 6))) (eLst [(eTup [(eCall fMin2 [(eVar 5), (eVar 6)]), (eCall fMax2 [(eVar 5), (eVar 6)])])]) (eLst []))))))
    (sRet (eCall fTuple [(eCall fSortSet [(eVar 3)])])))))
noncomputable def m_path_hunt : List D → M D := fnM 3 1
  ((sSeq (sAsg 1 (eListR (eRng2 (eC (.int 1)) (eBin aSub (eVar 0) (eC (.int 1))))))
    (sRet (eCall fTuple [(eLc (eItems (eBin aAddL (eVar 1) (eRev (eVar 1)))) [2] (mName 2) bYes (eTup [(eVar 2)]))]))))
noncomputable def m__law_burns : List D → M D := fnM 7 3
  ((sSeq (sIf (asB (eBin aNe (eLc (eItems (eVar 2)) [4] (mName 4) (bNot (asB (eChain aLe aLt (eC (.int 0)) (eVar 4) (eVar 0)))) (eVar 4)) (eLst []))) (sRet (eC (.bl false))) sNil)
    (sSeq (sAsg 3 (eLst []))
    (sSeq (sFor (eItems (eVar 2)) (mName 4) (sSeq (sAsg 5 (eCall fList [(eVar 3)]))
    (sSeq (sFor (eItems (eVar 3)) (mName 6) (sAsg 5 (eBin aAddL (eVar 5) (eCall m__law_beside [(eVar 1), (eVar 6)]))))
    (sAsg 3 (eCall fSortSet [(eBin aAddL (eVar 5) (eLst [(eVar 4)]))])))))
    (sRet (eBin aEq (eCall fLen [(eVar 3)]) (eVar 0)))))))
noncomputable def m__law_steps : List D → M D := fnM 7 3
  ((sSeq (sAsg 3 (eBin aRep (eLst [(eUn oNeg (eC (.int 1)))]) (eVar 0)))
    (sSeq (sPut 3 (eVar 2) (eC (.int 0)))
    (sSeq (sAsg 4 (eLst [(eVar 2)]))
    (sSeq (sAsg 5 (eC (.int 0)))
    (sSeq (sWhile (asB (eBin aLt (eVar 5) (eCall fLen [(eVar 4)]))) (sSeq (sFor (eItems (eCall m__law_beside [(eVar 1), (eBin oIx (eVar 4) (eVar 5))])) (mName 6) (sIf (asB (eBin aLt (eBin oIx (eVar 3) (eVar 6)) (eC (.int 0)))) (sSeq (sPut 3 (eVar 6) (eBin aAddL (eBin oIx (eVar 3) (eBin oIx (eVar 4) (eVar 5))) (eC (.int 1))))
    (sMut 4 [(eVar 6)] kApp)) sNil))
    (sAsg 5 (eBin aAddL (eVar 5) (eC (.int 1))))))
    (sRet (eVar 3))))))))
noncomputable def m__law_is_far : List D → M D := fnM 7 4
  ((sSeq (sIf (bOr (asB (eBin aNe (eCall fLen [(eVar 3)]) (eBin aAddL (eVar 2) (eC (.int 1))))) (bOr (asB (eBin aNe (eCall fList [(eVar 3)]) (eCall fSortSet [(eVar 3)]))) (asB (eBin aNe (eLc (eItems (eVar 3)) [4] (mName 4) (bNot (asB (eChain aLe aLt (eC (.int 0)) (eVar 4) (eVar 0)))) (eVar 4)) (eLst []))))) (sRet (eC (.bl false))) sNil)
    (sSeq (sFor (eItems (eVar 3)) (mName 4) (sSeq (sAsg 5 (eCall m__law_steps [(eVar 0), (eVar 1), (eVar 4)]))
    (sIf (asB (eBin aNe (eLc (eItems (eVar 3)) [6] (mName 6) (bAnd (asB (eBin aNe (eVar 6) (eVar 4))) (asB (eChain aLe aLt (eC (.int 0)) (eBin oIx (eVar 5) (eVar 6)) (eBin aSub (eBin aMulL (eC (.int 2)) (eVar 2)) (eC (.int 1)))))) (eVar 6)) (eLst []))) (sRet (eC (.bl false))) sNil)))
    (sRet (eC (.bl true))))))
noncomputable def m_steps_from : List D → M D := fnM 7 3
  ((sSeq (sAsg 3 (eBin aRep (eLst [(eUn oNeg (eC (.int 1)))]) (eVar 0)))
    (sSeq (sPut 3 (eVar 2) (eC (.int 0)))
    (sSeq (sAsg 4 (eLst [(eVar 2)]))
    (sSeq (sAsg 5 (eC (.int 0)))
    (sSeq (sWhile (asB (eBin aLt (eVar 5) (eCall fLen [(eVar 4)]))) (sSeq (sFor (eItems (eCall m_beside [(eVar 1), (eBin oIx (eVar 4) (eVar 5))])) (mName 6) (sIf (asB (eBin aLt (eBin oIx (eVar 3) (eVar 6)) (eC (.int 0)))) (sSeq (sPut 3 (eVar 6) (eBin aAddL (eBin oIx (eVar 3) (eBin oIx (eVar 4) (eVar 5))) (eC (.int 1))))
    (sMut 4 [(eVar 6)] kApp)) sNil))
    (sAug 5 aAddI (eC (.int 1)))))
    (sRet (eVar 3))))))))
noncomputable def m_is_burning : List D → M D := fnM 8 3
  ((sSeq (sIf (bNot (asB (eCall fAll [(eLc (eItems (eVar 2)) [5] (mName 5) bYes (eChain aLe aLt (eC (.int 0)) (eVar 5) (eVar 0)))]))) (sRet (eC (.bl false))) sNil)
    (sSeq (sAsg 3 (eCall fLen [(eVar 2)]))
    (sSeq (sAsg 4 (eLc (eItems (eVar 2)) [5] (mName 5) bYes (eCall m_steps_from [(eVar 0), (eVar 1), (eVar 5)])))
    (sRet (eCall fAll [(eLc (eRng1 (eVar 0)) [6] (mName 6) bYes (eCall fAny [(eLc (eRng1 (eVar 3)) [7] (mName 7) bYes (eChain aLe aLe (eC (.int 0)) (eBin oIx (eBin oIx (eVar 4) (eVar 7)) (eVar 6)) (eBin aSub (eBin aSub (eVar 3) (eC (.int 1))) (eVar 7))))]))]))))))
noncomputable def m_is_far_lot : List D → M D := fnM 7 4
  ((sSeq (sIf (bOr (asB (eBin aNe (eCall fLen [(eVar 3)]) (eBin aAddL (eVar 2) (eC (.int 1))))) (bOr (asB (eBin aNe (eCall fList [(eVar 3)]) (eCall fSortSet [(eVar 3)]))) (bNot (asB (eCall fAll [(eLc (eItems (eVar 3)) [4] (mName 4) bYes (eChain aLe aLt (eC (.int 0)) (eVar 4) (eVar 0)))]))))) (sRet (eC (.bl false))) sNil)
    (sSeq (sFor (eItems (eVar 3)) (mName 4) (sSeq (sAsg 5 (eCall m_steps_from [(eVar 0), (eVar 1), (eVar 4)]))
    (sIf (asB (eCall fAny [(eLc (eItems (eVar 3)) [6] (mName 6) bYes (eAnd (eBin aNe (eVar 6) (eVar 4)) (eChain aLe aLt (eC (.int 0)) (eBin oIx (eVar 5) (eVar 6)) (eBin aSub (eBin aMulL (eC (.int 2)) (eVar 2)) (eC (.int 1))))))])) (sRet (eC (.bl false))) sNil)))
    (sRet (eC (.bl true))))))
noncomputable def m_steps_of : List D → M D := fnM 3 2
  ((sRet (eLc (eRng1 (eVar 0)) [2] (mName 2) bYes (eCall m_steps_from [(eVar 0), (eVar 1), (eVar 2)]))))
noncomputable def m_least_burning : List D → M D := fnM 16 2
  ((sSeq (sAsg 2 (eCall m_steps_of [(eVar 0), (eVar 1)]))
    (sSeq (sAsg 3 (eBin aSub (eBin aShl (eC (.int 1)) (eVar 0)) (eC (.int 1))))
    (sSeq (sAsg 4 (eC (.int 1)))
    (sWhile (asT (eC (.bl true))) (sSeq (sAsg 5 (eDic1 (eC (.int 0)) (eTup [])))
    (sSeq (sFor (eRng1 (eVar 4)) (mName 6) (sSeq (sAsg 7 (eLc (eItems (eVar 2)) [14] (mName 14) bYes (eCall fSum [(eLc (eRng1 (eVar 0)) [15] (mName 15) (asB (eChain aLe aLe (eC (.int 0)) (eBin oIx (eVar 14) (eVar 15)) (eBin aSub (eBin aSub (eVar 4) (eC (.int 1))) (eVar 6)))) (eBin aShl (eC (.int 1)) (eVar 15)))])))
    (sSeq (sAsg 8 (eC (.dic [])))
    (sSeq (sFor (eDic dItems 5) (mTup [(mName 9), (mName 10)]) (sFor (eEnum (eVar 7)) (mTup [(mName 11), (mName 12)]) (sSeq (sAsg 13 (eBin aOr (eVar 9) (eVar 12)))
    (sSeq (sAsg 14 (eBin aAddL (eVar 10) (eTup [(eVar 11)])))
    (sIf (bOr (asB (eBin oNotIn (eVar 13) (eVar 8))) (asB (eBin aLt (eVar 14) (eBin oIx (eVar 8) (eVar 13))))) (sPut 8 (eVar 13) (eVar 14)) sNil)))))
    (sMove 5 8)))))
    (sSeq (sIf (asB (eBin oIn (eVar 3) (eVar 5))) (sRet (eBin oIx (eVar 5) (eVar 3))) sNil)
    (sAug 4 aAddI (eC (.int 1)))))))))))
noncomputable def m__law_rows : List D → M D := fnM 7 2
  ((sSeq (sAsg 2 (eLst [(eTup [])]))
    (sSeq (sFor (eRng1 (eVar 1)) (mName 3) (sSeq (sAsg 4 (eLst []))
    (sSeq (sFor (eItems (eVar 2)) (mName 5) (sAsg 4 (eBin aAddL (eVar 4) (eLc (eRng1 (eVar 0)) [6] (mName 6) bYes (eBin aAddL (eVar 5) (eTup [(eVar 6)]))))))
    (sAsg 2 (eVar 4)))))
    (sRet (eVar 2)))))
noncomputable def m_burning_number : List D → M D := fnM 2 2
  ((sRet (eCall fLen [(eCall m_least_burning [(eVar 0), (eVar 1)])])))
noncomputable def m_path_burning : List D → M D := fnM 6 1
  ((sSeq (sAsg 1 (eC (.int 1)))
    (sSeq (sWhile (asB (eBin aLt (eBin aMulL (eVar 1) (eVar 1)) (eVar 0))) (sAug 1 aAddI (eC (.int 1))))
    (sSeq (sAsg 2 (eLst []))
    (sSeq (sAsg 3 (eC (.int 0)))
    (sSeq (sFor (eRng2 (eC (.int 1)) (eBin aAddL (eVar 1) (eC (.int 1)))) (mName 4) (sSeq (sAsg 5 (eCall fMin2 [(eBin aSub (eVar 0) (eC (.int 1))), (eBin aSub (eBin aAddL (eVar 3) (eVar 1)) (eVar 4))]))
    (sSeq (sMut 2 [(eVar 5)] kApp)
    (sAsg 3 (eCall fMax2 [(eVar 3), (eCall fMin2 [(eBin aSub (eVar 0) (eC (.int 1))), (eBin aAddL (eBin aSub (eBin aAddL (eVar 5) (eVar 1)) (eVar 4)) (eC (.int 1)))])])))))
    (sRet (eCall fTuple [(eVar 2)]))))))))
noncomputable def m__law_tree : List D → M D := fnM 4 2
  ((sSeq (sAsg 2 (eCall m__law_mixed [(eVar 0), (eListR (eRng1 (eVar 1)))]))
    (sRet (eCall fTuple [(eCall fSort [(eLc (eRng2 (eC (.int 1)) (eVar 1)) [3] (mName 3) bYes (eCall fTuple [(eCall fSort [(eLst [(eBin oIx (eVar 2) (eCall m__law_draw [(eVar 0), (eVar 3)])), (eBin oIx (eVar 2) (eVar 3))])])]))])]))))
noncomputable def m__law_some_web : List D → M D := fnM 4 2
  ((sSeq (sAsg 2 (eBin aAddL (eC (.int 1)) (eCall m__law_draw [(eVar 0), (eVar 1)])))
    (sSeq (sAsg 3 (eCall m__law_pick [(eVar 0), (eLst [(eCall m__law_tree [(eVar 0), (eVar 2)]), (eCall m__law_joined [(eVar 0), (eVar 2), (eCall m__law_draw [(eVar 0), (eBin aAddL (eVar 2) (eC (.int 2)))])]), (eCall m__law_path [(eVar 2)]), (eCall m__law_star [(eVar 2)]), (eCall m__law_whole [(eVar 2)]), (eIf (asB (eBin aGt (eVar 2) (eC (.int 2)))) (eCall m__law_ring [(eVar 2)]) (eCall m__law_path [(eVar 2)]))])]))
    (sRet (eTup [(eVar 2), (eVar 3)])))))
noncomputable def m_reach_of : List D → M D := fnM 3 3
  ((sRet (eCall fMax [(eCall m_steps_from [(eVar 0), (eVar 1), (eVar 2)])])))
noncomputable def m_centre : List D → M D := fnM 4 2
  ((sSeq (sAsg 2 (eLc (eRng1 (eVar 0)) [3] (mName 3) bYes (eCall m_reach_of [(eVar 0), (eVar 1), (eVar 3)])))
    (sRet (eCall fTuple [(eLc (eRng1 (eVar 0)) [3] (mName 3) (asB (eBin aEq (eBin oIx (eVar 2) (eVar 3)) (eCall fMin [(eVar 2)]))) (eVar 3))]))))
noncomputable def m_peeled : List D → M D := fnM 5 2
  ((sSeq (sAsg 2 (eListR (eRng1 (eVar 0))))
    (sSeq (sWhile (asB (eBin aGt (eCall fLen [(eVar 2)]) (eC (.int 2)))) (sAsg 2 (eLc (eItems (eVar 2)) [3] (mName 3) (asB (eBin aGt (eCall fLen [(eLc (eItems (eCall m_beside [(eVar 1), (eVar 3)])) [4] (mName 4) (asB (eBin oIn (eVar 4) (eVar 2))) (eVar 4))]) (eC (.int 1)))) (eVar 3))))
    (sRet (eCall fTuple [(eVar 2)])))))
noncomputable def m_radius : List D → M D := fnM 3 2
  ((sRet (eCall fMin [(eLc (eRng1 (eVar 0)) [2] (mName 2) bYes (eCall m_reach_of [(eVar 0), (eVar 1), (eVar 2)]))])))
noncomputable def m__law_know : List D → M D := fnM 8 3
  ((sSeq (sAsg 3 (eLst [(eVar 2)]))
    (sSeq (sFor (eItems (eVar 2)) (mName 4) (sSeq (sAsg 5 (eCall fList [(eVar 3)]))
    (sSeq (sFor (eItems (eVar 3)) (mName 6) (sAsg 5 (eBin aAddL (eVar 5) (eLc (eItems (eCall m__law_beside [(eVar 1), (eVar 4)])) [7] (mName 7) (asB (eBin oNotIn (eVar 7) (eVar 6))) (eCall fTuple [(eCall fSort [(eBin aAddL (eVar 6) (eTup [(eVar 7)]))])])))))
    (sAsg 3 (eVar 5)))))
    (sRet (eCall fSortSet [(eVar 3)])))))
noncomputable def m__law_time : List D → M D := fnM 7 3
  ((sSeq (sPar2 3 4 (eLst [(eTup [(eVar 2)])]) (eC (.int 0)))
    (sSeq (sWhile (asB (eBin aEq (eLc (eItems (eVar 3)) [6] (mName 6) (asB (eBin aEq (eCall fLen [(eVar 6)]) (eVar 0))) (eVar 6)) (eLst []))) (sSeq (sAsg 5 (eLst []))
    (sSeq (sFor (eItems (eVar 3)) (mName 6) (sAsg 5 (eBin aAddL (eVar 5) (eCall m__law_know [(eVar 0), (eVar 1), (eVar 6)]))))
    (sPar2 3 4 (eCall fSortSet [(eVar 5)]) (eBin aAddL (eVar 4) (eC (.int 1)))))))
    (sRet (eVar 4)))))
noncomputable def m_rounds_from : List D → M D := fnM 8 2
  ((sSeq (sAsg 2 (eLst [(eTup [(eTup []), (eVar 1)])]))
    (sSeq (sFor (eRng1 (eCall fLen [(eVar 0)])) (mName 3) (sIf (asB (eBin aEq (eBin aAnd (eBin aShr (eVar 1) (eVar 3)) (eC (.int 1))) (eC (.int 1)))) (sSeq (sAsg 4 (eCall fList [(eVar 2)]))
    (sSeq (sFor (eItems (eVar 2)) (mTup [(mName 5), (mName 6)]) (sFor (eItems (eBin oIx (eVar 0) (eVar 3))) (mName 7) (sIf (asB (eBin aEq (eBin aAnd (eBin aShr (eVar 6) (eVar 7)) (eC (.int 1))) (eC (.int 0)))) (sMut 4 [(eTup [(eBin aAddL (eVar 5) (eTup [(eTup [(eVar 3), (eVar 7)])])), (eBin aOr (eVar 6) (eBin aShl (eC (.int 1)) (eVar 7)))])] kApp) sNil)))
    (sMove 2 4))) sNil))
    (sRet (eVar 2)))))
noncomputable def m_news_plan : List D → M D := fnM 12 3
  ((sSeq (sAsg 3 (eLc (eRng1 (eVar 0)) [11] (mName 11) bYes (eCall m_beside [(eVar 1), (eVar 11)])))
    (sSeq (sAsg 4 (eBin aSub (eBin aShl (eC (.int 1)) (eVar 0)) (eC (.int 1))))
    (sSeq (sAsg 5 (eDic1 (eBin aShl (eC (.int 1)) (eVar 2)) (eTup [])))
    (sSeq (sWhile (asB (eBin oNotIn (eVar 4) (eVar 5))) (sSeq (sAsg 6 (eC (.dic [])))
    (sSeq (sFor (eDic dItems 5) (mTup [(mName 7), (mName 8)]) (sFor (eItems (eCall m_rounds_from [(eVar 3), (eVar 7)])) (mTup [(mName 9), (mName 10)]) (sIf (asB (eBin oNotIn (eVar 10) (eVar 6))) (sPut 6 (eVar 10) (eBin aAddL (eVar 8) (eTup [(eVar 9)]))) sNil)))
    (sMove 5 6))))
    (sRet (eBin oIx (eVar 5) (eVar 4))))))))
noncomputable def m_news_time : List D → M D := fnM 3 3
  ((sRet (eCall fLen [(eCall m_news_plan [(eVar 0), (eVar 1), (eVar 2)])])))
noncomputable def m__law_fire : List D → M D := fnM 13 4
  ((sSeq (sUnp (eTup [(eLst [(eVar 2)]), (eLst []), (eC (.bl true))]) (mTup [(mName 4), (mName 5), (mName 6)]))
    (sSeq (sAsg 7 (eC (.int 0)))
    (sSeq (sFor (eItems (eVar 3)) (mName 8) (sSeq (sAsg 6 (eAnd (eVar 6) (eAnd (eBin aEq (eCall fList [(eVar 8)]) (eCall fSortSet [(eVar 8)])) (eBin aEq (eLc (eItems (eVar 8)) [10] (mName 10) (bOr (bNot (asB (eChain aLe aLt (eC (.int 0)) (eVar 10) (eVar 0)))) (bOr (asB (eBin oIn (eVar 10) (eVar 4))) (asB (eBin oIn (eVar 10) (eVar 5))))) (eVar 10)) (eLst [])))))
    (sSeq (sAsg 7 (eCall fMax2 [(eVar 7), (eCall fLen [(eVar 8)])]))
    (sSeq (sAsg 5 (eBin aAddL (eVar 5) (eCall fList [(eVar 8)])))
    (sSeq (sAsg 9 (eCall fList [(eVar 4)]))
    (sSeq (sFor (eItems (eVar 4)) (mName 10) (sAsg 9 (eBin aAddL (eVar 9) (eLc (eItems (eCall m__law_beside [(eVar 1), (eVar 10)])) [12] (mName 12) (asB (eBin oNotIn (eVar 12) (eVar 5))) (eVar 12)))))
    (sAsg 4 (eCall fSortSet [(eVar 9)]))))))))
    (sSeq (sAsg 11 (eC (.bl true)))
    (sSeq (sWhile (asT (eVar 11)) (sSeq (sAsg 9 (eCall fList [(eVar 4)]))
    (sSeq (sFor (eItems (eVar 4)) (mName 10) (sAsg 9 (eBin aAddL (eVar 9) (eLc (eItems (eCall m__law_beside [(eVar 1), (eVar 10)])) [12] (mName 12) (asB (eBin oNotIn (eVar 12) (eVar 5))) (eVar 12)))))
    (sSeq (sAsg 11 (eBin aNe (eCall fSortSet [(eVar 9)]) (eVar 4)))
    (sAsg 4 (eCall fSortSet [(eVar 9)]))))))
    (sRet (eTup [(eVar 6), (eCall fTuple [(eVar 4)]), (eVar 7)]))))))))
noncomputable def m_choices : List D → M D := fnM 7 2
  ((sSeq (sAsg 2 (eLst [(eTup [])]))
    (sSeq (sAsg 3 (eVar 2))
    (sSeq (sFor (eRng1 (eVar 1)) (mName 4) (sSeq (sAsg 3 (eLc2 (eItems (eVar 3)) [5, 6] [6] (mName 5) bYes (eItems (eVar 0)) (mName 6) (bOr (asB (eBin aEq (eCall fLen [(eVar 5)]) (eC (.int 0)))) (asB (eBin aGt (eVar 6) (eBin oIx (eVar 5) (eUn oNeg (eC (.int 1))))))) (eBin aAddL (eVar 5) (eTup [(eVar 6)]))))
    (sAsg 2 (eBin aAddL (eVar 2) (eVar 3)))))
    (sRet (eVar 2))))))
noncomputable def m_near_of : List D → M D := fnM 4 2
  ((sRet (eLc (eRng1 (eVar 0)) [2] (mName 2) bYes (eCall fSum [(eLc (eItems (eCall m_beside [(eVar 1), (eVar 2)])) [3] (mName 3) bYes (eBin aShl (eC (.int 1)) (eVar 3)))]))))
noncomputable def m_spread : List D → M D := fnM 6 3
  ((sSeq (sAsg 3 (eVar 1))
    (sSeq (sFor (eEnum (eVar 0)) (mTup [(mName 4), (mName 5)]) (sIf (asB (eBin aEq (eBin aAnd (eBin aShr (eVar 1) (eVar 4)) (eC (.int 1))) (eC (.int 1)))) (sAsg 3 (eBin aOr (eVar 3) (eBin aAnd (eVar 5) (eUn oInv (eVar 2))))) sNil))
    (sRet (eVar 3)))))
noncomputable def m_best_plan : List D → M D := fnM 18 4
  ((sSeq (sAsg 4 (eCall m_near_of [(eVar 0), (eVar 1)]))
    (sSeq (sUnp (eTup [(eUn oNeg (eC (.int 1))), (eC .non)]) (mTup [(mName 5), (mName 6)]))
    (sSeq (sAsg 7 (eDic1 (eTup [(eBin aShl (eC (.int 1)) (eVar 2)), (eC (.int 0))]) (eTup [])))
    (sSeq (sWhile (asB (eBin aGt (eCall fLen [(eVar 7)]) (eC (.int 0)))) (sSeq (sAsg 8 (eC (.dic [])))
    (sSeq (sFor (eDic dItems 7) (mTup [(mTup [(mName 9), (mName 10)]), (mName 11)]) (sSeq (sAsg 12 (eLc (eRng1 (eVar 0)) [17] (mName 17) (asB (eBin aEq (eBin aAnd (eBin aShr (eBin aOr (eVar 9) (eVar 10)) (eVar 17)) (eC (.int 1))) (eC (.int 0)))) (eVar 17)))
    (sFor (eItems (eCall m_choices [(eVar 12), (eVar 3)])) (mName 13) (sSeq (sAsg 14 (eBin aOr (eVar 10) (eCall fSum [(eLc (eItems (eVar 13)) [17] (mName 17) bYes (eBin aShl (eC (.int 1)) (eVar 17)))])))
    (sSeq (sAsg 15 (eCall m_spread [(eVar 4), (eVar 9), (eVar 14)]))
    (sIf (asB (eBin aEq (eVar 15) (eVar 9))) (sSeq (sAsg 16 (eCall fLen [(eLc (eRng1 (eVar 0)) [17] (mName 17) (asB (eBin aEq (eBin aAnd (eBin aShr (eVar 9) (eVar 17)) (eC (.int 1))) (eC (.int 0)))) (eVar 17))]))
    (sIf (asB (eBin aGt (eVar 16) (eVar 5))) (sPar2 5 6 (eVar 16) (eBin aAddL (eVar 11) (eTup [(eVar 13)]))) sNil)) (sIf (asB (eBin oNotIn (eTup [(eVar 15), (eVar 14)]) (eVar 8))) (sPut 8 (eTup [(eVar 15), (eVar 14)]) (eBin aAddL (eVar 11) (eTup [(eVar 13)]))) sNil)))))))
    (sMove 7 8))))
    (sRet (eVar 6)))))))
noncomputable def m_burnt_by : List D → M D := fnM 9 4
  ((sSeq (sAsg 4 (eCall m_near_of [(eVar 0), (eVar 1)]))
    (sSeq (sUnp (eTup [(eBin aShl (eC (.int 1)) (eVar 2)), (eC (.int 0))]) (mTup [(mName 5), (mName 6)]))
    (sSeq (sFor (eItems (eVar 3)) (mName 7) (sSeq (sAsg 6 (eBin aOr (eVar 6) (eCall fSum [(eLc (eItems (eVar 7)) [8] (mName 8) bYes (eBin aShl (eC (.int 1)) (eVar 8)))])))
    (sAsg 5 (eCall m_spread [(eVar 4), (eVar 5), (eVar 6)]))))
    (sSeq (sWhile (asB (eBin aNe (eCall m_spread [(eVar 4), (eVar 5), (eVar 6)]) (eVar 5))) (sAsg 5 (eCall m_spread [(eVar 4), (eVar 5), (eVar 6)])))
    (sRet (eCall fTuple [(eLc (eRng1 (eVar 0)) [8] (mName 8) (asB (eBin aEq (eBin aAnd (eBin aShr (eVar 5) (eVar 8)) (eC (.int 1))) (eC (.int 1)))) (eVar 8))])))))))
noncomputable def m_is_plan : List D → M D := fnM 11 5
  ((sSeq (sAsg 5 (eCall m_near_of [(eVar 0), (eVar 1)]))
    (sSeq (sPar2 6 7 (eBin aShl (eC (.int 1)) (eVar 2)) (eC (.int 0)))
    (sSeq (sFor (eItems (eVar 4)) (mName 8) (sSeq (sIf (bOr (asB (eBin aGt (eCall fLen [(eVar 8)]) (eVar 3))) (bOr (asB (eBin aNe (eCall fList [(eVar 8)]) (eCall fSortSet [(eVar 8)]))) (bNot (asB (eCall fAll [(eLc (eItems (eVar 8)) [10] (mName 10) bYes (eChain aLe aLt (eC (.int 0)) (eVar 10) (eVar 0)))]))))) (sRet (eC (.bl false))) sNil)
    (sSeq (sAsg 9 (eCall fSum [(eLc (eItems (eVar 8)) [10] (mName 10) bYes (eBin aShl (eC (.int 1)) (eVar 10)))]))
    (sSeq (sIf (asB (eBin aNe (eBin aAnd (eVar 9) (eBin aOr (eVar 6) (eVar 7))) (eC (.int 0)))) (sRet (eC (.bl false))) sNil)
    (sSeq (sAsg 7 (eBin aOr (eVar 7) (eVar 9)))
    (sAsg 6 (eCall m_spread [(eVar 5), (eVar 6), (eVar 7)])))))))
    (sRet (eC (.bl true)))))))
noncomputable def m__law_best : List D → M D := fnM 17 4
  ((sSeq (sAsg 4 (eDic1 (eTup [(eTup [(eVar 2)]), (eTup [])]) (eC (.bl true))))
    (sSeq (sAsg 5 (eC (.int 0)))
    (sSeq (sWhile (asB (eBin aNe (eVar 4) (eC (.dic [])))) (sSeq (sAsg 6 (eC (.dic [])))
    (sSeq (sFor (eDic dKeys 4) (mTup [(mName 7), (mName 8)]) (sSeq (sAsg 9 (eLc (eRng1 (eVar 0)) [11] (mName 11) (bAnd (asB (eBin oNotIn (eVar 11) (eVar 7))) (asB (eBin oNotIn (eVar 11) (eVar 8)))) (eVar 11)))
    (sSeq (sAsg 10 (eBin aAddL (eLst [(eTup [])]) (eLc (eItems (eVar 9)) [11] (mName 11) bYes (eTup [(eVar 11)]))))
    (sSeq (sIf (asB (eBin aEq (eVar 3) (eC (.int 2)))) (sFor (eItems (eVar 9)) (mName 11) (sAsg 10 (eBin aAddL (eVar 10) (eLc (eItems (eVar 9)) [16] (mName 16) (asB (eBin aGt (eVar 16) (eVar 11))) (eTup [(eVar 11), (eVar 16)]))))) sNil)
    (sFor (eItems (eVar 10)) (mName 12) (sSeq (sAsg 13 (eCall fTuple [(eCall fSort [(eBin aAddL (eVar 8) (eVar 12))])]))
    (sSeq (sAsg 14 (eCall fList [(eVar 7)]))
    (sSeq (sFor (eItems (eVar 7)) (mName 11) (sAsg 14 (eBin aAddL (eVar 14) (eLc (eItems (eCall m__law_beside [(eVar 1), (eVar 11)])) [16] (mName 16) (asB (eBin oNotIn (eVar 16) (eVar 13))) (eVar 16)))))
    (sSeq (sAsg 15 (eCall fTuple [(eCall fSortSet [(eVar 14)])]))
    (sIf (asB (eBin aEq (eVar 15) (eVar 7))) (sAsg 5 (eCall fMax2 [(eVar 5), (eBin aSub (eVar 0) (eCall fLen [(eVar 7)]))])) (sPut 6 (eTup [(eVar 15), (eVar 13)]) (eC (.bl true)))))))))))))
    (sMove 4 6))))
    (sRet (eVar 5))))))
noncomputable def m_best_saved : List D → M D := fnM 4 4
  ((sRet (eBin aSub (eVar 0) (eCall fLen [(eCall m_burnt_by [(eVar 0), (eVar 1), (eVar 2), (eCall m_best_plan [(eVar 0), (eVar 1), (eVar 2), (eVar 3)])])]))))
noncomputable def m__law_branch : List D → M D := fnM 6 3
  ((sSeq (sAsg 3 (eLst []))
    (sSeq (sFor (eRng1 (eVar 0)) (mName 4) (sSeq (sAsg 5 (eVar 4))
    (sSeq (sWhile (bAnd (asB (eBin aIsNot (eVar 5) (eC .non))) (asB (eBin aNe (eVar 5) (eVar 2)))) (sAsg 5 (eBin oIx (eVar 1) (eVar 5))))
    (sAsg 3 (eBin aAddL (eVar 3) (eIf (asB (eBin aEq (eVar 5) (eVar 2))) (eLst [(eVar 4)]) (eLst [])))))))
    (sRet (eCall fTuple [(eVar 3)])))))
noncomputable def m_before_of : List D → M D := fnM 7 3
  ((sSeq (sAsg 3 (eDic1 (eVar 2) (eC .non)))
    (sSeq (sAsg 4 (eLst [(eVar 2)]))
    (sSeq (sAsg 5 (eC (.int 0)))
    (sSeq (sWhile (asB (eBin aLt (eVar 5) (eCall fLen [(eVar 4)]))) (sSeq (sFor (eItems (eCall m_beside [(eVar 1), (eBin oIx (eVar 4) (eVar 5))])) (mName 6) (sIf (asB (eBin oNotIn (eVar 6) (eVar 3))) (sSeq (sPut 3 (eVar 6) (eBin oIx (eVar 4) (eVar 5)))
    (sMut 4 [(eVar 6)] kApp)) sNil))
    (sAug 5 aAddI (eC (.int 1)))))
    (sRet (eTup [(eVar 3), (eVar 4)])))))))
noncomputable def m_branch_of : List D → M D := fnM 8 4
  ((sSeq (sUnp (eCall m_before_of [(eVar 0), (eVar 1), (eVar 2)]) (mTup [(mName 4), (mName 5)]))
    (sSeq (sAsg 6 (eLst [(eVar 3)]))
    (sSeq (sFor (eItems (eVar 5)) (mName 7) (sIf (asB (eBin oIn (eBin oIx (eVar 4) (eVar 7)) (eVar 6))) (sMut 6 [(eVar 7)] kApp) sNil))
    (sRet (eCall fTuple [(eCall fSort [(eVar 6)])]))))))
noncomputable def m_count_of : List D → M D := fnM 2 1
  ((sSeq (sAsg 1 (eC (.int 0)))
    (sSeq (sWhile (asB (eBin aGt (eVar 0) (eC (.int 0)))) (sSeq (sAsg 0 (eBin aAnd (eVar 0) (eBin aSub (eVar 0) (eC (.int 1)))))
    (sAug 1 aAddI (eC (.int 1)))))
    (sRet (eVar 1)))))
noncomputable def m__law_strongly : List D → M D := fnM 7 5
  ((sSeq (sPar2 5 6 (eCall m__law_steps [(eVar 0), (eVar 1), (eVar 2)]) (eCall m__law_steps [(eVar 0), (eVar 1), (eVar 3)]))
    (sRet (eBin aEq (eCall fAbs [(eBin aSub (eBin oIx (eVar 5) (eVar 3)) (eBin oIx (eVar 5) (eVar 4)))]) (eBin oIx (eVar 6) (eVar 4))))))
noncomputable def m_parted_by : List D → M D := fnM 7 4
  ((sSeq (sUnp (eTup [(eCall m_steps_from [(eVar 0), (eVar 1), (eVar 2)]), (eCall m_steps_from [(eVar 0), (eVar 1), (eVar 3)])]) (mTup [(mName 4), (mName 5)]))
    (sRet (eCall fTuple [(eLc (eRng1 (eVar 0)) [6] (mName 6) (asB (eBin aNe (eBin oIx (eVar 4) (eVar 6)) (eBin oIx (eVar 5) (eVar 6)))) (eVar 6))]))))
noncomputable def m_are_bars : List D → M D := fnM 7 3
  ((sSeq (sAsg 3 (eC (.dic [])))
    (sSeq (sFor (eItems (eVar 2)) (mTup [(mName 4), (mName 5)]) (sSeq (sIf (bOr (bNot (asB (eChain aLe aLt (eC (.int 0)) (eVar 4) (eVar 0)))) (bOr (bNot (asB (eChain aLe aLt (eC (.int 0)) (eVar 5) (eVar 0)))) (asB (eBin aEq (eVar 4) (eVar 5))))) (sRet (eC (.bl false))) sNil)
    (sFor (eItems (eCall m_parted_by [(eVar 0), (eVar 1), (eVar 4), (eVar 5)])) (mName 6) (sSeq (sIf (asB (eBin oIn (eVar 6) (eVar 3))) (sRet (eC (.bl false))) sNil)
    (sPut 3 (eVar 6) (eC (.bl true)))))))
    (sRet (eC (.bl true))))))
noncomputable def m_is_on_way : List D → M D := fnM 4 4
  ((sRet (eBin aEq (eBin aAddL (eBin oIx (eBin oIx (eVar 0) (eVar 1)) (eVar 3)) (eBin oIx (eBin oIx (eVar 0) (eVar 3)) (eVar 2))) (eBin oIx (eBin oIx (eVar 0) (eVar 1)) (eVar 2)))))
noncomputable def m_parts_strongly : List D → M D := fnM 6 5
  ((sSeq (sAsg 5 (eCall m_steps_of [(eVar 0), (eVar 1)]))
    (sRet (eOr (eCall m_is_on_way [(eVar 5), (eVar 2), (eVar 3), (eVar 4)]) (eCall m_is_on_way [(eVar 5), (eVar 2), (eVar 4), (eVar 3)])))))
noncomputable def m_tells_strongly : List D → M D := fnM 7 3
  ((sSeq (sAsg 3 (eCall m_steps_of [(eVar 0), (eVar 1)]))
    (sSeq (sFor (eRng1 (eVar 0)) (mName 4) (sFor (eRng2 (eBin aAddL (eVar 4) (eC (.int 1))) (eVar 0)) (mName 5) (sIf (bNot (asB (eCall fAny [(eLc (eItems (eVar 2)) [6] (mName 6) bYes (eOr (eCall m_is_on_way [(eVar 3), (eVar 6), (eVar 4), (eVar 5)]) (eCall m_is_on_way [(eVar 3), (eVar 6), (eVar 5), (eVar 4)])))]))) (sRet (eC (.bl false))) sNil)))
    (sRet (eC (.bl true))))))
noncomputable def m_tie_steps : List D → M D := fnM 6 3
  ((sSeq (sAsg 3 (eCall m_steps_from [(eVar 0), (eVar 1), (eVar 2)]))
    (sRet (eLc (eItems (eVar 1)) [4, 5] (mTup [(mName 4), (mName 5)]) bYes (eCall fMin2 [(eBin oIx (eVar 3) (eVar 4)), (eBin oIx (eVar 3) (eVar 5))])))))
noncomputable def m_board : List D → M D := fnM 6 2
  ((sSeq (sAsg 2 (eLst []))
    (sSeq (sFor (eRng1 (eVar 1)) (mName 3) (sFor (eRng1 (eVar 0)) (mName 4) (sSeq (sAsg 5 (eBin aAddL (eBin aMulL (eVar 3) (eVar 0)) (eVar 4)))
    (sSeq (sIf (asB (eBin aLt (eBin aAddL (eVar 4) (eC (.int 1))) (eVar 0))) (sMut 2 [(eTup [(eVar 5), (eBin aAddL (eVar 5) (eC (.int 1)))])] kApp) sNil)
    (sIf (asB (eBin aLt (eBin aAddL (eVar 3) (eC (.int 1))) (eVar 1))) (sMut 2 [(eTup [(eVar 5), (eBin aAddL (eVar 5) (eVar 0))])] kApp) sNil)))))
    (sRet (eCall fTuple [(eCall fSort [(eVar 2)])])))))
noncomputable def m_sets_of : List D → M D := fnM 6 2
  ((sSeq (sAsg 2 (eLst [(eTup [])]))
    (sSeq (sFor (eRng1 (eVar 1)) (mName 3) (sAsg 2 (eLc2 (eItems (eVar 2)) [4, 5] [5] (mName 4) bYes (eRng2 (eIf (asB (eBin aGt (eCall fLen [(eVar 4)]) (eC (.int 0)))) (eBin aAddL (eBin oIx (eVar 4) (eUn oNeg (eC (.int 1)))) (eC (.int 1))) (eC (.int 0))) (eVar 0)) (mName 5) bYes (eBin aAddL (eVar 4) (eTup [(eVar 5)])))))
    (sRet (eVar 2)))))
noncomputable def m__law_legs : List D → M D := fnM 8 2
  ((sSeq (sAsg 2 (eC (.dic [])))
    (sSeq (sFor (eRng1 (eVar 0)) (mName 3) (sIf (asB (eBin aEq (eCall fLen [(eCall m__law_beside [(eVar 1), (eVar 3)])]) (eC (.int 1)))) (sSeq (sUnp (eTup [(eC .non), (eVar 3)]) (mTup [(mName 4), (mName 5)]))
    (sSeq (sWhile (asB (eBin aLt (eCall fLen [(eCall m__law_beside [(eVar 1), (eVar 5)])]) (eC (.int 3)))) (sSeq (sAsg 6 (eBin oIx (eLc (eItems (eCall m__law_beside [(eVar 1), (eVar 5)])) [7] (mName 7) (asB (eBin aNe (eVar 7) (eVar 4))) (eVar 7)) (eC (.int 0))))
    (sUnp (eTup [(eVar 5), (eVar 6)]) (mTup [(mName 4), (mName 5)]))))
    (sPut 2 (eVar 5) (eBin aAddL (eIf (asB (eBin oIn (eVar 5) (eVar 2))) (eBin oIx (eVar 2) (eVar 5)) (eLst [])) (eLst [(eVar 3)]))))) sNil))
    (sRet (eVar 2)))))
noncomputable def m__law_all_strong : List D → M D := fnM 6 3
  ((sSeq (sFor (eRng1 (eVar 0)) (mName 3) (sFor (eRng2 (eBin aAddL (eVar 3) (eC (.int 1))) (eVar 0)) (mName 4) (sIf (asB (eBin aEq (eLc (eItems (eVar 2)) [5] (mName 5) (asB (eBin aEq (eCall fAbs [(eBin aSub (eBin oIx (eBin oIx (eVar 1) (eVar 5)) (eVar 3)) (eBin oIx (eBin oIx (eVar 1) (eVar 5)) (eVar 4)))]) (eBin oIx (eBin oIx (eVar 1) (eVar 3)) (eVar 4)))) (eVar 5)) (eLst []))) (sRet (eC (.bl false))) sNil)))
    (sRet (eC (.bl true)))))
noncomputable def m_far_pairs : List D → M D := fnM 8 2
  ((sSeq (sAsg 2 (eCall m_steps_of [(eVar 0), (eVar 1)]))
    (sSeq (sAsg 3 (eLst []))
    (sSeq (sFor (eRng1 (eVar 0)) (mName 4) (sFor (eRng2 (eBin aAddL (eVar 4) (eC (.int 1))) (eVar 0)) (mName 5) (sSeq (sAsg 6 (eCall fAll [(eLc (eItems (eCall m_beside [(eVar 1), (eVar 4)])) [7] (mName 7) bYes (eBin aLe (eBin oIx (eBin oIx (eVar 2) (eVar 7)) (eVar 5)) (eBin oIx (eBin oIx (eVar 2) (eVar 4)) (eVar 5))))]))
    (sIf (bAnd (asT (eVar 6)) (asB (eCall fAll [(eLc (eItems (eCall m_beside [(eVar 1), (eVar 5)])) [7] (mName 7) bYes (eBin aLe (eBin oIx (eBin oIx (eVar 2) (eVar 7)) (eVar 4)) (eBin oIx (eBin oIx (eVar 2) (eVar 4)) (eVar 5))))]))) (sMut 3 [(eTup [(eVar 4), (eVar 5)])] kApp) sNil))))
    (sRet (eVar 3))))))
noncomputable def m_strong_dimension : List D → M D := fnM 7 2
  ((sSeq (sAsg 2 (eDic1 (eC (.int 0)) (eC (.bl true))))
    (sSeq (sFor (eItems (eCall m_far_pairs [(eVar 0), (eVar 1)])) (mTup [(mName 3), (mName 4)]) (sSeq (sAsg 5 (eC (.dic [])))
    (sSeq (sFor (eDic dKeys 2) (mName 6) (sIf (bOr (asB (eBin aEq (eBin aAnd (eBin aShr (eVar 6) (eVar 3)) (eC (.int 1))) (eC (.int 1)))) (asB (eBin aEq (eBin aAnd (eBin aShr (eVar 6) (eVar 4)) (eC (.int 1))) (eC (.int 1))))) (sPut 5 (eVar 6) (eC (.bl true))) (sSeq (sPut 5 (eBin aOr (eVar 6) (eBin aShl (eC (.int 1)) (eVar 3))) (eC (.bl true)))
    (sPut 5 (eBin aOr (eVar 6) (eBin aShl (eC (.int 1)) (eVar 4))) (eC (.bl true))))))
    (sMove 2 5))))
    (sRet (eCall fMin [(eLc (eDic dKeys 2) [6] (mName 6) bYes (eCall m_count_of [(eVar 6)]))])))))
noncomputable def m_median : List D → M D := fnM 4 2
  ((sSeq (sAsg 2 (eLc (eRng1 (eVar 0)) [3] (mName 3) bYes (eCall fSum [(eCall m_steps_from [(eVar 0), (eVar 1), (eVar 3)])])))
    (sRet (eCall fTuple [(eLc (eRng1 (eVar 0)) [3] (mName 3) (asB (eBin aEq (eBin oIx (eVar 2) (eVar 3)) (eCall fMin [(eVar 2)]))) (eVar 3))]))))
noncomputable def m_sum_of_steps : List D → M D := fnM 3 2
  ((sRet (eBin aDiv (eCall fSum [(eLc (eRng1 (eVar 0)) [2] (mName 2) bYes (eCall fSum [(eCall m_steps_from [(eVar 0), (eVar 1), (eVar 2)])]))]) (eC (.int 2)))))
noncomputable def m__law_answers : List D → M D := fnM 8 4
  ((sSeq (sAsg 4 (eC (.dic [])))
    (sSeq (sFor (eItems (eVar 2)) (mName 5) (sSeq (sAsg 6 (eCall fTuple [(eLc (eItems (eVar 3)) [7] (mName 7) bYes (eBin oIx (eCall m__law_steps [(eVar 0), (eVar 1), (eVar 7)]) (eVar 5)))]))
    (sPut 4 (eVar 6) (eBin aAddL (eIf (asB (eBin oIn (eVar 6) (eVar 4))) (eBin oIx (eVar 4) (eVar 6)) (eTup [])) (eTup [(eVar 5)])))))
    (sRet (eCall fSort [(eLc (eDic dKeys 4) [6] (mName 6) bYes (eBin oIx (eVar 4) (eVar 6)))])))))
noncomputable def m__law_gone : List D → M D := fnM 5 3
  ((sSeq (sAsg 3 (eCall fList [(eVar 2)]))
    (sSeq (sFor (eItems (eVar 2)) (mName 4) (sAsg 3 (eBin aAddL (eVar 3) (eCall m__law_beside [(eVar 1), (eVar 4)]))))
    (sRet (eCall fTuple [(eCall fSortSet [(eVar 3)])])))))
noncomputable def m__law_is_lair : List D → M D := fnM 11 4
  ((sSeq (sIf (bOr (asB (eBin aEq (eVar 3) (eTup []))) (asB (eBin aNe (eCall fList [(eVar 3)]) (eCall fSortSet [(eVar 3)])))) (sRet (eC (.bl false))) sNil)
    (sSeq (sFor (eItems (eVar 3)) (mName 4) (sIf (bOr (asB (eBin aEq (eVar 4) (eTup []))) (bOr (asB (eBin aNe (eCall fList [(eVar 4)]) (eCall fSortSet [(eVar 4)]))) (asB (eBin aNe (eLc (eItems (eVar 4)) [9] (mName 9) (bNot (asB (eChain aLe aLt (eC (.int 0)) (eVar 9) (eVar 0)))) (eVar 9)) (eLst []))))) (sRet (eC (.bl false))) sNil))
    (sSeq (sFor (eItems (eVar 3)) (mName 4) (sFor (eItems (eCall m__law_sets [(eVar 0), (eVar 2)])) (mName 5) (sSeq (sAsg 6 (eLc (eItems (eCall m__law_answers [(eVar 0), (eVar 1), (eVar 4), (eVar 5)])) [8] (mName 8) (asB (eBin aGt (eCall fLen [(eVar 8)]) (eC (.int 1)))) (eCall m__law_gone [(eVar 0), (eVar 1), (eVar 8)])))
    (sSeq (sAsg 7 (eC (.bl false)))
    (sSeq (sFor (eItems (eVar 6)) (mName 8) (sAsg 7 (eOr (eVar 7) (eBin aNe (eLc (eItems (eVar 3)) [10] (mName 10) (asB (eBin aEq (eLc (eItems (eVar 10)) [9] (mName 9) (asB (eBin oNotIn (eVar 9) (eVar 8))) (eVar 9)) (eLst []))) (eVar 10)) (eLst [])))))
    (sIf (bNot (asT (eVar 7))) (sRet (eC (.bl false))) sNil))))))
    (sRet (eC (.bl true)))))))
noncomputable def m_ward : List D → M D := fnM 2 2
  ((sRet (eCall fSort [(eBin aAddL (eCall m_beside [(eVar 0), (eVar 1)]) (eLst [(eVar 1)]))])))
noncomputable def m_gone_from : List D → M D := fnM 5 3
  ((sRet (eCall fTuple [(eCall fSortSet [(eLc2 (eItems (eVar 2)) [3, 4] [4] (mName 3) bYes (eItems (eCall m_ward [(eVar 1), (eVar 3)])) (mName 4) bYes (eVar 4))])])))
noncomputable def m_is_within : List D → M D := fnM 3 2
  ((sRet (eCall fAll [(eLc (eItems (eVar 0)) [2] (mName 2) bYes (eBin oIn (eVar 2) (eVar 1)))])))
noncomputable def m__law_orders : List D → M D := fnM 6 1
  ((sSeq (sAsg 1 (eLst [(eTup [])]))
    (sSeq (sFor (eRng1 (eVar 0)) (mName 2) (sSeq (sAsg 3 (eLst []))
    (sSeq (sFor (eItems (eVar 1)) (mName 4) (sAsg 3 (eBin aAddL (eVar 3) (eLc (eRng1 (eBin aAddL (eCall fLen [(eVar 4)]) (eC (.int 1)))) [5] (mName 5) bYes (eBin aAddL (eBin aAddL (eSl slA (eVar 4) pNo (pAt (eVar 5))) (eTup [(eVar 2)])) (eSl slA (eVar 4) (pAt (eVar 5)) pNo))))))
    (sAsg 1 (eVar 3)))))
    (sRet (eVar 1)))))
noncomputable def m__law_goes : List D → M D := fnM 6 4
  ((sSeq (sFor (eItems (eCall m__law_orders [(eCall fLen [(eVar 2)])])) (mName 4) (sIf (asB (eBin aEq (eLc (eRng1 (eCall fLen [(eVar 2)])) [5] (mName 5) (bAnd (asB (eBin aNe (eBin oIx (eVar 2) (eBin oIx (eVar 4) (eVar 5))) (eBin oIx (eVar 3) (eVar 5)))) (asB (eBin oNotIn (eBin oIx (eVar 3) (eVar 5)) (eCall m__law_beside [(eVar 1), (eBin oIx (eVar 2) (eBin oIx (eVar 4) (eVar 5)))])))) (eVar 5)) (eLst []))) (sRet (eC (.bl true))) sNil))
    (sRet (eC (.bl false)))))
noncomputable def m__law_left : List D → M D := fnM 7 4
  ((sSeq (sAsg 4 (eLst []))
    (sSeq (sFor (eItems (eVar 2)) (mName 5) (sIf (asB (eBin oNotIn (eVar 5) (eVar 3))) (sAsg 4 (eBin aAddL (eVar 4) (eLc (eItems (eBin aAddL (eCall m__law_beside [(eVar 1), (eVar 5)]) (eLst [(eVar 5)]))) [6] (mName 6) (asB (eBin oNotIn (eVar 6) (eVar 3))) (eVar 6)))) sNil))
    (sRet (eCall fTuple [(eCall fSortSet [(eVar 4)])])))))
noncomputable def m__law_is_chase : List D → M D := fnM 8 4
  ((sSeq (sIf (asB (eBin aEq (eVar 3) (eTup []))) (sRet (eC (.bl false))) sNil)
    (sSeq (sFor (eItems (eVar 3)) (mName 4) (sIf (bOr (asB (eBin aNe (eCall fLen [(eVar 4)]) (eVar 2))) (bOr (asB (eBin aNe (eCall fList [(eVar 4)]) (eCall fSort [(eVar 4)]))) (asB (eBin aNe (eLc (eItems (eVar 4)) [7] (mName 7) (bNot (asB (eChain aLe aLt (eC (.int 0)) (eVar 7) (eVar 0)))) (eVar 7)) (eLst []))))) (sRet (eC (.bl false))) sNil))
    (sSeq (sAsg 5 (eCall fTuple [(eLc (eRng1 (eVar 0)) [7] (mName 7) (asB (eBin oNotIn (eVar 7) (eBin oIx (eVar 3) (eC (.int 0))))) (eVar 7))]))
    (sSeq (sFor (eRng2 (eC (.int 1)) (eCall fLen [(eVar 3)])) (mName 6) (sSeq (sIf (bNot (asB (eCall m__law_goes [(eVar 0), (eVar 1), (eBin oIx (eVar 3) (eBin aSub (eVar 6) (eC (.int 1)))), (eBin oIx (eVar 3) (eVar 6))]))) (sRet (eC (.bl false))) sNil)
    (sAsg 5 (eCall m__law_left [(eVar 0), (eVar 1), (eVar 5), (eBin oIx (eVar 3) (eVar 6))]))))
    (sRet (eBin aEq (eVar 5) (eTup []))))))))
noncomputable def m_rows_from : List D → M D := fnM 7 2
  ((sSeq (sAsg 2 (eDic1 (eTup []) (eC (.bl true))))
    (sSeq (sFor (eItems (eVar 1)) (mName 3) (sSeq (sAsg 4 (eC (.dic [])))
    (sSeq (sFor (eDic dKeys 2) (mName 5) (sFor (eItems (eCall m_ward [(eVar 0), (eVar 3)])) (mName 6) (sPut 4 (eCall fTuple [(eCall fSort [(eBin aAddL (eVar 5) (eTup [(eVar 6)]))])]) (eC (.bl true)))))
    (sMove 2 4))))
    (sRet (eCall fSort [(eVar 2)])))))
noncomputable def m_can_go : List D → M D := fnM 4 4
  ((sRet (eBin oIn (eCall fTuple [(eCall fSort [(eVar 3)])]) (eCall m_rows_from [(eVar 1), (eVar 2)]))))
noncomputable def m_possible_after : List D → M D := fnM 7 4
  ((sSeq (sAsg 4 (eC (.dic [])))
    (sSeq (sFor (eItems (eVar 2)) (mName 5) (sIf (asB (eBin oNotIn (eVar 5) (eVar 3))) (sFor (eItems (eCall m_ward [(eVar 1), (eVar 5)])) (mName 6) (sIf (asB (eBin oNotIn (eVar 6) (eVar 3))) (sPut 4 (eVar 6) (eC (.bl true))) sNil)) sNil))
    (sRet (eCall fTuple [(eCall fSort [(eVar 4)])])))))
noncomputable def m_shortest_chase : List D → M D := fnM 15 3
  ((sSeq (sAsg 3 (eLst [(eTup [])]))
    (sSeq (sFor (eRng1 (eVar 2)) (mName 4) (sAsg 3 (eLc2 (eItems (eVar 3)) [7, 13] [13] (mName 7) bYes (eRng2 (eIf (asB (eBin aGt (eCall fLen [(eVar 7)]) (eC (.int 0)))) (eBin oIx (eVar 7) (eUn oNeg (eC (.int 1)))) (eC (.int 0))) (eVar 0)) (mName 13) bYes (eBin aAddL (eVar 7) (eTup [(eVar 13)])))))
    (sSeq (sAsg 5 (eC (.dic [])))
    (sSeq (sAsg 6 (eLst []))
    (sSeq (sFor (eItems (eVar 3)) (mName 7) (sSeq (sAsg 8 (eTup [(eVar 7), (eCall fTuple [(eLc (eRng1 (eVar 0)) [14] (mName 14) (asB (eBin oNotIn (eVar 14) (eVar 7))) (eVar 14))])]))
    (sSeq (sPut 5 (eVar 8) (eC .non))
    (sMut 6 [(eVar 8)] kApp))))
    (sSeq (sAsg 9 (eC (.int 0)))
    (sSeq (sWhile (asB (eBin aLt (eVar 9) (eCall fLen [(eVar 6)]))) (sSeq (sUnp (eBin oIx (eVar 6) (eVar 9)) (mTup [(mName 7), (mName 10)]))
    (sSeq (sIf (asB (eBin aEq (eCall fLen [(eVar 10)]) (eC (.int 0)))) (sSeq (sAsg 11 (eLst [(eVar 7)]))
    (sSeq (sAsg 8 (eBin oIx (eVar 5) (eBin oIx (eVar 6) (eVar 9))))
    (sSeq (sWhile (asB (eBin aIsNot (eVar 8) (eC .non))) (sSeq (sAsg 11 (eBin aAddL (eLst [(eBin oIx (eVar 8) (eC (.int 0)))]) (eVar 11)))
    (sAsg 8 (eBin oIx (eVar 5) (eVar 8)))))
    (sRet (eCall fTuple [(eVar 11)]))))) sNil)
    (sSeq (sFor (eItems (eCall m_rows_from [(eVar 1), (eVar 7)])) (mName 12) (sSeq (sAsg 8 (eTup [(eVar 12), (eCall m_possible_after [(eVar 0), (eVar 1), (eVar 10), (eVar 12)])]))
    (sIf (asB (eBin oNotIn (eVar 8) (eVar 5))) (sSeq (sPut 5 (eVar 8) (eTup [(eVar 7), (eVar 10)]))
    (sMut 6 [(eVar 8)] kApp)) sNil)))
    (sAug 9 aAddI (eC (.int 1)))))))
    (sRet (eC .non))))))))))
noncomputable def m_blind_number : List D → M D := fnM 3 2
  ((sSeq (sAsg 2 (eC (.int 1)))
    (sSeq (sWhile (asB (eBin aIs (eCall m_shortest_chase [(eVar 0), (eVar 1), (eVar 2)]) (eC .non))) (sAug 2 aAddI (eC (.int 1))))
    (sRet (eVar 2)))))
noncomputable def m__law_frac : List D → M D := fnM 4 2
  ((sSeq (sPar2 2 3 (eVar 0) (eVar 1))
    (sSeq (sWhile (asB (eBin aGt (eVar 3) (eC (.int 0)))) (sPar2 2 3 (eVar 3) (eBin aMod (eCall fInt [(eVar 2)]) (eVar 3))))
    (sRet (eTup [(eBin aDiv (eVar 0) (eVar 2)), (eBin aDiv (eVar 1) (eVar 2))])))))
noncomputable def m_lots_of : List D → M D := fnM 9 2
  ((sSeq (sAsg 2 (eLst []))
    (sSeq (sAsg 3 (eC (.dic [])))
    (sSeq (sFor (eItems (eVar 1)) (mName 4) (sIf (asB (eBin oNotIn (eVar 4) (eVar 3))) (sSeq (sAsg 5 (eLst [(eVar 4)]))
    (sSeq (sAsg 6 (eC (.int 0)))
    (sSeq (sWhile (asB (eBin aLt (eVar 6) (eCall fLen [(eVar 5)]))) (sSeq (sAsg 5 (eBin aAddL (eVar 5) (eLc (eItems (eCall m_beside [(eVar 0), (eBin oIx (eVar 5) (eVar 6))])) [8] (mName 8) (bAnd (asB (eBin oIn (eVar 8) (eVar 1))) (asB (eBin oNotIn (eVar 8) (eVar 5)))) (eVar 8))))
    (sAsg 6 (eBin aAddL (eVar 6) (eC (.int 1))))))
    (sSeq (sFor (eItems (eVar 5)) (mName 7) (sPut 3 (eVar 7) (eC (.bl true))))
    (sMut 2 [(eCall fTuple [(eCall fSort [(eVar 5)])])] kApp))))) sNil))
    (sRet (eVar 2))))))
noncomputable def m_hangs_together : List D → M D := fnM 2 2
  ((sRet (eBin aEq (eCall fLen [(eCall m_lots_of [(eVar 1), (eTupR (eRng1 (eVar 0)))])]) (eC (.int 1)))))
noncomputable def m_is_tree : List D → M D := fnM 2 2
  ((sRet (eAnd (eBin aEq (eCall fLen [(eVar 1)]) (eBin aSub (eVar 0) (eC (.int 1)))) (eCall m_hangs_together [(eVar 0), (eVar 1)]))))
noncomputable def m__law_with_twin : List D → M D := fnM 6 4
  ((sSeq (sAsg 4 (eBin aAddL (eBin aAddL (eCall fList [(eVar 1)]) (eLc (eItems (eCall m__law_beside [(eVar 1), (eVar 2)])) [5] (mName 5) bYes (eTup [(eVar 5), (eVar 0)]))) (eIf (asT (eVar 3)) (eLst [(eTup [(eVar 2), (eVar 0)])]) (eLst []))))
    (sRet (eTup [(eBin aAddL (eVar 0) (eC (.int 1))), (eCall fTuple [(eCall fSort [(eVar 4)])])]))))
end Pw
set_option Elab.async false
set_option linter.all false
set_option maxRecDepth 100000
namespace Pw
open PySem
noncomputable def b_law : DEnv → M Fl :=
  (sSeq (sFor (eRng1 (eC (.int 4))) (mName 2) (sSeq (sUnp (eCall m__law_named [(eVar 1), (eC (.int 8))]) (mTup [(mName 3), (mName 4)]))
    (sSeq (sPar2 5 6 (eCall m__law_draw [(eVar 1), (eVar 3)]) (eBin aAddL (eC (.int 1)) (eCall m__law_draw [(eVar 1), (eC (.int 2))])))
    (sSeq (sAsg 7 (eCall m_best_plan [(eVar 3), (eVar 4), (eVar 5), (eVar 6)]))
    (sSeq (sUnp (eCall m__law_fire [(eVar 3), (eVar 4), (eVar 5), (eVar 7)]) (mTup [(mName 8), (mName 9), (mName 10)]))
    (sSeq (sIf (bOr (bNot (asT (eVar 8))) (bOr (asB (eBin aGt (eVar 10) (eVar 6))) (bOr (bNot (asB (eCall m__law_eq [(eCall m_is_plan [(eVar 3), (eVar 4), (eVar 5), (eVar 6), (eVar 7)]), (eC (.bl true))]))) (bNot (asB (eCall m__law_eq [(eCall m_burnt_by [(eVar 3), (eVar 4), (eVar 5), (eVar 7)]), (eVar 9)])))))) (sRet (eC (.bl false))) sNil)
    (sSeq (sAsg 11 (eCall fTuple [(eLc (eRng1 (eCall m__law_draw [(eVar 1), (eC (.int 4))])) [12] (mName 12) bYes (eCall fTuple [(eCall fSort [(eSl slA (eCall m__law_mixed [(eVar 1), (eListR (eRng1 (eVar 3)))]) pNo (pAt (eCall m__law_draw [(eVar 1), (eC (.int 3))])))])]))]))
    (sSeq (sAsg 12 (eIf (asB (eBin aNe (eVar 7) (eTup []))) (eCall m__law_draw [(eVar 1), (eCall fLen [(eVar 7)])]) (eC (.int 0))))
    (sSeq (sAsg 13 (eLc (eItems (eLst [(eTup [(eVar 5)]), (eTup [(eVar 3)]), (eTup []), (eTup [(eC (.int 0)), (eC (.int 0))]), (eTupR (eRng1 (eBin aAddL (eVar 6) (eC (.int 1)))))])) [15] (mName 15) bYes (eBin aAddL (eBin aAddL (eSl slA (eVar 7) pNo (pAt (eVar 12))) (eTup [(eVar 15)])) (eSl slA (eVar 7) (pAt (eBin aAddL (eVar 12) (eC (.int 1)))) pNo))))
    (sFor (eItems (eBin aAddL (eVar 13) (eLst [(eRev (eVar 7)), (eBin aAddL (eVar 7) (eSl slA (eVar 7) (pAt (eUn oNeg (eC (.int 1)))) pNo)), (eVar 11), (eBin aAddL (eTup [(eTup [])]) (eVar 7))]))) (mName 14) (sSeq (sUnp (eCall m__law_fire [(eVar 3), (eVar 4), (eVar 5), (eVar 14)]) (mTup [(mName 8), (mName 9), (mName 10)]))
    (sSeq (sIf (bNot (asB (eCall m__law_eq [(eCall m_is_plan [(eVar 3), (eVar 4), (eVar 5), (eVar 6), (eVar 14)]), (eAnd (eVar 8) (eBin aLe (eVar 10) (eVar 6)))]))) (sRet (eC (.bl false))) sNil)
    (sIf (bAnd (asT (eVar 8)) (bNot (asB (eCall m__law_eq [(eCall m_burnt_by [(eVar 3), (eVar 4), (eVar 5), (eVar 14)]), (eVar 9)])))) (sRet (eC (.bl false))) sNil)))))))))))))
    (sRet (eC (.bl true))))
end Pw
set_option Elab.async false
set_option linter.all false
/-! The plain part, 1: what a mirror answers, by rules. -/
namespace Pw
open PySem
/-- it answers, and the answer is so -/
def W {α : Type} (m : Option (α × Om)) (Q : α → Om → Prop) : Prop := ∃ a ω, m = some (a, ω) ∧ Q a ω
section
variable {α β : Type} {Q : β → Om → Prop}
@[simp] theorem W_some {a : β} {ω : Om} : W (some (a, ω)) Q ↔ Q a ω := ⟨fun ⟨_, _, h, q⟩ => (by cases h; exact q), fun h => ⟨a, ω, rfl, h⟩⟩
@[simp] theorem W_pure {a : β} {ω : Om} : W ((pure a : M β) ω) Q ↔ Q a ω := W_some
@[simp] theorem W_none : W (none : Option (β × Om)) Q ↔ False := ⟨fun ⟨_, _, h, _⟩ => (by cases h), False.elim⟩
@[simp] theorem W_fail {ω : Om} : W ((M.fail : M β) ω) Q ↔ False := W_none
@[simp] theorem W_bind {m : M α} {f : α → M β} {ω : Om} : W ((m >>= f) ω) Q ↔ W (m ω) fun a ω' => W (f a ω') Q := by
  constructor
  · rintro ⟨b, ω', h, q⟩
    obtain ⟨a, ω1, h1, h2⟩ := M.bind_some h
    exact ⟨a, ω1, h1, b, ω', h2, q⟩
  · rintro ⟨a, ω1, h1, b, ω', h2, q⟩
    exact ⟨b, ω', by rw [M.bind_run, h1]; exact h2, q⟩
@[simp] theorem W_ite {c : Prop} [Decidable c] {m m' : M β} {ω : Om} : W ((if c then m else m') ω) Q ↔ if c then W (m ω) Q else W (m' ω) Q := by split <;> rfl
theorem W_ite_of {c : Prop} [Decidable c] {A B : Prop} (h1 : c → A) (h2 : ¬c → B) : if c then A else B := by split <;> simp_all
theorem W.mono {m : Option (β × Om)} {Q' : β → Om → Prop} (h : W m Q) (k : ∀ a ω, Q a ω → Q' a ω) : W m Q' := by
  obtain ⟨a, ω, e, q⟩ := h
  exact ⟨a, ω, e, k a ω q⟩
theorem W.of_eq {m : Option (β × Om)} {a : β} {ω : Om} (h : m = some (a, ω)) (q : Q a ω) : W m Q := ⟨a, ω, h, q⟩
theorem W.eq {m : Option (β × Om)} {a : β} {ω : Om} (h : W m fun x w => x = a ∧ w = ω) : m = some (a, ω) := by
  obtain ⟨x, w, e, rfl, rfl⟩ := h
  exact e
end
section
variable {Q : D → Om → Prop} {R : Fl → Om → Prop} {env : DEnv} {ω : Om}
theorem getE_at {i : Nat} {d : D} (h : env[i]? = some (some d)) : getE env i = pure d := by unfold getE; rw [h]
@[simp] theorem W_var {i : Nat} : W (eVar i env ω) Q ↔ ∃ d, env[i]? = some (some d) ∧ Q d ω := by
  unfold eVar getE
  constructor
  · rintro ⟨a, w, h, q⟩
    obtain ⟨h1, rfl⟩ := getE_some (show getE env i ω = some (a, w) from h)
    exact ⟨a, h1, q⟩
  · rintro ⟨d, h, q⟩
    rw [h]
    exact W_pure.mpr q
@[simp] theorem W_getE {i : Nat} : W (getE env i ω) Q ↔ ∃ d, env[i]? = some (some d) ∧ Q d ω := W_var
@[simp] theorem W_eC {d : D} : W (eC d env ω) Q ↔ Q d ω := W_pure
@[simp] theorem W_bin {op : D → D → M D} {a b : DEnv → M D} : W (eBin op a b env ω) Q ↔ W (a env ω) fun x w => W (b env w) fun y w' => W (op x y w') Q := by
  unfold eBin; simp only [W_bind]
@[simp] theorem W_evs0 {Q : List D → Om → Prop} : W (evs [] env ω) Q ↔ Q [] ω := W_pure
@[simp] theorem W_evs1 {m : DEnv → M D} {ms : List (DEnv → M D)} {Q : List D → Om → Prop} : W (evs (m :: ms) env ω) Q ↔ W (m env ω) fun d w => W (evs ms env w) fun ds w' => Q (d :: ds) w' := by
  show W ((m env >>= fun d => evs ms env >>= fun ds => pure (d :: ds)) ω) Q ↔ _
  simp only [W_bind, W_pure]
@[simp] theorem W_tup {ms : List (DEnv → M D)} : W (eTup ms env ω) Q ↔ W (evs ms env ω) fun ds w => Q (.tup ds) w := by unfold eTup; simp only [W_bind, W_pure]
@[simp] theorem W_lst {ms : List (DEnv → M D)} : W (eLst ms env ω) Q ↔ W (evs ms env ω) fun ds w => Q (.lst ds) w := by unfold eLst; simp only [W_bind, W_pure]
@[simp] theorem W_call {f : List D → M D} {ms : List (DEnv → M D)} : W (eCall f ms env ω) Q ↔ W (evs ms env ω) fun ds w => W (f ds w) Q := by unfold eCall; simp only [W_bind]
@[simp] theorem W_sAsg {i : Nat} {m : DEnv → M D} : W (sAsg i m env ω) R ↔ W (m env ω) fun d w => R (.nx (env.set i (some d))) w := by unfold sAsg; simp only [W_bind, W_pure]
@[simp] theorem W_sRet {m : DEnv → M D} : W (sRet m env ω) R ↔ W (m env ω) fun d w => R (.rt d) w := by unfold sRet; simp only [W_bind, W_pure]
@[simp] theorem W_sNil : W (sNil env ω) R ↔ R (.nx env) ω := W_pure
/-- behind a statement -/
def after (b : DEnv → M Fl) (R : Fl → Om → Prop) : Fl → Om → Prop
  | .nx e, w => W (b e w) R
  | r, w => R r w
@[simp] theorem after_nx {b : DEnv → M Fl} {e : DEnv} {w : Om} : after b R (.nx e) w ↔ W (b e w) R := Iff.rfl
@[simp] theorem after_rt {b : DEnv → M Fl} {d : D} {w : Om} : after b R (.rt d) w ↔ R (.rt d) w := Iff.rfl
@[simp] theorem after_bk {b : DEnv → M Fl} {d : DEnv} {w : Om} : after b R (.bk d) w ↔ R (.bk d) w := Iff.rfl
@[simp] theorem W_sSeq {a b : DEnv → M Fl} : W (sSeq a b env ω) R ↔ W (a env ω) (after b R) := by
  unfold sSeq
  simp only [W_bind]
  constructor <;> rintro ⟨r, w, h, q⟩ <;> refine ⟨r, w, h, ?_⟩ <;> cases r <;> first | exact q | simpa [after] using q
@[simp] theorem W_sIf {t : DEnv → M Bool} {a b : DEnv → M Fl} : W (sIf t a b env ω) R ↔ W (t env ω) fun c w => if c = true then W (a env w) R else W (b env w) R := by
  unfold sIf; simp only [W_bind, W_ite]
theorem sIf_t {t : DEnv → M Bool} {a b : DEnv → M Fl} {w : Om} (h : t env ω = some (true, w)) (q : W (a env w) R) : W (sIf t a b env ω) R := W_sIf.mpr ⟨true, w, h, (if_pos rfl).mpr q⟩
theorem sIf_f {t : DEnv → M Bool} {a b : DEnv → M Fl} {w : Om} (h : t env ω = some (false, w)) (q : W (b env w) R) : W (sIf t a b env ω) R := W_sIf.mpr ⟨false, w, h, (if_neg (by decide)).mpr q⟩
@[simp] theorem W_asB {m : DEnv → M D} {S : Bool → Om → Prop} : W (asB m env ω) S ↔ W (m env ω) fun d w => ∃ b, d = .bl b ∧ S b w := by
  unfold asB
  simp only [W_bind]
  constructor <;> rintro ⟨r, w, h, q⟩ <;> refine ⟨r, w, h, ?_⟩
  · cases r <;> simp_all
  · obtain ⟨b, rfl, q⟩ := q; simpa using q
@[simp] theorem W_bAnd {t u : DEnv → M Bool} {S : Bool → Om → Prop} : W (bAnd t u env ω) S ↔ W (t env ω) fun c w => if c = true then W (u env w) S else S false w := by
  unfold bAnd; simp only [W_bind, W_ite, W_pure]
@[simp] theorem W_bOr {t u : DEnv → M Bool} {S : Bool → Om → Prop} : W (bOr t u env ω) S ↔ W (t env ω) fun c w => if c = true then S true w else W (u env w) S := by
  unfold bOr; simp only [W_bind, W_ite, W_pure]
@[simp] theorem W_bNot {t : DEnv → M Bool} {S : Bool → Om → Prop} : W (bNot t env ω) S ↔ W (t env ω) fun c w => S (!c) w := by
  unfold bNot; simp only [W_bind, W_pure]
@[simp] theorem W_bYes {S : Bool → Om → Prop} : W (bYes env ω) S ↔ S true ω := W_pure
@[simp] theorem W_eIf {t : DEnv → M Bool} {a b : DEnv → M D} : W (eIf t a b env ω) Q ↔ W (t env ω) fun c w => if c = true then W (a env w) Q else W (b env w) Q := by
  unfold eIf; simp only [W_bind, W_ite]
/-- a def by its body -/
theorem W_fn {n a : Nat} {mb : DEnv → M Fl} {ds : List D} (hl : ds.length = a) (h : W (mb (startE n ds) ω) fun r w => match r with | .rt d => Q d w | .nx _ => Q .non w | .bk _ => False) : W (fnM n a mb ds ω) Q := by
  unfold fnM
  rw [if_pos hl, W_bind]
  refine h.mono fun r w q => ?_
  cases r <;> simp_all
@[simp] theorem W_mName {i : Nat} {d : D} {S : DEnv → Om → Prop} : W (mName i d env ω) S ↔ S (env.set i (some d)) ω := W_pure
@[simp] theorem W_mTup {ms : List (D → DEnv → M DEnv)} {ds : List D} {S : DEnv → Om → Prop} : W (mTup ms (.tup ds) env ω) S ↔ W (mAll ms ds env ω) S := Iff.rfl
@[simp] theorem W_mAll0 {S : DEnv → Om → Prop} : W (mAll [] [] env ω) S ↔ S env ω := W_pure
@[simp] theorem W_mAll1 {m : D → DEnv → M DEnv} {ms : List (D → DEnv → M DEnv)} {d : D} {ds : List D} {S : DEnv → Om → Prop} : W (mAll (m :: ms) (d :: ds) env ω) S ↔ W (m d env ω) fun e w => W (mAll ms ds e w) S := by
  show W ((m d env >>= fun e => mAll ms ds e) ω) S ↔ _
  simp only [W_bind]
@[simp] theorem W_sUnp {m : DEnv → M D} {t : D → DEnv → M DEnv} : W (sUnp m t env ω) R ↔ W (m env ω) fun d w => W (t d env w) fun e w' => R (.nx e) w' := by
  unfold sUnp; simp only [W_bind, W_pure]
@[simp] theorem W_sPar2 {i j : Nat} {a b : DEnv → M D} : W (sPar2 i j a b env ω) R ↔ W (a env ω) fun x w => W (b env w) fun y w' => R (.nx ((env.set i (some x)).set j (some y))) w' := by
  unfold sPar2; simp only [W_bind, W_pure]
@[simp] theorem W_sPar3 {i j k : Nat} {a b c : DEnv → M D} : W (sPar3 i j k a b c env ω) R ↔ W (a env ω) fun x w => W (b env w) fun y w' => W (c env w') fun z w'' => R (.nx (((env.set i (some x)).set j (some y)).set k (some z))) w'' := by
  unfold sPar3; simp only [W_bind, W_pure]
@[simp] theorem W_eItems {m : DEnv → M D} {S : List D → Om → Prop} : W (eItems m env ω) S ↔ W (m env ω) fun d w => W (itemsM d w) S := by unfold eItems; simp only [W_bind]
@[simp] theorem W_itemsL {ds : List D} {S : List D → Om → Prop} : W (itemsM (.lst ds) ω) S ↔ S ds ω := W_pure
@[simp] theorem W_itemsT {ds : List D} {S : List D → Om → Prop} : W (itemsM (.tup ds) ω) S ↔ S ds ω := W_pure
@[simp] theorem W_rng1 {m : DEnv → M D} {S : List D → Om → Prop} : W (eRng1 m env ω) S ↔ W (m env ω) fun d w => ∃ n : Int, d = .int n ∧ (n ≤ LIM ∧ -(2 ^ 62) ≤ n) ∧ S (rangeD 0 n) w := by
  unfold eRng1
  simp only [W_bind]
  constructor <;> rintro ⟨r, w, h, q⟩ <;> refine ⟨r, w, h, ?_⟩
  · cases r with
    | int n =>
      simp only [W_ite, W_pure, W_fail] at q
      by_cases hc : n ≤ LIM ∧ -(2 ^ 62) ≤ n
      · rw [if_pos hc] at q; exact ⟨n, rfl, hc, q⟩
      · rw [if_neg hc] at q; exact q.elim
    | _ => exact (W_fail.mp q).elim
  · obtain ⟨n, rfl, hc, q⟩ := q
    simp only [W_ite, W_pure, if_pos hc]; exact q
@[simp] theorem W_rng2 {m m' : DEnv → M D} {S : List D → Om → Prop} : W (eRng2 m m' env ω) S ↔ W (m env ω) fun d w => ∃ a : Int, d = .int a ∧ W (m' env w) fun e w' => ∃ b : Int, e = .int b ∧ ((-(2 ^ 62) ≤ a ∧ a < 2 ^ 62) ∧ (-(2 ^ 62) ≤ b ∧ b < 2 ^ 62) ∧ b - a ≤ LIM) ∧ S (rangeD a b) w' := by
  unfold eRng2
  simp only [W_bind]
  constructor <;> rintro ⟨r, w, h, q⟩ <;> refine ⟨r, w, h, ?_⟩
  · cases r with
    | int a =>
      refine ⟨a, rfl, ?_⟩
      obtain ⟨r2, w2, h2, q2⟩ := W_bind.mp q
      refine ⟨r2, w2, h2, ?_⟩
      cases r2 with
      | int b =>
        simp only [W_ite, W_pure, W_fail] at q2
        by_cases hc : (-(2 ^ 62) ≤ a ∧ a < 2 ^ 62) ∧ (-(2 ^ 62) ≤ b ∧ b < 2 ^ 62) ∧ b - a ≤ LIM
        · rw [if_pos hc] at q2; exact ⟨b, rfl, hc, q2⟩
        · rw [if_neg hc] at q2; exact q2.elim
      | _ => exact (W_fail.mp q2).elim
    | _ => exact (W_fail.mp q).elim
  · obtain ⟨a, rfl, r2, w2, h2, b, rfl, hc, q⟩ := q
    refine W_bind.mpr ⟨_, w2, h2, ?_⟩
    simp only [W_ite, W_pure, if_pos hc]; exact q
/-- a list of D by a list of something -/
theorem W_for {α : Type} {enc : α → D} {t : D → DEnv → M DEnv} {b : DEnv → M Fl} (I : List α → DEnv → Om → Prop) (xs : List α) (h0 : I [] env ω)
    (step : ∀ (pre : List α) (x : α) (post : List α) (env : DEnv) (ω : Om), pre ++ x :: post = xs → I pre env ω → W (t (enc x) env ω) fun e w => W (b e w) fun r w' => match r with | .nx e' => I (pre ++ [x]) e' w' | .bk e' => R (.nx e') w' | .rt d => R (.rt d) w')
    (fin : ∀ env ω, I xs env ω → R (.nx env) ω) : W (forD t b (xs.map enc) env ω) R := by
  have key : ∀ (post pre : List α) (env : DEnv) (ω : Om), pre ++ post = xs → I pre env ω → W (forD t b (post.map enc) env ω) R := by
    intro post
    induction post with
    | nil => intro pre env ω e h; rw [List.append_nil] at e; subst e; exact W_pure.mpr (fin _ _ h)
    | cons x post ih =>
      intro pre env ω e h
      show W ((t (enc x) env >>= fun e1 => b e1 >>= fun r => (match r with | .nx e => forD t b (post.map enc) e | .bk e => pure (.nx e) | .rt x => pure (.rt x) : M Fl)) ω) R
      rw [W_bind]
      refine (step pre x post env ω e h).mono fun e1 w q => ?_
      rw [W_bind]
      refine q.mono fun r w' q' => ?_
      cases r with
      | nx e' => exact ih (pre ++ [x]) e' w' (by rw [List.append_assoc]; exact e) q'
      | bk e' => exact W_pure.mpr q'
      | rt d => exact W_pure.mpr q'
  exact key xs [] env ω rfl h0
@[simp] theorem W_sFor {src : DEnv → M (List D)} {t : D → DEnv → M DEnv} {b : DEnv → M Fl} : W (sFor src t b env ω) R ↔ W (src env ω) fun ds w => W (forD t b ds env w) R := by unfold sFor; simp only [W_bind]
/-- while -/
theorem W_while {c : DEnv → M Bool} {b : DEnv → M Fl} (I : DEnv → Om → Prop) (μ : DEnv → Nat) (h0 : I env ω)
    (step : ∀ env ω, I env ω → W (c env ω) fun t w => if t = true then W (b env w) (fun r w' => match r with | .nx e => I e w' ∧ μ e < μ env | .bk e => R (.nx e) w' | .rt d => R (.rt d) w') else R (.nx env) w) : W (sWhile c b env ω) R := by
  have key : ∀ (n : Nat) (env : DEnv) (ω : Om), μ env < n → I env ω → ∃ k, W (whileN c b k env ω) R := by
    intro n
    induction n with
    | zero => intro env ω h; omega
    | succ n ih =>
      intro env ω hn h
      obtain ⟨t, w, h1, h2⟩ := step env ω h
      cases t with
      | false => exact ⟨1, W_bind.mpr ⟨false, w, h1, by simpa using h2⟩⟩
      | true =>
        rw [if_pos rfl] at h2
        obtain ⟨r, w', h3, h4⟩ := h2
        cases r with
        | nx e =>
          obtain ⟨k, hk⟩ := ih e w' (by omega) h4.1
          exact ⟨k + 1, W_bind.mpr ⟨true, w, h1, W_ite.mpr (by rw [if_pos rfl]; exact W_bind.mpr ⟨.nx e, w', h3, hk⟩)⟩⟩
        | bk e => exact ⟨1, W_bind.mpr ⟨true, w, h1, W_ite.mpr (by rw [if_pos rfl]; exact W_bind.mpr ⟨.bk e, w', h3, W_pure.mpr h4⟩)⟩⟩
        | rt d => exact ⟨1, W_bind.mpr ⟨true, w, h1, W_ite.mpr (by rw [if_pos rfl]; exact W_bind.mpr ⟨.rt d, w', h3, W_pure.mpr h4⟩)⟩⟩
  obtain ⟨k, r, w, h, q⟩ := key _ env ω (Nat.lt_succ_self _) h0
  exact ⟨r, w, sWhile_of h, q⟩
/-- while, with a count that the proof keeps -/
theorem W_whileN {c : DEnv → M Bool} {b : DEnv → M Fl} (I : Nat → DEnv → Om → Prop) {k0 : Nat} (h0 : I k0 env ω)
    (step : ∀ k env ω, I k env ω → W (c env ω) fun t w => if t = true then W (b env w) (fun r w' => match r with | .nx e => ∃ k', k' < k ∧ I k' e w' | .bk e => R (.nx e) w' | .rt d => R (.rt d) w') else R (.nx env) w) : W (sWhile c b env ω) R := by
  have key : ∀ (n k : Nat) (env : DEnv) (ω : Om), k < n → I k env ω → ∃ j, W (whileN c b j env ω) R := by
    intro n
    induction n with
    | zero => intro k env ω h; omega
    | succ n ih =>
      intro k env ω hn h
      obtain ⟨t, w, h1, h2⟩ := step k env ω h
      cases t with
      | false => exact ⟨1, W_bind.mpr ⟨false, w, h1, by simpa using h2⟩⟩
      | true =>
        rw [if_pos rfl] at h2
        obtain ⟨r, w', h3, h4⟩ := h2
        cases r with
        | nx e =>
          obtain ⟨k', hk', hI⟩ := h4
          obtain ⟨j, hj⟩ := ih k' e w' (by omega) hI
          exact ⟨j + 1, W_bind.mpr ⟨true, w, h1, W_ite.mpr (by rw [if_pos rfl]; exact W_bind.mpr ⟨.nx e, w', h3, hj⟩)⟩⟩
        | bk e => exact ⟨1, W_bind.mpr ⟨true, w, h1, W_ite.mpr (by rw [if_pos rfl]; exact W_bind.mpr ⟨.bk e, w', h3, W_pure.mpr h4⟩)⟩⟩
        | rt d => exact ⟨1, W_bind.mpr ⟨true, w, h1, W_ite.mpr (by rw [if_pos rfl]; exact W_bind.mpr ⟨.rt d, w', h3, W_pure.mpr h4⟩)⟩⟩
  obtain ⟨k, r, w, h, q⟩ := key _ k0 env ω (Nat.lt_succ_self _) h0
  exact ⟨r, w, sWhile_of h, q⟩
/-- a comprehension over encoded things, nothing drawn within -/
theorem W_lc {α : Type} {enc : α → D} {own : List Nat} {t : D → DEnv → M DEnv} {c : DEnv → M Bool} {e : DEnv → M D} (xs : List α) (p : α → Bool) (f : α → D) (step : ∀ x ∈ xs, W (t (enc x) (wipeE env own) ω) fun e1 w => W (c e1 w) fun b w' => b = p x ∧ if p x = true then W (e e1 w') (fun d w'' => d = f x ∧ w'' = ω) else w' = ω) {S : List D → Om → Prop}
    (q : S ((xs.filter p).map f) ω) : W (lcD own t c e env (xs.map enc) ω) S := by
  have key : lcD own t c e env (xs.map enc) ω = some ((xs.filter p).map f, ω) := by
    clear q
    induction xs with
    | nil => rfl
    | cons x xs ih =>
      have ih := ih fun y hy => step y (List.mem_cons_of_mem _ hy)
      obtain ⟨e1, w, h1, b, w', h2, rfl, h3⟩ := step x (List.mem_cons_self ..)
      show (t (enc x) (wipeE env own) >>= fun e1 => c e1 >>= fun b => (if b = true then (do let y ← e e1; let r ← lcD own t c e env (xs.map enc); pure (y :: r)) else lcD own t c e env (xs.map enc) : M (List D))) ω = _
      rw [M.bind_run, h1]
      show (c e1 >>= _ : M (List D)) w = _
      rw [M.bind_run, h2]
      cases hp : p x with
      | true =>
        rw [hp, if_pos rfl] at h3
        obtain ⟨d, w2, h4, rfl, rfl⟩ := h3
        show (e e1 >>= _ : M (List D)) w' = _
        rw [M.bind_run, h4]
        show (lcD own t c e env (xs.map enc) >>= _ : M (List D)) w2 = _
        rw [M.bind_run, ih, List.filter_cons_of_pos hp]; rfl
      | false =>
        rw [hp] at h3
        have h3 : w' = ω := by simpa using h3
        subst h3
        show lcD own t c e env (xs.map enc) w' = _
        rw [ih, List.filter_cons_of_neg (by simp [hp])]
  exact ⟨_, _, key, q⟩
@[simp] theorem W_eLc {src : DEnv → M (List D)} {own : List Nat} {t : D → DEnv → M DEnv} {c : DEnv → M Bool} {e : DEnv → M D} : W (eLc src own t c e env ω) Q ↔ W (src env ω) fun ds w => W (lcD own t c e env ds w) fun r w' => r.length ≤ LIM ∧ Q (.lst r) w' := by
  unfold eLc
  simp only [W_bind, W_ite, W_pure, W_fail]
  constructor <;> rintro ⟨r, w, h, r2, w2, h2, q⟩ <;> refine ⟨r, w, h, r2, w2, h2, ?_⟩
  · split at q
    · rename_i hz; exact ⟨hz, q⟩
    · exact q.elim
  · show (if r2.length ≤ LIM then Q (.lst r2) w2 else False)
    rw [if_pos q.1]; exact q.2
end
end Pw
set_option Elab.async false
set_option linter.all false
/-! The plain part, 2: operators on encoded data. -/
namespace Pw
open PySem
section
variable {Q : D → Om → Prop} {ω : Om} {i j : Int}
theorem W_if {c : Prop} [Decidable c] {a : D} : W ((if c then pure a else M.fail : M D) ω) Q ↔ c ∧ Q a ω := by
  rw [W_ite, W_pure, W_fail]
  by_cases h : c
  · rw [if_pos h]; exact ⟨fun q => ⟨h, q⟩, fun q => q.2⟩
  · rw [if_neg h]; exact ⟨False.elim, fun q => h q.1⟩
theorem W_if' {c : Prop} [Decidable c] {a : D} {m : M D} (e : m = (if c then pure a else M.fail : M D)) : W (m ω) Q ↔ c ∧ Q a ω := by rw [e]; exact W_if
@[simp] theorem W_sub : W (aSub (.int i) (.int j) ω) Q ↔ Q (.int (i - j)) ω := W_some
@[simp] theorem W_add : W (aAddL (.int i) (.int j) ω) Q ↔ Q (.int (i + j)) ω := W_some
@[simp] theorem W_addI : W (aAddI (.int i) (.int j) ω) Q ↔ Q (.int (i + j)) ω := W_some
@[simp] theorem W_addT {xs ys : List D} : W (aAddL (.tup xs) (.tup ys) ω) Q ↔ xs.length + ys.length ≤ LIM ∧ Q (.tup (xs ++ ys)) ω := W_if' rfl
@[simp] theorem W_addL {xs ys : List D} : W (aAddL (.lst xs) (.lst ys) ω) Q ↔ xs.length + ys.length ≤ LIM ∧ Q (.lst (xs ++ ys)) ω := W_if' rfl
@[simp] theorem W_cat {xs ys : List D} : W (aCat (.lst xs) (.lst ys) ω) Q ↔ xs.length + ys.length ≤ LIM ∧ Q (.lst (xs ++ ys)) ω := W_if' rfl
theorem W_oI {c : Int → Int → Bool} {f : Int → Int → D} : W (oI c f (.int i) (.int j) ω) Q ↔ c i j = true ∧ Q (f i j) ω := W_if' rfl
@[simp] theorem W_mul : W (aMulL (.int i) (.int j) ω) Q ↔ ((-(2 ^ 64) < i ∧ i < 2 ^ 64) ∨ (-(2 ^ 64) < j ∧ j < 2 ^ 64)) ∧ Q (.int (i * j)) ω := by
  rw [show aMulL (.int i) (.int j) = aMul (.int i) (.int j) from rfl]; unfold aMul; rw [W_oI, decide_eq_true_eq]
@[simp] theorem W_div : W (aDiv (.int i) (.int j) ω) Q ↔ (0 < j ∧ j < 1073741824) ∧ Q (.int (i / j)) ω := by
  unfold aDiv; rw [W_oI, decide_eq_true_eq]
@[simp] theorem W_mod : W (aMod (.int i) (.int j) ω) Q ↔ 0 < j ∧ Q (.int (i % j)) ω := by
  unfold aMod; rw [W_oI, decide_eq_true_eq]
@[simp] theorem W_pow : W (aPow (.int i) (.int j) ω) Q ↔ (0 ≤ j ∧ j ≤ 1000000 ∧ i.natAbs < 2 ^ 64) ∧ Q (.int (i ^ j.toNat)) ω := by
  unfold aPow; rw [W_oI, decide_eq_true_eq]
@[simp] theorem W_shl : W (aShl (.int i) (.int j) ω) Q ↔ (0 ≤ j ∧ j ≤ 1000000 ∧ i.natAbs < 2 ^ 64) ∧ Q (.int (i * 2 ^ j.toNat)) ω := by
  unfold aShl; rw [W_oI, decide_eq_true_eq]
@[simp] theorem W_shr : W (aShr (.int i) (.int j) ω) Q ↔ 0 ≤ j ∧ Q (.int (i / 2 ^ j.toNat)) ω := by
  unfold aShr; rw [W_oI, decide_eq_true_eq]
@[simp] theorem W_and : W (aAnd (.int i) (.int j) ω) Q ↔ Q (.int (Builtin.bitAnd i j)) ω := W_some
@[simp] theorem W_or : W (aOr (.int i) (.int j) ω) Q ↔ Q (.int (Builtin.bitOr i j)) ω := W_some
@[simp] theorem W_xor : W (aXor (.int i) (.int j) ω) Q ↔ Q (.int (Builtin.bitXor i j)) ω := W_some
@[simp] theorem W_lt : W (aLt (.int i) (.int j) ω) Q ↔ Q (.bl (decide (i < j))) ω := W_some
@[simp] theorem W_le : W (aLe (.int i) (.int j) ω) Q ↔ Q (.bl (decide (i ≤ j))) ω := W_some
@[simp] theorem W_gt : W (aGt (.int i) (.int j) ω) Q ↔ Q (.bl (decide (j < i))) ω := W_some
@[simp] theorem W_ge : W (aGe (.int i) (.int j) ω) Q ↔ Q (.bl (decide (j ≤ i))) ω := W_some
/-- == is served -/
def eqOk (x y : D) : Bool := x.plain && y.plain && decide (x.depth ≤ 60)
@[simp] theorem W_eq {x y : D} : W (aEq x y ω) Q ↔ eqOk x y = true ∧ Q (.bl (D.deq x y)) ω := W_if' rfl
@[simp] theorem W_ne {x y : D} : W (aNe x y ω) Q ↔ eqOk x y = true ∧ Q (.bl (!D.deq x y)) ω := W_if' rfl
@[simp] theorem W_inL {x : D} {ys : List D} : W (oIn x (.lst ys) ω) Q ↔ inOk x ys = true ∧ Q (.bl (dmem x ys)) ω := by
  show W (aIn x (.lst ys) ω) Q ↔ _
  exact W_if' (by cases x <;> rfl)
@[simp] theorem W_inT {x : D} {ys : List D} : W (oIn x (.tup ys) ω) Q ↔ inOk x ys = true ∧ Q (.bl (dmem x ys)) ω := by
  show W (aIn x (.tup ys) ω) Q ↔ _
  exact W_if' (by cases x <;> rfl)
@[simp] theorem W_ninL {x : D} {ys : List D} : W (oNotIn x (.lst ys) ω) Q ↔ inOk x ys = true ∧ Q (.bl (!dmem x ys)) ω := by
  show W (aNotIn x (.lst ys) ω) Q ↔ _
  exact W_if' (by cases x <;> rfl)
@[simp] theorem W_ninT {x : D} {ys : List D} : W (oNotIn x (.tup ys) ω) Q ↔ inOk x ys = true ∧ Q (.bl (!dmem x ys)) ω := by
  show W (aNotIn x (.tup ys) ω) Q ↔ _
  exact W_if' (by cases x <;> rfl)
@[simp] theorem W_is {x : D} : W (aIs x .non ω) Q ↔ Q (.bl (isNon x)) ω := by cases x <;> exact W_some
@[simp] theorem W_isNot {x : D} : W (aIsNot x .non ω) Q ↔ Q (.bl (!isNon x)) ω := by cases x <;> exact W_some
@[simp] theorem W_ixL {xs : List D} : W (oIx (.lst xs) (.int i) ω) Q ↔ ∃ d, L2.atI xs i = some d ∧ Q d ω := by
  unfold oIx
  cases e : L2.atI xs i with
  | none => simp [e]
  | some d => simp [e]
@[simp] theorem W_ixT {xs : List D} : W (oIx (.tup xs) (.int i) ω) Q ↔ ∃ d, L2.atI xs i = some d ∧ Q d ω := by
  unfold oIx
  cases e : L2.atI xs i with
  | none => simp [e]
  | some d => simp [e]
@[simp] theorem W_lenL {xs : List D} : W (fLen [.lst xs] ω) Q ↔ Q (.int xs.length) ω := W_some
@[simp] theorem W_lenT {xs : List D} : W (fLen [.tup xs] ω) Q ↔ Q (.int xs.length) ω := W_some
@[simp] theorem W_lenD {xs : List (D × D)} : W (fLen [.dic xs] ω) Q ↔ Q (.int xs.length) ω := W_some
@[simp] theorem W_listL {xs : List D} : W (fList [.lst xs] ω) Q ↔ Q (.lst xs) ω := W_some
@[simp] theorem W_listT {xs : List D} : W (fList [.tup xs] ω) Q ↔ Q (.lst xs) ω := W_some
@[simp] theorem W_tupleL {xs : List D} : W (fTuple [.lst xs] ω) Q ↔ Q (.tup xs) ω := W_some
@[simp] theorem W_tupleT {xs : List D} : W (fTuple [.tup xs] ω) Q ↔ Q (.tup xs) ω := W_some
@[simp] theorem W_int : W (fInt [.int i] ω) Q ↔ Q (.int i) ω := W_some
@[simp] theorem W_abs : W (fAbs [.int i] ω) Q ↔ Q (.int (if i < 0 then -i else i)) ω := W_some
@[simp] theorem W_max2 : W (fMax2 [.int i, .int j] ω) Q ↔ Q (.int (if j > i then j else i)) ω := W_some
@[simp] theorem W_min2 : W (fMin2 [.int i, .int j] ω) Q ↔ Q (.int (if j < i then j else i)) ω := W_some
@[simp] theorem asInts_map (ns : List Int) : asInts (ns.map .int) = some ns := by
  induction ns with
  | nil => rfl
  | cons n ns ih => show (asInts (ns.map .int)).map (n :: ·) = _; rw [ih]; rfl
@[simp] theorem asBls_map (ns : List Bool) : asBls (ns.map .bl) = some ns := by
  induction ns with
  | nil => rfl
  | cons n ns ih => show (asBls (ns.map .bl)).map (n :: ·) = _; rw [ih]; rfl
@[simp] theorem W_sum {ns : List Int} : W (fSum [.lst (ns.map .int)] ω) Q ↔ Q (.int ns.sum) ω := by simp [fSum, fInts]
@[simp] theorem W_any {ns : List Bool} : W (fAny [.lst (ns.map .bl)] ω) Q ↔ Q (.bl (ns.any id)) ω := by simp [fAny, fBls]
@[simp] theorem W_all {ns : List Bool} : W (fAll [.lst (ns.map .bl)] ω) Q ↔ Q (.bl (ns.all id)) ω := by simp [fAll, fBls]
@[simp] theorem W_sortSetL {ns : List Int} : W (fSortSet [.lst (ns.map .int)] ω) Q ↔ ((usort ns).length < 64 ∧ ns.length ≤ 4000) ∧ Q (.lst ((usort ns).map .int)) ω := by
  simp only [fSortSet, asInts_map]; exact W_if
@[simp] theorem W_sortSetT {ns : List Int} : W (fSortSet [.tup (ns.map .int)] ω) Q ↔ ((usort ns).length < 64 ∧ ns.length ≤ 4000) ∧ Q (.lst ((usort ns).map .int)) ω := by
  simp only [fSortSet, asInts_map]; exact W_if
@[simp] theorem W_sort {ds : List D} : W (fSort [.lst ds] ω) Q ↔ sortOk ds = true ∧ Q (.lst (ds.mergeSort dle)) ω := W_if' rfl
@[simp] theorem W_eRev {m : DEnv → M D} {env : DEnv} : W (eRev m env ω) Q ↔ W (m env ω) fun d w => W (oRev d w) Q := by unfold eRev; simp only [W_bind]
@[simp] theorem W_revT {xs : List D} : W (oRev (.tup xs) ω) Q ↔ Q (.tup xs.reverse) ω := W_some
@[simp] theorem W_revL {xs : List D} : W (oRev (.lst xs) ω) Q ↔ Q (.lst xs.reverse) ω := W_some
@[simp] theorem W_eSl {k : D → Option Int → Option Int → M D} {a : DEnv → M D} {lo hi : DEnv → M (Option Int)} {env : DEnv} : W (eSl k a lo hi env ω) Q ↔ W (a env ω) fun x w => W (lo env w) fun l w' => W (hi env w') fun h w'' => W (k x l h w'') Q := by unfold eSl; simp only [W_bind]
@[simp] theorem W_pNo {env : DEnv} {S : Option Int → Om → Prop} : W (pNo env ω) S ↔ S none ω := W_pure
@[simp] theorem W_pAt {m : DEnv → M D} {env : DEnv} {S : Option Int → Om → Prop} : W (pAt m env ω) S ↔ W (m env ω) fun d w => ∃ i, d = .int i ∧ S (some i) w := by
  unfold pAt
  simp only [W_bind]
  constructor <;> rintro ⟨r, w, h, q⟩ <;> refine ⟨r, w, h, ?_⟩
  · cases r <;> simp_all
  · obtain ⟨i, rfl, q⟩ := q; exact W_pure.mpr q
@[simp] theorem W_slT {xs : List D} {l h : Option Int} : W (slA (.tup xs) l h ω) Q ↔ Q (.tup (cutD xs l h)) ω := W_some
@[simp] theorem W_slL {xs : List D} {l h : Option Int} : W (slA (.lst xs) l h ω) Q ↔ Q (.lst (cutD xs l h)) ω := W_some
@[simp] theorem W_slL2 {xs : List D} {l h : Option Int} : W (slL (.lst xs) l h ω) Q ↔ Q (.lst (cutD xs l h)) ω := W_some
@[simp] theorem W_chain {op op' : D → D → M D} {a b c : DEnv → M D} {env : DEnv} : W (eChain op op' a b c env ω) Q ↔ W (a env ω) fun x w => W (b env w) fun y w1 => W (op x y w1) fun t w2 => ∃ u, t = .bl u ∧ if u = true then W (c env w2) (fun z w3 => W (op' y z w3) Q) else Q (.bl false) w2 := by
  constructor
  · rintro ⟨d, w, h, q⟩
    obtain ⟨x, ω1, y, ω2, t, ω3, h1, h2, h3, h4⟩ := eChain_some h
    refine ⟨x, ω1, h1, y, ω2, h2, _, ω3, h3, t, rfl, ?_⟩
    rcases h4 with ⟨rfl, z, ω4, h4, h5⟩ | ⟨rfl, rfl, rfl⟩
    · rw [if_pos rfl]; exact ⟨z, ω4, h4, d, w, h5, q⟩
    · rw [if_neg (by decide)]; exact q
  · rintro ⟨x, ω1, h1, y, ω2, h2, _, ω3, h3, t, rfl, h4⟩
    have e : eChain op op' a b c env ω = (match (some (.bl t, ω3) : Option (D × Om)) with | none => none | some (d, w) => (match d with | .bl true => (do let z ← c env; op' y z : M D) | .bl false => pure (.bl false) | _ => M.fail : M D) w) := by
      unfold eChain
      rw [M.bind_run, h1]
      show (b env >>= _ : M D) ω1 = _
      rw [M.bind_run, h2]
      show (op x y >>= _ : M D) ω2 = _
      rw [M.bind_run, h3]
      all_goals (cases t <;> rfl)
    rw [e]
    cases t with
    | true =>
      rw [if_pos rfl] at h4
      show W ((c env >>= fun z => op' y z) ω3) Q
      rw [W_bind]; exact h4
    | false =>
      rw [if_neg (by decide)] at h4
      exact W_pure.mpr h4
@[simp] theorem W_eNot {m : DEnv → M D} {env : DEnv} : W (eNot m env ω) Q ↔ W (m env ω) fun d w => ∃ b, d = .bl b ∧ Q (.bl (!b)) w := by
  unfold eNot
  simp only [W_bind]
  constructor <;> rintro ⟨r, w, h, q⟩ <;> refine ⟨r, w, h, ?_⟩
  · cases r <;> simp_all
  · obtain ⟨b, rfl, q⟩ := q; exact W_pure.mpr q
@[simp] theorem W_eAnd {a b : DEnv → M D} {env : DEnv} : W (eAnd a b env ω) Q ↔ W (a env ω) fun d w => ∃ c, d = .bl c ∧ if c = true then W (b env w) Q else Q (.bl false) w := by
  unfold eAnd
  simp only [W_bind]
  constructor <;> rintro ⟨r, w, h, q⟩ <;> refine ⟨r, w, h, ?_⟩
  · cases r with
    | bl c => cases c <;> simp_all
    | _ => simp_all
  · obtain ⟨c, rfl, q⟩ := q; cases c <;> simp_all
@[simp] theorem W_eOr {a b : DEnv → M D} {env : DEnv} : W (eOr a b env ω) Q ↔ W (a env ω) fun d w => ∃ c, d = .bl c ∧ if c = true then Q (.bl true) w else W (b env w) Q := by
  unfold eOr
  simp only [W_bind]
  constructor <;> rintro ⟨r, w, h, q⟩ <;> refine ⟨r, w, h, ?_⟩
  · cases r with
    | bl c => cases c <;> simp_all
    | _ => simp_all
  · obtain ⟨c, rfl, q⟩ := q; cases c <;> simp_all
@[simp] theorem W_eUn {f : Int → Int} {m : DEnv → M D} {env : DEnv} : W (eUn f m env ω) Q ↔ W (m env ω) fun d w => ∃ i, d = .int i ∧ Q (.int (f i)) w := by
  unfold eUn
  simp only [W_bind]
  constructor <;> rintro ⟨r, w, h, q⟩ <;> refine ⟨r, w, h, ?_⟩
  · cases r <;> simp_all
  · obtain ⟨b, rfl, q⟩ := q; exact W_pure.mpr q
@[simp] theorem W_asT {m : DEnv → M D} {env : DEnv} {S : Bool → Om → Prop} : W (asT m env ω) S ↔ W (m env ω) fun d w => W (truD d w) S := by unfold asT; simp only [W_bind]
@[simp] theorem W_truB {b : Bool} {S : Bool → Om → Prop} : W (truD (.bl b) ω) S ↔ S b ω := W_some
@[simp] theorem W_eListR {m : DEnv → M (List D)} {env : DEnv} : W (eListR m env ω) Q ↔ W (m env ω) fun ds w => Q (.lst ds) w := by unfold eListR; simp only [W_bind, W_pure]
@[simp] theorem W_eTupR {m : DEnv → M (List D)} {env : DEnv} : W (eTupR m env ω) Q ↔ W (m env ω) fun ds w => Q (.tup ds) w := by unfold eTupR; simp only [W_bind, W_pure]
@[simp] theorem W_eEnum {m : DEnv → M D} {env : DEnv} {S : List D → Om → Prop} : W (eEnum m env ω) S ↔ W (m env ω) fun d w => ∃ ds, d = .lst ds ∧ S (enumD ds) w := by
  unfold eEnum
  simp only [W_bind]
  constructor <;> rintro ⟨r, w, h, q⟩ <;> refine ⟨r, w, h, ?_⟩
  · cases r <;> simp_all
  · obtain ⟨b, rfl, q⟩ := q; exact W_pure.mpr q
@[simp] theorem W_isi {T : String} {d : D} : W (fIsi T [d] ω) Q ↔ (match d with | .non => Q (.bl (isiB "NoneType" T)) ω | .bl _ => Q (.bl (isiB "bool" T)) ω | .int _ => Q (.bl (isiB "int" T)) ω | .str _ => Q (.bl (isiB "str" T)) ω | .tup _ => Q (.bl (isiB "tuple" T)) ω | .lst _ => Q (.bl (isiB "list" T)) ω | _ => False) := by
  cases d <;> first | exact W_some | exact W_none
end
/-! encoded data -/
theorem rangeD_map (n : Nat) : rangeD 0 n = (List.range n).map fun (i : Nat) => D.int i := by
  simp [rangeD]
@[simp] theorem plains_int (ns : List Int) : D.plains (ns.map .int) = true := by
  induction ns with
  | nil => rfl
  | cons n ns ih => simp [D.plains, D.plain, ih]
@[simp] theorem deqs_int (ns ms : List Int) : D.deqs (ns.map .int) (ms.map .int) = decide (ns = ms) := by
  induction ns generalizing ms with
  | nil => cases ms <;> simp [D.deqs]
  | cons n ns ih => cases ms with
    | nil => simp [D.deqs]
    | cons m ms => simp [D.deqs, D.deq, ih]; by_cases h : n = m <;> simp [h]
@[simp] theorem depths_int (ns : List Int) : D.depths (ns.map .int) = 0 := by
  induction ns with
  | nil => rfl
  | cons n ns ih => simp [D.depths, D.depth, ih]
@[simp] theorem dmem_int (n : Int) (ns : List Int) : dmem (.int n) (ns.map .int) = decide (n ∈ ns) := by
  induction ns with
  | nil => rfl
  | cons m ns ih =>
    have : dmem (.int n) (D.int m :: ns.map .int) = (D.deq (.int m) (.int n) || dmem (.int n) (ns.map .int)) := rfl
    rw [List.map_cons, this, ih]
    simp only [D.deq, List.mem_cons]
    by_cases h : n = m
    · subst h; simp
    · have : m ≠ n := fun q => h q.symm
      simp [h, this]
@[simp] theorem inOk_int (n : Int) (ns : List Int) : inOk (.int n) (ns.map .int) = true := by simp [inOk, D.plain, D.depth]
end Pw
set_option Elab.async false
set_option linter.all false
set_option maxRecDepth 10000
/-! The plain part, 3: what the laws' own helpers answer. -/
namespace Pw
open PySem
/-! ### sorted ints -/
def isort (ns : List Int) : List Int := ns.mergeSort fun a b => decide (a ≤ b)
theorem dle_int (a b : Int) : dle (.int a) (.int b) = decide (a ≤ b) := by
  have := congrFun (congrFun (PySem.W.dataLe_int (β := Int) id) a) b
  exact this
theorem sort_int (ns : List Int) : (ns.map D.int).mergeSort dle = (isort ns).map D.int :=
  (PySem.W.sort_maps D.int fun a _ b _ => (dle_int a b).symm).symm
theorem sortOk_int {ns : List Int} (h : ns.length ≤ LIM) : sortOk (ns.map .int) = true := by
  unfold sortOk
  simp only [plains_int, depths_int, List.length_map, Bool.true_and, Bool.and_eq_true, Bool.or_eq_true, decide_eq_true_eq]
  refine ⟨⟨⟨?_, .inr ?_⟩, by decide⟩, h⟩
  · simp only [List.all_eq_true, List.mem_map]
    rintro _ ⟨a, _, rfl⟩ _ ⟨b, _, rfl⟩
    rfl
  · simp only [List.all_eq_true, List.mem_map]
    rintro _ ⟨a, _, rfl⟩
    rfl
theorem mem_isort {ns : List Int} {x : Int} : x ∈ isort ns ↔ x ∈ ns := (List.mergeSort_perm ns _).mem_iff
theorem isort_perm (ns : List Int) : (isort ns).Perm ns := List.mergeSort_perm ns _
theorem isort_len (ns : List Int) : (isort ns).length = ns.length := (isort_perm ns).length_eq
theorem W_sortI {ns : List Int} {Q : D → Om → Prop} {ω : Om} (h : ns.length ≤ LIM) (q : Q (.lst ((isort ns).map .int)) ω) : W (fSort [.lst (ns.map .int)] ω) Q := by
  rw [W_sort, sort_int]; exact ⟨sortOk_int h, q⟩
/-! ### draws -/
theorem draw_ok {m : Int} {ω : Om} (h0 : 0 < m) (h1 : m < 1073741824) {Q : D → Om → Prop} (q : ∀ v w, 0 ≤ v → v < m → Q (.int v) w) : W (m__law_draw [.tok, .int m] ω) Q := by
  show W (drawG m ω) Q
  unfold drawG
  rw [if_pos ⟨h0, h1⟩]
  cases e : ω.1.dropWhile (· == 0) with
  | nil => exact W_some.mpr (q _ _ (Int.emod_nonneg _ (by omega)) (Int.emod_lt_of_pos _ h0))
  | cons v cs => exact W_some.mpr (q _ _ (Int.emod_nonneg _ (by omega)) (Int.emod_lt_of_pos _ h0))
theorem atI_mem {ds : List D} {v : Int} (h0 : 0 ≤ v) (h1 : v < ds.length) : ∃ d, L2.atI ds v = some d ∧ d ∈ ds := by
  have hl : v.toNat < ds.length := by omega
  refine ⟨ds[v.toNat], ?_, List.getElem_mem hl⟩
  have := L2.atI_nat (xs := ds) (j := v.toNat) (v := ds[v.toNat]) (List.getElem?_eq_getElem hl)
  rwa [Int.toNat_of_nonneg h0] at this
theorem pick_ok {ds : List D} {ω : Om} (h0 : 0 < ds.length) (h1 : ds.length < 1073741824) {Q : D → Om → Prop} (q : ∀ d w, d ∈ ds → Q d w) : W (m__law_pick [.tok, .lst ds] ω) Q := by
  refine W_fn rfl ?_
  simp [startE]
  refine draw_ok (by omega) (by omega) fun v w v0 v1 => ?_
  obtain ⟨d, hd, hm⟩ := atI_mem v0 v1
  simp [hd, q d w hm]
theorem insert_perm (ds : List D) (x : D) (k : Nat) : (ds.take k ++ [x] ++ ds.drop k).Perm (x :: ds) := by
  have h : (ds.take k ++ ds.drop k) = ds := List.take_append_drop k ds
  calc (ds.take k ++ [x] ++ ds.drop k).Perm (x :: (ds.take k ++ ds.drop k)) := by
        rw [List.append_assoc]; exact List.perm_middle
    _ = x :: ds := by rw [h]
@[simp] theorem W_sMut {i : Nat} {ms : List (DEnv → M D)} {k : D → List D → M D} {env : DEnv} {ω : Om} {R : Fl → Om → Prop} : W (sMut i ms k env ω) R ↔ ∃ d, env[i]? = some (some d) ∧ W (evs ms env ω) fun es w => W (k d es w) fun d' w' => R (.nx (env.set i (some d'))) w' := by
  unfold sMut
  simp only [W_bind, W_getE, W_pure]
@[simp] theorem W_kApp {ds : List D} {x : D} {ω : Om} {Q : D → Om → Prop} : W (kApp (.lst ds) [x] ω) Q ↔ ds.length < LIM ∧ Q (.lst (ds ++ [x])) ω := W_if' rfl
@[simp] theorem W_kIns {ds : List D} {x : D} {i : Int} {ω : Om} {Q : D → Om → Prop} : W (kIns (.lst ds) [.int i, x] ω) Q ↔ (ds.length < LIM ∧ 0 ≤ i ∧ i < 2 ^ 63) ∧ Q (.lst (ds.take i.toNat ++ [x] ++ ds.drop i.toNat)) ω := W_if' rfl
theorem map_id' (ds : List D) : ds.map id = ds := List.map_id ds
theorem mixed_ok {ds : List D} {ω : Om} (h : ds.length < LIM) {Q : D → Om → Prop} (q : ∀ es w, es.Perm ds → Q (.lst es) w) : W (m__law_mixed [.tok, .lst ds] ω) Q := by
  have hL : (LIM : Int) = 1000000 := rfl
  refine W_fn rfl ?_
  simp [startE]
  rw [← map_id' ds]
  refine W_for (fun pre env w => ∃ es j, es.Perm pre ∧ env = [some .tok, some (.lst ds), some (.lst es), j]) ds ⟨[], none, .nil, by simp⟩ ?_ ?_
  · rintro pre x post env w hx ⟨es, j, hp, rfl⟩
    have hle : pre.length < ds.length := by rw [← hx]; simp
    have hl := hp.length_eq
    simp
    refine draw_ok (by omega) (by unfold LIM at h; omega) fun v w v0 v1 => ?_
    have hb : es.length < LIM ∧ 0 ≤ v ∧ v < 2 ^ 63 := ⟨by omega, v0, by unfold LIM at h; omega⟩
    have := insert_perm es x v.toNat
    rw [List.append_assoc] at this
    simp [hb]
    refine ⟨by omega, ?_⟩
    exact this.trans ((hp.cons x).trans (List.perm_append_comm (l₁ := [x])))
  · rintro env w ⟨es, j, hp, rfl⟩
    simp
    exact q es w hp
/-! ### _law_eq -/
mutual
def same : D → D → Bool
  | .non, .non => true
  | .bl a, .bl b => a == b
  | .int a, .int b => a == b
  | .str a, .str b => a == b
  | .tup xs, .tup ys => sames xs ys
  | .lst xs, .lst ys => sames xs ys
  | _, _ => false
def sames : List D → List D → Bool
  | [], [] => true
  | x :: xs, y :: ys => same x y && sames xs ys
  | _, _ => false
end
mutual
theorem same_refl : ∀ d : D, d.plain = true → same d d = true
  | .non, _ => rfl
  | .bl b, _ => by simp [same]
  | .int b, _ => by simp [same]
  | .str b, _ => by simp [same]
  | .tup xs, h => by simp only [same]; exact sames_refl xs (by simpa [D.plain] using h)
  | .lst xs, h => by simp only [same]; exact sames_refl xs (by simpa [D.plain] using h)
  | .dic _, h => by simp [D.plain] at h
  | .tok, h => by simp [D.plain] at h
theorem sames_refl : ∀ ds : List D, D.plains ds = true → sames ds ds = true
  | [], _ => rfl
  | d :: ds, h => by
    simp only [D.plains, Bool.and_eq_true] at h
    simp only [sames, same_refl d h.1, sames_refl ds h.2, Bool.and_self]
end
mutual
theorem same_eq : ∀ a b : D, same a b = true → a = b
  | .non, b, h => by cases b <;> simp_all [same]
  | .bl a, b, h => by cases b <;> simp_all [same]
  | .int a, b, h => by cases b <;> simp_all [same]
  | .str a, b, h => by cases b <;> simp_all [same]
  | .tup xs, b, h => by
    cases b with
    | tup ys => rw [sames_eq xs ys (by simpa [same] using h)]
    | _ => simp [same] at h
  | .lst xs, b, h => by
    cases b with
    | lst ys => rw [sames_eq xs ys (by simpa [same] using h)]
    | _ => simp [same] at h
  | .dic _, b, h => by simp [same] at h
  | .tok, b, h => by simp [same] at h
theorem sames_eq : ∀ xs ys : List D, sames xs ys = true → xs = ys
  | [], [], _ => rfl
  | [], _ :: _, h => by simp [sames] at h
  | _ :: _, [], h => by simp [sames] at h
  | x :: xs, y :: ys, h => by
    simp only [sames, Bool.and_eq_true] at h
    rw [same_eq x y h.1, sames_eq xs ys h.2]
end
theorem sames_len : ∀ xs ys : List D, sames xs ys = true → xs.length = ys.length := fun xs ys h => by rw [sames_eq xs ys h]
theorem sames_get : ∀ xs ys : List D, xs.length = ys.length → sames xs ys = (List.range ys.length).all fun k => match xs[k]?, ys[k]? with | some x, some y => same x y | _, _ => false
  | [], [], _ => rfl
  | [], _ :: _, h => by simp at h
  | _ :: _, [], h => by simp at h
  | x :: xs, y :: ys, h => by
    have ih := sames_get xs ys (by simpa using h)
    simp only [sames, ih, List.length_cons, List.range_succ_eq_map, List.all_cons, List.all_map]
    rfl
mutual
/-- lists within are of a length that is served -/
def lens : D → Bool
  | .tup xs => decide (xs.length ≤ LIM) && lenss xs
  | .lst xs => decide (xs.length ≤ LIM) && lenss xs
  | _ => true
def lenss : List D → Bool
  | [] => true
  | x :: xs => lens x && lenss xs
end
theorem lenss_mem : ∀ {xs : List D} {d : D}, lenss xs = true → d ∈ xs → lens d = true
  | x :: xs, d, h, hd => by
    simp only [lenss, Bool.and_eq_true] at h
    rcases List.mem_cons.mp hd with rfl | hd
    · exact h.1
    · exact lenss_mem h.2 hd
theorem atI_at {ds : List D} {k : Nat} (h : k < ds.length) : L2.atI ds (k : Int) = some ds[k] := L2.atI_nat (List.getElem?_eq_getElem h)
theorem plains_filter (l : List Nat) (p : Nat → Bool) : D.plains ((l.filter p).map fun (i : Nat) => D.int i) = true := by
  have : ((l.filter p).map fun (i : Nat) => D.int i) = ((l.filter p).map fun (i : Nat) => (i : Int)).map D.int := by rw [List.map_map]; rfl
  rw [this, plains_int]
/-- the items, one by one -/
theorem eq_items (m : List D → M D) (xs ys : List D) (env : DEnv) (ω : Om) (hl : xs.length = ys.length) (hz : ys.length ≤ LIM) (a b : D) (ha : a = .tup xs ∨ a = .lst xs) (hb : b = .tup ys ∨ b = .lst ys) (he : env = [some a, some b, none])
    (hm : ∀ (k : Nat) (h1 : k < xs.length) (h2 : k < ys.length) (w : Om), W (m [xs[k], ys[k]] w) fun d w' => d = .bl (same xs[k] ys[k]) ∧ w' = w) :
    W (eBin aEq (eLc (eRng1 (eCall fLen [(eVar 1)])) [2] (mName 2) (bNot (asB (eCall m [(eBin oIx (eVar 0) (eVar 2)), (eBin oIx (eVar 1) (eVar 2))]))) (eVar 2)) (eLst []) env ω) fun d w => d = .bl (sames xs ys) ∧ w = ω := by
  have hL : (LIM : Int) = 1000000 := rfl
  let p : Nat → Bool := fun k => match xs[k]?, ys[k]? with | some x, some y => !same x y | _, _ => false
  have len : W (eCall fLen [eVar 1] env ω) fun d w => d = .int ys.length ∧ w = ω := by
    subst he
    rcases hb with rfl | rfl <;> simp
  rw [W_bin, W_eLc, W_rng1]
  refine len.mono ?_
  rintro _ w ⟨rfl, rfl⟩
  refine ⟨ys.length, rfl, ⟨by omega, by omega⟩, ?_⟩
  rw [rangeD_map]
  refine W_lc (List.range ys.length) p (fun (i : Nat) => D.int i) (fun k hk => ?_) ⟨?_, ?_⟩
  · have hk := List.mem_range.mp hk
    have h1 : k < xs.length := by omega
    have hp : p k = !same xs[k] ys[k] := by
      show (match xs[k]?, ys[k]? with | some x, some y => !same x y | _, _ => false) = _
      rw [List.getElem?_eq_getElem h1, List.getElem?_eq_getElem hk]
    subst he
    have e1 := atI_at h1
    have e2 := atI_at hk
    have hmk := hm k h1 hk
    rcases ha with rfl | rfl <;> rcases hb with rfl | rfl <;> simp [wipeE, e1, e2] <;> refine (hmk _).mono ?_ <;> rintro _ w' ⟨rfl, rfl⟩ <;> simp [hp]
  · rw [List.length_map]
    exact Nat.le_trans (List.length_filter_le _ _) (by simpa using hz)
  · simp only [W_lst, W_evs0, W_eq]
    refine ⟨?_, ?_⟩
    · unfold eqOk
      have e : D.depth (.lst (((List.range ys.length).filter p).map fun (i : Nat) => D.int i)) ≤ 60 := by
        have : ((((List.range ys.length).filter p).map fun (i : Nat) => D.int i)) = ((((List.range ys.length).filter p)).map fun (i : Nat) => (i : Int)).map D.int := by rw [List.map_map]; rfl
        rw [this]
        simp only [D.depth, depths_int]
        decide
      simp only [D.plain, plains_filter, D.plains, Bool.true_and, decide_eq_true_eq]
      exact e
    · refine ⟨?_, trivial⟩
      rw [sames_get xs ys hl]
      simp only [D.deq]
      congr 1
      rw [Bool.eq_iff_iff, List.all_eq_true]
      have : D.deqs (((List.range ys.length).filter p).map fun (i : Nat) => D.int i) [] = (((List.range ys.length).filter p).isEmpty) := by
        cases (List.range ys.length).filter p <;> rfl
      rw [this, List.isEmpty_iff, List.filter_eq_nil_iff]
      refine ⟨fun h k hk => ?_, fun h k hk => ?_⟩
      · have h2 := h k hk
        have hk := List.mem_range.mp hk
        have h1 : k < xs.length := by omega
        simp only [p, List.getElem?_eq_getElem h1, List.getElem?_eq_getElem hk] at h2 ⊢
        simpa using h2
      · have h2 := h k hk
        have hk := List.mem_range.mp hk
        have h1 : k < xs.length := by omega
        simp only [p, List.getElem?_eq_getElem h1, List.getElem?_eq_getElem hk] at h2 ⊢
        simpa using h2
theorem depths_get {xs : List D} {k : Nat} (h : k < xs.length) : (xs[k]).depth ≤ D.depths xs := depths_mem (List.getElem_mem h)
theorem plains_get {xs : List D} {k : Nat} (hp : D.plains xs = true) (h : k < xs.length) : (xs[k]).plain = true := plains_mem hp (List.getElem_mem h)
theorem law_eq_ok : ∀ (k : Nat) (a b : D) (ω : Om), a.plain = true → b.plain = true → b.depth < k → a.depth ≤ 60 → lens b = true → W (r__law_eq k [a, b] ω) fun d w => d = .bl (same a b) ∧ w = ω := by
  intro k
  induction k with
  | zero => intro a b ω _ _ h; omega
  | succ k ih =>
    intro a b ω ha hb hd hd2 hl
    have seq : ∀ xs ys : List D, D.plains xs = true → D.plains ys = true → D.depths ys + 1 < k + 1 → D.depths xs + 1 ≤ 60 → lenss ys = true → ∀ (j : Nat) (h1 : j < xs.length) (h2 : j < ys.length) (w : Om), W (r__law_eq k [xs[j], ys[j]] w) fun d w' => d = .bl (same xs[j] ys[j]) ∧ w' = w := by
      intro xs ys p1 p2 q1 q2 q3 j h1 h2 w
      have e1 := depths_get h1
      have e2 := depths_get h2
      exact ih _ _ w (plains_get p1 h1) (plains_get p2 h2) (by omega) (by omega) (lenss_mem q3 (List.getElem_mem h2))
    cases b with
    | non => cases a <;> first | (simp [D.plain] at ha; done) | exact ⟨_, _, rfl, by simp [same, isNon], rfl⟩
    | bl x => cases a <;> first | (simp [D.plain] at ha; done) | exact ⟨_, _, rfl, by simp [same, D.deq], rfl⟩
    | int x => cases a <;> first | (simp [D.plain] at ha; done) | exact ⟨_, _, rfl, by simp [same, D.deq], rfl⟩
    | str x => cases a <;> first | (simp [D.plain] at ha; done) | exact ⟨_, _, rfl, by simp [same, D.deq], rfl⟩
    | dic _ => simp [D.plain] at hb
    | tok => simp [D.plain] at hb
    | tup ys =>
      cases a with
      | tup xs =>
        have ha : D.plains xs = true := by simpa [D.plain] using ha
        have hb : D.plains ys = true := by simpa [D.plain] using hb
        have hd : D.depths ys + 1 < k + 1 := by simpa [D.depth] using hd
        have hd2 : D.depths xs + 1 ≤ 60 := by simpa [D.depth] using hd2
        have hl : ys.length ≤ LIM ∧ lenss ys = true := by simpa [lens] using hl
        refine W_fn rfl ?_
        unfold b__law_eq
        rw [W_sSeq]
        refine sIf_t (w := ω) rfl ?_
        rw [W_sSeq]
        refine sIf_f (w := ω) rfl ?_
        rw [W_sNil, after_nx, W_sSeq]
        have cmp : asB (eBin aNe (eCall fLen [(eVar 0)]) (eCall fLen [(eVar 1)])) (startE 3 [D.tup xs, D.tup ys]) ω = some (!(((xs.length : Int)) == (ys.length : Int)), ω) := rfl
        · by_cases h : xs.length = ys.length
          · refine sIf_f (w := ω) (by rw [cmp, h]; simp) ?_
            rw [W_sNil, after_nx, W_sRet]
            refine (eq_items (r__law_eq k) xs ys _ ω h hl.1 (.tup xs) (.tup ys) (.inl rfl) (.inl rfl) rfl (fun j h1 h2 w => seq xs ys ha hb hd hd2 hl.2 j h1 h2 w)).mono ?_
            rintro _ w ⟨rfl, rfl⟩
            simp [after, same]
          · refine sIf_t (w := ω) (by rw [cmp]; simp; omega) ?_
            rw [W_sRet, W_eC]
            have : sames xs ys = false := by
              cases e : sames xs ys with
              | false => rfl
              | true => exact absurd (sames_len xs ys e) h
            simp [after, same, this]
      | dic _ => simp [D.plain] at ha
      | tok => simp [D.plain] at ha
      | _ => exact ⟨_, _, rfl, by simp [same], rfl⟩
    | lst ys =>
      cases a with
      | lst xs =>
        have ha : D.plains xs = true := by simpa [D.plain] using ha
        have hb : D.plains ys = true := by simpa [D.plain] using hb
        have hd : D.depths ys + 1 < k + 1 := by simpa [D.depth] using hd
        have hd2 : D.depths xs + 1 ≤ 60 := by simpa [D.depth] using hd2
        have hl : ys.length ≤ LIM ∧ lenss ys = true := by simpa [lens] using hl
        refine W_fn rfl ?_
        unfold b__law_eq
        rw [W_sSeq]
        refine sIf_t (w := ω) rfl ?_
        rw [W_sSeq]
        refine sIf_f (w := ω) rfl ?_
        rw [W_sNil, after_nx, W_sSeq]
        have cmp : asB (eBin aNe (eCall fLen [(eVar 0)]) (eCall fLen [(eVar 1)])) (startE 3 [D.lst xs, D.lst ys]) ω = some (!(((xs.length : Int)) == (ys.length : Int)), ω) := rfl
        · by_cases h : xs.length = ys.length
          · refine sIf_f (w := ω) (by rw [cmp, h]; simp) ?_
            rw [W_sNil, after_nx, W_sRet]
            refine (eq_items (r__law_eq k) xs ys _ ω h hl.1 (.lst xs) (.lst ys) (.inr rfl) (.inr rfl) rfl (fun j h1 h2 w => seq xs ys ha hb hd hd2 hl.2 j h1 h2 w)).mono ?_
            rintro _ w ⟨rfl, rfl⟩
            simp [after, same]
          · refine sIf_t (w := ω) (by rw [cmp]; simp; omega) ?_
            rw [W_sRet, W_eC]
            have : sames xs ys = false := by
              cases e : sames xs ys with
              | false => rfl
              | true => exact absurd (sames_len xs ys e) h
            simp [after, same, this]
      | dic _ => simp [D.plain] at ha
      | tok => simp [D.plain] at ha
      | _ => exact ⟨_, _, rfl, by simp [same], rfl⟩
theorem eq_ok {a b : D} {ω : Om} (ha : a.plain = true) (hb : b.plain = true) (h1 : b.depth ≤ 8) (h2 : a.depth ≤ 60) (h3 : lens b = true) {Q : D → Om → Prop} (q : Q (.bl (same a b)) ω) : W (m__law_eq [a, b] ω) Q :=
  (law_eq_ok 9 a b ω ha hb (by omega) h2 h3).mono fun d w ⟨e1, e2⟩ => by rw [e1, e2]; exact q
end Pw
set_option Elab.async false
set_option linter.all false
set_option maxRecDepth 10000
/-! The plain part, 4: webs. -/
namespace Pw
open PySem
/-- a comprehension whose test or item may draw -/
inductive Sub2 {α : Type} (P : α → D → Prop) : List α → List D → Prop
  | nil : Sub2 P [] []
  | skip {x : α} {xs : List α} {ds : List D} : Sub2 P xs ds → Sub2 P (x :: xs) ds
  | take {x : α} {d : D} {xs : List α} {ds : List D} : P x d → Sub2 P xs ds → Sub2 P (x :: xs) (d :: ds)
theorem W_lcR {α : Type} {enc : α → D} {own : List Nat} {t : D → DEnv → M DEnv} {c : DEnv → M Bool} {e : DEnv → M D} {env : DEnv} {ω : Om} (xs : List α) (P : α → D → Prop)
    (step : ∀ x ∈ xs, ∀ w, W (t (enc x) (wipeE env own) w) fun e1 w1 => W (c e1 w1) fun b w2 => b = true → W (e e1 w2) (fun d w3 => P x d)) {S : List D → Om → Prop} (q : ∀ ds w, Sub2 P xs ds → S ds w) : W (lcD own t c e env (xs.map enc) ω) S := by
  have key : ∀ (xs : List α) (ω : Om), (∀ x ∈ xs, ∀ w, W (t (enc x) (wipeE env own) w) fun e1 w1 => W (c e1 w1) fun b w2 => b = true → W (e e1 w2) (fun d w3 => P x d)) → W (lcD own t c e env (xs.map enc) ω) fun ds w => Sub2 P xs ds := by
    intro xs
    induction xs with
    | nil => intro ω _; exact W_pure.mpr .nil
    | cons x xs ih =>
      intro ω hs
      show W ((t (enc x) (wipeE env own) >>= fun e1 => c e1 >>= fun b => (if b = true then (do let y ← e e1; let r ← lcD own t c e env (xs.map enc); pure (y :: r)) else lcD own t c e env (xs.map enc) : M (List D))) ω) _
      rw [W_bind]
      refine (hs x (List.mem_cons_self ..) ω).mono fun e1 w1 h1 => ?_
      rw [W_bind]
      refine h1.mono fun b w2 h2 => ?_
      have rest := fun w => ih w fun y hy => hs y (List.mem_cons_of_mem _ hy)
      cases b with
      | false => exact (rest w2).mono fun ds w h => .skip h
      | true =>
        show W ((e e1 >>= fun y => lcD own t c e env (xs.map enc) >>= fun r => pure (y :: r)) w2) _
        rw [W_bind]
        refine (h2 rfl).mono fun d w3 h3 => ?_
        rw [W_bind]
        exact (rest w3).mono fun ds w h => W_pure.mpr (.take h3 h)
  exact (key xs ω step).mono fun ds w h => q ds w h
theorem Sub2.len {α : Type} {P : α → D → Prop} : ∀ {xs : List α} {ds : List D}, Sub2 P xs ds → ds.length ≤ xs.length
  | _, _, .nil => Nat.le_refl _
  | _, _, .skip h => Nat.le_succ_of_le h.len
  | _, _, .take _ h => Nat.succ_le_succ h.len
theorem Sub2.mem {α : Type} {P : α → D → Prop} : ∀ {xs : List α} {ds : List D}, Sub2 P xs ds → ∀ d ∈ ds, ∃ x ∈ xs, P x d
  | _, _, .nil, d, h => by simp at h
  | _, _, .skip h, d, hd => by obtain ⟨x, hx, p⟩ := h.mem d hd; exact ⟨x, List.mem_cons_of_mem _ hx, p⟩
  | _, _, .take (x := x) p h, d, hd => by
    rcases List.mem_cons.mp hd with rfl | hd
    · exact ⟨x, List.mem_cons_self .., p⟩
    · obtain ⟨y, hy, p⟩ := h.mem d hd; exact ⟨y, List.mem_cons_of_mem _ hy, p⟩
/-- items that are told by their x -/
theorem Sub2.map {α : Type} {f : α → D} : ∀ {xs : List α} {ds : List D}, Sub2 (fun x d => d = f x) xs ds → ∃ ys : List α, ys.Sublist xs ∧ ds = ys.map f
  | _, _, .nil => ⟨[], .slnil, rfl⟩
  | _, _, .skip h => by obtain ⟨ys, h1, h2⟩ := h.map; exact ⟨ys, h1.cons _, h2⟩
  | _, _, .take (x := x) p h => by obtain ⟨ys, h1, h2⟩ := h.map; exact ⟨x :: ys, h1.cons₂ _, by rw [h2, p]; rfl⟩
theorem range_split {pre post : List Nat} {x N : Nat} (h : pre ++ x :: post = List.range N) : x = pre.length ∧ x < N ∧ pre = List.range x := by
  have h1 : (List.range N)[pre.length]? = some x := by rw [← h]; simp
  have h2 : pre.length < N := by
    have := (List.getElem?_eq_some_iff.mp h1).1; simpa using this
  rw [List.getElem?_range h2] at h1
  have hx : pre.length = x := by simpa using h1
  refine ⟨hx.symm, by omega, ?_⟩
  have h3 : (List.range N).take pre.length = pre := by rw [← h]; simp
  rw [← h3, List.take_range, hx]
  congr 1
  omega
theorem rangeD_nat {a b : Int} : rangeD a b = (List.range (b - a).toNat).map fun (i : Nat) => D.int (a + i) := rfl
/-! ### ties -/
def pairD (p : Int × Int) : D := .tup [.int p.1, .int p.2]
def tiesD (T : List (Int × Int)) : D := .tup (T.map pairD)
structure Web (n : Int) (T : List (Int × Int)) : Prop where
  ok : ∀ p ∈ T, 0 ≤ p.1 ∧ p.1 < p.2 ∧ p.2 < n
  nd : T.Nodup
  len : T.length ≤ 10000
theorem web_ok {n share : Int} {ω : Om} (h0 : 0 ≤ n) (h1 : n ≤ 64) (s0 : 0 < share) (s1 : share < 1073741824) {Q : D → Om → Prop} (q : ∀ T w, Web n T → Q (tiesD T) w) : W (m__law_web [.tok, .int n, .int share] ω) Q := by
  have hL : (LIM : Int) = 1000000 := rfl
  have hL' : LIM = 1000000 := rfl
  refine W_fn rfl ?_
  simp [startE]
  refine ⟨⟨by omega, by omega⟩, ?_⟩
  rw [rangeD_nat]
  refine W_for (fun (pre : List Nat) env w => ∃ (T : List (Int × Int)) (j k : Option D), env = [some .tok, some (.int n), some (.int share), some (.lst (T.map pairD)), j, k] ∧ (∀ p ∈ T, 0 ≤ p.1 ∧ p.1 < (pre.length : Int) ∧ p.1 < p.2 ∧ p.2 < n) ∧ T.Nodup ∧ T.length ≤ pre.length * 64) _ ⟨[], none, none, rfl, by simp, List.nodup_nil, by simp⟩ ?_ ?_
  · rintro pre x post env w hx ⟨T, j, k, rfl, hT, hnd, hlen⟩
    obtain ⟨rfl, hxn, _⟩ := range_split hx
    simp
    refine ⟨by omega, ?_⟩
    rw [rangeD_nat]
    refine W_lcR _ (fun (i : Nat) d => d = pairD ((pre.length : Int), (pre.length : Int) + 1 + i)) (fun i hi w => ?_) fun ds w hs => ?_
    · simp [wipeE]
      refine draw_ok s0 s1 fun v w v0 v1 => ?_
      simp [eqOk, D.plain, D.depth, D.deq, pairD]
      omega
    · obtain ⟨ys, hys, rfl⟩ := hs.map
      have hyl : ys.length ≤ 64 := by
        have := hys.length_le; simp at this; omega
      simp
      refine ⟨by omega, by omega, T ++ ys.map (fun (i : Nat) => ((pre.length : Int), (pre.length : Int) + 1 + (i : Int))), by simp, ?_, ?_, ?_⟩
      · intro a b hp
        rcases List.mem_append.mp hp with hp | hp
        · have := hT _ hp; simp at this; omega
        · obtain ⟨i, hi, e⟩ := List.mem_map.mp hp
          have := List.mem_range.mp (hys.subset hi)
          simp at e; omega
      · refine List.nodup_append.mpr ⟨hnd, ?_, ?_⟩
        · refine (List.Pairwise.map _ ?_ (hys.nodup List.nodup_range))
          intro a b hab q
          apply hab
          have := congrArg Prod.snd q
          simp at this; omega
        · intro p hp p' hp' e
          subst e
          have h1 := hT p hp
          obtain ⟨i, hi, rfl⟩ := List.mem_map.mp hp'
          simp at h1
      · simp only [List.length_append, List.length_map]; omega
  · rintro env w ⟨T, j, k, rfl, hT, hnd, hlen⟩
    simp
    refine q T w ⟨fun p hp => ?_, hnd, ?_⟩
    · have := hT p hp; omega
    · simp at hlen; omega
/-- a row of ties told by its numbers -/
theorem web_of {n : Int} {N : Nat} (f : Nat → Int × Int) (h : ∀ i, i < N → 0 ≤ (f i).1 ∧ (f i).1 < (f i).2 ∧ (f i).2 < n) (inj : ∀ i j, f i = f j → i = j) (hN : N ≤ 10000) : Web n ((List.range N).map f) := by
  refine ⟨fun p hp => ?_, ?_, by simpa using hN⟩
  · obtain ⟨i, hi, rfl⟩ := List.mem_map.mp hp
    exact h i (List.mem_range.mp hi)
  · exact List.Pairwise.map _ (fun a b hab q => hab (inj a b q)) List.nodup_range
theorem filter_true {α : Type} (xs : List α) : xs.filter (fun _ => true) = xs := by simp
def pathT (n : Int) : List (Int × Int) := (List.range (n - 1).toNat).map fun (i : Nat) => ((i : Int), (i : Int) + 1)
def starT (n : Int) : List (Int × Int) := (List.range (n - 1).toNat).map fun (i : Nat) => ((0 : Int), 1 + (i : Int))
theorem path_web {n : Int} (h1 : n ≤ 10000) : Web n (pathT n) := web_of _ (fun i hi => by simp; omega) (fun i j e => by simp at e; omega) (by omega)
theorem star_web {n : Int} (h1 : n ≤ 10000) : Web n (starT n) := web_of _ (fun i hi => by simp; omega) (fun i j e => by simp at e; omega) (by omega)
theorem path_ok {n : Int} {ω : Om} (h0 : 0 ≤ n) (h1 : n ≤ 10000) {Q : D → Om → Prop} (q : Q (tiesD (pathT n)) ω) : W (m__law_path [.int n] ω) Q := by
  have hL : (LIM : Int) = 1000000 := rfl
  have hL' : LIM = 1000000 := rfl
  refine W_fn rfl ?_
  simp [startE]
  refine ⟨by omega, ?_⟩
  rw [rangeD_nat]
  refine W_lc _ (fun _ => true) (fun (i : Nat) => pairD ((i : Int), (i : Int) + 1)) (fun i hi => ?_) ?_
  · simp [wipeE, pairD]
  · simp only [filter_true]
    simp
    refine ⟨by omega, ?_⟩
    simpa [tiesD, pathT, Function.comp_def] using q
theorem star_ok {n : Int} {ω : Om} (h0 : 0 ≤ n) (h1 : n ≤ 10000) {Q : D → Om → Prop} (q : Q (tiesD (starT n)) ω) : W (m__law_star [.int n] ω) Q := by
  have hL : (LIM : Int) = 1000000 := rfl
  have hL' : LIM = 1000000 := rfl
  refine W_fn rfl ?_
  simp [startE]
  refine ⟨by omega, ?_⟩
  rw [rangeD_nat]
  refine W_lc _ (fun _ => true) (fun (i : Nat) => pairD ((0 : Int), 1 + (i : Int))) (fun i hi => ?_) ?_
  · simp [wipeE, pairD]
  · simp only [filter_true]
    simp
    refine ⟨by omega, ?_⟩
    simpa [tiesD, starT, Function.comp_def] using q
theorem whole_ok {n : Int} {ω : Om} (h0 : 0 ≤ n) (h1 : n ≤ 64) {Q : D → Om → Prop} (q : ∀ T, Web n T → (∀ a b : Int, 0 ≤ a → a < b → b < n → (a, b) ∈ T) → Q (tiesD T) ω) : W (m__law_whole [.int n] ω) Q := by
  have hL : (LIM : Int) = 1000000 := rfl
  have hL' : LIM = 1000000 := rfl
  refine W_fn rfl ?_
  simp [startE]
  refine ⟨by omega, ?_⟩
  rw [rangeD_nat]
  refine W_for (fun (pre : List Nat) env w => w = ω ∧ ∃ (T : List (Int × Int)) (j k : Option D), env = [some (.int n), some (.lst (T.map pairD)), j, k] ∧ (∀ p ∈ T, 0 ≤ p.1 ∧ p.1 < (pre.length : Int) ∧ p.1 < p.2 ∧ p.2 < n) ∧ T.Nodup ∧ T.length ≤ pre.length * 64 ∧ (∀ a b : Int, 0 ≤ a → a < pre.length → a < b → b < n → (a, b) ∈ T)) _ ⟨rfl, [], none, none, rfl, by simp, List.nodup_nil, by simp, by simp; omega⟩ ?_ ?_
  · rintro pre x post env w hx ⟨rfl, T, j, k, rfl, hT, hnd, hlen, hall⟩
    obtain ⟨rfl, hxn, _⟩ := range_split hx
    simp
    refine ⟨by omega, ?_⟩
    rw [rangeD_nat]
    refine W_lc _ (fun _ => true) (fun (i : Nat) => pairD ((pre.length : Int), (pre.length : Int) + 1 + i)) (fun i hi => ?_) ?_
    · simp [wipeE, pairD]
    · simp only [filter_true]
      simp
      refine ⟨by omega, by omega, T ++ (List.range (n - (↑pre.length + 1)).toNat).map (fun (i : Nat) => ((pre.length : Int), (pre.length : Int) + 1 + (i : Int))), by simp [Function.comp_def], ?_, ?_, ?_, ?_⟩
      · intro a b hp
        rcases List.mem_append.mp hp with hp | hp
        · have := hT _ hp; simp at this; omega
        · obtain ⟨i, hi, e⟩ := List.mem_map.mp hp
          have := List.mem_range.mp hi
          simp at e; omega
      · refine List.nodup_append.mpr ⟨hnd, ?_, ?_⟩
        · refine (List.Pairwise.map _ ?_ List.nodup_range)
          intro a b hab q
          apply hab
          have := congrArg Prod.snd q
          simp at this; omega
        · intro p hp p' hp' e
          subst e
          have h1 := hT p hp
          obtain ⟨i, hi, rfl⟩ := List.mem_map.mp hp'
          simp at h1
      · simp only [List.length_append, List.length_map, List.length_range]; omega
      · intro a b a0 a1 ab bn
        rw [List.mem_append]
        by_cases h : a < pre.length
        · exact .inl (hall a b a0 h ab bn)
        · right
          rw [List.mem_map]
          refine ⟨(b - (pre.length + 1)).toNat, List.mem_range.mpr (by omega), ?_⟩
          simp; omega
  · rintro env w ⟨rfl, T, j, k, rfl, hT, hnd, hlen, hall⟩
    simp
    refine q T ⟨fun p hp => ?_, hnd, ?_⟩ fun a b a0 ab bn => hall a b a0 (by simp; omega) ab bn
    · have := hT p hp; omega
    · simp at hlen; omega
/-! ### sorted pairs -/
def ple (p q : Int × Int) : Bool := decide (p.1 < q.1 ∨ p.1 = q.1 ∧ p.2 ≤ q.2)
def psort (T : List (Int × Int)) : List (Int × Int) := T.mergeSort ple
theorem dle_pair (p q : Int × Int) : dle (pairD p) (pairD q) = ple p q := by
  have := congrFun (congrFun (PySem.W.dataLe_ii (β := Int × Int) (·.1) (·.2)) p) q
  exact this
theorem sort_pair (T : List (Int × Int)) : (T.map pairD).mergeSort dle = (psort T).map pairD :=
  (PySem.W.sort_maps pairD fun a _ b _ => (dle_pair a b).symm).symm
theorem plains_pair (T : List (Int × Int)) : D.plains (T.map pairD) = true := by
  induction T with
  | nil => rfl
  | cons p T ih => simp [D.plains, D.plain, pairD, ih]
theorem depths_pair (T : List (Int × Int)) : D.depths (T.map pairD) ≤ 1 := by
  induction T with
  | nil => decide
  | cons p T ih => simp only [List.map_cons, D.depths, pairD, D.depth]; omega
theorem sortOk_pair {T : List (Int × Int)} (h : T.length ≤ LIM) : sortOk (T.map pairD) = true := by
  unfold sortOk
  have hd := depths_pair T
  simp only [plains_pair, List.length_map, Bool.true_and, Bool.and_eq_true, Bool.or_eq_true, decide_eq_true_eq]
  refine ⟨⟨⟨?_, .inl ?_⟩, by omega⟩, h⟩
  · simp only [List.all_eq_true, List.mem_map]
    rintro _ ⟨a, _, rfl⟩ _ ⟨b, _, rfl⟩
    rfl
  · simp only [List.all_eq_true, List.mem_map]
    rintro _ ⟨a, _, rfl⟩
    rfl
theorem W_sortP {T : List (Int × Int)} {Q : D → Om → Prop} {ω : Om} (h : T.length ≤ LIM) (q : Q (.lst ((psort T).map pairD)) ω) : W (fSort [.lst (T.map pairD)] ω) Q := by
  rw [W_sort, sort_pair]; exact ⟨sortOk_pair h, q⟩
theorem psort_perm (T : List (Int × Int)) : (psort T).Perm T := List.mergeSort_perm T _
theorem Web.perm {n : Int} {T T' : List (Int × Int)} (h : Web n T) (p : T'.Perm T) : Web n T' :=
  ⟨fun x hx => h.ok x (p.mem_iff.mp hx), p.nodup_iff.mpr h.nd, by rw [p.length_eq]; exact h.len⟩
def ringT (n : Int) : List (Int × Int) := psort (pathT n ++ [(0, n - 1)])
theorem ring_web {n : Int} (h0 : 2 < n) (h1 : n ≤ 5000) : Web n (ringT n) := by
  have h := path_web (n := n) (by omega)
  refine Web.perm (T := pathT n ++ [(0, n - 1)]) ⟨fun p hp => ?_, ?_, ?_⟩ (psort_perm _)
  · rcases List.mem_append.mp hp with hp | hp
    · exact h.ok p hp
    · simp at hp; subst hp; simp; omega
  · refine List.nodup_append.mpr ⟨h.nd, by simp, fun a ha b hb e => ?_⟩
    simp at hb
    subst hb
    subst e
    unfold pathT at ha
    obtain ⟨i, hi, e⟩ := List.mem_map.mp ha
    simp at e; omega
  · simp [pathT]; omega
theorem ring_ok {n : Int} {ω : Om} (h0 : 0 ≤ n) (h1 : n ≤ 5000) {Q : D → Om → Prop} (q : Q (tiesD (ringT n)) ω) : W (m__law_ring [.int n] ω) Q := by
  have hL : (LIM : Int) = 1000000 := rfl
  have hL' : LIM = 1000000 := rfl
  refine W_fn rfl ?_
  simp [startE]
  refine ⟨by omega, ?_⟩
  rw [rangeD_nat]
  refine W_lc _ (fun _ => true) (fun (i : Nat) => pairD ((i : Int), (i : Int) + 1)) (fun i hi => ?_) ?_
  · simp [wipeE, pairD]
  · simp only [filter_true]
    have e : (List.map (fun (i : Nat) => pairD ((i : Int), (i : Int) + 1)) (List.range (n - 1 - 0).toNat)) ++ [pairD (0, n - 1)] = (pathT n ++ [(0, n - 1)]).map pairD := by
      simp [pathT, Function.comp_def]
    have hz := (sortOk_pair (T := pathT n ++ [(0, n - 1)]) (by simp [pathT]; omega))
    rw [← e] at hz
    have hs := sort_pair (pathT n ++ [(0, n - 1)])
    rw [← e] at hs
    simp only [pairD] at hz hs
    simp [pairD] at hz hs ⊢
    refine ⟨by omega, by omega, hz, ?_⟩
    rw [hs]
    simpa [tiesD, ringT, Function.comp_def] using q
end Pw
set_option Elab.async false
set_option linter.all false
set_option maxRecDepth 10000
/-! The plain part, 5: sets as whole numbers. -/
namespace Pw
open PySem
theorem add_bit : ∀ (i a b : Nat), (∀ j, ¬(a.testBit j = true ∧ b.testBit j = true)) → (a + b).testBit i = (a.testBit i || b.testBit i) := by
  intro i
  induction i with
  | zero =>
    intro a b h
    have := h 0
    simp only [Nat.testBit_zero, decide_eq_true_eq] at this ⊢
    rw [Bool.eq_iff_iff]
    simp only [Bool.or_eq_true, decide_eq_true_eq]
    omega
  | succ i ih =>
    intro a b h
    have h0 := h 0
    simp only [Nat.testBit_zero, decide_eq_true_eq] at h0
    rw [Nat.testBit_succ, Nat.testBit_succ, Nat.testBit_succ, show (a + b) / 2 = a / 2 + b / 2 by omega]
    refine ih _ _ fun j => ?_
    rw [← Nat.testBit_succ, ← Nat.testBit_succ]
    exact h (j + 1)
theorem sub_bit (a b i : Nat) : (a - (a &&& b)).testBit i = (a.testBit i && !b.testBit i) := by
  have e : a = (a &&& b) + (a ^^^ (a &&& b)) := by
    apply Nat.eq_of_testBit_eq
    intro j
    rw [add_bit]
    · simp only [Nat.testBit_and, Nat.testBit_xor]
      cases a.testBit j <;> cases b.testBit j <;> rfl
    · intro k
      simp only [Nat.testBit_and, Nat.testBit_xor]
      cases a.testBit k <;> cases b.testBit k <;> simp
  have e2 : a - (a &&& b) = a ^^^ (a &&& b) := by
    have h := congrArg (fun z => z - (a &&& b)) e
    simp only [Nat.add_sub_cancel_left] at h
    exact h
  rw [e2]
  simp only [Nat.testBit_and, Nat.testBit_xor]
  cases a.testBit i <;> cases b.testBit i <;> rfl
theorem bitAnd_nat (a b : Nat) : Builtin.bitAnd (a : Int) (b : Int) = ((a &&& b : Nat) : Int) := by
  simp [Builtin.bitAnd]
theorem bitOr_nat (a b : Nat) : Builtin.bitOr (a : Int) (b : Int) = ((a ||| b : Nat) : Int) := by
  unfold Builtin.bitOr Builtin.bitAnd Builtin.bitNot
  have h1 : decide (0 ≤ -(a : Int) - 1) = false := by simp; omega
  have h2 : decide (0 ≤ -(b : Int) - 1) = false := by simp; omega
  rw [h1, h2]
  simp only []
  have e1 : (-(-(a : Int) - 1) - 1).toNat = a := by omega
  have e2 : (-(-(b : Int) - 1) - 1).toNat = b := by omega
  rw [e1, e2]
  omega
theorem bitAndNot_nat (a b : Nat) : Builtin.bitAnd (a : Int) (Builtin.bitNot (b : Int)) = ((a - (a &&& b) : Nat) : Int) := by
  unfold Builtin.bitAnd Builtin.bitNot
  have h1 : decide (0 ≤ (a : Int)) = true := by simp
  have h2 : decide (0 ≤ -(b : Int) - 1) = false := by simp; omega
  rw [h1, h2]
  simp only []
  have e2 : (-(-(b : Int) - 1) - 1).toNat = b := by omega
  rw [e2, Int.toNat_natCast]
  have : a &&& b ≤ a := Nat.and_le_left
  omega
/-- the number m is the set L -/
def Mask (m : Int) (L : List Int) : Prop := ∃ k : Nat, m = (k : Int) ∧ ∀ i : Nat, k.testBit i = decide ((i : Int) ∈ L)
theorem Mask.nil : Mask 0 [] := ⟨0, rfl, fun i => by simp⟩
theorem Mask.ext {m : Int} {L L' : List Int} (h : Mask m L) (e : ∀ i : Nat, (i : Int) ∈ L ↔ (i : Int) ∈ L') : Mask m L' := by
  obtain ⟨k, rfl, hk⟩ := h
  exact ⟨k, rfl, fun i => by rw [hk i]; exact decide_eq_decide.mpr (e i)⟩
theorem Mask.one {x : Int} (h : 0 ≤ x) : Mask (1 * 2 ^ x.toNat) [x] := by
  refine ⟨2 ^ x.toNat, by simp, fun i => ?_⟩
  rw [Nat.testBit_two_pow]
  simp only [List.mem_singleton]
  exact decide_eq_decide.mpr (by omega)
theorem Mask.or {a b : Int} {A B : List Int} (ha : Mask a A) (hb : Mask b B) : Mask (Builtin.bitOr a b) (A ++ B) := by
  obtain ⟨k, rfl, hk⟩ := ha
  obtain ⟨l, rfl, hl⟩ := hb
  refine ⟨k ||| l, bitOr_nat k l, fun i => ?_⟩
  rw [Nat.testBit_or, hk, hl]
  simp
theorem Mask.and {a b : Int} {A B : List Int} (ha : Mask a A) (hb : Mask b B) : Mask (Builtin.bitAnd a b) (A.filter fun x => decide (x ∈ B)) := by
  obtain ⟨k, rfl, hk⟩ := ha
  obtain ⟨l, rfl, hl⟩ := hb
  refine ⟨k &&& l, bitAnd_nat k l, fun i => ?_⟩
  rw [Nat.testBit_and, hk, hl]
  simp [List.mem_filter]
theorem Mask.off {a b : Int} {A B : List Int} (ha : Mask a A) (hb : Mask b B) : Mask (Builtin.bitAnd a (oInv b)) (A.filter fun x => decide (x ∉ B)) := by
  obtain ⟨k, rfl, hk⟩ := ha
  obtain ⟨l, rfl, hl⟩ := hb
  refine ⟨k - (k &&& l), bitAndNot_nat k l, fun i => ?_⟩
  rw [sub_bit, hk, hl]
  simp [List.mem_filter]
theorem Mask.eq {a b : Int} {A B : List Int} (ha : Mask a A) (hb : Mask b B) : a = b ↔ ∀ i : Nat, (i : Int) ∈ A ↔ (i : Int) ∈ B := by
  obtain ⟨k, rfl, hk⟩ := ha
  obtain ⟨l, rfl, hl⟩ := hb
  constructor
  · intro e i
    have : k = l := by omega
    subst this
    have := (hk i).symm.trans (hl i)
    simpa using this
  · intro e
    have : k = l := Nat.eq_of_testBit_eq fun i => by rw [hk, hl]; exact decide_eq_decide.mpr (e i)
    rw [this]
theorem Mask.zero {a : Int} {A : List Int} (ha : Mask a A) : a = 0 ↔ ∀ i : Nat, (i : Int) ∉ A := by
  rw [ha.eq Mask.nil]
  simp
theorem Mask.test {a p : Int} {A : List Int} (ha : Mask a A) (hp : 0 ≤ p) : Builtin.bitAnd (a / 2 ^ p.toNat) 1 = if p ∈ A then 1 else 0 := by
  obtain ⟨k, rfl, hk⟩ := ha
  have e : (k : Int) / 2 ^ p.toNat = ((k / 2 ^ p.toNat : Nat) : Int) := by simp
  rw [e, show (1 : Int) = ((1 : Nat) : Int) from rfl, bitAnd_nat, Nat.and_one_is_mod]
  have h := hk p.toNat
  rw [Nat.testBit_eq_decide_div_mod_eq, Int.toNat_of_nonneg hp] at h
  by_cases hm : p ∈ A
  · simp only [hm, decide_true, decide_eq_true_eq] at h
    rw [if_pos hm, h]
  · simp only [hm, decide_false, decide_eq_false_iff_not] at h
    rw [if_neg hm]
    have : k / 2 ^ p.toNat % 2 = 0 := by omega
    rw [this]; rfl
theorem Mask.nonneg {a : Int} {A : List Int} (ha : Mask a A) : 0 ≤ a := by obtain ⟨k, rfl, _⟩ := ha; omega
theorem Mask.sum : ∀ {L : List Int}, L.Nodup → (∀ x ∈ L, 0 ≤ x) → Mask (L.map fun x => 1 * 2 ^ x.toNat).sum L
  | [], _, _ => Mask.nil
  | x :: L, hn, h0 => by
    obtain ⟨h1, h2⟩ := List.nodup_cons.mp hn
    obtain ⟨k, hk, hb⟩ := Mask.sum h2 fun y hy => h0 y (List.mem_cons_of_mem _ hy)
    have hx := h0 x (List.mem_cons_self ..)
    refine ⟨2 ^ x.toNat + k, ?_, fun i => ?_⟩
    · rw [List.map_cons, List.sum_cons, hk]; simp
    · rw [add_bit]
      · rw [hb, Nat.testBit_two_pow]
        simp only [List.mem_cons]
        rw [Bool.eq_iff_iff]
        simp only [Bool.or_eq_true, decide_eq_true_eq]
        have : x.toNat = i ↔ (i : Int) = x := by omega
        rw [this]
      · intro j
        rw [hb, Nat.testBit_two_pow]
        simp only [decide_eq_true_eq, not_and]
        rintro rfl hm
        rw [Int.toNat_of_nonneg hx] at hm
        exact h1 hm
/-! ### neighbours -/
def nbs (T : List (Int × Int)) (x : Int) : List Int := (T.filter fun p => decide (p.1 = x) || decide (p.2 = x)).map fun p => p.1 + p.2 - x
def nb (T : List (Int × Int)) (x : Int) : List Int := isort (nbs T x)
theorem beside_ok {T : List (Int × Int)} {x : Int} {ω : Om} (hz : T.length ≤ LIM) {Q : D → Om → Prop} (q : Q (.lst ((nb T x).map .int)) ω) : W (m_beside [tiesD T, .int x] ω) Q := by
  refine W_fn rfl ?_
  simp [startE, tiesD]
  refine W_lc T (fun p => decide (p.1 = x) || decide (p.2 = x)) (fun p => .int (p.1 + p.2 - x)) (fun p hp => ?_) ?_
  · simp [wipeE, pairD]
    have : inOk (.int x) [.int p.1, .int p.2] = true := rfl
    have h2 : dmem (.int x) [.int p.1, .int p.2] = (decide (p.1 = x) || decide (p.2 = x)) := by
      simp [dmem, D.deq]
      rfl
    simp [this, h2]
    omega
  · have e : ((T.filter fun p => decide (p.1 = x) || decide (p.2 = x)).map fun p => D.int (p.1 + p.2 - x)) = (nbs T x).map .int := by
      simp [nbs, Function.comp_def]
    rw [e]
    have hl : (nbs T x).length ≤ LIM := by
      simp only [nbs, List.length_map]
      exact Nat.le_trans (List.length_filter_le _ _) hz
    refine ⟨by simpa using hl, sortOk_int hl, ?_⟩
    rw [sort_int]
    exact q
theorem law_beside_ok {T : List (Int × Int)} {x : Int} {ω : Om} (hz : T.length ≤ LIM) {Q : D → Om → Prop} (q : Q (.lst ((nb T x).map .int)) ω) : W (m__law_beside [tiesD T, .int x] ω) Q := by
  refine W_fn rfl ?_
  simp [startE, tiesD]
  refine W_lc T (fun p => decide (p.1 = x) || decide (p.2 = x)) (fun p => .int (p.1 + p.2 - x)) (fun p hp => ?_) ?_
  · simp [wipeE, pairD]
    have : inOk (.int x) [.int p.1, .int p.2] = true := rfl
    have h2 : dmem (.int x) [.int p.1, .int p.2] = (decide (p.1 = x) || decide (p.2 = x)) := by
      simp [dmem, D.deq]
      rfl
    simp [this, h2]
    omega
  · have e : ((T.filter fun p => decide (p.1 = x) || decide (p.2 = x)).map fun p => D.int (p.1 + p.2 - x)) = (nbs T x).map .int := by
      simp [nbs, Function.comp_def]
    rw [e]
    have hl : (nbs T x).length ≤ LIM := by
      simp only [nbs, List.length_map]
      exact Nat.le_trans (List.length_filter_le _ _) hz
    refine ⟨by simpa using hl, sortOk_int hl, ?_⟩
    rw [sort_int]
    exact q
theorem mem_nb {T : List (Int × Int)} {x y : Int} : y ∈ nb T x ↔ (x, y) ∈ T ∨ (y, x) ∈ T := by
  unfold nb nbs
  rw [mem_isort, List.mem_map]
  constructor
  · rintro ⟨p, hp, rfl⟩
    obtain ⟨h1, h2⟩ := List.mem_filter.mp hp
    simp only [Bool.or_eq_true, decide_eq_true_eq] at h2
    obtain ⟨a, b⟩ := p
    simp only at h2 ⊢
    rcases h2 with rfl | rfl
    · left; rw [show a + b - a = b by omega]; exact h1
    · right; rw [show a + b - b = a by omega]; exact h1
  · rintro (h | h)
    · exact ⟨(x, y), List.mem_filter.mpr ⟨h, by simp⟩, by simp; omega⟩
    · exact ⟨(y, x), List.mem_filter.mpr ⟨h, by simp⟩, by simp⟩
theorem nb_bd {n : Int} {T : List (Int × Int)} (h : Web n T) {x y : Int} (hy : y ∈ nb T x) : 0 ≤ y ∧ y < n := by
  rcases mem_nb.mp hy with hy | hy
  · have := h.ok _ hy; simp at this; omega
  · have := h.ok _ hy; simp at this; omega
theorem nb_nodup {n : Int} {T : List (Int × Int)} (h : Web n T) (x : Int) : (nb T x).Nodup := by
  unfold nb nbs
  rw [(isort_perm _).nodup_iff]
  refine List.Pairwise.map _ ?_ ((h.nd.filter _).imp_of_mem (S := fun p q => p ≠ q ∧ (p.1 = x ∨ p.2 = x) ∧ (q.1 = x ∨ q.2 = x) ∧ p.1 < p.2 ∧ q.1 < q.2) ?_)
  · rintro ⟨a, b⟩ ⟨c, d⟩ ⟨h1, h2, h3, h4, h5⟩ e
    simp only at h1 h2 h3 h4 h5 e
    apply h1
    have : a = c ∧ b = d := by omega
    rw [this.1, this.2]
  · intro p q hp hq hpq
    obtain ⟨p1, p2⟩ := List.mem_filter.mp hp
    obtain ⟨q1, q2⟩ := List.mem_filter.mp hq
    have b1 := h.ok p p1
    have b2 := h.ok q q1
    simp only [Bool.or_eq_true, decide_eq_true_eq] at p2 q2
    exact ⟨hpq, p2, q2, by omega, by omega⟩
/-- the whole row of neighbours as masks -/
def nearD (T : List (Int × Int)) (N : Nat) : List Int := (List.range N).map fun (i : Nat) => ((nb T i).map fun x => 1 * 2 ^ x.toNat).sum
theorem near_of_ok {n : Int} {T : List (Int × Int)} {ω : Om} (hw : Web n T) (h0 : 0 ≤ n) (h1 : n ≤ 1000) {Q : D → Om → Prop} (q : Q (.lst ((nearD T n.toNat).map .int)) ω) : W (m_near_of [.int n, tiesD T] ω) Q := by
  have hL : (LIM : Int) = 1000000 := rfl
  have hL' : LIM = 1000000 := rfl
  have hlen := hw.len
  refine W_fn rfl ?_
  simp [startE]
  refine ⟨by omega, ?_⟩
  rw [rangeD_nat]
  refine W_lc _ (fun _ => true) (fun (i : Nat) => .int ((nb T i).map fun x => 1 * 2 ^ x.toNat).sum) (fun i hi => ?_) ?_
  · simp [wipeE]
    refine beside_ok (by omega) ?_
    simp
    refine W_lc (nb T i) (fun _ => true) (fun x => .int (1 * 2 ^ x.toNat)) (fun x hx => ?_) ?_
    · have := nb_bd hw hx
      simp [wipeE]
      omega
    · have hl : (nb T (i : Int)).length ≤ LIM := by
        unfold nb nbs
        rw [isort_len, List.length_map]
        exact Nat.le_trans (List.length_filter_le _ _) (by omega)
      have e : (nb T (i : Int)).map (fun x => D.int (1 * 2 ^ x.toNat)) = ((nb T (i : Int)).map fun x => 1 * 2 ^ x.toNat).map .int := by simp [Function.comp_def]
      simp only [filter_true]
      rw [e, W_sum]
      simpa using hl
  · simp only [filter_true]
    refine ⟨by simp; omega, ?_⟩
    simpa [nearD, Function.comp_def] using q
theorem near_mask {n : Int} {T : List (Int × Int)} (hw : Web n T) (x : Int) : Mask ((nb T x).map fun x => 1 * 2 ^ x.toNat).sum (nb T x) :=
  Mask.sum (nb_nodup hw x) fun y hy => (nb_bd hw hy).1
/-- one spread: who is reached -/
def stepL (T : List (Int × Int)) (B Hd : List Int) : List Int := B ++ B.flatMap fun x => (nb T x).filter fun y => decide (y ∉ Hd)
theorem enumD_range (f : Nat → D) (N : Nat) : enumD ((List.range N).map f) = (List.range N).map fun (i : Nat) => D.tup [.int i, f i] := by
  unfold enumD
  refine List.ext_getElem? fun i => ?_
  rw [List.getElem?_zipWith, List.length_map, List.length_range, List.getElem?_map, List.getElem?_map]
  by_cases h : i < N
  · rw [List.getElem?_range h]; rfl
  · rw [List.getElem?_eq_none (by simpa using h)]; rfl
theorem spread_ok {n : Int} {T : List (Int × Int)} {ω : Om} (hw : Web n T) (h0 : 0 ≤ n) {b h : Int} {B Hd : List Int} (hb : Mask b B) (hh : Mask h Hd) (hB : ∀ x ∈ B, 0 ≤ x ∧ x < n) {Q : D → Om → Prop} (q : ∀ m, Mask m (stepL T B Hd) → Q (.int m) ω) : W (m_spread [.lst ((nearD T n.toNat).map .int), .int b, .int h] ω) Q := by
  refine W_fn rfl ?_
  have e : ((nearD T n.toNat).map D.int) = (List.range n.toNat).map fun (i : Nat) => D.int ((nb T i).map fun x => 1 * 2 ^ x.toNat).sum := by simp [nearD, Function.comp_def]
  rw [e]
  simp only [startE, W_sSeq, W_sAsg, W_var]
  refine ⟨_, rfl, ?_⟩
  rw [after_nx, W_sSeq, W_sFor, W_eEnum, W_var]
  refine ⟨_, rfl, _, rfl, ?_⟩
  rw [enumD_range]
  refine W_for (fun (pre : List Nat) env w => w = ω ∧ ∃ (m : Int) (j k x : Option D), env = [x, some (.int b), some (.int h), some (.int m), j, k] ∧ Mask m (B ++ pre.flatMap fun i => if ((i : Nat) : Int) ∈ B then (nb T i).filter (fun y => decide (y ∉ Hd)) else [])) _ ⟨rfl, b, none, none, _, rfl, by simpa using hb⟩ ?_ ?_
  · rintro pre x post env w hx ⟨rfl, m, j, k, z, rfl, hm⟩
    have ht := hb.test (p := (x : Int)) (by omega)
    have hn := near_mask hw (x : Int)
    have hu := hm.or (hn.off hh)
    simp only [Int.one_mul, Int.toNat_natCast] at ht hu
    by_cases hxB : (x : Int) ∈ B
    · rw [if_pos hxB] at ht
      simp [eqOk, D.plain, D.depth, D.deq, ht]
      refine hu.ext fun i => ?_
      simp [hxB]
    · rw [if_neg hxB] at ht
      simp [eqOk, D.plain, D.depth, D.deq, ht]
      refine hm.ext fun i => ?_
      simp [hxB]
  · rintro env w ⟨rfl, m, j, k, z, rfl, hm⟩
    simp
    refine q m (hm.ext fun i => ?_)
    unfold stepL
    simp only [List.mem_append, List.mem_flatMap, List.mem_range]
    refine or_congr Iff.rfl ⟨?_, ?_⟩
    · rintro ⟨a, _, ha⟩
      by_cases h : ((a : Nat) : Int) ∈ B
      · rw [if_pos h] at ha; exact ⟨_, h, ha⟩
      · rw [if_neg h] at ha; simp at ha
    · rintro ⟨a, ha, hi⟩
      have := hB a ha
      refine ⟨a.toNat, by omega, ?_⟩
      rw [Int.toNat_of_nonneg this.1, if_pos ha]
      exact hi
end Pw
set_option Elab.async false
set_option linter.all false
set_option maxRecDepth 10000
/-! Plain rules for dicts. -/
namespace Pw
open PySem
section
variable {Q : D → Om → Prop} {R : Fl → Om → Prop} {env : DEnv} {ω : Om}
@[simp] theorem W_eDic {k : List (D × D) → List D} {i : Nat} {S : List D → Om → Prop} : W (eDic k i env ω) S ↔ ∃ kvs, env[i]? = some (some (.dic kvs)) ∧ S (k kvs) ω := by
  unfold eDic
  rw [W_bind, W_getE]
  constructor
  · rintro ⟨d, h, q⟩
    cases d with
    | dic kvs => exact ⟨kvs, h, W_pure.mp q⟩
    | _ => exact (W_fail.mp q).elim
  · rintro ⟨kvs, h, q⟩
    exact ⟨_, h, W_pure.mpr q⟩
@[simp] theorem W_eDic1 {mk mv : DEnv → M D} : W (eDic1 mk mv env ω) Q ↔ W (mk env ω) fun k w => W (mv env w) fun v w' => keyOk [] k = true ∧ Q (.dic [(k, v)]) w' := by
  unfold eDic1
  simp only [W_bind]
  constructor <;> rintro ⟨k, w, h1, v, w', h2, q⟩ <;> refine ⟨k, w, h1, v, w', h2, ?_⟩
  · exact W_if.mp q
  · exact W_if.mpr q
@[simp] theorem W_sPut {i : Nat} {mk mv : DEnv → M D} : W (sPut i mk mv env ω) R ↔ W (mv env ω) fun v w => W (mk env w) fun k w' => ∃ d, env[i]? = some (some d) ∧ W (kSet d k v w') fun d' w'' => R (.nx (env.set i (some d'))) w'' := by
  unfold sPut
  simp only [W_bind, W_pure, W_getE]
@[simp] theorem W_sMove {i j : Nat} : W (sMove i j env ω) R ↔ ∃ d, env[j]? = some (some d) ∧ R (.nx ((env.set j none).set i (some d))) ω := by
  unfold sMove
  simp only [W_bind, W_pure, W_getE]
@[simp] theorem W_kSetD {kvs : List (D × D)} {k v : D} : W (kSet (.dic kvs) k v ω) Q ↔ (keyOk kvs k = true ∧ kvs.length < LIM) ∧ Q (.dic (dput kvs k v)) ω := W_if' (by cases k <;> rfl)
@[simp] theorem W_ninD {kvs : List (D × D)} {k : D} : W (oNotIn k (.dic kvs) ω) Q ↔ keyOk kvs k = true ∧ Q (.bl (!(dget kvs k).isSome)) ω := W_if' (by cases k <;> rfl)
@[simp] theorem W_inD {kvs : List (D × D)} {k : D} : W (oIn k (.dic kvs) ω) Q ↔ keyOk kvs k = true ∧ Q (.bl (dget kvs k).isSome) ω := W_if' (by cases k <;> rfl)
end
/-- a key of two ints -/
def pk (p : Int × Int) : D := .tup [.int p.1, .int p.2]
theorem keq_pk (p q : Int × Int) : keq (pk p) (pk q) = decide (p = q) := by
  obtain ⟨a, b⟩ := p
  obtain ⟨c, d⟩ := q
  have e : ((pk (a, b)).keyT = some (.tup [.num a, .num b])) ∧ ((pk (c, d)).keyT = some (.tup [.num c, .num d])) := ⟨rfl, rfl⟩
  rw [keq_of e.1 e.2]
  refine decide_eq_decide.mpr ⟨fun h => ?_, fun h => ?_⟩
  · injection h with h; injection h with h1 h; injection h with h2 h; injection h1 with h1; injection h2 with h2; rw [h1, h2]
  · injection h with h1 h2; rw [h1, h2]
theorem dget_pk {α : Type} (kf : α → Int × Int) (vf : α → D) (xs : List α) (k : Int × Int) : (dget (xs.map fun x => (pk (kf x), vf x)) (pk k)).isSome = decide (k ∈ xs.map kf) := by
  unfold dget
  rw [Option.isSome_map]
  rw [Bool.eq_iff_iff, List.find?_isSome, decide_eq_true_iff]
  simp only [List.mem_map]
  constructor
  · rintro ⟨p, ⟨x, hx, rfl⟩, h⟩
    rw [keq_pk] at h
    exact ⟨x, hx, of_decide_eq_true h⟩
  · rintro ⟨x, hx, rfl⟩
    exact ⟨_, ⟨x, hx, rfl⟩, by rw [keq_pk]; simp⟩
theorem keyOk_pk {α : Type} (kf : α → Int × Int) (vf : α → D) (xs : List α) (k : Int × Int) : keyOk (xs.map fun x => (pk (kf x), vf x)) (pk k) = true := by
  cases xs <;> rfl
theorem dput_pk {α : Type} (kf : α → Int × Int) (vf : α → D) (xs : List α) (x : α) (h : kf x ∉ xs.map kf) : dput (xs.map fun x => (pk (kf x), vf x)) (pk (kf x)) (vf x) = (xs ++ [x]).map fun x => (pk (kf x), vf x) := by
  unfold dput
  rw [dget_pk, decide_eq_false h]
  simp
/-- so many distinct numbers below N -/
theorem nodup_len : ∀ (N : Nat) (L : List Nat), L.Nodup → (∀ x ∈ L, x < N) → L.length ≤ N
  | 0, L, _, h => by cases L with
    | nil => simp
    | cons x L => exact absurd (h x (by simp)) (by omega)
  | N + 1, L, nd, h => by
    have ih := nodup_len N (L.erase N) (nd.erase N) fun x hx => by
      have := h x (List.mem_of_mem_erase hx)
      have hne : x ≠ N := fun e => by subst e; exact (nd.not_mem_erase hx)
      omega
    have := List.length_erase (a := N) (l := L)
    split at this <;> omega
end Pw
set_option Elab.async false
set_option linter.all false
set_option maxRecDepth 10000
namespace Pw
open PySem
theorem named_ok {m : Int} {ω : Om} (h0 : 0 < m) (h1 : m ≤ 60) {Q : D → Om → Prop} (q : ∀ n T w, 1 ≤ n → n ≤ m → Web n T → Q (.tup [.int n, tiesD T]) w) : W (m__law_named [.tok, .int m] ω) Q := by
  refine W_fn rfl ?_
  simp only [startE, W_sSeq, W_sAsg, W_bin, W_eC, W_call, W_evs1, W_evs0, W_var]
  refine ⟨_, rfl, _, rfl, ?_⟩
  refine draw_ok h0 (by omega) fun v w hv0 hv1 => ?_
  rw [W_add]
  try rw [after_nx]
  simp only [W_sSeq, W_sAsg, W_call, W_evs1, W_evs0, W_var, W_eC, W_lst]
  refine ⟨_, rfl, _, rfl, _, rfl, ?_⟩
  refine web_ok (n := 1 + v) (by omega) (by omega) (by decide) (by decide) fun T1 w1 hT1 => ?_
  refine ⟨_, rfl, _, rfl, ?_⟩
  refine web_ok (n := 1 + v) (by omega) (by omega) (by decide) (by decide) fun T2 w2 hT2 => ?_
  refine ⟨_, rfl, ?_⟩
  refine path_ok (n := 1 + v) (by omega) (by omega) ?_
  refine ⟨_, rfl, ?_⟩
  refine star_ok (n := 1 + v) (by omega) (by omega) ?_
  refine ⟨_, rfl, ?_⟩
  refine whole_ok (n := 1 + v) (by omega) (by omega) fun T5 hT5 _ => ?_
  have fin : ∀ T6, Web (1 + v) T6 → W (m__law_pick [.tok, .lst [tiesD T1, tiesD T2, tiesD (pathT (1 + v)), tiesD (starT (1 + v)), tiesD T5, tiesD T6]] w2) fun d w' => W (sRet (eTup [eVar 2, eVar 3]) [some .tok, some (.int m), some (.int (1 + v)), some d] w') fun r w => match r with | .rt d => Q d w | .nx _ => Q .non w | .bk _ => False := by
    intro T6 hT6
    refine pick_ok (by simp) (by simp) fun d w' hd => ?_
    have : ∃ T, Web (1 + v) T ∧ d = tiesD T := by
      simp only [List.mem_cons, List.not_mem_nil, or_false] at hd
      rcases hd with rfl | rfl | rfl | rfl | rfl | rfl
      · exact ⟨_, hT1, rfl⟩
      · exact ⟨_, hT2, rfl⟩
      · exact ⟨_, path_web (by omega), rfl⟩
      · exact ⟨_, star_web (by omega), rfl⟩
      · exact ⟨_, hT5, rfl⟩
      · exact ⟨_, hT6, rfl⟩
    obtain ⟨T, hT, rfl⟩ := this
    simp only [W_sRet, W_tup, W_evs1, W_evs0, W_var]
    exact ⟨_, rfl, _, rfl, q _ _ _ (by omega) (by omega) hT⟩
  simp only [W_eIf, W_asB, W_bin, W_var, W_eC]
  refine ⟨_, rfl, ?_⟩
  rw [W_gt]
  refine ⟨_, rfl, ?_⟩
  by_cases h2 : (2 : Int) < 1 + v
  · rw [decide_eq_true h2, if_pos rfl]
    simp only [W_call, W_evs1, W_evs0, W_var]
    refine ⟨_, rfl, ?_⟩
    exact ring_ok (n := 1 + v) (by omega) (by omega) (fin _ (ring_web h2 (by omega)))
  · rw [decide_eq_false h2, if_neg (by decide)]
    simp only [W_tup, W_evs0]
    exact fin [] ⟨by simp, by simp, by simp⟩
end Pw
set_option Elab.async false
set_option linter.all false
set_option maxRecDepth 10000
/-! k42: fires and plans. -/
namespace Pw
open PySem
theorem uins_len (x : Int) : ∀ ys : List Int, (uins x ys).length ≤ ys.length + 1
  | [] => by simp [uins]
  | y :: ys => by
    unfold uins
    have := uins_len x ys
    split
    · simp
    · split
      · simp
      · simp; omega
theorem usort_len : ∀ ys : List Int, (usort ys).length ≤ ys.length
  | [] => Nat.le_refl _
  | y :: ys => by
    have h1 := uins_len y (usort ys)
    have h2 := usort_len ys
    simp only [usort, List.length_cons]; omega
/-- a strictly rising row below n is short -/
theorem up_len : ∀ (n : Nat) (L : List Int), L.Pairwise (· < ·) → (∀ x ∈ L, 0 ≤ x ∧ x < n) → L.length ≤ n := by
  have key : ∀ (L : List Int) (a n : Int), L.Pairwise (· < ·) → (∀ x ∈ L, a ≤ x ∧ x < n) → a ≤ n → (L.length : Int) ≤ n - a := by
    intro L
    induction L with
    | nil => intro a n _ _ h; simp; omega
    | cons x L ih =>
      intro a n h hb han
      obtain ⟨h1, h2⟩ := List.pairwise_cons.mp h
      have hx := hb x (List.mem_cons_self ..)
      have := ih (x + 1) n h2 (fun y hy => ⟨by have := h1 y hy; omega, (hb y (List.mem_cons_of_mem _ hy)).2⟩) (by omega)
      simp; omega
  intro n L h hb
  have := key L 0 n h (fun x hx => ⟨(hb x hx).1, by have := (hb x hx).2; omega⟩) (by omega)
  omega
def planD (P : List (List Int)) : D := .tup (P.map fun s => D.tup (s.map .int))
/-- the set that burns after a round -/
def spreadL (T : List (Int × Int)) (B Hd : List Int) : List Int := usort (stepL T B Hd)
theorem mem_spreadL {T : List (Int × Int)} {B Hd : List Int} {y : Int} : y ∈ spreadL T B Hd ↔ y ∈ B ∨ ∃ x ∈ B, y ∈ nb T x ∧ y ∉ Hd := by
  unfold spreadL stepL
  rw [mem_usort]
  simp [List.mem_flatMap]
def okM (n : Int) (B Hd s : List Int) : Bool := decide (s = usort s) && s.all fun x => decide (0 ≤ x) && decide (x < n) && !(decide (x ∈ B)) && !(decide (x ∈ Hd))
def play (T : List (Int × Int)) : List Int → List Int → List (List Int) → List Int × List Int
  | B, Hd, [] => (B, Hd)
  | B, Hd, s :: P => play T (spreadL T B (Hd ++ s)) (Hd ++ s) P
def rightP (n : Int) (T : List (Int × Int)) : List Int → List Int → List (List Int) → Bool
  | B, Hd, [] => true
  | B, Hd, s :: P => okM n B Hd s && rightP n T (spreadL T B (Hd ++ s)) (Hd ++ s) P
/-- what burns is canonical and of the web -/
structure Can (n : Int) (B : List Int) : Prop where
  up : B.Pairwise (· < ·)
  bd : ∀ x ∈ B, 0 ≤ x ∧ x < n
theorem Can.len {n : Int} {B : List Int} (h : Can n B) (hn : 0 ≤ n) : (B.length : Int) ≤ n := by
  have := up_len n.toNat B h.up fun x hx => ⟨(h.bd x hx).1, by have := (h.bd x hx).2; omega⟩
  omega
theorem Can.spread {n : Int} {T : List (Int × Int)} (hw : Web n T) {B Hd : List Int} (h : Can n B) : Can n (spreadL T B Hd) := by
  refine ⟨usort_up _, fun y hy => ?_⟩
  rcases mem_spreadL.mp hy with hy | ⟨x, hx, hy, _⟩
  · exact h.bd y hy
  · exact nb_bd hw hy
theorem nb_len {n : Int} {T : List (Int × Int)} (hw : Web n T) (hn : 0 ≤ n) (x : Int) : ((nb T x).length : Int) ≤ n := by
  have h1 : (usort (nb T x)).length = (nb T x).length := by
    have p : (nb T x).Perm (usort (nb T x)) := (List.perm_ext_iff_of_nodup (nb_nodup hw x) ((usort_up _).imp fun h => Int.ne_of_lt h)).mpr fun k => mem_usort.symm
    exact p.length_eq.symm
  have h2 : Can n (usort (nb T x)) := ⟨usort_up _, fun y hy => nb_bd hw (mem_usort.mp hy)⟩
  have := h2.len hn
  omega
theorem flat_len {α : Type} (f : α → List Int) (k : Nat) : ∀ L : List α, (∀ x ∈ L, (f x).length ≤ k) → (L.flatMap f).length ≤ L.length * k
  | [], _ => by simp
  | x :: L, h => by
    have h1 := h x (List.mem_cons_self ..)
    have h2 := flat_len f k L fun y hy => h y (List.mem_cons_of_mem _ hy)
    simp only [List.flatMap_cons, List.length_append, List.length_cons, Nat.succ_mul]; omega
theorem stepL_len {n : Int} {T : List (Int × Int)} (hw : Web n T) (hn : 0 ≤ n) (h60 : n ≤ 60) {B : List Int} (Hd : List Int) (pre : List Int) (hB : (pre.length : Int) ≤ 60) : (pre.flatMap fun x => (nb T x).filter fun y => decide (y ∉ Hd)).length ≤ 3600 := by
  have := flat_len (fun x => (nb T x).filter fun y => decide (y ∉ Hd)) 60 pre fun x _ => by
    have h1 := nb_len hw hn x
    have h2 := List.length_filter_le (fun y => decide (y ∉ Hd)) (nb T x)
    omega
  have h2 : pre.length * 60 ≤ 60 * 60 := Nat.mul_le_mul_right _ (by omega)
  omega
/-- the law's own round: for x in burnt: wide = wide + [..] -/
theorem wide_ok {n : Int} {T : List (Int × Int)} (hw : Web n T) (hn : 0 ≤ n) (h60 : n ≤ 60) {B Hd : List Int} (hB : Can n B) {e0 e2 e3 e6 e7 e8 e10 e11 e12 : Option D} {ω : Om} {R : Fl → Om → Prop}
    (q : ∀ j k, R (.nx [e0, some (tiesD T), e2, e3, some (.lst (B.map .int)), some (.lst (Hd.map .int)), e6, e7, e8, some (.lst ((stepL T B Hd).map .int)), j, e11, k]) ω) :
    W (sFor (eItems (eVar 4)) (mName 10) (sAsg 9 (eBin aAddL (eVar 9) (eLc (eItems (eCall m__law_beside [(eVar 1), (eVar 10)])) [12] (mName 12) (asB (eBin oNotIn (eVar 12) (eVar 5))) (eVar 12)))) [e0, some (tiesD T), e2, e3, some (.lst (B.map .int)), some (.lst (Hd.map .int)), e6, e7, e8, some (.lst (B.map .int)), e10, e11, e12] ω) R := by
  have hL : LIM = 1000000 := rfl
  have hlen := hw.len
  have hBl := hB.len hn
  simp only [W_sFor, W_eItems, W_var]
  refine ⟨_, rfl, ?_⟩
  rw [W_itemsL]
  refine W_for (fun pre env w => w = ω ∧ ∃ j k, env = [e0, some (tiesD T), e2, e3, some (.lst (B.map .int)), some (.lst (Hd.map .int)), e6, e7, e8, some (.lst ((B ++ pre.flatMap fun x => (nb T x).filter fun y => decide (y ∉ Hd)).map .int)), j, e11, k]) B ⟨rfl, e10, e12, by simp⟩ ?_ ?_
  · rintro pre x post env w hx ⟨rfl, j, k, rfl⟩
    have hpl : pre.length < B.length := by rw [← hx]; simp
    simp
    refine law_beside_ok (by omega) ?_
    simp
    refine W_lc (nb T x) (fun y => decide (y ∉ Hd)) (fun y => .int y) (fun y hy => ?_) ?_
    · by_cases h : y ∈ Hd <;> simp [wipeE, h]
    · have h1 := nb_len hw hn x
      have h2 := List.length_filter_le (fun y => decide (y ∉ Hd)) (nb T x)
      have h3 := stepL_len hw hn h60 (B := B) Hd pre (by omega)
      simp at h2 h3 ⊢
      omega
  · rintro env w ⟨rfl, j, k, rfl⟩
    exact q j k
def iterS (T : List (Int × Int)) (Hd : List Int) : Nat → List Int → List Int
  | 0, B => B
  | k + 1, B => iterS T Hd k (spreadL T B Hd)
theorem iterS_succ (T : List (Int × Int)) (Hd : List Int) : ∀ (k : Nat) (B : List Int), iterS T Hd (k + 1) B = spreadL T (iterS T Hd k B) Hd
  | 0, B => rfl
  | k + 1, B => by rw [iterS, iterS_succ T Hd k]; rfl
/-- the fire's end -/
def FinalF (T : List (Int × Int)) (Hd B F : List Int) : Prop := ∃ k, F = iterS T Hd k B ∧ spreadL T F Hd = F
theorem iterS_fix {T : List (Int × Int)} {Hd F : List Int} (h : spreadL T F Hd = F) : ∀ k, iterS T Hd k F = F
  | 0 => rfl
  | k + 1 => by rw [iterS, h]; exact iterS_fix h k
theorem iterS_add (T : List (Int × Int)) (Hd : List Int) : ∀ (j k : Nat) (B : List Int), iterS T Hd (j + k) B = iterS T Hd k (iterS T Hd j B)
  | 0, k, B => by rw [Nat.zero_add]; rfl
  | j + 1, k, B => by rw [show j + 1 + k = (j + k) + 1 by omega, iterS, iterS_add T Hd j k]; rfl
theorem FinalF.uniq {T : List (Int × Int)} {Hd B F F' : List Int} (h : FinalF T Hd B F) (h' : FinalF T Hd B F') : F = F' := by
  obtain ⟨k, rfl, hf⟩ := h
  obtain ⟨k', rfl, hf'⟩ := h'
  rcases Nat.le_total k k' with hk | hk
  · obtain ⟨j, rfl⟩ := Nat.exists_eq_add_of_le hk
    rw [iterS_add, iterS_fix hf]
  · obtain ⟨j, rfl⟩ := Nat.exists_eq_add_of_le hk
    rw [iterS_add, iterS_fix hf']
/-- rising rows, one within the other -/
theorem up_sub_len : ∀ {A B : List Int}, A.Pairwise (· < ·) → B.Pairwise (· < ·) → (∀ x ∈ A, x ∈ B) → A ≠ B → A.length < B.length := by
  intro A B hA hB hs hne
  have hsub : A.Sublist B := by
    clear hne
    induction B generalizing A with
    | nil =>
      cases A with
      | nil => exact .slnil
      | cons a A => exact absurd (hs a (List.mem_cons_self ..)) (by simp)
    | cons b B ih =>
      obtain ⟨b1, b2⟩ := List.pairwise_cons.mp hB
      cases A with
      | nil => exact List.nil_sublist _
      | cons a A =>
        obtain ⟨a1, a2⟩ := List.pairwise_cons.mp hA
        by_cases e : a = b
        · subst e
          refine (ih a2 b2 fun x hx => ?_).cons₂ a
          rcases List.mem_cons.mp (hs x (List.mem_cons_of_mem _ hx)) with rfl | h
          · have := a1 x hx; omega
          · exact h
        · refine (ih hA b2 fun x hx => ?_).cons b
          have hb : b < a := by
            rcases List.mem_cons.mp (hs a (List.mem_cons_self ..)) with h | h
            · exact absurd h e
            · exact b1 a h
          rcases List.mem_cons.mp (hs x hx) with rfl | h
          · rcases List.mem_cons.mp hx with rfl | hx
            · omega
            · have := a1 x hx; omega
          · exact h
  rcases Nat.lt_or_ge A.length B.length with h | h
  · exact h
  · exact absurd (hsub.eq_of_length_le h) hne
theorem spread_grow {n : Int} {T : List (Int × Int)} {B Hd : List Int} (h : Can n B) (hne : spreadL T B Hd ≠ B) : B.length < (spreadL T B Hd).length :=
  up_sub_len h.up (usort_up _) (fun x hx => mem_spreadL.mpr (.inl hx)) fun e => hne e.symm
def mostP : Int → List (List Int) → Int
  | m, [] => m
  | m, s :: P => mostP (if (s.length : Int) > m then s.length else m) P
theorem play_app (T : List (Int × Int)) : ∀ (P : List (List Int)) (s : List Int) (B Hd : List Int), play T B Hd (P ++ [s]) = (spreadL T (play T B Hd P).1 ((play T B Hd P).2 ++ s), (play T B Hd P).2 ++ s)
  | [], s, B, Hd => rfl
  | t :: P, s, B, Hd => by rw [List.cons_append, play, play_app T P s]; rfl
theorem right_app (n : Int) (T : List (Int × Int)) : ∀ (P : List (List Int)) (s : List Int) (B Hd : List Int), rightP n T B Hd (P ++ [s]) = (rightP n T B Hd P && okM n (play T B Hd P).1 (play T B Hd P).2 s)
  | [], s, B, Hd => by simp [rightP, play]
  | t :: P, s, B, Hd => by rw [List.cons_append, rightP, right_app n T P s, rightP, play, Bool.and_assoc]
theorem most_app : ∀ (P : List (List Int)) (s : List Int) (m : Int), mostP m (P ++ [s]) = (if (s.length : Int) > mostP m P then (s.length : Int) else mostP m P)
  | [], s, m => rfl
  | t :: P, s, m => by rw [List.cons_append, mostP, most_app P s]; rfl
theorem play_can {n : Int} {T : List (Int × Int)} (hw : Web n T) : ∀ (P : List (List Int)) (B Hd : List Int), Can n B → Can n (play T B Hd P).1
  | [], B, Hd, h => h
  | s :: P, B, Hd, h => play_can hw P _ _ (h.spread hw)
theorem play_held (T : List (Int × Int)) : ∀ (P : List (List Int)) (B Hd : List Int), (play T B Hd P).2 = Hd ++ P.flatten
  | [], B, Hd => by simp [play]
  | s :: P, B, Hd => by rw [play, play_held T P]; simp
theorem flatten_len : ∀ (P : List (List Int)) (k : Nat), (∀ s ∈ P, s.length ≤ k) → P.flatten.length ≤ P.length * k
  | [], k, _ => by simp
  | s :: P, k, h => by
    have h1 := h s (List.mem_cons_self ..)
    have h2 := flatten_len P k fun t ht => h t (List.mem_cons_of_mem _ ht)
    simp only [List.flatten_cons, List.length_append, List.length_cons, Nat.succ_mul]; omega
/-- the test of one move, as the law reads it -/
theorem okM_test {n : Int} {B Hd s : List Int} {e0 e1 e2 e3 e7 e9 e10 e11 e12 : Option D} {r : Bool} {ω : Om} (hs : s.length ≤ 60) {Q : D → Om → Prop} (he0 : e0 = some (.int n)) (q : Q (.bl (r && okM n B Hd s)) ω) :
    W (eAnd (eVar 6) (eAnd (eBin aEq (eCall fList [(eVar 8)]) (eCall fSortSet [(eVar 8)])) (eBin aEq (eLc (eItems (eVar 8)) [10] (mName 10) (bOr (bNot (asB (eChain aLe aLt (eC (.int 0)) (eVar 10) (eVar 0)))) (bOr (asB (eBin oIn (eVar 10) (eVar 4))) (asB (eBin oIn (eVar 10) (eVar 5))))) (eVar 10)) (eLst [])))
      [e0, e1, e2, e3, some (.lst (B.map .int)), some (.lst (Hd.map .int)), some (.bl r), e7, some (.tup (s.map .int)), e9, e10, e11, e12] ω) Q := by
  subst he0
  have hu := usort_len s
  have hL : LIM = 1000000 := rfl
  rw [W_eAnd, W_var]
  refine ⟨_, rfl, r, rfl, ?_⟩
  cases r with
  | false => simpa using q
  | true =>
    rw [if_pos rfl, W_eAnd]
    have e1 : W (eBin aEq (eCall fList [(eVar 8)]) (eCall fSortSet [(eVar 8)]) [some (.int n), e1, e2, e3, some (.lst (B.map .int)), some (.lst (Hd.map .int)), some (.bl true), e7, some (.tup (s.map .int)), e9, e10, e11, e12] ω) fun d w => d = .bl (decide (s = usort s)) ∧ w = ω := by
      simp [eqOk, D.plain, D.depth, D.deq]
      omega
    refine e1.mono ?_
    rintro _ w ⟨rfl, rfl⟩
    refine ⟨_, rfl, ?_⟩
    by_cases hsort : s = usort s
    · rw [if_pos (by simpa using hsort)]
      simp only [W_bin, W_eLc, W_eItems, W_var]
      refine ⟨_, rfl, ?_⟩
      rw [W_itemsT]
      refine W_lc s (fun x => !(decide (0 ≤ x) && decide (x < n)) || decide (x ∈ B) || decide (x ∈ Hd)) (fun x => .int x) (fun x hx => ?_) ⟨?_, ?_⟩
      · by_cases h1 : 0 ≤ x <;> by_cases h2 : x < n <;> by_cases h3 : x ∈ B <;> by_cases h4 : x ∈ Hd <;> simp [wipeE, h1, h2, h3, h4]
      · rw [List.length_map]
        exact Nat.le_trans (List.length_filter_le _ _) (by omega)
      · simp only [W_lst, W_evs0, W_eq]
        have : ∀ L : List Int, eqOk (.lst (L.map .int)) (.lst []) = true ∧ D.deq (.lst (L.map .int)) (.lst []) = L.isEmpty := by
          intro L
          refine ⟨by simp [eqOk, D.plain, D.depth, D.plains], ?_⟩
          cases L <;> rfl
        refine ⟨(this _).1, ?_⟩
        rw [(this _).2]
        have e : (true && okM n B Hd s) = (s.filter fun x => !(decide (0 ≤ x) && decide (x < n)) || decide (x ∈ B) || decide (x ∈ Hd)).isEmpty := by
          rw [Bool.eq_iff_iff]
          simp only [okM, Bool.true_and, Bool.and_eq_true, decide_eq_true_eq, List.isEmpty_iff, List.filter_eq_nil_iff, List.all_eq_true]
          refine ⟨fun ⟨_, h⟩ x hx => ?_, fun h => ⟨hsort, fun x hx => ?_⟩⟩
          · have := h x hx
            simp only [Bool.and_eq_true, decide_eq_true_eq, Bool.not_eq_true', decide_eq_false_iff_not] at this
            obtain ⟨⟨⟨a1, a2⟩, a3⟩, a4⟩ := this
            simp [a1, a2, a3, a4]
          · have := h x hx
            simp at this ⊢
            omega
        rw [← e]; exact q
    · rw [if_neg (by simpa using hsort)]
      have e : okM n B Hd s = false := by unfold okM; rw [decide_eq_false hsort]; rfl
      rw [e] at q
      exact q
theorem max_if (a b : Int) : (if b > a then b else a) = max a b := by
  rcases Int.lt_or_le a b with h | h
  · rw [if_pos h, Int.max_eq_right (Int.le_of_lt h)]
  · rw [if_neg (by omega), Int.max_eq_left h]
theorem law_fire_ok {n h : Int} {T : List (Int × Int)} {P : List (List Int)} {ω : Om} (hw : Web n T) (hn : 0 ≤ n) (h60 : n ≤ 60) (hh : 0 ≤ h ∧ h < n) (hP : ∀ s ∈ P, s.length ≤ 60) (hPl : P.length ≤ 1000) {Q : D → Om → Prop}
    (q : ∀ F, FinalF T (play T [h] [] P).2 (play T [h] [] P).1 F → Can n F → Q (.tup [.bl (rightP n T [h] [] P), .tup (F.map .int), .int (mostP 0 P)]) ω) : W (m__law_fire [.int n, tiesD T, .int h, planD P] ω) Q := by
  have hL : LIM = 1000000 := rfl
  have can0 : Can n [h] := ⟨by simp, by simpa using hh⟩
  refine W_fn rfl ?_
  simp only [startE, W_sSeq, W_sUnp, W_tup, W_evs1, W_lst, W_evs0, W_var, W_eC]
  refine ⟨_, rfl, ?_⟩
  simp only [W_mTup, W_mAll1, W_mName, W_mAll0, after_nx, W_sSeq, W_sAsg, W_eC, W_sFor, W_eItems, W_var]
  refine ⟨_, rfl, ?_⟩
  rw [planD, W_itemsT]
  refine W_for (fun pre env w => w = ω ∧ ∃ e8 e9 e10 e11 e12, env = [some (.int n), some (tiesD T), some (.int h), some (planD P), some (.lst ((play T [h] [] pre).1.map .int)), some (.lst ((play T [h] [] pre).2.map .int)), some (.bl (rightP n T [h] [] pre)), some (.int (mostP 0 pre)), e8, e9, e10, e11, e12]) P ⟨rfl, none, none, none, none, none, rfl⟩ ?_ ?_
  · rintro pre s post env w hx ⟨rfl, e8, e9, e10, e11, e12, rfl⟩
    have hsP : s ∈ P := by rw [← hx]; simp
    have hs := hP s hsP
    have hpre : pre.length < P.length := by rw [← hx]; simp
    have canB := play_can hw pre [h] [] can0
    have hheld := play_held T pre [h] []
    have hhl : (play T [h] [] pre).2.length ≤ 60000 := by
      rw [hheld]
      have := flatten_len pre 60 fun t ht => hP t (by rw [← hx]; simp [ht])
      simp only [List.nil_append]
      have : pre.length * 60 ≤ 1000 * 60 := Nat.mul_le_mul_right _ (by omega)
      omega
    rw [W_mName, W_sSeq, W_sAsg]
    refine okM_test hs rfl ?_
    rw [after_nx]
    simp only [W_sSeq, W_sAsg, W_call, W_evs1, W_evs0, W_var]
    refine ⟨_, rfl, _, rfl, ?_⟩
    simp only [W_lenT, W_max2, after_nx, W_sSeq, W_sAsg, W_bin, W_var, W_call, W_evs1, W_evs0]
    refine ⟨_, rfl, _, rfl, ?_⟩
    simp only [W_listT, W_addL, after_nx, W_sSeq, W_sAsg, W_call, W_evs1, W_evs0, W_var]
    refine ⟨by simp; omega, _, rfl, ?_⟩
    simp only [W_listL, after_nx, W_sSeq]
    rw [← List.map_append]
    refine wide_ok hw hn h60 (e0 := some (.int n)) (e2 := some (.int h)) (e3 := some (planD P)) canB ?_
    intro j k
    have hlen : (stepL T (play T [h] [] pre).1 ((play T [h] [] pre).2 ++ s)).length ≤ 4000 := by
      have h1 := stepL_len hw hn h60 (B := (play T [h] [] pre).1) ((play T [h] [] pre).2 ++ s) (play T [h] [] pre).1 (by have := canB.len hn; omega)
      have h2 := canB.len hn
      unfold stepL
      simp only [List.length_append] at h1 ⊢
      omega
    have hsz : (usort (stepL T (play T [h] [] pre).1 ((play T [h] [] pre).2 ++ s))).length < 64 := by
      have := (canB.spread hw (Hd := (play T [h] [] pre).2 ++ s)).len hn
      unfold spreadL at this
      omega
    rw [after_nx, W_sAsg, W_call, W_evs1, W_var]
    refine ⟨_, rfl, ?_⟩
    rw [W_evs0, W_sortSetL]
    refine ⟨⟨hsz, hlen⟩, rfl, some (.tup (s.map .int)), some (.lst ((stepL T (play T [h] [] pre).1 ((play T [h] [] pre).2 ++ s)).map .int)), j, e11, k, ?_⟩
    rw [play_app, right_app, most_app]
    simp [spreadL]
  · rintro env w ⟨rfl, e8, e9, e10, e11, e12, rfl⟩
    rw [after_nx, W_sSeq, W_sAsg, W_eC, after_nx, W_sSeq]
    refine W_whileN (fun k env w' => w' = w ∧ ∃ (j : Nat) (mo : Bool) (e8 e9 e10 e12 : Option D), env = [some (.int n), some (tiesD T), some (.int h), some (planD P), some (.lst ((iterS T (play T [h] [] P).2 j (play T [h] [] P).1).map .int)), some (.lst ((play T [h] [] P).2.map .int)), some (.bl (rightP n T [h] [] P)), some (.int (mostP 0 P)), e8, e9, e10, some (.bl mo), e12] ∧
      Can n (iterS T (play T [h] [] P).2 j (play T [h] [] P).1) ∧ (mo = false → spreadL T (iterS T (play T [h] [] P).2 j (play T [h] [] P).1) (play T [h] [] P).2 = iterS T (play T [h] [] P).2 j (play T [h] [] P).1) ∧ k = (if mo then n.toNat + 1 - (iterS T (play T [h] [] P).2 j (play T [h] [] P).1).length else 0)) (k0 := _) ⟨rfl, 0, true, e8, e9, e10, e12, rfl, play_can hw P _ _ can0, by simp, rfl⟩ ?_
    rintro k env w' ⟨rfl, j, mo, e8, e9, e10, e12, rfl, can, hmo, rfl⟩
    rw [W_asT, W_var]
    refine ⟨_, rfl, ?_⟩
    rw [W_truB]
    cases mo with
    | false =>
      rw [if_neg (by decide), after_nx, W_sRet, W_tup]
      simp only [W_evs1, W_evs0, W_var, W_call]
      refine ⟨_, rfl, _, rfl, ?_⟩
      rw [W_tupleL]
      refine ⟨_, rfl, ?_⟩
      exact q _ ⟨j, rfl, hmo rfl⟩ can
    | true =>
      rw [if_pos rfl]
      simp only [W_sSeq, W_sAsg, W_call, W_evs1, W_evs0, W_var]
      refine ⟨_, rfl, ?_⟩
      rw [W_listL, after_nx, W_sSeq]
      refine wide_ok hw hn h60 (e0 := some (.int n)) (e2 := some (.int h)) (e3 := some (planD P)) can ?_
      intro jj kk
      have hlen : (stepL T (iterS T (play T [h] [] P).2 j (play T [h] [] P).1) (play T [h] [] P).2).length ≤ 4000 := by
        have h1 := stepL_len hw hn h60 (B := (iterS T (play T [h] [] P).2 j (play T [h] [] P).1)) (play T [h] [] P).2 (iterS T (play T [h] [] P).2 j (play T [h] [] P).1) (by have := can.len hn; omega)
        have h2 := can.len hn
        unfold stepL
        simp only [List.length_append] at h1 ⊢
        omega
      have can' := can.spread hw (Hd := (play T [h] [] P).2)
      have hsz : (usort (stepL T (iterS T (play T [h] [] P).2 j (play T [h] [] P).1) (play T [h] [] P).2)).length < 64 := by
        have := can'.len hn
        unfold spreadL at this
        omega
      have lift := can.len hn
      have lift' := can'.len hn
      simp only [after_nx, W_sSeq, W_sAsg, W_bin, W_call, W_evs1, W_evs0, W_var]
      refine ⟨_, rfl, ?_⟩
      rw [W_sortSetL]
      refine ⟨⟨hsz, hlen⟩, _, rfl, ?_⟩
      rw [W_ne]
      refine ⟨by simp [eqOk, D.plain, D.depth], ?_⟩
      refine ⟨_, rfl, ?_⟩
      rw [W_sortSetL]
      refine ⟨⟨hsz, hlen⟩, ?_⟩
      have eq : D.deq (.lst ((usort (stepL T (iterS T (play T [h] [] P).2 j (play T [h] [] P).1) (play T [h] [] P).2)).map .int)) (.lst ((iterS T (play T [h] [] P).2 j (play T [h] [] P).1).map .int)) = decide (spreadL T (iterS T (play T [h] [] P).2 j (play T [h] [] P).1) (play T [h] [] P).2 = iterS T (play T [h] [] P).2 j (play T [h] [] P).1) := by
        simp only [D.deq, deqs_int]
        rfl
      rw [eq]
      have hit := iterS_succ T (play T [h] [] P).2 j (play T [h] [] P).1
      by_cases hfix : spreadL T (iterS T (play T [h] [] P).2 j (play T [h] [] P).1) (play T [h] [] P).2 = iterS T (play T [h] [] P).2 j (play T [h] [] P).1
      · refine ⟨0, ?_, rfl, j + 1, false, e8, some (.lst ((stepL T (iterS T (play T [h] [] P).2 j (play T [h] [] P).1) (play T [h] [] P).2).map .int)), jj, kk, ?_, by rw [hit]; exact can', fun _ => ?_, by simp⟩
        · simp; omega
        · rw [hit, decide_eq_true hfix]; rfl
        · rw [hit, hfix, hfix]
      · have hg := spread_grow can hfix
        refine ⟨n.toNat + 1 - (spreadL T (iterS T (play T [h] [] P).2 j (play T [h] [] P).1) (play T [h] [] P).2).length, ?_, rfl, j + 1, true, e8, some (.lst ((stepL T (iterS T (play T [h] [] P).2 j (play T [h] [] P).1) (play T [h] [] P).2).map .int)), jj, kk, ?_, by rw [hit]; exact can', by simp, by rw [hit]; simp⟩
        · simp; omega
        · rw [hit, decide_eq_false hfix]; rfl
end Pw
set_option Elab.async false
set_option linter.all false
set_option maxRecDepth 10000
namespace Pw
open PySem
theorem right_split (n : Int) (T : List (Int × Int)) : ∀ (pre : List (List Int)) (s : List Int) (post : List (List Int)) (B Hd : List Int), rightP n T B Hd (pre ++ s :: post) = (rightP n T B Hd pre && (okM n (play T B Hd pre).1 (play T B Hd pre).2 s && rightP n T (spreadL T (play T B Hd pre).1 ((play T B Hd pre).2 ++ s)) ((play T B Hd pre).2 ++ s) post))
  | [], s, post, B, Hd => by simp [rightP, play]
  | t :: pre, s, post, B, Hd => by rw [List.cons_append, rightP, right_split n T pre s post, rightP, play, Bool.and_assoc]
theorem okM_nodup {n : Int} {B Hd s : List Int} (h : okM n B Hd s = true) : s.Nodup ∧ ∀ x ∈ s, (0 ≤ x ∧ x < n) ∧ x ∉ B ∧ x ∉ Hd := by
  simp only [okM, Bool.and_eq_true, decide_eq_true_eq, List.all_eq_true, Bool.not_eq_true', decide_eq_false_iff_not] at h
  obtain ⟨h1, h2⟩ := h
  refine ⟨?_, fun x hx => ?_⟩
  · rw [h1]; exact (usort_up s).imp fun h => Int.ne_of_lt h
  · have := h2 x hx; exact ⟨⟨this.1.1.1, this.1.1.2⟩, this.1.2, this.2⟩
/-- the sum of a move's bits -/
theorem sum_bits {s : List Int} {env : DEnv} {ω : Om} {i j : Nat} (hij : i = j) (hs : ∀ x ∈ s, 0 ≤ x ∧ x < 1000) (hz : s.length ≤ 1000) (e : ∀ x : Int, ((wipeE env [j]).set j (some (.int x)))[j]? = some (some (.int x))) {sl : Nat} (hsl : env[sl]? = some (some (.tup (s.map .int)))) {Q : D → Om → Prop} (q : Q (.int (s.map fun x => 1 * 2 ^ x.toNat).sum) ω) :
    W (eCall fSum [(eLc (eItems (eVar sl)) [j] (mName j) bYes (eBin aShl (eC (.int 1)) (eVar j)))] env ω) Q := by
  have hL : LIM = 1000000 := rfl
  simp only [W_call, W_evs1, W_evs0, W_eLc, W_eItems, W_var]
  refine ⟨_, hsl, ?_⟩
  rw [W_itemsT]
  refine W_lc s (fun _ => true) (fun x => .int (1 * 2 ^ x.toNat)) (fun x hx => ?_) ?_
  · have := hs x hx
    rw [W_mName, W_bYes]
    refine ⟨rfl, ?_⟩
    rw [if_pos rfl, W_bin, W_eC, W_var]
    refine ⟨_, e x, ?_⟩
    rw [W_shl]
    exact ⟨⟨by omega, by omega, by decide⟩, rfl, rfl⟩
  · simp only [filter_true]
    have e : s.map (fun x => D.int (1 * 2 ^ x.toNat)) = (s.map fun x => 1 * 2 ^ x.toNat).map .int := by simp [Function.comp_def]
    rw [e, W_sum]
    exact ⟨by simp; omega, q⟩
theorem is_plan_ok {n h d : Int} {T : List (Int × Int)} {P : List (List Int)} {ω : Om} (hw : Web n T) (hn : 0 ≤ n) (h60 : n ≤ 60) (hh : 0 ≤ h ∧ h < n) (hP : ∀ s ∈ P, s.length ≤ 60) {Q : D → Om → Prop}
    (q : Q (.bl (rightP n T [h] [] P && P.all fun s => decide ((s.length : Int) ≤ d))) ω) : W (m_is_plan [.int n, tiesD T, .int h, .int d, planD P] ω) Q := by
  have hL : LIM = 1000000 := rfl
  have can0 : Can n [h] := ⟨by simp, by simpa using hh⟩
  refine W_fn rfl ?_
  simp only [startE, W_sSeq, W_sAsg, W_call, W_evs1, W_evs0, W_var]
  refine ⟨_, rfl, _, rfl, ?_⟩
  refine near_of_ok hw hn (by omega) ?_
  try rw [after_nx]
  simp only [W_sSeq, W_sPar2, W_bin, W_eC, W_var]
  refine ⟨_, rfl, ?_⟩
  rw [W_shl]
  refine ⟨⟨by omega, by omega, by decide⟩, ?_⟩
  try rw [after_nx]
  simp only [W_sSeq, W_sFor, W_eItems, W_var]
  refine ⟨_, rfl, ?_⟩
  rw [planD, W_itemsT]
  refine W_for (fun pre env w => w = ω ∧ ∃ (b g : Int) (e8 e9 e10 : Option D), env = [some (.int n), some (tiesD T), some (.int h), some (.int d), some (planD P), some (.lst ((nearD T n.toNat).map .int)), some (.int b), some (.int g), e8, e9, e10] ∧ Mask b (play T [h] [] pre).1 ∧ Mask g (play T [h] [] pre).2 ∧ rightP n T [h] [] pre = true ∧ ∀ s ∈ pre, (s.length : Int) ≤ d) P ⟨rfl, _, _, none, none, none, rfl, Mask.one hh.1, Mask.nil, rfl, by simp⟩ ?_ ?_
  · rintro pre s post env w hx ⟨rfl, b, g, e8, e9, e10, rfl, hb, hg, hr, hall⟩
    have hsP : s ∈ P := by rw [← hx]; simp
    have hs := hP s hsP
    have hu := usort_len s
    have canB := play_can hw pre [h] [] can0
    have bad : (okM n (play T [h] [] pre).1 (play T [h] [] pre).2 s = false ∨ ¬ (s.length : Int) ≤ d) → (rightP n T [h] [] P && P.all fun s => decide ((s.length : Int) ≤ d)) = false := by
      rintro (h1 | h1)
      · rw [← hx, right_split, h1]; simp
      · rw [← hx]; simp [h1]
    rw [W_mName]
    simp only [W_sSeq, W_sIf, W_bOr, W_asB, W_bin, W_call, W_evs1, W_evs0, W_var]
    refine ⟨_, rfl, ?_⟩
    rw [W_lenT]
    refine ⟨_, rfl, ?_⟩
    rw [W_gt]
    refine ⟨_, rfl, ?_⟩
    rw [List.length_map]
    by_cases c1 : d < (s.length : Int)
    · rw [if_pos (by simpa using c1)]
      simp only [if_true, W_sRet, W_eC]
      rw [bad (.inr (by omega))] at q
      simpa [after] using q
    · rw [if_neg (by simpa using c1)]
      refine ⟨_, rfl, ?_⟩
      rw [W_listT]
      refine ⟨_, rfl, ?_⟩
      rw [W_sortSetT]
      refine ⟨⟨by omega, by omega⟩, ?_⟩
      rw [W_ne]
      refine ⟨by simp [eqOk, D.plain, D.depth], _, rfl, ?_⟩
      have e : D.deq (.lst (s.map .int)) (.lst ((usort s).map .int)) = decide (s = usort s) := by simp only [D.deq, deqs_int]
      rw [e]
      by_cases c2 : s = usort s
      · rw [decide_eq_true c2]
        simp only [Bool.not_true, Bool.false_eq_true, if_false, W_bNot, W_asB, W_call, W_evs1, W_evs0, W_eLc, W_eItems, W_var]
        refine ⟨_, rfl, ?_⟩
        rw [W_itemsT]
        refine W_lc s (fun _ => true) (fun x => .bl (decide (0 ≤ x) && decide (x < n))) (fun x hx => ?_) ?_
        · by_cases h1 : 0 ≤ x <;> by_cases h2 : x < n <;> simp [wipeE, h1, h2]
        · simp only [filter_true]
          have e2 : s.map (fun x => D.bl (decide (0 ≤ x) && decide (x < n))) = (s.map fun x => decide (0 ≤ x) && decide (x < n)).map .bl := by simp [Function.comp_def]
          rw [e2, W_all]
          refine ⟨by simp; omega, _, rfl, ?_⟩
          by_cases c3 : ∀ x ∈ s, 0 ≤ x ∧ x < n
          · have e3 : ((s.map fun x => decide (0 ≤ x) && decide (x < n)).all id) = true := by
              rw [List.all_eq_true]
              intro y hy
              obtain ⟨x, hx, rfl⟩ := List.mem_map.mp hy
              have := c3 x hx
              simp [this]
            rw [e3]
            simp only [Bool.not_true, Bool.false_eq_true, if_false, W_sNil, after_nx, W_sSeq, W_sAsg]
            have snd : s.Nodup := by rw [c2]; exact (usort_up s).imp fun h => Int.ne_of_lt h
            refine sum_bits (sl := 8) rfl (fun x hx => by have := c3 x hx; omega) (by omega) (fun x => rfl) rfl ?_
            have hm := Mask.sum snd fun x hx => (c3 x hx).1
            try rw [after_nx]
            simp only [W_sSeq, W_sIf, W_asB, W_bin, W_var, W_eC]
            refine ⟨_, rfl, _, rfl, _, rfl, ?_⟩
            rw [W_or, W_and, W_ne]
            refine ⟨rfl, _, rfl, ?_⟩
            have hz := (hm.and (hb.or hg)).zero
            have e4 : D.deq (.int (Builtin.bitAnd (s.map fun x => 1 * 2 ^ x.toNat).sum (Builtin.bitOr b g))) (.int 0) = decide (Builtin.bitAnd (s.map fun x => 1 * 2 ^ x.toNat).sum (Builtin.bitOr b g) = 0) := by simp [D.deq]; rfl
            rw [e4]
            by_cases c4 : ∀ x ∈ s, x ∉ (play T [h] [] pre).1 ∧ x ∉ (play T [h] [] pre).2
            · have z : Builtin.bitAnd (s.map fun x => 1 * 2 ^ x.toNat).sum (Builtin.bitOr b g) = 0 := by
                refine hz.mpr fun i hi => ?_
                simp only [List.mem_filter, List.mem_append, decide_eq_true_eq] at hi
                have := c4 _ hi.1
                rcases hi.2 with h | h
                · exact this.1 h
                · exact this.2 h
              rw [decide_eq_true z]
              simp only [Bool.not_true, Bool.false_eq_true, if_false, W_sNil, after_nx, W_sSeq, W_sAsg, W_bin, W_var]
              refine ⟨_, rfl, _, rfl, ?_⟩
              rw [W_or]
              try rw [after_nx]
              simp only [W_sAsg, W_call, W_evs1, W_evs0, W_var]
              refine ⟨_, rfl, _, rfl, _, rfl, ?_⟩
              refine spread_ok hw hn hb (hg.or hm) canB.bd fun m hmm => ?_
              have okm : okM n (play T [h] [] pre).1 (play T [h] [] pre).2 s = true := by
                simp only [okM, Bool.and_eq_true, decide_eq_true_eq, List.all_eq_true, Bool.not_eq_true', decide_eq_false_iff_not]
                exact ⟨c2, fun x hx => ⟨⟨c3 x hx, (c4 x hx).1⟩, (c4 x hx).2⟩⟩
              refine ⟨rfl, m, Builtin.bitOr g (s.map fun x => 1 * 2 ^ x.toNat).sum, some (.tup (s.map .int)), some (.int (s.map fun x => 1 * 2 ^ x.toNat).sum), e10, rfl, ?_, ?_, ?_, ?_⟩
              · rw [play_app]
                exact hmm.ext fun i => by unfold spreadL; rw [mem_usort]
              · rw [play_app]; exact hg.or hm
              · rw [right_app, hr, okm]; rfl
              · intro t ht
                rcases List.mem_append.mp ht with ht | ht
                · exact hall t ht
                · simp at ht; subst ht; omega
            · have z : ¬ Builtin.bitAnd (s.map fun x => 1 * 2 ^ x.toNat).sum (Builtin.bitOr b g) = 0 := by
                intro z
                apply c4
                intro x hx
                have hx0 := c3 x hx
                have := hz.mp z x.toNat
                rw [Int.toNat_of_nonneg hx0.1] at this
                simp only [List.mem_filter, List.mem_append, decide_eq_true_eq] at this
                refine ⟨fun h => this ⟨hx, .inl h⟩, fun h => this ⟨hx, .inr h⟩⟩
              rw [decide_eq_false z]
              have okm : okM n (play T [h] [] pre).1 (play T [h] [] pre).2 s = false := by
                rw [Bool.eq_false_iff]
                intro h
                exact c4 fun x hx => ((okM_nodup h).2 x hx).2
              rw [bad (.inl okm)] at q
              simpa [after] using q
          · have e3 : ((s.map fun x => decide (0 ≤ x) && decide (x < n)).all id) = false := by
              rw [Bool.eq_false_iff]
              intro h
              apply c3
              intro x hx
              have := List.all_eq_true.mp h _ (List.mem_map_of_mem hx)
              simpa using this
            rw [e3]
            have okm : okM n (play T [h] [] pre).1 (play T [h] [] pre).2 s = false := by
              rw [Bool.eq_false_iff]
              intro h
              exact c3 fun x hx => ((okM_nodup h).2 x hx).1
            rw [bad (.inl okm)] at q
            simpa [after] using q
      · rw [decide_eq_false c2]
        have okm : okM n (play T [h] [] pre).1 (play T [h] [] pre).2 s = false := by
          unfold okM; rw [decide_eq_false c2]; rfl
        rw [bad (.inl okm)] at q
        simpa [after] using q
  · rintro env w ⟨rfl, b, g, e8, e9, e10, rfl, hb, hg, hr, hall⟩
    have : (rightP n T [h] [] P && P.all fun s => decide ((s.length : Int) ≤ d)) = true := by
      rw [hr]; simpa using hall
    rw [this] at q
    simpa [after] using q
theorem rangeD_map' (n : Int) : rangeD 0 n = (List.range n.toNat).map fun (i : Nat) => D.int i := by
  simp [rangeD]
theorem iterS_can {n : Int} {T : List (Int × Int)} (hw : Web n T) (Hd : List Int) : ∀ (k : Nat) (B : List Int), Can n B → Can n (iterS T Hd k B)
  | 0, B, h => h
  | k + 1, B, h => iterS_can hw Hd k _ (h.spread hw)
theorem up_range (n : Int) : ((List.range n.toNat).map fun (i : Nat) => (i : Int)).Pairwise (· < ·) := by
  refine List.Pairwise.map _ ?_ List.pairwise_lt_range
  intro a b h; omega
/-- a canonical set is what its bits say -/
theorem can_filter {n : Int} {F : List Int} (h : Can n F) : ((List.range n.toNat).filter fun (i : Nat) => decide ((i : Int) ∈ F)).map (fun (i : Nat) => (i : Int)) = F := by
  refine up_eq ?_ h.up fun k => ?_
  · refine List.Pairwise.map _ ?_ (List.Pairwise.filter _ List.pairwise_lt_range)
    intro a b h; omega
  · simp only [List.mem_map, List.mem_filter, List.mem_range, decide_eq_true_eq]
    constructor
    · rintro ⟨i, ⟨_, h⟩, rfl⟩; exact h
    · intro hk
      have := h.bd k hk
      exact ⟨k.toNat, ⟨by omega, by rw [Int.toNat_of_nonneg this.1]; exact hk⟩, by omega⟩
theorem mask_ne {n : Int} {a b : Int} {A B : List Int} (ha : Mask a A) (hb : Mask b B) (cA : Can n A) (cB : Can n B) : a = b ↔ A = B := by
  rw [ha.eq hb]
  constructor
  · intro h
    refine up_eq cA.up cB.up fun k => ?_
    constructor
    · intro hk
      have := cA.bd k hk
      have h2 := (h k.toNat).mp (by rw [Int.toNat_of_nonneg this.1]; exact hk)
      rwa [Int.toNat_of_nonneg this.1] at h2
    · intro hk
      have := cB.bd k hk
      have h2 := (h k.toNat).mpr (by rw [Int.toNat_of_nonneg this.1]; exact hk)
      rwa [Int.toNat_of_nonneg this.1] at h2
  · rintro rfl i; rfl
/-- the places whose bit is c -/
theorem bits_of {n m : Int} {B : List Int} (hm : Mask m B) (h0 : 0 ≤ n) (h1 : n ≤ 1000) (c : Bool) {env : DEnv} {ω : Om} {sn sm j : Nat} (en : env[sn]? = some (some (.int n))) (em : ∀ x : Int, ((wipeE env [j]).set j (some (.int x)))[sm]? = some (some (.int m))) (ej : ∀ x : Int, ((wipeE env [j]).set j (some (.int x)))[j]? = some (some (.int x))) {Q : D → Om → Prop}
    (q : Q (.lst (((List.range n.toNat).filter fun (i : Nat) => decide ((i : Int) ∈ B) == c).map fun (i : Nat) => D.int i)) ω) :
    W (eLc (eRng1 (eVar sn)) [j] (mName j) (asB (eBin aEq (eBin aAnd (eBin aShr (eVar sm) (eVar j)) (eC (.int 1))) (eC (.int (if c then 1 else 0))))) (eVar j) env ω) Q := by
  have hL : LIM = 1000000 := rfl
  have hL' : (LIM : Int) = 1000000 := rfl
  simp only [W_eLc, W_rng1, W_var]
  refine ⟨_, en, n, rfl, ⟨by omega, by omega⟩, ?_⟩
  rw [rangeD_map']
  refine W_lc (List.range n.toNat) (fun (i : Nat) => decide ((i : Int) ∈ B) == c) (fun (i : Nat) => D.int i) (fun i hi => ?_) ⟨?_, q⟩
  · have ht := hm.test (p := (i : Int)) (by omega)
    simp only [W_mName, W_asB, W_bin, W_var, W_eC]
    refine ⟨_, em i, _, ej i, ?_⟩
    rw [W_shr]
    refine ⟨by omega, ?_⟩
    rw [W_and, W_eq]
    refine ⟨rfl, _, rfl, ?_, ?_⟩
    · rw [ht]
      by_cases h : (i : Int) ∈ B <;> cases c <;> simp [h, D.deq]
    · by_cases h : (decide ((i : Int) ∈ B) == c) = true
      · rw [if_pos h]; exact ⟨_, ej i, rfl, rfl⟩
      · rw [if_neg h]
  · rw [List.length_map]
    have := List.length_filter_le (fun (i : Nat) => decide ((i : Int) ∈ B) == c) (List.range n.toNat)
    simp at this
    omega
theorem burnt_by_ok {n h : Int} {T : List (Int × Int)} {P : List (List Int)} {ω : Om} (hw : Web n T) (hn : 0 ≤ n) (h60 : n ≤ 60) (hh : 0 ≤ h ∧ h < n) (hP : ∀ s ∈ P, s.length ≤ 60) (hr : rightP n T [h] [] P = true) {Q : D → Om → Prop}
    (q : ∀ F, FinalF T (play T [h] [] P).2 (play T [h] [] P).1 F → Can n F → Q (.tup (F.map .int)) ω) : W (m_burnt_by [.int n, tiesD T, .int h, planD P] ω) Q := by
  have hL : LIM = 1000000 := rfl
  have can0 : Can n [h] := ⟨by simp, by simpa using hh⟩
  refine W_fn rfl ?_
  simp only [startE, W_sSeq, W_sAsg, W_call, W_evs1, W_evs0, W_var]
  refine ⟨_, rfl, _, rfl, ?_⟩
  refine near_of_ok hw hn (by omega) ?_
  try rw [after_nx]
  simp only [W_sSeq, W_sUnp, W_tup, W_evs1, W_evs0, W_bin, W_eC, W_var]
  refine ⟨_, rfl, ?_⟩
  rw [W_shl]
  refine ⟨⟨by omega, by omega, by decide⟩, ?_⟩
  simp only [W_mTup, W_mAll1, W_mAll0, W_mName, after_nx, W_sSeq, W_sFor, W_eItems, W_var]
  refine ⟨_, rfl, ?_⟩
  rw [planD, W_itemsT]
  refine W_for (fun pre env w => w = ω ∧ ∃ (b g : Int) (e7 e8 : Option D), env = [some (.int n), some (tiesD T), some (.int h), some (planD P), some (.lst ((nearD T n.toNat).map .int)), some (.int b), some (.int g), e7, e8] ∧ Mask b (play T [h] [] pre).1 ∧ Mask g (play T [h] [] pre).2) P ⟨rfl, _, _, none, none, rfl, Mask.one hh.1, Mask.nil⟩ ?_ ?_
  · rintro pre s post env w hx ⟨rfl, b, g, e7, e8, rfl, hb, hg⟩
    have hs := hP s (by rw [← hx]; simp)
    have canB := play_can hw pre [h] [] can0
    have okm : okM n (play T [h] [] pre).1 (play T [h] [] pre).2 s = true := by
      rw [← hx, right_split] at hr
      simp only [Bool.and_eq_true] at hr
      exact hr.2.1
    obtain ⟨snd, sok⟩ := okM_nodup okm
    have hm := Mask.sum snd fun x hx => (sok x hx).1.1
    rw [W_mName]
    simp only [W_sSeq, W_sAsg, W_bin, W_var]
    refine ⟨_, rfl, ?_⟩
    refine sum_bits (sl := 7) rfl (fun x hx => by have := sok x hx; omega) (by omega) (fun x => rfl) rfl ?_
    rw [W_or]
    try rw [after_nx]
    simp only [W_sAsg, W_call, W_evs1, W_evs0, W_var]
    refine ⟨_, rfl, _, rfl, _, rfl, ?_⟩
    refine spread_ok hw hn hb (hg.or hm) canB.bd fun m hmm => ?_
    refine ⟨rfl, m, Builtin.bitOr g (s.map fun x => 1 * 2 ^ x.toNat).sum, some (.tup (s.map .int)), e8, by simp, ?_, ?_⟩
    · rw [play_app]
      exact hmm.ext fun i => by unfold spreadL; rw [mem_usort]
    · rw [play_app]; exact hg.or hm
  · rintro env w ⟨rfl, b, g, e7, e8, rfl, hb, hg⟩
    rw [after_nx, W_sSeq]
    have spr : ∀ {j : Nat} {m : Int}, Mask m (iterS T (play T [h] [] P).2 j (play T [h] [] P).1) → ∀ {S : D → Om → Prop} {ww : Om}, (∀ m', Mask m' (iterS T (play T [h] [] P).2 (j + 1) (play T [h] [] P).1) → S (.int m') ww) → W (m_spread [.lst ((nearD T n.toNat).map .int), .int m, .int g] ww) S := by
      intro j m hm S ww hS
      have can := iterS_can hw (play T [h] [] P).2 j _ (play_can hw P [h] [] can0)
      refine spread_ok hw hn hm hg can.bd fun m' hm' => hS m' ?_
      rw [iterS_succ]
      exact hm'.ext fun i => by unfold spreadL; rw [mem_usort]
    refine W_whileN (fun k env w' => w' = w ∧ ∃ (j : Nat) (m : Int), env = [some (.int n), some (tiesD T), some (.int h), some (planD P), some (.lst ((nearD T n.toNat).map .int)), some (.int m), some (.int g), e7, e8] ∧ Mask m (iterS T (play T [h] [] P).2 j (play T [h] [] P).1) ∧ k = n.toNat - (iterS T (play T [h] [] P).2 j (play T [h] [] P).1).length) (k0 := _) ⟨rfl, 0, b, rfl, hb, rfl⟩ ?_
    rintro k env w' ⟨rfl, j, m, rfl, hm, rfl⟩
    have can := iterS_can hw (play T [h] [] P).2 j _ (play_can hw P [h] [] can0)
    have can' := iterS_can hw (play T [h] [] P).2 (j + 1) _ (play_can hw P [h] [] can0)
    simp only [W_asB, W_bin, W_call, W_evs1, W_evs0, W_var]
    refine ⟨_, rfl, _, rfl, _, rfl, spr hm fun m' hm' => ?_⟩
    refine ⟨_, rfl, ?_⟩
    rw [W_ne]
    refine ⟨rfl, _, rfl, ?_⟩
    have e : D.deq (.int m') (.int m) = decide (m' = m) := by simp [D.deq]; rfl
    rw [e]
    have hne := mask_ne hm' hm can' can
    have hit := iterS_succ T (play T [h] [] P).2 j (play T [h] [] P).1
    by_cases hfix : m' = m
    · rw [decide_eq_true hfix]
      rw [if_neg (by decide)]
      rw [after_nx, W_sRet, W_call, W_evs1]
      refine bits_of hm hn (by omega) true (sm := 5) rfl (fun x => rfl) (fun x => rfl) ?_
      rw [W_evs0, W_tupleL]
      have hF : FinalF T (play T [h] [] P).2 (play T [h] [] P).1 (iterS T (play T [h] [] P).2 j (play T [h] [] P).1) := ⟨j, rfl, by rw [← hit]; exact hne.mp hfix⟩
      have := q _ hF can
      have e2 := can_filter can
      rw [← e2, List.map_map] at this
      simpa [Function.comp_def] using this
    · rw [decide_eq_false hfix]
      rw [if_pos (by decide)]
      simp only [W_sAsg, W_call, W_evs1, W_evs0, W_var]
      refine ⟨_, rfl, _, rfl, _, rfl, spr hm fun m2 hm2 => ?_⟩
      have hg2 : (iterS T (play T [h] [] P).2 j (play T [h] [] P).1).length < (iterS T (play T [h] [] P).2 (j + 1) (play T [h] [] P).1).length := by
        rw [hit]
        exact spread_grow can (by rw [← hit]; exact fun z => hfix (hne.mpr z))
      have l1 := can'.len hn
      exact ⟨_, by omega, rfl, j + 1, m2, rfl, hm2, rfl⟩
end Pw
set_option Elab.async false
set_option linter.all false
set_option maxRecDepth 10000
namespace Pw
open PySem
@[simp] theorem W_eLc2 {src : DEnv → M (List D)} {own own1 : List Nat} {t : D → DEnv → M DEnv} {c : DEnv → M Bool} {src1 : DEnv → M (List D)} {t1 : D → DEnv → M DEnv} {c1 : DEnv → M Bool} {e : DEnv → M D} {env : DEnv} {ω : Om} {Q : D → Om → Prop} : W (eLc2 src own own1 t c src1 t1 c1 e env ω) Q ↔ W (src env ω) fun ds w => W (lcD2 own own1 t c src1 t1 c1 e env ds w) fun r w' => r.length ≤ LIM ∧ Q (.lst r) w' := by
  unfold eLc2
  simp only [W_bind, W_ite, W_pure, W_fail]
  constructor <;> rintro ⟨r, w, h, r2, w2, h2, q⟩ <;> refine ⟨r, w, h, r2, w2, h2, ?_⟩
  · split at q
    · rename_i hz; exact ⟨hz, q⟩
    · exact q.elim
  · show (if r2.length ≤ LIM then Q (.lst r2) w2 else False)
    rw [if_pos q.1]; exact q.2
theorem W_lc2 {α β : Type} {enc : α → D} {enc1 : β → D} {own own1 : List Nat} {t : D → DEnv → M DEnv} {c : DEnv → M Bool} {src1 : DEnv → M (List D)} {t1 : D → DEnv → M DEnv} {c1 : DEnv → M Bool} {e : DEnv → M D} {env : DEnv} {ω : Om} (xs : List α) (ys : α → List β) (p : α → β → Bool) (f : α → β → D)
    (step : ∀ x ∈ xs, W (t (enc x) (wipeE env own) ω) fun e1 w1 => W (c e1 w1) fun b w2 => b = true ∧ W (src1 e1 w2) fun ds w3 => ds = (ys x).map enc1 ∧ w3 = ω ∧ ∀ y ∈ ys x, W (t1 (enc1 y) (wipeE e1 own1) ω) fun e2 w4 => W (c1 e2 w4) fun b w5 => b = p x y ∧ if p x y = true then W (e e2 w5) (fun d w6 => d = f x y ∧ w6 = ω) else w5 = ω)
    {S : List D → Om → Prop} (q : S (xs.flatMap fun x => ((ys x).filter (p x)).map (f x)) ω) : W (lcD2 own own1 t c src1 t1 c1 e env (xs.map enc) ω) S := by
  have key : lcD2 own own1 t c src1 t1 c1 e env (xs.map enc) ω = some (xs.flatMap fun x => ((ys x).filter (p x)).map (f x), ω) := by
    clear q
    induction xs with
    | nil => rfl
    | cons x xs ih =>
      have ih := ih fun y hy => step y (List.mem_cons_of_mem _ hy)
      obtain ⟨e1, w1, h1, b, w2, h2, rfl, ds, w3, h3, rfl, rfl, h4⟩ := step x (List.mem_cons_self ..)
      have inner : lcD own1 t1 c1 e e1 ((ys x).map enc1) w3 = some (((ys x).filter (p x)).map (f x), w3) :=
        W.eq (W_lc (ys x) (p x) (f x) h4 ⟨rfl, rfl⟩)
      show (t (enc x) (wipeE env own) >>= fun e1 => c e1 >>= fun b => (if b = true then (do let zs ← src1 e1; let r1 ← lcD own1 t1 c1 e e1 zs; let r ← lcD2 own own1 t c src1 t1 c1 e env (xs.map enc); pure (r1 ++ r)) else lcD2 own own1 t c src1 t1 c1 e env (xs.map enc) : M (List D))) w3 = _
      rw [M.bind_run, h1]
      show (c e1 >>= _ : M (List D)) w1 = _
      rw [M.bind_run, h2]
      show (src1 e1 >>= _ : M (List D)) w2 = _
      rw [M.bind_run, h3]
      show (lcD own1 t1 c1 e e1 ((ys x).map enc1) >>= _ : M (List D)) w3 = _
      rw [M.bind_run, inner]
      show (lcD2 own own1 t c src1 t1 c1 e env (xs.map enc) >>= _ : M (List D)) w3 = _
      rw [M.bind_run, ih]
      rfl
  exact ⟨_, _, key, q⟩
def tupI (s : List Int) : D := .tup (s.map .int)
/-- the moves on a free row -/
structure Moves (free : List Int) (d : Nat) (s : List Int) : Prop where
  up : s.Pairwise (· < ·)
  sub : ∀ x ∈ s, x ∈ free
  len : s.length ≤ d
def nextRows (free : List Int) (last : List (List Int)) : List (List Int) := last.flatMap fun s => (free.filter fun x => decide (s = []) || (match s.getLast? with | some y => decide (y < x) | none => false)).map fun x => s ++ [x]
theorem nextRows_ok {free : List Int} {d : Nat} {last : List (List Int)} (h : ∀ s ∈ last, Moves free d s) : ∀ s ∈ nextRows free last, Moves free (d + 1) s := by
  intro s hs
  obtain ⟨r, hr, hs⟩ := List.mem_flatMap.mp hs
  obtain ⟨x, hx, rfl⟩ := List.mem_map.mp hs
  obtain ⟨hx1, hx2⟩ := List.mem_filter.mp hx
  have m := h r hr
  refine ⟨List.pairwise_append.mpr ⟨m.up, by simp, fun a ha b hb => ?_⟩, fun y hy => ?_, by have := m.len; simp; omega⟩
  · simp at hb
    subst hb
    rcases List.eq_nil_or_concat r with rfl | ⟨r', z, rfl⟩
    · simp at ha
    · simp at hx2
      simp at ha
      rcases ha with ha | rfl
      · have := (List.pairwise_append.mp (by simpa using m.up : (r' ++ [z]).Pairwise (· < ·))).2.2 a ha z (by simp)
        omega
      · exact hx2
  · rcases List.mem_append.mp hy with hy | hy
    · exact m.sub y hy
    · simp at hy; subst hy; exact hx1
theorem nextRows_len (free : List Int) (last : List (List Int)) : (nextRows free last).length ≤ last.length * free.length := by
  induction last with
  | nil => simp [nextRows]
  | cons s last ih =>
    have : nextRows free (s :: last) = (free.filter fun x => decide (s = []) || (match s.getLast? with | some y => decide (y < x) | none => false)).map (fun x => s ++ [x]) ++ nextRows free last := rfl
    rw [this]
    have h := List.length_filter_le (fun x => decide (s = []) || (match s.getLast? with | some y => decide (y < x) | none => false)) free
    simp only [List.length_append, List.length_map, List.length_cons, Nat.succ_mul]
    omega
theorem atI_last {ds : List D} {z : D} : L2.atI (ds ++ [z]) (-1) = some z := by
  simp only [L2.atI, L2.ixN, List.length_append, List.length_singleton]
  have e : (-1 + ((ds.length + 1 : Nat) : Int)).toNat = ds.length := by omega
  rw [if_neg (by omega), if_pos (by omega), e]
  simp
theorem choices_ok {free : List Int} {d : Int} {ω : Om} (hd : 0 ≤ d ∧ d ≤ 2) (hf : free.length ≤ 60) {Q : D → Om → Prop} (q : ∀ L : List (List Int), [] ∈ L → (∀ s ∈ L, Moves free d.toNat s) → L.length ≤ 20000 → Q (.lst (L.map tupI)) ω) : W (m_choices [.lst (free.map .int), .int d] ω) Q := by
  have hL : LIM = 1000000 := rfl
  have hL' : (LIM : Int) = 1000000 := rfl
  refine W_fn rfl ?_
  simp only [startE, W_sSeq, W_sAsg, W_lst, W_tup, W_evs1, W_evs0, after_nx, W_var]
  refine ⟨_, rfl, ?_⟩
  simp only [after_nx, W_sSeq, W_sFor, W_rng1, W_var]
  refine ⟨_, rfl, d, rfl, ⟨by omega, by omega⟩, ?_⟩
  rw [rangeD_map']
  refine W_for (fun pre env w => w = ω ∧ ∃ (F L : List (List Int)) (e4 e5 e6 : Option D), env = [some (.lst (free.map .int)), some (.int d), some (.lst (F.map tupI)), some (.lst (L.map tupI)), e4, e5, e6] ∧ [] ∈ F ∧ (∀ s ∈ F, Moves free pre.length s) ∧ (∀ s ∈ L, Moves free pre.length s) ∧ L.length ≤ 60 ^ pre.length ∧ F.length ≤ (pre.length + 1) * 60 ^ pre.length) (List.range d.toNat) ⟨rfl, [[]], [[]], none, none, none, rfl, by simp, fun s hs => by simp at hs; subst hs; exact ⟨by simp, by simp, by simp⟩, fun s hs => by simp at hs; subst hs; exact ⟨by simp, by simp, by simp⟩, by simp, by simp⟩ ?_ ?_
  · rintro pre x post env w hx ⟨rfl, F, L, e4, e5, e6, rfl, h1, h2, h3, h4, h5⟩
    obtain ⟨rfl, hxd, _⟩ := range_split hx
    have hp : pre.length ≤ 1 := by omega
    have hLl := nextRows_len free L
    have hLb : (nextRows free L).length ≤ 60 ^ (pre.length + 1) := by
      rw [Nat.pow_succ]
      exact Nat.le_trans hLl (Nat.mul_le_mul h4 hf)
    have hpow : 60 ^ (pre.length + 1) ≤ 3600 := by
      have : 60 ^ (pre.length + 1) ≤ 60 ^ 2 := Nat.pow_le_pow_right (by decide) (by omega)
      simpa using this
    have hpow2 : 60 ^ pre.length ≤ 60 := by
      have : 60 ^ pre.length ≤ 60 ^ 1 := Nat.pow_le_pow_right (by decide) (by omega)
      simpa using this
    rw [W_mName]
    simp only [W_sSeq, W_sAsg, W_eLc2, W_eItems, W_var]
    refine ⟨_, rfl, ?_⟩
    rw [W_itemsL]
    refine W_lc2 (enc1 := fun y => D.int y) L (fun _ => free) (fun s x => decide (s = []) || (match s.getLast? with | some y => decide (y < x) | none => false)) (fun s x => tupI (s ++ [x])) (fun s hs => ?_) ?_
    · rw [W_mName, W_bYes]
      refine ⟨rfl, ?_⟩
      rw [W_eItems, W_var]
      refine ⟨_, rfl, ?_⟩
      rw [W_itemsL]
      refine ⟨rfl, rfl, fun y hy => ?_⟩
      rcases List.eq_nil_or_concat s with rfl | ⟨s', z, rfl⟩
      · simp [wipeE, tupI, eqOk, D.plain, D.depth, D.deq, hL]
      · have hm := (h3 _ hs).len
        simp at hm
        have e := atI_last (ds := s'.map D.int) (z := .int z)
        by_cases hzy : z < y
        · simp [wipeE, tupI, eqOk, D.plain, D.depth, D.deq, hL, oNeg, e, hzy]
          omega
        · simp [wipeE, tupI, eqOk, D.plain, D.depth, D.deq, hL, oNeg, e, hzy]
          omega
    · have e : (L.flatMap fun s => (free.filter fun x => decide (s = []) || (match s.getLast? with | some y => decide (y < x) | none => false)).map fun x => tupI (s ++ [x])) = (nextRows free L).map tupI := by
        simp [nextRows, List.map_flatMap, Function.comp_def]
      rw [e]
      refine ⟨by rw [List.length_map]; omega, ?_⟩
      try rw [after_nx]
      simp only [W_sAsg, W_bin, W_var]
      refine ⟨_, rfl, _, rfl, ?_⟩
      rw [W_addL]
      refine ⟨?_, rfl, F ++ nextRows free L, nextRows free L, some (.int pre.length), e5, e6, by simp, ?_, ?_, ?_, ?_, ?_⟩
      · simp only [List.length_map]
        have : (pre.length + 1) * 60 ^ pre.length ≤ 2 * 60 := Nat.mul_le_mul (by omega) hpow2
        omega
      · simp [h1]
      · intro s hs
        rw [List.length_append, List.length_singleton]
        rcases List.mem_append.mp hs with hs | hs
        · have := h2 s hs; exact ⟨this.up, this.sub, by have := this.len; omega⟩
        · exact nextRows_ok h3 s hs
      · intro s hs
        rw [List.length_append, List.length_singleton]
        exact nextRows_ok h3 s hs
      · rw [List.length_append, List.length_singleton]; exact hLb
      · rw [List.length_append, List.length_append, List.length_singleton]
        have : (pre.length + 1) * 60 ^ pre.length ≤ (pre.length + 1) * 60 ^ (pre.length + 1) := Nat.mul_le_mul_left _ (Nat.pow_le_pow_right (by decide) (by omega))
        rw [Nat.succ_mul (pre.length + 1)]
        omega
  · rintro env w ⟨rfl, F, L, e4, e5, e6, rfl, h1, h2, h3, h4, h5⟩
    rw [after_nx, W_sRet, W_var]
    refine ⟨_, rfl, ?_⟩
    rw [List.length_range] at h2 h5
    refine q F h1 h2 ?_
    have hdn : d.toNat ≤ 2 := by omega
    have : (d.toNat + 1) * 60 ^ d.toNat ≤ 3 * 60 ^ 2 := Nat.mul_le_mul (by omega) (Nat.pow_le_pow_right (by decide) hdn)
    have e : 3 * 60 ^ 2 = 10800 := by decide
    rw [e] at this
    omega
end Pw
set_option Elab.async false
set_option linter.all false
set_option maxRecDepth 10000
namespace Pw
open PySem
theorem bits_of2 {n m : Int} {B : List Int} (hm : Mask m B) (h0 : 0 ≤ n) (h1 : n ≤ 1000) (c : Bool) {env : DEnv} {ω : Om} {sn j : Nat} {me : DEnv → M D} (en : env[sn]? = some (some (.int n))) (em : ∀ (x : Int) (S : D → Om → Prop), S (.int m) ω → W (me ((wipeE env [j]).set j (some (.int x))) ω) S) (ej : ∀ x : Int, ((wipeE env [j]).set j (some (.int x)))[j]? = some (some (.int x))) {Q : D → Om → Prop}
    (q : Q (.lst (((List.range n.toNat).filter fun (i : Nat) => decide ((i : Int) ∈ B) == c).map fun (i : Nat) => D.int i)) ω) :
    W (eLc (eRng1 (eVar sn)) [j] (mName j) (asB (eBin aEq (eBin aAnd (eBin aShr me (eVar j)) (eC (.int 1))) (eC (.int (if c then 1 else 0))))) (eVar j) env ω) Q := by
  have hL : LIM = 1000000 := rfl
  have hL' : (LIM : Int) = 1000000 := rfl
  simp only [W_eLc, W_rng1, W_var]
  refine ⟨_, en, n, rfl, ⟨by omega, by omega⟩, ?_⟩
  rw [rangeD_map']
  refine W_lc (List.range n.toNat) (fun (i : Nat) => decide ((i : Int) ∈ B) == c) (fun (i : Nat) => D.int i) (fun i hi => ?_) ?_
  · rw [W_mName]
    simp only [W_asB, W_bin, W_eC, W_var]
    refine em _ _ ?_
    refine ⟨_, ej i, ?_⟩
    rw [W_shr]
    refine ⟨by omega, ?_⟩
    rw [W_and, W_eq, hm.test (by omega)]
    refine ⟨by cases c <;> rfl, _, rfl, ?_, ?_⟩
    · by_cases hb : (i : Int) ∈ B <;> cases c <;> simp [hb, D.deq] <;> rfl
    · split
      · exact ⟨_, ej i, rfl, rfl⟩
      · rfl
  · have := List.length_filter_le (fun (i : Nat) => decide ((i : Int) ∈ B) == c) (List.range n.toNat)
    rw [List.length_range] at this
    exact ⟨by rw [List.length_map]; omega, q⟩
theorem mask_lt {m : Int} {L : List Int} (hm : Mask m L) (h : ∀ x ∈ L, x < 8) : 0 ≤ m ∧ m < 256 := by
  obtain ⟨k, rfl, hk⟩ := hm
  have : k < 2 ^ 8 := Nat.lt_pow_two_of_testBit k fun i hi => by
    rw [hk]
    exact decide_eq_false fun hx => by have := h _ hx; omega
  omega
theorem right_bd {n : Int} {T : List (Int × Int)} : ∀ (P : List (List Int)) (B Hd : List Int), rightP n T B Hd P = true → ∀ x ∈ P.flatten, 0 ≤ x ∧ x < n
  | [], _, _, _, x, hx => by simp at hx
  | s :: P, B, Hd, h, x, hx => by
    rw [rightP, Bool.and_eq_true] at h
    rcases List.mem_append.mp (by simpa using hx : x ∈ s ++ P.flatten) with hx | hx
    · exact ((okM_nodup h.1).2 x hx).1
    · exact right_bd P _ _ h.2 x hx
structure Got (n : Int) (T : List (Int × Int)) (h d : Int) (k : Nat) (x : (Int × Int) × List (List Int)) : Prop where
  r : rightP n T [h] [] x.2 = true
  l : ∀ s ∈ x.2, (s.length : Int) ≤ d
  z : x.2.length = k
  mb : Mask x.1.1 (play T [h] [] x.2).1
  mh : Mask x.1.2 (play T [h] [] x.2).2
  g : k + 1 ≤ (play T [h] [] x.2).1.length
def TG (n : Int) (T : List (Int × Int)) (h d : Int) (best : Int) : Option (List (List Int)) → Prop
  | none => best = -1
  | some P => rightP n T [h] [] P = true ∧ (∀ s ∈ P, (s.length : Int) ≤ d) ∧ P.length ≤ 9
def toldD : Option (List (List Int)) → D
  | none => .non
  | some P => planD P
def kvD (x : (Int × Int) × List (List Int)) : D × D := (pk x.1, planD x.2)
theorem keys_len {n : Int} {T : List (Int × Int)} {h d : Int} {k : Nat} (hw : Web n T) (hh : 0 ≤ h ∧ h < n) (h8 : n ≤ 8) {xs : List ((Int × Int) × List (List Int))} (g : ∀ x ∈ xs, Got n T h d k x) (nd : (xs.map (·.1)).Nodup) : xs.length ≤ 65536 := by
  have can0 : Can n [h] := ⟨by simp, by simpa using hh⟩
  have bd : ∀ x ∈ xs, (0 ≤ x.1.1 ∧ x.1.1 < 256) ∧ 0 ≤ x.1.2 ∧ x.1.2 < 256 := fun x hx => by
    have c := play_can hw x.2 [h] [] can0
    refine ⟨mask_lt (g x hx).mb fun y hy => by have := (c.bd y hy).2; omega, mask_lt (g x hx).mh fun y hy => ?_⟩
    rw [play_held] at hy
    have := (right_bd _ _ _ (g x hx).r y (by simpa using hy)).2
    omega
  have nd2 : (xs.map fun x => x.1.1.toNat * 256 + x.1.2.toNat).Nodup := by
    unfold List.Nodup at nd ⊢
    rw [List.pairwise_map] at nd ⊢
    refine nd.imp_of_mem fun {a b} ha hb hne e => hne ?_
    have h1 := bd a ha
    have h2 := bd b hb
    exact Prod.ext (by omega) (by omega)
  have := nodup_len 65536 _ nd2 fun y hy => by
    obtain ⟨x, hx, rfl⟩ := List.mem_map.mp hy
    have := bd x hx
    omega
  simpa using this
theorem got_next {n : Int} {T : List (Int × Int)} {h d : Int} {k : Nat} (hw : Web n T) (hn : 0 ≤ n) (hh : 0 ≤ h ∧ h < n) {x : (Int × Int) × List (List Int)} (g : Got n T h d k x) {s : List Int} (hd : 0 ≤ d) (hs : Moves (((List.range n.toNat).filter fun (i : Nat) => decide ((i : Int) ∈ (play T [h] [] x.2).1 ++ (play T [h] [] x.2).2) == false).map fun (i : Nat) => (i : Int)) d.toNat s) :
    okM n (play T [h] [] x.2).1 (play T [h] [] x.2).2 s = true ∧ rightP n T [h] [] (x.2 ++ [s]) = true ∧ (∀ t ∈ x.2 ++ [s], (t.length : Int) ≤ d) ∧ (x.2 ++ [s]).length = k + 1 := by
  have ok : okM n (play T [h] [] x.2).1 (play T [h] [] x.2).2 s = true := by
    unfold okM
    rw [Bool.and_eq_true, List.all_eq_true]
    refine ⟨decide_eq_true (usort_of_up hs.up).symm, fun y hy => ?_⟩
    obtain ⟨i, hi, rfl⟩ := List.mem_map.mp (hs.sub y hy)
    obtain ⟨hi1, hi2⟩ := List.mem_filter.mp hi
    have hi1 := List.mem_range.mp hi1
    simp at hi2
    simp [hi2]
    omega
  refine ⟨ok, by rw [right_app, g.r, ok]; rfl, fun t ht => ?_, by simp [g.z]⟩
  rcases List.mem_append.mp ht with ht | ht
  · exact g.l t ht
  · simp at ht; subst ht; have := hs.len; omega
end Pw
set_option Elab.async false
set_option linter.all false
set_option maxRecDepth 10000
namespace Pw
open PySem
theorem best_plan_ok {n h d : Int} {T : List (Int × Int)} {ω : Om} (hw : Web n T) (h8 : n ≤ 8) (hh : 0 ≤ h ∧ h < n) (hd : 0 ≤ d ∧ d ≤ 2) {Q : D → Om → Prop}
    (q : ∀ P : List (List Int), rightP n T [h] [] P = true → (∀ s ∈ P, (s.length : Int) ≤ d) → P.length ≤ 9 → Q (planD P) ω) : W (m_best_plan [.int n, tiesD T, .int h, .int d] ω) Q := by
  have hL : LIM = 1000000 := rfl
  have hn : 0 ≤ n := by omega
  have can0 : Can n [h] := ⟨by simp, by simpa using hh⟩
  refine W_fn rfl ?_
  simp only [startE, W_sSeq, W_sAsg, W_call, W_evs1, W_evs0, W_var]
  refine ⟨_, rfl, _, rfl, ?_⟩
  refine near_of_ok hw hn (by omega) ?_
  try rw [after_nx]
  simp only [W_sSeq, W_sUnp, W_tup, W_evs1, W_evs0, W_eUn, W_eC]
  refine ⟨_, rfl, ?_⟩
  simp only [W_mTup, W_mAll1, W_mAll0, W_mName, after_nx, W_sSeq, W_sAsg, W_eDic1, W_tup, W_evs1, W_evs0, W_bin, W_eC, W_var]
  refine ⟨_, rfl, ?_⟩
  rw [W_shl]
  refine ⟨⟨by omega, by omega, by decide⟩, rfl, ?_⟩
  have start : Got n T h d 0 (((1 * 2 ^ h.toNat, 0), []) : (Int × Int) × List (List Int)) := ⟨rfl, by simp, rfl, Mask.one hh.1, Mask.nil, by simp [play]⟩
  refine W_whileN (fun k env w => w = ω ∧ ∃ (r : Nat) (best : Int) (told : Option (List (List Int))) (here : List ((Int × Int) × List (List Int))) (e8 e9 e10 e11 e12 e13 e14 e15 e16 e17 : Option D),
    env = [some (.int n), some (tiesD T), some (.int h), some (.int d), some (.lst ((nearD T n.toNat).map .int)), some (.int best), some (toldD told), some (.dic (here.map kvD)), e8, e9, e10, e11, e12, e13, e14, e15, e16, e17] ∧ (∀ x ∈ here, Got n T h d r x) ∧ (here.map (·.1)).Nodup ∧ TG n T h d best told ∧ (told ≠ none ∨ here ≠ []) ∧ k = n.toNat + 1 - r) (k0 := n.toNat + 1)
    ⟨rfl, 0, -1, none, [((1 * 2 ^ h.toNat, 0), [])], none, none, none, none, none, none, none, none, none, none, rfl, by simpa using start, by simp, rfl, by simp, rfl⟩ ?_
  rintro k env w ⟨rfl, r, best, told, here, e8, e9, e10, e11, e12, e13, e14, e15, e16, e17, rfl, hg, hnd, htg, hne, rfl⟩
  simp only [W_asB, W_bin, W_call, W_evs1, W_evs0, W_var, W_eC]
  refine ⟨_, rfl, ?_⟩
  rw [W_lenD, W_gt]
  refine ⟨_, rfl, ?_⟩
  rcases here with _ | ⟨x0, rest⟩
  · rw [if_neg (by simp)]
    rw [after_nx, W_sRet, W_var]
    refine ⟨_, rfl, ?_⟩
    cases told with
    | none => simp at hne
    | some P => exact q P htg.1 htg.2.1 htg.2.2
  · rw [if_pos (by simp)]
    have hr : r + 1 ≤ n.toNat := by
      have g := (hg x0 (by simp)).g
      have := (play_can hw x0.2 [h] [] can0).len hn
      omega
    have hxz : (x0 :: rest) ≠ [] := by simp
    generalize x0 :: rest = here at hg hnd hxz
    clear hne
    simp only [W_sSeq, W_sAsg, W_eC, after_nx, W_sFor, W_eDic]
    refine ⟨_, rfl, ?_⟩
    have e : dItems (here.map kvD) = here.map fun x => D.tup [pk x.1, planD x.2] := by simp [dItems, kvD, Function.comp_def]
    rw [e]
    refine W_for (fun pre env w' => w' = w ∧ ∃ (best : Int) (told : Option (List (List Int))) (aft : List ((Int × Int) × List (List Int))) (e9 e10 e11 e12 e13 e14 e15 e16 e17 : Option D),
      env = [some (.int n), some (tiesD T), some (.int h), some (.int d), some (.lst ((nearD T n.toNat).map .int)), some (.int best), some (toldD told), some (.dic (here.map kvD)), some (.dic (aft.map kvD)), e9, e10, e11, e12, e13, e14, e15, e16, e17] ∧ (∀ x ∈ aft, Got n T h d (r + 1) x) ∧ (aft.map (·.1)).Nodup ∧ TG n T h d best told ∧ (pre = [] ∨ told ≠ none ∨ aft ≠ [])) here
      ⟨rfl, best, told, [], e9, e10, e11, e12, e13, e14, e15, e16, e17, rfl, by simp, by simp, htg, Or.inl rfl⟩ ?_ ?_
    · clear htg e9 e10 e11 e12 e13 e14 e15 e16 e17
      rintro pre x post env w' hx ⟨rfl, best, told, aft, e9, e10, e11, e12, e13, e14, e15, e16, e17, rfl, ha, hand, htg, hpr⟩
      have gx : Got n T h d r x := hg x (by rw [← hx]; simp)
      have canB := play_can hw x.2 [h] [] can0
      simp only [W_mTup, W_mAll1, W_mAll0, W_mName, pk, W_sSeq, W_sAsg]
      refine bits_of2 (B := (play T [h] [] x.2).1 ++ (play T [h] [] x.2).2) (gx.mb.or gx.mh) hn (by omega) false rfl (fun i S hS => ?_) (fun i => rfl) ?_
      · simp only [W_bin, W_var]
        exact ⟨_, rfl, _, rfl, by rw [W_or]; exact hS⟩
      generalize hfr : ((List.range n.toNat).filter fun (i : Nat) => decide ((i : Int) ∈ (play T [h] [] x.2).1 ++ (play T [h] [] x.2).2) == false) = fr
      have hfz : fr.length ≤ 8 := by
        have := List.length_filter_le (fun (i : Nat) => decide ((i : Int) ∈ (play T [h] [] x.2).1 ++ (play T [h] [] x.2).2) == false) (List.range n.toNat)
        rw [hfr, List.length_range] at this
        omega
      try rw [after_nx]
      have efr : (fr.map fun (i : Nat) => D.int i) = (fr.map fun (i : Nat) => (i : Int)).map .int := by simp [Function.comp_def]
      rw [efr]
      simp only [W_sFor, W_eItems, W_call, W_evs1, W_evs0, W_var]
      refine ⟨_, rfl, _, rfl, ?_⟩
      refine choices_ok hd (by simpa using Nat.le_trans hfz (by decide)) fun L hL1 hL2 hL3 => ?_
      rw [W_itemsL]
      refine W_for (fun pre2 env w2 => w2 = w' ∧ ∃ (best : Int) (told : Option (List (List Int))) (aft : List ((Int × Int) × List (List Int))) (e13 e14 e15 e16 e17 : Option D),
        env = [some (.int n), some (tiesD T), some (.int h), some (.int d), some (.lst ((nearD T n.toNat).map .int)), some (.int best), some (toldD told), some (.dic (here.map kvD)), some (.dic (aft.map kvD)), some (.int x.1.1), some (.int x.1.2), some (planD x.2), some (.lst ((fr.map fun (i : Nat) => (i : Int)).map .int)), e13, e14, e15, e16, e17] ∧ (∀ x ∈ aft, Got n T h d (r + 1) x) ∧ (aft.map (·.1)).Nodup ∧ TG n T h d best told ∧ (pre2 = [] ∨ told ≠ none ∨ aft ≠ [])) L
        ⟨rfl, best, told, aft, e13, e14, e15, e16, e17, rfl, ha, hand, htg, Or.inl rfl⟩ ?_ ?_
      · clear ha hand htg hpr e13 e14 e15 e16 e17
        rintro pre2 s post2 env w2 hs ⟨rfl, best, told, aft, e13, e14, e15, e16, e17, rfl, ha, hand, htg, hpr⟩
        have hsL : s ∈ L := by rw [← hs]; simp
        have mv := hL2 s hsL
        rw [← hfr] at mv
        obtain ⟨okm, n1, n2, n3⟩ := got_next hw hn hh gx hd.1 mv
        obtain ⟨snd, sok⟩ := okM_nodup okm
        have hm := Mask.sum snd fun x hx => (sok x hx).1.1
        have hlen : s.length ≤ 2 := by have := mv.len; omega
        simp only [W_mName, tupI, W_sSeq, W_sAsg, W_bin, W_var]
        refine ⟨_, rfl, ?_⟩
        refine sum_bits (sl := 13) rfl (fun x hx => by have := sok x hx; omega) (by omega) (fun x => rfl) rfl ?_
        rw [W_or]
        try rw [after_nx]
        simp only [W_sSeq, W_sAsg, W_call, W_evs1, W_evs0, W_var]
        refine ⟨_, rfl, _, rfl, _, rfl, ?_⟩
        refine spread_ok hw hn gx.mb (gx.mh.or hm) canB.bd fun m hmm => ?_
        have hm2 : Mask m (spreadL T (play T [h] [] x.2).1 ((play T [h] [] x.2).2 ++ s)) := hmm.ext fun i => by unfold spreadL; rw [mem_usort]
        have can2 := canB.spread hw (Hd := (play T [h] [] x.2).2 ++ s)
        have hne := mask_ne hm2 gx.mb can2 canB
        have n3' : (x.2 ++ [s]).length ≤ 9 := by omega
        have hx2 : x.2.length = r := gx.z
        simp only [after_nx, W_sIf, W_asB, W_bin, W_var]
        refine ⟨_, rfl, _, rfl, ?_⟩
        rw [W_eq]
        refine ⟨rfl, _, rfl, ?_⟩
        have e1 : D.deq (.int m) (.int x.1.1) = decide (m = x.1.1) := by simp [D.deq]; rfl
        rw [e1]
        by_cases hfix : m = x.1.1
        · rw [decide_eq_true hfix, if_pos rfl]
          simp only [W_sSeq, W_sAsg, W_call, W_evs1]
          refine bits_of gx.mb hn (by omega) false (sm := 9) rfl (fun x => rfl) (fun x => rfl) ?_
          generalize ((List.range n.toNat).filter fun (i : Nat) => decide ((i : Int) ∈ (play T [h] [] x.2).1) == false) = gr
          rw [W_evs0, W_lenL]
          simp only [after_nx, W_sIf, W_asB, W_bin, W_var]
          refine ⟨_, rfl, _, rfl, ?_⟩
          rw [W_gt]
          refine ⟨_, rfl, ?_⟩
          by_cases hb : best < (((gr.map fun (i : Nat) => D.int i).length : Nat) : Int)
          · rw [decide_eq_true hb, if_pos rfl]
            simp only [W_sPar2, W_bin, W_var, W_tup, W_evs1, W_evs0]
            refine ⟨_, rfl, _, rfl, _, rfl, ?_⟩
            rw [planD, W_addT]
            refine ⟨by simp; omega, rfl, (((gr.map fun (i : Nat) => D.int i).length : Nat) : Int), some (x.2 ++ [s]), aft, some (D.tup (s.map .int)), some (.int (Builtin.bitOr x.1.2 (s.map fun x => 1 * 2 ^ x.toNat).sum)), some (.int m), some (.int ((gr.map fun (i : Nat) => D.int i).length : Nat)), e17, ?_, ha, hand, ⟨n1, n2, n3'⟩, Or.inr (Or.inl (by simp))⟩
            simp [toldD, planD]
          · rw [decide_eq_false hb, if_neg (by decide), W_sNil]
            refine ⟨rfl, best, told, aft, some (D.tup (s.map .int)), some (.int (Builtin.bitOr x.1.2 (s.map fun x => 1 * 2 ^ x.toNat).sum)), some (.int m), some (.int ((gr.map fun (i : Nat) => D.int i).length : Nat)), e17, by simp, ha, hand, htg, Or.inr (Or.inl fun hn => ?_)⟩
            subst hn
            have : best = -1 := htg
            omega
        · rw [decide_eq_false hfix, if_neg (by decide)]
          simp only [W_sIf, W_asB, W_bin, W_tup, W_evs1, W_evs0, W_var]
          refine ⟨_, rfl, _, rfl, _, rfl, ?_⟩
          have hk : (D.tup [.int m, .int (Builtin.bitOr x.1.2 (s.map fun x => 1 * 2 ^ x.toNat).sum)]) = pk (m, Builtin.bitOr x.1.2 (s.map fun x => 1 * 2 ^ x.toNat).sum) := rfl
          rw [hk]
          have hkd : aft.map kvD = aft.map fun x => (pk x.1, planD x.2) := rfl
          rw [hkd, W_ninD, dget_pk (fun x : (Int × Int) × List (List Int) => x.1) (fun x => planD x.2)]
          refine ⟨keyOk_pk (fun x : (Int × Int) × List (List Int) => x.1) (fun x => planD x.2) aft _, _, rfl, ?_⟩
          by_cases hin : (m, Builtin.bitOr x.1.2 (s.map fun x => 1 * 2 ^ x.toNat).sum) ∈ aft.map (·.1)
          · rw [decide_eq_true hin, if_neg (by decide), W_sNil]
            refine ⟨rfl, best, told, aft, some (D.tup (s.map .int)), some (.int (Builtin.bitOr x.1.2 (s.map fun x => 1 * 2 ^ x.toNat).sum)), some (.int m), e16, e17, by simp [hkd], ha, hand, htg, Or.inr (Or.inr fun hn => ?_)⟩
            subst hn
            simp at hin
          · rw [decide_eq_false hin, if_pos (by decide)]
            simp only [W_sPut, W_bin, W_tup, W_evs1, W_evs0, W_var]
            refine ⟨_, rfl, _, rfl, ?_⟩
            rw [planD, W_addT]
            refine ⟨by simp; omega, _, rfl, _, rfl, _, rfl, ?_⟩
            rw [hk, W_kSetD]
            have kl := keys_len hw hh h8 ha hand
            refine ⟨⟨keyOk_pk (fun x : (Int × Int) × List (List Int) => x.1) (fun x => planD x.2) aft _, by simp; omega⟩, ?_⟩
            have hp := dput_pk (fun x : (Int × Int) × List (List Int) => x.1) (fun x => planD x.2) aft ((m, Builtin.bitOr x.1.2 (s.map fun x => 1 * 2 ^ x.toNat).sum), x.2 ++ [s]) hin
            have epl : D.tup (x.2.map (fun s => D.tup (s.map .int)) ++ [D.tup (s.map .int)]) = planD (x.2 ++ [s]) := by simp [planD]
            have hkd2 : ∀ ys : List ((Int × Int) × List (List Int)), (ys.map fun x => (pk x.1, planD x.2)) = ys.map kvD := fun ys => rfl
            rw [epl, hp, hkd2]
            have epl2 : D.tup (x.2.map fun s => D.tup (s.map .int)) = planD x.2 := rfl
            rw [epl2]
            generalize hnew : ((m, Builtin.bitOr x.1.2 (s.map fun x => 1 * 2 ^ x.toNat).sum), x.2 ++ [s]) = new
            refine ⟨rfl, best, told, aft ++ [new], some (D.tup (s.map .int)), some (.int (Builtin.bitOr x.1.2 (s.map fun x => 1 * 2 ^ x.toNat).sum)), some (.int m), e16, e17, by simp only [List.set]; rw [hkd2], fun y hy => ?_, ?_, htg, Or.inr (Or.inr (by simp))⟩
            · rcases List.mem_append.mp hy with hy | hy
              · exact ha y hy
              · simp only [List.mem_singleton] at hy
                subst hy
                subst hnew
                refine ⟨n1, n2, n3, by rw [play_app]; exact hm2, by rw [play_app]; exact gx.mh.or hm, ?_⟩
                rw [play_app]
                have := spread_grow canB (fun z => hfix (hne.mpr z))
                have := gx.g
                show r + 1 + 1 ≤ (spreadL T (play T [h] [] x.2).1 ((play T [h] [] x.2).2 ++ s)).length
                omega
            · subst hnew
              rw [List.map_append]
              exact List.nodup_append.mpr ⟨hand, by simp, fun a ha' b hb' e => by
                rw [List.map_singleton, List.mem_singleton] at hb'
                rw [e, hb'] at ha'
                exact hin ha'⟩
      · rintro env w2 ⟨rfl, best, told, aft, e13, e14, e15, e16, e17, rfl, ha, hand, htg, hpr⟩
        refine ⟨rfl, best, told, aft, _, _, _, _, e13, e14, e15, e16, e17, rfl, ha, hand, htg, Or.inr (hpr.resolve_left fun e => ?_)⟩
        subst e
        simp at hL1
    · rintro env w' ⟨rfl, best, told, aft, e9, e10, e11, e12, e13, e14, e15, e16, e17, rfl, ha, hand, htg, hpr⟩
      rw [after_nx, W_sMove]
      exact ⟨_, rfl, n.toNat + 1 - (r + 1), by omega, rfl, r + 1, best, told, aft, none, e9, e10, e11, e12, e13, e14, e15, e16, e17, rfl, ha, hand, htg, hpr.resolve_left hxz, rfl⟩
end Pw
set_option Elab.async false
set_option linter.all false
set_option maxRecDepth 10000
namespace Pw
open PySem
theorem most_le {d : Int} : ∀ (P : List (List Int)) (m : Int), (mostP m P ≤ d) ↔ m ≤ d ∧ ∀ s ∈ P, (s.length : Int) ≤ d
  | [], m => by simp [mostP]
  | s :: P, m => by
    rw [mostP, most_le P]
    by_cases h : (s.length : Int) > m
    · rw [if_pos h]; simp; omega
    · rw [if_neg h]
      constructor
      · rintro ⟨h1, h2⟩; exact ⟨h1, fun t ht => by rcases List.mem_cons.mp ht with rfl | ht; omega; exact h2 t ht⟩
      · rintro ⟨h1, h2⟩; exact ⟨h1, fun t ht => h2 t (List.mem_cons_of_mem _ ht)⟩
/-- a plan to be read -/
def Pl (d : D) : Prop := ∃ P : List (List Int), d = planD P ∧ (∀ s ∈ P, s.length ≤ 60) ∧ P.length ≤ 1000
theorem ints_plain (s : List Int) : (D.tup (s.map .int)).plain = true ∧ (D.tup (s.map .int)).depth = 1 := by
  simp [D.plain, D.depth]
theorem eq_bl {a b : Bool} {ω : Om} {Q : D → Om → Prop} (q : Q (.bl (a == b)) ω) : W (m__law_eq [.bl a, .bl b] ω) Q := eq_ok rfl rfl (by simp [D.depth]) (by simp [D.depth]) rfl q
theorem eq_ints {s : List Int} {ω : Om} (h : s.length ≤ LIM) {Q : D → Om → Prop} (q : Q (.bl true) ω) : W (m__law_eq [.tup (s.map .int), .tup (s.map .int)] ω) Q := by
  refine eq_ok (ints_plain s).1 (ints_plain s).1 (by rw [(ints_plain s).2]; decide) (by rw [(ints_plain s).2]; decide) ?_ (by rw [same_refl _ (ints_plain s).1]; exact q)
  simp only [lens, List.length_map, Bool.and_eq_true, decide_eq_true_eq]
  refine ⟨h, ?_⟩
  induction s with
  | nil => rfl
  | cons x s ih => simp only [List.map_cons, lenss, lens, Bool.true_and]; exact ih (by simp at h; omega)
/-- a plan that is read in full -/
theorem bent_ok {n h d : Int} {T : List (Int × Int)} {x : D} {ω : Om} (hw : Web n T) (hn : 0 ≤ n) (h60 : n ≤ 60) (hh : 0 ≤ h ∧ h < n) (hd : 0 ≤ d) (hx : Pl x) {e0 e1 e2 e7 e8 e9 e10 e11 e12 e13 e15 : Option D} {R : Fl → Om → Prop}
    (q : ∀ e8 e9 e10, R (.nx [e0, e1, e2, some (.int n), some (tiesD T), some (.int h), some (.int d), e7, e8, e9, e10, e11, e12, e13, some x, e15]) ω) :
    W ((sSeq (sUnp (eCall m__law_fire [(eVar 3), (eVar 4), (eVar 5), (eVar 14)]) (mTup [(mName 8), (mName 9), (mName 10)]))
    (sSeq (sIf (bNot (asB (eCall m__law_eq [(eCall m_is_plan [(eVar 3), (eVar 4), (eVar 5), (eVar 6), (eVar 14)]), (eAnd (eVar 8) (eBin aLe (eVar 10) (eVar 6)))]))) (sRet (eC (.bl false))) sNil)
    (sIf (bAnd (asT (eVar 8)) (bNot (asB (eCall m__law_eq [(eCall m_burnt_by [(eVar 3), (eVar 4), (eVar 5), (eVar 14)]), (eVar 9)])))) (sRet (eC (.bl false))) sNil)))
      [e0, e1, e2, some (.int n), some (tiesD T), some (.int h), some (.int d), e7, e8, e9, e10, e11, e12, e13, some x, e15] ω) R := by
  have hL : LIM = 1000000 := rfl
  obtain ⟨P, rfl, hP, hPl⟩ := hx
  simp only [W_sSeq, W_sUnp, W_call, W_evs1, W_evs0, W_var]
  refine ⟨_, rfl, _, rfl, _, rfl, _, rfl, ?_⟩
  refine law_fire_ok hw hn h60 hh hP hPl fun F hF canF => ?_
  simp only [W_mTup, W_mAll1, W_mAll0, W_mName, after_nx, W_sSeq, W_sIf, W_bNot, W_asB, W_call, W_evs1, W_evs0, W_var]
  refine ⟨_, rfl, _, rfl, _, rfl, _, rfl, _, rfl, ?_⟩
  refine is_plan_ok hw hn h60 hh hP ?_
  simp only [W_eAnd, W_var, W_bin]
  refine ⟨_, rfl, _, rfl, ?_⟩
  have e : (P.all fun s => decide ((s.length : Int) ≤ d)) = decide (mostP 0 P ≤ d) := by
    rw [Bool.eq_iff_iff, List.all_eq_true, decide_eq_true_iff, most_le]
    simp [hd]
  rw [e]
  have fl : (F.length : Int) ≤ n := canF.len hn
  have second : ∀ ww : Om, ww = ω → W (sIf (bAnd (asT (eVar 8)) (bNot (asB (eCall m__law_eq [(eCall m_burnt_by [(eVar 3), (eVar 4), (eVar 5), (eVar 14)]), (eVar 9)])))) (sRet (eC (.bl false))) sNil [e0, e1, e2, some (.int n), some (tiesD T), some (.int h), some (.int d), e7, some (.bl (rightP n T [h] [] P)), some (.tup (F.map .int)), some (.int (mostP 0 P)), e11, e12, e13, some (planD P), e15] ww) R := by
    rintro ww rfl
    simp only [W_sIf, W_bAnd, W_asT, W_var]
    refine ⟨_, rfl, ?_⟩
    rw [W_truB]
    by_cases hr : rightP n T [h] [] P = true
    · rw [if_pos hr]
      simp only [W_bNot, W_asB, W_call, W_evs1, W_evs0, W_var]
      refine ⟨_, rfl, _, rfl, _, rfl, _, rfl, ?_⟩
      refine burnt_by_ok hw hn h60 hh hP hr fun F' hF' canF' => ?_
      refine ⟨_, rfl, ?_⟩
      rw [FinalF.uniq hF' hF]
      refine eq_ints (by omega) ⟨_, rfl, ?_⟩
      rw [if_neg (by decide), W_sNil]
      exact q _ _ _
    · rw [if_neg hr]
      rw [if_neg (by decide), W_sNil]
      exact q _ _ _
  by_cases hr : rightP n T [h] [] P = true
  · rw [hr] at second ⊢
    rw [if_pos rfl]
    refine ⟨_, rfl, _, rfl, ?_⟩
    rw [W_le]
    refine eq_bl ⟨_, rfl, ?_⟩
    rw [if_neg (by simp), W_sNil, after_nx]
    exact second _ rfl
  · have hr : rightP n T [h] [] P = false := by simpa using hr
    rw [hr] at second ⊢
    rw [if_neg (by decide)]
    refine eq_bl ⟨_, rfl, ?_⟩
    rw [if_neg (by simp), W_sNil, after_nx]
    exact second _ rfl
end Pw
set_option Elab.async false
set_option linter.all false
set_option maxRecDepth 10000
namespace Pw
open PySem
theorem Pl.of {P : List (List Int)} (h1 : ∀ s ∈ P, s.length ≤ 60) (h2 : P.length ≤ 1000) : Pl (planD P) := ⟨P, rfl, h1, h2⟩
def sD (s : List Int) : D := .tup (s.map .int)
theorem cut_map (P : List (List Int)) (l h : Option Int) : ∃ P' : List (List Int), cutD (P.map sD) l h = P'.map sD ∧ P'.Sublist P := by
  refine ⟨(P.drop (HT.sIx P.length 0 l)).take (HT.sIx P.length P.length h - HT.sIx P.length 0 l), ?_, ((List.take_sublist _ _).trans (List.drop_sublist _ _))⟩
  unfold cutD
  simp [List.map_take, List.map_drop]
theorem cut_int (s : List D) (l h : Option Int) : ∀ x ∈ cutD s l h, x ∈ s := fun x hx => List.mem_of_mem_drop (List.mem_of_mem_take hx)
theorem cut_len (s : List D) (l h : Option Int) : (cutD s l h).length ≤ s.length := by
  unfold cutD
  simp
  omega
theorem ints_of : ∀ es : List D, (∀ x ∈ es, ∃ i : Int, x = .int i) → ∃ ns : List Int, es = ns.map .int
  | [], _ => ⟨[], rfl⟩
  | x :: es, h => by
    obtain ⟨i, rfl⟩ := h x (by simp)
    obtain ⟨ns, rfl⟩ := ints_of es fun y hy => h y (List.mem_cons_of_mem _ hy)
    exact ⟨i :: ns, rfl⟩
theorem plan_of : ∀ es : List D, (∀ x ∈ es, ∃ s : List Int, x = sD s ∧ s.length ≤ 60) → ∃ P : List (List Int), es = P.map sD ∧ ∀ s ∈ P, s.length ≤ 60
  | [], _ => ⟨[], rfl, by simp⟩
  | x :: es, h => by
    obtain ⟨s, rfl, hs⟩ := h x (by simp)
    obtain ⟨P, rfl, hP⟩ := plan_of es fun y hy => h y (List.mem_cons_of_mem _ hy)
    exact ⟨s :: P, rfl, fun t ht => by rcases List.mem_cons.mp ht with rfl | ht; exact hs; exact hP t ht⟩
theorem Pl.tup {ds : List D} (h : ∀ x ∈ ds, ∃ s : List Int, x = sD s ∧ s.length ≤ 60) (hl : ds.length ≤ 1000) : Pl (.tup ds) := by
  obtain ⟨P, rfl, hP⟩ := plan_of ds h
  exact ⟨P, rfl, hP, by simpa using hl⟩
theorem rangeD_len (n : Int) : (rangeD 0 n).length = n.toNat := by rw [rangeD_map']; simp
theorem rangeD_ints (n : Int) : rangeD 0 n = ((List.range n.toNat).map fun (i : Nat) => (i : Int)).map .int := by rw [rangeD_map']; simp [Function.comp_def]
theorem plan_eqOk (P : List (List Int)) : eqOk (planD P) (.tup []) = true := by
  have h : D.plains (P.map fun s => D.tup (s.map .int)) = true ∧ D.depths (P.map fun s => D.tup (s.map .int)) ≤ 1 := by
    induction P with
    | nil => exact ⟨rfl, Nat.zero_le _⟩
    | cons s P ih =>
      simp only [List.map_cons, D.plains, D.depths, (ints_plain s).1, (ints_plain s).2, Bool.true_and]
      exact ⟨ih.1, by have := ih.2; omega⟩
  unfold eqOk planD
  have h2 := h.2
  simp only [D.plain, D.depth, h.1, D.plains, Bool.true_and, Bool.and_true, decide_eq_true_eq]
  exact decide_eq_true (by omega)
theorem law_body {ω : Om} {e0 e2 e3 e4 e5 e6 e7 e8 e9 e10 e11 e12 e13 e14 e15 : Option D} {R : Fl → Om → Prop}
    (q : ∀ e3 e4 e5 e6 e7 e8 e9 e10 e11 e12 e13 e14 e15 w, R (.nx [e0, some .tok, e2, e3, e4, e5, e6, e7, e8, e9, e10, e11, e12, e13, e14, e15]) w) :
    W (sSeq (sUnp (eCall m__law_named [(eVar 1), (eC (.int 8))]) (mTup [(mName 3), (mName 4)]))
    (sSeq (sPar2 5 6 (eCall m__law_draw [(eVar 1), (eVar 3)]) (eBin aAddL (eC (.int 1)) (eCall m__law_draw [(eVar 1), (eC (.int 2))])))
    (sSeq (sAsg 7 (eCall m_best_plan [(eVar 3), (eVar 4), (eVar 5), (eVar 6)]))
    (sSeq (sUnp (eCall m__law_fire [(eVar 3), (eVar 4), (eVar 5), (eVar 7)]) (mTup [(mName 8), (mName 9), (mName 10)]))
    (sSeq (sIf (bOr (bNot (asT (eVar 8))) (bOr (asB (eBin aGt (eVar 10) (eVar 6))) (bOr (bNot (asB (eCall m__law_eq [(eCall m_is_plan [(eVar 3), (eVar 4), (eVar 5), (eVar 6), (eVar 7)]), (eC (.bl true))]))) (bNot (asB (eCall m__law_eq [(eCall m_burnt_by [(eVar 3), (eVar 4), (eVar 5), (eVar 7)]), (eVar 9)])))))) (sRet (eC (.bl false))) sNil)
    (sSeq (sAsg 11 (eCall fTuple [(eLc (eRng1 (eCall m__law_draw [(eVar 1), (eC (.int 4))])) [12] (mName 12) bYes (eCall fTuple [(eCall fSort [(eSl slA (eCall m__law_mixed [(eVar 1), (eListR (eRng1 (eVar 3)))]) pNo (pAt (eCall m__law_draw [(eVar 1), (eC (.int 3))])))])]))]))
    (sSeq (sAsg 12 (eIf (asB (eBin aNe (eVar 7) (eTup []))) (eCall m__law_draw [(eVar 1), (eCall fLen [(eVar 7)])]) (eC (.int 0))))
    (sSeq (sAsg 13 (eLc (eItems (eLst [(eTup [(eVar 5)]), (eTup [(eVar 3)]), (eTup []), (eTup [(eC (.int 0)), (eC (.int 0))]), (eTupR (eRng1 (eBin aAddL (eVar 6) (eC (.int 1)))))])) [15] (mName 15) bYes (eBin aAddL (eBin aAddL (eSl slA (eVar 7) pNo (pAt (eVar 12))) (eTup [(eVar 15)])) (eSl slA (eVar 7) (pAt (eBin aAddL (eVar 12) (eC (.int 1)))) pNo))))
    (sFor (eItems (eBin aAddL (eVar 13) (eLst [(eRev (eVar 7)), (eBin aAddL (eVar 7) (eSl slA (eVar 7) (pAt (eUn oNeg (eC (.int 1)))) pNo)), (eVar 11), (eBin aAddL (eTup [(eTup [])]) (eVar 7))]))) (mName 14) (sSeq (sUnp (eCall m__law_fire [(eVar 3), (eVar 4), (eVar 5), (eVar 14)]) (mTup [(mName 8), (mName 9), (mName 10)]))
    (sSeq (sIf (bNot (asB (eCall m__law_eq [(eCall m_is_plan [(eVar 3), (eVar 4), (eVar 5), (eVar 6), (eVar 14)]), (eAnd (eVar 8) (eBin aLe (eVar 10) (eVar 6)))]))) (sRet (eC (.bl false))) sNil)
    (sIf (bAnd (asT (eVar 8)) (bNot (asB (eCall m__law_eq [(eCall m_burnt_by [(eVar 3), (eVar 4), (eVar 5), (eVar 14)]), (eVar 9)])))) (sRet (eC (.bl false))) sNil)))))))))))
    [e0, some .tok, e2, e3, e4, e5, e6, e7, e8, e9, e10, e11, e12, e13, e14, e15] ω) R := by
  have hL : LIM = 1000000 := rfl
  have hL' : (LIM : Int) = 1000000 := rfl
  simp only [W_sSeq, W_sUnp, W_call, W_evs1, W_evs0, W_var, W_eC]
  refine ⟨_, rfl, ?_⟩
  refine named_ok (by decide) (by decide) fun n T w0 hn1 hn2 hw => ?_
  simp only [W_mTup, W_mAll1, W_mAll0, W_mName, after_nx, W_sSeq, W_sPar2, W_call, W_evs1, W_evs0, W_var, W_bin, W_eC]
  refine ⟨_, rfl, _, rfl, ?_⟩
  refine draw_ok (by omega) (by omega) fun h w1 hh0 hh1 => ?_
  refine ⟨_, rfl, ?_⟩
  refine draw_ok (by decide) (by decide) fun d w2 hd0 hd1 => ?_
  rw [W_add]
  generalize hdd : 1 + d = dd
  have hd : 0 ≤ dd ∧ dd ≤ 2 := by omega
  have hh : 0 ≤ h ∧ h < n := ⟨hh0, hh1⟩
  simp only [W_sSeq, after_nx, W_sAsg, W_call, W_evs1, W_evs0, W_var]
  refine ⟨_, rfl, _, rfl, _, rfl, _, rfl, ?_⟩
  refine best_plan_ok hw hn2 hh hd fun P hP1 hP2 hP3 => ?_
  have hPs : ∀ s ∈ P, s.length ≤ 60 := fun s hs => by have := hP2 s hs; omega
  simp only [W_sSeq, after_nx, W_sUnp, W_call, W_evs1, W_evs0, W_var]
  refine ⟨_, rfl, _, rfl, _, rfl, _, rfl, ?_⟩
  refine law_fire_ok hw (by omega) (by omega) hh hPs (by omega) fun F hF canF => ?_
  have fl : (F.length : Int) ≤ n := canF.len (by omega)
  rw [hP1]
  simp only [W_mTup, W_mAll1, W_mAll0, W_mName, after_nx, W_sSeq, W_sIf, W_bOr, W_bNot, W_asT, W_var]
  refine ⟨_, rfl, ?_⟩
  rw [W_truB, if_neg (by decide)]
  simp only [W_asB, W_bin, W_var]
  refine ⟨_, rfl, _, rfl, ?_⟩
  rw [W_gt]
  refine ⟨_, rfl, ?_⟩
  have hm : mostP 0 P ≤ dd := (most_le P 0).mpr ⟨hd.1, hP2⟩
  rw [decide_eq_false (by omega : ¬dd < mostP 0 P), if_neg (by decide)]
  simp only [W_call, W_evs1, W_evs0, W_var, W_eC]
  refine ⟨_, rfl, _, rfl, _, rfl, _, rfl, _, rfl, ?_⟩
  refine is_plan_ok hw (by omega) (by omega) hh hPs ?_
  have e : (rightP n T [h] [] P && P.all fun s => decide ((s.length : Int) ≤ dd)) = true := by
    rw [hP1, Bool.true_and, List.all_eq_true]
    exact fun s hs => decide_eq_true (hP2 s hs)
  rw [e]
  refine eq_bl ⟨_, rfl, ?_⟩
  rw [if_neg (by decide)]
  refine ⟨_, rfl, _, rfl, _, rfl, _, rfl, ?_⟩
  refine burnt_by_ok hw (by omega) (by omega) hh hPs hP1 fun F' hF' canF' => ?_
  refine ⟨_, rfl, ?_⟩
  rw [FinalF.uniq hF' hF]
  refine eq_ints (by omega) ⟨_, rfl, ?_⟩
  rw [if_neg (by decide), W_sNil, after_nx]
  have items : ∀ x ∈ P.map sD, ∃ s : List Int, x = sD s ∧ s.length ≤ 60 := fun x hx => by
    obtain ⟨s, hs, rfl⟩ := List.mem_map.mp hx
    exact ⟨s, rfl, hPs s hs⟩
  have ePD : planD P = .tup (P.map sD) := rfl
  have hPl : (P.map sD).length ≤ 9 := by simpa using hP3
  simp only [W_sSeq, W_sAsg, W_call, W_evs1, W_evs0, W_eLc, W_rng1, W_var, W_eC]
  refine ⟨_, rfl, ?_⟩
  refine draw_ok (by decide) (by decide) fun v w3 hv0 hv1 => ?_
  refine ⟨v, rfl, ⟨by omega, by omega⟩, ?_⟩
  rw [rangeD_map']
  refine W_lcR (List.range v.toNat) (fun _ x => ∃ s : List Int, x = sD s ∧ s.length ≤ 60) (fun i hi ww => ?_) fun ds w4 hds => ?_
  · rw [W_mName, W_bYes]
    intro _
    simp only [W_call, W_evs1, W_evs0, W_eSl, W_var, W_eListR, W_rng1]
    refine ⟨_, rfl, _, rfl, n, rfl, ⟨by omega, by omega⟩, ?_⟩
    refine mixed_ok (by rw [rangeD_len]; omega) fun es w5 hp => ?_
    simp only [W_pNo, W_pAt, W_call, W_evs1, W_evs0, W_var, W_eC]
    refine ⟨_, rfl, ?_⟩
    refine draw_ok (by decide) (by decide) fun u w6 hu0 hu1 => ?_
    refine ⟨_, rfl, ?_⟩
    rw [W_slL]
    have hcl := cut_len es none (some u)
    have hel : es.length = n.toNat := by rw [hp.length_eq, rangeD_len]
    obtain ⟨ns, hns⟩ := ints_of (cutD es none (some u)) fun x hx => by
      have := hp.mem_iff.mp (cut_int _ _ _ x hx)
      rw [rangeD_map'] at this
      obtain ⟨i, _, rfl⟩ := List.mem_map.mp this
      exact ⟨_, rfl⟩
    rw [hns] at hcl ⊢
    rw [List.length_map] at hcl
    refine W_sortI (by omega) ?_
    rw [W_tupleL]
    exact ⟨isort ns, rfl, by rw [isort_len]; omega⟩
  have hdl := hds.len
  rw [List.length_range] at hdl
  refine ⟨by omega, ?_⟩
  rw [W_tupleL]
  have pl11 : Pl (.tup ds) := Pl.tup (fun x hx => by obtain ⟨_, _, h⟩ := hds.mem x hx; exact h) (by omega)
  generalize D.tup ds = d11 at pl11
  clear hds
  rw [after_nx, W_sSeq, W_sAsg, W_eIf]
  simp only [W_asB, W_bin, W_tup, W_evs0, W_var]
  refine ⟨_, rfl, ?_⟩
  rw [W_ne]
  have rest : ∀ (j : Int) (ww : Om), 0 ≤ j → j ≤ 9 → W (sSeq (sAsg 13 (eLc (eItems (eLst [(eTup [(eVar 5)]), (eTup [(eVar 3)]), (eTup []), (eTup [(eC (.int 0)), (eC (.int 0))]), (eTupR (eRng1 (eBin aAddL (eVar 6) (eC (.int 1)))))])) [15] (mName 15) bYes (eBin aAddL (eBin aAddL (eSl slA (eVar 7) pNo (pAt (eVar 12))) (eTup [(eVar 15)])) (eSl slA (eVar 7) (pAt (eBin aAddL (eVar 12) (eC (.int 1)))) pNo))))
    (sFor (eItems (eBin aAddL (eVar 13) (eLst [(eRev (eVar 7)), (eBin aAddL (eVar 7) (eSl slA (eVar 7) (pAt (eUn oNeg (eC (.int 1)))) pNo)), (eVar 11), (eBin aAddL (eTup [(eTup [])]) (eVar 7))]))) (mName 14) (sSeq (sUnp (eCall m__law_fire [(eVar 3), (eVar 4), (eVar 5), (eVar 14)]) (mTup [(mName 8), (mName 9), (mName 10)]))
    (sSeq (sIf (bNot (asB (eCall m__law_eq [(eCall m_is_plan [(eVar 3), (eVar 4), (eVar 5), (eVar 6), (eVar 14)]), (eAnd (eVar 8) (eBin aLe (eVar 10) (eVar 6)))]))) (sRet (eC (.bl false))) sNil)
    (sIf (bAnd (asT (eVar 8)) (bNot (asB (eCall m__law_eq [(eCall m_burnt_by [(eVar 3), (eVar 4), (eVar 5), (eVar 14)]), (eVar 9)])))) (sRet (eC (.bl false))) sNil))))
    [e0, some .tok, e2, some (.int n), some (tiesD T), some (.int h), some (.int dd), some (planD P), some (.bl true), some (.tup (F.map .int)), some (.int (mostP 0 P)), some d11, some (.int j), e13, e14, e15] ww) R := by
    intro j ww hj0 hj1
    simp only [W_sSeq, W_sAsg, W_eLc, W_eItems, W_lst, W_evs1, W_evs0, W_tup, W_var, W_eC, W_eTupR, W_rng1, W_bin]
    refine ⟨_, rfl, _, rfl, _, rfl, ?_⟩
    rw [W_add]
    refine ⟨_, rfl, ⟨by omega, by omega⟩, ?_⟩
    rw [W_itemsL]
    have e5 : [D.tup [.int h], D.tup [.int n], D.tup [], D.tup [.int 0, .int 0], D.tup (rangeD 0 (dd + 1))] = [[h], [n], [], [0, 0], (List.range (dd + 1).toNat).map fun (i : Nat) => (i : Int)].map sD := by rw [rangeD_ints]; rfl
    rw [e5]
    have hxs : ∀ s ∈ [[h], [n], [], [0, 0], (List.range (dd + 1).toNat).map fun (i : Nat) => (i : Int)], s.length ≤ 60 := by
      intro s hs
      simp only [List.mem_cons, List.not_mem_nil, or_false] at hs
      rcases hs with rfl | rfl | rfl | rfl | rfl <;> simp <;> omega
    refine W_lcR _ (fun _ x => Pl x) (fun s hs ww2 => ?_) fun ds2 w7 hds2 => ?_
    · rw [W_mName, W_bYes]
      intro _
      have c1 := cut_len (P.map sD) none (some j)
      have c2 := cut_len (P.map sD) (some (j + 1)) none
      simp only [W_bin, W_eSl, W_var, W_pNo, W_pAt, W_tup, W_evs1, W_evs0, W_eC]
      refine ⟨_, rfl, _, rfl, j, rfl, ?_⟩
      rw [ePD, W_slT]
      refine ⟨_, rfl, ?_⟩
      rw [W_addT]
      refine ⟨by rw [List.length_singleton]; omega, ?_⟩
      refine ⟨_, rfl, _, rfl, ?_⟩
      rw [W_add]
      refine ⟨_, rfl, ?_⟩
      rw [W_slT, W_addT]
      refine ⟨by rw [List.length_append, List.length_singleton]; omega, ?_⟩
      refine Pl.tup (fun x hx => ?_) (by rw [List.length_append, List.length_append, List.length_singleton]; omega)
      rcases List.mem_append.mp hx with hx | hx
      · rcases List.mem_append.mp hx with hx | hx
        · exact items x (cut_int _ _ _ x hx)
        · exact ⟨s, by simpa using hx, hxs s hs⟩
      · exact items x (cut_int _ _ _ x hx)
    have l2 := hds2.len
    simp only [List.length_cons, List.length_nil] at l2
    refine ⟨by omega, ?_⟩
    have pl2 : ∀ x ∈ ds2, Pl x := fun x hx => by obtain ⟨_, _, h⟩ := hds2.mem x hx; exact h
    clear hds2
    rw [after_nx]
    simp only [W_sFor, W_eItems, W_bin, W_var, W_lst, W_evs1, W_evs0, W_eRev]
    refine ⟨_, rfl, _, rfl, ?_⟩
    rw [ePD, W_revT]
    refine ⟨_, rfl, ?_⟩
    simp only [W_eSl, W_var, W_pNo, W_pAt, W_eUn, W_eC]
    refine ⟨_, rfl, ?_⟩
    refine ⟨1, rfl, _, rfl, ?_⟩
    have c3 := cut_len (P.map sD) (some (oNeg 1)) none
    rw [W_slT, W_addT]
    refine ⟨by omega, _, rfl, ?_⟩
    simp only [W_tup, W_evs1, W_evs0]
    refine ⟨_, rfl, ?_⟩
    rw [W_addT]
    refine ⟨by rw [List.length_singleton]; omega, ?_⟩
    rw [W_addL]
    refine ⟨by simp only [List.length_cons, List.length_nil]; omega, ?_⟩
    rw [W_itemsL]
    have all : ∀ x ∈ ds2 ++ [D.tup (P.map sD).reverse, D.tup (P.map sD ++ cutD (P.map sD) (some (oNeg 1)) none), d11, D.tup ([D.tup []] ++ P.map sD)], Pl x := by
      intro x hx
      rcases List.mem_append.mp hx with hx | hx
      · exact pl2 x hx
      · simp only [List.mem_cons, List.not_mem_nil, or_false] at hx
        rcases hx with rfl | rfl | rfl | rfl
        · exact Pl.tup (fun y hy => items y (List.mem_reverse.mp hy)) (by rw [List.length_reverse]; omega)
        · refine Pl.tup (fun y hy => ?_) (by rw [List.length_append]; omega)
          rcases List.mem_append.mp hy with hy | hy
          · exact items y hy
          · exact items y (cut_int _ _ _ y hy)
        · exact pl11
        · refine Pl.tup (fun y hy => ?_) (by rw [List.length_append, List.length_singleton]; omega)
          rcases List.mem_append.mp hy with hy | hy
          · exact ⟨[], List.mem_singleton.mp hy, by simp⟩
          · exact items y hy
    generalize ds2 ++ [D.tup (P.map sD).reverse, D.tup (P.map sD ++ cutD (P.map sD) (some (oNeg 1)) none), d11, D.tup ([D.tup []] ++ P.map sD)] = ds3 at all
    rw [← map_id' ds3]
    refine W_for (fun pre env _ => ∃ (e8 e9 e10 e12 e13 e14 e15 : Option D), env = [e0, some .tok, e2, some (.int n), some (tiesD T), some (.int h), some (.int dd), some (planD P), e8, e9, e10, some d11, e12, e13, e14, e15]) ds3 ⟨_, _, _, _, _, _, _, rfl⟩ ?_ ?_
    · rintro pre x post env w8 hx ⟨e8, e9, e10, e12, e13, e14, e15, rfl⟩
      rw [W_mName]
      exact bent_ok hw (by omega) (by omega) hh hd.1 (all x (by rw [← hx]; simp)) fun _ _ _ => ⟨_, _, _, _, _, _, _, rfl⟩
    · rintro env w8 ⟨e8, e9, e10, e12, e13, e14, e15, rfl⟩
      exact q _ _ _ _ _ _ _ _ _ _ _ _ _ _
  cases P with
  | nil =>
    refine ⟨rfl, _, rfl, ?_⟩
    rw [if_neg (by decide), W_eC, after_nx]
    exact rest 0 _ (by decide) (by decide)
  | cons s P' =>
    refine ⟨plan_eqOk _, true, rfl, ?_⟩
    rw [if_pos rfl]
    simp only [W_call, W_evs1, W_evs0, W_var]
    refine ⟨_, rfl, _, rfl, ?_⟩
    rw [ePD, W_lenT]
    refine draw_ok (by simp) (by omega) fun j w9 hj0 hj1 => ?_
    rw [after_nx]
    exact rest j _ hj0 (by omega)
theorem law_pure : ∀ ω, OmOk ω → ∃ ω', b_law (startL 16) ω = some (.rt (.bl true), ω') := by
  intro ω _
  have hL' : (LIM : Int) = 1000000 := rfl
  have key : W (b_law (startL 16) ω) fun r w => r = .rt (.bl true) := by
    have es : startL 16 = [none, some .tok, none, none, none, none, none, none, none, none, none, none, none, none, none, none] := rfl
    rw [es]
    unfold b_law
    simp only [W_sSeq, W_sFor, W_rng1, W_eC]
    refine ⟨4, rfl, ⟨by omega, by omega⟩, ?_⟩
    rw [rangeD_map']
    refine W_for (fun pre env _ => ∃ e2 e3 e4 e5 e6 e7 e8 e9 e10 e11 e12 e13 e14 e15 : Option D, env = [none, some .tok, e2, e3, e4, e5, e6, e7, e8, e9, e10, e11, e12, e13, e14, e15]) (List.range (4 : Int).toNat) ⟨_, _, _, _, _, _, _, _, _, _, _, _, _, _, rfl⟩ ?_ ?_
    · rintro pre x post env w hx ⟨e2, e3, e4, e5, e6, e7, e8, e9, e10, e11, e12, e13, e14, e15, rfl⟩
      rw [W_mName]
      exact law_body fun _ _ _ _ _ _ _ _ _ _ _ _ _ _ => ⟨_, _, _, _, _, _, _, _, _, _, _, _, _, _, rfl⟩
    · rintro env w ⟨e2, e3, e4, e5, e6, e7, e8, e9, e10, e11, e12, e13, e14, e15, rfl⟩
      rw [after_nx, W_sRet, W_eC]
  obtain ⟨r, w, h, rfl⟩ := key
  exact ⟨w, h⟩
end Pw
set_option Elab.async false
set_option linter.all false
set_option maxRecDepth 100000
namespace Pw
open PySem PySem.Spec PyProof.Rows L2
def top (i : Nat) : Stmt := PySem.Challenge.pw_chasedwebs_k42_fires_and_plans_are_read.main.body.getD i (.Pass ⟨0, 0, 0, 0⟩)
abbrev s__law_draw : Stmt := top 11
abbrev s__law_eq : Stmt := top 13
abbrev s__law_beside : Stmt := top 20
abbrev s__law_fire : Stmt := top 22
abbrev s__law_mixed : Stmt := top 14
abbrev s__law_path : Stmt := top 16
abbrev s__law_pick : Stmt := top 12
abbrev s__law_ring : Stmt := top 17
abbrev s__law_star : Stmt := top 18
abbrev s__law_web : Stmt := top 15
abbrev s__law_whole : Stmt := top 19
abbrev s__law_named : Stmt := top 21
abbrev s__law_state : Stmt := top 10
abbrev s_choices : Stmt := top 7
abbrev s_beside : Stmt := top 1
abbrev s_near_of : Stmt := top 3
abbrev s_spread : Stmt := top 4
abbrev s_best_plan : Stmt := top 8
abbrev s_burnt_by : Stmt := top 6
abbrev s_is_plan : Stmt := top 5
abbrev s_law : Stmt := top 23
section
variable {P : Program} {w : World} {K : PySem.W.Frag} {mg : Str → Option Value} {base : Heap}
theorem scDraw : FnScope nDraw ["state", "many"] (defScope s__law_draw) := ⟨rfl, rfl, rfl, by decide +kernel, rfl, by decide +kernel, by decide +kernel⟩
theorem ok__law_draw {f : Addr} {fd : FuncData} (F : Fun K "_law_draw" "_law_draw" s__law_draw f fd) (hx : mg "_law_draw" = some (.ref f)) (hb : Binds K fd ["state", "many"] []) (b_len : mg "len" = none) (b_int : mg "int" = none) : FnD P w K mg base 1 "_law_draw" ["state", "many"] drawM := by
  refine ⟨f, fd, hx, F.kp, hb, F.ok scDraw (fun vs H Q E h => ?_) (fun cdv A outer s H vs Q E hr h => ?_)⟩
  · obtain ⟨g, B, ds, ω, d, ω', _, _, _, _, _, _, _, rps, hm, _⟩ := h
    obtain ⟨m, rfl, _⟩ := drawM_some hm
    exact rps.length.symm
  · obtain ⟨g, B, ds, ω, d, ω', hK, hP, hw, ex, nb1, nb2, st0, rps, hm, hq⟩ := h
    obtain ⟨m, rfl, hm⟩ := drawM_some hm
    obtain ⟨hm0, hm1, hres⟩ := drawG_some hm
    cases rps with
    | cons r1 rps =>
    cases rps with
    | cons r2 rps =>
    cases rps
    cases r1
    cases r2
    refine ⟨_, pss_cons (ps_set (i := 2) scDraw.nd rfl (Or.inl rfl) (pe_ix ix_list (pv 0) pe_int (fun _ _ => rfl)))
      (pss_cons (ps_while PassesOwn.never (L2.PW.pt (L2.pw_and (pt_cmpR op_gt (pe_callB call_len_seq rfl b_len PySem.boot_len (pa_cons (pv 2) pa_nil)) pe_int (nomark _)) (L2.pw_and1 (pt_cmpR op_eq (pe_ix ix_list (pv 2) pe_int (fun _ _ => rfl)) pe_int (nomark _)))))
        (pss_one (ps_expr (pe_bm PySem.F.plainAttrs_list PySem.F.slot_list_pop PySem.F.type_list_pop mt_popAt (pv 2) (pa_cons pe_int pa_nil)))))
      (pss_cons (ps_if (pt_cmpR op_gt (pe_callB call_len_seq rfl b_len PySem.boot_len (pa_cons (pv 2) pa_nil)) pe_int (nomark _))
        (pss_cons (ps_set (i := 3) scDraw.nd rfl (Or.inl rfl) (pe_ix ix_list (pv 2) pe_int (fun _ _ => rfl)))
        (pss_cons (ps_asg (pe_op op_fdiv (pv 3) (pv 1)) (pg_sub (pv 2) pe_int set_list))
        (pss_one (ps_ret (pe_op op_mod (pe_callTy call_int1 rfl b_int (by decide +kernel) (pa_cons (pv 3) pa_nil)) (pv 1)))))) pss_nil)
      (pss_cons (ps_set (i := 4) scDraw.nd rfl (Or.inl rfl) (pe_op op_mod (pe_callTy call_int1 rfl b_int (by decide +kernel) (pa_cons (pe_op op_add (pe_op op_mul (pe_ix ix_list (pv 0) pe_int (fun _ _ => rfl)) pe_int) pe_int) pa_nil)) pe_int))
      (pss_cons (ps_asg (pv 4) (pg_sub (pv 0) pe_int set_list))
      (pss_one (ps_ret (pe_op op_mod (pe_callTy call_int1 rfl b_int (by decide +kernel) (pa_cons (pe_op op_fdiv (pv 4) pe_int) pa_nil)) (pv 1)))))))), ?_⟩
    obtain ⟨sne, sst, sct⟩ := st0
    refine ⟨_, rfl, g.st, _, _, _, rfl, rfl, SqL.of sst, rfl, ?_⟩
    refine ⟨fun n σ' H' => ∃ cs : List Int, n = cs.length ∧ σ' = [some (.ref g.st), some (.int m), some (.ref g.ct), none, none] ∧ H' g.ct = some (.lst (cs.map V.int)) ∧ (∀ a, a ≠ g.ct → H' a = H a) ∧ cs.dropWhile (· == 0) = ω.1.dropWhile (· == 0), ⟨_, ω.1, rfl, rfl, sct, fun _ _ => rfl, rfl⟩, ?_⟩
    rintro n σ' H' ⟨cs, rfl, rfl, hc, hk, hdw⟩
    refine ⟨_, rfl, g.ct, _, rfl, .inl (SqL.of hc), _, _, rfl, rfl, _, rfl, ?_⟩
    have cont : cs = ω.1.dropWhile (· == 0) → ∀ X : Prop, X → X := fun _ _ x => x
    refine ite2 (fun hlen => ?_) (fun hlen => ?_)
    · cases cs with
      | nil => exact absurd (of_decide_eq_true hlen) (by simp)
      | cons c cs =>
        refine ⟨_, rfl, g.ct, (c :: cs).map V.int, 0, .int c, rfl, rfl, SqL.of hc, ?_⟩
        refine ⟨at0 c cs, rfl, _, rfl, ?_⟩
        refine ite2 (fun h0 => ?_) (fun h0 => ?_)
        · have e0 : V.int c = V.int 0 := of_decide_eq_true h0
          cases e0
          refine ⟨_, fun σ' H' h => ⟨cs.length, Nat.lt_succ_self _, h⟩, ?_⟩
          refine ⟨_, rfl, .inl ⟨rfl, _, SqL.of hc⟩, g.ct, _, 0, 0, _, rfl, rfl, hc, by decide, by decide, seq0 0 cs, rfl, ?_⟩
          refine ⟨cs, rfl, rfl, upd_same, fun a ha => by rw [upd_ne ha]; exact hk a ha, ?_⟩
          rw [← hdw]; rfl
        · have c0 : c ≠ 0 := fun q => by subst q; exact h0 rfl
          have ew : (c :: cs).dropWhile (· == 0) = c :: cs := by
            rw [List.dropWhile_cons, if_neg (by simpa using c0)]
          rw [hdw] at ew
          refine ⟨_, rfl, g.ct, _, rfl, .inl (SqL.of hc), _, _, rfl, rfl, _, rfl, ?_⟩
          refine ite2 (fun hlen => ?_) (fun hlen => absurd (decide_eq_true (by simp)) hlen)
          refine ⟨_, rfl, g.ct, (c :: cs).map V.int, 0, .int c, rfl, rfl, SqL.of hc, at0 c cs, ?_⟩
          refine ⟨_, rfl, _, rfl, _, _, rfl, rfl, ⟨hm0, hm1⟩, ?_⟩
          refine ⟨_, rfl, g.ct, (c :: cs).map V.int, 0, 0, rfl, rfl, hc, ixn0 c cs, ?_⟩
          refine ⟨_, rfl, .inl ⟨c, rfl, _, rfl, c, m, rfl, rfl, hm0, ?_⟩⟩
          rcases hres with ⟨v, vs, e1, rfl, rfl⟩ | ⟨e1, _⟩
          · rw [ew] at e1
            cases e1
            exact hq (.int (c % m)) _ B ⟨Ex.refl B, fun a o ha h1 h2 => by rw [upd_ne h2, hk a h2]; exact ha, fun _ h _ => h⟩ (fun a o ha => by
              have h2 : a ≠ g.ct := fun q => by rw [q, nb2] at ha; cases ha
              rw [upd_ne h2, hk a h2]; exact ex a o ha) ⟨sne, by rw [upd_ne sne, hk _ sne]; exact sst, upd_same⟩ (.int _)
          · rw [ew] at e1; cases e1
    · cases cs with
      | cons c cs => exact absurd (decide_eq_true (by simp)) hlen
      | nil =>
        refine iteF ?_
        have ew : ω.1.dropWhile (· == 0) = [] := hdw.symm
        refine ⟨_, rfl, g.ct, _, rfl, .inl (SqL.of hc), _, _, rfl, rfl, _, rfl, ?_⟩
        refine ite2 (fun hlen => absurd (of_decide_eq_true hlen) (by simp)) (fun hlen => ?_)
        have hst : H' g.st = some (.lst [.ref g.ct, .int ω.2]) := by rw [hk _ sne]; exact sst
        refine ⟨_, rfl, g.st, [.ref g.ct, .int ω.2], 1, .int ω.2, rfl, rfl, SqL.of hst, rfl, ?_⟩
        refine ⟨ω.2, 48271, rfl, rfl, .inr ⟨by decide, by decide⟩, ω.2 * 48271, 12345, rfl, rfl, .inl ⟨_, rfl, _, _, rfl, rfl, (show (0 : Int) < 2147483647 by decide), ?_⟩⟩
        refine ⟨_, rfl, _, rfl, g.st, [.ref g.ct, .int ω.2], 1, 1, rfl, rfl, hst, rfl, ?_⟩
        refine ⟨_, rfl, _, _, rfl, rfl, ⟨by decide, by decide⟩, .inl ⟨_, rfl, _, rfl, _, _, rfl, rfl, hm0, ?_⟩⟩
        rcases hres with ⟨v, vs, e1, _⟩ | ⟨_, rfl, rfl⟩
        · rw [ew] at e1; cases e1
        · exact hq (.int (seedNext ω.2 / 64 % m)) _ B ⟨Ex.refl B, fun a o ha h1 h2 => by rw [upd_ne h1, hk a h2]; exact ha, fun _ h _ => h⟩ (fun a o ha => by
            have h1 : a ≠ g.st := fun q => by rw [q, nb1] at ha; cases ha
            have h2 : a ≠ g.ct := fun q => by rw [q, nb2] at ha; cases ha
            rw [upd_ne h1, hk a h2]; exact ex a o ha) ⟨sne, upd_same, by rw [upd_ne sne.symm]; exact hc⟩ (.int _)
theorem scState : FnScope nState ["script"] (defScope s__law_state) := ⟨rfl, rfl, rfl, by decide +kernel, rfl, by decide +kernel, by decide +kernel⟩
theorem ok__law_state {f : Addr} {fd : FuncData} (F : Fun K "_law_state" "_law_state" s__law_state f fd) (b_int : mg "int" = none) (b_abs : mg "abs" = none) : FnOk P w K mg base CX0 1 f fd ["script"] (spState K) := by
  refine F.ok scState (fun vs H Q E h => ?_) (fun cdv A outer s H vs Q E hr h => ?_)
  · obtain ⟨a, ns, rfl, _⟩ := h
    rfl
  obtain ⟨a, ns, rfl, hS, h63, hq⟩ := h
  refine ⟨_, pss_cons (ps_set (i := 1) scState.nd rfl (Or.inl rfl) pe_int)
    (pss_cons (ps_for PassesOwn.never rfl (pi_list (pv 0)) (pg_name (i := 2) scState.nd rfl (Or.inl rfl)) (pss_one (ps_set (i := 1) scState.nd rfl (Or.inl rfl) (pe_op op_mod (pe_callTy call_int1 rfl b_int (by decide +kernel) (pa_cons (pe_op op_add (pe_op op_mul (pv 1) pe_int) (pv 2)) pa_nil)) pe_int))))
    (pss_one (ps_ret (pe_lst (pa_cons (pe_lc (own := [("cell", 2)]) (g := gName 2) (tt := tYes) rfl scState.nd (pi_list (pv 0)) (blkOk_by (N := nState) (sc := defScope s__law_state) (by decide +kernel)) (fun _ _ _ _ _ => pg_name (i := 2) scState.nd rfl (Or.inl rfl)) (fun _ _ _ _ _ => pts_nil) (fun _ _ _ _ _ => pe_callB call_abs rfl b_abs (by decide +kernel) (pa_cons (pv 2) pa_nil))) (pa_cons (pe_op op_add (pv 1) pe_int) pa_nil)))))), ?_⟩
  refine ⟨_, rfl, a, rfl, ⟨_, hS⟩, ?_⟩
  refine for_list (xs := ns.map V.int) (fun i σ' H' => H' = H ∧ ∃ c, σ' = [some (.ref a), some (.int (seedOf 7 (ns.take i))), c]) ⟨rfl, none, rfl⟩ (fun i σ' H' _ h => by rw [h.1]; exact hS) ?_ ?_
  · rintro i x σ' H' hx ⟨rfl, c, rfl⟩
    rw [List.getElem?_map] at hx
    obtain ⟨n, hn, rfl⟩ := Option.map_eq_some_iff.mp hx
    refine ⟨_, rfl, _, 31, rfl, rfl, .inr ⟨by decide, by decide⟩, _, rfl, _, n, rfl, rfl, .inl ⟨_, rfl, _, 1000003, rfl, rfl, (show (0 : Int) < 1000003 by decide), ?_⟩⟩
    refine ⟨rfl, some (.int n), ?_⟩
    rw [seedOf_take 7 ns i n hn]
    rfl
  · rintro σ' H' ⟨rfl, c, rfl⟩
    rw [List.length_map, List.take_length]
    refine ⟨_, rfl, a, rfl, ⟨_, hS⟩, fun D hD => ?_⟩
    have hSD : ∀ u, SqL K (upd H' D u) a (ns.map V.int) := fun u => by
      rcases hS with h | h
      · refine .inl ?_
        rcases h with h | ⟨o, h⟩
        · exact .inl (by rw [upd_ne (ne_of_none h hD)]; exact h)
        · exact .inr ⟨o, by rw [upd_ne (ne_of_none h hD)]; exact h⟩
      · exact .inr h
    refine lc_list (xs := ns.map V.int) (fun i H2 => H2 = upd H' D (.lst (((ns.take i).map fun i => if i < 0 then -i else i).map V.int))) ?_ ?_ ?_ ?_
    · rfl
    · rintro i H2 _ rfl
      exact hSD _
    · rintro i x H2 hx rfl
      rw [List.getElem?_map] at hx
      obtain ⟨n, hn, rfl⟩ := Option.map_eq_some_iff.mp hx
      refine ⟨rfl, ?_⟩
      unfold tYes
      refine (if_pos rfl).mpr ?_
      refine ⟨_, rfl, n, rfl, _, upd_same, ?_, ?_⟩
      · rw [List.length_map, List.length_map, List.length_take]
        exact small1000 (by omega)
      · rw [upd_upd, List.take_add_one, hn]
        simp
    · rintro H2 rfl
      rw [List.length_map, List.take_length]
      refine ⟨_, rfl, _, 1, rfl, rfl, (show 2 ≤ sizeLine by decide), fun p hp => ?_⟩
      have hpD : p ≠ D := fun q => by rw [q, upd_same] at hp; cases hp
      have hp' : H' p = none := by rw [upd_ne hpD] at hp; exact hp
      refine hq p D _ (fun b u hb => ?_) hp' hD hpD upd_same (by rw [upd_ne hpD.symm]; exact upd_same)
      rw [upd_ne (ne_of_none hb hp'), upd_ne (ne_of_none hb hD)]; exact hb

theorem sc__law_eq : FnScope ["told", "due", "k"] ["told", "due"] (defScope s__law_eq) := ⟨rfl, rfl, rfl, by decide +kernel, rfl, by decide +kernel, by decide +kernel⟩
theorem ok__law_eq {f : Addr} {fd : FuncData} (F : Fun K "_law_eq" "_law_eq" s__law_eq f fd) (hx : mg "_law_eq" = some (.ref f)) (hb : Binds K fd ["told", "due"] []) (b_isinstance : mg "isinstance" = none) (b_list : mg "list" = none) (b_tuple : mg "tuple" = none) (b_len : mg "len" = none) (b_range : mg "range" = none) (b_str : mg "str" = none) (b_bool : mg "bool" = none) (b_int : mg "int" = none) : ∀ n : Nat, FnD P w K mg base n "_law_eq" ["told", "due"] (r__law_eq n)
  | 0 => ⟨f, fd, hx, F.kp, hb, FnOk.none fun _ _ _ _ h => by
    obtain ⟨_, _, _, _, _, _, _, _, _, _, _, _, _, _, hm, _⟩ := h
    cases hm⟩
  | k + 1 => by
    have h__law_eq := ok__law_eq F hx hb b_isinstance b_list b_tuple b_len b_range b_str b_bool b_int k
    exact fnD_mk k [] F hx sc__law_eq hb 3 2 (fun cdv A outer s H E g => (bl_cons (st_if (PWt.pt (pw_or (pt_val (pv_isi "list" ki_list (PV.pb (pv_var 1)) b_isinstance b_list)) (pw_or1 (pt_val (pv_isi "tuple" ki_tuple (PV.pb (pv_var 1)) b_isinstance b_tuple))))) (bl_cons (st_if (PWt.pt (pw_or (pt_cmp d_ne (PV.pb (pv_isi "list" ki_list (PV.pb (pv_var 0)) b_isinstance b_list)) (PV.pb (pv_isi "list" ki_list (PV.pb (pv_var 1)) b_isinstance b_list)) rfl) (pw_or1 (pt_cmp d_ne (PV.pb (pv_isi "tuple" ki_tuple (PV.pb (pv_var 0)) b_isinstance b_tuple)) (PV.pb (pv_isi "tuple" ki_tuple (PV.pb (pv_var 1)) b_isinstance b_tuple)) rfl)))) (bl_one (st_ret pv_bl)) bl_nil)
    (bl_cons (st_if (pt_cmp d_ne (PV.pb (pv_callB (c_len) (pbs_cons (PV.pb (pv_var 0)) pbs_nil) b_len)) (PV.pb (pv_callB (c_len) (pbs_cons (PV.pb (pv_var 1)) pbs_nil) b_len)) rfl) (bl_one (st_ret pv_bl)) bl_nil)
    (bl_one (st_ret (pv_cmp d_eq (PV.pb (PF.pv (pf_lc [("k", 2)] (pib_range1 (pv_callB (c_len) (pbs_cons (PV.pb (pv_var 1)) pbs_nil) b_len) b_range) (fun _ _ _ _ _ => (tg_name 2)) (fun _ _ _ _ _ => (tl_one (pt_not (pt_val (pv_fnL h__law_eq (pas_cons (pv_ix (PV.pb (pv_var 0)) (PV.pb (pv_var 2))) (pas_cons (pv_ix (PV.pb (pv_var 1)) (PV.pb (pv_var 2))) pas_nil))))))) (fun _ _ _ _ _ => (pv_var 2))))) (PV.pb (PF.pv (pf_lst pas_nil))) rfl))))) bl_nil)
    (bl_cons (st_if (pt_cmp d_is (PV.pb (pv_var 1)) (PV.pb pv_non) rfl) (bl_one (st_ret (pv_cmp d_is (PV.pb (pv_var 0)) (PV.pb pv_non) rfl))) bl_nil)
    (bl_cons (st_if (pt_val (pv_isi "str" ki_str (PV.pb (pv_var 1)) b_isinstance b_str)) (bl_one (st_ret (pv_and (pv_isi "str" ki_str (PV.pb (pv_var 0)) b_isinstance b_str) (pv_one (pv_cmp d_eq (PV.pb (pv_var 0)) (PV.pb (pv_var 1)) rfl))))) bl_nil)
    (bl_cons (st_if (pt_val (pv_isi "bool" ki_bool (PV.pb (pv_var 1)) b_isinstance b_bool)) (bl_one (st_ret (pv_and (pv_isi "bool" ki_bool (PV.pb (pv_var 0)) b_isinstance b_bool) (pv_one (pv_cmp d_eq (PV.pb (pv_var 0)) (PV.pb (pv_var 1)) rfl))))) bl_nil)
    (bl_one (st_ret (pv_and (pv_isi "int" ki_int (PV.pb (pv_var 0)) b_isinstance b_int) (pv_and (pv_not (pv_isi "bool" ki_bool (PV.pb (pv_var 0)) b_isinstance b_bool)) (pv_one (pv_cmp d_eq (PV.pb (pv_var 0)) (PV.pb (pv_var 1)) rfl)))))))))))
theorem sc__law_beside : FnScope ["ties", "x", "a", "b"] ["ties", "x"] (defScope s__law_beside) := ⟨rfl, rfl, rfl, by decide +kernel, rfl, by decide +kernel, by decide +kernel⟩
theorem ok__law_beside {f : Addr} {fd : FuncData} (F : Fun K "_law_beside" "_law_beside" s__law_beside f fd) (hx : mg "_law_beside" = some (.ref f)) (hb : Binds K fd ["ties", "x"] [])  (b_sorted : mg "sorted" = none) : FnD P w K mg base 1 "_law_beside" ["ties", "x"] m__law_beside :=
  fnD_mk 0 [] F hx sc__law_beside hb 4 2 (fun cdv A outer s H E g => (bl_one (st_ret (PF.pv (pf_callB c_sorted (pbs_cons (PV.pb (PF.pv (pf_lc [("a", 2), ("b", 3)] (pib_seq (PV.pb (pv_var 0))) (fun _ _ _ _ _ => (tg_tup (tgs_cons (tg_name 2) (tgs_cons (tg_name 3) tgs_nil)))) (fun _ _ _ _ _ => (tl_one (pt_cmp o_in (PV.pb (pv_var 1)) (PV.pb (PF.pv (pf_lst (pas_cons (pv_var 2) (pas_cons (pv_var 3) pas_nil))))) rfl))) (fun _ _ _ _ _ => (pv_op d_sub (PV.pb (pv_op d_addL (PV.pb (pv_var 2)) (PV.pb (pv_var 3)))) (PV.pb (pv_var 1))))))) pbs_nil) b_sorted)))))
theorem sc__law_fire : FnScope ["n", "ties", "hearth", "plan", "burnt", "held", "right", "most", "some", "wide", "x", "more", "y"] ["n", "ties", "hearth", "plan"] (defScope s__law_fire) := ⟨rfl, rfl, rfl, by decide +kernel, rfl, by decide +kernel, by decide +kernel⟩
theorem ok__law_fire {f : Addr} {fd : FuncData} (F : Fun K "_law_fire" "_law_fire" s__law_fire f fd) (hx : mg "_law_fire" = some (.ref f)) (hb : Binds K fd ["n", "ties", "hearth", "plan"] []) (h__law_beside : FnD P w K mg base 1 "_law_beside" ["ties", "x"] m__law_beside) (b_list : mg "list" = none) (b_sorted : mg "sorted" = none) (b_set : mg "set" = none) (b_len : mg "len" = none) (b_max : mg "max" = none) (b_tuple : mg "tuple" = none) : FnD P w K mg base 2 "_law_fire" ["n", "ties", "hearth", "plan"] m__law_fire :=
  fnD_mk 1 [] F hx sc__law_fire hb 13 4 (fun cdv A outer s H E g => (bl_cons (st_unp (pv_tup (pas_cons (PF.pv (pf_lst (pas_cons (pv_var 2) pas_nil))) (pas_cons (PF.pv (pf_lst pas_nil)) (pas_cons pv_bl pas_nil)))) (tg_tup (tgs_cons (tg_name 4) (tgs_cons (tg_name 5) (tgs_cons (tg_name 6) tgs_nil)))))
    (bl_cons (st_set 7 pv_int)
    (bl_cons (st_for (pif_seq (pv_var 3)) (tg_name 8) (bl_cons (st_set 6 (pv_and (pv_var 6) (pv_and (pv_cmp d_eq (PV.pb (PF.pv (pf_callT c_list (pbs_cons (PV.pb (pv_var 8)) pbs_nil) b_list))) (PV.pb (PF.pv (pf_sortSet (PV.pb (pv_var 8)) b_sorted b_set))) rfl) (pv_one (pv_cmp d_eq (PV.pb (PF.pv (pf_lc [("x", 10)] (pib_seq (PV.pb (pv_var 8))) (fun _ _ _ _ _ => (tg_name 10)) (fun _ _ _ _ _ => (tl_one (PWt.pt (pw_or (pt_not (pt_chain d_le d_lt (PV.pb pv_int) (PV.pb (pv_var 10)) (PV.pb (pv_var 0)))) (pw_or (pt_cmp o_in (PV.pb (pv_var 10)) (PV.pb (pv_var 4)) rfl) (pw_or1 (pt_cmp o_in (PV.pb (pv_var 10)) (PV.pb (pv_var 5)) rfl))))))) (fun _ _ _ _ _ => (pv_var 10))))) (PV.pb (PF.pv (pf_lst pas_nil))) rfl)))))
    (bl_cons (st_set 7 (pv_callB (c_max2 rfl) (pbs_cons (PV.pb (pv_var 7)) (pbs_cons (PV.pb (pv_callB (c_len) (pbs_cons (PV.pb (pv_var 8)) pbs_nil) b_len)) pbs_nil)) b_max))
    (bl_cons (st_set 5 (pv_op d_addL (PV.pb (pv_var 5)) (PV.pb (PF.pv (pf_callT c_list (pbs_cons (PV.pb (pv_var 8)) pbs_nil) b_list)))))
    (bl_cons (st_set 9 (PF.pv (pf_callT c_list (pbs_cons (PV.pb (pv_var 4)) pbs_nil) b_list)))
    (bl_cons (st_for (pif_seq (pv_var 4)) (tg_name 10) (bl_one (st_set 9 (pv_op d_addL (PV.pb (pv_var 9)) (PV.pb (PF.pv (pf_lc [("y", 12)] (pib_seq (PV.pb (pv_fn h__law_beside (pas_cons (pv_var 1) (pas_cons (pv_var 10) pas_nil))))) (fun _ _ _ _ _ => (tg_name 12)) (fun _ _ _ _ _ => (tl_one (pt_cmp o_notIn (PV.pb (pv_var 12)) (PV.pb (pv_var 5)) rfl))) (fun _ _ _ _ _ => (pv_var 12)))))))))
    (bl_one (st_set 4 (PF.pv (pf_sortSet (PV.pb (pv_var 9)) b_sorted b_set))))))))))
    (bl_cons (st_set 11 pv_bl)
    (bl_cons (st_while (pt_truth (PV.pb (pv_var 11))) (bl_cons (st_set 9 (PF.pv (pf_callT c_list (pbs_cons (PV.pb (pv_var 4)) pbs_nil) b_list)))
    (bl_cons (st_for (pif_seq (pv_var 4)) (tg_name 10) (bl_one (st_set 9 (pv_op d_addL (PV.pb (pv_var 9)) (PV.pb (PF.pv (pf_lc [("y", 12)] (pib_seq (PV.pb (pv_fn h__law_beside (pas_cons (pv_var 1) (pas_cons (pv_var 10) pas_nil))))) (fun _ _ _ _ _ => (tg_name 12)) (fun _ _ _ _ _ => (tl_one (pt_cmp o_notIn (PV.pb (pv_var 12)) (PV.pb (pv_var 5)) rfl))) (fun _ _ _ _ _ => (pv_var 12)))))))))
    (bl_cons (st_set 11 (pv_cmp d_ne (PV.pb (PF.pv (pf_sortSet (PV.pb (pv_var 9)) b_sorted b_set))) (PV.pb (pv_var 4)) rfl))
    (bl_one (st_set 4 (PF.pv (pf_sortSet (PV.pb (pv_var 9)) b_sorted b_set))))))))
    (bl_one (st_ret (pv_tup (pas_cons (pv_var 6) (pas_cons (pv_callT (c_tuple) (pbs_cons (PV.pb (pv_var 4)) pbs_nil) b_tuple) (pas_cons (pv_var 7) pas_nil))))))))))))
theorem sc__law_mixed : FnScope ["state", "rows", "told", "row"] ["state", "rows"] (defScope s__law_mixed) := ⟨rfl, rfl, rfl, by decide +kernel, rfl, by decide +kernel, by decide +kernel⟩
theorem ok__law_mixed {f : Addr} {fd : FuncData} (F : Fun K "_law_mixed" "_law_mixed" s__law_mixed f fd) (hx : mg "_law_mixed" = some (.ref f)) (hb : Binds K fd ["state", "rows"] []) (h__law_draw : FnD P w K mg base 1 "_law_draw" ["state", "many"] m__law_draw) (b_len : mg "len" = none) : FnD P w K mg base 2 "_law_mixed" ["state", "rows"] m__law_mixed :=
  fnD_mk 1 [2] F hx sc__law_mixed hb 4 2 (fun cdv A outer s H E g => (bl_cons (st_setF 2 (pf_lst pas_nil))
    (bl_cons (st_for (pif_seq (pv_var 1)) (tg_name 3) (bl_one (st_insert 2 (pv_fn h__law_draw (pas_cons (pv_var 0) (pas_cons (pv_op d_addL (PV.pb (pv_callB (c_len) (pbs_cons (pb_var 2) pbs_nil) b_len)) (PV.pb pv_int)) pas_nil))) (pv_var 3))))
    (bl_one (st_ret (pv_var 2))))))
theorem sc__law_path : FnScope ["n", "i"] ["n"] (defScope s__law_path) := ⟨rfl, rfl, rfl, by decide +kernel, rfl, by decide +kernel, by decide +kernel⟩
theorem ok__law_path {f : Addr} {fd : FuncData} (F : Fun K "_law_path" "_law_path" s__law_path f fd) (hx : mg "_law_path" = some (.ref f)) (hb : Binds K fd ["n"] [])  (b_range : mg "range" = none) (b_tuple : mg "tuple" = none) : FnD P w K mg base 1 "_law_path" ["n"] m__law_path :=
  fnD_mk 0 [] F hx sc__law_path hb 2 1 (fun cdv A outer s H E g => (bl_one (st_ret (pv_callT (c_tuple) (pbs_cons (PV.pb (PF.pv (pf_lc [("i", 1)] (pib_range1 (pv_op d_sub (PV.pb (pv_var 0)) (PV.pb pv_int)) b_range) (fun _ _ _ _ _ => (tg_name 1)) (fun _ _ _ _ _ => tl_nil) (fun _ _ _ _ _ => (pv_tup (pas_cons (pv_var 1) (pas_cons (pv_op d_addL (PV.pb (pv_var 1)) (PV.pb pv_int)) pas_nil))))))) pbs_nil) b_tuple))))
theorem sc__law_pick : FnScope ["state", "row"] ["state", "row"] (defScope s__law_pick) := ⟨rfl, rfl, rfl, by decide +kernel, rfl, by decide +kernel, by decide +kernel⟩
theorem ok__law_pick {f : Addr} {fd : FuncData} (F : Fun K "_law_pick" "_law_pick" s__law_pick f fd) (hx : mg "_law_pick" = some (.ref f)) (hb : Binds K fd ["state", "row"] []) (h__law_draw : FnD P w K mg base 1 "_law_draw" ["state", "many"] m__law_draw) (b_len : mg "len" = none) : FnD P w K mg base 2 "_law_pick" ["state", "row"] m__law_pick :=
  fnD_mk 1 [] F hx sc__law_pick hb 2 2 (fun cdv A outer s H E g => (bl_one (st_ret (pv_ix (PV.pb (pv_var 1)) (PV.pb (pv_fn h__law_draw (pas_cons (pv_var 0) (pas_cons (pv_callB (c_len) (pbs_cons (PV.pb (pv_var 1)) pbs_nil) b_len) pas_nil))))))))
theorem sc__law_ring : FnScope ["n", "i"] ["n"] (defScope s__law_ring) := ⟨rfl, rfl, rfl, by decide +kernel, rfl, by decide +kernel, by decide +kernel⟩
theorem ok__law_ring {f : Addr} {fd : FuncData} (F : Fun K "_law_ring" "_law_ring" s__law_ring f fd) (hx : mg "_law_ring" = some (.ref f)) (hb : Binds K fd ["n"] [])  (b_range : mg "range" = none) (b_sorted : mg "sorted" = none) (b_tuple : mg "tuple" = none) : FnD P w K mg base 1 "_law_ring" ["n"] m__law_ring :=
  fnD_mk 0 [] F hx sc__law_ring hb 2 1 (fun cdv A outer s H E g => (bl_one (st_ret (pv_callT (c_tuple) (pbs_cons (PV.pb (PF.pv (pf_callB c_sorted (pbs_cons (PV.pb (pv_op d_addL (PV.pb (PF.pv (pf_lc [("i", 1)] (pib_range1 (pv_op d_sub (PV.pb (pv_var 0)) (PV.pb pv_int)) b_range) (fun _ _ _ _ _ => (tg_name 1)) (fun _ _ _ _ _ => tl_nil) (fun _ _ _ _ _ => (pv_tup (pas_cons (pv_var 1) (pas_cons (pv_op d_addL (PV.pb (pv_var 1)) (PV.pb pv_int)) pas_nil))))))) (PV.pb (PF.pv (pf_lst (pas_cons (pv_tup (pas_cons pv_int (pas_cons (pv_op d_sub (PV.pb (pv_var 0)) (PV.pb pv_int)) pas_nil))) pas_nil)))))) pbs_nil) b_sorted))) pbs_nil) b_tuple))))
theorem sc__law_star : FnScope ["n", "i"] ["n"] (defScope s__law_star) := ⟨rfl, rfl, rfl, by decide +kernel, rfl, by decide +kernel, by decide +kernel⟩
theorem ok__law_star {f : Addr} {fd : FuncData} (F : Fun K "_law_star" "_law_star" s__law_star f fd) (hx : mg "_law_star" = some (.ref f)) (hb : Binds K fd ["n"] [])  (b_range : mg "range" = none) (b_tuple : mg "tuple" = none) : FnD P w K mg base 1 "_law_star" ["n"] m__law_star :=
  fnD_mk 0 [] F hx sc__law_star hb 2 1 (fun cdv A outer s H E g => (bl_one (st_ret (pv_callT (c_tuple) (pbs_cons (PV.pb (PF.pv (pf_lc [("i", 1)] (pib_range2 pv_int (pv_var 0) b_range) (fun _ _ _ _ _ => (tg_name 1)) (fun _ _ _ _ _ => tl_nil) (fun _ _ _ _ _ => (pv_tup (pas_cons pv_int (pas_cons (pv_var 1) pas_nil))))))) pbs_nil) b_tuple))))
theorem sc__law_web : FnScope ["state", "n", "share", "told", "a", "b"] ["state", "n", "share"] (defScope s__law_web) := ⟨rfl, rfl, rfl, by decide +kernel, rfl, by decide +kernel, by decide +kernel⟩
theorem ok__law_web {f : Addr} {fd : FuncData} (F : Fun K "_law_web" "_law_web" s__law_web f fd) (hx : mg "_law_web" = some (.ref f)) (hb : Binds K fd ["state", "n", "share"] []) (h__law_draw : FnD P w K mg base 1 "_law_draw" ["state", "many"] m__law_draw) (b_range : mg "range" = none) (b_tuple : mg "tuple" = none) : FnD P w K mg base 2 "_law_web" ["state", "n", "share"] m__law_web :=
  fnD_mk 1 [] F hx sc__law_web hb 6 3 (fun cdv A outer s H E g => (bl_cons (st_set 3 (PF.pv (pf_lst pas_nil)))
    (bl_cons (st_for (pif_range1 (pv_var 1) b_range) (tg_name 4) (bl_one (st_set 3 (pv_op d_addL (PV.pb (pv_var 3)) (PV.pb (PF.pv (pf_lc [("b", 5)] (pib_range2 (pv_op d_addL (PV.pb (pv_var 4)) (PV.pb pv_int)) (pv_var 1) b_range) (fun _ _ _ _ _ => (tg_name 5)) (fun _ _ _ _ _ => (tl_one (pt_cmp d_eq (PV.pb (pv_fn h__law_draw (pas_cons (pv_var 0) (pas_cons (pv_var 2) pas_nil)))) (PV.pb pv_int) rfl))) (fun _ _ _ _ _ => (pv_tup (pas_cons (pv_var 4) (pas_cons (pv_var 5) pas_nil)))))))))))
    (bl_one (st_ret (pv_callT (c_tuple) (pbs_cons (PV.pb (pv_var 3)) pbs_nil) b_tuple))))))
theorem sc__law_whole : FnScope ["n", "told", "a", "b"] ["n"] (defScope s__law_whole) := ⟨rfl, rfl, rfl, by decide +kernel, rfl, by decide +kernel, by decide +kernel⟩
theorem ok__law_whole {f : Addr} {fd : FuncData} (F : Fun K "_law_whole" "_law_whole" s__law_whole f fd) (hx : mg "_law_whole" = some (.ref f)) (hb : Binds K fd ["n"] [])  (b_range : mg "range" = none) (b_tuple : mg "tuple" = none) : FnD P w K mg base 1 "_law_whole" ["n"] m__law_whole :=
  fnD_mk 0 [] F hx sc__law_whole hb 4 1 (fun cdv A outer s H E g => (bl_cons (st_set 1 (PF.pv (pf_lst pas_nil)))
    (bl_cons (st_for (pif_range1 (pv_var 0) b_range) (tg_name 2) (bl_one (st_set 1 (pv_op d_addL (PV.pb (pv_var 1)) (PV.pb (PF.pv (pf_lc [("b", 3)] (pib_range2 (pv_op d_addL (PV.pb (pv_var 2)) (PV.pb pv_int)) (pv_var 0) b_range) (fun _ _ _ _ _ => (tg_name 3)) (fun _ _ _ _ _ => tl_nil) (fun _ _ _ _ _ => (pv_tup (pas_cons (pv_var 2) (pas_cons (pv_var 3) pas_nil)))))))))))
    (bl_one (st_ret (pv_callT (c_tuple) (pbs_cons (PV.pb (pv_var 1)) pbs_nil) b_tuple))))))
theorem sc__law_named : FnScope ["state", "most", "n", "ties"] ["state", "most"] (defScope s__law_named) := ⟨rfl, rfl, rfl, by decide +kernel, rfl, by decide +kernel, by decide +kernel⟩
theorem ok__law_named {f : Addr} {fd : FuncData} (F : Fun K "_law_named" "_law_named" s__law_named f fd) (hx : mg "_law_named" = some (.ref f)) (hb : Binds K fd ["state", "most"] []) (h__law_draw : FnD P w K mg base 1 "_law_draw" ["state", "many"] m__law_draw) (h__law_pick : FnD P w K mg base 2 "_law_pick" ["state", "row"] m__law_pick) (h__law_web : FnD P w K mg base 2 "_law_web" ["state", "n", "share"] m__law_web) (h__law_path : FnD P w K mg base 1 "_law_path" ["n"] m__law_path) (h__law_star : FnD P w K mg base 1 "_law_star" ["n"] m__law_star) (h__law_whole : FnD P w K mg base 1 "_law_whole" ["n"] m__law_whole) (h__law_ring : FnD P w K mg base 1 "_law_ring" ["n"] m__law_ring)  : FnD P w K mg base 3 "_law_named" ["state", "most"] m__law_named :=
  fnD_mk 2 [] F hx sc__law_named hb 4 2 (fun cdv A outer s H E g => (bl_cons (st_set 2 (pv_op d_addL (PV.pb pv_int) (PV.pb (pv_fn h__law_draw (pas_cons (pv_var 0) (pas_cons (pv_var 1) pas_nil))))))
    (bl_cons (st_set 3 (pv_fn h__law_pick (pas_cons (pv_var 0) (pas_cons (PF.pv (pf_lst (pas_cons (pv_fn h__law_web (pas_cons (pv_var 0) (pas_cons (pv_var 2) (pas_cons pv_int pas_nil)))) (pas_cons (pv_fn h__law_web (pas_cons (pv_var 0) (pas_cons (pv_var 2) (pas_cons pv_int pas_nil)))) (pas_cons (pv_fn h__law_path (pas_cons (pv_var 2) pas_nil)) (pas_cons (pv_fn h__law_star (pas_cons (pv_var 2) pas_nil)) (pas_cons (pv_fn h__law_whole (pas_cons (pv_var 2) pas_nil)) (pas_cons (pv_if (pt_cmp d_gt (PV.pb (pv_var 2)) (PV.pb pv_int) rfl) (pv_fn h__law_ring (pas_cons (pv_var 2) pas_nil)) (pv_tup pas_nil)) pas_nil)))))))) pas_nil))))
    (bl_one (st_ret (pv_tup (pas_cons (pv_var 2) (pas_cons (pv_var 3) pas_nil))))))))
theorem sc_choices : FnScope ["free", "d", "found", "last", "_", "row", "x"] ["free", "d"] (defScope s_choices) := ⟨rfl, rfl, rfl, by decide +kernel, rfl, by decide +kernel, by decide +kernel⟩
theorem ok_choices {f : Addr} {fd : FuncData} (F : Fun K "choices" "choices" s_choices f fd) (hx : mg "choices" = some (.ref f)) (hb : Binds K fd ["free", "d"] [])  (b_range : mg "range" = none) (b_len : mg "len" = none) : FnD P w K mg base 1 "choices" ["free", "d"] m_choices :=
  fnD_mk 0 [] F hx sc_choices hb 7 2 (fun cdv A outer s H E g => (bl_cons (st_set 2 (PF.pv (pf_lst (pas_cons (pv_tup pas_nil) pas_nil))))
    (bl_cons (st_set 3 (pv_var 2))
    (bl_cons (st_for (pif_range1 (pv_var 1) b_range) (tg_name 4) (bl_cons (st_setLc2 3 [("row", 5), ("x", 6)] [6] (pib_seq (PV.pb (pv_var 3))) (fun _ _ _ _ _ => (tg_name 5)) (fun _ _ _ _ _ => tl_nil) (fun _ _ _ _ _ => (pif_seq (pv_var 0))) (fun _ _ _ _ _ => (tg_name 6)) (fun _ _ _ _ _ => (tl_one (PWt.pt (pw_or (pt_cmp d_eq (PV.pb (pv_callB (c_len) (pbs_cons (PV.pb (pv_var 5)) pbs_nil) b_len)) (PV.pb pv_int) rfl) (pw_or1 (pt_cmp d_gt (PV.pb (pv_var 6)) (PV.pb (pv_ix (PV.pb (pv_var 5)) (PV.pb (pv_neg pv_int)))) rfl)))))) (fun _ _ _ _ _ => (pv_op d_addL (PV.pb (pv_var 5)) (PV.pb (pv_tup (pas_cons (pv_var 6) pas_nil))))))
    (bl_one (st_set 2 (pv_op d_addL (PV.pb (pv_var 2)) (PV.pb (pv_var 3)))))))
    (bl_one (st_ret (pv_var 2)))))))
theorem sc_beside : FnScope ["ties", "place", "a", "b"] ["ties", "place"] (defScope s_beside) := ⟨rfl, rfl, rfl, by decide +kernel, rfl, by decide +kernel, by decide +kernel⟩
theorem ok_beside {f : Addr} {fd : FuncData} (F : Fun K "beside" "beside" s_beside f fd) (hx : mg "beside" = some (.ref f)) (hb : Binds K fd ["ties", "place"] [])  (b_sorted : mg "sorted" = none) : FnD P w K mg base 1 "beside" ["ties", "place"] m_beside :=
  fnD_mk 0 [] F hx sc_beside hb 4 2 (fun cdv A outer s H E g => (bl_one (st_ret (PF.pv (pf_callB c_sorted (pbs_cons (PV.pb (PF.pv (pf_lc [("a", 2), ("b", 3)] (pib_seq (PV.pb (pv_var 0))) (fun _ _ _ _ _ => (tg_tup (tgs_cons (tg_name 2) (tgs_cons (tg_name 3) tgs_nil)))) (fun _ _ _ _ _ => (tl_one (pt_cmp o_in (PV.pb (pv_var 1)) (PV.pb (pv_tup (pas_cons (pv_var 2) (pas_cons (pv_var 3) pas_nil)))) rfl))) (fun _ _ _ _ _ => (pv_op d_sub (PV.pb (pv_op d_addL (PV.pb (pv_var 2)) (PV.pb (pv_var 3)))) (PV.pb (pv_var 1))))))) pbs_nil) b_sorted)))))
theorem sc_near_of : FnScope ["n", "ties", "place", "other"] ["n", "ties"] (defScope s_near_of) := ⟨rfl, rfl, rfl, by decide +kernel, rfl, by decide +kernel, by decide +kernel⟩
theorem ok_near_of {f : Addr} {fd : FuncData} (F : Fun K "near_of" "near_of" s_near_of f fd) (hx : mg "near_of" = some (.ref f)) (hb : Binds K fd ["n", "ties"] []) (h_beside : FnD P w K mg base 1 "beside" ["ties", "place"] m_beside) (b_range : mg "range" = none) (b_sum : mg "sum" = none) : FnD P w K mg base 2 "near_of" ["n", "ties"] m_near_of :=
  fnD_mk 1 [] F hx sc_near_of hb 4 2 (fun cdv A outer s H E g => (bl_one (st_ret (PF.pv (pf_lc [("place", 2)] (pib_range1 (pv_var 0) b_range) (fun _ _ _ _ _ => (tg_name 2)) (fun _ _ _ _ _ => tl_nil) (fun _ _ _ _ _ => (pv_callB (c_sum rfl) (pbs_cons (PV.pb (PF.pv (pf_lc [("other", 3)] (pib_seq (PV.pb (pv_fn h_beside (pas_cons (pv_var 1) (pas_cons (pv_var 2) pas_nil))))) (fun _ _ _ _ _ => (tg_name 3)) (fun _ _ _ _ _ => tl_nil) (fun _ _ _ _ _ => (pv_op d_shl (PV.pb pv_int) (PV.pb (pv_var 3))))))) pbs_nil) b_sum)))))))
theorem sc_spread : FnScope ["near", "burnt", "held", "told", "place", "there"] ["near", "burnt", "held"] (defScope s_spread) := ⟨rfl, rfl, rfl, by decide +kernel, rfl, by decide +kernel, by decide +kernel⟩
theorem ok_spread {f : Addr} {fd : FuncData} (F : Fun K "spread" "spread" s_spread f fd) (hx : mg "spread" = some (.ref f)) (hb : Binds K fd ["near", "burnt", "held"] [])  (b_enumerate : mg "enumerate" = none) : FnD P w K mg base 1 "spread" ["near", "burnt", "held"] m_spread :=
  fnD_mk 0 [] F hx sc_spread hb 6 3 (fun cdv A outer s H E g => (bl_cons (st_set 3 (pv_var 1))
    (bl_cons (st_for (pif_enum (pv_var 0) b_enumerate) (tg_tup (tgs_cons (tg_name 4) (tgs_cons (tg_name 5) tgs_nil))) (bl_one (st_if (pt_cmp d_eq (PV.pb (pv_op d_and (PV.pb (pv_op d_shr (PV.pb (pv_var 1)) (PV.pb (pv_var 4)))) (PV.pb pv_int))) (PV.pb pv_int) rfl) (bl_one (st_set 3 (pv_op d_or (PV.pb (pv_var 3)) (PV.pb (pv_op d_and (PV.pb (pv_var 5)) (PV.pb (pv_inv (pv_var 2)))))))) bl_nil)))
    (bl_one (st_ret (pv_var 3))))))
theorem sc_best_plan : FnScope ["n", "ties", "hearth", "d", "near", "best", "told", "here", "after", "burnt", "held", "plan", "free", "some", "more", "wide", "saved", "place"] ["n", "ties", "hearth", "d"] (defScope s_best_plan) := ⟨rfl, rfl, rfl, by decide +kernel, rfl, by decide +kernel, by decide +kernel⟩
theorem ok_best_plan {f : Addr} {fd : FuncData} (F : Fun K "best_plan" "best_plan" s_best_plan f fd) (hx : mg "best_plan" = some (.ref f)) (hb : Binds K fd ["n", "ties", "hearth", "d"] []) (h_near_of : FnD P w K mg base 2 "near_of" ["n", "ties"] m_near_of) (h_choices : FnD P w K mg base 1 "choices" ["free", "d"] m_choices) (h_spread : FnD P w K mg base 1 "spread" ["near", "burnt", "held"] m_spread) (b_len : mg "len" = none) (b_range : mg "range" = none) (b_sum : mg "sum" = none) : FnD P w K mg base 3 "best_plan" ["n", "ties", "hearth", "d"] m_best_plan :=
  fnD_mk 2 [8] F hx sc_best_plan hb 18 4 (fun cdv A outer s H E g => (bl_cons (st_set 4 (pv_fn h_near_of (pas_cons (pv_var 0) (pas_cons (pv_var 1) pas_nil))))
    (bl_cons (st_unp (pv_tup (pas_cons (pv_neg pv_int) (pas_cons pv_non pas_nil))) (tg_tup (tgs_cons (tg_name 5) (tgs_cons (tg_name 6) tgs_nil))))
    (bl_cons (st_set 7 (PF.pv (pf_dict1 (pv_tup (pas_cons (pv_op d_shl (PV.pb pv_int) (PV.pb (pv_var 2))) (pas_cons pv_int pas_nil))) (pv_tup pas_nil))))
    (bl_cons (st_while (pt_cmp d_gt (PV.pb (pv_callB (c_len) (pbs_cons (PV.pb (pv_var 7)) pbs_nil) b_len)) (PV.pb pv_int) rfl) (bl_cons (st_setF 8 pf_dict0)
    (bl_cons (st_forItems 7 (fun _ => (tg_tup (tgs_cons (tg_tup (tgs_cons (tg_name 9) (tgs_cons (tg_name 10) tgs_nil))) (tgs_cons (tg_name 11) tgs_nil)))) (fun _ => (bl_cons (st_setLc 12 [("place", 17)] (pib_range1 (pv_var 0) b_range) (fun _ _ _ _ _ => (tg_name 17)) (fun _ _ _ _ _ => (tl_one (pt_cmp d_eq (PV.pb (pv_op d_and (PV.pb (pv_op d_shr (PV.pb (pv_op d_or (PV.pb (pv_var 9)) (PV.pb (pv_var 10)))) (PV.pb (pv_var 17)))) (PV.pb pv_int))) (PV.pb pv_int) rfl))) (fun _ _ _ _ _ => (pv_var 17)))
    (bl_one (st_for (pif_seq (pv_fn h_choices (pas_cons (pv_var 12) (pas_cons (pv_var 3) pas_nil)))) (tg_name 13) (bl_cons (st_set 14 (pv_op d_or (PV.pb (pv_var 10)) (PV.pb (pv_callB (c_sum rfl) (pbs_cons (PV.pb (PF.pv (pf_lc [("place", 17)] (pib_seq (PV.pb (pv_var 13))) (fun _ _ _ _ _ => (tg_name 17)) (fun _ _ _ _ _ => tl_nil) (fun _ _ _ _ _ => (pv_op d_shl (PV.pb pv_int) (PV.pb (pv_var 17))))))) pbs_nil) b_sum))))
    (bl_cons (st_set 15 (pv_fn h_spread (pas_cons (pv_var 4) (pas_cons (pv_var 9) (pas_cons (pv_var 14) pas_nil)))))
    (bl_one (st_if (pt_cmp d_eq (PV.pb (pv_var 15)) (PV.pb (pv_var 9)) rfl) (bl_cons (st_set 16 (pv_callB (c_len) (pbs_cons (PV.pb (PF.pv (pf_lc [("place", 17)] (pib_range1 (pv_var 0) b_range) (fun _ _ _ _ _ => (tg_name 17)) (fun _ _ _ _ _ => (tl_one (pt_cmp d_eq (PV.pb (pv_op d_and (PV.pb (pv_op d_shr (PV.pb (pv_var 9)) (PV.pb (pv_var 17)))) (PV.pb pv_int))) (PV.pb pv_int) rfl))) (fun _ _ _ _ _ => (pv_var 17))))) pbs_nil) b_len))
    (bl_one (st_if (pt_cmp d_gt (PV.pb (pv_var 16)) (PV.pb (pv_var 5)) rfl) (bl_one (st_par 5 6 (pv_var 16) (pv_op d_addL (PV.pb (pv_var 11)) (PV.pb (pv_tup (pas_cons (pv_var 13) pas_nil)))))) bl_nil))) (bl_one (st_if (pt_cmp o_notIn (PV.pb (pv_tup (pas_cons (pv_var 15) (pas_cons (pv_var 14) pas_nil)))) (pb_var 8) rfl) (bl_one (st_put 8 (pv_tup (pas_cons (pv_var 15) (pas_cons (pv_var 14) pas_nil))) (pv_op d_addL (PV.pb (pv_var 11)) (PV.pb (pv_tup (pas_cons (pv_var 13) pas_nil)))))) bl_nil)))))))))))
    (bl_one (st_move 7 8)))))
    (bl_one (st_ret (pv_var 6))))))))
theorem sc_burnt_by : FnScope ["n", "ties", "hearth", "plan", "near", "burnt", "held", "some", "place"] ["n", "ties", "hearth", "plan"] (defScope s_burnt_by) := ⟨rfl, rfl, rfl, by decide +kernel, rfl, by decide +kernel, by decide +kernel⟩
theorem ok_burnt_by {f : Addr} {fd : FuncData} (F : Fun K "burnt_by" "burnt_by" s_burnt_by f fd) (hx : mg "burnt_by" = some (.ref f)) (hb : Binds K fd ["n", "ties", "hearth", "plan"] []) (h_near_of : FnD P w K mg base 2 "near_of" ["n", "ties"] m_near_of) (h_spread : FnD P w K mg base 1 "spread" ["near", "burnt", "held"] m_spread) (b_sum : mg "sum" = none) (b_range : mg "range" = none) (b_tuple : mg "tuple" = none) : FnD P w K mg base 3 "burnt_by" ["n", "ties", "hearth", "plan"] m_burnt_by :=
  fnD_mk 2 [] F hx sc_burnt_by hb 9 4 (fun cdv A outer s H E g => (bl_cons (st_set 4 (pv_fn h_near_of (pas_cons (pv_var 0) (pas_cons (pv_var 1) pas_nil))))
    (bl_cons (st_unp (pv_tup (pas_cons (pv_op d_shl (PV.pb pv_int) (PV.pb (pv_var 2))) (pas_cons pv_int pas_nil))) (tg_tup (tgs_cons (tg_name 5) (tgs_cons (tg_name 6) tgs_nil))))
    (bl_cons (st_for (pif_seq (pv_var 3)) (tg_name 7) (bl_cons (st_set 6 (pv_op d_or (PV.pb (pv_var 6)) (PV.pb (pv_callB (c_sum rfl) (pbs_cons (PV.pb (PF.pv (pf_lc [("place", 8)] (pib_seq (PV.pb (pv_var 7))) (fun _ _ _ _ _ => (tg_name 8)) (fun _ _ _ _ _ => tl_nil) (fun _ _ _ _ _ => (pv_op d_shl (PV.pb pv_int) (PV.pb (pv_var 8))))))) pbs_nil) b_sum))))
    (bl_one (st_set 5 (pv_fn h_spread (pas_cons (pv_var 4) (pas_cons (pv_var 5) (pas_cons (pv_var 6) pas_nil))))))))
    (bl_cons (st_while (pt_cmp d_ne (PV.pb (pv_fn h_spread (pas_cons (pv_var 4) (pas_cons (pv_var 5) (pas_cons (pv_var 6) pas_nil))))) (PV.pb (pv_var 5)) rfl) (bl_one (st_set 5 (pv_fn h_spread (pas_cons (pv_var 4) (pas_cons (pv_var 5) (pas_cons (pv_var 6) pas_nil)))))))
    (bl_one (st_ret (pv_callT (c_tuple) (pbs_cons (PV.pb (PF.pv (pf_lc [("place", 8)] (pib_range1 (pv_var 0) b_range) (fun _ _ _ _ _ => (tg_name 8)) (fun _ _ _ _ _ => (tl_one (pt_cmp d_eq (PV.pb (pv_op d_and (PV.pb (pv_op d_shr (PV.pb (pv_var 5)) (PV.pb (pv_var 8)))) (PV.pb pv_int))) (PV.pb pv_int) rfl))) (fun _ _ _ _ _ => (pv_var 8))))) pbs_nil) b_tuple))))))))
theorem sc_is_plan : FnScope ["n", "ties", "hearth", "d", "plan", "near", "burnt", "held", "some", "mask", "place"] ["n", "ties", "hearth", "d", "plan"] (defScope s_is_plan) := ⟨rfl, rfl, rfl, by decide +kernel, rfl, by decide +kernel, by decide +kernel⟩
theorem ok_is_plan {f : Addr} {fd : FuncData} (F : Fun K "is_plan" "is_plan" s_is_plan f fd) (hx : mg "is_plan" = some (.ref f)) (hb : Binds K fd ["n", "ties", "hearth", "d", "plan"] []) (h_near_of : FnD P w K mg base 2 "near_of" ["n", "ties"] m_near_of) (h_spread : FnD P w K mg base 1 "spread" ["near", "burnt", "held"] m_spread) (b_len : mg "len" = none) (b_list : mg "list" = none) (b_sorted : mg "sorted" = none) (b_set : mg "set" = none) (b_all : mg "all" = none) (b_sum : mg "sum" = none) : FnD P w K mg base 3 "is_plan" ["n", "ties", "hearth", "d", "plan"] m_is_plan :=
  fnD_mk 2 [] F hx sc_is_plan hb 11 5 (fun cdv A outer s H E g => (bl_cons (st_set 5 (pv_fn h_near_of (pas_cons (pv_var 0) (pas_cons (pv_var 1) pas_nil))))
    (bl_cons (st_par 6 7 (pv_op d_shl (PV.pb pv_int) (PV.pb (pv_var 2))) pv_int)
    (bl_cons (st_for (pif_seq (pv_var 4)) (tg_name 8) (bl_cons (st_if (PWt.pt (pw_or (pt_cmp d_gt (PV.pb (pv_callB (c_len) (pbs_cons (PV.pb (pv_var 8)) pbs_nil) b_len)) (PV.pb (pv_var 3)) rfl) (pw_or (pt_cmp d_ne (PV.pb (PF.pv (pf_callT c_list (pbs_cons (PV.pb (pv_var 8)) pbs_nil) b_list))) (PV.pb (PF.pv (pf_sortSet (PV.pb (pv_var 8)) b_sorted b_set))) rfl) (pw_or1 (pt_not (pt_val (pv_callB (c_all rfl) (pbs_cons (PV.pb (PF.pv (pf_lc [("place", 10)] (pib_seq (PV.pb (pv_var 8))) (fun _ _ _ _ _ => (tg_name 10)) (fun _ _ _ _ _ => tl_nil) (fun _ _ _ _ _ => (pv_chain d_le d_lt (PV.pb pv_int) (PV.pb (pv_var 10)) (PV.pb (pv_var 0))))))) pbs_nil) b_all))))))) (bl_one (st_ret pv_bl)) bl_nil)
    (bl_cons (st_set 9 (pv_callB (c_sum rfl) (pbs_cons (PV.pb (PF.pv (pf_lc [("place", 10)] (pib_seq (PV.pb (pv_var 8))) (fun _ _ _ _ _ => (tg_name 10)) (fun _ _ _ _ _ => tl_nil) (fun _ _ _ _ _ => (pv_op d_shl (PV.pb pv_int) (PV.pb (pv_var 10))))))) pbs_nil) b_sum))
    (bl_cons (st_if (pt_cmp d_ne (PV.pb (pv_op d_and (PV.pb (pv_var 9)) (PV.pb (pv_op d_or (PV.pb (pv_var 6)) (PV.pb (pv_var 7)))))) (PV.pb pv_int) rfl) (bl_one (st_ret pv_bl)) bl_nil)
    (bl_cons (st_set 7 (pv_op d_or (PV.pb (pv_var 7)) (PV.pb (pv_var 9))))
    (bl_one (st_set 6 (pv_fn h_spread (pas_cons (pv_var 5) (pas_cons (pv_var 6) (pas_cons (pv_var 7) pas_nil)))))))))))
    (bl_one (st_ret pv_bl))))))
end
end Pw
set_option Elab.async false
set_option linter.all false
set_option maxRecDepth 100000
namespace Pw
open PySem PySem.Spec PyProof.Rows L2
section
variable {P : Program} {w : World} {K : PySem.W.Frag} {mg : Str → Option Value} {base : Heap}
theorem sc_law : FnScope ["script", "state", "turn", "n", "ties", "hearth", "d", "plan", "right", "burnt", "most", "drawn", "j", "wrong", "bent", "some"] ["script"] (defScope s_law) := ⟨rfl, rfl, rfl, by decide +kernel, rfl, by decide +kernel, by decide +kernel⟩
theorem ok_law {f fs : Addr} {fd fds : FuncData} (F : Fun K "law" "law" s_law f fd) (S : FnOk P w K mg base CX0 1 fs fds ["script"] (spState K)) (mS : mg "_law_state" = some (.ref fs)) (kS : PySem.W.keepIn K (.ref fs) = true) (bS : Binds K fds ["script"] []) (h__law_named : FnD P w K mg base 3 "_law_named" ["state", "most"] m__law_named) (h__law_draw : FnD P w K mg base 1 "_law_draw" ["state", "many"] m__law_draw) (h_best_plan : FnD P w K mg base 3 "best_plan" ["n", "ties", "hearth", "d"] m_best_plan) (h__law_fire : FnD P w K mg base 2 "_law_fire" ["n", "ties", "hearth", "plan"] m__law_fire) (h__law_eq : FnD P w K mg base 9 "_law_eq" ["told", "due"] m__law_eq) (h_is_plan : FnD P w K mg base 3 "is_plan" ["n", "ties", "hearth", "d", "plan"] m_is_plan) (h_burnt_by : FnD P w K mg base 3 "burnt_by" ["n", "ties", "hearth", "plan"] m_burnt_by) (h__law_mixed : FnD P w K mg base 2 "_law_mixed" ["state", "rows"] m__law_mixed) (b_range : mg "range" = none) (b_list : mg "list" = none) (b_sorted : mg "sorted" = none) (b_tuple : mg "tuple" = none) (b_len : mg "len" = none)
    (pure' : ∀ ω, OmOk ω → ∃ ω', b_law (startL 16) ω = some (.rt (.bl true), ω')) : FnOk P w K mg base CX0 10 f fd ["script"] (spLaw K) :=
  law_mk 9 [] F sc_law S mS kS bS 16 (fun cdv A outer s H E g => (bl_cons (st_for (pif_range1 pv_int b_range) (tg_name 2) (bl_cons (st_unp (pv_fn h__law_named (pas_cons (pv_var 1) (pas_cons pv_int pas_nil))) (tg_tup (tgs_cons (tg_name 3) (tgs_cons (tg_name 4) tgs_nil))))
    (bl_cons (st_par 5 6 (pv_fn h__law_draw (pas_cons (pv_var 1) (pas_cons (pv_var 3) pas_nil))) (pv_op d_addL (PV.pb pv_int) (PV.pb (pv_fn h__law_draw (pas_cons (pv_var 1) (pas_cons pv_int pas_nil))))))
    (bl_cons (st_set 7 (pv_fn h_best_plan (pas_cons (pv_var 3) (pas_cons (pv_var 4) (pas_cons (pv_var 5) (pas_cons (pv_var 6) pas_nil))))))
    (bl_cons (st_unp (pv_fn h__law_fire (pas_cons (pv_var 3) (pas_cons (pv_var 4) (pas_cons (pv_var 5) (pas_cons (pv_var 7) pas_nil))))) (tg_tup (tgs_cons (tg_name 8) (tgs_cons (tg_name 9) (tgs_cons (tg_name 10) tgs_nil)))))
    (bl_cons (st_if (PWt.pt (pw_or (pt_not (pt_truth (PV.pb (pv_var 8)))) (pw_or (pt_cmp d_gt (PV.pb (pv_var 10)) (PV.pb (pv_var 6)) rfl) (pw_or (pt_not (pt_val (pv_fn h__law_eq (pas_cons (pv_fn h_is_plan (pas_cons (pv_var 3) (pas_cons (pv_var 4) (pas_cons (pv_var 5) (pas_cons (pv_var 6) (pas_cons (pv_var 7) pas_nil)))))) (pas_cons pv_bl pas_nil))))) (pw_or1 (pt_not (pt_val (pv_fn h__law_eq (pas_cons (pv_fn h_burnt_by (pas_cons (pv_var 3) (pas_cons (pv_var 4) (pas_cons (pv_var 5) (pas_cons (pv_var 7) pas_nil))))) (pas_cons (pv_var 9) pas_nil)))))))))) (bl_one (st_ret pv_bl)) bl_nil)
    (bl_cons (st_set 11 (pv_callT (c_tuple) (pbs_cons (PV.pb (PF.pv (pf_lc [("j", 12)] (pib_range1 (pv_fn h__law_draw (pas_cons (pv_var 1) (pas_cons pv_int pas_nil))) b_range) (fun _ _ _ _ _ => (tg_name 12)) (fun _ _ _ _ _ => tl_nil) (fun _ _ _ _ _ => (pv_callT (c_tuple) (pbs_cons (PV.pb (PF.pv (pf_callB c_sorted (pbs_cons (PV.pb (pv_sl (PV.pb (pv_fn h__law_mixed (pas_cons (pv_var 1) (pas_cons (PF.pv (pf_listR (pro_range1 (pv_var 3) b_range) b_list)) pas_nil)))) pp_none (pp_some (pv_fn h__law_draw (pas_cons (pv_var 1) (pas_cons pv_int pas_nil)))))) pbs_nil) b_sorted))) pbs_nil) b_tuple))))) pbs_nil) b_tuple))
    (bl_cons (st_set 12 (pv_if (pt_cmp d_ne (PV.pb (pv_var 7)) (PV.pb (pv_tup pas_nil)) rfl) (pv_fn h__law_draw (pas_cons (pv_var 1) (pas_cons (pv_callB (c_len) (pbs_cons (PV.pb (pv_var 7)) pbs_nil) b_len) pas_nil))) pv_int))
    (bl_cons (st_setLc 13 [("some", 15)] (pib_seq (PV.pb (PF.pv (pf_lst (pas_cons (pv_tup (pas_cons (pv_var 5) pas_nil)) (pas_cons (pv_tup (pas_cons (pv_var 3) pas_nil)) (pas_cons (pv_tup pas_nil) (pas_cons (pv_tup (pas_cons pv_int (pas_cons pv_int pas_nil))) (pas_cons (pv_tupR (pro_range1 (pv_op d_addL (PV.pb (pv_var 6)) (PV.pb pv_int)) b_range) b_tuple) pas_nil))))))))) (fun _ _ _ _ _ => (tg_name 15)) (fun _ _ _ _ _ => tl_nil) (fun _ _ _ _ _ => (pv_op d_addL (PV.pb (pv_op d_addL (PV.pb (pv_sl (PV.pb (pv_var 7)) pp_none (pp_some (pv_var 12)))) (PV.pb (pv_tup (pas_cons (pv_var 15) pas_nil))))) (PV.pb (pv_sl (PV.pb (pv_var 7)) (pp_some (pv_op d_addL (PV.pb (pv_var 12)) (PV.pb pv_int))) pp_none)))))
    (bl_one (st_for (pif_seq (pv_op d_addL (PV.pb (pv_var 13)) (PV.pb (PF.pv (pf_lst (pas_cons (pv_rev (PV.pb (pv_var 7))) (pas_cons (pv_op d_addL (PV.pb (pv_var 7)) (PV.pb (pv_sl (PV.pb (pv_var 7)) (pp_some (pv_neg pv_int)) pp_none))) (pas_cons (pv_var 11) (pas_cons (pv_op d_addL (PV.pb (pv_tup (pas_cons (pv_tup pas_nil) pas_nil))) (PV.pb (pv_var 7))) pas_nil))))))))) (tg_name 14) (bl_cons (st_unp (pv_fn h__law_fire (pas_cons (pv_var 3) (pas_cons (pv_var 4) (pas_cons (pv_var 5) (pas_cons (pv_var 14) pas_nil))))) (tg_tup (tgs_cons (tg_name 8) (tgs_cons (tg_name 9) (tgs_cons (tg_name 10) tgs_nil)))))
    (bl_cons (st_if (pt_not (pt_val (pv_fn h__law_eq (pas_cons (pv_fn h_is_plan (pas_cons (pv_var 3) (pas_cons (pv_var 4) (pas_cons (pv_var 5) (pas_cons (pv_var 6) (pas_cons (pv_var 14) pas_nil)))))) (pas_cons (pv_and (pv_var 8) (pv_one (pv_cmp d_le (PV.pb (pv_var 10)) (PV.pb (pv_var 6)) rfl))) pas_nil))))) (bl_one (st_ret pv_bl)) bl_nil)
    (bl_one (st_if (PWt.pt (pw_and (pt_truth (PV.pb (pv_var 8))) (pw_and1 (pt_not (pt_val (pv_fn h__law_eq (pas_cons (pv_fn h_burnt_by (pas_cons (pv_var 3) (pas_cons (pv_var 4) (pas_cons (pv_var 5) (pas_cons (pv_var 14) pas_nil))))) (pas_cons (pv_var 9) pas_nil)))))))) (bl_one (st_ret pv_bl)) bl_nil)))))))))))))))
    (bl_one (st_ret pv_bl)))) pure'
theorem all_mk {l : PySem.W.OpenLaw} {w : World} {K : PySem.W.Frag} {h : Heap} {mg : Str → Option Value} {fa f0 f1 f2 f3 f4 f5 f6 f7 f8 f9 f10 f11 f12 f13 f14 f15 f16 f17 f18 f19 f20 : Addr} (X : K.In h) (G : h.Ns mainGlobals mg) (hfa : mg "law" = some (.ref fa)) (pure' : ∀ ω, OmOk ω → ∃ ω', b_law (startL 16) ω = some (.rt (.bl true), ω'))
    {od0 an0 od1 an1 od2 an2 od3 an3 od4 an4 od5 an5 od6 an6 od7 an7 od8 an8 od9 an9 od10 an10 od11 an11 od12 an12 od13 an13 od14 an14 od15 an15 od16 an16 od17 an17 od18 an18 od19 an19 od20 an20 : Option Addr} {sl0 sl1 sl2 sl3 sl4 sl5 sl6 sl7 sl8 sl9 sl10 sl11 sl12 sl13 sl14 sl15 sl16 sl17 sl18 sl19 sl20 : Array (Option Value)} {oc0 kV0 dc0 pm0 cd0 ct0 oc1 kV1 dc1 pm1 cd1 ct1 oc2 kV2 dc2 pm2 cd2 ct2 oc3 kV3 dc3 pm3 cd3 ct3 oc4 kV4 dc4 pm4 cd4 ct4 oc5 kV5 dc5 pm5 cd5 ct5 oc6 kV6 dc6 pm6 cd6 ct6 oc7 kV7 dc7 pm7 cd7 ct7 oc8 kV8 dc8 pm8 cd8 ct8 oc9 kV9 dc9 pm9 cd9 ct9 oc10 kV10 dc10 pm10 cd10 ct10 oc11 kV11 dc11 pm11 cd11 ct11 oc12 kV12 dc12 pm12 cd12 ct12 oc13 kV13 dc13 pm13 cd13 ct13 oc14 kV14 dc14 pm14 cd14 ct14 oc15 kV15 dc15 pm15 cd15 ct15 oc16 kV16 dc16 pm16 cd16 ct16 oc17 kV17 dc17 pm17 cd17 ct17 oc18 kV18 dc18 pm18 cd18 ct18 oc19 kV19 dc19 pm19 cd19 ct19 oc20 kV20 dc20 pm20 cd20 ct20 : Value}
    (a0 : PySem.W.nsIn K mainGlobals "_law_draw" = some (some (.ref f0))) (l0 : K.lookup f0 = some ⟨oc0, od0, .func (PySem.W.fnOf "_law_draw" "_law_draw" (defArgs s__law_draw) (defBody s__law_draw) (defScope s__law_draw) .none kV0 dc0 pm0 an0 cd0 ct0), sl0⟩) (c0 : PySem.W.codeIn K cd0 "_law_draw" = true) (k0 : PySem.W.keepIn K (.ref f0) = true)
    (a1 : PySem.W.nsIn K mainGlobals "_law_eq" = some (some (.ref f1))) (l1 : K.lookup f1 = some ⟨oc1, od1, .func (PySem.W.fnOf "_law_eq" "_law_eq" (defArgs s__law_eq) (defBody s__law_eq) (defScope s__law_eq) .none kV1 dc1 pm1 an1 cd1 ct1), sl1⟩) (c1 : PySem.W.codeIn K cd1 "_law_eq" = true) (k1 : PySem.W.keepIn K (.ref f1) = true)
    (a2 : PySem.W.nsIn K mainGlobals "_law_beside" = some (some (.ref f2))) (l2 : K.lookup f2 = some ⟨oc2, od2, .func (PySem.W.fnOf "_law_beside" "_law_beside" (defArgs s__law_beside) (defBody s__law_beside) (defScope s__law_beside) .none kV2 dc2 pm2 an2 cd2 ct2), sl2⟩) (c2 : PySem.W.codeIn K cd2 "_law_beside" = true) (k2 : PySem.W.keepIn K (.ref f2) = true)
    (a3 : PySem.W.nsIn K mainGlobals "_law_fire" = some (some (.ref f3))) (l3 : K.lookup f3 = some ⟨oc3, od3, .func (PySem.W.fnOf "_law_fire" "_law_fire" (defArgs s__law_fire) (defBody s__law_fire) (defScope s__law_fire) .none kV3 dc3 pm3 an3 cd3 ct3), sl3⟩) (c3 : PySem.W.codeIn K cd3 "_law_fire" = true) (k3 : PySem.W.keepIn K (.ref f3) = true)
    (a4 : PySem.W.nsIn K mainGlobals "_law_mixed" = some (some (.ref f4))) (l4 : K.lookup f4 = some ⟨oc4, od4, .func (PySem.W.fnOf "_law_mixed" "_law_mixed" (defArgs s__law_mixed) (defBody s__law_mixed) (defScope s__law_mixed) .none kV4 dc4 pm4 an4 cd4 ct4), sl4⟩) (c4 : PySem.W.codeIn K cd4 "_law_mixed" = true) (k4 : PySem.W.keepIn K (.ref f4) = true)
    (a5 : PySem.W.nsIn K mainGlobals "_law_path" = some (some (.ref f5))) (l5 : K.lookup f5 = some ⟨oc5, od5, .func (PySem.W.fnOf "_law_path" "_law_path" (defArgs s__law_path) (defBody s__law_path) (defScope s__law_path) .none kV5 dc5 pm5 an5 cd5 ct5), sl5⟩) (c5 : PySem.W.codeIn K cd5 "_law_path" = true) (k5 : PySem.W.keepIn K (.ref f5) = true)
    (a6 : PySem.W.nsIn K mainGlobals "_law_pick" = some (some (.ref f6))) (l6 : K.lookup f6 = some ⟨oc6, od6, .func (PySem.W.fnOf "_law_pick" "_law_pick" (defArgs s__law_pick) (defBody s__law_pick) (defScope s__law_pick) .none kV6 dc6 pm6 an6 cd6 ct6), sl6⟩) (c6 : PySem.W.codeIn K cd6 "_law_pick" = true) (k6 : PySem.W.keepIn K (.ref f6) = true)
    (a7 : PySem.W.nsIn K mainGlobals "_law_ring" = some (some (.ref f7))) (l7 : K.lookup f7 = some ⟨oc7, od7, .func (PySem.W.fnOf "_law_ring" "_law_ring" (defArgs s__law_ring) (defBody s__law_ring) (defScope s__law_ring) .none kV7 dc7 pm7 an7 cd7 ct7), sl7⟩) (c7 : PySem.W.codeIn K cd7 "_law_ring" = true) (k7 : PySem.W.keepIn K (.ref f7) = true)
    (a8 : PySem.W.nsIn K mainGlobals "_law_star" = some (some (.ref f8))) (l8 : K.lookup f8 = some ⟨oc8, od8, .func (PySem.W.fnOf "_law_star" "_law_star" (defArgs s__law_star) (defBody s__law_star) (defScope s__law_star) .none kV8 dc8 pm8 an8 cd8 ct8), sl8⟩) (c8 : PySem.W.codeIn K cd8 "_law_star" = true) (k8 : PySem.W.keepIn K (.ref f8) = true)
    (a9 : PySem.W.nsIn K mainGlobals "_law_web" = some (some (.ref f9))) (l9 : K.lookup f9 = some ⟨oc9, od9, .func (PySem.W.fnOf "_law_web" "_law_web" (defArgs s__law_web) (defBody s__law_web) (defScope s__law_web) .none kV9 dc9 pm9 an9 cd9 ct9), sl9⟩) (c9 : PySem.W.codeIn K cd9 "_law_web" = true) (k9 : PySem.W.keepIn K (.ref f9) = true)
    (a10 : PySem.W.nsIn K mainGlobals "_law_whole" = some (some (.ref f10))) (l10 : K.lookup f10 = some ⟨oc10, od10, .func (PySem.W.fnOf "_law_whole" "_law_whole" (defArgs s__law_whole) (defBody s__law_whole) (defScope s__law_whole) .none kV10 dc10 pm10 an10 cd10 ct10), sl10⟩) (c10 : PySem.W.codeIn K cd10 "_law_whole" = true) (k10 : PySem.W.keepIn K (.ref f10) = true)
    (a11 : PySem.W.nsIn K mainGlobals "_law_named" = some (some (.ref f11))) (l11 : K.lookup f11 = some ⟨oc11, od11, .func (PySem.W.fnOf "_law_named" "_law_named" (defArgs s__law_named) (defBody s__law_named) (defScope s__law_named) .none kV11 dc11 pm11 an11 cd11 ct11), sl11⟩) (c11 : PySem.W.codeIn K cd11 "_law_named" = true) (k11 : PySem.W.keepIn K (.ref f11) = true)
    (a12 : PySem.W.nsIn K mainGlobals "_law_state" = some (some (.ref f12))) (l12 : K.lookup f12 = some ⟨oc12, od12, .func (PySem.W.fnOf "_law_state" "_law_state" (defArgs s__law_state) (defBody s__law_state) (defScope s__law_state) .none kV12 dc12 pm12 an12 cd12 ct12), sl12⟩) (c12 : PySem.W.codeIn K cd12 "_law_state" = true) (k12 : PySem.W.keepIn K (.ref f12) = true)
    (a13 : PySem.W.nsIn K mainGlobals "choices" = some (some (.ref f13))) (l13 : K.lookup f13 = some ⟨oc13, od13, .func (PySem.W.fnOf "choices" "choices" (defArgs s_choices) (defBody s_choices) (defScope s_choices) .none kV13 dc13 pm13 an13 cd13 ct13), sl13⟩) (c13 : PySem.W.codeIn K cd13 "choices" = true) (k13 : PySem.W.keepIn K (.ref f13) = true)
    (a14 : PySem.W.nsIn K mainGlobals "beside" = some (some (.ref f14))) (l14 : K.lookup f14 = some ⟨oc14, od14, .func (PySem.W.fnOf "beside" "beside" (defArgs s_beside) (defBody s_beside) (defScope s_beside) .none kV14 dc14 pm14 an14 cd14 ct14), sl14⟩) (c14 : PySem.W.codeIn K cd14 "beside" = true) (k14 : PySem.W.keepIn K (.ref f14) = true)
    (a15 : PySem.W.nsIn K mainGlobals "near_of" = some (some (.ref f15))) (l15 : K.lookup f15 = some ⟨oc15, od15, .func (PySem.W.fnOf "near_of" "near_of" (defArgs s_near_of) (defBody s_near_of) (defScope s_near_of) .none kV15 dc15 pm15 an15 cd15 ct15), sl15⟩) (c15 : PySem.W.codeIn K cd15 "near_of" = true) (k15 : PySem.W.keepIn K (.ref f15) = true)
    (a16 : PySem.W.nsIn K mainGlobals "spread" = some (some (.ref f16))) (l16 : K.lookup f16 = some ⟨oc16, od16, .func (PySem.W.fnOf "spread" "spread" (defArgs s_spread) (defBody s_spread) (defScope s_spread) .none kV16 dc16 pm16 an16 cd16 ct16), sl16⟩) (c16 : PySem.W.codeIn K cd16 "spread" = true) (k16 : PySem.W.keepIn K (.ref f16) = true)
    (a17 : PySem.W.nsIn K mainGlobals "best_plan" = some (some (.ref f17))) (l17 : K.lookup f17 = some ⟨oc17, od17, .func (PySem.W.fnOf "best_plan" "best_plan" (defArgs s_best_plan) (defBody s_best_plan) (defScope s_best_plan) .none kV17 dc17 pm17 an17 cd17 ct17), sl17⟩) (c17 : PySem.W.codeIn K cd17 "best_plan" = true) (k17 : PySem.W.keepIn K (.ref f17) = true)
    (a18 : PySem.W.nsIn K mainGlobals "burnt_by" = some (some (.ref f18))) (l18 : K.lookup f18 = some ⟨oc18, od18, .func (PySem.W.fnOf "burnt_by" "burnt_by" (defArgs s_burnt_by) (defBody s_burnt_by) (defScope s_burnt_by) .none kV18 dc18 pm18 an18 cd18 ct18), sl18⟩) (c18 : PySem.W.codeIn K cd18 "burnt_by" = true) (k18 : PySem.W.keepIn K (.ref f18) = true)
    (a19 : PySem.W.nsIn K mainGlobals "is_plan" = some (some (.ref f19))) (l19 : K.lookup f19 = some ⟨oc19, od19, .func (PySem.W.fnOf "is_plan" "is_plan" (defArgs s_is_plan) (defBody s_is_plan) (defScope s_is_plan) .none kV19 dc19 pm19 an19 cd19 ct19), sl19⟩) (c19 : PySem.W.codeIn K cd19 "is_plan" = true) (k19 : PySem.W.keepIn K (.ref f19) = true)
    (a20 : PySem.W.nsIn K mainGlobals "law" = some (some (.ref f20))) (l20 : K.lookup f20 = some ⟨oc20, od20, .func (PySem.W.fnOf "law" "law" (defArgs s_law) (defBody s_law) (defScope s_law) .none kV20 dc20 pm20 an20 cd20 ct20), sl20⟩) (c20 : PySem.W.codeIn K cd20 "law" = true) (k20 : PySem.W.keepIn K (.ref f20) = true)
    (z0 : PySem.W.nsIn K mainGlobals "abs" = some none) (z1 : PySem.W.nsIn K mainGlobals "all" = some none) (z2 : PySem.W.nsIn K mainGlobals "bool" = some none) (z3 : PySem.W.nsIn K mainGlobals "enumerate" = some none) (z4 : PySem.W.nsIn K mainGlobals "int" = some none) (z5 : PySem.W.nsIn K mainGlobals "isinstance" = some none) (z6 : PySem.W.nsIn K mainGlobals "len" = some none) (z7 : PySem.W.nsIn K mainGlobals "list" = some none) (z8 : PySem.W.nsIn K mainGlobals "max" = some none) (z9 : PySem.W.nsIn K mainGlobals "range" = some none) (z10 : PySem.W.nsIn K mainGlobals "set" = some none) (z11 : PySem.W.nsIn K mainGlobals "sorted" = some none) (z12 : PySem.W.nsIn K mainGlobals "str" = some none) (z13 : PySem.W.nsIn K mainGlobals "sum" = some none) (z14 : PySem.W.nsIn K mainGlobals "tuple" = some none) :
    ∃ fd : FuncData, (∀ (s : Shared) (v : Value), BindsTo s fd ⟨[v], []⟩ [("script", v)]) ∧ ∀ base : Heap, K.In base → base.Ns mainGlobals mg → FnOk l.prog w K mg base CX0 65 fa fd ["script"] (spLaw K) := by
  have e := hfa.symm.trans (PySem.W.mg_of X G a20)
  cases e
  have m0 := PySem.W.mg_of X G a0
  have m1 := PySem.W.mg_of X G a1
  have m2 := PySem.W.mg_of X G a2
  have m3 := PySem.W.mg_of X G a3
  have m4 := PySem.W.mg_of X G a4
  have m5 := PySem.W.mg_of X G a5
  have m6 := PySem.W.mg_of X G a6
  have m7 := PySem.W.mg_of X G a7
  have m8 := PySem.W.mg_of X G a8
  have m9 := PySem.W.mg_of X G a9
  have m10 := PySem.W.mg_of X G a10
  have m11 := PySem.W.mg_of X G a11
  have m12 := PySem.W.mg_of X G a12
  have m13 := PySem.W.mg_of X G a13
  have m14 := PySem.W.mg_of X G a14
  have m15 := PySem.W.mg_of X G a15
  have m16 := PySem.W.mg_of X G a16
  have m17 := PySem.W.mg_of X G a17
  have m18 := PySem.W.mg_of X G a18
  have m19 := PySem.W.mg_of X G a19
  have m20 := PySem.W.mg_of X G a20
  have b_abs := PySem.W.mg_none_of X G z0
  have b_all := PySem.W.mg_none_of X G z1
  have b_bool := PySem.W.mg_none_of X G z2
  have b_enumerate := PySem.W.mg_none_of X G z3
  have b_int := PySem.W.mg_none_of X G z4
  have b_isinstance := PySem.W.mg_none_of X G z5
  have b_len := PySem.W.mg_none_of X G z6
  have b_list := PySem.W.mg_none_of X G z7
  have b_max := PySem.W.mg_none_of X G z8
  have b_range := PySem.W.mg_none_of X G z9
  have b_set := PySem.W.mg_none_of X G z10
  have b_sorted := PySem.W.mg_none_of X G z11
  have b_str := PySem.W.mg_none_of X G z12
  have b_sum := PySem.W.mg_none_of X G z13
  have b_tuple := PySem.W.mg_none_of X G z14
  have F0 := fun_mk (st := s__law_draw) l0 c0 k0
  have B0 := F0.binds (ps := ["state", "many"]) fun _ _ _ _ _ _ us hl => match us, hl with | [_, _], _ => rfl
  have F1 := fun_mk (st := s__law_eq) l1 c1 k1
  have B1 := F1.binds (ps := ["told", "due"]) fun _ _ _ _ _ _ us hl => match us, hl with | [_, _], _ => rfl
  have F2 := fun_mk (st := s__law_beside) l2 c2 k2
  have B2 := F2.binds (ps := ["ties", "x"]) fun _ _ _ _ _ _ us hl => match us, hl with | [_, _], _ => rfl
  have F3 := fun_mk (st := s__law_fire) l3 c3 k3
  have B3 := F3.binds (ps := ["n", "ties", "hearth", "plan"]) fun _ _ _ _ _ _ us hl => match us, hl with | [_, _, _, _], _ => rfl
  have F4 := fun_mk (st := s__law_mixed) l4 c4 k4
  have B4 := F4.binds (ps := ["state", "rows"]) fun _ _ _ _ _ _ us hl => match us, hl with | [_, _], _ => rfl
  have F5 := fun_mk (st := s__law_path) l5 c5 k5
  have B5 := F5.binds (ps := ["n"]) fun _ _ _ _ _ _ us hl => match us, hl with | [_], _ => rfl
  have F6 := fun_mk (st := s__law_pick) l6 c6 k6
  have B6 := F6.binds (ps := ["state", "row"]) fun _ _ _ _ _ _ us hl => match us, hl with | [_, _], _ => rfl
  have F7 := fun_mk (st := s__law_ring) l7 c7 k7
  have B7 := F7.binds (ps := ["n"]) fun _ _ _ _ _ _ us hl => match us, hl with | [_], _ => rfl
  have F8 := fun_mk (st := s__law_star) l8 c8 k8
  have B8 := F8.binds (ps := ["n"]) fun _ _ _ _ _ _ us hl => match us, hl with | [_], _ => rfl
  have F9 := fun_mk (st := s__law_web) l9 c9 k9
  have B9 := F9.binds (ps := ["state", "n", "share"]) fun _ _ _ _ _ _ us hl => match us, hl with | [_, _, _], _ => rfl
  have F10 := fun_mk (st := s__law_whole) l10 c10 k10
  have B10 := F10.binds (ps := ["n"]) fun _ _ _ _ _ _ us hl => match us, hl with | [_], _ => rfl
  have F11 := fun_mk (st := s__law_named) l11 c11 k11
  have B11 := F11.binds (ps := ["state", "most"]) fun _ _ _ _ _ _ us hl => match us, hl with | [_, _], _ => rfl
  have F12 := fun_mk (st := s__law_state) l12 c12 k12
  have B12 := F12.binds (ps := ["script"]) fun _ _ _ _ _ _ us hl => match us, hl with | [_], _ => rfl
  have F13 := fun_mk (st := s_choices) l13 c13 k13
  have B13 := F13.binds (ps := ["free", "d"]) fun _ _ _ _ _ _ us hl => match us, hl with | [_, _], _ => rfl
  have F14 := fun_mk (st := s_beside) l14 c14 k14
  have B14 := F14.binds (ps := ["ties", "place"]) fun _ _ _ _ _ _ us hl => match us, hl with | [_, _], _ => rfl
  have F15 := fun_mk (st := s_near_of) l15 c15 k15
  have B15 := F15.binds (ps := ["n", "ties"]) fun _ _ _ _ _ _ us hl => match us, hl with | [_, _], _ => rfl
  have F16 := fun_mk (st := s_spread) l16 c16 k16
  have B16 := F16.binds (ps := ["near", "burnt", "held"]) fun _ _ _ _ _ _ us hl => match us, hl with | [_, _, _], _ => rfl
  have F17 := fun_mk (st := s_best_plan) l17 c17 k17
  have B17 := F17.binds (ps := ["n", "ties", "hearth", "d"]) fun _ _ _ _ _ _ us hl => match us, hl with | [_, _, _, _], _ => rfl
  have F18 := fun_mk (st := s_burnt_by) l18 c18 k18
  have B18 := F18.binds (ps := ["n", "ties", "hearth", "plan"]) fun _ _ _ _ _ _ us hl => match us, hl with | [_, _, _, _], _ => rfl
  have F19 := fun_mk (st := s_is_plan) l19 c19 k19
  have B19 := F19.binds (ps := ["n", "ties", "hearth", "d", "plan"]) fun _ _ _ _ _ _ us hl => match us, hl with | [_, _, _, _, _], _ => rfl
  have F20 := fun_mk (st := s_law) l20 c20 k20
  refine ⟨PySem.W.fnOf "law" "law" (defArgs s_law) (defBody s_law) (defScope s_law) .none kV20 dc20 pm20 an20 cd20 ct20, fun s v => .of_eq rfl, fun base _ _ => ?_⟩
  have h__law_draw := ok__law_draw (P := l.prog) (w := w) (mg := mg) (base := base) F0 m0 B0 b_len b_int
  have h__law_eq : FnD l.prog w K mg base 9 "_law_eq" ["told", "due"] m__law_eq := ok__law_eq (P := l.prog) (w := w) (mg := mg) (base := base) F1 m1 B1 b_isinstance b_list b_tuple b_len b_range b_str b_bool b_int 9
  have h__law_beside := ok__law_beside (P := l.prog) (w := w) (mg := mg) (base := base) F2 m2 B2  b_sorted
  have h__law_fire := ok__law_fire (P := l.prog) (w := w) (mg := mg) (base := base) F3 m3 B3 h__law_beside b_list b_sorted b_set b_len b_max b_tuple
  have h__law_mixed := ok__law_mixed (P := l.prog) (w := w) (mg := mg) (base := base) F4 m4 B4 h__law_draw b_len
  have h__law_path := ok__law_path (P := l.prog) (w := w) (mg := mg) (base := base) F5 m5 B5  b_range b_tuple
  have h__law_pick := ok__law_pick (P := l.prog) (w := w) (mg := mg) (base := base) F6 m6 B6 h__law_draw b_len
  have h__law_ring := ok__law_ring (P := l.prog) (w := w) (mg := mg) (base := base) F7 m7 B7  b_range b_sorted b_tuple
  have h__law_star := ok__law_star (P := l.prog) (w := w) (mg := mg) (base := base) F8 m8 B8  b_range b_tuple
  have h__law_web := ok__law_web (P := l.prog) (w := w) (mg := mg) (base := base) F9 m9 B9 h__law_draw b_range b_tuple
  have h__law_whole := ok__law_whole (P := l.prog) (w := w) (mg := mg) (base := base) F10 m10 B10  b_range b_tuple
  have h__law_named := ok__law_named (P := l.prog) (w := w) (mg := mg) (base := base) F11 m11 B11 h__law_draw h__law_pick h__law_web h__law_path h__law_star h__law_whole h__law_ring 
  have S := ok__law_state (P := l.prog) (w := w) (mg := mg) (base := base) F12 b_int b_abs
  have h_choices := ok_choices (P := l.prog) (w := w) (mg := mg) (base := base) F13 m13 B13  b_range b_len
  have h_beside := ok_beside (P := l.prog) (w := w) (mg := mg) (base := base) F14 m14 B14  b_sorted
  have h_near_of := ok_near_of (P := l.prog) (w := w) (mg := mg) (base := base) F15 m15 B15 h_beside b_range b_sum
  have h_spread := ok_spread (P := l.prog) (w := w) (mg := mg) (base := base) F16 m16 B16  b_enumerate
  have h_best_plan := ok_best_plan (P := l.prog) (w := w) (mg := mg) (base := base) F17 m17 B17 h_near_of h_choices h_spread b_len b_range b_sum
  have h_burnt_by := ok_burnt_by (P := l.prog) (w := w) (mg := mg) (base := base) F18 m18 B18 h_near_of h_spread b_sum b_range b_tuple
  have h_is_plan := ok_is_plan (P := l.prog) (w := w) (mg := mg) (base := base) F19 m19 B19 h_near_of h_spread b_len b_list b_sorted b_set b_all b_sum
  exact (ok_law (P := l.prog) (w := w) (mg := mg) (base := base) F20 S m12 k12 B12 h__law_named h__law_draw h_best_plan h__law_fire h__law_eq h_is_plan h_burnt_by h__law_mixed b_range b_list b_sorted b_tuple b_len pure').mono (by decide)
end
theorem walk {l : PySem.W.OpenLaw} {q : Program} {loose : List Str} {XP : (Str → Option Value) → Heap → Prop} {YP : World → Heap → Prop} {d : DefRec} {K : Params → PySem.W.Frag} (hn : l.most = some 63) (hdf : d.params.defaults = [])
    (hY : ∀ (w : World) (h : Heap), YP w h → (K w.params).In h)
    (F : ∀ (w : World) (mg : Str → Option Value) (fa : Addr) (h : Heap), (K w.params).In h → h.Ns mainGlobals mg → mg d.name = some (.ref fa) →
      ∃ fd : FuncData, (∀ (s : Shared) (u : Value), BindsTo s fd ⟨[u], []⟩ [("script", u)]) ∧ ∀ base : Heap, (K w.params).In base → base.Ns mainGlobals mg → FnOk l.prog w (K w.params) mg base CX0 65 fa fd ["script"] (spLaw (K w.params))) :
    PySem.W.WalkO q loose XP YP l.row.toRowW d [] (fun f vs => PySem.call f vs) :=
  L2.walk_of (n := 63) (k := 65) (x := "script") (CX := fun _ => CX0) (sp := fun w => spLaw (K w.params)) hn (by decide) hdf ⟨rfl, by decide, by decide⟩ hY F (fun _ _ a ns hl _ hS => ⟨a, ns, rfl, hS, hl, fun _ => rfl⟩) fun _ _ _ _ _ z => z

end Pw
open PySem PySem.W PyProof.Rows
set_option maxRecDepth 100000 in
set_option maxHeartbeats 0 in
theorem PySem.Challenge.cw_chasedwebs_k42_fires_and_plans_are_read_holds : PySem.Challenge.rw_chasedwebs_k42_fires_and_plans_are_read.Holds := by
  w_on; o_law; k_head; (case hw => w_witness2)
  k_fill
  refine Pw.walk (l := PySem.Challenge.rw_chasedwebs_k42_fires_and_plans_are_read) rfl rfl (fun w h Y => PySem.W.kIn_of Y) ?F
  case F =>
    intro w mg fa h KX G hmg
    refine' Pw.all_mk KX G hmg Pw.law_pure ?a0 ?l0 ?c0 ?k0 ?a1 ?l1 ?c1 ?k1 ?a2 ?l2 ?c2 ?k2 ?a3 ?l3 ?c3 ?k3 ?a4 ?l4 ?c4 ?k4 ?a5 ?l5 ?c5 ?k5 ?a6 ?l6 ?c6 ?k6 ?a7 ?l7 ?c7 ?k7 ?a8 ?l8 ?c8 ?k8 ?a9 ?l9 ?c9 ?k9 ?a10 ?l10 ?c10 ?k10 ?a11 ?l11 ?c11 ?k11 ?a12 ?l12 ?c12 ?k12 ?a13 ?l13 ?c13 ?k13 ?a14 ?l14 ?c14 ?k14 ?a15 ?l15 ?c15 ?k15 ?a16 ?l16 ?c16 ?k16 ?a17 ?l17 ?c17 ?k17 ?a18 ?l18 ?c18 ?k18 ?a19 ?l19 ?c19 ?k19 ?a20 ?l20 ?c20 ?k20 ?z0 ?z1 ?z2 ?z3 ?z4 ?z5 ?z6 ?z7 ?z8 ?z9 ?z10 ?z11 ?z12 ?z13 ?z14
    (case a0 => k_is); (case l0 => k_is); (case c0 => k_is); (case k0 => k_is)
    (case a1 => k_is); (case l1 => k_is); (case c1 => k_is); (case k1 => k_is)
    (case a2 => k_is); (case l2 => k_is); (case c2 => k_is); (case k2 => k_is)
    (case a3 => k_is); (case l3 => k_is); (case c3 => k_is); (case k3 => k_is)
    (case a4 => k_is); (case l4 => k_is); (case c4 => k_is); (case k4 => k_is)
    (case a5 => k_is); (case l5 => k_is); (case c5 => k_is); (case k5 => k_is)
    (case a6 => k_is); (case l6 => k_is); (case c6 => k_is); (case k6 => k_is)
    (case a7 => k_is); (case l7 => k_is); (case c7 => k_is); (case k7 => k_is)
    (case a8 => k_is); (case l8 => k_is); (case c8 => k_is); (case k8 => k_is)
    (case a9 => k_is); (case l9 => k_is); (case c9 => k_is); (case k9 => k_is)
    (case a10 => k_is); (case l10 => k_is); (case c10 => k_is); (case k10 => k_is)
    (case a11 => k_is); (case l11 => k_is); (case c11 => k_is); (case k11 => k_is)
    (case a12 => k_is); (case l12 => k_is); (case c12 => k_is); (case k12 => k_is)
    (case a13 => k_is); (case l13 => k_is); (case c13 => k_is); (case k13 => k_is)
    (case a14 => k_is); (case l14 => k_is); (case c14 => k_is); (case k14 => k_is)
    (case a15 => k_is); (case l15 => k_is); (case c15 => k_is); (case k15 => k_is)
    (case a16 => k_is); (case l16 => k_is); (case c16 => k_is); (case k16 => k_is)
    (case a17 => k_is); (case l17 => k_is); (case c17 => k_is); (case k17 => k_is)
    (case a18 => k_is); (case l18 => k_is); (case c18 => k_is); (case k18 => k_is)
    (case a19 => k_is); (case l19 => k_is); (case c19 => k_is); (case k19 => k_is)
    (case a20 => k_is); (case l20 => k_is); (case c20 => k_is); (case k20 => k_is)
    (case z0 => k_is)
    (case z1 => k_is)
    (case z2 => k_is)
    (case z3 => k_is)
    (case z4 => k_is)
    (case z5 => k_is)
    (case z6 => k_is)
    (case z7 => k_is)
    (case z8 => k_is)
    (case z9 => k_is)
    (case z10 => k_is)
    (case z11 => k_is)
    (case z12 => k_is)
    (case z13 => k_is)
    (case z14 => k_is)
