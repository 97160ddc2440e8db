import PyProof.Rows.All
import Wide.All
import OpenK.AllK
import Wide.FinOn
import HandS.ForMost
import HandS.Exc
import HandS.ExcOwn
import HandS.WordsExc
import HandS.TryOnly
import HandS.Flow
import KE.KDictKeyed
import KE.KeyNested
import HandS.Defaults
import HandS.TupAny
import HandS.TupMul
import HandS.Deep
import HandS.Codes
import HandS.IsInst
import HandS.RaiseMore
import KE.KUnpackStar
import KE.GoesNewDict
import KE.GoesEnum
import HandS.MakeKwOnly
import HandS.HeadHook2
import HandS.Small
import HandS.WordsDict
import HandS.WideBits
import HandS.More
import KE.SortData
import KE.SortLaws
import HandS.Sort
import KE.DataMinMax
import HandS.SortKw
import HandS.Iter
import KE.SortKeyHeap
import HandS.Ends
import HandS.HeadEnd
import HandS.Head0
import HandS.Head1
import HandS.Head2
import HandS.HeadHook1
import PySem.Challenge.RW_wordferry_k55_whole_wills
set_option Elab.async false
set_option linter.all false
set_option maxRecDepth 100000
set_option maxHeartbeats 2000000
/-! Dn0: values as trees, a store of what may change, what a denotation is, how it lies in the abstract heap -/
namespace Dn
open PySem PySem.Spec PyProof.Rows L2

/-- data: tuples and lists that nobody changes any more are trees (frl: a list that stands elsewhere: the script); ref: the n-th thing of the store -/
inductive D where
  | non | bl (b : Bool) | int (i : Int) | str (x : Str) | tup (xs : List D) | lst (xs : List D) | frl (xs : List D) | dct (ks ds : List D) | ref (n : Nat) | glo (x : Str) | ty (n : String)
mutual
def D.beq : D → D → Bool
  | .non, .non => true
  | .bl a, .bl b => a == b
  | .int a, .int b => decide (a = b)
  | .str a, .str b => a == b
  | .tup a, .tup b => beqs a b
  | .lst a, .lst b => beqs a b
  | .frl a, .frl b => beqs a b
  | .dct a c, .dct b d => beqs a b && beqs c d
  | .ref a, .ref b => decide (a = b)
  | .glo a, .glo b => a == b
  | .ty a, .ty b => a == b
  | _, _ => false
def beqs : List D → List D → Bool
  | [], [] => true
  | a :: as, b :: bs => a.beq b && beqs as bs
  | _, _ => false
end
mutual
theorem D.beq_eq : ∀ {a b : D}, a.beq b = true → a = b := fun {a b} h => by
  cases a <;> cases b <;> simp only [D.beq, Bool.false_eq_true, beq_iff_eq, decide_eq_true_eq, Bool.and_eq_true] at h <;> first
    | rfl
    | (subst h; rfl)
    | (rw [beqs_eq h])
    | (rw [beqs_eq h.1, beqs_eq h.2])
    | exact absurd h (by simp)
theorem beqs_eq : ∀ {a b : List D}, beqs a b = true → a = b := fun {a b} h => by
  cases a <;> cases b <;> simp only [beqs, Bool.false_eq_true, Bool.and_eq_true] at h
  · rfl
  · rw [D.beq_eq h.1, beqs_eq h.2]
end
mutual
theorem D.beq_refl : ∀ a : D, a.beq a = true := fun a => by
  cases a <;> simp only [D.beq, beq_self_eq_true, decide_true, beqs_refl, Bool.and_self]
theorem beqs_refl : ∀ a : List D, beqs a a = true := fun a => by
  cases a with
  | nil => rfl
  | cons x xs => simp only [beqs, D.beq_refl x, beqs_refl xs, Bool.and_self]
end
/-- what may change -/
inductive SO where
  | lst (xs : List D) | dct (ks ds : List D) | ins (c : Str) (fs : List (Str × D)) | frd (ks ds : List D) | gone
abbrev Sto := List SO
abbrev Env := List (Option D)
/-- an exception: its class, its fields (none: no own dict) -/
structure Xc where
  cls : Str
  fs : List (Str × V)
inductive RE (α : Type) where
  | fail | ok (a : α) (S : Sto) | exc (x : Xc) (S : Sto)
inductive RS where
  | fail | nx (env : Env) (S : Sto) | ret (d : D) (S : Sto) | brk (env : Env) (S : Sto) | cnt (env : Env) (S : Sto) | exc (x : Xc) (env : Env) (S : Sto)
def RE.bind {α β : Type} (r : RE α) (k : α → Sto → RE β) : RE β := match r with
  | .fail => .fail
  | .ok a S => k a S
  | .exc x S => .exc x S
def RE.bindS {α : Type} (r : RE α) (env : Env) (k : α → Sto → RS) : RS := match r with
  | .fail => .fail
  | .ok a S => k a S
  | .exc x S => .exc x env S
abbrev DE (α : Type) := Env → Sto → RE α
abbrev DS := Env → Sto → RS

/-- what stands behind the top: the module's names, the program, the world -/
structure Bk where
  mg : Str → Option Value
  P : Program
  w : World
/-! ### how data lies in the heap: Im what stands for good, mu the addresses of the store -/
structure Gh where
  im : Hp
  mu : List Addr
def Ex (H H' : Hp) : Prop := ∀ a o, H a = some o → H' a = some o
theorem Ex.refl (H : Hp) : Ex H H := fun _ _ h => h
theorem Ex.trans {H H1 H2 : Hp} (a : Ex H H1) (b : Ex H1 H2) : Ex H H2 := fun x o h => b x o (a x o h)
theorem Ex.new {H : Hp} {p : Addr} {o : HO} (h : H p = none) : Ex H (upd H p o) := fun a u e => by
  rw [upd_ne (ne_of_none e h)]
  exact e
theorem Ex.none {H H' : Hp} (e : Ex H H') {p : Addr} (h : H' p = none) : H p = none := by
  cases q : H p with
  | none => rfl
  | some o =>
    rw [e p o q] at h
    cases h
theorem Ex.rd {H H' : Hp} {a : Addr} {u : HO} (e : Ex H H') (h : Rd H a u) : Rd H' a u := by
  rcases h with h | ⟨o, h⟩
  · exact Or.inl (e a _ h)
  · exact Or.inr ⟨o, e a _ h⟩
theorem Ex.l {K : PySem.W.Frag} {H H' : Hp} {a : Addr} {xs : List V} (e : Ex H H') (h : SqL K H a xs) : SqL K H' a xs := by
  rcases h with h | h
  · exact Or.inl (e.rd h)
  · exact Or.inr h
theorem Ex.t {K : PySem.W.Frag} {H H' : Hp} {a : Addr} {xs : List V} (e : Ex H H') (h : SqT K H a xs) : SqT K H' a xs := by
  rcases h with h | h
  · exact Or.inl (e.rd h)
  · exact Or.inr h
structure Gh.le (g g' : Gh) : Prop where
  im : Ex g.im g'.im
  mu : ∀ (n : Nat) (a : Addr), g.mu[n]? = some a → g'.mu[n]? = some a
theorem Gh.le.refl (g : Gh) : g.le g := ⟨Ex.refl _, fun _ _ h => h⟩
theorem Gh.le.trans {g g1 g2 : Gh} (a : g.le g1) (b : g1.le g2) : g.le g2 := ⟨a.im.trans b.im, fun n x h => b.mu n x (a.mu n x h)⟩

/-- a key of a dict: an int or a text; a tuple of such, of bools, of None, of tuples -/
def keyD : D → Option Key
  | .int i => some (.inl i)
  | .str x => some (.inr x)
  | _ => none
def plainKs (ks : List D) : Bool := ks.all fun k => (keyD k).isSome
mutual
def nk : D → Option NestedKey
  | .non => some .none
  | .bl b => some (.num (if b then 1 else 0))
  | .int i => some (.num i)
  | .str x => some (.text x)
  | .tup ds => (nks ds).map .tup
  | _ => none
def nks : List D → Option (List NestedKey)
  | [] => some []
  | d :: ds => (nk d).bind fun k => (nks ds).map fun ks => k :: ks
end
/-- a dict at a with keys that are tuples: its entries, told by its own object -/
def DkRaw (P : Program) (w : World) (a : Addr) (o : Obj) (xs : List (NestedKey × Addr × Value)) : Heap → Prop := fun h =>
  h.get? a = some o ∧ o.ExactDict ∧ ∃ es ep, o.data = .dict es ep ∧ es.toList = xs.map (entryOfKey (nestedKind P w))
section
variable (K : PySem.W.Frag) (mg : Bk)
mutual
inductive Rep (g : Gh) : D → V → Prop
  | non : Rep g .non .non
  | bl (b : Bool) : Rep g (.bl b) (.bl b)
  | int (i : Int) : Rep g (.int i) (.int i)
  | str (x : Str) : Rep g (.str x) (.str x)
  | tup {a : Addr} {vs : List V} {ds : List D} : SqT K g.im a vs → Reps g ds vs → Rep g (.tup ds) (.ref a)
  | lst {a : Addr} {vs : List V} {ds : List D} : g.im a = some (.lst vs) → Reps g ds vs → Rep g (.lst ds) (.ref a)
  | frl {a : Addr} {vs : List V} {ds : List D} : SqL K g.im a vs → Reps g ds vs → Rep g (.frl ds) (.ref a)
  | dctK {a : Addr} {us : List (Key × V)} {ks ds : List D} : g.im a = some (.dK us) → KvK g ks ds us → Rep g (.dct ks ds) (.ref a)
  | dctN {a : Addr} {o : Obj} {xs : List (NestedKey × Addr × Value)} {ks ds : List D} : plainKs ks = false → g.im a = some (.ext (DkRaw mg.P mg.w a o xs)) → (a == sysModules) = false → (xs.map (·.1)).Nodup → KvN g ks ds xs → Rep g (.dct ks ds) (.ref a)
  | ref {a : Addr} {n : Nat} : g.mu[n]? = some a → Rep g (.ref n) (.ref a)
  | glo {f : Addr} {x : Str} : mg.mg x = some (.ref f) → Rep g (.glo x) (.ref f)
  | ty (n : String) : Rep g (.ty n) (.ty n)
inductive Reps (g : Gh) : List D → List V → Prop
  | nil : Reps g [] []
  | cons {d : D} {ds : List D} {v : V} {vs : List V} : Rep g d v → Reps g ds vs → Reps g (d :: ds) (v :: vs)
inductive KvK (g : Gh) : List D → List D → List (Key × V) → Prop
  | nil : KvK g [] [] []
  | cons {k : D} {q : Key} {d : D} {v : V} {ks ds : List D} {us : List (Key × V)} : keyD k = some q → Rep g d v → KvK g ks ds us → KvK g (k :: ks) (d :: ds) ((q, v) :: us)
inductive KvN (g : Gh) : List D → List D → List (NestedKey × Addr × Value) → Prop
  | nil : KvN g [] [] []
  | cons {k : D} {q : NestedKey} {b : Addr} {d : D} {v : V} {u : Value} {ks ds : List D} {xs : List (NestedKey × Addr × Value)} : nk k = some q → q.depth ≤ 8 → Rep g k (.ref b) → Rep g d v → RelV v u → KvN g ks ds xs → KvN g (k :: ks) (d :: ds) ((q, b, u) :: xs)
end
end
section
variable {K : PySem.W.Frag} {mg : Bk} {g g' : Gh}
mutual
theorem Rep.mono (e : g.le g') : ∀ {d : D} {v : V}, Rep K mg g d v → Rep K mg g' d v
  | _, _, .non => .non
  | _, _, .bl b => .bl b
  | _, _, .int i => .int i
  | _, _, .str x => .str x
  | _, _, .tup h r => .tup (e.im.t h) (Reps.mono e r)
  | _, _, .lst h r => .lst (e.im _ _ h) (Reps.mono e r)
  | _, _, .frl h r => .frl (e.im.l h) (Reps.mono e r)
  | _, _, .dctK h r => .dctK (e.im _ _ h) (KvK.mono e r)
  | _, _, .dctN h0 h h1 h2 r => .dctN h0 (e.im _ _ h) h1 h2 (KvN.mono e r)
  | _, _, .ref h => .ref (e.mu _ _ h)
  | _, _, .glo h => .glo h
  | _, _, .ty n => .ty n
theorem Reps.mono (e : g.le g') : ∀ {ds : List D} {vs : List V}, Reps K mg g ds vs → Reps K mg g' ds vs
  | _, _, .nil => .nil
  | _, _, .cons h r => .cons (Rep.mono e h) (Reps.mono e r)
theorem KvK.mono (e : g.le g') : ∀ {ks ds : List D} {us : List (Key × V)}, KvK K mg g ks ds us → KvK K mg g' ks ds us
  | _, _, _, .nil => .nil
  | _, _, _, .cons h1 h r => .cons h1 (Rep.mono e h) (KvK.mono e r)
theorem KvN.mono (e : g.le g') : ∀ {ks ds : List D} {us : List (NestedKey × Addr × Value)}, KvN K mg g ks ds us → KvN K mg g' ks ds us
  | _, _, _, .nil => .nil
  | _, _, _, .cons h1 h2 h3 h4 h5 r => .cons h1 h2 (Rep.mono e h3) (Rep.mono e h4) h5 (KvN.mono e r)
end
theorem Reps.length : ∀ {ds : List D} {vs : List V}, Reps K mg g ds vs → ds.length = vs.length
  | _, _, .nil => rfl
  | _, _, .cons _ r => congrArg Nat.succ (Reps.length r)
theorem Reps.get : ∀ {ds : List D} {vs : List V} {i : Nat} {d : D}, Reps K mg g ds vs → ds[i]? = some d → ∃ v, vs[i]? = some v ∧ Rep K mg g d v
  | _, _, _, _, .nil, e => by simp at e
  | _, _, 0, _, .cons r _, e => by
    simp at e
    subst e
    exact ⟨_, rfl, r⟩
  | _, _, i + 1, d, .cons _ t, e => by
    obtain ⟨v, h1, h2⟩ := Reps.get (i := i) (d := d) t (by simpa using e)
    exact ⟨v, by simpa using h1, h2⟩
theorem Reps.getV : ∀ {ds : List D} {vs : List V} {i : Nat} {v : V}, Reps K mg g ds vs → vs[i]? = some v → ∃ d, ds[i]? = some d ∧ Rep K mg g d v
  | _, _, _, _, .nil, e => by simp at e
  | _, _, 0, _, .cons r _, e => by
    simp at e
    subst e
    exact ⟨_, rfl, r⟩
  | _, _, i + 1, d, .cons _ t, e => by
    obtain ⟨v, h1, h2⟩ := Reps.getV (i := i) (v := d) t (by simpa using e)
    exact ⟨v, by simpa using h1, h2⟩
theorem Reps.append : ∀ {ds es : List D} {vs us : List V}, Reps K mg g ds vs → Reps K mg g es us → Reps K mg g (ds ++ es) (vs ++ us)
  | _, _, _, _, .nil, s => s
  | _, _, _, _, .cons r t, s => .cons r (Reps.append t s)
theorem Reps.take : ∀ {ds : List D} {vs : List V} (n : Nat), Reps K mg g ds vs → Reps K mg g (ds.take n) (vs.take n)
  | _, _, 0, _ => .nil
  | _, _, _ + 1, .nil => .nil
  | _, _, n + 1, .cons r t => .cons r (Reps.take n t)
theorem Reps.drop : ∀ {ds : List D} {vs : List V} (n : Nat), Reps K mg g ds vs → Reps K mg g (ds.drop n) (vs.drop n)
  | _, _, 0, r => r
  | _, _, _ + 1, .nil => .nil
  | _, _, n + 1, .cons _ t => Reps.drop n t
theorem Reps.set {d : D} {v : V} (r : Rep K mg g d v) : ∀ {ds : List D} {vs : List V} (i : Nat), Reps K mg g ds vs → Reps K mg g (ds.set i d) (vs.set i v)
  | _, _, _, .nil => .nil
  | _, _, 0, .cons _ t => .cons r t
  | _, _, i + 1, .cons q t => .cons q (Reps.set r i t)
theorem Reps.eraseIdx : ∀ {ds : List D} {vs : List V} (i : Nat), Reps K mg g ds vs → Reps K mg g (ds.eraseIdx i) (vs.eraseIdx i)
  | _, _, _, .nil => .nil
  | _, _, 0, .cons _ t => t
  | _, _, i + 1, .cons q t => .cons q (Reps.eraseIdx i t)
theorem Reps.reverse : ∀ {ds : List D} {vs : List V}, Reps K mg g ds vs → Reps K mg g ds.reverse vs.reverse
  | _, _, .nil => .nil
  | _, _, .cons q t => by
    rw [List.reverse_cons, List.reverse_cons]
    exact (Reps.reverse t).append (.cons q .nil)
end

/-! ### data without a ref -/
mutual
def D.nr : D → Bool
  | .tup ds => nrs ds
  | .lst ds => nrs ds
  | .frl ds => nrs ds
  | .dct ks ds => nrs ks && nrs ds
  | .ref _ => false
  | _ => true
def nrs : List D → Bool
  | [] => true
  | d :: ds => d.nr && nrs ds
end
section
variable {K : PySem.W.Frag} {mg : Bk}
mutual
theorem Rep.nr {g g' : Gh} (e : Ex g.im g'.im) : ∀ {d : D} {v : V}, Rep K mg g d v → d.nr = true → Rep K mg g' d v
  | _, _, .non, _ => .non
  | _, _, .bl b, _ => .bl b
  | _, _, .int i, _ => .int i
  | _, _, .str x, _ => .str x
  | _, _, .tup h r, q => .tup (e.t h) (Reps.nr e r (by simpa [D.nr] using q))
  | _, _, .lst h r, q => .lst (e _ _ h) (Reps.nr e r (by simpa [D.nr] using q))
  | _, _, .frl h r, q => .frl (e.l h) (Reps.nr e r (by simpa [D.nr] using q))
  | _, _, .dctK h r, q => by
    rw [D.nr, Bool.and_eq_true] at q
    exact .dctK (e _ _ h) (KvK.nr e r q.2)
  | _, _, .dctN h0 h h1 h2 r, q => by
    rw [D.nr, Bool.and_eq_true] at q
    exact .dctN h0 (e _ _ h) h1 h2 (KvN.nr e r q.1 q.2)
  | _, _, .ref h, q => by simp [D.nr] at q
  | _, _, .glo h, _ => .glo h
  | _, _, .ty n, _ => .ty n
theorem Reps.nr {g g' : Gh} (e : Ex g.im g'.im) : ∀ {ds : List D} {vs : List V}, Reps K mg g ds vs → nrs ds = true → Reps K mg g' ds vs
  | _, _, .nil, _ => .nil
  | _, _, .cons h r, q => by
    simp only [nrs, Bool.and_eq_true] at q
    exact .cons (Rep.nr e h q.1) (Reps.nr e r q.2)
theorem KvK.nr {g g' : Gh} (e : Ex g.im g'.im) : ∀ {ks ds : List D} {us : List (Key × V)}, KvK K mg g ks ds us → nrs ds = true → KvK K mg g' ks ds us
  | _, _, _, .nil, _ => .nil
  | _, _, _, .cons h1 h r, q => by
    simp only [nrs, Bool.and_eq_true] at q
    exact .cons h1 (Rep.nr e h q.1) (KvK.nr e r q.2)
theorem KvN.nr {g g' : Gh} (e : Ex g.im g'.im) : ∀ {ks ds : List D} {us : List (NestedKey × Addr × Value)}, KvN K mg g ks ds us → nrs ks = true → nrs ds = true → KvN K mg g' ks ds us
  | _, _, _, .nil, _, _ => .nil
  | _, _, _, .cons h1 h2 h3 h4 h5 r, p, q => by
    simp only [nrs, Bool.and_eq_true] at p q
    exact .cons h1 h2 (Rep.nr e h3 p.1) (Rep.nr e h4 q.1) h5 (KvN.nr e r p.2 q.2)
end
end

theorem nd_ix {N : List Addr} (hN : N.Nodup) {i j : Nat} {x : Addr} (a : N[i]? = some x) (b : N[j]? = some x) : i = j := by
  obtain ⟨h1, e1⟩ := List.getElem?_eq_some_iff.mp a
  obtain ⟨h2, e2⟩ := List.getElem?_eq_some_iff.mp b
  by_cases h : i = j
  · exact h
  · exact absurd (e1.trans e2.symm) ((List.pairwise_iff_getElem.mp hN |> fun p => by
      rcases Nat.lt_or_gt_of_ne h with q | q
      · exact p i j h1 h2 q
      · exact fun z => p j i h2 h1 q z.symm))

/-! ### the store in the heap -/
section
variable (K : PySem.W.Frag) (mg : Bk)
inductive Fs (g : Gh) : List (Str × D) → List (Str × V) → Prop
  | nil : Fs g [] []
  | cons {f : Str} {d : D} {v : V} {fs : List (Str × D)} {us : List (Str × V)} : Rep K mg g d v → Fs g fs us → Fs g ((f, d) :: fs) ((f, v) :: us)
/-- what stands at a dict's address -/
def DctO (g : Gh) (a : Addr) (ks ds : List D) (o : HO) : Prop := (∃ us, o = .dK us ∧ KvK K mg g ks ds us) ∨ ∃ ob xs, (plainKs ks = false ∧ o = .ext (DkRaw mg.P mg.w a ob xs)) ∧ (a == sysModules) = false ∧ (xs.map (·.1)).Nodup ∧ KvN K mg g ks ds xs
def SoR (g : Gh) (a : Addr) (H : Hp) : SO → Prop
  | .lst ds => ∃ vs, H a = some (.lst vs) ∧ Reps K mg g ds vs
  | .dct ks ds => ∃ o, H a = some o ∧ DctO K mg g a ks ds o
  | .ins c fs => ∃ C dx us, mg.mg c = some (.ref C) ∧ H a = some (.ins C dx us) ∧ Fs K mg g fs us
  | .frd ks ds => (∃ ob o, g.im a = some (.frz ob o) ∧ DctO K mg g a ks ds o) ∧ H a ≠ none
  | .gone => True
/-- a thing of the store that is not locked is not for good -/
def ImOk (im : Hp) (a : Addr) : SO → Prop
  | .frd _ _ => True
  | _ => im a = none
structure Ok (g : Gh) (S : Sto) (H : Hp) : Prop where
  ex : Ex g.im H
  len : g.mu.length = S.length
  there : ∀ a, a ∈ g.mu → H a ≠ none
  inj : g.mu.Nodup
  live : ∀ (n : Nat) (o : SO) (a : Addr), S[n]? = some o → g.mu[n]? = some a → o = .gone ∨ (ImOk g.im a o ∧ SoR K mg g a H o)
def RelE (g : Gh) (env : Env) (σ : L2.St) : Prop := env.length = σ.length ∧ ∀ (i : Nat) (d : D), env[i]? = some (some d) → ∃ v, σ[i]? = some (some v) ∧ Rep K mg g d v
/-- what has come to pass between two states -/
structure Ext (g : Gh) (H : Hp) (g' : Gh) (H' : Hp) : Prop where
  le : g.le g'
  new : ∀ a, g.im a = none → g'.im a ≠ none → H a = none ∨ a ∈ g.mu
  keep : ∀ a o, H a = some o → a ∉ g.mu → H' a = some o
  newm : ∀ a, a ∈ g'.mu → a ∈ g.mu ∨ H a = none
structure At (env : Env) (S : Sto) (g : Gh) (σ : L2.St) (H : Hp) : Prop where
  e : RelE K mg g env σ
  ok : Ok K mg g S H
end
theorem Ext.refl (g : Gh) (H : Hp) : Ext g H g H := ⟨.refl _, fun a h q => absurd h q, fun _ _ h _ => h, fun _ h => .inl h⟩
theorem Ext.trans {g g1 g2 : Gh} {H H1 H2 : Hp} (a : Ext g H g1 H1) (b : Ext g1 H1 g2 H2) : Ext g H g2 H2 := by
  have back : ∀ x, x ∉ g.mu → H x ≠ none → x ∉ g1.mu := fun x h1 h2 h3 => by
    rcases a.newm x h3 with h | h
    · exact h1 h
    · exact h2 h
  refine ⟨a.le.trans b.le, fun x h1 h2 => ?_, fun x o h1 h2 => b.keep x o (a.keep x o h1 h2) (back x h2 (by rw [h1]; intro z; cases z)), fun x h => ?_⟩
  · by_cases hx : x ∈ g.mu
    · exact .inr hx
    · refine .inl ?_
      cases q : H x with
      | none => rfl
      | some o =>
        have hn : x ∉ g1.mu := back x hx (by rw [q]; intro z; cases z)
        have k := a.keep x o q hx
        cases q1 : g1.im x with
        | none =>
          rcases b.new x q1 h2 with z | z
          · rw [k] at z
            cases z
          · exact absurd z hn
        | some u =>
          rcases a.new x h1 (by rw [q1]; intro z; cases z) with z | z
          · rw [q] at z
            cases z
          · exact absurd z hx
  · rcases b.newm x h with h | h
    · exact a.newm x h
    · by_cases hx : x ∈ g.mu
      · exact .inl hx
      · refine .inr ?_
        cases q : H x with
        | none => rfl
        | some o =>
          rw [a.keep x o q hx] at h
          cases h
section
variable {K : PySem.W.Frag} {mg : Bk} {g g' : Gh} {env : Env} {σ : L2.St} {S : Sto} {H H' : Hp} {d : D} {v : V} {a : Addr}
theorem Fs.mono (e : g.le g') : ∀ {fs : List (Str × D)} {us : List (Str × V)}, Fs K mg g fs us → Fs K mg g' fs us
  | _, _, .nil => .nil
  | _, _, .cons h r => .cons (h.mono e) (Fs.mono e r)
theorem DctO.mono {ks ds : List D} {o : HO} (e : g.le g') (h : DctO K mg g a ks ds o) : DctO K mg g' a ks ds o := h.imp (fun ⟨us, h1, h2⟩ => ⟨us, h1, h2.mono e⟩) fun ⟨ob, xs, h1, h2, h3, h4⟩ => ⟨ob, xs, h1, h2, h3, h4.mono e⟩
theorem SoR.mono (e : g.le g') (h : H' a = H a) : ∀ {o : SO}, SoR K mg g a H o → SoR K mg g' a H' o
  | .lst ds, ⟨vs, h1, h2⟩ => ⟨vs, h.trans h1, h2.mono e⟩
  | .dct ks ds, ⟨o, h1, h2⟩ => ⟨o, h.trans h1, h2.mono e⟩
  | .ins c fs, ⟨C, dx, us, h0, h1, h2⟩ => ⟨C, dx, us, h0, h.trans h1, h2.mono e⟩
  | .frd ks ds, ⟨⟨ob, o, h1, h2⟩, h3⟩ => ⟨⟨ob, o, e.im _ _ h1, h2.mono e⟩, by rw [h]; exact h3⟩
  | .gone, _ => trivial
theorem ImOk.of {im im' : Hp} (f : im a = none → im' a = none) : ∀ {o : SO}, ImOk im a o → ImOk im' a o
  | .lst _, h => f h
  | .dct _ _, h => f h
  | .ins _ _, h => f h
  | .gone, h => f h
  | .frd _ _, _ => trivial
def SO.lk : SO → Bool
  | .frd _ _ => true
  | _ => false
theorem ImOk.off {im : Hp} : ∀ {o : SO}, o.lk = false → ImOk im a o → im a = none
  | .lst _, _, h => h
  | .dct _ _, _, h => h
  | .ins _ _, _, h => h
  | .gone, _, h => h
theorem ImOk.mk {im : Hp} (h : im a = none) : ∀ {o : SO}, ImOk im a o
  | .lst _ => h
  | .dct _ _ => h
  | .ins _ _ => h
  | .gone => h
  | .frd _ _ => trivial
theorem SoR.there (h : SoR K mg g a H o) (n : o ≠ .gone) : H a ≠ none := by
  cases o with
  | lst ds => obtain ⟨vs, h1, _⟩ := h; rw [h1]; intro z; cases z
  | dct ks ds => obtain ⟨vs, h1, _⟩ := h; rw [h1]; intro z; cases z
  | ins c fs => obtain ⟨_, _, _, _, h1, _⟩ := h; rw [h1]; intro z; cases z
  | frd ks ds => exact h.2
  | gone => exact absurd rfl n
theorem RelE.mono (e : g.le g') (h : RelE K mg g env σ) : RelE K mg g' env σ := ⟨h.1, fun i d q => let ⟨v, h1, h2⟩ := h.2 i d q; ⟨v, h1, h2.mono e⟩⟩
theorem RelE.set {i : Nat} (h : RelE K mg g env σ) (r : Rep K mg g d v) : RelE K mg g (env.set i (some d)) (σ.set i (some v)) := by
  refine ⟨by rw [List.length_set, List.length_set]; exact h.1, fun j d' q => ?_⟩
  by_cases e : i = j
  · subst e
    have hl : i < env.length := by
      have := (List.getElem?_eq_some_iff.mp q).1
      rw [List.length_set] at this
      exact this
    rw [List.getElem?_set_self hl] at q
    cases q
    exact ⟨v, by rw [List.getElem?_set_self (by rw [← h.1]; exact hl)], r⟩
  · rw [List.getElem?_set_ne e] at q
    obtain ⟨w, h1, h2⟩ := h.2 j d' q
    exact ⟨w, by rw [List.getElem?_set_ne e]; exact h1, h2⟩
theorem RelE.clr {i : Nat} (h : RelE K mg g env σ) (x : Option V) : RelE K mg g (env.set i none) (σ.set i x) := by
  refine ⟨by rw [List.length_set, List.length_set]; exact h.1, fun j d' q => ?_⟩
  by_cases e : i = j
  · subst e
    have hl : i < env.length := by
      have := (List.getElem?_eq_some_iff.mp q).1
      rw [List.length_set] at this
      exact this
    rw [List.getElem?_set_self hl] at q
    cases q
  · rw [List.getElem?_set_ne e] at q
    obtain ⟨w, h1, h2⟩ := h.2 j d' q
    exact ⟨w, by rw [List.getElem?_set_ne e]; exact h1, h2⟩
/-! #### changes of the state -/
/-- a tuple or a list that stands for good is new at p -/
theorem Ok.newI (ok : Ok K mg g S H) {p : Addr} {o : HO} (hp : H p = none) : Ok K mg ⟨upd g.im p o, g.mu⟩ S (upd H p o) ∧ Ext g H ⟨upd g.im p o, g.mu⟩ (upd H p o) := by
  have gp : g.im p = none := ok.ex.none hp
  have np : ∀ a, a ∈ g.mu → a ≠ p := fun a h e => ok.there a h (by rw [e]; exact hp)
  have le : g.le ⟨upd g.im p o, g.mu⟩ := ⟨Ex.new gp, fun _ _ h => h⟩
  refine ⟨⟨fun a u e => ?_, ok.len, fun a h => ?_, ok.inj, fun n u a h1 h2 => ?_⟩, le, fun a h1 h2 => ?_, fun a u h1 h2 => ?_, fun a h => .inl h⟩
  · by_cases ha : a = p
    · subst ha
      have e' : upd g.im a o a = some u := e
      rw [upd_same] at e' ⊢
      exact e'
    · have e' : upd g.im p o a = some u := e
      rw [upd_ne ha] at e' ⊢
      exact ok.ex a u e'
  · rw [upd_ne (np a h)]
    exact ok.there a h
  · have ha : a ∈ g.mu := List.mem_of_getElem? h2
    rcases ok.live n u a h1 h2 with z | ⟨z1, z2⟩
    · exact .inl z
    · refine .inr ⟨z1.of fun z => ?_, z2.mono le (upd_ne (np a ha))⟩
      show upd g.im p o a = none
      rw [upd_ne (np a ha)]
      exact z
  · by_cases ha : a = p
    · exact .inl (by rw [ha]; exact hp)
    · exact absurd (show g.im a = none from h1) (by
        have h2' : upd g.im p o a ≠ none := h2
        rw [upd_ne ha] at h2'
        exact h2')
  · rw [upd_ne (ne_of_none h1 hp)]
    exact h1
/-- a thing of the store is new at p -/
theorem Ok.newM (ok : Ok K mg g S H) {p : Addr} {o : HO} {so : SO} (hp : H p = none) (hn : so ≠ .gone) (hr : ∀ g', g.le g' → SoR K mg g' p (upd H p o) so) :
    Ok K mg ⟨g.im, g.mu ++ [p]⟩ (S ++ [so]) (upd H p o) ∧ Ext g H ⟨g.im, g.mu ++ [p]⟩ (upd H p o) := by
  have gp : g.im p = none := ok.ex.none hp
  have np : ∀ a, a ∈ g.mu → a ≠ p := fun a h e => ok.there a h (by rw [e]; exact hp)
  have le : g.le ⟨g.im, g.mu ++ [p]⟩ := ⟨Ex.refl _, fun n a h => by
    show (g.mu ++ [p])[n]? = some a
    rw [List.getElem?_append_left (List.getElem?_eq_some_iff.mp h).1]
    exact h⟩
  refine ⟨⟨fun a u e => ?_, by simp [ok.len], fun a h => ?_, ?_, fun n u a h1 h2 => ?_⟩, le, fun a h1 h2 => absurd h1 h2, fun a u h1 h2 => ?_, fun a h => ?_⟩
  · have e' : g.im a = some u := e
    rw [upd_ne (ne_of_none e' gp)]
    exact ok.ex a u e'
  · have h' : a ∈ g.mu ++ [p] := h
    by_cases ha : a = p
    · subst ha
      rw [upd_same]
      intro z
      cases z
    · rw [upd_ne ha]
      rcases List.mem_append.mp h' with h' | h'
      · exact ok.there a h'
      · exact absurd (List.mem_singleton.mp h') ha
  · show (g.mu ++ [p]).Nodup
    rw [List.nodup_append]
    refine ⟨ok.inj, by simp, fun a ha b hb => ?_⟩
    rw [List.mem_singleton.mp hb]
    exact np a ha
  · by_cases hl : n < S.length
    · rw [List.getElem?_append_left hl] at h1
      have h2' : (g.mu ++ [p])[n]? = some a := h2
      rw [List.getElem?_append_left (by rw [ok.len]; exact hl)] at h2'
      have ha : a ∈ g.mu := List.mem_of_getElem? h2'
      rcases ok.live n u a h1 h2' with z | ⟨z1, z2⟩
      · exact .inl z
      · exact .inr ⟨z1, z2.mono le (upd_ne (np a ha))⟩
    · have hl' : S.length ≤ n := Nat.le_of_not_lt hl
      rw [List.getElem?_append_right hl'] at h1
      have h2' : (g.mu ++ [p])[n]? = some a := h2
      rw [List.getElem?_append_right (by rw [ok.len]; exact hl')] at h2'
      have e0 : n - S.length = 0 := by
        have := (List.getElem?_eq_some_iff.mp h1).1
        simp at this
        omega
      rw [e0] at h1
      rw [ok.len, e0] at h2'
      cases h1
      cases h2'
      exact .inr ⟨.mk gp, hr _ le⟩
  · rw [upd_ne (ne_of_none h1 hp)]
    exact h1
  · have h' : a ∈ g.mu ++ [p] := h
    rcases List.mem_append.mp h' with h' | h'
    · exact .inl h'
    · exact .inr (by rw [List.mem_singleton.mp h']; exact hp)
/-- a thing of the store is changed -/
theorem Ok.put (ok : Ok K mg g S H) {n : Nat} {o : HO} {so so' : SO} (h1 : S[n]? = some so) (h2 : g.mu[n]? = some a) (hn : so ≠ .gone) (hr : SoR K mg g a (upd H a o) so') (hk : so.lk = false := by rfl) :
    Ok K mg g (S.set n so') (upd H a o) ∧ Ext g H g (upd H a o) := by
  have ha : a ∈ g.mu := List.mem_of_getElem? h2
  have ga : g.im a = none := by
    rcases ok.live n so a h1 h2 with z | z
    · exact absurd z hn
    · exact z.1.off hk
  refine ⟨⟨fun b u e => ?_, by rw [List.length_set]; exact ok.len, fun b h => ?_, ok.inj, fun m u b q1 q2 => ?_⟩, .refl _, fun b q1 q2 => absurd q1 q2, fun b u q1 q2 => ?_, fun b h => .inl h⟩
  · rw [upd_ne (ne_of_none e ga)]
    exact ok.ex b u e
  · by_cases e : b = a
    · rw [e, upd_same]
      intro z
      cases z
    · rw [upd_ne e]
      exact ok.there b h
  · by_cases e : m = n
    · subst e
      rw [h2] at q2
      cases q2
      have hl : m < S.length := (List.getElem?_eq_some_iff.mp h1).1
      rw [List.getElem?_set_self hl] at q1
      cases q1
      exact .inr ⟨.mk ga, hr⟩
    · rw [List.getElem?_set_ne (fun z => e z.symm)] at q1
      have hb : b ≠ a := fun z => by
        subst z
        exact e (nd_ix ok.inj q2 h2)
      rcases ok.live m u b q1 q2 with z | ⟨z1, z2⟩
      · exact .inl z
      · exact .inr ⟨z1, z2.mono (.refl _) (upd_ne hb)⟩
  · rw [upd_ne (fun e => q2 (by rw [e]; exact ha))]
    exact q1
/-- a list of the store stands for good from now on -/
theorem Ok.freeze (ok : Ok K mg g S H) {n : Nat} {ds : List D} {vs : List V} (h1 : S[n]? = some (.lst ds)) (h2 : g.mu[n]? = some a) (h3 : H a = some (.lst vs)) :
    Ok K mg ⟨upd g.im a (.lst vs), g.mu⟩ (S.set n .gone) H ∧ Ext g H ⟨upd g.im a (.lst vs), g.mu⟩ H := by
  have ha : a ∈ g.mu := List.mem_of_getElem? h2
  have ga : g.im a = none := by
    rcases ok.live n _ a h1 h2 with z | z
    · cases z
    · exact z.1
  have le : g.le ⟨upd g.im a (.lst vs), g.mu⟩ := ⟨Ex.new ga, fun _ _ h => h⟩
  refine ⟨⟨fun b u e => ?_, by rw [List.length_set]; exact ok.len, ok.there, ok.inj, fun m u b q1 q2 => ?_⟩, le, fun b q1 q2 => ?_, fun b u q1 q2 => q1, fun b h => .inl h⟩
  · have e' : upd g.im a (.lst vs) b = some u := e
    by_cases hb : b = a
    · subst hb
      rw [upd_same] at e'
      cases e'
      exact h3
    · rw [upd_ne hb] at e'
      exact ok.ex b u e'
  · by_cases e : m = n
    · subst e
      have hl : m < S.length := (List.getElem?_eq_some_iff.mp h1).1
      rw [List.getElem?_set_self hl] at q1
      cases q1
      exact .inl rfl
    · rw [List.getElem?_set_ne (fun z => e z.symm)] at q1
      have hb : b ≠ a := fun z => by
        subst z
        exact e (nd_ix ok.inj q2 h2)
      rcases ok.live m u b q1 q2 with z | ⟨z1, z2⟩
      · exact .inl z
      · refine .inr ⟨z1.of fun z => ?_, z2.mono le rfl⟩
        show upd g.im a (.lst vs) b = none
        rw [upd_ne hb]
        exact z
  · by_cases hb : b = a
    · exact .inr (by rw [hb]; exact ha)
    · have q2' : upd g.im a (.lst vs) b ≠ none := q2
      rw [upd_ne hb] at q2'
      exact absurd q1 q2'
end
end Dn

set_option Elab.async false
set_option linter.all false
set_option maxRecDepth 100000
set_option maxHeartbeats 2000000
/-! Dn1: what an expression denotes -/
namespace L2
open PySem PySem.Spec PyProof.Rows
/-! ### weaker readings -/
section
variable {X : Cx}
theorem PE.imp {e : Expr} {t t' : TE} (h : PE X e t) (i : ∀ σ H Q, t' σ H Q → t σ H Q) : PE X e t' := ⟨fun pins s σ H Q I q => h.run pins s σ H Q I (i σ H Q q)⟩
theorem PT.imp {e : Expr} {t t' : TT} (h : PT X e t) (i : ∀ σ H Q, t' σ H Q → t σ H Q) : PT X e t' := ⟨fun pins s σ H Q I q => h.run pins s σ H Q I (i σ H Q q)⟩
theorem PW.imp {e : Expr} {t t' : TT} (h : PW X e t) (i : ∀ σ H Q, t' σ H Q → t σ H Q) : PW X e t' := ⟨fun wh pins s σ H Q I q => h.run wh pins s σ H Q I (i σ H Q q)⟩
theorem PA.imp {e : List Expr} {t t' : TA} (h : PA X e t) (i : ∀ σ H Q, t' σ H Q → t σ H Q) : PA X e t' := ⟨fun pos pins s σ H Q I q => h.run pos pins s σ H Q I (i σ H Q q)⟩
theorem PS.imp {e : Stmt} {t t' : TS} (h : PS X e t) (i : ∀ D σ H, t' D σ H → t D σ H) : PS X e t' := ⟨fun pins s σ H D I q => h.run pins s σ H D I (i D σ H q)⟩
theorem PSs.imp {e : List Stmt} {t t' : TS} (h : PSs X e t) (i : ∀ D σ H, t' D σ H → t D σ H) : PSs X e t' := ⟨fun pins s σ H D I q => h.run pins s σ H D I (i D σ H q)⟩
end

end L2
namespace Dn
open PySem PySem.Spec PyProof.Rows L2

section
variable (K : PySem.W.Frag) (mg : Bk)
/-- an exception as the layer has it -/
def XcR (g : Gh) (x : Xc) (cls : Value) (dd : Option Addr) : Prop :=
  ∃ C, mg.mg x.cls = some (.ref C) ∧ cls = .ref C ∧ ((dd = none ∧ x.fs = []) ∨ ∃ d, dd = some d ∧ x.fs ≠ [] ∧ g.im d = some (.xd x.fs))
variable {α β : Type}
def Post (W : WX) (R : Gh → α → β → Prop) (σ : L2.St) (g : Gh) (H : Hp) (r : RE α) (Q : β → Hp → Prop) : Prop := match r with
  | .fail => False
  | .ok a S' => ∀ b g' H', Ext g H g' H' → Ok K mg g' S' H' → R g' a b → Q b H'
  | .exc x S' => ∀ cls dd g' H', Ext g H g' H' → Ok K mg g' S' H' → XcR mg g' x cls dd → W cls dd σ H'
def U (W : WX) (R : Gh → α → β → Prop) (de : DE α) : L2.St → Hp → (β → Hp → Prop) → Prop := fun σ H Q => ∃ env S g, At K mg env S g σ H ∧ Post K mg W R σ g H (de env S) Q
abbrev RT : Gh → Bool → Bool → Prop := fun _ a b => a = b
abbrev UE (W : WX) (de : DE D) : TE := U K mg W (Rep K mg) de
abbrev UT (W : WX) (de : DE Bool) : TT := U K mg W RT de
abbrev UA (W : WX) (de : DE (List D)) : TA := U K mg W (Reps K mg) de
end
section
variable {K : PySem.W.Frag} {mg : Bk} {W : WX} {σ : L2.St} {g g1 g' : Gh} {H H1 H' : Hp} {env : Env} {S S' : Sto}
theorem Post.ext {α β : Type} {R : Gh → α → β → Prop} {r : RE α} {Q : β → Hp → Prop} (h : Post K mg W R σ g H r Q) (e : Ext g H g1 H1) : Post K mg W R σ g1 H1 r Q := by
  cases r with
  | fail => exact h
  | ok a S' => exact fun b g' H' e' => h b g' H' (e.trans e')
  | exc x S' => exact fun cls dd g' H' e' => h cls dd g' H' (e.trans e')
theorem Post.now {α β : Type} {R : Gh → α → β → Prop} {a : α} {b : β} {Q : β → Hp → Prop} (h : Post K mg W R σ g H (.ok a S) Q) (o : Ok K mg g S H) (r : R g a b) : Q b H := h b g H (.refl _ _) o r
theorem Post.go {α β : Type} {R : Gh → α → β → Prop} {a : α} {b : β} {Q : β → Hp → Prop} (h : Post K mg W R σ g H (.ok a S) Q) (e : Ext g H g' H') (o : Ok K mg g' S H') (r : R g' a b) : Q b H' := h b g' H' e o r
theorem Post.imp {α β : Type} {R : Gh → α → β → Prop} {r : RE α} {Q Q' : β → Hp → Prop} (h : Post K mg W R σ g H r Q) (i : ∀ b H', Q b H' → Q' b H') : Post K mg W R σ g H r Q' := by
  cases r with
  | fail => exact h
  | ok a S' => exact fun b g' H' e' o r => i _ _ (h b g' H' e' o r)
  | exc x S' => exact h
/-- one thing is reckoned, then the rest -/
theorem U.seq {α β γ δ : Type} {R : Gh → α → β → Prop} {R' : Gh → γ → δ → Prop} {de : DE α} {k : α → Sto → RE γ} {Q : δ → Hp → Prop} (h : At K mg env S g σ H) (hp : Post K mg W R' σ g H ((de env S).bind k) Q) :
    U K mg W R de σ H (fun v H1 => ∃ g1 S1 a, Ext g H g1 H1 ∧ At K mg env S1 g1 σ H1 ∧ R g1 a v ∧ Post K mg W R' σ g1 H1 (k a S1) Q) := by
  refine ⟨env, S, g, h, ?_⟩
  cases e : de env S with
  | fail =>
    rw [e] at hp
    exact hp
  | ok a S1 =>
    rw [e] at hp
    exact fun b g1 H1 x o r => ⟨g1, S1, a, x, ⟨h.e.mono x.le, o⟩, r, Post.ext hp x⟩
  | exc x S1 =>
    rw [e] at hp
    exact hp
theorem At.ext (h : At K mg env S g σ H) (e : Ext g H g' H') (o : Ok K mg g' S' H') : At K mg env S' g' σ H' := ⟨h.e.mono e.le, o⟩
end

/-! ### denotations of expressions -/
def dVar (i : Nat) : DE D := fun env S => match env[i]? with
  | some (some d) => .ok d S
  | _ => .fail
def dC (d : D) : DE D := fun _ S => .ok d S
def dOp (f : D → D → Sto → RE D) (a b : DE D) : DE D := fun env S => (a env S).bind fun x S1 => (b env S1).bind fun y S2 => f x y S2
def dUn (f : D → Sto → RE D) (a : DE D) : DE D := fun env S => (a env S).bind fun x S1 => f x S1
def dUnB (f : D → Sto → RE Bool) (a : DE D) : DE Bool := fun env S => (a env S).bind fun x S1 => f x S1
/-- a value that is a truth, as a test -/
def asB : D → Sto → RE Bool := fun d S => match d with
  | .bl b => .ok b S
  | _ => .fail
def dT (a : DE D) : DE Bool := dUnB asB a
def dAnd (a b : DE Bool) : DE Bool := fun env S => (a env S).bind fun x S1 => if x = true then b env S1 else .ok false S1
def dOr (a b : DE Bool) : DE Bool := fun env S => (a env S).bind fun x S1 => if x = true then .ok true S1 else b env S1
def dNot (a : DE Bool) : DE Bool := fun env S => (a env S).bind fun x S1 => .ok (!x) S1
/-- a test as a value -/
def dB (a : DE Bool) : DE D := fun env S => (a env S).bind fun x S1 => .ok (.bl x) S1
def dIf (c : DE Bool) (a b : DE D) : DE D := fun env S => (c env S).bind fun x S1 => if x = true then a env S1 else b env S1
def dNil : DE (List D) := fun _ S => .ok [] S
def dCons (a : DE D) (r : DE (List D)) : DE (List D) := fun env S => (a env S).bind fun x S1 => (r env S1).bind fun xs S2 => .ok (x :: xs) S2
def dArg {α : Type} (f : List D → Sto → RE α) (a : DE (List D)) : DE α := fun env S => (a env S).bind fun xs S1 => f xs S1
def LIM : Nat := 16777216
theorem lim_eq : LIM = sizeLine := by rw [sizeLine_eq]; rfl
def mkTup (xs : List D) (S : Sto) : RE D := if xs.length ≤ LIM then .ok (.tup xs) S else .fail
/-- a list that nobody changes -/
def mkLst (xs : List D) (S : Sto) : RE D := if xs.length ≤ LIM then .ok (.lst xs) S else .fail
/-- a list of the store -/
def mkLstM (xs : List D) (S : Sto) : RE D := if xs.length ≤ LIM then .ok (.ref S.length) (S ++ [.lst xs]) else .fail

section
variable {K : PySem.W.Frag} {mg : Bk} {W : WX}
/-- how a denotation of an operation stands to the layer's reading of it -/
def OpS (K : PySem.W.Frag) (mg : Bk) (r : R2) (f : D → D → Sto → RE D) : Prop :=
  ∀ {W : WX} {σ : L2.St} {g : Gh} {S : Sto} {H : Hp} {x y : D} {v u : V} {Q : VK}, Ok K mg g S H → Rep K mg g x v → Rep K mg g y u → Post K mg W (Rep K mg) σ g H (f x y S) Q → r v u H Q
def UnS (K : PySem.W.Frag) (mg : Bk) (r : V → Hp → VK → Prop) (f : D → Sto → RE D) : Prop :=
  ∀ {W : WX} {σ : L2.St} {g : Gh} {S : Sto} {H : Hp} {x : D} {v : V} {Q : VK}, Ok K mg g S H → Rep K mg g x v → Post K mg W (Rep K mg) σ g H (f x S) Q → r v H Q
def CaS (K : PySem.W.Frag) (mg : Bk) (r : List V → Hp → VK → Prop) (f : List D → Sto → RE D) : Prop :=
  ∀ {W : WX} {σ : L2.St} {g : Gh} {S : Sto} {H : Hp} {xs : List D} {vs : List V} {Q : VK}, Ok K mg g S H → Reps K mg g xs vs → Post K mg W (Rep K mg) σ g H (f xs S) Q → r vs H Q
def MtS (K : PySem.W.Frag) (mg : Bk) (T : String) (r : V → List V → Hp → VK → Prop) (f : D → List D → Sto → RE D) : Prop :=
  ∀ {W : WX} {σ : L2.St} {g : Gh} {S : Sto} {H : Hp} {x : D} {xs : List D} {v : V} {vs : List V} {Q : VK}, Ok K mg g S H → Rep K mg g x v → Reps K mg g xs vs → Post K mg W (Rep K mg) σ g H (f x xs S) Q → r v vs H Q
end

section
variable {X : Cx} {W : WX} {a b e : Expr} {es : List Expr} {pos : Pos} {da db : DE D} {ta tb : DE Bool} {dl : DE (List D)} {mg : Bk} {K : PySem.W.Frag}
theorem u_var (i : Nat) {x : Str} {pos : Pos} (hN : X.N[i]? = some x := by rfl) (hv : Vis X.env.scope x := by first | exact Or.inl rfl | exact Or.inr (Or.inl rfl) | exact Or.inr (Or.inr rfl)) (hd : (x == ("__debug__" : Str)) = false := by decide)
    (hcd : (x == ("__classdict__" : Str)) = false := by decide) : PE X (.Name x pos) (UE K mg W (dVar i)) :=
  (pe_var hN hv hd hcd).imp fun σ H Q ⟨env, S, g, h, p⟩ => by
    unfold dVar at p
    split at p
    · rename_i d q
      obtain ⟨v, h1, h2⟩ := h.e.2 i d q
      exact ⟨v, h1, p.now h.ok h2⟩
    · exact p.elim
theorem u_int {i j pos} : PE X (.Constant (.int i) j pos) (UE K mg W (dC (.int i))) := pe_int.imp fun σ H Q ⟨env, S, g, h, p⟩ => Post.now p h.ok (.int i)
theorem u_bl {b j pos} : PE X (.Constant (.bool b) j pos) (UE K mg W (dC (.bl b))) := pe_bl.imp fun σ H Q ⟨env, S, g, h, p⟩ => Post.now p h.ok (.bl b)
theorem u_non {j pos} : PE X (.Constant .none j pos) (UE K mg W (dC .non)) := pe_non.imp fun σ H Q ⟨env, S, g, h, p⟩ => Post.now p h.ok .non
theorem u_str {x j pos} : PE X (.Constant (.str x) j pos) (UE K mg W (dC (.str x))) := pe_str.imp fun σ H Q ⟨env, S, g, h, p⟩ => Post.now p h.ok (.str x)
/-- a module's constant -/
theorem u_glob {x : Str} {d : D} {v : V} {u : Value} {pos : Pos} (hg : Gl X x) (hm : X.mg x = some u) (r : RelV v u) (hr : ∀ g, Rep K mg g d v) (hd : (x == ("__debug__" : Str)) = false := by decide) : PE X (.Name x pos) (UE K mg W (dC d)) :=
  (pe_glob hg hm r hd).imp fun σ H Q ⟨env, S, g, h, p⟩ => Post.now p h.ok (hr g)
theorem u_op {op : Operator} {r : R2} {f : D → D → Sto → RE D} (ho : OpR X (binaryOp op) r) (hs : OpS K mg r f) (ha : PE X a (UE K mg W da)) (hb : PE X b (UE K mg W db)) : PE X (.BinOp a op b pos) (UE K mg W (dOp f da db)) :=
  (pe_op ho ha hb).imp fun σ H Q ⟨env, S, g, h, p⟩ => by
    obtain ⟨env1, S1, g1, h1, p1⟩ := U.seq h p
    refine ⟨env1, S1, g1, h1, p1.imp fun v H1 ⟨g2, S2, x, e2, h2, r2, p2⟩ => ?_⟩
    obtain ⟨env3, S3, g3, h3, p3⟩ := U.seq h2 p2
    refine ⟨env3, S3, g3, h3, p3.imp fun u H2 ⟨g4, S4, y, e4, h4, r4, p4⟩ => ?_⟩
    exact hs h4.ok (r2.mono e4.le) r4 p4
theorem u_un {op : UnaryOp} {r : V → Hp → VK → Prop} {f : D → Sto → RE D} (ho : UnR X (unaryOp op) r) (hs : UnS K mg r f) (ha : PE X a (UE K mg W da)) : PE X (.UnaryOp op a pos) (UE K mg W (dUn f da)) :=
  (pe_un ho ha).imp fun σ H Q ⟨env, S, g, h, p⟩ => by
    obtain ⟨env1, S1, g1, h1, p1⟩ := U.seq h p
    exact ⟨env1, S1, g1, h1, p1.imp fun v H1 ⟨g2, S2, x, e2, h2, r2, p2⟩ => hs h2.ok r2 p2⟩
theorem u_cmp {op : CmpOp} {r : R2} {f : D → D → Sto → RE D} (ho : OpR X (compareOp op) r) (hs : OpS K mg r f) (ha : PE X a (UE K mg W da)) (hb : PE X b (UE K mg W db)) (hm : behindInMarks op b = false) : PE X (.Compare a [op] [b] pos) (UE K mg W (dOp f da db)) :=
  (pe_cmpR ho ha hb hm).imp fun σ H Q ⟨env, S, g, h, p⟩ => by
    obtain ⟨env1, S1, g1, h1, p1⟩ := U.seq h p
    refine ⟨env1, S1, g1, h1, p1.imp fun v H1 ⟨g2, S2, x, e2, h2, r2, p2⟩ => ?_⟩
    obtain ⟨env3, S3, g3, h3, p3⟩ := U.seq h2 p2
    refine ⟨env3, S3, g3, h3, p3.imp fun u H2 ⟨g4, S4, y, e4, h4, r4, p4⟩ => ?_⟩
    exact hs h4.ok (r2.mono e4.le) r4 p4
/-- a comparison as a test: its value must be a truth -/
theorem u_cmpT {op : CmpOp} {r : R2} {f : D → D → Sto → RE D} (ho : OpR X (compareOp op) r) (hs : OpS K mg r f) (ha : PE X a (UE K mg W da)) (hb : PE X b (UE K mg W db)) (hm : behindInMarks op b = false) : PT X (.Compare a [op] [b] pos) (UT K mg W (dT (dOp f da db))) :=
  (pt_cmpR ho ha hb hm).imp fun σ H Q ⟨env, S, g, h, p⟩ => by
    have hq : UE K mg W (dOp f da db) σ H (fun v H1 => ∃ g1 S1 d, Ext g H g1 H1 ∧ At K mg env S1 g1 σ H1 ∧ Rep K mg g1 d v ∧ Post K mg W RT σ g1 H1 (asB d S1) Q) := U.seq h p
    have z : tOp r (UE K mg W da) (UE K mg W db) σ H (fun v H1 => ∃ g1 S1 d, Ext g H g1 H1 ∧ At K mg env S1 g1 σ H1 ∧ Rep K mg g1 d v ∧ Post K mg W RT σ g1 H1 (asB d S1) Q) := by
      obtain ⟨env0, S0, g0, h0, p0⟩ := hq
      obtain ⟨env1, S1, g1, h1, p1⟩ := U.seq h0 p0
      refine ⟨env1, S1, g1, h1, p1.imp fun v H1 ⟨g2, S2, x, e2, h2, r2, p2⟩ => ?_⟩
      obtain ⟨env3, S3, g3, h3, p3⟩ := U.seq h2 p2
      refine ⟨env3, S3, g3, h3, p3.imp fun u H2 ⟨g4, S4, y, e4, h4, r4, p4⟩ => ?_⟩
      exact hs h4.ok (r2.mono e4.le) r4 p4
    have fin : ∀ (v : V) (H1 : Hp), (∃ g1 S1 d, Ext g H g1 H1 ∧ At K mg env S1 g1 σ H1 ∧ Rep K mg g1 d v ∧ Post K mg W RT σ g1 H1 (asB d S1) Q) → ∃ k, v = .bl k ∧ Q k H1 := fun v H1 ⟨g1, S1, d, e1, h1, r1, p1⟩ => by
      cases r1 with
      | bl k => exact ⟨k, rfl, p1.now h1.ok rfl⟩
      | _ => exact p1.elim
    show tOp r (UE K mg W da) (UE K mg W db) σ H (fun x H' => ∃ k, x = .bl k ∧ Q k H')
    obtain ⟨env1, S1, g1, h1, p1⟩ := hq
    obtain ⟨env2, S2, g2, h2, p2⟩ := U.seq h1 p1
    refine ⟨env2, S2, g2, h2, p2.imp fun v H1 ⟨g3, S3, x, e3, h3, r3, p3⟩ => ?_⟩
    obtain ⟨env4, S4, g4, h4, p4⟩ := U.seq h3 p3
    refine ⟨env4, S4, g4, h4, p4.imp fun u H2 ⟨g5, S5, y, e5, h5, r5, p5⟩ => ?_⟩
    exact hs h5.ok (r3.mono e5.le) r5 (p5.imp fin)
/-- an expression whose value is a truth, as a test -/
theorem u_val (h : PE X e (UE K mg W da)) (he : ∀ whole, isTrue e X.env whole = (do let v ← whole; standAt e.pos; holding [v] (truthy v)) := by intro _; rfl) : PT X e (UT K mg W (dT da)) :=
  (pt_val h he).imp fun σ H Q ⟨env, S, g, h, p⟩ => by
    obtain ⟨env1, S1, g1, h1, p1⟩ := U.seq h p
    refine ⟨env1, S1, g1, h1, p1.imp fun v H1 ⟨g2, S2, x, e2, h2, r2, p2⟩ => ?_⟩
    cases r2 with
    | bl k => exact ⟨k, rfl, p2.now h2.ok rfl⟩
    | _ => exact p2.elim
variable {rest : List Expr}
theorem u_and1 (ha : PT X a (UT K mg W ta)) : PW X (.BoolOp .And [a] pos) (UT K mg W ta) := pw_and1 ha
theorem u_or1 (ha : PT X a (UT K mg W ta)) : PW X (.BoolOp .Or [a] pos) (UT K mg W ta) := pw_or1 ha
theorem u_and (ha : PT X a (UT K mg W ta)) (hb : PW X (.BoolOp .And (b :: rest) pos) (UT K mg W tb)) : PW X (.BoolOp .And (a :: b :: rest) pos) (UT K mg W (dAnd ta tb)) :=
  (pw_and ha hb).imp fun σ H Q ⟨env, S, g, h, p⟩ => by
    obtain ⟨env1, S1, g1, h1, p1⟩ := U.seq h p
    refine ⟨env1, S1, g1, h1, p1.imp fun v H1 ⟨g2, S2, x, e2, h2, r2, p2⟩ => ?_⟩
    cases r2
    cases v with
    | true => exact ⟨env, S2, g2, h2, p2⟩
    | false => exact p2.now h2.ok rfl
theorem u_or (ha : PT X a (UT K mg W ta)) (hb : PW X (.BoolOp .Or (b :: rest) pos) (UT K mg W tb)) : PW X (.BoolOp .Or (a :: b :: rest) pos) (UT K mg W (dOr ta tb)) :=
  (pw_or ha hb).imp fun σ H Q ⟨env, S, g, h, p⟩ => by
    obtain ⟨env1, S1, g1, h1, p1⟩ := U.seq h p
    refine ⟨env1, S1, g1, h1, p1.imp fun v H1 ⟨g2, S2, x, e2, h2, r2, p2⟩ => ?_⟩
    cases r2
    cases v with
    | true => exact p2.now h2.ok rfl
    | false => exact ⟨env, S2, g2, h2, p2⟩
theorem u_not (ha : PT X a (UT K mg W ta)) : PT X (.UnaryOp .Not a pos) (UT K mg W (dNot ta)) :=
  (pt_not ha).imp fun σ H Q ⟨env, S, g, h, p⟩ => by
    obtain ⟨env1, S1, g1, h1, p1⟩ := U.seq h p
    refine ⟨env1, S1, g1, h1, p1.imp fun v H1 ⟨g2, S2, x, e2, h2, r2, p2⟩ => ?_⟩
    cases r2
    exact p2.now h2.ok rfl
/-! and, or, not as values (of truths) -/
def dAndV (a b : DE D) : DE D := fun env S => (a env S).bind fun x S1 => match x with
  | .bl true => b env S1
  | .bl false => .ok (.bl false) S1
  | _ => .fail
def dOrV (a b : DE D) : DE D := fun env S => (a env S).bind fun x S1 => match x with
  | .bl false => b env S1
  | .bl true => .ok (.bl true) S1
  | _ => .fail
def dNotV (a : DE D) : DE D := fun env S => (a env S).bind fun x S1 => match x with
  | .bl c => .ok (.bl (!c)) S1
  | _ => .fail
theorem u_one {op} (h : PE X a (UE K mg W da)) : PE X (.BoolOp op [a] pos) (UE K mg W da) := pe_one h
theorem u_andV (ha : PE X a (UE K mg W da)) (hb : PE X (.BoolOp .And (b :: rest) pos) (UE K mg W db)) : PE X (.BoolOp .And (a :: b :: rest) pos) (UE K mg W (dAndV da db)) :=
  (pe_and ha hb).imp fun σ H Q ⟨env, S, g, h, p⟩ => by
    obtain ⟨env1, S1, g1, h1, p1⟩ := U.seq h p
    refine ⟨env1, S1, g1, h1, p1.imp fun v H1 ⟨g2, S2, x, e2, h2, r2, p2⟩ => ?_⟩
    cases r2 with
    | bl k => cases k with
      | true => exact ⟨true, rfl, env, S2, g2, h2, p2⟩
      | false => exact ⟨false, rfl, p2.now h2.ok (.bl false)⟩
    | _ => exact p2.elim
theorem u_orV (ha : PE X a (UE K mg W da)) (hb : PE X (.BoolOp .Or (b :: rest) pos) (UE K mg W db)) : PE X (.BoolOp .Or (a :: b :: rest) pos) (UE K mg W (dOrV da db)) :=
  (pe_or ha hb).imp fun σ H Q ⟨env, S, g, h, p⟩ => by
    obtain ⟨env1, S1, g1, h1, p1⟩ := U.seq h p
    refine ⟨env1, S1, g1, h1, p1.imp fun v H1 ⟨g2, S2, x, e2, h2, r2, p2⟩ => ?_⟩
    cases r2 with
    | bl k => cases k with
      | false => exact ⟨false, rfl, env, S2, g2, h2, p2⟩
      | true => exact ⟨true, rfl, p2.now h2.ok (.bl true)⟩
    | _ => exact p2.elim
theorem u_notV (ha : PE X a (UE K mg W da)) : PE X (.UnaryOp .Not a pos) (UE K mg W (dNotV da)) :=
  (pe_not ha).imp fun σ H Q ⟨env, S, g, h, p⟩ => by
    obtain ⟨env1, S1, g1, h1, p1⟩ := U.seq h p
    refine ⟨env1, S1, g1, h1, p1.imp fun v H1 ⟨g2, S2, x, e2, h2, r2, p2⟩ => ?_⟩
    cases r2 with
    | bl k => exact ⟨k, rfl, p2.now h2.ok (.bl _)⟩
    | _ => exact p2.elim
theorem u_ifExp {c : Expr} {tc : DE Bool} (hc : PT X c (UT K mg W tc)) (ha : PE X a (UE K mg W da)) (hb : PE X b (UE K mg W db)) : PE X (.IfExp c a b pos) (UE K mg W (dIf tc da db)) :=
  (pe_ifExp hc ha hb).imp fun σ H Q ⟨env, S, g, h, p⟩ => by
    obtain ⟨env1, S1, g1, h1, p1⟩ := U.seq h p
    refine ⟨env1, S1, g1, h1, p1.imp fun v H1 ⟨g2, S2, x, e2, h2, r2, p2⟩ => ?_⟩
    cases r2
    cases v with
    | true => exact ⟨env, S2, g2, h2, p2⟩
    | false => exact ⟨env, S2, g2, h2, p2⟩
/-! arguments, displays -/
theorem u_nil : PA X [] (UA K mg W dNil) := pa_nil.imp fun σ H Q ⟨env, S, g, h, p⟩ => Post.now p h.ok .nil
theorem u_cons (ha : PE X e (UE K mg W da)) (hr : PA X es (UA K mg W dl)) (hs : starEach (e :: es) X.env = (false, eval e X.env) :: starEach es X.env := by rfl) : PA X (e :: es) (UA K mg W (dCons da dl)) :=
  (pa_cons ha hr hs).imp fun σ H Q ⟨env, S, g, h, p⟩ => by
    obtain ⟨env1, S1, g1, h1, p1⟩ := U.seq h p
    refine ⟨env1, S1, g1, h1, p1.imp fun v H1 ⟨g2, S2, x, e2, h2, r2, p2⟩ => ?_⟩
    obtain ⟨env3, S3, g3, h3, p3⟩ := U.seq h2 p2
    refine ⟨env3, S3, g3, h3, p3.imp fun u H2 ⟨g4, S4, y, e4, h4, r4, p4⟩ => ?_⟩
    exact p4.now h4.ok (.cons (r2.mono e4.le) r4)
theorem u_tup {x1} (h : PA X es (UA K mg W dl)) : PE X (.Tuple es x1 pos) (UE K mg W (dArg mkTup dl)) :=
  (pe_tup h).imp fun σ H Q ⟨env, S, g, h, p⟩ => by
    obtain ⟨env1, S1, g1, h1, p1⟩ := U.seq h p
    refine ⟨env1, S1, g1, h1, p1.imp fun vs H1 ⟨g2, S2, xs, e2, h2, r2, p2⟩ => ?_⟩
    unfold mkTup at p2
    split at p2
    · rename_i hl
      refine ⟨by rw [← r2.length, ← lim_eq]; exact hl, fun q hq => ?_⟩
      obtain ⟨o, e⟩ := h2.ok.newI (o := .tup vs) hq
      exact p2.go e o (.tup (SqT.of upd_same) (r2.mono e.le))
    · exact p2.elim
theorem u_lst (h : PA X es (UA K mg W dl)) : PE X (.List es pos) (UE K mg W (dArg mkLst dl)) :=
  (pe_lst h).imp fun σ H Q ⟨env, S, g, h, p⟩ => by
    obtain ⟨env1, S1, g1, h1, p1⟩ := U.seq h p
    refine ⟨env1, S1, g1, h1, p1.imp fun vs H1 ⟨g2, S2, xs, e2, h2, r2, p2⟩ => ?_⟩
    unfold mkLst at p2
    split at p2
    · rename_i hl
      refine ⟨by rw [← r2.length, ← lim_eq]; exact hl, fun q hq => ?_⟩
      obtain ⟨o, e⟩ := h2.ok.newI (o := .lst vs) hq
      exact p2.go e o (.lst upd_same (r2.mono e.le))
    · exact p2.elim
theorem newM_rep {g : Gh} {S : Sto} {H : Hp} {p : Addr} (ok : Ok K mg g S H) : Rep K mg ⟨g.im, g.mu ++ [p]⟩ (.ref S.length) (.ref p) := .ref (by
  show (g.mu ++ [p])[S.length]? = some p
  rw [← ok.len]
  simp)
theorem u_lstM (h : PA X es (UA K mg W dl)) : PE X (.List es pos) (UE K mg W (dArg mkLstM dl)) :=
  (pe_lst h).imp fun σ H Q ⟨env, S, g, h, p⟩ => by
    obtain ⟨env1, S1, g1, h1, p1⟩ := U.seq h p
    refine ⟨env1, S1, g1, h1, p1.imp fun vs H1 ⟨g2, S2, xs, e2, h2, r2, p2⟩ => ?_⟩
    unfold mkLstM at p2
    split at p2
    · rename_i hl
      refine ⟨by rw [← r2.length, ← lim_eq]; exact hl, fun q hq => ?_⟩
      obtain ⟨o, e⟩ := h2.ok.newM (o := .lst vs) (so := .lst xs) hq (by intro z; cases z) (fun g' le => ⟨vs, upd_same, r2.mono le⟩)
      exact p2.go e o (newM_rep h2.ok)
    · exact p2.elim
/-! calls of what is built in -/
theorem u_callB {x : Str} {id : String} {r : List V → Hp → VK → Prop} {f : List D → Sto → RE D} {p pos : Pos} (hc : CallR X (.builtin id) r) (hs : CaS K mg r f) (hg : Gl X x) (hm : X.mg x = none) (hv : bootBuiltins x = some (.builtin id)) (ha : PA X (e :: es) (UA K mg W dl)) (hn : x ≠ "__name__" := by decide) (hdb : (x == ("__debug__" : Str)) = false := by decide)
    (he : starEach (e :: es) X.env = (false, eval e X.env) :: starEach es X.env := by rfl) (hpl : (backTo pos (starEach es X.env)).any (·.1) = false := by rfl) :
    PE X (.Call (.Name x p) (e :: es) [] pos) (UE K mg W (dArg f dl)) :=
  (pe_callB hc hg hm hv ha hn hdb he hpl).imp fun σ H Q ⟨env, S, g, h, p⟩ => by
    obtain ⟨env1, S1, g1, h1, p1⟩ := U.seq h p
    exact ⟨env1, S1, g1, h1, p1.imp fun vs H1 ⟨g2, S2, xs, e2, h2, r2, p2⟩ => hs h2.ok r2 p2⟩
theorem u_callTy {x : Str} {T : String} {r : List V → Hp → VK → Prop} {f : List D → Sto → RE D} {p pos : Pos} (hc : CallR X (.type T) r) (hs : CaS K mg r f) (hg : Gl X x) (hm : X.mg x = none) (hv : bootBuiltins x = some (.type T)) (ha : PA X (e :: es) (UA K mg W dl)) (hn : x ≠ "__name__" := by decide) (hdb : (x == ("__debug__" : Str)) = false := by decide)
    (he : starEach (e :: es) X.env = (false, eval e X.env) :: starEach es X.env := by rfl) (hpl : (backTo pos (starEach es X.env)).any (·.1) = false := by rfl) :
    PE X (.Call (.Name x p) (e :: es) [] pos) (UE K mg W (dArg f dl)) :=
  (pe_callTy hc hg hm hv ha hn hdb he hpl).imp fun σ H Q ⟨env, S, g, h, p⟩ => by
    obtain ⟨env1, S1, g1, h1, p1⟩ := U.seq h p
    exact ⟨env1, S1, g1, h1, p1.imp fun vs H1 ⟨g2, S2, xs, e2, h2, r2, p2⟩ => hs h2.ok r2 p2⟩
end
end Dn

set_option Elab.async false
set_option linter.all false
set_option maxRecDepth 100000
set_option maxHeartbeats 2000000
/-! Dn2: statements, targets, loops, comprehensions -/
namespace Dn
open PySem PySem.Spec PyProof.Rows L2

section
variable (K : PySem.W.Frag) (mg : Bk)
def PostS (W : WX) (g : Gh) (H : Hp) (r : RS) (D : Ends) : Prop := match r with
  | .fail => False
  | .nx env' S' => ∀ σ' g' H', Ext g H g' H' → At K mg env' S' g' σ' H' → D.nx σ' H'
  | .brk env' S' => ∀ σ' g' H', Ext g H g' H' → At K mg env' S' g' σ' H' → D.bk σ' H'
  | .cnt env' S' => ∀ σ' g' H', Ext g H g' H' → At K mg env' S' g' σ' H' → D.ct σ' H'
  | .ret d S' => ∀ v g' H', Ext g H g' H' → Ok K mg g' S' H' → Rep K mg g' d v → D.rt v H'
  | .exc x env' S' => ∀ cls dd σ' g' H', Ext g H g' H' → At K mg env' S' g' σ' H' → XcR mg g' x cls dd → W cls dd σ' H'
def US (W : WX) (ds : DS) : TS := fun D σ H => ∃ env S g, At K mg env S g σ H ∧ PostS K mg W g H (ds env S) D
end
section
variable {K : PySem.W.Frag} {mg : Bk} {W : WX} {σ : L2.St} {g g1 g' : Gh} {H H1 H' : Hp} {env : Env} {S S' : Sto} {D D' : Ends}
theorem PostS.ext {r : RS} (h : PostS K mg W g H r D) (e : Ext g H g1 H1) : PostS K mg W g1 H1 r D := by
  cases r with
  | fail => exact h
  | nx _ _ => exact fun σ' g' H' e' => h σ' g' H' (e.trans e')
  | brk _ _ => exact fun σ' g' H' e' => h σ' g' H' (e.trans e')
  | cnt _ _ => exact fun σ' g' H' e' => h σ' g' H' (e.trans e')
  | ret _ _ => exact fun σ' g' H' e' => h σ' g' H' (e.trans e')
  | exc _ _ _ => exact fun cls dd σ' g' H' e' => h cls dd σ' g' H' (e.trans e')
/-- behind an expression -/
theorem U.seqS {α β : Type} {R : Gh → α → β → Prop} {de : DE α} {k : α → Sto → RS} (h : At K mg env S g σ H) (hp : PostS K mg W g H ((de env S).bindS env k) D) :
    U K mg W R de σ H (fun v H1 => ∃ g1 S1 a, Ext g H g1 H1 ∧ At K mg env S1 g1 σ H1 ∧ R g1 a v ∧ PostS K mg W g1 H1 (k a S1) D) := by
  refine ⟨env, S, g, h, ?_⟩
  cases e : de env S with
  | fail =>
    rw [e] at hp
    exact hp
  | ok a S1 =>
    rw [e] at hp
    exact fun b g1 H1 x o r => ⟨g1, S1, a, x, ⟨h.e.mono x.le, o⟩, r, PostS.ext hp x⟩
  | exc x S1 =>
    rw [e] at hp
    exact fun cls dd g' H' e' o' r' => hp cls dd σ g' H' e' (h.ext e' o') r'
end

/-! ### statements -/
def dNext : DS := fun env S => .nx env S
def dSeq (a b : DS) : DS := fun env S => match a env S with
  | .nx e1 S1 => b e1 S1
  | r => r
def dDrop (e : DE D) : DS := fun env S => (e env S).bindS env fun _ S1 => .nx env S1
def dSet (i : Nat) (e : DE D) : DS := fun env S => (e env S).bindS env fun d S1 => .nx (env.set i (some d)) S1
def dRet (e : DE D) : DS := fun env S => (e env S).bindS env fun d S1 => .ret d S1
def dRetN : DS := fun _ S => .ret .non S
def dIfS (c : DE Bool) (a b : DS) : DS := fun env S => (c env S).bindS env fun x S1 => if x = true then a env S1 else b env S1
def dBrk : DS := fun env S => .brk env S
def dCnt : DS := fun env S => .cnt env S
abbrev DG := D → Env → Sto → RS
def gN (i : Nat) : DG := fun d env S => .nx (env.set i (some d)) S
def unpk (gs : List DG) : List D → Env → Sto → RS := fun ds env S => match gs, ds with
  | [], [] => .nx env S
  | t :: ts, d :: ds => (match t d env S with
    | .nx e1 S1 => unpk ts ds e1 S1
    | r => r)
  | _, _ => .fail
/-- a, b, .. = a tuple or a list of so many -/
def gT (gs : List DG) : DG := fun d env S => match d with
  | .tup ds => if ds.length = gs.length then unpk gs ds env S else .fail
  | .lst ds => if ds.length = gs.length then unpk gs ds env S else .fail
  | _ => .fail
def onlyG (r : RS) : RS := match r with
  | .nx e1 S1 => .nx e1 S1
  | .exc x e1 S1 => .exc x e1 S1
  | _ => .fail
def dAsg (e : DE D) (t : DG) : DS := fun env S => (e env S).bindS env fun d S1 => onlyG (t d env S1)
/-- what a loop walks; what must still stand at each turn -/
abbrev Itn := List D × (Sto → Bool)
abbrev any_ : Sto → Bool := fun _ => true
def forGo (C : Sto → Bool) (t : DG) (body : DS) : List D → Env → Sto → RS
  | [], env, S => if C S = true then .nx env S else .fail
  | d :: ds, env, S => if C S = true then (match t d env S with
    | .nx e1 S1 => (match body e1 S1 with
      | .nx e2 S2 => forGo C t body ds e2 S2
      | .cnt e2 S2 => forGo C t body ds e2 S2
      | .brk e2 S2 => .nx e2 S2
      | r => r)
    | .exc x e1 S1 => .exc x e1 S1
    | _ => .fail) else .fail
def dFor (it : DE Itn) (t : DG) (body : DS) : DS := fun env S => (it env S).bindS env fun ds S1 => forGo ds.2 t body ds.1 env S1
def whileGo (c : DE Bool) (body : DS) : Nat → Env → Sto → RS
  | 0, _, _ => .fail
  | n + 1, env, S => (c env S).bindS env fun b S1 => if b = true then (match body env S1 with
      | .nx e2 S2 => whileGo c body n e2 S2
      | .cnt e2 S2 => whileGo c body n e2 S2
      | .brk e2 S2 => .nx e2 S2
      | r => r) else .nx env S1
def dWhile (n : Nat) (c : DE Bool) (body : DS) : DS := whileGo c body n
/-- a list of the store stands for good from here on -/
def frz (d : D) (S : Sto) : RE D := match d with
  | .ref n => (match S[n]? with
    | some (.lst ds) => .ok (.lst ds) (S.set n .gone)
    | _ => .fail)
  | _ => .fail
def dFrz (e : DE D) : DE D := dUn frz e

section
variable {X : Cx} {W : WX} {a b e : Expr} {es : List Expr} {pos : Pos} {da db : DE D} {tc : DE Bool} {mg : Bk} {K : PySem.W.Frag} {st : Stmt} {rest body els : List Stmt} {d1 d2 : DS}
theorem uss_nil : PSs X [] (US K mg W dNext) := pss_nil.imp fun D σ H ⟨env, S, g, h, p⟩ => p σ g H (.refl _ _) h
theorem seq_post {env : Env} {S : Sto} {g : Gh} {H : Hp} {D : Ends} (p : PostS K mg W g H (dSeq d1 d2 env S) D) : PostS K mg W g H (d1 env S) { D with nx := US K mg W d2 D } := by
  unfold dSeq at p
  cases q : d1 env S with
  | nx e1 S1 =>
    rw [q] at p
    exact fun σ' g' H' e' a' => ⟨e1, S1, g', a', PostS.ext p e'⟩
  | fail => rw [q] at p; exact p
  | brk e1 S1 => rw [q] at p; exact p
  | cnt e1 S1 => rw [q] at p; exact p
  | ret e1 S1 => rw [q] at p; exact p
  | exc x e1 S1 => rw [q] at p; exact p
theorem uss_cons (h1 : PS X st (US K mg W d1)) (h2 : PSs X rest (US K mg W d2)) : PSs X (st :: rest) (US K mg W (dSeq d1 d2)) :=
  (pss_cons h1 h2).imp fun D σ H ⟨env, S, g, h, p⟩ => ⟨env, S, g, h, seq_post p⟩
theorem uss_one (h1 : PS X st (US K mg W d1)) : PSs X [st] (US K mg W d1) := pss_one h1
theorem us_pass : PS X (.Pass pos) (US K mg W dNext) := ps_pass.imp fun D σ H ⟨env, S, g, h, p⟩ => p σ g H (.refl _ _) h
theorem us_break : PS X (.Break pos) (US K mg W dBrk) := ps_break.imp fun D σ H ⟨env, S, g, h, p⟩ => p σ g H (.refl _ _) h
theorem us_cont : PS X (.Continue pos) (US K mg W dCnt) := ps_continue.imp fun D σ H ⟨env, S, g, h, p⟩ => p σ g H (.refl _ _) h
theorem us_drop (he : PE X e (UE K mg W da)) (hs : swapsWith e none pos.line X.env = pure false := by rfl) : PS X (.Expr e pos) (US K mg W (dDrop da)) :=
  (ps_expr he hs).imp fun D σ H ⟨env, S, g, h, p⟩ => by
    obtain ⟨env1, S1, g1, h1, p1⟩ := U.seqS h p
    exact ⟨env1, S1, g1, h1, p1.imp fun v H1 ⟨g2, S2, x, e2, h2, r2, p2⟩ => p2 σ g2 H1 (.refl _ _) h2⟩
theorem us_ret (he : PE X e (UE K mg W da)) : PS X (.Return (some e) pos) (US K mg W (dRet da)) :=
  (ps_ret he).imp fun D σ H ⟨env, S, g, h, p⟩ => by
    obtain ⟨env1, S1, g1, h1, p1⟩ := U.seqS h p
    exact ⟨env1, S1, g1, h1, p1.imp fun v H1 ⟨g2, S2, x, e2, h2, r2, p2⟩ => p2 v g2 H1 (.refl _ _) h2.ok r2⟩
theorem us_retN : PS X (.Return none pos) (US K mg W dRetN) := ps_retN.imp fun D σ H ⟨env, S, g, h, p⟩ => p .non g H (.refl _ _) h.ok .non
theorem us_if {c : Expr} (hc : PT X c (UT K mg W tc)) (ha : PSs X body (US K mg W d1)) (hb : PSs X els (US K mg W d2)) : PS X (.If c body els pos) (US K mg W (dIfS tc d1 d2)) :=
  (ps_if hc ha hb).imp fun D σ H ⟨env, S, g, h, p⟩ => by
    obtain ⟨env1, S1, g1, h1, p1⟩ := U.seqS h p
    refine ⟨env1, S1, g1, h1, p1.imp fun v H1 ⟨g2, S2, x, e2, h2, r2, p2⟩ => ?_⟩
    cases r2
    cases v with
    | true => exact ⟨env, S2, g2, h2, p2⟩
    | false => exact ⟨env, S2, g2, h2, p2⟩
theorem us_set {i : Nat} {x : Str} {pos' : Pos} (hN : X.N.Nodup) (hi : X.N[i]? = some x) (hx : Loc X.env.scope x) (he : PE X e (UE K mg W da)) (hs : swapsWith e (some (.Name x pos')) pos.line X.env = pure false := by rfl)
    (hf : X.fn x = true ∨ X.env.scope.names.lookup x = some .local := by first | exact .inl rfl | exact .inr rfl | assumption) (hw : swappedStores [.Name x pos'] e X.env = pure none := by rfl) : PS X (.Assign [.Name x pos'] e pos) (US K mg W (dSet i da)) :=
  (ps_asg he (pg_name hN hi hx hf) (by first | exact hs | rfl) hw).imp fun D σ H ⟨env, S, g, h, p⟩ => by
    obtain ⟨env1, S1, g1, h1, p1⟩ := U.seqS h p
    exact ⟨env1, S1, g1, h1, p1.imp fun v H1 ⟨g2, S2, x, e2, h2, r2, p2⟩ => p2 _ g2 H1 (.refl _ _) ⟨h2.e.set r2, h2.ok⟩⟩
theorem u_frz (he : PE X e (UE K mg W da)) : PE X e (UE K mg W (dFrz da)) :=
  he.imp fun σ H Q ⟨env, S, g, h, p⟩ => by
    obtain ⟨env1, S1, g1, h1, p1⟩ := U.seq h p
    refine ⟨env1, S1, g1, h1, p1.imp fun v H1 ⟨g2, S2, x, e2, h2, r2, p2⟩ => ?_⟩
    unfold frz at p2
    cases r2 with
    | @ref a n hm =>
      dsimp only at p2
      cases q : S2[n]? with
      | none =>
        rw [q] at p2
        exact p2.elim
      | some o =>
        cases o with
        | lst ds =>
          rw [q] at p2
          rcases h2.ok.live n _ a q hm with z | ⟨_, vs, z1, z2⟩
          · cases z
          · obtain ⟨o', e'⟩ := h2.ok.freeze q hm z1
            exact p2.go e' o' (.lst upd_same (z2.mono e'.le))
        | _ => rw [q] at p2; exact p2.elim
    | _ => exact p2.elim
end
/-! ### targets -/
section
variable (K : PySem.W.Frag) (mg : Bk)
/-- Z: what the slots keep -/
abbrev ZR := L2.St → L2.St → Prop
abbrev ZT : ZR := fun _ _ => True
structure ZOk (Z : ZR) : Prop where
  re : ∀ σ, Z σ σ
  tr : ∀ σ σ1 σ2, Z σ σ1 → Z σ1 σ2 → Z σ σ2
theorem zt_ok : ZOk ZT := ⟨fun _ => trivial, fun _ _ _ _ _ => trivial⟩
def PostG (W : WX) (Z : ZR) (σ : L2.St) (g : Gh) (H : Hp) (r : RS) (Q : L2.St → Hp → Prop) : Prop := match r with
  | .nx env' S' => ∀ σ' g' H', Ext g H g' H' → At K mg env' S' g' σ' H' → Z σ σ' → Q σ' H'
  | .exc x env' S' => ∀ cls dd σ' g' H', Ext g H g' H' → At K mg env' S' g' σ' H' → XcR mg g' x cls dd → W cls dd σ' H'
  | _ => False
def UG (W : WX) (Z : ZR) (t : DG) : TG := fun v σ H Q => ∃ env S g d, At K mg env S g σ H ∧ Rep K mg g d v ∧ PostG K mg W Z σ g H (t d env S) Q
def UGs (W : WX) (Z : ZR) (gs : List DG) : TGs := fun vs σ H Q => ∃ env S g ds, At K mg env S g σ H ∧ Reps K mg g ds vs ∧ PostG K mg W Z σ g H (unpk gs ds env S) Q
end
section
variable {X : Cx} {W : WX} {a b e : Expr} {es : List Expr} {pos : Pos} {da db : DE D} {tc : DE Bool} {mg : Bk} {st : Stmt} {rest body els : List Stmt} {d1 d2 : DS} {t : DG} {gs : List DG} {Z : ZR}
theorem PG.or {tg : Expr} {t u : TG} (h1 : PG X tg t) (h2 : PG X tg u) : PG X tg (fun v σ H Q => t v σ H Q ∨ u v σ H Q) := ⟨fun pins s σ H v u' Q I r q => q.elim (fun q => h1.run pins s σ H v u' Q I r q) fun q => h2.run pins s σ H v u' Q I r q⟩
theorem PG.imp {tg : Expr} {t u : TG} (h1 : PG X tg t) (i : ∀ v σ H Q, u v σ H Q → t v σ H Q) : PG X tg u := ⟨fun pins s σ H v u' Q I r q => h1.run pins s σ H v u' Q I r (i _ _ _ _ q)⟩
theorem PGs.imp {tg : List Expr} {t u : TGs} (h1 : PGs X tg t) (i : ∀ v σ H Q, u v σ H Q → t v σ H Q) : PGs X tg u := ⟨fun pins s σ H v u' Q I r q => h1.run pins s σ H v u' Q I r (i _ _ _ _ q)⟩
theorem PostG.ext {K : PySem.W.Frag} {g g1 : Gh} {H H1 : Hp} {r : RS} {Q : L2.St → Hp → Prop} {σ σ1 : L2.St} (z : ZOk Z) (h : PostG K mg W Z σ g H r Q) (e : Ext g H g1 H1) (hz : Z σ σ1) : PostG K mg W Z σ1 g1 H1 r Q := by
  cases r with
  | nx _ _ => exact fun σ' g' H' e' a' z' => h σ' g' H' (e.trans e') a' (z.tr _ _ _ hz z')
  | exc _ _ _ => exact fun cls dd σ' g' H' e' => h cls dd σ' g' H' (e.trans e')
  | _ => exact h
theorem ug_name {i : Nat} {x : Str} (hz : ∀ (σ : L2.St) (v : V), Z σ (σ.set i (some v))) (hN : X.N.Nodup) (hi : X.N[i]? = some x) (hx : Loc X.env.scope x) (hf : X.fn x = true ∨ X.env.scope.names.lookup x = some .local := by first | exact .inl rfl | exact .inr rfl | assumption) : PG X (.Name x pos) (UG X.K mg W Z (gN i)) :=
  PG.imp (pg_name hN hi hx hf) fun v σ H Q ⟨env, S, g, d, h, r, p⟩ => p _ g H (.refl _ _) ⟨h.e.set r, h.ok⟩ (hz σ v)
theorem ugs_nil (z : ZOk Z) : PGs X [] (UGs X.K mg W Z []) := PGs.imp pgs_nil fun v σ H Q ⟨env, S, g, ds, h, r, p⟩ => by
  cases r with
  | nil => exact ⟨rfl, p σ g H (.refl _ _) h (z.re _)⟩
  | cons _ _ => exact p.elim
theorem ugs_cons (z : ZOk Z) (h1 : PG X e (UG X.K mg W Z t)) (h2 : PGs X es (UGs X.K mg W Z gs)) (hs : (assignEach (e :: es) X.env).map (·.2) = assign e X.env :: (assignEach es X.env).map (·.2) := by rfl) : PGs X (e :: es) (UGs X.K mg W Z (t :: gs)) :=
  PGs.imp (pgs_cons h1 h2 hs) fun vs σ H Q ⟨env, S, g, ds, h, r, p⟩ => by
    cases r with
    | nil => exact p.elim
    | @cons d ds v vs r1 r2 =>
      refine ⟨v, vs, rfl, env, S, g, d, h, r1, ?_⟩
      unfold unpk at p
      cases q : t d env S with
      | nx e1 S1 =>
        rw [q] at p
        exact fun σ' g' H' e' a' z' => ⟨e1, S1, g', ds, a', r2.mono e'.le, PostG.ext z p e' z'⟩
      | exc x e1 S1 =>
        rw [q] at p
        exact p
      | _ => rw [q] at p; exact p.elim
theorem ug_tup {k : Nat} (hc : X.calm = true) (h : PGs X es (UGs X.K mg W Z gs)) (hg : gs.length = es.length := by rfl) (hn : (assignEach es X.env).length = es.length := by rfl) (hst : (assignEach es X.env).findIdx? (·.1) = none := by rfl) : PG X (.Tuple es k pos) (UG X.K mg W Z (gT gs)) :=
  PG.imp (PG.or (pg_tup hc h hn hst) (pg_lst hc h hn hst)) fun v σ H Q ⟨env, S, g, d, ha, r, p⟩ => by
    unfold gT at p
    cases r with
    | @tup a vs ds h1 h2 =>
      dsimp only at p
      split at p
      case isFalse => exact p.elim
      rename_i hl
      exact .inl ⟨a, vs, rfl, ha.ok.ex.t h1, by rw [← h2.length, hl, hg], env, S, g, ds, ha, h2, p⟩
    | @lst a vs ds h1 h2 =>
      dsimp only at p
      split at p
      case isFalse => exact p.elim
      rename_i hl
      exact .inr ⟨a, vs, rfl, SqL.of (ha.ok.ex _ _ h1), by rw [← h2.length, hl, hg], env, S, g, ds, ha, h2, p⟩
    | _ => exact p.elim
end
end Dn

set_option Elab.async false
set_option linter.all false
set_option maxRecDepth 100000
set_option maxHeartbeats 2000000
namespace L2
open PySem PySem.Spec PyProof.Rows
theorem PI.imp {X : Cx} {tg e : Expr} {t t' : TI} (h : PI X tg e t) (i : ∀ σ H R, t' σ H R → t σ H R) : PI X tg e t' := ⟨fun pins s σ H R I q => h.run pins s σ H R I (i σ H R q)⟩
theorem PI.or {X : Cx} {tg e : Expr} {t t' : TI} (h : PI X tg e t) (h' : PI X tg e t') : PI X tg e (fun σ H R => t σ H R ∨ t' σ H R) := ⟨fun pins s σ H R I q => q.elim (h.run pins s σ H R I) (h'.run pins s σ H R I)⟩
theorem PTs.imp {X : Cx} {es : List Expr} {t t' : TT} (h : PTs X es t) (i : ∀ σ H Q, t' σ H Q → t σ H Q) : PTs X es t' := ⟨fun pins s σ H Q I q => h.run pins s σ H Q I (i σ H Q q)⟩
end L2
/-! Dn3: loops, comprehensions, defs, calls -/
namespace Dn
open PySem PySem.Spec PyProof.Rows L2

/-- an iterator that gives these, as long as C holds -/
structure ItR (K : PySem.W.Frag) (mg : Bk) (g : Gh) (ds : Itn) (J : It) : Prop where
  go : ∀ i g1 S1 H1, g.le g1 → Ok K mg g1 S1 H1 → ds.2 S1 = true → i < ds.1.length → J.go i H1 ∧ ∀ x H2, J.yld i H1 x H2 → ∃ g2 d, Ext g1 H1 g2 H2 ∧ Ok K mg g2 S1 H2 ∧ ds.1[i]? = some d ∧ Rep K mg g2 d x
  stop : ∀ g1 S1 H1, g.le g1 → Ok K mg g1 S1 H1 → ds.2 S1 = true → J.stop ds.1.length H1
abbrev UI (K : PySem.W.Frag) (mg : Bk) (W : WX) (di : DE Itn) : TI := U K mg W (ItR K mg) di
/-- the list n is as it was -/
def sameL (n : Nat) (ds : List D) : Sto → Bool := fun S => match S[n]? with
  | some (.lst es) => beqs es ds
  | _ => false
def strD (x : Str) : List D := x.cps.toList.map fun c => .str ⟨#[c]⟩
/-- what is walked -/
def itm (d : D) (S : Sto) : RE Itn := match d with
  | .tup ds => .ok (ds, any_) S
  | .lst ds => .ok (ds, any_) S
  | .frl ds => .ok (ds, any_) S
  | .str x => .ok (strD x, any_) S
  | .ref n => (match S[n]? with
    | some (.lst ds) => .ok (ds, sameL n ds) S
    | _ => .fail)
  | _ => .fail
def dItm (e : DE D) : DE Itn := fun env S => (e env S).bind itm
def rngD (lo : Int) (n : Nat) : List D := (List.range n).map fun (k : Nat) => .int (lo + (k : Int))
def rng1 (xs : List D) (S : Sto) : RE Itn := match xs with
  | [.int j] => if -(2 ^ 62) ≤ j ∧ j < 2 ^ 62 then .ok (rngD 0 j.toNat, any_) S else .fail
  | _ => .fail
def rng2 (xs : List D) (S : Sto) : RE Itn := match xs with
  | [.int i, .int j] => if -(2 ^ 62) ≤ i ∧ i < 2 ^ 62 ∧ -(2 ^ 62) ≤ j ∧ j < 2 ^ 62 then .ok (rngD i (j - i).toNat, any_) S else .fail
  | _ => .fail

section
variable {X : Cx} {W : WX} {e tg : Expr} {es : List Expr} {pos : Pos} {da db : DE D} {tc : DE Bool} {mg : Bk} {K : PySem.W.Frag} {st : Stmt} {rest body els : List Stmt} {d1 d2 : DS} {di : DE Itn} {dl : DE (List D)} {t : DG}
theorem itr_list {g : Gh} {a : Addr} {vs : List V} {ds : List D} (h : SqL K g.im a vs) (r : Reps K mg g ds vs) : ItR K mg g (ds, any_) (Itl K a) where
  go := fun i g1 S1 H1 le ok _ hi => by
    have hs : SqL K H1 a vs := ok.ex.l (le.im.l h)
    obtain ⟨v, hv, rv⟩ := r.get (List.getElem?_eq_getElem hi)
    refine ⟨⟨vs, v, hs, hv⟩, fun x H2 y => ?_⟩
    obtain ⟨e, y⟩ := y
    subst e
    have := y vs hs
    rw [hv] at this
    cases this
    exact ⟨g1, ds[i], .refl _ _, ok, List.getElem?_eq_getElem hi, rv.mono le⟩
  stop := fun g1 S1 H1 le ok _ => ⟨vs, ok.ex.l (le.im.l h), by rw [r.length]; exact Nat.le_refl _⟩
theorem itr_tup {g : Gh} {a : Addr} {vs : List V} {ds : List D} (h : SqT K g.im a vs) (r : Reps K mg g ds vs) : ItR K mg g (ds, any_) (Itt K a) where
  go := fun i g1 S1 H1 le ok _ hi => by
    have hs : SqT K H1 a vs := ok.ex.t (le.im.t h)
    obtain ⟨v, hv, rv⟩ := r.get (List.getElem?_eq_getElem hi)
    refine ⟨⟨vs, v, hs, hv⟩, fun x H2 y => ?_⟩
    obtain ⟨e, y⟩ := y
    subst e
    have := y vs hs
    rw [hv] at this
    cases this
    exact ⟨g1, ds[i], .refl _ _, ok, List.getElem?_eq_getElem hi, rv.mono le⟩
  stop := fun g1 S1 H1 le ok _ => ⟨vs, ok.ex.t (le.im.t h), by rw [r.length]; exact Nat.le_refl _⟩
theorem sameL_eq {n : Nat} {ds : List D} {S : Sto} (h : sameL n ds S = true) : S[n]? = some (.lst ds) := by
  unfold sameL at h
  split at h
  · rename_i es he
    rw [he, beqs_eq h]
  · cases h
theorem itr_live {g : Gh} {n : Nat} {a : Addr} {ds : List D} (hm : g.mu[n]? = some a) : ItR K mg g (ds, sameL n ds) (Itl K a) where
  go := fun i g1 S1 H1 le ok hc hi => by
    rcases ok.live n _ a (sameL_eq hc) (le.mu _ _ hm) with z | ⟨_, vs, z1, r⟩
    · cases z
    have hs : SqL K H1 a vs := SqL.of z1
    obtain ⟨v, hv, rv⟩ := r.get (List.getElem?_eq_getElem hi)
    refine ⟨⟨vs, v, hs, hv⟩, fun x H2 y => ?_⟩
    obtain ⟨e, y⟩ := y
    subst e
    have := y vs hs
    rw [hv] at this
    cases this
    exact ⟨g1, ds[i], .refl _ _, ok, List.getElem?_eq_getElem hi, rv⟩
  stop := fun g1 S1 H1 le ok hc => by
    rcases ok.live n _ a (sameL_eq hc) (le.mu _ _ hm) with z | ⟨_, vs, z1, r⟩
    · cases z
    exact ⟨vs, SqL.of z1, by rw [r.length]; exact Nat.le_refl _⟩
theorem itr_str {g : Gh} {x : Str} : ItR K mg g (strD x, any_) (Its x) where
  go := fun i g1 S1 H1 le ok _ hi => by
    have hi : i < (strD x).length := hi
    unfold strD at hi
    rw [List.length_map, Array.length_toList] at hi
    refine ⟨hi, fun v H2 y => ?_⟩
    obtain ⟨e, c, hc, hv⟩ := y
    subst e hv
    refine ⟨g1, .str ⟨#[c]⟩, .refl _ _, ok, ?_, .str _⟩
    show (strD x)[i]? = _
    unfold strD
    rw [List.getElem?_map, Array.getElem?_toList, hc]
    rfl
  stop := fun g1 S1 H1 le ok _ => by
    show x.cps.size ≤ (strD x).length
    unfold strD
    rw [List.length_map, Array.length_toList]
    exact Nat.le_refl _
theorem itr_rng {g : Gh} {lo : Int} {n : Nat} : ItR K mg g (rngD lo n, any_) (Itr lo n) where
  go := fun i g1 S1 H1 le ok _ hi => by
    have hi : i < (rngD lo n).length := hi
    unfold rngD at hi
    rw [List.length_map, List.length_range] at hi
    refine ⟨hi, fun v H2 y => ?_⟩
    obtain ⟨e, hv⟩ := y
    subst e hv
    refine ⟨g1, .int (lo + (i : Int)), .refl _ _, ok, ?_, .int _⟩
    show (rngD lo n)[i]? = _
    unfold rngD
    rw [List.getElem?_map, List.getElem?_range hi]
    rfl
  stop := fun g1 S1 H1 le ok _ => by
    show n ≤ (rngD lo n).length
    unfold rngD
    rw [List.length_map, List.length_range]
    exact Nat.le_refl _
section
variable {pins : List (Addr × Obj)} {σ : L2.St} {H : Hp} {s : Shared} {R : It → Hp → Prop} {E : Value → Shared → Prop}
/-- one new object is the iterator -/
theorem pie_one (I : Inv X pins σ H s) (o : Obj) {J : It} {tn : Nat → Heap → Prop} (ht : Turn X.prog X.w X.K tg J [s.heap.objs.size] s.heap.objs.size tn) (h0 : tn 0 (s.heap.push o)) (q : R J H) :
    PIE X pins σ tg R (.ref s.heap.objs.size) { s with heap := s.heap.push o } :=
  ⟨_, _, _, J, H, rfl, I.kept (t' := s.toks) (fun _ _ e => Heap.get?_push_of_some _ e), ht, h0, fun b hb => by
    rw [List.mem_singleton.mp hb]
    exact I.fpOk (Nat.le_refl _) I.fresh, q⟩
theorem iter_any (I : Inv X pins σ H s) {g : Gh} {S : Sto} {d : D} {v : V} {u : Value} (ok : Ok X.K mg g S H) (r : Rep X.K mg g d v) (ru : RelV v u) {W : WX} (p : Post X.K mg W (ItR X.K mg) σ g H (itm d S) R) :
    wpAny (model X.prog X.w) X.A (pyIter u) (PIE X pins σ tg R) E s := by
  cases r with
  | @tup a vs ds hq rq =>
    cases ru
    obtain ⟨its, _, z, _⟩ := I.tuple (ok.ex.t hq)
    exact wpAny_pyIter_tuple (show s.heap.IsTuple a its.toArray from z) (pie_one I _ (turn_tuple a _) ⟨_, Heap.get?_push_size _ rfl, rfl, rfl⟩ (p.now ok (itr_tup hq rq)))
  | @lst a vs ds hq rq =>
    cases ru
    obtain ⟨its, _, z, _⟩ := I.list (SqL.of (ok.ex _ _ hq))
    exact wpAny_pyIter_list z.isList (pie_one I _ (turn_list a _) ⟨_, Heap.get?_push_size _ rfl, rfl, rfl⟩ (p.now ok (itr_list (SqL.of hq) rq)))
  | @frl a vs ds hq rq =>
    cases ru
    obtain ⟨its, _, z, _⟩ := I.list (ok.ex.l hq)
    exact wpAny_pyIter_list z.isList (pie_one I _ (turn_list a _) ⟨_, Heap.get?_push_size _ rfl, rfl, rfl⟩ (p.now ok (itr_list hq rq)))
  | str x =>
    obtain ⟨t, rfl⟩ := ru
    have q : R (Its x) H := p.now ok itr_str
    cases ha : x.cps.all (· < 128) with
    | true => exact wpAny_pyIter_ascii ha (pie_one I _ (turn_str _ x t _ (.inl rfl)) ⟨_, Heap.get?_push_size _ rfl, rfl, rfl⟩ q)
    | false => exact wpAny_pyIter_wide ha (pie_one I _ (turn_str _ x t _ (.inr rfl)) ⟨_, Heap.get?_push_size _ rfl, rfl, rfl⟩ q)
  | @ref a n hm =>
    cases ru
    unfold itm at p
    dsimp only at p
    cases q : S[n]? with
    | none => rw [q] at p; exact p.elim
    | some o =>
      rw [q] at p
      cases o with
      | lst ds =>
        rcases ok.live n _ a q hm with z | ⟨_, vs, z1, _⟩
        · cases z
        obtain ⟨its, _, z, _⟩ := I.list (SqL.of z1)
        exact wpAny_pyIter_list z.isList (pie_one I _ (turn_list a _) ⟨_, Heap.get?_push_size _ rfl, rfl, rfl⟩ (p.now ok (itr_live hm)))
      | _ => exact p.elim
  | _ => exact p.elim
end
/-- over a tuple, a list, a text -/
theorem ui_itm (he : PE X e (UE X.K mg W da)) : PI X tg e (UI X.K mg W (dItm da)) := by
  refine ⟨fun pins s σ H R I ⟨env, S, g, h, p⟩ => ?_⟩
  exact thn (he.run pins s σ H _ I (U.seq h p)) fun v s1 ⟨x, H1, I1, r1, g2, S2, d, e2, h2, r2, p2⟩ => iter_any I1 h2.ok r2 r1 p2
theorem ui_rng1 {a : Expr} {p pos : Pos} (hg : Gl X "range") (hm : X.mg "range" = none) (ha : PA X [a] (UA X.K mg W dl)) (hs : starEach [a] X.env = [(false, eval a X.env)] := by rfl) : PI X tg (.Call (.Name "range" p) [a] [] pos) (UI X.K mg W (dArg rng1 dl)) :=
  (pi_range1 hg hm ha hs).imp fun σ H R ⟨env, S, g, h, p⟩ => by
    obtain ⟨env1, S1, g1, h1, p1⟩ := U.seq h p
    refine ⟨env1, S1, g1, h1, p1.imp fun vs H1 ⟨g2, S2, xs, e2, h2, r2, p2⟩ => ?_⟩
    unfold rng1 at p2
    split at p2
    · split at p2
      · rename_i j hj
        cases r2 with
        | cons r3 r4 =>
          cases r4
          cases r3
          exact ⟨j, rfl, hj.1, hj.2, p2.now h2.ok itr_rng⟩
      · exact p2.elim
    · exact p2.elim
theorem ui_rng2 {a b : Expr} {p pos : Pos} (hg : Gl X "range") (hm : X.mg "range" = none) (ha : PA X [a, b] (UA X.K mg W dl)) (hs : starEach [a, b] X.env = [(false, eval a X.env), (false, eval b X.env)] := by rfl) (hs2 : starEach [b] X.env = [(false, eval b X.env)] := by rfl) :
    PI X tg (.Call (.Name "range" p) [a, b] [] pos) (UI X.K mg W (dArg rng2 dl)) :=
  (pi_range2 hg hm ha hs hs2).imp fun σ H R ⟨env, S, g, h, p⟩ => by
    obtain ⟨env1, S1, g1, h1, p1⟩ := U.seq h p
    refine ⟨env1, S1, g1, h1, p1.imp fun vs H1 ⟨g2, S2, xs, e2, h2, r2, p2⟩ => ?_⟩
    unfold rng2 at p2
    split at p2
    · split at p2
      · rename_i i j hj
        cases r2 with
        | cons r3 r4 =>
          cases r4 with
          | cons r5 r6 =>
            cases r6
            cases r3
            cases r5
            exact ⟨i, j, rfl, hj, p2.now h2.ok itr_rng⟩
      · exact p2.elim
    · exact p2.elim

/-! ### the for loop -/
theorem us_for {iter : Expr} (hp : PassesOwn (model X.prog X.w) X.A X.env X.xe) (hc : X.calm = true) (hi : PI X tg iter (UI X.K mg W di)) (hg : PG X tg (UG X.K mg W ZT t)) (hb : PSs X body (US X.K mg W d1))
    (hs : ∀ x, foldedSetIterable iter X.env x = pure x := by intro _; rfl) : PS X (.For tg iter body [] pos) (US X.K mg W (dFor di t d1)) :=
  (ps_for hp hc hi hg hb hs).imp fun D σ H ⟨env, S, g, h, p⟩ => by
    obtain ⟨env1, S1, g1, h1, p1⟩ := U.seqS h p
    refine ⟨env1, S1, g1, h1, p1.imp fun J H1 ⟨g2, S2, ds, e2, h2, r2, p2⟩ => ?_⟩
    refine ⟨fun i m σ' H' => i + m = ds.1.length ∧ ∃ env' S' g', g2.le g' ∧ At X.K mg env' S' g' σ' H' ∧ PostS X.K mg W g' H' (forGo ds.2 t d1 (ds.1.drop i) env' S') D, ⟨ds.1.length, by omega, env, S2, g2, .refl _, h2, p2⟩, ?_⟩
    rintro i m σ' H' ⟨him, env', S', g', le, h', p'⟩
    by_cases hi : i < ds.1.length
    · right
      have hC : ds.2 S' = true := by
        have hd0 : ds.1.drop i = ds.1[i] :: ds.1.drop (i + 1) := List.drop_eq_getElem_cons hi
        rw [hd0] at p'
        unfold forGo at p'
        split at p'
        · assumption
        · exact p'.elim
      obtain ⟨q1, q2⟩ := r2.go i g' S' H' le h'.ok hC hi
      refine ⟨q1, fun σ3 H3 => i + 1 + (m - 1) = ds.1.length ∧ ∃ env' S' g', g2.le g' ∧ At X.K mg env' S' g' σ3 H3 ∧ PostS X.K mg W g' H3 (forGo ds.2 t d1 (ds.1.drop (i + 1)) env' S') D, fun σ3 H3 z => ⟨m - 1, by omega, z⟩, fun x H3 y => ?_⟩
      obtain ⟨g3, d, e3, o3, hd, rd⟩ := q2 x H3 y
      have hdrop : ds.1.drop i = d :: ds.1.drop (i + 1) := by
        rw [List.drop_eq_getElem_cons hi]
        rw [List.getElem?_eq_getElem hi] at hd
        cases hd
        rfl
      rw [hdrop] at p'
      have p'' := PostS.ext p' e3
      unfold forGo at p''
      rw [if_pos hC] at p''
      refine ⟨env', S', g3, d, h'.ext e3 o3, rd, ?_⟩
      cases q : t d env' S' with
      | nx e1 S4 =>
        rw [q] at p''
        dsimp only at p''
        intro σ4 g4 H4 e4 a4 _
        refine ⟨e1, S4, g4, a4, ?_⟩
        have p4 := PostS.ext p'' e4
        have fin : ∀ (e5 : Env) (S5 : Sto), PostS X.K mg W g4 H4 (forGo ds.2 t d1 (ds.1.drop (i + 1)) e5 S5) D → ∀ σ' g' H', Ext g4 H4 g' H' → At X.K mg e5 S5 g' σ' H' → i + 1 + (m - 1) = ds.1.length ∧ ∃ env' S' g', g2.le g' ∧ At X.K mg env' S' g' σ' H' ∧ PostS X.K mg W g' H' (forGo ds.2 t d1 (ds.1.drop (i + 1)) env' S') D :=
          fun e5 S5 p5 σ' g5 H5 e' a' => ⟨by omega, e5, S5, g5, ((le.trans e3.le).trans e4.le).trans e'.le, a', PostS.ext p5 e'⟩
        cases q5 : d1 e1 S4 with
        | nx e5 S5 =>
          rw [q5] at p4
          exact fin e5 S5 p4
        | cnt e5 S5 =>
          rw [q5] at p4
          exact fin e5 S5 p4
        | brk e5 S5 =>
          rw [q5] at p4
          exact p4
        | fail => rw [q5] at p4; exact p4
        | ret d5 S5 => rw [q5] at p4; exact p4
        | exc x5 e5 S5 => rw [q5] at p4; exact p4
      | exc x e1 S4 =>
        rw [q] at p''
        exact p''
      | _ => rw [q] at p''; exact p''.elim
    · left
      have hi' : i = ds.1.length := by omega
      subst hi'
      rw [List.drop_length] at p'
      unfold forGo at p'
      split at p'
      · rename_i hC
        exact ⟨r2.stop g' S' H' le h'.ok hC, p' σ' g' H' (.refl _ _) h'⟩
      · exact p'.elim
theorem us_while {c : Expr} (n : Nat) (hp : PassesOwn (model X.prog X.w) X.A X.env X.xe) (hc : PT X c (UT X.K mg W tc)) (hb : PSs X body (US X.K mg W d1)) : PS X (.While c body [] pos) (US X.K mg W (dWhile n tc d1)) :=
  (ps_while hp hc hb).imp fun D σ H ⟨env, S, g, h, p⟩ => by
    refine ⟨fun m σ' H' => ∃ env' S' g', At X.K mg env' S' g' σ' H' ∧ PostS X.K mg W g' H' (whileGo tc d1 m env' S') D, ⟨n, env, S, g, h, p⟩, ?_⟩
    rintro m σ' H' ⟨env', S', g', h', p'⟩
    cases m with
    | zero => exact p'.elim
    | succ m =>
      unfold whileGo at p'
      obtain ⟨env1, S1, g1, h1, p1⟩ := U.seqS h' p'
      refine ⟨env1, S1, g1, h1, p1.imp fun b H1 ⟨g2, S2, b', e2, h2, r2, p2⟩ => ?_⟩
      cases r2
      cases b with
      | false =>
        rw [if_neg Bool.false_ne_true] at p2 ⊢
        exact p2 σ' g2 H1 (.refl _ _) h2
      | true =>
        rw [if_pos rfl] at p2 ⊢
        refine ⟨fun σ3 H3 => ∃ env' S' g', At X.K mg env' S' g' σ3 H3 ∧ PostS X.K mg W g' H3 (whileGo tc d1 m env' S') D, fun σ3 H3 z => ⟨m, Nat.lt_succ_self _, z⟩, env', S2, g2, h2, ?_⟩
        have fin : ∀ (e5 : Env) (S5 : Sto), PostS X.K mg W g2 H1 (whileGo tc d1 m e5 S5) D → ∀ σ' g' H', Ext g2 H1 g' H' → At X.K mg e5 S5 g' σ' H' → ∃ env' S' g', At X.K mg env' S' g' σ' H' ∧ PostS X.K mg W g' H' (whileGo tc d1 m env' S') D :=
          fun e5 S5 p5 σ' g5 H5 e' a' => ⟨e5, S5, g5, a', PostS.ext p5 e'⟩
        cases q5 : d1 env' S2 with
        | nx e5 S5 =>
          rw [q5] at p2
          exact fin e5 S5 p2
        | cnt e5 S5 =>
          rw [q5] at p2
          exact fin e5 S5 p2
        | brk e5 S5 =>
          rw [q5] at p2
          exact p2
        | fail => rw [q5] at p2; exact p2
        | ret d5 S5 => rw [q5] at p2; exact p2
        | exc x5 e5 S5 => rw [q5] at p2; exact p2

/-! ### comprehensions of one clause: the element raises nothing -/
def wpe (env : Env) : List Nat → Env
  | [] => env
  | v :: vs => (wpe env vs).set v none
def lcGo (C : Sto → Bool) (t : DG) (c : DE Bool) (e : DE D) (env : Env) : List D → List D → Sto → RE (List D)
  | [], acc, S => if C S = true then .ok acc S else .fail
  | d :: ds, acc, S => if C S = true then (match t d env S with
    | .nx e1 S1 => (match c e1 S1 with
      | .ok true S2 => (match e e1 S2 with
        | .ok x S3 => if acc.length < LIM then lcGo C t c e env ds (acc ++ [x]) S3 else .fail
        | _ => .fail)
      | .ok false S2 => lcGo C t c e env ds acc S2
      | _ => .fail)
    | _ => .fail) else .fail
/-- vs: the slots of its own names -/
def dLc (it : DE Itn) (t : DG) (c : DE Bool) (e : DE D) (vs : List Nat) : DE (List D) := fun env S => (it env S).bind fun ds S1 => lcGo ds.2 t c e (wpe env vs) ds.1 [] S1
def dYes : DE Bool := fun _ S => .ok true S
def dLcL (it : DE Itn) (t : DG) (c : DE Bool) (e : DE D) (vs : List Nat) : DE D := fun env S => (dLc it t c e vs env S).bind fun xs S1 => .ok (.lst xs) S1
/-- a list of the store -/
def dLcM (it : DE Itn) (t : DG) (c : DE Bool) (e : DE D) (vs : List Nat) : DE D := fun env S => (dLc it t c e vs env S).bind fun xs S1 => .ok (.ref S1.length) (S1 ++ [.lst xs])
abbrev W0 : WX := fun _ _ _ _ => False
abbrev ZW (vs : List Nat) : ZR := fun σ σ' => wipe σ' vs = wipe σ vs
theorem zw_ok {vs : List Nat} : ZOk (ZW vs) := ⟨fun _ => rfl, fun _ _ _ a b => b.trans a⟩
theorem wipe_set {v : V} {i : Nat} : ∀ {vs : List Nat} (σ : L2.St), i ∈ vs → wipe (σ.set i (some v)) vs = wipe σ vs
  | u :: vs, σ, h => by
    unfold wipe
    by_cases e : i ∈ vs
    · rw [wipe_set σ e]
    · have hu : i = u := (List.mem_cons.mp h).resolve_right e
      subst hu
      have key : ∀ (vs : List Nat), i ∉ vs → wipe (σ.set i (some v)) vs = (wipe σ vs).set i (some v) := by
        intro vs
        induction vs with
        | nil => intro _; rfl
        | cons u vs ih =>
          intro hn
          unfold wipe
          rw [ih (fun z => hn (List.mem_cons_of_mem _ z))]
          exact List.set_comm _ _ (fun z => hn (by rw [z]; exact List.mem_cons_self))
      rw [key vs e, List.set_set]
theorem zw_set {vs : List Nat} {i : Nat} (h : i ∈ vs) (σ : L2.St) (v : V) : ZW vs σ (σ.set i (some v)) := wipe_set σ h
theorem RelE.wpe {g : Gh} {env : Env} {σ : L2.St} (h : RelE K mg g env σ) : ∀ vs : List Nat, RelE K mg g (wpe env vs) (wipe σ vs)
  | [] => h
  | v :: vs => (RelE.wpe h vs).clr none
/-- a list in the making: nobody knows it -/
theorem Ok.side {g : Gh} {S : Sto} {H : Hp} {p : Addr} {o : HO} (ok : Ok K mg g S H) (h1 : g.im p = none) (h2 : p ∉ g.mu) : Ok K mg g S (upd H p o) where
  ex := fun a u e => by
    rw [upd_ne (ne_of_none e h1)]
    exact ok.ex a u e
  len := ok.len
  there := fun a h => by
    have ne : a ≠ p := fun e => h2 (by rw [← e]; exact h)
    rw [upd_ne ne]
    exact ok.there a h
  inj := ok.inj
  live := fun n u a q1 q2 => (ok.live n u a q1 q2).imp id fun z => ⟨z.1, z.2.mono (.refl _) (upd_ne (fun e => h2 (by rw [← e]; exact List.mem_of_getElem? q2)))⟩
theorem Ext.side {g0 g : Gh} {H0 H : Hp} {p : Addr} {o : HO} (e : Ext g0 H0 g H) (h : H0 p = none) : Ext g0 H0 g (upd H p o) := ⟨e.le, e.new, fun a u h1 h2 => by
  rw [upd_ne (ne_of_none h1 h)]
  exact e.keep a u h1 h2, e.newm⟩
theorem Ext.hid {g g' : Gh} {H H' : Hp} {p : Addr} {u : HO} (e : Ext g H g' H') (h1 : g.im p = none) (h2 : p ∉ g.mu) (h3 : H p = some u) : g'.im p = none ∧ p ∉ g'.mu ∧ H' p = some u := by
  refine ⟨?_, fun z => ?_, e.keep p u h3 h2⟩
  · cases q : g'.im p with
    | none => rfl
    | some o =>
      rcases e.new p h1 (by rw [q]; intro z; cases z) with z | z
      · rw [h3] at z
        cases z
      · exact absurd z h2
  · rcases e.newm p z with z | z
    · exact h2 z
    · rw [h3] at z
      cases z
theorem Ok.adopt {g0 g : Gh} {S : Sto} {H0 H : Hp} {p : Addr} {o : HO} (ok : Ok K mg g S H) (e : Ext g0 H0 g H) (h0 : H0 p = none) (h1 : g.im p = none) (h2 : p ∉ g.mu) (h3 : H p = some o) :
    Ok K mg ⟨upd g.im p o, g.mu⟩ S H ∧ Ext g0 H0 ⟨upd g.im p o, g.mu⟩ H := by
  have le : g.le ⟨upd g.im p o, g.mu⟩ := ⟨Ex.new h1, fun _ _ h => h⟩
  refine ⟨⟨fun a u q => ?_, ok.len, ok.there, ok.inj, fun n u a q1 q2 => (ok.live n u a q1 q2).imp id fun z => ⟨ImOk.of (fun z1 => ?_) z.1, z.2.mono le rfl⟩⟩, ⟨e.le.trans le, fun a q1 q2 => ?_, e.keep, e.newm⟩⟩
  · have q' : upd g.im p o a = some u := q
    by_cases ha : a = p
    · subst ha
      rw [upd_same] at q'
      cases q'
      exact h3
    · rw [upd_ne ha] at q'
      exact ok.ex a u q'
  · have ha : a ≠ p := fun e => h2 (by rw [← e]; exact List.mem_of_getElem? q2)
    show upd g.im p o a = none
    rw [upd_ne ha]
    exact z1
  · by_cases ha : a = p
    · exact .inl (by rw [ha]; exact h0)
    · have q2' : upd g.im p o a ≠ none := q2
      rw [upd_ne ha] at q2'
      exact e.new a q1 q2'
theorem Ok.adoptM {g0 g : Gh} {S : Sto} {H0 H : Hp} {p : Addr} {o : HO} {so : SO} (ok : Ok K mg g S H) (e : Ext g0 H0 g H) (h0 : H0 p = none) (h1 : g.im p = none) (h2 : p ∉ g.mu) (h3 : H p = some o) (hr : ∀ g', g.le g' → SoR K mg g' p H so) :
    Ok K mg ⟨g.im, g.mu ++ [p]⟩ (S ++ [so]) H ∧ Ext g0 H0 ⟨g.im, g.mu ++ [p]⟩ H := by
  have le : g.le ⟨g.im, g.mu ++ [p]⟩ := ⟨Ex.refl _, fun n a h => by
    show (g.mu ++ [p])[n]? = some a
    rw [List.getElem?_append_left (List.getElem?_eq_some_iff.mp h).1]
    exact h⟩
  refine ⟨⟨ok.ex, by simp [ok.len], fun a h => ?_, ?_, fun n u a q1 q2 => ?_⟩, ⟨e.le.trans le, e.new, e.keep, fun a h => ?_⟩⟩
  · rcases List.mem_append.mp (show a ∈ g.mu ++ [p] from h) with h' | h'
    · exact ok.there a h'
    · rw [List.mem_singleton.mp h', h3]
      intro z
      cases z
  · show (g.mu ++ [p]).Nodup
    rw [List.nodup_append]
    refine ⟨ok.inj, by simp, fun a ha b hb => ?_⟩
    rw [List.mem_singleton.mp hb]
    exact fun z => h2 (z ▸ ha)
  · by_cases hl : n < S.length
    · rw [List.getElem?_append_left hl] at q1
      have q2' : (g.mu ++ [p])[n]? = some a := q2
      rw [List.getElem?_append_left (by rw [ok.len]; exact hl)] at q2'
      exact (ok.live n u a q1 q2').imp id fun z => ⟨z.1, z.2.mono le rfl⟩
    · have hl' : S.length ≤ n := Nat.le_of_not_lt hl
      rw [List.getElem?_append_right hl'] at q1
      have q2' : (g.mu ++ [p])[n]? = some a := q2
      rw [List.getElem?_append_right (by rw [ok.len]; exact hl')] at q2'
      have e0 : n - S.length = 0 := by
        have := (List.getElem?_eq_some_iff.mp q1).1
        simp at this
        omega
      rw [e0] at q1
      rw [ok.len, e0] at q2'
      cases q1
      cases q2'
      exact .inr ⟨.mk h1, hr _ le⟩
  · rcases List.mem_append.mp (show a ∈ g.mu ++ [p] from h) with h' | h'
    · exact e.newm a h'
    · exact .inr (by rw [List.mem_singleton.mp h']; exact h0)
variable {vs : List Nat} {de : DE D}
/-- the reading of a comprehension -/
theorem lc_tr {σ : L2.St} {H : Hp} {Q : VK} {env : Env} {S : Sto} {g : Gh} {k : List D → Sto → RE D} (h : At K mg env S g σ H) (p : Post K mg W (Rep K mg) σ g H ((dLc di t tc de vs env S).bind k) Q)
    (fin : ∀ (L : Addr) (g0 g1 : Gh) (S1 : Sto) (H0 H1 : Hp) (xs : List D) (us : List V), Ext g H g0 H0 → H0 L = none → Ext g0 H0 g1 H1 → Ok K mg g1 S1 H1 → g1.im L = none → L ∉ g1.mu → H1 L = some (.lst us) → Reps K mg g1 xs us → Post K mg W (Rep K mg) σ g0 H0 (k xs S1) Q → Q (.ref L) H1) :
    tLc (UI K mg W di) (UG K mg W0 (ZW vs) t) (UT K mg W0 tc) (UE K mg W0 de) vs σ H Q := by
  have p0 : Post K mg W (Rep K mg) σ g H ((di env S).bind fun ds S1 => (lcGo ds.2 t tc de (wpe env vs) ds.1 [] S1).bind k) Q := by
    unfold dLc at p
    cases q : di env S <;> rw [q] at p <;> exact p
  obtain ⟨env1, S1, g1, h1, p1⟩ := U.seq h p0
  refine ⟨env1, S1, g1, h1, p1.imp fun J H1 ⟨g2, S2, ds, e2, h2, r2, p2⟩ => ?_⟩
  intro L hL
  have gL : g2.im L = none := h2.ok.ex.none hL
  have mL : L ∉ g2.mu := fun z => h2.ok.there L z hL
  refine ⟨fun i m H' => i + m = ds.1.length ∧ ∃ S' g' acc us, Ext g2 H1 g' H' ∧ At K mg (wpe env vs) S' g' (wipe σ vs) H' ∧ g'.im L = none ∧ L ∉ g'.mu ∧ H' L = some (.lst us) ∧ Reps K mg g' acc us ∧ Post K mg W (Rep K mg) σ g2 H1 ((lcGo ds.2 t tc de (wpe env vs) (ds.1.drop i) acc S').bind k) Q,
    ⟨ds.1.length, by omega, S2, g2, [], [], (Ext.refl _ _).side hL, ⟨h2.e.wpe vs, h2.ok.side gL mL⟩, gL, mL, upd_same, .nil, p2⟩, ?_⟩
  rintro i m H' ⟨him, S', g', acc, us, e', h', gL', mL', hL', ra, p'⟩
  have le' : g2.le g' := e'.le
  by_cases hi : i < ds.1.length
  · right
    have hC : ds.2 S' = true := by
      have hd0 : ds.1.drop i = ds.1[i] :: ds.1.drop (i + 1) := List.drop_eq_getElem_cons hi
      rw [hd0] at p'
      unfold lcGo at p'
      split at p'
      · assumption
      · exact p'.elim
    obtain ⟨q1, q2⟩ := r2.go i g' S' H' le' h'.ok hC hi
    refine ⟨q1, fun H3 => i + 1 + (m - 1) = ds.1.length ∧ ∃ S' g' acc us, Ext g2 H1 g' H3 ∧ At K mg (wpe env vs) S' g' (wipe σ vs) H3 ∧ g'.im L = none ∧ L ∉ g'.mu ∧ H3 L = some (.lst us) ∧ Reps K mg g' acc us ∧ Post K mg W (Rep K mg) σ g2 H1 ((lcGo ds.2 t tc de (wpe env vs) (ds.1.drop (i + 1)) acc S').bind k) Q, fun H3 z => ⟨m - 1, by omega, z⟩, fun x H3 y => ?_⟩
    obtain ⟨g3, d, e3, o3, hd, rd⟩ := q2 x H3 y
    have hdrop : ds.1.drop i = d :: ds.1.drop (i + 1) := by
      rw [List.drop_eq_getElem_cons hi]
      rw [List.getElem?_eq_getElem hi] at hd
      cases hd
      rfl
    rw [hdrop] at p'
    obtain ⟨gL3, mL3, hL3⟩ := e3.hid gL' mL' hL'
    refine ⟨wpe env vs, S', g3, d, h'.ext e3 o3, rd, ?_⟩
    unfold lcGo at p'
    rw [if_pos hC] at p'
    cases q : t d (wpe env vs) S' with
    | nx e1 S4 =>
      rw [q] at p'
      dsimp only at p'
      intro σ4 g4 H4 e4 a4 z4
      refine ⟨z4.trans (by
        have : ∀ (vs us : List Nat) (σ : L2.St), (∀ v ∈ us, v ∈ vs) → wipe (wipe σ us) vs = wipe σ vs := by
          intro vs us σ
          induction us with
          | nil => intro _; rfl
          | cons u us ih =>
            intro hv
            have hu := hv u List.mem_cons_self
            show wipe ((wipe σ us).set u none) vs = _
            rw [← ih fun v z => hv v (List.mem_cons_of_mem _ z)]
            generalize wipe σ us = τ
            clear ih hv
            induction vs with
            | nil => cases hu
            | cons w vs ih =>
              unfold wipe
              by_cases hw : u ∈ vs
              · rw [ih hw]
              · have hu' : u = w := (List.mem_cons.mp hu).resolve_right hw
                subst hu'
                have key : ∀ (vs : List Nat), u ∉ vs → wipe (τ.set u none) vs = (wipe τ vs).set u none := by
                  intro vs
                  induction vs with
                  | nil => intro _; rfl
                  | cons w vs ih =>
                    intro hn
                    unfold wipe
                    rw [ih (fun z => hn (List.mem_cons_of_mem _ z))]
                    exact List.set_comm _ _ (fun z => hn (by rw [z]; exact List.mem_cons_self))
                rw [key vs hw, List.set_set]
        exact this vs vs σ fun _ z => z), ?_⟩
      obtain ⟨gL4, mL4, hL4⟩ := e4.hid gL3 mL3 hL3
      refine ⟨e1, S4, g4, a4, ?_⟩
      cases qc : tc e1 S4 with
      | fail => rw [qc] at p'; exact p'.elim
      | exc x5 S5 => rw [qc] at p'; exact p'.elim
      | ok b S5 =>
        rw [qc] at p'
        intro b' g5 H5 e5 o5 rb
        subst rb
        obtain ⟨gL5, mL5, hL5⟩ := e5.hid gL4 mL4 hL4
        have ra5 : Reps K mg g5 acc us := ((ra.mono e3.le).mono e4.le).mono e5.le
        have x5 : Ext g2 H1 g5 H5 := ((e'.trans e3).trans e4).trans e5
        cases b with
        | false =>
          dsimp only at p'
          rw [if_neg Bool.false_ne_true]
          exact ⟨by omega, S5, g5, acc, us, x5, ⟨(h2.e.wpe vs).mono x5.le, o5⟩, gL5, mL5, hL5, ra5, p'⟩
        | true =>
          dsimp only at p'
          rw [if_pos rfl]
          refine ⟨e1, S5, g5, a4.ext e5 o5, ?_⟩
          cases qe : de e1 S5 with
          | fail => rw [qe] at p'; exact p'.elim
          | exc x6 S6 => rw [qe] at p'; exact p'.elim
          | ok y S6 =>
            rw [qe] at p'
            dsimp only at p'
            intro v g6 H6 e6 o6 r6
            obtain ⟨gL6, mL6, hL6⟩ := e6.hid gL5 mL5 hL5
            split at p'
            · rename_i hl
              refine ⟨us, hL6, by rw [← ra5.length, ← lim_eq]; exact hl, by omega, S6, g6, acc ++ [y], us ++ [v], (x5.trans e6).side hL, ⟨(h2.e.wpe vs).mono (x5.trans e6).le, o6.side gL6 mL6⟩, gL6, mL6, upd_same, (ra5.mono e6.le).append (.cons r6 .nil), p'⟩
            · exact p'.elim
    | _ => rw [q] at p'; exact p'.elim
  · left
    have hi' : i = ds.1.length := by omega
    subst hi'
    rw [List.drop_length] at p'
    unfold lcGo at p'
    split at p'
    case isFalse => exact p'.elim
    rename_i hC
    exact ⟨r2.stop g' S' H' le' h'.ok hC, fin L g2 g' S' H1 H' acc us e2 hL e' h'.ok gL' mL' hL' ra p'⟩
theorem lcL_tr {σ : L2.St} {H : Hp} {Q : VK} (h : UE K mg W (dLcL di t tc de vs) σ H Q) : tLc (UI K mg W di) (UG K mg W0 (ZW vs) t) (UT K mg W0 tc) (UE K mg W0 de) vs σ H Q := by
  obtain ⟨env, S, g, h, p⟩ := h
  refine lc_tr h p fun L g0 g1 S1 H0 H1 xs us e0 hL e1 o1 gL mL hL1 ra p1 => ?_
  obtain ⟨o2, e2⟩ := o1.adopt e1 hL gL mL hL1
  exact p1.go e2 o2 (.lst upd_same (ra.mono (g' := ⟨upd g1.im L (.lst us), g1.mu⟩) ⟨Ex.new gL, fun _ _ h => h⟩))
theorem lcM_tr {σ : L2.St} {H : Hp} {Q : VK} (h : UE K mg W (dLcM di t tc de vs) σ H Q) : tLc (UI K mg W di) (UG K mg W0 (ZW vs) t) (UT K mg W0 tc) (UE K mg W0 de) vs σ H Q := by
  obtain ⟨env, S, g, h, p⟩ := h
  refine lc_tr h p fun L g0 g1 S1 H0 H1 xs us e0 hL e1 o1 gL mL hL1 ra p1 => ?_
  obtain ⟨o2, e2⟩ := o1.adoptM (so := .lst xs) e1 hL gL mL hL1 fun g' le => ⟨us, hL1, ra.mono le⟩
  exact p1.go e2 o2 (newM_rep o1)
theorem u_yes : PTs X [] (UT K mg W dYes) := pts_nil.imp fun σ H Q ⟨env, S, g, h, p⟩ => p.now h.ok rfl
theorem u_tst {c : Expr} (h : PT X c (UT K mg W tc)) : PTs X [c] (UT K mg W tc) := pts_one h
variable {elt iter : Expr} {ifs : List Expr} {scope : Scope} {own : List (Str × Nat)}
theorem u_lc (hc : X.calm = true) (hN : X.N.Nodup) (hi : PI X tg iter (UI X.K mg W di)) (ok : BlkOk X.N X.env.scope scope own)
    (hg : ∀ (s : Shared) (H : Hp) (C : Addr) (cl : List (Str × Addr)) (fp : List Addr), PG (X.blk s H scope (compEnvC scope cl C X.env) fp) tg (UG X.K mg W0 (ZW (own.map (·.2))) t))
    (ht : ∀ (s : Shared) (H : Hp) (C : Addr) (cl : List (Str × Addr)) (fp : List Addr), PTs (X.blk s H scope (compEnvC scope cl C X.env) fp) ifs (UT X.K mg W0 tc))
    (he : ∀ (s : Shared) (H : Hp) (C : Addr) (cl : List (Str × Addr)) (fp : List Addr), PE (X.blk s H scope (compEnvC scope cl C X.env) fp) elt (UE X.K mg W0 de)) (hs : ∀ x, foldedSetIterable iter X.env x = pure x := by intro _; rfl) :
    PE X (.ListComp elt [⟨tg, iter, ifs, 0⟩] scope pos) (UE X.K mg W (dLcL di t tc de (own.map (·.2)))) :=
  (pe_lc hc hN hi ok hg ht he hs).imp fun σ H Q h => lcL_tr h
theorem u_lcM (hc : X.calm = true) (hN : X.N.Nodup) (hi : PI X tg iter (UI X.K mg W di)) (ok : BlkOk X.N X.env.scope scope own)
    (hg : ∀ (s : Shared) (H : Hp) (C : Addr) (cl : List (Str × Addr)) (fp : List Addr), PG (X.blk s H scope (compEnvC scope cl C X.env) fp) tg (UG X.K mg W0 (ZW (own.map (·.2))) t))
    (ht : ∀ (s : Shared) (H : Hp) (C : Addr) (cl : List (Str × Addr)) (fp : List Addr), PTs (X.blk s H scope (compEnvC scope cl C X.env) fp) ifs (UT X.K mg W0 tc))
    (he : ∀ (s : Shared) (H : Hp) (C : Addr) (cl : List (Str × Addr)) (fp : List Addr), PE (X.blk s H scope (compEnvC scope cl C X.env) fp) elt (UE X.K mg W0 de)) (hs : ∀ x, foldedSetIterable iter X.env x = pure x := by intro _; rfl) :
    PE X (.ListComp elt [⟨tg, iter, ifs, 0⟩] scope pos) (UE X.K mg W (dLcM di t tc de (own.map (·.2)))) :=
  (pe_lc hc hN hi ok hg ht he hs).imp fun σ H Q h => lcM_tr h
/-- name = [..], the name a local of the def: z tells of the value that is stored -/
theorem setLc_tr {i : Nat} {dz : DE D} {D : Ends} {σ : L2.St} {H : Hp} {tl : TE} (htr : ∀ {σ H Q}, UE K mg W dz σ H Q → tl σ H Q) (h : US K mg W (dSet i dz) D σ H) : tAsg tl (gName i) D σ H := by
  obtain ⟨env, S, g, h, p⟩ := h
  obtain ⟨env1, S1, g1, h1, p1⟩ := U.seqS h p
  exact htr ⟨env1, S1, g1, h1, p1.imp fun v H1 ⟨g2, S2, x, e2, h2, r2, p2⟩ => p2 _ g2 H1 (.refl _ _) ⟨h2.e.set r2, h2.ok⟩⟩
theorem us_setLc {i : Nat} {y : Str} {py spos : Pos} (hc : X.calm = true) (hN : X.N.Nodup) (hy : X.N[i]? = some y) (hyl : X.env.scope.names.lookup y = some .local)
    (hsw : swapsWith (.ListComp elt [⟨tg, iter, ifs, 0⟩] scope pos) (some (.Name y py)) spos.line X.env = pure true) (hi : PI X tg iter (UI X.K mg W di)) (ok : BlkOk X.N X.env.scope scope own)
    (hg : ∀ (s : Shared) (H : Hp) (C : Addr) (cl : List (Str × Addr)) (fp : List Addr), PG (X.blk s H scope (compEnvC scope cl C X.env) fp) tg (UG X.K mg W0 (ZW (own.map (·.2))) t))
    (ht : ∀ (s : Shared) (H : Hp) (C : Addr) (cl : List (Str × Addr)) (fp : List Addr), PTs (X.blk s H scope (compEnvC scope cl C X.env) fp) ifs (UT X.K mg W0 tc))
    (he : ∀ (s : Shared) (H : Hp) (C : Addr) (cl : List (Str × Addr)) (fp : List Addr), PE (X.blk s H scope (compEnvC scope cl C X.env) fp) elt (UE X.K mg W0 de)) (hs : ∀ x, foldedSetIterable iter X.env x = pure x := by intro _; rfl) :
    PS X (.Assign [.Name y py] (.ListComp elt [⟨tg, iter, ifs, 0⟩] scope pos) spos) (US X.K mg W (dSet i (dLcL di t tc de (own.map (·.2))))) :=
  (ps_setLc hc hN hy hyl hsw hi ok hg ht he hs).imp fun D σ H h => setLc_tr lcL_tr h
theorem us_setLcM {i : Nat} {y : Str} {py spos : Pos} (hc : X.calm = true) (hN : X.N.Nodup) (hy : X.N[i]? = some y) (hyl : X.env.scope.names.lookup y = some .local)
    (hsw : swapsWith (.ListComp elt [⟨tg, iter, ifs, 0⟩] scope pos) (some (.Name y py)) spos.line X.env = pure true) (hi : PI X tg iter (UI X.K mg W di)) (ok : BlkOk X.N X.env.scope scope own)
    (hg : ∀ (s : Shared) (H : Hp) (C : Addr) (cl : List (Str × Addr)) (fp : List Addr), PG (X.blk s H scope (compEnvC scope cl C X.env) fp) tg (UG X.K mg W0 (ZW (own.map (·.2))) t))
    (ht : ∀ (s : Shared) (H : Hp) (C : Addr) (cl : List (Str × Addr)) (fp : List Addr), PTs (X.blk s H scope (compEnvC scope cl C X.env) fp) ifs (UT X.K mg W0 tc))
    (he : ∀ (s : Shared) (H : Hp) (C : Addr) (cl : List (Str × Addr)) (fp : List Addr), PE (X.blk s H scope (compEnvC scope cl C X.env) fp) elt (UE X.K mg W0 de)) (hs : ∀ x, foldedSetIterable iter X.env x = pure x := by intro _; rfl) :
    PS X (.Assign [.Name y py] (.ListComp elt [⟨tg, iter, ifs, 0⟩] scope pos) spos) (US X.K mg W (dSet i (dLcM di t tc de (own.map (·.2))))) :=
  (ps_setLc hc hN hy hyl hsw hi ok hg ht he hs).imp fun D σ H h => setLc_tr lcM_tr h
end
end Dn

set_option Elab.async false
set_option linter.all false
set_option maxRecDepth 100000
set_option maxHeartbeats 2000000
/-! Dn4: defs and their calls -/
namespace Dn
open PySem PySem.Spec PyProof.Rows L2

abbrev _root_.L2.Cx.bk (X : Cx) : Bk := ⟨X.mg, X.prog, X.w⟩
abbrev Den := List D → Sto → RE D
/-- a def's promise: what its denotation says -/
def SpD (K : PySem.W.Frag) (mg : Bk) (n : Nat) (den : Den) : Sp := fun vs H Q E => vs.length = n ∧ ∃ g S ds, Ok K mg g S H ∧ Reps K mg g ds vs ∧ Post K mg (fun c d _ H' => E c d H') (Rep K mg) [] g H (den ds S) Q
def outD : RS → RE D
  | .nx _ S => .ok .non S
  | .ret d S => .ok d S
  | .exc x _ S => .exc x S
  | _ => .fail
def fnD (N : Nat) (body : DS) : Den := fun ds S => outD (body (ds.map some ++ List.replicate (N - ds.length) none) S)
section
variable {P : Program} {w : World} {K : PySem.W.Frag} {mg : Str → Option Value} {base : Heap} {x qual : Str} {params : Arguments} {body : List Stmt} {scope : Scope} {dvs : List V} {kws : List (Str × V)} {f : Addr} {fd : FuncData}
theorem rel_start {mg : Bk} {g : Gh} {N : List Str} : ∀ {ds : List D} {vs : List V}, Reps K mg g ds vs → RelE K mg g (ds.map some ++ List.replicate (N.length - ds.length) none) (L2.start N vs) := by
  intro ds vs r
  have hl := r.length
  refine ⟨by unfold L2.start; simp [hl], fun i d h => ?_⟩
  by_cases hi : i < ds.length
  · rw [List.getElem?_append_left (by simpa using hi), List.getElem?_map] at h
    have e : ds[i]? = some d := by
      cases q : ds[i]? with
      | none => rw [q] at h; cases h
      | some u =>
        rw [q] at h
        cases h
        rfl
    obtain ⟨v, h1, h2⟩ := r.get e
    refine ⟨v, ?_, h2⟩
    unfold L2.start
    rw [List.getElem?_append_left (by simp; omega), List.getElem?_map, h1]
    rfl
  · rw [List.getElem?_append_right (by simp; omega)] at h
    have := List.mem_of_getElem? h
    have := (List.mem_replicate.mp this).2
    cases this
theorem fn_ok {N ps : List Str} {k : Nat} {db : DS} (F : FunD K x qual params body scope dvs kws f fd) (Sc : FnScope N ps scope)
    (hbody : ∀ (cdv : Value) (A : Around) (outer : List PySem.Env) (s : Shared) (H : Hp) (E : XK), Room k (A.deeper (envOfC qual scope s.heap.objs.size f cdv)) →
      PSs (cxOf (L2.CX P w) P w K mg base N qual scope f cdv A outer s H E) body (US K ⟨mg, P, w⟩ (fun c d _ H' => E c d H') db)) : FnOk P w K mg base (L2.CX P w) (k + 1) f fd ps (SpD K ⟨mg, P, w⟩ ps.length (fnD N.length db)) := by
  refine F.ok Sc (fun vs H Q E h => h.1) fun cdv A outer s H vs Q E hr h => ⟨_, hbody cdv A outer s H E hr, ?_⟩
  obtain ⟨hl, g, S, ds, ok, r, p⟩ := h
  refine ⟨_, S, g, ⟨rel_start r, ok⟩, ?_⟩
  unfold fnD at p
  cases q : db (ds.map some ++ List.replicate (N.length - ds.length) none) S with
  | fail => rw [q] at p; exact p
  | nx e1 S1 =>
    rw [q] at p
    exact fun σ' g' H' e' a' => p .non g' H' e' a'.ok .non
  | ret d S1 =>
    rw [q] at p
    exact fun v g' H' e' o' r' => p v g' H' e' o' r'
  | brk e1 S1 => rw [q] at p; exact p.elim
  | cnt e1 S1 => rw [q] at p; exact p.elim
  | exc x e1 S1 =>
    rw [q] at p
    exact fun cls dd σ' g' H' e' a' x' => p cls dd g' H' e' a'.ok x'
/-- in a def's body: what leaves it goes to the caller -/
theorem tk_fn {N : List Str} {qual : Str} {scope : Scope} {f : Addr} {cdv : Value} {A : Around} {outer : List PySem.Env} {s : Shared} {H : Hp} {E : XK} : Takes (cxOf (L2.CX P w) P w K mg base N qual scope f cdv A outer s H E) (fun c d _ H' => E c d H') :=
  takes_of rfl rfl rfl rfl
theorem po_fn {N : List Str} {qual : Str} {scope : Scope} {f : Addr} {cdv : Value} {A : Around} {outer : List PySem.Env} {s : Shared} {H : Hp} {E : XK} : PassesOwn (model P w) (cxOf (L2.CX P w) P w K mg base N qual scope f cdv A outer s H E).A (cxOf (L2.CX P w) P w K mg base N qual scope f cdv A outer s H E).env (cxOf (L2.CX P w) P w K mg base N qual scope f cdv A outer s H E).xe := passes_of rfl
end

/-! ### three ways to call: over the whole store, over nothing, over one thing alone -/
def SO.nr : SO → Bool
  | .lst ds => nrs ds
  | .dct ks ds => nrs ks && nrs ds
  | .ins _ fs => fs.all fun q => q.2.nr
  | .frd ks ds => nrs ks && nrs ds
  | .gone => true
def gcall (n : Nat) (den : Den) : Den := fun ds S => if ds.length = n then den ds S else .fail
def pcall (n : Nat) (den : Den) : Den := fun ds S => if ds.length = n ∧ nrs ds = true then (match den ds [] with
  | .ok d _ => if d.nr = true then .ok d S else .fail
  | .exc x _ => .exc x S
  | .fail => .fail) else .fail
def bcall (n j : Nat) (den : Den) : Den := fun ds S => if ds.length = n ∧ nrs (ds.set j .non) = true then (match ds[j]? with
  | some (.ref m) => (match S[m]? with
    | some o => if o.nr = true then (match den (ds.set j (.ref 0)) [o] with
      | .ok d (o' :: _) => if d.nr = true ∧ o'.nr = true then .ok d (S.set m o') else .fail
      | .exc x (o' :: _) => if o'.nr = true then .exc x (S.set m o') else .fail
      | _ => .fail) else .fail
    | none => .fail)
  | _ => .fail) else .fail
section
variable {K : PySem.W.Frag} {mg : Bk} {g g' : Gh} {S S' : Sto} {H H' : Hp} {W : WX} {σ : L2.St} {vs : List V} {ds : List D} {n : Nat} {den : Den} {Q : VK}
theorem exG (g : Gh) (l : List Addr) : Ex g.im (Gh.mk g.im l).im := Ex.refl _
theorem Fs.nr (e : Ex g.im g'.im) : ∀ {fs : List (Str × D)} {us : List (Str × V)}, Fs K mg g fs us → (fs.all fun q => q.2.nr) = true → Fs K mg g' fs us
  | _, _, .nil, _ => .nil
  | _, _, .cons h r, q => by
    rw [List.all_cons, Bool.and_eq_true] at q
    exact .cons (h.nr e q.1) (Fs.nr e r q.2)
theorem SoR.nr {a : Addr} (e : Ex g.im g'.im) : ∀ {o : SO}, SoR K mg g a H o → o.nr = true → SoR K mg g' a H o
  | .lst ds, ⟨vs, h1, h2⟩, q => ⟨vs, h1, h2.nr e q⟩
  | .dct ks ds, ⟨o, h1, h2⟩, q => by
    rw [SO.nr, Bool.and_eq_true] at q
    exact ⟨o, h1, h2.imp (fun ⟨us, a1, a2⟩ => ⟨us, a1, a2.nr e q.2⟩) fun ⟨ob, xs, a1, a2, a3, a4⟩ => ⟨ob, xs, a1, a2, a3, a4.nr e q.1 q.2⟩⟩
  | .ins c fs, ⟨C, dx, us, h0, h1, h2⟩, q => ⟨C, dx, us, h0, h1, h2.nr e q⟩
  | .frd ks ds, ⟨⟨ob, o, h1, h2⟩, h3⟩, q => by
    rw [SO.nr, Bool.and_eq_true] at q
    exact ⟨⟨ob, o, e _ _ h1, h2.imp (fun ⟨us, a1, a2⟩ => ⟨us, a1, a2.nr e q.2⟩) fun ⟨ob, xs, a1, a2, a3, a4⟩ => ⟨ob, xs, a1, a2, a3, a4.nr e q.1 q.2⟩⟩, h3⟩
  | .gone, _, _ => trivial
theorem spd_g (ok : Ok K mg g S H) (r : Reps K mg g ds vs) (p : Post K mg W (Rep K mg) σ g H (gcall n den ds S) Q) : SpD K mg n den vs H Q (WE W σ) := by
  unfold gcall at p
  split at p
  · rename_i hl
    refine ⟨by rw [← r.length]; exact hl, g, S, ds, ok, r, ?_⟩
    cases q : den ds S <;> rw [q] at p <;> exact p
  · exact p.elim
theorem ext_p (ok : Ok K mg g S H) (e : Ext ⟨g.im, []⟩ H g' H') (ok' : Ok K mg g' S' H') : Ext g H ⟨g'.im, g.mu⟩ H' ∧ Ok K mg ⟨g'.im, g.mu⟩ S H' := by
  have le : g.le ⟨g'.im, g.mu⟩ := ⟨e.le.im, fun _ _ h => h⟩
  have kp : ∀ a o, H a = some o → H' a = some o := fun a o h => e.keep a o h (by simp)
  refine ⟨⟨le, fun a h1 h2 => (e.new a h1 h2).imp id fun z => absurd z (by simp), fun a o h _ => kp a o h, fun a h => .inl h⟩, ⟨ok'.ex, ok.len, fun a h => ?_, ok.inj, fun m o a h1 h2 => ?_⟩⟩
  · cases q : H a with
    | none => exact absurd q (ok.there a h)
    | some o =>
      rw [kp a o q]
      intro z
      cases z
  · have ha : a ∈ g.mu := List.mem_of_getElem? h2
    refine (ok.live m o a h1 h2).imp id fun z => ⟨ImOk.of (fun z1 => ?_) z.1, ?_⟩
    · cases q : g'.im a with
      | none => rfl
      | some u =>
        rcases e.new a z1 (by rw [q]; intro z; cases z) with y | y
        · exact absurd y (ok.there a ha)
        · exact absurd y (by simp)
    · have hk : H' a = H a := by
        cases q : H a with
        | none => exact absurd q (ok.there a ha)
        | some u => exact kp a u q
      exact z.2.mono le hk
theorem ok_p (ok : Ok K mg g S H) : Ok K mg ⟨g.im, []⟩ [] H := ⟨ok.ex, rfl, fun a h => absurd h (by simp), List.nodup_nil, fun n o a h => absurd h (by simp)⟩
theorem XcR.im {x : Xc} {cls : Value} {dd : Option Addr} (h : XcR mg g x cls dd) (e : g.im = g'.im) : XcR mg g' x cls dd := by
  obtain ⟨C, h1, h2, h3⟩ := h
  exact ⟨C, h1, h2, h3.imp id fun ⟨d, a, b, c⟩ => ⟨d, a, b, by rw [← e]; exact c⟩⟩
theorem spd_p (ok : Ok K mg g S H) (r : Reps K mg g ds vs) (p : Post K mg W (Rep K mg) σ g H (pcall n den ds S) Q) : SpD K mg n den vs H Q (WE W σ) := by
  unfold pcall at p
  split at p
  · rename_i hl
    refine ⟨by rw [← r.length]; exact hl.1, ⟨g.im, []⟩, [], ds, ok_p ok, r.nr (exG g []) hl.2, ?_⟩
    cases q : den ds [] with
    | fail => rw [q] at p; exact p
    | ok d S1 =>
      rw [q] at p
      dsimp only at p
      split at p
      · rename_i hd
        intro v g' H' e' o' r'
        obtain ⟨e2, o2⟩ := ext_p ok e' o'
        exact p v _ H' e2 o2 (r'.nr (exG g' g.mu) hd)
      · exact p.elim
    | exc x S1 =>
      rw [q] at p
      intro cls dd g' H' e' o' x'
      obtain ⟨e2, o2⟩ := ext_p ok e' o'
      exact p cls dd _ H' e2 o2 (x'.im rfl)
  · exact p.elim
theorem Reps.set_nr {e : D} {v : V} (i : Ex g.im g'.im) (r : Rep K mg g' e v) : ∀ {ds : List D} {vs : List V} {j : Nat}, Reps K mg g ds vs → nrs (ds.set j .non) = true → vs[j]? = some v → Reps K mg g' (ds.set j e) vs
  | _, _, j, .nil, _, h => by simp at h
  | _, _, 0, .cons h t, q, hv => by
    simp at hv
    subst hv
    simp only [List.set_cons_zero, nrs, D.nr, Bool.true_and] at q
    exact .cons r (t.nr i q)
  | _, _, j + 1, .cons h t, q, hv => by
    simp only [List.set_cons_succ, nrs, Bool.and_eq_true] at q
    exact .cons (h.nr i q.1) (Reps.set_nr i r t q.2 (by simpa using hv))
theorem ext_b {m : Nat} {a : Addr} {o o' : SO} {rest : Sto} (ok : Ok K mg g S H) (hm : S[m]? = some o) (ha : g.mu[m]? = some a) (e : Ext ⟨g.im, [a]⟩ H g' H') (ok' : Ok K mg g' (o' :: rest) H') (hn : o'.nr = true) :
    Ext g H ⟨g'.im, g.mu⟩ H' ∧ Ok K mg ⟨g'.im, g.mu⟩ (S.set m o') H' := by
  have le : g.le ⟨g'.im, g.mu⟩ := ⟨e.le.im, fun _ _ h => h⟩
  have am : a ∈ g.mu := List.mem_of_getElem? ha
  have a0 : g'.mu[0]? = some a := e.le.mu 0 a rfl
  have kp : ∀ b o, H b = some o → b ≠ a → H' b = some o := fun b o h hb => e.keep b o h (by simpa using hb)
  refine ⟨⟨le, fun b h1 h2 => (e.new b h1 h2).imp id fun z => ?_, fun b o h hb => kp b o h (fun z => hb (by rw [z]; exact am)), fun b h => .inl h⟩, ⟨ok'.ex, by rw [List.length_set]; exact ok.len, fun b h => ?_, ok.inj, fun i u b h1 h2 => ?_⟩⟩
  · rw [List.mem_singleton.mp z]
    exact am
  · by_cases hb : b = a
    · rw [hb]
      exact ok'.there a (List.mem_of_getElem? a0)
    · cases q : H b with
      | none => exact absurd q (ok.there b h)
      | some o =>
        rw [kp b o q hb]
        intro z
        cases z
  · have hbm : b ∈ g.mu := List.mem_of_getElem? h2
    by_cases hi : i = m
    · subst hi
      rw [ha] at h2
      cases h2
      rw [List.getElem?_set_self (List.getElem?_eq_some_iff.mp hm).1] at h1
      cases h1
      exact (ok'.live 0 _ a rfl a0).imp id fun z => ⟨z.1, z.2.nr (exG g' g.mu) hn⟩
    · rw [List.getElem?_set_ne (fun z => hi z.symm)] at h1
      have hb : b ≠ a := fun z => by
        subst z
        exact hi (nd_ix ok.inj h2 ha)
      refine (ok.live i u b h1 h2).imp id fun z => ⟨ImOk.of (fun z1 => ?_) z.1, ?_⟩
      · cases q : g'.im b with
        | none => rfl
        | some u =>
          rcases e.new b z1 (by rw [q]; intro z; cases z) with y | y
          · exact absurd y (ok.there b hbm)
          · exact absurd (List.mem_singleton.mp y) hb
      · have hk : H' b = H b := by
          cases q : H b with
          | none => exact absurd q (ok.there b hbm)
          | some u => exact kp b u q hb
        exact z.2.mono le hk
theorem spd_b {j : Nat} (ok : Ok K mg g S H) (r : Reps K mg g ds vs) (p : Post K mg W (Rep K mg) σ g H (bcall n j den ds S) Q) : SpD K mg n den vs H Q (WE W σ) := by
  unfold bcall at p
  split at p
  case isFalse => exact p.elim
  rename_i hl
  split at p
  case h_2 => exact p.elim
  rename_i m hj
  split at p
  case h_2 => exact p.elim
  rename_i o hm
  split at p
  case isFalse => exact p.elim
  rename_i hn
  obtain ⟨v, hv, rv⟩ := r.get hj
  cases rv with
  | @ref a _ ha =>
    have am : a ∈ g.mu := List.mem_of_getElem? ha
    have okc : Ok K mg ⟨g.im, [a]⟩ [o] H := by
      refine ⟨ok.ex, rfl, fun b h => ?_, by simp, fun i u b h1 h2 => ?_⟩
      · rw [List.mem_singleton.mp h]
        exact ok.there a am
      · cases i with
        | zero =>
          cases h1
          cases h2
          exact (ok.live m o a hm ha).imp id fun z => ⟨z.1, z.2.nr (exG g [a]) hn⟩
        | succ i => simp at h1
    refine ⟨by rw [← r.length]; exact hl.1, ⟨g.im, [a]⟩, [o], ds.set j (.ref 0), okc, r.set_nr (exG g [a]) (.ref rfl) hl.2 hv, ?_⟩
    cases q : den (ds.set j (.ref 0)) [o] with
    | fail => rw [q] at p; exact p
    | ok d S1 =>
      rw [q] at p
      cases S1 with
      | nil => exact p.elim
      | cons o' rest =>
        dsimp only at p
        split at p
        · rename_i hd
          intro v g' H' e' o' r'
          obtain ⟨e2, o2⟩ := ext_b ok hm ha e' o' hd.2
          exact p v _ H' e2 o2 (r'.nr (exG g' g.mu) hd.1)
        · exact p.elim
    | exc x S1 =>
      rw [q] at p
      cases S1 with
      | nil => exact p.elim
      | cons o' rest =>
        dsimp only at p
        split at p
        · rename_i hd
          intro cls dd g' H' e' o' x'
          obtain ⟨e2, o2⟩ := ext_b ok hm ha e' o' hd
          exact p cls dd _ H' e2 o2 (x'.im rfl)
        · exact p.elim
end
section
variable {X : Cx} {W : WX} {k n j : Nat} {f : Addr} {fd : FuncData} {ps : List Str} {den : Den} {x : Str} {p pos : Pos} {e : Expr} {es : List Expr} {dl : DE (List D)}
theorem u_call {D' : Den} (hsp : ∀ {W : WX} {σ : L2.St} {g : Gh} {S : Sto} {H : Hp} {ds : List D} {vs : List V} {Q : VK}, Ok X.K X.bk g S H → Reps X.K X.bk g ds vs → Post X.K X.bk W (Rep X.K X.bk) σ g H (D' ds S) Q → SpD X.K X.bk n den vs H Q (WE W σ))
    (F : FnOk X.prog X.w X.K X.mg X.base (L2.CX X.prog X.w) k f fd ps (SpD X.K X.bk n den)) (hr : Room k X.A) (tk : Takes X W) (hg : Gl X x) (hm : X.mg x = some (.ref f)) (hk : PySem.W.keepIn X.K (.ref f) = true) (hb : Binds X.K fd ps [])
    (ha : PA X (e :: es) (UA X.K X.bk W dl)) (hdb : (x == ("__debug__" : Str)) = false := by decide) (he : starEach (e :: es) X.env = (false, eval e X.env) :: starEach es X.env := by rfl) (hpl : (backTo pos (starEach es X.env)).any (·.1) = false := by rfl) :
    PE X (.Call (.Name x p) (e :: es) [] pos) (UE X.K X.bk W (dArg D' dl)) :=
  (pe_callS F hr hg hm hk hb (fun σ => passAt tk σ) ha hdb he hpl).imp fun σ H Q ⟨env, S, g, h, p⟩ => by
    obtain ⟨env1, S1, g1, h1, p1⟩ := U.seq h p
    exact ⟨env1, S1, g1, h1, p1.imp fun vs H1 ⟨g2, S2, xs, e2, h2, r2, p2⟩ => hsp h2.ok r2 p2⟩
theorem u_callG (F : FnOk X.prog X.w X.K X.mg X.base (L2.CX X.prog X.w) k f fd ps (SpD X.K X.bk n den)) (hr : Room k X.A) (tk : Takes X W) (hg : Gl X x) (hm : X.mg x = some (.ref f)) (hk : PySem.W.keepIn X.K (.ref f) = true) (hb : Binds X.K fd ps [])
    (ha : PA X (e :: es) (UA X.K X.bk W dl)) (hdb : (x == ("__debug__" : Str)) = false := by decide) (he : starEach (e :: es) X.env = (false, eval e X.env) :: starEach es X.env := by rfl) (hpl : (backTo pos (starEach es X.env)).any (·.1) = false := by rfl) :
    PE X (.Call (.Name x p) (e :: es) [] pos) (UE X.K X.bk W (dArg (gcall n den) dl)) := u_call spd_g F hr tk hg hm hk hb ha hdb he hpl
theorem u_callP (F : FnOk X.prog X.w X.K X.mg X.base (L2.CX X.prog X.w) k f fd ps (SpD X.K X.bk n den)) (hr : Room k X.A) (tk : Takes X W) (hg : Gl X x) (hm : X.mg x = some (.ref f)) (hk : PySem.W.keepIn X.K (.ref f) = true) (hb : Binds X.K fd ps [])
    (ha : PA X (e :: es) (UA X.K X.bk W dl)) (hdb : (x == ("__debug__" : Str)) = false := by decide) (he : starEach (e :: es) X.env = (false, eval e X.env) :: starEach es X.env := by rfl) (hpl : (backTo pos (starEach es X.env)).any (·.1) = false := by rfl) :
    PE X (.Call (.Name x p) (e :: es) [] pos) (UE X.K X.bk W (dArg (pcall n den) dl)) := u_call spd_p F hr tk hg hm hk hb ha hdb he hpl
theorem u_callB1 (j : Nat) (F : FnOk X.prog X.w X.K X.mg X.base (L2.CX X.prog X.w) k f fd ps (SpD X.K X.bk n den)) (hr : Room k X.A) (tk : Takes X W) (hg : Gl X x) (hm : X.mg x = some (.ref f)) (hk : PySem.W.keepIn X.K (.ref f) = true) (hb : Binds X.K fd ps [])
    (ha : PA X (e :: es) (UA X.K X.bk W dl)) (hdb : (x == ("__debug__" : Str)) = false := by decide) (he : starEach (e :: es) X.env = (false, eval e X.env) :: starEach es X.env := by rfl) (hpl : (backTo pos (starEach es X.env)).any (·.1) = false := by rfl) :
    PE X (.Call (.Name x p) (e :: es) [] pos) (UE X.K X.bk W (dArg (bcall n j den) dl)) := u_call spd_b F hr tk hg hm hk hb ha hdb he hpl
/-- f(): it raises nothing -/
def call0 (den : Den) : DE D := fun _ S => match den [] [] with
  | .ok d _ => if d.nr = true then .ok d S else .fail
  | _ => .fail
theorem u_call0 (F : FnOk X.prog X.w X.K X.mg X.base (L2.CX X.prog X.w) k f fd ps (SpD X.K X.bk 0 den)) (hr : Room k X.A) (hg : Gl X x) (hm : X.mg x = some (.ref f)) (hk : PySem.W.keepIn X.K (.ref f) = true) (hb : Binds X.K fd ps [])
    (hdb : (x == ("__debug__" : Str)) = false := by decide) : PE X (.Call (.Name x p) [] [] pos) (UE X.K X.bk W (call0 den)) :=
  (pe_call0 F hr hg hm hk hb .nil passL hdb).imp fun σ H Q ⟨env, S, g, h, p⟩ => by
    refine ⟨rfl, ⟨g.im, []⟩, [], [], ok_p h.ok, .nil, ?_⟩
    unfold call0 at p
    cases q : den [] [] with
    | ok d S1 =>
      rw [q] at p
      dsimp only at p
      split at p
      · rename_i hd
        intro v g' H' e' o' r'
        obtain ⟨e2, o2⟩ := ext_p h.ok e' o'
        exact p v _ H' e2 o2 (r'.nr (exG g' g.mu) hd)
      · exact p.elim
    | fail => rw [q] at p; exact p.elim
    | exc x S1 => rw [q] at p; exact p.elim
end
end Dn

set_option Elab.async false
set_option linter.all false
set_option maxRecDepth 100000
set_option maxHeartbeats 2000000
/-! Dn5: what is built in: operators, comparisons, items, slices, len, methods -/
namespace Dn
open PySem PySem.Spec PyProof.Rows L2

/-! ### data as the library compares it -/
mutual
def D.py : D → Option PyData
  | .non => some .none
  | .bl b => some (.bool b)
  | .int i => some (.int i)
  | .str x => some (.str x)
  | .tup ds => (pys ds).map .tuple
  | .lst ds => (pys ds).map .list
  | .frl ds => (pys ds).map .list
  | _ => none
def pys : List D → Option (List PyData)
  | [] => some []
  | d :: ds => d.py.bind fun p => (pys ds).map fun ps => p :: ps
end
def pyS (S : Sto) (d : D) : Option PyData := match d with
  | .ref n => (match S[n]? with
    | some (.lst ds) => (pys ds).map .list
    | _ => none)
  | d => d.py
/-- the items of a list -/
def seqL (S : Sto) (d : D) : Option (List D) := match d with
  | .lst ds => some ds
  | .frl ds => some ds
  | .ref n => (match S[n]? with
    | some (.lst ds) => some ds
    | _ => none)
  | _ => none
/-- the items of a list, a tuple; of the store, too -/
def seqS (S : Sto) (d : D) : Option (List D) := match d with
  | .tup ds => some ds
  | .lst ds => some ds
  | .frl ds => some ds
  | .ref n => (match S[n]? with
    | some (.lst ds) => some ds
    | _ => none)
  | _ => none
section
variable {K : PySem.W.Frag} {mg : Bk} {g : Gh} {S : Sto} {H : Hp} {W : WX} {σ : L2.St} {X : Cx}
mutual
theorem Rep.dp (e : Ex g.im H) : ∀ {d : D} {v : V} {p : PyData}, Rep K mg g d v → d.py = some p → Dp K H v p
  | _, _, _, .non, h => by cases h; exact .non
  | _, _, _, .bl b, h => by cases h; exact .bl b
  | _, _, _, .int i, h => by cases h; exact .int i
  | _, _, _, .str x, h => by cases h; exact .str x
  | _, _, p, .tup (ds := ds) hq r, h => by
    rw [D.py] at h
    obtain ⟨ps, h1, rfl⟩ := Option.map_eq_some_iff.mp h
    exact .tup (e.t hq) (Reps.dp e r h1)
  | _, _, p, .lst (ds := ds) hq r, h => by
    rw [D.py] at h
    obtain ⟨ps, h1, rfl⟩ := Option.map_eq_some_iff.mp h
    exact .lst (SqL.of (e _ _ hq)) (Reps.dp e r h1)
  | _, _, p, .frl (ds := ds) hq r, h => by
    rw [D.py] at h
    obtain ⟨ps, h1, rfl⟩ := Option.map_eq_some_iff.mp h
    exact .lst (e.l hq) (Reps.dp e r h1)
  | _, _, _, .dctK _ _, h => by simp [D.py] at h
  | _, _, _, .dctN _ _ _ _ _, h => by simp [D.py] at h
  | _, _, _, .ref _, h => by simp [D.py] at h
  | _, _, _, .glo _, h => by simp [D.py] at h
  | _, _, _, .ty _, h => by simp [D.py] at h
theorem Reps.dp (e : Ex g.im H) : ∀ {ds : List D} {vs : List V} {ps : List PyData}, Reps K mg g ds vs → pys ds = some ps → DpAll K H vs ps
  | _, _, _, .nil, h => by
    rw [pys] at h
    cases h
    exact .nil
  | _, _, _, .cons r1 r2, h => by
    rw [pys] at h
    obtain ⟨p, h1, h2⟩ := Option.bind_eq_some_iff.mp h
    obtain ⟨ps, h3, rfl⟩ := Option.map_eq_some_iff.mp h2
    exact .cons (Rep.dp e r1 h1) (Reps.dp e r2 h3)
end
theorem ref_lst {n : Nat} {a : Addr} {ds : List D} (ok : Ok K mg g S H) (h : g.mu[n]? = some a) (q : S[n]? = some (.lst ds)) : ∃ vs, H a = some (.lst vs) ∧ Reps K mg g ds vs := by
  rcases ok.live n _ a q h with z | z
  · cases z
  · exact z.2
theorem seqL_of (ok : Ok K mg g S H) {d : D} {v : V} {ds : List D} (r : Rep K mg g d v) (h : seqL S d = some ds) : ∃ a vs, v = .ref a ∧ SqL K H a vs ∧ Reps K mg g ds vs := by
  cases r with
  | lst h1 h2 =>
    cases h
    exact ⟨_, _, rfl, SqL.of (ok.ex _ _ h1), h2⟩
  | frl h1 h2 =>
    cases h
    exact ⟨_, _, rfl, ok.ex.l h1, h2⟩
  | @ref a n hm =>
    unfold seqL at h
    dsimp only at h
    cases q : S[n]? with
    | none => rw [q] at h; cases h
    | some o =>
      rw [q] at h
      cases o with
      | lst ds =>
        cases h
        obtain ⟨vs, h2, h3⟩ := ref_lst ok hm q
        exact ⟨_, _, rfl, SqL.of h2, h3⟩
      | _ => cases h
  | _ => cases h
theorem dp_of (ok : Ok K mg g S H) {d : D} {v : V} {p : PyData} (r : Rep K mg g d v) (h : pyS S d = some p) : Dp K H v p := by
  cases r with
  | @ref a n hm =>
    unfold pyS at h
    dsimp only at h
    cases q : S[n]? with
    | none => rw [q] at h; cases h
    | some o =>
      rw [q] at h
      cases o with
      | lst ds =>
        obtain ⟨ps, h1, rfl⟩ := Option.map_eq_some_iff.mp h
        obtain ⟨vs, h2, h3⟩ := ref_lst ok hm q
        exact .lst (SqL.of h2) (h3.dp ok.ex h1)
      | _ => cases h
  | non => exact Rep.dp (mg := mg) ok.ex .non h
  | bl b => exact Rep.dp (mg := mg) ok.ex (.bl b) h
  | int b => exact Rep.dp (mg := mg) ok.ex (.int b) h
  | str b => exact Rep.dp (mg := mg) ok.ex (.str b) h
  | tup a b => exact Rep.dp ok.ex (.tup a b) h
  | lst a b => exact Rep.dp ok.ex (.lst a b) h
  | frl a b => exact Rep.dp ok.ex (.frl a b) h
  | dctK a b => exact Rep.dp ok.ex (.dctK a b) h
  | dctN a b c d e => exact Rep.dp ok.ex (.dctN a b c d e) h
  | glo a => exact Rep.dp ok.ex (.glo a) h
  | ty a => exact Rep.dp (mg := mg) ok.ex (.ty a) h
/-- what a sequence is, in the heap -/
theorem seq_of (ok : Ok K mg g S H) {d : D} {v : V} {ds : List D} (r : Rep K mg g d v) (h : seqS S d = some ds) : ∃ a vs, v = .ref a ∧ (SqL K H a vs ∨ SqT K H a vs) ∧ Reps K mg g ds vs := by
  cases r with
  | tup h1 h2 =>
    cases h
    exact ⟨_, _, rfl, .inr (ok.ex.t h1), h2⟩
  | lst h1 h2 =>
    cases h
    exact ⟨_, _, rfl, .inl (SqL.of (ok.ex _ _ h1)), h2⟩
  | frl h1 h2 =>
    cases h
    exact ⟨_, _, rfl, .inl (ok.ex.l h1), h2⟩
  | @ref a n hm =>
    unfold seqS at h
    dsimp only at h
    cases q : S[n]? with
    | none => rw [q] at h; cases h
    | some o =>
      rw [q] at h
      cases o with
      | lst ds =>
        cases h
        obtain ⟨vs, h2, h3⟩ := ref_lst ok hm q
        exact ⟨_, _, rfl, .inl (SqL.of h2), h3⟩
      | _ => cases h
  | _ => cases h
end

/-! ### operators -/
def LIMS (n : Nat) : Bool := decide (n ≤ LIM)
theorem lims {n : Nat} (h : LIMS n = true) : n ≤ sizeLine := by
  rw [← lim_eq]
  exact of_decide_eq_true h
/-- an int with an int -/
def int2 (f : Int → Int → D) (C : Int → Int → Bool) (x y : D) (S : Sto) : RE D := match x, y with
  | .int i, .int j => if C i j = true then .ok (f i j) S else .fail
  | _, _ => .fail
def lstS (S : Sto) (d : D) : Option (List D) := match d with
  | .lst ds => some ds
  | .ref n => (match S[n]? with
    | some (.lst ds) => some ds
    | _ => none)
  | _ => none
def addV (x y : D) (S : Sto) : RE D := match x, y with
  | .int i, .int j => .ok (.int (i + j)) S
  | .str a, .str b => if LIMS (a.length + b.length) = true then .ok (.str (a ++ b)) S else .fail
  | .tup a, .tup b => if LIMS (a.length + b.length) = true then .ok (.tup (a ++ b)) S else .fail
  | x, y => match lstS S x, lstS S y with
    | some a, some b => if LIMS (a.length + b.length) = true then .ok (.lst (a ++ b)) S else .fail
    | _, _ => .fail
def subV : D → D → Sto → RE D := int2 (fun i j => .int (i - j)) fun _ _ => true
def mulOk (i j : Int) : Bool := decide ((-(2 ^ 64) < i ∧ i < 2 ^ 64) ∨ (-(2 ^ 64) < j ∧ j < 2 ^ 64))
def mulV : D → D → Sto → RE D := int2 (fun i j => .int (i * j)) mulOk
def divV : D → D → Sto → RE D := int2 (fun i j => .int (i.fdiv j)) fun _ j => decide (j ≠ 0 ∧ j.natAbs < 1073741824)
def modV : D → D → Sto → RE D := int2 (fun i j => .int (i.fmod j)) fun _ j => decide (j ≠ 0)
def powV : D → D → Sto → RE D := int2 (fun i j => .int (i ^ j.toNat)) fun i j => decide (0 ≤ j ∧ j ≤ 1000000 ∧ i.natAbs < 2 ^ 64)
section
variable {K : PySem.W.Frag} {mg : Bk} {X : Cx}
theorem ops_int {f : Int → Int → V} {fd : Int → Int → D} {C : Int → Int → Prop} {Cb : Int → Int → Bool} (hf : ∀ (g : Gh) i j, Rep K mg g (fd i j) (f i j)) (hc : ∀ i j, Cb i j = true → C i j) : OpS K mg (rI C f) (int2 fd Cb) := by
  intro W σ g S H x y v u Q ok rx ry p
  unfold int2 at p
  split at p
  · split at p
    · rename_i i j hcb
      cases rx
      cases ry
      exact ⟨i, j, rfl, rfl, hc i j hcb, p.now ok (hf g i j)⟩
    · exact p.elim
  · exact p.elim
theorem ops_int0 {f : Int → Int → V} {fd : Int → Int → D} (hf : ∀ (g : Gh) i j, Rep K mg g (fd i j) (f i j)) : OpS K mg (rI0 f) (int2 fd fun _ _ => true) := by
  intro W σ g S H x y v u Q ok rx ry p
  unfold int2 at p
  split at p
  · rename_i i j
    rw [if_pos rfl] at p
    cases rx
    cases ry
    exact ⟨i, j, rfl, rfl, p.now ok (hf g i j)⟩
  · exact p.elim
theorem os_sub : OpS K mg (rI0 fun i j => .int (i - j)) subV := ops_int0 fun _ _ _ => .int _
theorem os_mul : OpS K mg (rI CMul fun i j => .int (i * j)) mulV := ops_int (fun _ _ _ => .int _) fun i j h => of_decide_eq_true h
theorem os_div : OpS K mg (rI CDivN fun i j => .int (i.fdiv j)) divV := ops_int (fun _ _ _ => .int _) fun i j h => of_decide_eq_true h
theorem os_mod : OpS K mg (rI (fun _ j => j ≠ 0) fun i j => .int (i.fmod j)) modV := ops_int (fun _ _ _ => .int _) fun i j h => of_decide_eq_true h
theorem os_pow : OpS K mg (rI CPow fun i j => .int (i ^ j.toNat)) powV := ops_int (fun _ _ _ => .int _) fun i j h => of_decide_eq_true h
theorem lst_of {g : Gh} {S : Sto} {H : Hp} (ok : Ok K mg g S H) {d : D} {v : V} {ds : List D} (r : Rep K mg g d v) (h : lstS S d = some ds) : ∃ a vs, v = .ref a ∧ H a = some (.lst vs) ∧ Reps K mg g ds vs := by
  cases r with
  | lst h1 h2 =>
    cases h
    exact ⟨_, _, rfl, ok.ex _ _ h1, h2⟩
  | @ref a n hm =>
    unfold lstS at h
    dsimp only at h
    cases q : S[n]? with
    | none => rw [q] at h; cases h
    | some o =>
      rw [q] at h
      cases o with
      | lst ds =>
        cases h
        obtain ⟨vs, h2, h3⟩ := ref_lst ok hm q
        exact ⟨_, _, rfl, h2, h3⟩
      | _ => cases h
  | _ => cases h
def rAddV (K : PySem.W.Frag) : R2 := fun x y H Q => (∃ i j, x = .int i ∧ y = .int j ∧ Q (.int (i + j)) H) ∨ ((∃ i j, x = .str i ∧ y = .str j ∧ i.length + j.length ≤ sizeLine ∧ Q (.str (i ++ j)) H) ∨ (rCatA K x y H Q ∨ rCat x y H Q))
theorem op_addV : OpR X (binaryOp .Add) (rAddV X.K) := OpR.or op_add (OpR.or op_add_str (OpR.or op_catA op_cat))
theorem os_add : OpS K mg (rAddV K) addV := by
  intro W σ g S H x y v u Q ok rx ry p
  unfold addV at p
  split at p
  · rename_i i j
    cases rx
    cases ry
    exact .inl ⟨i, j, rfl, rfl, p.now ok (.int _)⟩
  · rename_i a b
    cases rx
    cases ry
    split at p
    · rename_i hl
      exact .inr (.inl ⟨a, b, rfl, rfl, lims hl, p.now ok (.str _)⟩)
    · exact p.elim
  · rename_i a b
    split at p
    · rename_i hl
      cases rx with
      | @tup a1 vs ds h1 r1 =>
        cases ry with
        | @tup a2 us es h2 r2 =>
          refine .inr (.inr (.inl ⟨a1, a2, vs, us, rfl, rfl, ok.ex.t h1, ok.ex.t h2, by rw [← r1.length, ← r2.length]; exact lims hl, fun e => ?_, fun _ e => ?_, fun _ _ q hq => ?_⟩))
          · subst e
            cases r1
            exact p.now ok (.tup h2 r2)
          · subst e
            cases r2
            refine p.now ok (.tup h1 ?_)
            rw [List.append_nil]
            exact r1
          · obtain ⟨o, e⟩ := ok.newI (o := .tup (vs ++ us)) hq
            exact p.go e o (.tup (SqT.of upd_same) ((r1.append r2).mono e.le))
    · exact p.elim
  · rename_i x y _ _ _
    split at p
    · rename_i a b ha hb
      split at p
      · rename_i hl
        obtain ⟨a1, vs, rfl, h1, r1⟩ := lst_of ok rx ha
        obtain ⟨a2, us, rfl, h2, r2⟩ := lst_of ok ry hb
        refine .inr (.inr (.inr ⟨a1, a2, vs, us, rfl, rfl, h1, h2, by rw [← r1.length, ← r2.length]; exact lims hl, fun q hq => ?_⟩))
        obtain ⟨o, e⟩ := ok.newI (o := .lst (vs ++ us)) hq
        exact p.go e o (.lst upd_same ((r1.append r2).mono e.le))
      · exact p.elim
    · exact p.elim
end

/-! ### comparisons -/
def isScal : D → Bool
  | .bl _ => true
  | .int _ => true
  | .str _ => true
  | _ => false
/-- == of plain things -/
def scEq : D → D → Option Bool
  | .bl a, .bl b => some (decide (a = b))
  | .int a, .int b => some (decide (a = b))
  | .str a, .str b => some (decide (a = b))
  | .non, .non => some true
  | .non, .int _ => some false
  | .non, .bl _ => some false
  | .non, .str _ => some false
  | .int _, .non => some false
  | .bl _, .non => some false
  | .str _, .non => some false
  | .int _, .str _ => some false
  | .str _, .int _ => some false
  | .bl _, .str _ => some false
  | .str _, .bl _ => some false
  | _, _ => none
def dpEq (S : Sto) (x y : D) : Option Bool := match pyS S x, pyS S y with
  | some a, some b => if SeqAt.shaped a && SeqAt.shaped b then some (PyData.eqv a b) else none
  | _, _ => none
def eqB (S : Sto) (x y : D) : Option Bool := match scEq x y with
  | some b => some b
  | none => dpEq S x y
def oB (f : Bool → Bool) (o : Option Bool) (S : Sto) : RE D := match o with
  | some b => .ok (.bl (f b)) S
  | none => .fail
def eqV (x y : D) (S : Sto) : RE D := oB id (eqB S x y) S
def neV (x y : D) (S : Sto) : RE D := oB (!·) (eqB S x y) S
def rEqV (K : PySem.W.Frag) : R2 := fun x y H Q => rEq x y H Q ∨ rEqD K x y H Q
def rNeV (K : PySem.W.Frag) : R2 := fun x y H Q => rNe x y H Q ∨ rNeD K x y H Q
section
variable {K : PySem.W.Frag} {mg : Bk} {X : Cx}
theorem op_eqV (hu : X.A.units + 64 < cLine) : OpR X (compareOp .Eq) (rEqV X.K) := OpR.or op_eq (op_eqD hu)
theorem op_neV (hu : X.A.units + 64 < cLine) : OpR X (compareOp .NotEq) (rNeV X.K) := OpR.or op_ne (op_neD hu)
theorem scEq_of {g : Gh} {x y : D} {v u : V} {b : Bool} (rx : Rep K mg g x v) (ry : Rep K mg g y u) (h : scEq x y = some b) : scal v u = true ∧ decide (v = u) = b := by
  cases rx <;> cases ry <;> first
    | (cases h; exact ⟨rfl, dec_bl.trans (Bool.beq_eq_decide_eq _ _)⟩)
    | (cases h; exact ⟨rfl, dec_int.trans (Bool.beq_eq_decide_eq _ _)⟩)
    | (cases h; exact ⟨rfl, dec_str.trans (Bool.beq_eq_decide_eq _ _)⟩)
    | (cases h; exact ⟨rfl, rfl⟩)
    | (cases h; done)
theorem dpEq_of {g : Gh} {S : Sto} {H : Hp} {x y : D} {v u : V} {b : Bool} (ok : Ok K mg g S H) (rx : Rep K mg g x v) (ry : Rep K mg g y u) (h : dpEq S x y = some b) :
    ∃ d e, Dp K H v d ∧ Dp K H u e ∧ SeqAt.shaped d = true ∧ SeqAt.shaped e = true ∧ PyData.eqv d e = b := by
  unfold dpEq at h
  split at h
  · rename_i d e hd he
    split at h
    · rename_i hs
      rw [Bool.and_eq_true] at hs
      cases h
      exact ⟨d, e, dp_of ok rx hd, dp_of ok ry he, hs.1, hs.2, rfl⟩
    · cases h
  · cases h
theorem os_eq : OpS K mg (rEqV K) eqV := by
  intro W σ g S H x y v u Q ok rx ry p
  unfold eqV eqB at p
  cases h1 : scEq x y with
  | some b =>
    rw [h1] at p
    obtain ⟨h2, h3⟩ := scEq_of rx ry h1
    exact .inl ⟨h2, by rw [h3]; exact p.now ok (.bl b)⟩
  | none =>
    rw [h1] at p
    dsimp only at p
    cases h2 : dpEq S x y with
    | none => rw [h2] at p; exact p.elim
    | some b =>
      rw [h2] at p
      obtain ⟨d, e, h3, h4, h5, h6, h7⟩ := dpEq_of ok rx ry h2
      exact .inr ⟨d, e, h3, h4, h5, h6, by rw [h7]; exact p.now ok (.bl b)⟩
theorem os_ne : OpS K mg (rNeV K) neV := by
  intro W σ g S H x y v u Q ok rx ry p
  unfold neV eqB at p
  cases h1 : scEq x y with
  | some b =>
    rw [h1] at p
    obtain ⟨h2, h3⟩ := scEq_of rx ry h1
    exact .inl ⟨h2, by rw [h3]; exact p.now ok (.bl _)⟩
  | none =>
    rw [h1] at p
    dsimp only at p
    cases h2 : dpEq S x y with
    | none => rw [h2] at p; exact p.elim
    | some b =>
      rw [h2] at p
      obtain ⟨d, e, h3, h4, h5, h6, h7⟩ := dpEq_of ok rx ry h2
      exact .inr ⟨d, e, h3, h4, h5, h6, by rw [h7]; exact p.now ok (.bl _)⟩
end
/-- <, <=, >, >= of ints, of texts -/
def ordV (fi : Int → Int → Bool) (fs : List Nat → List Nat → Bool) (x y : D) (S : Sto) : RE D := match x, y with
  | .int i, .int j => .ok (.bl (fi i j)) S
  | .str a, .str b => .ok (.bl (fs a.cps.toList b.cps.toList)) S
  | _, _ => .fail
def ltV : D → D → Sto → RE D := ordV (fun i j => decide (i < j)) fun a b => decide (a < b)
def leV : D → D → Sto → RE D := ordV (fun i j => decide (i ≤ j)) fun a b => !decide (b < a)
def gtV : D → D → Sto → RE D := ordV (fun i j => decide (j < i)) fun a b => decide (b < a)
def geV : D → D → Sto → RE D := ordV (fun i j => decide (j ≤ i)) fun a b => !decide (a < b)
def rOrd (fi : Int → Int → Bool) (fs : List Nat → List Nat → Bool) : R2 := fun x y H Q => (∃ i j, x = .int i ∧ y = .int j ∧ Q (.bl (fi i j)) H) ∨ ∃ i j, x = .str i ∧ y = .str j ∧ Q (.bl (fs i.cps.toList j.cps.toList)) H
section
variable {K : PySem.W.Frag} {mg : Bk} {X : Cx}
theorem os_ord {fi : Int → Int → Bool} {fs : List Nat → List Nat → Bool} : OpS K mg (rOrd fi fs) (ordV fi fs) := by
  intro W σ g S H x y v u Q ok rx ry p
  unfold ordV at p
  split at p
  · cases rx
    cases ry
    exact .inl ⟨_, _, rfl, rfl, p.now ok (.bl _)⟩
  · cases rx
    cases ry
    exact .inr ⟨_, _, rfl, rfl, p.now ok (.bl _)⟩
  · exact p.elim
theorem op_ltV : OpR X (compareOp .Lt) (rOrd (fun i j => decide (i < j)) fun a b => decide (a < b)) := OpR.or op_lt op_lt_str
theorem op_leV : OpR X (compareOp .LtE) (rOrd (fun i j => decide (i ≤ j)) fun a b => !decide (b < a)) := OpR.or op_le op_le_str
theorem op_gtV : OpR X (compareOp .Gt) (rOrd (fun i j => decide (j < i)) fun a b => decide (b < a)) := OpR.or op_gt op_gt_str
theorem op_geV : OpR X (compareOp .GtE) (rOrd (fun i j => decide (j ≤ i)) fun a b => !decide (a < b)) := OpR.or op_ge op_ge_str
end
/-- is None -/
def isNon : D → Bool
  | .non => true
  | _ => false
def isV (x y : D) (S : Sto) : RE D := match y with
  | .non => .ok (.bl (isNon x)) S
  | _ => .fail
def isntV (x y : D) (S : Sto) : RE D := match y with
  | .non => .ok (.bl (!isNon x)) S
  | _ => .fail
section
variable {K : PySem.W.Frag} {mg : Bk} {X : Cx}
theorem isNon_of {g : Gh} {x : D} {v : V} (r : Rep K mg g x v) : decide (v = .non) = isNon x := by
  cases r <;> rfl
theorem os_is : OpS K mg (fun x y H Q => y = .non ∧ Q (.bl (decide (x = .non))) H) isV := by
  intro W σ g S H x y v u Q ok rx ry p
  unfold isV at p
  split at p
  · cases ry
    exact ⟨rfl, by rw [isNon_of rx]; exact p.now ok (.bl _)⟩
  · exact p.elim
theorem os_isnt : OpS K mg (fun x y H Q => y = .non ∧ Q (.bl (!decide (x = .non))) H) isntV := by
  intro W σ g S H x y v u Q ok rx ry p
  unfold isntV at p
  split at p
  · cases ry
    exact ⟨rfl, by rw [isNon_of rx]; exact p.now ok (.bl _)⟩
  · exact p.elim
end

/-! ### in -/
def flatD : D → Bool
  | .non => true
  | .bl _ => true
  | .int _ => true
  | .str _ => true
  | _ => false
def eqF : D → D → Bool
  | .non, .non => true
  | .bl a, .bl b => a == b
  | .int a, .int b => a == b
  | .str a, .str b => a == b
  | .bl a, .int j => (if a then 1 else 0) == j
  | .int i, .bl b => i == (if b then 1 else 0)
  | _, _ => false
/-- among things that are flat; in general -/
def inB (S : Sto) (x y : D) : Option Bool := match y with
  | .str b => (match x with
    | .str a => some (!(Builtin.Str.occurrences b a 0 b.length 1).isEmpty)
    | _ => none)
  | y => (match seqS S y with
    | some ds => if flatD x && ds.all flatD then some (ds.any fun z => eqF z x) else (match x.py, pys ds with
      | some d, some es => if SeqAt.shaped d && (SeqAt.shaped (.list es) && !isT y) then some (es.any fun z => PyData.eqv z d) else none
      | _, _ => none)
    | none => none)
where
  isT : D → Bool
    | .tup _ => true
    | _ => false
def inV (x y : D) (S : Sto) : RE D := oB id (inB S x y) S
def notInV (x y : D) (S : Sto) : RE D := oB (!·) (inB S x y) S
def rInV (K : PySem.W.Frag) : R2 := fun x y H Q => (∃ i j, x = .str i ∧ y = .str j ∧ Q (.bl (!(Builtin.Str.occurrences j i 0 j.length 1).isEmpty)) H) ∨ (rIn K false x y H Q ∨ rInD K x y H Q)
def rNotInV (K : PySem.W.Frag) : R2 := fun x y H Q => (∃ i j, x = .str i ∧ y = .str j ∧ Q (.bl (!(!(Builtin.Str.occurrences j i 0 j.length 1).isEmpty))) H) ∨ (rIn K true x y H Q ∨ rNotInD K x y H Q)
section
variable {K : PySem.W.Frag} {mg : Bk} {X : Cx} {g : Gh} {S : Sto} {H : Hp}
theorem op_inV (hu : X.A.units + 65 < cLine) : OpR X (compareOp .In) (rInV X.K) := OpR.or op_in_str (OpR.or op_in_seq (op_inD hu))
theorem op_nInV (hu : X.A.units + 65 < cLine) : OpR X (compareOp .NotIn) (rNotInV X.K) := OpR.or op_notin_str (OpR.or op_notIn_seq (op_notInD hu))
theorem flat_of {d : D} {v : V} (r : Rep K mg g d v) (h : flatD d = true) : flatV v = true := by
  cases r <;> first | rfl | exact absurd h Bool.false_ne_true
theorem eqF_of {x y : D} {v u : V} (rx : Rep K mg g x v) (ry : Rep K mg g y u) (hx : flatD x = true) (hy : flatD y = true) : L2.eqV v u = eqF x y := by
  cases rx <;> cases ry <;> first | rfl | exact absurd hx Bool.false_ne_true | exact absurd hy Bool.false_ne_true
theorem flats_of : ∀ {ds : List D} {vs : List V}, Reps K mg g ds vs → ds.all flatD = true → vs.all flatV = true
  | _, _, .nil, _ => rfl
  | _, _, .cons r t, h => by
    rw [List.all_cons, Bool.and_eq_true] at h
    rw [List.all_cons, flat_of r h.1, flats_of t h.2]
    rfl
theorem any_of {x : D} {v : V} (rx : Rep K mg g x v) (hx : flatD x = true) : ∀ {ds : List D} {vs : List V}, Reps K mg g ds vs → ds.all flatD = true → L2.inV v vs = ds.any fun z => eqF z x
  | _, _, .nil, _ => rfl
  | _, _, .cons r t, h => by
    rw [List.all_cons, Bool.and_eq_true] at h
    have e := any_of rx hx t h.2
    unfold L2.inV at e ⊢
    rw [List.any_cons, List.any_cons, e, eqF_of r rx h.1 hx]
theorem inB_of {x y : D} {v u : V} {b : Bool} (ok : Ok K mg g S H) (rx : Rep K mg g x v) (ry : Rep K mg g y u) (h : inB S x y = some b) :
    (∃ i j, v = .str i ∧ u = .str j ∧ (!(Builtin.Str.occurrences j i 0 j.length 1).isEmpty) = b) ∨ ((∃ p xs, u = .ref p ∧ (SqL K H p xs ∨ SqT K H p xs) ∧ flatV v = true ∧ xs.all flatV = true ∧ L2.inV v xs = b) ∨
      ∃ d ds, Dp K H v d ∧ Dp K H u (.list ds) ∧ SeqAt.shaped d = true ∧ SeqAt.shaped (.list ds) = true ∧ (ds.any fun z => PyData.eqv z d) = b) := by
  unfold inB at h
  split at h
  · split at h
    · cases rx
      cases ry
      cases h
      exact .inl ⟨_, _, rfl, rfl, rfl⟩
    · cases h
  · split at h
    · rename_i ds hs
      split at h
      · rename_i hf
        rw [Bool.and_eq_true] at hf
        obtain ⟨a, vs, rfl, hq, rq⟩ := seq_of ok ry hs
        cases h
        exact .inr (.inl ⟨a, vs, rfl, hq, flat_of rx hf.1, flats_of rq hf.2, any_of rx hf.1 rq hf.2⟩)
      · split at h
        · rename_i d es hd he
          split at h
          · rename_i hsh
            rw [Bool.and_eq_true, Bool.and_eq_true] at hsh
            cases h
            have hl : pyS S y = some (.list es) := by
              unfold pyS
              cases y with
              | tup _ => exact absurd hsh.2.2 (by simp [inB.isT])
              | lst _ => cases hs; simp [D.py, he]
              | frl _ => cases hs; simp [D.py, he]
              | ref n =>
                unfold seqS at hs
                dsimp only at hs ⊢
                split at hs
                · cases hs
                  rw [he]
                  rfl
                · cases hs
              | _ => cases hs
            exact .inr (.inr ⟨d, es, rx.dp ok.ex hd, dp_of ok ry hl, hsh.1, hsh.2.1, rfl⟩)
          · cases h
        · cases h
    · cases h
theorem os_in : OpS K mg (rInV K) Dn.inV := by
  intro W σ g S H x y v u Q ok rx ry p
  unfold Dn.inV at p
  cases h : inB S x y with
  | none => rw [h] at p; exact p.elim
  | some b =>
    rw [h] at p
    rcases inB_of ok rx ry h with ⟨i, j, h1, h2, h3⟩ | ⟨q, xs, h1, h2, h3, h4, h5⟩ | ⟨d, ds, h1, h2, h3, h4, h5⟩
    · exact .inl ⟨i, j, h1, h2, by rw [h3]; exact p.now ok (.bl _)⟩
    · exact .inr (.inl ⟨q, xs, h1, h2, h3, h4, by rw [h5]; exact p.now ok (.bl _)⟩)
    · exact .inr (.inr ⟨d, ds, h1, h2, h3, h4, by rw [h5]; exact p.now ok (.bl _)⟩)
theorem os_nin : OpS K mg (rNotInV K) Dn.notInV := by
  intro W σ g S H x y v u Q ok rx ry p
  unfold Dn.notInV at p
  cases h : inB S x y with
  | none => rw [h] at p; exact p.elim
  | some b =>
    rw [h] at p
    rcases inB_of ok rx ry h with ⟨i, j, h1, h2, h3⟩ | ⟨q, xs, h1, h2, h3, h4, h5⟩ | ⟨d, ds, h1, h2, h3, h4, h5⟩
    · exact .inl ⟨i, j, h1, h2, by rw [h3]; exact p.now ok (.bl _)⟩
    · exact .inr (.inl ⟨q, xs, h1, h2, h3, h4, by rw [h5]; exact p.now ok (.bl _)⟩)
    · exact .inr (.inr ⟨d, ds, h1, h2, h3, h4, by rw [h5]; exact p.now ok (.bl _)⟩)
end

/-! ### items, slices -/
def ixV (x y : D) (S : Sto) : RE D := match y with
  | .int i => (match x with
    | .str z => if LIMS z.length = true then (match atI z.cps.toList i with
      | some c => .ok (.str ⟨#[c]⟩) S
      | none => .fail) else .fail
    | x => (match seqS S x with
      | some ds => (match atI ds i with
        | some d => .ok d S
        | none => .fail)
      | none => .fail))
  | _ => .fail
section
variable {K : PySem.W.Frag} {mg : Bk} {X : Cx} {g : Gh} {S : Sto} {H : Hp} {a b : Expr} {pos p2 : Pos} {da db : DE D} {W : WX}
theorem Reps.atI {ds : List D} {vs : List V} {i : Int} {d : D} (r : Reps K mg g ds vs) (h : L2.atI ds i = some d) : ∃ v, L2.atI vs i = some v ∧ Rep K mg g d v := by
  unfold L2.atI at h ⊢
  rw [← r.length]
  cases q : ixN ds.length i with
  | none => rw [q] at h; cases h
  | some j =>
    rw [q] at h
    exact r.get h
theorem u_ix (ha : PE X a (UE X.K mg W da)) (hb : PE X b (UE X.K mg W db)) (hs : PlainIx b) : PE X (.Subscript a b pos) (UE X.K mg W (dOp ixV da db)) :=
  (pe_ix ix_seq ha hb hs).imp fun σ H Q ⟨env, S, g, h, p⟩ => by
    obtain ⟨env1, S1, g1, h1, p1⟩ := U.seq h p
    refine ⟨env1, S1, g1, h1, p1.imp fun v H1 ⟨g2, S2, x, e2, h2, r2, p2⟩ => ?_⟩
    obtain ⟨env3, S3, g3, h3, p3⟩ := U.seq h2 p2
    refine ⟨env3, S3, g3, h3, p3.imp fun u H2 ⟨g4, S4, y, e4, h4, r4, p4⟩ => ?_⟩
    have rx := r2.mono e4.le
    unfold ixV at p4
    split at p4
    · rename_i i
      cases r4
      split at p4
      · cases rx
        split at p4
        · rename_i hl
          split at p4
          · rename_i c hc
            exact .inr (.inr ⟨_, i, c, rfl, rfl, lims hl, hc, p4.now h4.ok (.str _)⟩)
          · exact p4.elim
        · exact p4.elim
      · split at p4
        · rename_i ds hs
          split at p4
          · rename_i d hd
            obtain ⟨q, vs, rfl, hq, rq⟩ := seq_of h4.ok rx hs
            obtain ⟨w, hw, rw'⟩ := rq.atI hd
            rcases hq with hq | hq
            · exact .inl ⟨q, vs, i, w, rfl, rfl, hq, hw, p4.now h4.ok rw'⟩
            · exact .inr (.inl ⟨q, vs, i, w, rfl, rfl, hq, hw, p4.now h4.ok rw'⟩)
          · exact p4.elim
        · exact p4.elim
    · exact p4.elim
/-- x[lo:hi] -/
def cutD (xs : List D) (lo hi : Option Int) : List D := (xs.drop (HT.sIx xs.length 0 lo)).take (HT.sIx xs.length xs.length hi - HT.sIx xs.length 0 lo)
def sliV (x : D) (lo hi : Option Int) (S : Sto) : RE D := match x with
  | .str z => if LIMS z.length = true then .ok (.str (Txt.slice z lo hi)) S else .fail
  | .tup ds => .ok (.tup (cutD ds lo hi)) S
  | x => (match seqL S x with
    | some ds => .ok (.lst (cutD ds lo hi)) S
    | none => .fail)
def oInt (x : D) (S : Sto) : RE (Option Int) := match x with
  | .int i => .ok (some i) S
  | _ => .fail
def dPart (e : DE D) : DE (Option Int) := fun env S => (e env S).bind oInt
def dNoP : DE (Option Int) := fun _ S => .ok none S
def dSl (x : DE D) (lo hi : DE (Option Int)) : DE D := fun env S => (x env S).bind fun d S1 => (lo env S1).bind fun l S2 => (hi env S2).bind fun u S3 => sliV d l u S3
abbrev RO : Gh → Option Int → Option Int → Prop := fun _ a b => a = b
abbrev UO (K : PySem.W.Frag) (mg : Bk) (W : WX) (de : DE (Option Int)) : TO := U K mg W RO de
theorem PO.imp {e : Option Expr} {t t' : TO} (h : PO X e t) (i : ∀ σ H Q, t' σ H Q → t σ H Q) : PO X e t' := by
  obtain ⟨h⟩ := h
  exact ⟨fun pins s σ H Q I q => h pins s σ H Q I (i σ H Q q)⟩
theorem uo_none : PO X none (UO K mg W dNoP) := PO.imp po_none fun σ H Q ⟨env, S, g, h, p⟩ => p.now h.ok rfl
theorem uo_some (he : PE X a (UE K mg W da)) : PO X (some a) (UO K mg W (dPart da)) := PO.imp (po_some he) fun σ H Q ⟨env, S, g, h, p⟩ => by
  obtain ⟨env1, S1, g1, h1, p1⟩ := U.seq h p
  refine ⟨env1, S1, g1, h1, p1.imp fun v H1 ⟨g2, S2, x, e2, h2, r2, p2⟩ => ?_⟩
  cases r2 with
  | int i => exact ⟨i, rfl, p2.now h2.ok rfl⟩
  | _ => exact p2.elim
theorem Reps.cut {ds : List D} {vs : List V} (r : Reps K mg g ds vs) (lo hi : Option Int) : Reps K mg g (cutD ds lo hi) (cutV vs lo hi) := by
  unfold cutD cutV
  rw [← r.length]
  exact (r.drop _).take _
def rSlV (K : PySem.W.Frag) : V → Option Int → Option Int → Hp → VK → Prop := fun x lo hi H Q => C8.rSlX x lo hi H Q ∨ (rSlA K x lo hi H Q ∨ rSlL K x lo hi H Q)
theorem sl_V : SlR X (rSlV X.K) := SlR.or C8.sl_txt (SlR.or sl_tupA sl_list)
theorem u_sl {lo hi : Option Expr} {dl dh : DE (Option Int)} (ha : PE X a (UE X.K mg W da)) (hl : PO X lo (UO X.K mg W dl)) (hh : PO X hi (UO X.K mg W dh)) : PE X (.Subscript a (.Slice lo hi none p2) pos) (UE X.K mg W (dSl da dl dh)) :=
  (pe_slice sl_V ha hl hh).imp fun σ H Q ⟨env, S, g, h, p⟩ => by
    obtain ⟨env1, S1, g1, h1, p1⟩ := U.seq h p
    refine ⟨env1, S1, g1, h1, p1.imp fun v H1 ⟨g2, S2, x, e2, h2, r2, p2⟩ => ?_⟩
    obtain ⟨env3, S3, g3, h3, p3⟩ := U.seq h2 p2
    refine ⟨env3, S3, g3, h3, p3.imp fun l H2 ⟨g4, S4, y, e4, h4, r4, p4⟩ => ?_⟩
    cases r4
    obtain ⟨env5, S5, g5, h5, p5⟩ := U.seq h4 p4
    refine ⟨env5, S5, g5, h5, p5.imp fun u H3 ⟨g6, S6, z, e6, h6, r6, p6⟩ => ?_⟩
    cases r6
    have rx := (r2.mono e4.le).mono e6.le
    unfold sliV at p6
    split at p6
    · cases rx
      split at p6
      · rename_i hl
        exact .inl ⟨_, rfl, lims hl, p6.now h6.ok (.str _)⟩
      · exact p6.elim
    · cases rx with
      | @tup q vs ds hq rq =>
        refine .inr (.inl ⟨q, vs, rfl, h6.ok.ex.t hq, fun e => ?_, fun _ c hc => ?_⟩)
        · have hcut : cutV vs l u = vs := by
            unfold cutV
            rw [e.1, e.2]
            simp
          have hr := rq.cut l u
          rw [hcut] at hr
          exact p6.now h6.ok (.tup hq hr)
        · obtain ⟨o, e⟩ := h6.ok.newI (o := .tup (cutV vs l u)) hc
          exact p6.go e o (.tup (SqT.of upd_same) ((rq.cut l u).mono e.le))
    · rename_i hn
      split at p6
      · rename_i ds hs
        obtain ⟨q, vs, rfl, hq, rq⟩ := seqL_of h6.ok rx hs
        refine .inr (.inr ⟨q, vs, rfl, hq, fun c hc => ?_⟩)
        obtain ⟨o, e⟩ := h6.ok.newI (o := .lst (cutV vs l u)) hc
        exact p6.go e o (.lst upd_same ((rq.cut l u).mono e.le))
      · exact p6.elim
end
end Dn

set_option Elab.async false
set_option linter.all false
set_option maxRecDepth 100000
set_option maxHeartbeats 2000000
/-! Dn6: calls of what is built in, methods, items that are set -/
namespace Dn
open PySem PySem.Spec PyProof.Rows L2

def lenV (xs : List D) (S : Sto) : RE D := match xs with
  | [.str z] => if LIMS z.length = true then .ok (.int z.length) S else .fail
  | [x] => (match seqS S x with
    | some ds => .ok (.int ds.length) S
    | none => .fail)
  | _ => .fail
def tyN (S : Sto) : D → Option String
  | .non => some "NoneType"
  | .bl _ => some "bool"
  | .int _ => some "int"
  | .str _ => some "str"
  | .tup _ => some "tuple"
  | .lst _ => some "list"
  | .frl _ => some "list"
  | .ref n => (match S[n]? with
    | some (.lst _) => some "list"
    | _ => none)
  | _ => none
def isiV (xs : List D) (S : Sto) : RE D := match xs with
  | [x, .ty t] => (match tyN S x with
    | some a => (match kitB a t with
      | some b => .ok (.bl b) S
      | none => .fail)
    | none => .fail)
  | _ => .fail
def blsD : List D → Option (List Bool)
  | [] => some []
  | .bl b :: ds => (blsD ds).map fun bs => b :: bs
  | _ :: _ => none
def intsD : List D → Option (List Int)
  | [] => some []
  | .int b :: ds => (intsD ds).map fun bs => b :: bs
  | _ :: _ => none
def strsD : List D → Option (List Str)
  | [] => some []
  | .str b :: ds => (strsD ds).map fun bs => b :: bs
  | _ :: _ => none
def allV (xs : List D) (S : Sto) : RE D := match xs with
  | [x] => (match (seqL S x).bind blsD with
    | some bs => .ok (.bl (bs.all id)) S
    | none => .fail)
  | _ => .fail
def anyV (xs : List D) (S : Sto) : RE D := match xs with
  | [x] => (match (seqL S x).bind blsD with
    | some bs => .ok (.bl (bs.any id)) S
    | none => .fail)
  | _ => .fail
def tupleV (xs : List D) (S : Sto) : RE D := match xs with
  | [.tup ds] => .ok (.tup ds) S
  | [x] => (match seqL S x with
    | some ds => .ok (.tup ds) S
    | none => .fail)
  | _ => .fail
def listV (xs : List D) (S : Sto) : RE D := match xs with
  | [x] => (match seqS S x with
    | some ds => .ok (.lst ds) S
    | none => .fail)
  | _ => .fail
/-- a list of the store -/
def listVM (xs : List D) (S : Sto) : RE D := match xs with
  | [x] => (match seqS S x with
    | some ds => .ok (.ref S.length) (S ++ [.lst ds])
    | none => .fail)
  | _ => .fail
def mxI : List Int → Int
  | [] => 0
  | x :: xs => xs.foldl max x
def mnI : List Int → Int
  | [] => 0
  | x :: xs => xs.foldl min x
def maxV (xs : List D) (S : Sto) : RE D := match xs with
  | [.int i, .int j] => .ok (.int (if j > i then j else i)) S
  | [x] => (match (seqL S x).bind intsD with
    | some (i :: is) => .ok (.int (mxI (i :: is))) S
    | _ => .fail)
  | _ => .fail
def minV (xs : List D) (S : Sto) : RE D := match xs with
  | [.int i, .int j] => .ok (.int (if j < i then j else i)) S
  | [x] => (match (seqL S x).bind intsD with
    | some (i :: is) => .ok (.int (mnI (i :: is))) S
    | _ => .fail)
  | _ => .fail
def absV (xs : List D) (S : Sto) : RE D := match xs with
  | [.int i] => .ok (.int (if i < 0 then -i else i)) S
  | _ => .fail
def intV (xs : List D) (S : Sto) : RE D := match xs with
  | [.int i] => .ok (.int i) S
  | [.bl k] => .ok (.int (if k then 1 else 0)) S
  | _ => .fail
def strV (xs : List D) (S : Sto) : RE D := match xs with
  | [.int i] => if i.natAbs.log2 < 1920 then .ok (.str (toString i)) S else .fail
  | [.str a] => .ok (.str a) S
  | _ => .fail
def divmodV (xs : List D) (S : Sto) : RE D := match xs with
  | [.int i, .int j] => if 0 < j ∧ j < 1073741824 ∧ 0 ≤ i then .ok (.tup [.int (i / j), .int (i % j)]) S else .fail
  | _ => .fail

section
variable {K : PySem.W.Frag} {mg : Bk} {g : Gh} {S : Sto} {H : Hp} {X : Cx} {W : WX} {σ : L2.St}
theorem Reps.one {x : D} {vs : List V} (r : Reps K mg g [x] vs) : ∃ v, vs = [v] ∧ Rep K mg g x v := by
  cases r with
  | cons r1 r2 => cases r2; exact ⟨_, rfl, r1⟩
theorem Reps.two {x y : D} {vs : List V} (r : Reps K mg g [x, y] vs) : ∃ v u, vs = [v, u] ∧ Rep K mg g x v ∧ Rep K mg g y u := by
  cases r with
  | cons r1 r2 =>
    cases r2 with
    | cons r3 r4 => cases r4; exact ⟨_, _, rfl, r1, r3⟩
theorem bls_of : ∀ {ds : List D} {vs : List V} {bs : List Bool}, Reps K mg g ds vs → blsD ds = some bs → vs = bs.map V.bl
  | [], _, bs, .nil, h => by cases h; rfl
  | d :: ds, _, bs, .cons r t, h => by
    cases d with
    | bl b =>
      obtain ⟨cs, h1, rfl⟩ := Option.map_eq_some_iff.mp h
      cases r
      rw [bls_of t h1]
      rfl
    | _ => cases h
theorem ints_of : ∀ {ds : List D} {vs : List V} {bs : List Int}, Reps K mg g ds vs → intsD ds = some bs → vs = bs.map V.int
  | [], _, bs, .nil, h => by cases h; rfl
  | d :: ds, _, bs, .cons r t, h => by
    cases d with
    | int b =>
      obtain ⟨cs, h1, rfl⟩ := Option.map_eq_some_iff.mp h
      cases r
      rw [ints_of t h1]
      rfl
    | _ => cases h
theorem strs_of : ∀ {ds : List D} {vs : List V} {bs : List Str}, Reps K mg g ds vs → strsD ds = some bs → vs = bs.map V.str
  | [], _, bs, .nil, h => by cases h; rfl
  | d :: ds, _, bs, .cons r t, h => by
    cases d with
    | str b =>
      obtain ⟨cs, h1, rfl⟩ := Option.map_eq_some_iff.mp h
      cases r
      rw [strs_of t h1]
      rfl
    | _ => cases h
theorem le_foldl_max : ∀ (xs : List Int) (x : Int), x ≤ xs.foldl max x ∧ (∀ y ∈ xs, y ≤ xs.foldl max x) ∧ (xs.foldl max x = x ∨ xs.foldl max x ∈ xs)
  | [], x => ⟨Int.le_refl _, (fun _ h => nomatch h), .inl rfl⟩
  | y :: ys, x => by
    obtain ⟨h1, h2, h3⟩ := le_foldl_max ys (max x y)
    refine ⟨by rw [List.foldl_cons]; omega, fun z hz => ?_, ?_⟩
    · rw [List.foldl_cons]
      rcases List.mem_cons.mp hz with e | e
      · subst e; omega
      · exact h2 z e
    · rw [List.foldl_cons]
      rcases h3 with e | e
      · rw [e]
        rcases Int.le_total x y with h | h
        · right; rw [Int.max_eq_right h]; exact List.mem_cons_self
        · left; rw [Int.max_eq_left h]
      · exact .inr (List.mem_cons_of_mem _ e)
theorem le_foldl_min : ∀ (xs : List Int) (x : Int), xs.foldl min x ≤ x ∧ (∀ y ∈ xs, xs.foldl min x ≤ y) ∧ (xs.foldl min x = x ∨ xs.foldl min x ∈ xs)
  | [], x => ⟨Int.le_refl _, (fun _ h => nomatch h), .inl rfl⟩
  | y :: ys, x => by
    obtain ⟨h1, h2, h3⟩ := le_foldl_min ys (min x y)
    refine ⟨by rw [List.foldl_cons]; omega, fun z hz => ?_, ?_⟩
    · rw [List.foldl_cons]
      rcases List.mem_cons.mp hz with e | e
      · subst e; omega
      · exact h2 z e
    · rw [List.foldl_cons]
      rcases h3 with e | e
      · rw [e]
        rcases Int.le_total x y with h | h
        · left; rw [Int.min_eq_left h]
        · right; rw [Int.min_eq_right h]; exact List.mem_cons_self
      · exact .inr (List.mem_cons_of_mem _ e)
theorem mxI_le {i : Int} {is : List Int} : ∀ y ∈ i :: is, y ≤ mxI (i :: is) := fun y hy => by
  obtain ⟨h1, h2, _⟩ := le_foldl_max is i
  rcases List.mem_cons.mp hy with e | e
  · subst e; exact h1
  · exact h2 y e
theorem mxI_mem {i : Int} {is : List Int} : mxI (i :: is) ∈ i :: is := by
  obtain ⟨_, _, h⟩ := le_foldl_max is i
  rcases h with e | e
  · rw [show mxI (i :: is) = i from e]; exact List.mem_cons_self
  · exact List.mem_cons_of_mem _ e
theorem mnI_le {i : Int} {is : List Int} : ∀ y ∈ i :: is, mnI (i :: is) ≤ y := fun y hy => by
  obtain ⟨h1, h2, _⟩ := le_foldl_min is i
  rcases List.mem_cons.mp hy with e | e
  · subst e; exact h1
  · exact h2 y e
theorem mnI_mem {i : Int} {is : List Int} : mnI (i :: is) ∈ i :: is := by
  obtain ⟨_, _, h⟩ := le_foldl_min is i
  rcases h with e | e
  · rw [show mnI (i :: is) = i from e]; exact List.mem_cons_self
  · exact List.mem_cons_of_mem _ e

def rLenV (K : PySem.W.Frag) : List V → Hp → VK → Prop := fun xs H Q => (∃ p ys, xs = [.ref p] ∧ (SqL K H p ys ∨ SqT K H p ys) ∧ Q (.int ys.length) H) ∨ ∃ z, xs = [.str z] ∧ z.length ≤ sizeLine ∧ Q (.int z.length) H
theorem call_lenV : CallR X (.builtin "len") (rLenV X.K) := CallR.or call_len_seq call_len_str
theorem cs_len : CaS K mg (rLenV K) lenV := by
  intro W σ g S H xs vs Q ok r p
  unfold lenV at p
  split at p
  · split at p
    · rename_i h
      obtain ⟨v, rfl, rv⟩ := r.one
      cases rv
      exact .inr ⟨_, rfl, lims h, p.now ok (.int _)⟩
    · exact p.elim
  · split at p
    · rename_i ds hs
      obtain ⟨v, rfl, rv⟩ := r.one
      obtain ⟨a, us, rfl, hq, rq⟩ := seq_of ok rv hs
      refine .inl ⟨a, us, rfl, hq, ?_⟩
      rw [← rq.length]
      exact p.now ok (.int _)
    · exact p.elim
  · exact p.elim
theorem ty_of (ok : Ok K mg g S H) {x : D} {v : V} {a : String} (r : Rep K mg g x v) (h : tyN S x = some a) : TyX K H v (.type a) := by
  cases r with
  | non => cases h; exact .base .non
  | bl b => cases h; exact .base (.bl b)
  | int b => cases h; exact .base (.int b)
  | str b => cases h; exact .base (.str b)
  | tup hq r =>
    cases h
    rcases ok.ex.t hq with q | ⟨o, its, n, q1, q2, q3⟩
    · rcases q with q | ⟨o, q⟩
      · exact .base (.tup q)
      · exact .fTuple q
    · exact .kTuple q1 q2
  | lst hq r =>
    cases h
    exact .base (.lst (ok.ex _ _ hq))
  | frl hq r =>
    cases h
    rcases ok.ex.l hq with q | ⟨o, its, n, q1, q2, q3⟩
    · rcases q with q | ⟨o, q⟩
      · exact .base (.lst q)
      · exact .base (.frz q)
    · exact .kList q1 q2
  | @ref b n hm =>
    unfold tyN at h
    dsimp only at h
    cases q : S[n]? with
    | none => rw [q] at h; cases h
    | some o =>
      rw [q] at h
      cases o with
      | lst ds =>
        cases h
        obtain ⟨vs, h1, _⟩ := ref_lst ok hm q
        exact .base (.lst h1)
      | _ => cases h
  | _ => cases h
theorem cs_isi : CaS K mg (rIsi K) isiV := by
  intro W σ g S H xs vs Q ok r p
  unfold isiV at p
  split at p
  · rename_i x t
    split at p
    · rename_i a ha
      split at p
      · rename_i b hb
        obtain ⟨v, u, rfl, rv, ru⟩ := r.two
        cases ru
        exact ⟨v, .ty t, .type a, .type t, b, rfl, .ty t, ty_of ok rv ha, kit_ty hb, p.now ok (.bl b)⟩
      · exact p.elim
    · exact p.elim
  · exact p.elim
theorem cs_all : CaS K mg (rAll K) allV := by
  intro W σ g S H xs vs Q ok r p
  unfold allV at p
  split at p
  · split at p
    · rename_i bs hb
      obtain ⟨ds, h1, h2⟩ := Option.bind_eq_some_iff.mp hb
      obtain ⟨v, rfl, rv⟩ := r.one
      obtain ⟨a, us, rfl, hq, rq⟩ := seqL_of ok rv h1
      rw [bls_of rq h2] at hq
      exact ⟨a, bs, rfl, hq, p.now ok (.bl _)⟩
    · exact p.elim
  · exact p.elim
theorem cs_any : CaS K mg (rAny K) anyV := by
  intro W σ g S H xs vs Q ok r p
  unfold anyV at p
  split at p
  · split at p
    · rename_i bs hb
      obtain ⟨ds, h1, h2⟩ := Option.bind_eq_some_iff.mp hb
      obtain ⟨v, rfl, rv⟩ := r.one
      obtain ⟨a, us, rfl, hq, rq⟩ := seqL_of ok rv h1
      rw [bls_of rq h2] at hq
      exact ⟨a, bs, rfl, hq, p.now ok (.bl _)⟩
    · exact p.elim
  · exact p.elim
def rTupV (K : PySem.W.Frag) : List V → Hp → VK → Prop := fun xs H Q => ∃ p ys, xs = [.ref p] ∧ ((SqL K H p ys ∧ ∀ l, H l = none → Q (.ref l) (upd H l (.tup ys))) ∨ (SqT K H p ys ∧ Q (.ref p) H))
theorem cs_tuple : CaS K mg (rTupV K) tupleV := by
  intro W σ g S H xs vs Q ok r p
  unfold tupleV at p
  split at p
  · obtain ⟨v, rfl, rv⟩ := r.one
    cases rv with
    | tup hq rq => exact ⟨_, _, rfl, .inr ⟨ok.ex.t hq, p.now ok (.tup hq rq)⟩⟩
  · split at p
    · rename_i ds hs
      obtain ⟨v, rfl, rv⟩ := r.one
      obtain ⟨a, us, rfl, hq, rq⟩ := seqL_of ok rv hs
      refine ⟨a, us, rfl, .inl ⟨hq, fun l hl => ?_⟩⟩
      obtain ⟨o, e⟩ := ok.newI (o := .tup us) hl
      exact p.go e o (.tup (SqT.of upd_same) (rq.mono e.le))
    · exact p.elim
  · exact p.elim
def rListV (K : PySem.W.Frag) : List V → Hp → VK → Prop := fun xs H Q => ∃ p ys, xs = [.ref p] ∧ (SqL K H p ys ∨ SqT K H p ys) ∧ ∀ l, H l = none → Q (.ref l) (upd H l (.lst ys))
theorem cs_list : CaS K mg (rListV K) listV := by
  intro W σ g S H xs vs Q ok r p
  unfold listV at p
  split at p
  · split at p
    · rename_i ds hs
      obtain ⟨v, rfl, rv⟩ := r.one
      obtain ⟨a, us, rfl, hq, rq⟩ := seq_of ok rv hs
      refine ⟨a, us, rfl, hq, fun l hl => ?_⟩
      obtain ⟨o, e⟩ := ok.newI (o := .lst us) hl
      exact p.go e o (.lst upd_same (rq.mono e.le))
    · exact p.elim
  · exact p.elim
theorem cs_listM : CaS K mg (rListV K) listVM := by
  intro W σ g S H xs vs Q ok r p
  unfold listVM at p
  split at p
  · split at p
    · rename_i ds hs
      obtain ⟨v, rfl, rv⟩ := r.one
      obtain ⟨a, us, rfl, hq, rq⟩ := seq_of ok rv hs
      refine ⟨a, us, rfl, hq, fun l hl => ?_⟩
      obtain ⟨o, e⟩ := ok.newM (o := .lst us) (so := .lst ds) hl (by intro z; cases z) fun g' le => ⟨us, upd_same, rq.mono le⟩
      refine p.go e o (.ref ?_)
      show (g.mu ++ [l])[S.length]? = some l
      rw [← ok.len]
      exact List.getElem?_concat_length
    · exact p.elim
  · exact p.elim
def rMaxV (K : PySem.W.Frag) : List V → Hp → VK → Prop := fun xs H Q => (∃ i j, xs = [.int i, .int j] ∧ Q (.int (if j > i then j else i)) H) ∨ rMax K xs H Q
def rMinV (K : PySem.W.Frag) : List V → Hp → VK → Prop := fun xs H Q => (∃ i j, xs = [.int i, .int j] ∧ Q (.int (if j < i then j else i)) H) ∨ rMin K xs H Q
theorem call_maxV (hc : X.calm = true) : CallR X (.builtin "max") (rMaxV X.K) := CallR.or (call_max2 hc) (cr_max hc)
theorem call_minV (hc : X.calm = true) : CallR X (.builtin "min") (rMinV X.K) := CallR.or (call_min2 hc) (cr_min hc)
theorem cs_max : CaS K mg (rMaxV K) maxV := by
  intro W σ g S H xs vs Q ok r p
  unfold maxV at p
  split at p
  · obtain ⟨v, u, rfl, rv, ru⟩ := r.two
    cases rv
    cases ru
    exact .inl ⟨_, _, rfl, p.now ok (.int _)⟩
  · split at p
    · rename_i i is hb
      obtain ⟨ds, h1, h2⟩ := Option.bind_eq_some_iff.mp hb
      obtain ⟨v, rfl, rv⟩ := r.one
      obtain ⟨a, us, rfl, hq, rq⟩ := seqL_of ok rv h1
      rw [ints_of rq h2] at hq
      refine .inr ⟨a, _, rfl, hq, by simp, fun m hm hle => ?_⟩
      have e : m = mxI (i :: is) := Int.le_antisymm (mxI_le m hm) (hle _ mxI_mem)
      rw [e]
      exact p.now ok (.int _)
    · exact p.elim
  · exact p.elim
theorem cs_min : CaS K mg (rMinV K) minV := by
  intro W σ g S H xs vs Q ok r p
  unfold minV at p
  split at p
  · obtain ⟨v, u, rfl, rv, ru⟩ := r.two
    cases rv
    cases ru
    exact .inl ⟨_, _, rfl, p.now ok (.int _)⟩
  · split at p
    · rename_i i is hb
      obtain ⟨ds, h1, h2⟩ := Option.bind_eq_some_iff.mp hb
      obtain ⟨v, rfl, rv⟩ := r.one
      obtain ⟨a, us, rfl, hq, rq⟩ := seqL_of ok rv h1
      rw [ints_of rq h2] at hq
      refine .inr ⟨a, _, rfl, hq, by simp, fun m hm hle => ?_⟩
      have e : m = mnI (i :: is) := Int.le_antisymm (hle _ mnI_mem) (mnI_le m hm)
      rw [e]
      exact p.now ok (.int _)
    · exact p.elim
  · exact p.elim
theorem cs_abs : CaS K mg (fun xs H Q => ∃ i, xs = [.int i] ∧ Q (.int (if i < 0 then -i else i)) H) absV := by
  intro W σ g S H xs vs Q ok r p
  unfold absV at p
  split at p
  · obtain ⟨v, rfl, rv⟩ := r.one
    cases rv
    exact ⟨_, rfl, p.now ok (.int _)⟩
  · exact p.elim
theorem cs_int : CaS K mg (fun xs H Q => (∃ i, xs = [.int i] ∧ Q (.int i) H) ∨ ∃ k, xs = [.bl k] ∧ Q (.int (if k then 1 else 0)) H) intV := by
  intro W σ g S H xs vs Q ok r p
  unfold intV at p
  split at p
  · obtain ⟨v, rfl, rv⟩ := r.one
    cases rv
    exact .inl ⟨_, rfl, p.now ok (.int _)⟩
  · obtain ⟨v, rfl, rv⟩ := r.one
    cases rv
    exact .inr ⟨_, rfl, p.now ok (.int _)⟩
  · exact p.elim
def rStrV : List V → Hp → VK → Prop := fun xs H Q => (∃ i, xs = [.int i] ∧ i.natAbs.log2 < 1920 ∧ Q (.str (toString i)) H) ∨ ∃ a, xs = [.str a] ∧ Q (.str a) H
theorem call_strV : CallR X (.type "str") rStrV := CallR.or call_str_int SkE.call_str_str
theorem cs_str : CaS K mg rStrV strV := by
  intro W σ g S H xs vs Q ok r p
  unfold strV at p
  split at p
  · split at p
    · rename_i hl
      obtain ⟨v, rfl, rv⟩ := r.one
      cases rv
      exact .inl ⟨_, rfl, hl, p.now ok (.str _)⟩
    · exact p.elim
  · obtain ⟨v, rfl, rv⟩ := r.one
    cases rv
    exact .inr ⟨_, rfl, p.now ok (.str _)⟩
  · exact p.elim
end

/-! ### methods -/
def isStr : D → Bool
  | .str _ => true
  | _ => false
def isLst (S : Sto) (x : D) : Bool := (seqL S x).isSome
/-- a method of a list -/
def dMl (f : D → List D → Sto → RE D) (a : DE D) (l : DE (List D)) : DE D := fun env S => (a env S).bind fun x S1 => if isLst S1 x = true then (l env S1).bind fun xs S2 => f x xs S2 else .fail
/-- a method of a text -/
def dMs (f : D → List D → Sto → RE D) (a : DE D) (l : DE (List D)) : DE D := fun env S => (a env S).bind fun x S1 => if isStr x = true then (l env S1).bind fun xs S2 => f x xs S2 else .fail
/-- the n-th thing of the store is a list: it is changed -/
def chg (x : D) (S : Sto) (f : List D → Option (List D × D)) : RE D := match x with
  | .ref n => (match S[n]? with
    | some (.lst ds) => (match f ds with
      | some (es, d) => .ok d (S.set n (.lst es))
      | none => .fail)
    | _ => .fail)
  | _ => .fail
def appendV (x : D) (xs : List D) (S : Sto) : RE D := match xs with
  | [y] => chg x S fun ds => if ds.length < LIM then some (ds ++ [y], .non) else none
  | _ => .fail
def extendV (x : D) (xs : List D) (S : Sto) : RE D := match xs with
  | [y] => (match lstS S y with
    | some es => chg x S fun ds => if ds.length + es.length ≤ LIM then some (ds ++ es, .non) else none
    | none => .fail)
  | _ => .fail
def popV (x : D) (xs : List D) (S : Sto) : RE D := match xs with
  | [] => chg x S fun ds => (ds[ds.length - 1]?).map fun d => (ds.dropLast, d)
  | [.int i] => if -(2 ^ 63) ≤ i ∧ i < 2 ^ 63 then chg x S fun ds => (seqIndex? i ds.length).bind fun k => (ds[k]?).map fun d => (ds.eraseIdx k, d) else .fail
  | _ => .fail
def clearV (x : D) (xs : List D) (S : Sto) : RE D := match xs with
  | [] => chg x S fun _ => some ([], .non)
  | _ => .fail
def reverseV (x : D) (xs : List D) (S : Sto) : RE D := match xs with
  | [] => chg x S fun ds => some (ds.reverse, .non)
  | _ => .fail
def insertV (x : D) (xs : List D) (S : Sto) : RE D := match xs with
  | [.int i, y] => if 0 ≤ i ∧ i < 2 ^ 63 then chg x S fun ds => if ds.length < LIM then some (ds.take i.toNat ++ y :: ds.drop i.toNat, .non) else none else .fail
  | _ => .fail
def splitV (x : D) (xs : List D) (S : Sto) : RE D := match x, xs with
  | .str a, [.str b] => if (b.length == 0) = false ∧ LIMS (a.length + 2) = true then .ok (.lst ((Txt.split a b).map .str)) S else .fail
  | _, _ => .fail
def joinV (x : D) (xs : List D) (S : Sto) : RE D := match x, xs with
  | .str a, [y] => (match (seqS S y).bind strsD with
    | some ys => if (ys.map (·.length)).sum + ys.length * a.length ≤ LIM then .ok (.str (Txt.join a ys)) S else .fail
    | none => .fail)
  | _, _ => .fail
def upperV (x : D) (xs : List D) (S : Sto) : RE D := match x, xs with
  | .str a, [] => if a.length ≤ 5592405 then .ok (.str (Txt.upper a)) S else .fail
  | _, _ => .fail

section
variable {K : PySem.W.Frag} {mg : Bk} {g : Gh} {S : Sto} {H : Hp} {X : Cx} {W : WX} {σ : L2.St}
def MtU (K : PySem.W.Frag) (mg : Bk) (r : V → List V → Hp → VK → Prop) (f : D → List D → Sto → RE D) : Prop :=
  ∀ {W : WX} {σ : L2.St} {g : Gh} {S : Sto} {H : Hp} {x : D} {xs : List D} {v : V} {vs : List V} {Q : VK}, Ok K mg g S H → Rep K mg g x v → Reps K mg g xs vs → Post K mg W (Rep K mg) σ g H (f x xs S) Q → r v vs H Q
theorem tyV_lst {S' : Sto} (ok : Ok K mg g S H) {x : D} {v : V} (r : Rep K mg g x v) (h : isLst S x = true) : tyV K "list" v H := by
  obtain ⟨ds, h1⟩ := Option.isSome_iff_exists.mp h
  obtain ⟨a, us, rfl, hq, _⟩ := seqL_of ok r h1
  exact .inl ⟨rfl, us, hq⟩
section
variable {o e : Expr} {es : List Expr} {name : Str} {apos cpos : Pos} {id : String} {r : V → List V → Hp → VK → Prop} {f : D → List D → Sto → RE D} {da : DE D} {dl : DE (List D)} {db : DE D}
theorem u_ml0 (slot : Slot "list" name id) (hty : typeOf (.builtin id) = pure (.type "method_descriptor")) (hm : MtR X id r) (hs : MtU X.K mg r f) (ho : PE X o (UE X.K mg W da))
    (hbase : attributeBase o name X.env (eval o X.env) = eval o X.env := by rfl) (hline : (apos.endLine == cpos.line) = true := by rfl) : PE X (.Call (.Attribute o name apos) [] [] cpos) (UE X.K mg W (dMl f da dNil)) :=
  (pe_bm0 PySem.F.plainAttrs_list slot hty hm ho hbase hline).imp fun σ H Q ⟨env, S, g, h, p⟩ => by
    obtain ⟨env1, S1, g1, h1, p1⟩ := U.seq h p
    refine ⟨env1, S1, g1, h1, p1.imp fun v H1 ⟨g2, S2, x, e2, h2, r2, p2⟩ => ?_⟩
    split at p2
    · rename_i hl
      exact ⟨tyV_lst (S' := S2) h2.ok r2 hl, hs h2.ok r2 .nil p2⟩
    · exact p2.elim
theorem u_ml (slot : Slot "list" name id) (hty : typeOf (.builtin id) = pure (.type "method_descriptor")) (hm : MtR X id r) (hs : MtU X.K mg r f) (ho : PE X o (UE X.K mg W da)) (ha : PA X (e :: es) (UA X.K mg W dl))
    (hbase : attributeBase o name X.env (eval o X.env) = eval o X.env := by rfl)
    (hfew : ((backTo cpos (starEach (e :: es) X.env)).all (fun x => !x.1) && (backToKw cpos (keywordEach [] X.env)).all (fun x => x.1.isSome)
      && decide ((e :: es).length + ([] : List Keyword).length + (if ([] : List Keyword).isEmpty then 0 else 1) < 30)) = true := by rfl)
    (hline : (apos.endLine == cpos.line) = true := by rfl) (hst : starEach (e :: es) X.env = (false, eval e X.env) :: starEach es X.env := by rfl) (hplain : (backTo cpos (starEach es X.env)).any (·.1) = false := by rfl) :
    PE X (.Call (.Attribute o name apos) (e :: es) [] cpos) (UE X.K mg W (dMl f da dl)) :=
  (pe_bm PySem.F.plainAttrs_list slot hty hm ho ha hbase hfew hline hst hplain).imp fun σ H Q ⟨env, S, g, h, p⟩ => by
    obtain ⟨env1, S1, g1, h1, p1⟩ := U.seq h p
    refine ⟨env1, S1, g1, h1, p1.imp fun v H1 ⟨g2, S2, x, e2, h2, r2, p2⟩ => ?_⟩
    split at p2
    · rename_i hl
      refine ⟨tyV_lst (S' := S2) h2.ok r2 hl, ?_⟩
      obtain ⟨env3, S3, g3, h3, p3⟩ := U.seq h2 p2
      exact ⟨env3, S3, g3, h3, p3.imp fun vs H2 ⟨g4, S4, xs, e4, h4, r4, p4⟩ => hs h4.ok (r2.mono e4.le) r4 p4⟩
    · exact p2.elim
theorem isStr_of {x : D} {v : V} (r : Rep K mg g x v) (h : isStr x = true) : ∃ a, v = .str a := by
  cases r with
  | str a => exact ⟨a, rfl⟩
  | _ => exact absurd h Bool.false_ne_true
theorem u_ms0 (slot : Slot "str" name id) (hty : typeOf (.builtin id) = pure (.type "method_descriptor")) (hm : MtR X id r) (hs : MtU X.K mg r f) (ho : PE X o (UE X.K mg W da))
    (hbase : attributeBase o name X.env (eval o X.env) = eval o X.env := by rfl) (hline : (apos.endLine == cpos.line) = true := by rfl) : PE X (.Call (.Attribute o name apos) [] [] cpos) (UE X.K mg W (dMs f da dNil)) :=
  (pe_m0 slot hty hm ho hbase hline).imp fun σ H Q ⟨env, S, g, h, p⟩ => by
    obtain ⟨env1, S1, g1, h1, p1⟩ := U.seq h p
    refine ⟨env1, S1, g1, h1, p1.imp fun v H1 ⟨g2, S2, x, e2, h2, r2, p2⟩ => ?_⟩
    split at p2
    · rename_i hl
      exact ⟨isStr_of r2 hl, hs h2.ok r2 .nil p2⟩
    · exact p2.elim
theorem u_ms1 (slot : Slot "str" name id) (hty : typeOf (.builtin id) = pure (.type "method_descriptor")) (hm : MtR X id r) (hs : MtU X.K mg r f) (ho : PE X o (UE X.K mg W da)) (he : PE X e (UE X.K mg W db))
    (hst : starEach [e] X.env = [(false, eval e X.env)] := by rfl) (hbase : attributeBase o name X.env (eval o X.env) = eval o X.env := by rfl) (hline : (apos.endLine == cpos.line) = true := by rfl) :
    PE X (.Call (.Attribute o name apos) [e] [] cpos) (UE X.K mg W (dMs f da (dCons db dNil))) :=
  (pe_m1 slot hty hm ho he hst hbase hline).imp fun σ H Q ⟨env, S, g, h, p⟩ => by
    obtain ⟨env1, S1, g1, h1, p1⟩ := U.seq h p
    refine ⟨env1, S1, g1, h1, p1.imp fun v H1 ⟨g2, S2, x, e2, h2, r2, p2⟩ => ?_⟩
    split at p2
    · rename_i hl
      refine ⟨isStr_of r2 hl, ?_⟩
      have p2' : Post X.K mg W (Rep X.K mg) σ g2 H1 ((db env S2).bind fun y S3 => f x [y] S3) Q := by
        have e : ((dCons db dNil) env S2).bind (fun xs S3 => f x xs S3) = (db env S2).bind fun y S3 => f x [y] S3 := by
          unfold dCons dNil
          cases db env S2 <;> rfl
        rw [← e]
        exact p2
      obtain ⟨env3, S3, g3, h3, p3⟩ := U.seq h2 p2'
      exact ⟨env3, S3, g3, h3, p3.imp fun u H2 ⟨g4, S4, y, e4, h4, r4, p4⟩ => hs h4.ok (r2.mono e4.le) (.cons r4 .nil) p4⟩
    · exact p2.elim
end
theorem chg_of (ok : Ok K mg g S H) {x : D} {v : V} {f : List D → Option (List D × D)} {Q : VK} (r : Rep K mg g x v) (p : Post K mg W (Rep K mg) σ g H (chg x S f) Q) :
    ∃ a ds vs es d, v = .ref a ∧ H a = some (.lst vs) ∧ Reps K mg g ds vs ∧ f ds = some (es, d) ∧ ∀ us u, Reps K mg g es us → Rep K mg g d u → Q u (upd H a (.lst us)) := by
  unfold chg at p
  cases r with
  | @ref a n hm =>
    dsimp only at p
    cases q : S[n]? with
    | none => rw [q] at p; exact p.elim
    | some o =>
      cases o with
      | lst ds =>
        rw [q] at p
        dsimp only at p
        split at p
        · rename_i es d hf
          obtain ⟨vs, h1, h2⟩ := ref_lst ok hm q
          refine ⟨a, ds, vs, es, d, rfl, h1, h2, hf, fun us u ru ud => ?_⟩
          obtain ⟨o', e⟩ := ok.put (so' := .lst es) (o := .lst us) q hm (by intro z; cases z) ⟨us, upd_same, ru⟩
          exact p.go e o' ud
        · exact p.elim
      | _ => rw [q] at p; exact p.elim
  | _ => exact p.elim
theorem limlt {n : Nat} (h : n < LIM) : n < sizeLine := by rw [← lim_eq]; exact h
theorem limle {n : Nat} (h : n ≤ LIM) : n ≤ sizeLine := by rw [← lim_eq]; exact h
theorem mu_append : MtU K mg rAppend appendV := by
  intro W σ g S H x xs v vs Q ok rx rs p
  unfold appendV at p
  split at p
  · obtain ⟨u, rfl, ru⟩ := rs.one
    obtain ⟨a, ds, us, es, d, rfl, h1, h2, hf, k⟩ := chg_of ok rx p
    split at hf
    · rename_i hl
      cases hf
      exact ⟨a, us, u, rfl, rfl, h1, by rw [← h2.length]; exact limlt hl, k _ _ (h2.append (.cons ru .nil)) .non⟩
    · cases hf
  · exact p.elim
theorem mu_extend : MtU K mg rExtend extendV := by
  intro W σ g S H x xs v vs Q ok rx rs p
  unfold extendV at p
  split at p
  · split at p
    · rename_i es hy
      obtain ⟨u, rfl, ru⟩ := rs.one
      obtain ⟨b, zs, rfl, h3, h4⟩ := lst_of ok ru hy
      obtain ⟨a, ds, us, fs, d, rfl, h1, h2, hf, k⟩ := chg_of ok rx p
      split at hf
      · rename_i hl
        cases hf
        exact ⟨a, b, us, zs, rfl, rfl, h1, h3, by rw [← h2.length, ← h4.length]; exact limle hl, k _ _ (h2.append h4) .non⟩
      · cases hf
    · exact p.elim
  · exact p.elim
def rPopV : V → List V → Hp → VK → Prop := fun x vs H Q => rPop x vs H Q ∨ rPopAt x vs H Q
theorem mt_popV : MtR X "list.pop" rPopV := MtR.or mt_pop mt_popAt
theorem Reps.dropLast : ∀ {ds : List D} {vs : List V}, Reps K mg g ds vs → Reps K mg g ds.dropLast vs.dropLast
  | _, _, .nil => .nil
  | _, _, .cons r .nil => .nil
  | _, _, .cons r (.cons q t) => .cons r (Reps.dropLast (.cons q t))
theorem mu_pop : MtU K mg rPopV popV := by
  intro W σ g S H x xs v vs Q ok rx rs p
  unfold popV at p
  split at p
  · cases rs
    obtain ⟨a, ds, us, es, d, rfl, h1, h2, hf, k⟩ := chg_of ok rx p
    obtain ⟨e, he, hq⟩ := Option.map_eq_some_iff.mp hf
    cases hq
    obtain ⟨u, hu, ru⟩ := h2.get he
    exact .inl ⟨a, us, u, rfl, rfl, h1, by rw [← h2.length]; exact hu, k _ _ h2.dropLast ru⟩
  · rename_i i
    split at p
    · rename_i hi
      obtain ⟨u, rfl, ru⟩ := rs.one
      cases ru
      obtain ⟨a, ds, us, es, d, rfl, h1, h2, hf, k⟩ := chg_of ok rx p
      obtain ⟨j, hj, hf⟩ := Option.bind_eq_some_iff.mp hf
      obtain ⟨e, he, hq⟩ := Option.map_eq_some_iff.mp hf
      cases hq
      obtain ⟨u, hu, ru⟩ := h2.get he
      exact .inr ⟨a, us, i, j, u, rfl, rfl, h1, hi.1, hi.2, by rw [← h2.length]; exact hj, hu, k _ _ (h2.eraseIdx j) ru⟩
    · exact p.elim
  · exact p.elim
theorem mu_clear : MtU K mg rClear clearV := by
  intro W σ g S H x xs v vs Q ok rx rs p
  unfold clearV at p
  split at p
  · cases rs
    obtain ⟨a, ds, us, es, d, rfl, h1, h2, hf, k⟩ := chg_of ok rx p
    cases hf
    exact ⟨a, us, rfl, rfl, h1, k _ _ .nil .non⟩
  · exact p.elim
theorem mu_reverse : MtU K mg rReverse reverseV := by
  intro W σ g S H x xs v vs Q ok rx rs p
  unfold reverseV at p
  split at p
  · cases rs
    obtain ⟨a, ds, us, es, d, rfl, h1, h2, hf, k⟩ := chg_of ok rx p
    cases hf
    exact ⟨a, us, rfl, rfl, h1, k _ _ h2.reverse .non⟩
  · exact p.elim
def rSplit : V → List V → Hp → VK → Prop := fun x xs H Q => ∃ a b, x = .str a ∧ xs = [.str b] ∧ (b.length == 0) = false ∧ a.length + 2 ≤ sizeLine ∧ rNewStrs (Txt.split a b) H Q
theorem reps_strs : ∀ ys : List Str, Reps K mg g (ys.map .str) (ys.map .str)
  | [] => .nil
  | y :: ys => .cons (.str y) (reps_strs ys)
theorem mu_split : MtU K mg rSplit splitV := by
  intro W σ g S H x xs v vs Q ok rx rs p
  unfold splitV at p
  split at p
  · rename_i a b
    split at p
    · rename_i hl
      obtain ⟨u, rfl, ru⟩ := rs.one
      cases ru
      cases rx
      refine ⟨a, b, rfl, rfl, hl.1, lims hl.2, fun l hn => ?_⟩
      obtain ⟨o, e⟩ := ok.newI (o := .lst ((Txt.split a b).map V.str)) hn
      exact p.go e o (.lst upd_same (reps_strs _))
    · exact p.elim
  · exact p.elim
def rJoin (K : PySem.W.Frag) : V → List V → Hp → VK → Prop := fun x xs H Q => ∃ a p, ∃ ys : List Str, x = .str a ∧ xs = [.ref p] ∧ (SqL K H p (ys.map V.str) ∨ SqT K H p (ys.map V.str)) ∧ (ys.map (·.length)).sum + ys.length * a.length ≤ 16777216 ∧ Q (.str (Txt.join a ys)) H
theorem mu_join : MtU K mg (rJoin K) joinV := by
  intro W σ g S H x xs v vs Q ok rx rs p
  unfold joinV at p
  split at p
  · rename_i a y
    split at p
    · rename_i ys hy
      split at p
      · rename_i hl
        obtain ⟨u, rfl, ru⟩ := rs.one
        cases rx
        obtain ⟨ds, h1, h2⟩ := Option.bind_eq_some_iff.mp hy
        obtain ⟨q, us, rfl, hq, rq⟩ := seq_of ok ru h1
        rw [strs_of rq h2] at hq
        exact ⟨a, q, ys, rfl, rfl, hq, hl, p.now ok (.str _)⟩
      · exact p.elim
    · exact p.elim
  · exact p.elim

/-! ### o[i] = v -/
theorem U.seqG {Z : ZR} {α β : Type} {R : Gh → α → β → Prop} {de : DE α} {k : α → Sto → RS} {env : Env} {Q : L2.St → Hp → Prop} (z : ZOk Z) (h : At K mg env S g σ H) (hp : PostG K mg W Z σ g H ((de env S).bindS env k) Q) :
    U K mg W R de σ H (fun v H1 => ∃ g1 S1 a, Ext g H g1 H1 ∧ At K mg env S1 g1 σ H1 ∧ R g1 a v ∧ PostG K mg W Z σ g1 H1 (k a S1) Q) := by
  refine ⟨env, S, g, h, ?_⟩
  cases e : de env S with
  | fail =>
    rw [e] at hp
    exact hp
  | ok a S1 =>
    rw [e] at hp
    exact fun b g1 H1 x o r => ⟨g1, S1, a, x, ⟨h.e.mono x.le, o⟩, r, PostG.ext z hp x (z.re _)⟩
  | exc x S1 =>
    rw [e] at hp
    exact fun cls dd g' H' e' o' r' => hp cls dd σ g' H' e' (h.ext e' o') r'
def setIx (x i d : D) (env : Env) (S : Sto) : RS := match x, i with
  | .ref n, .int k => (match S[n]? with
    | some (.lst ds) => (match ixN ds.length k with
      | some j => .nx env (S.set n (.lst (ds.set j d)))
      | none => .fail)
    | _ => .fail)
  | _, _ => .fail
def gIx (a b : DE D) : DG := fun d env S => (a env S).bindS env fun x S1 => (b env S1).bindS env fun i S2 => setIx x i d env S2
theorem ug_ix {Z : ZR} (z : ZOk Z) {o i : Expr} {pos : Pos} {da db : DE D} (ho : PE X o (UE X.K mg W da)) (hi : PE X i (UE X.K mg W db))
    (ha : ∀ v, assign (.Subscript o i pos) X.env v = (do
      let ov ← holding [v] (eval o X.env)
      let iv ← holding [v, ov] (eval i X.env)
      standAt pos
      holding [v, ov, iv] (setItem ov iv v)
      release [v, ov, iv] []) := by intro _; rfl) : PG X (.Subscript o i pos) (UG X.K mg W Z (gIx da db)) :=
  PG.imp (pg_sub ho hi set_list ha) fun v σ H Q ⟨env, S, g, d, h, r, p⟩ => by
    obtain ⟨env1, S1, g1, h1, p1⟩ := U.seqG z h p
    refine ⟨env1, S1, g1, h1, p1.imp fun w H1 ⟨g2, S2, x, e2, h2, r2, p2⟩ => ?_⟩
    obtain ⟨env3, S3, g3, h3, p3⟩ := U.seqG z h2 p2
    refine ⟨env3, S3, g3, h3, p3.imp fun u H2 ⟨g4, S4, y, e4, h4, r4, p4⟩ => ?_⟩
    have rx := r2.mono e4.le
    have rd := (r.mono e2.le).mono e4.le
    unfold setIx at p4
    split at p4
    · split at p4
      · rename_i ds hs
        split at p4
        · rename_i j hj
          cases r4
          cases rx with
          | @ref a n hm =>
            obtain ⟨vs, q1, q2⟩ := ref_lst h4.ok hm hs
            refine ⟨a, vs, _, j, rfl, rfl, q1, by rw [← q2.length]; exact hj, ?_⟩
            obtain ⟨o', e'⟩ := h4.ok.put (so' := .lst (ds.set j d)) (o := .lst (vs.set j v)) hs hm (by intro z; cases z) ⟨_, upd_same, q2.set rd j⟩
            exact p4 σ g4 _ e' ⟨h4.e.mono e'.le, o'⟩ (z.re _)
        · exact p4.elim
      · exact p4.elim
    · exact p4.elim
theorem us_asg {tg e : Expr} {pos : Pos} {da : DE D} {t : DG} (he : PE X e (UE X.K mg W da)) (hg : PG X tg (UG X.K mg W ZT t)) (hs : swapsWithSole [tg] e pos.line X.env = pure false := by rfl) (hw : swappedStores [tg] e X.env = pure none := by rfl)
    (h1 : (assignEach [tg] X.env).map (·.2) = [assign tg X.env] := by rfl) : PS X (.Assign [tg] e pos) (US X.K mg W (dAsg da t)) :=
  (ps_asg he hg hs hw h1).imp fun D σ H ⟨env, S, g, h, p⟩ => by
    obtain ⟨env1, S1, g1, h1, p1⟩ := U.seqS h p
    refine ⟨env1, S1, g1, h1, p1.imp fun v H1 ⟨g2, S2, x, e2, h2, r2, p2⟩ => ⟨env, S2, g2, x, h2, r2, ?_⟩⟩
    cases q : t x env S2 with
    | nx e1 S3 =>
      rw [q] at p2
      exact fun σ' g' H' e' a' _ => p2 σ' g' H' e' a'
    | exc y e1 S3 =>
      rw [q] at p2
      exact p2
    | _ => rw [q] at p2; exact p2.elim
end
end Dn

set_option Elab.async false
set_option linter.all false
set_option maxRecDepth 100000
set_option maxHeartbeats 2000000
/-! Dn7: a, *b, c = .. -/
namespace L2
open PySem PySem.Spec PyProof.Rows PySem.W
section
variable {prog : Program} {w : World} {A : Around} {E : Value → Shared → Prop} {s : Shared}
/-- what stands behind the star is a new list -/
theorem star_any {l : Addr} {items : Array Value} {n i : Nat} {Q : List Value → Shared → Prop} (hl : IsTup s.heap l items ∨ s.heap.IsList l items) (hh : A.handled = none) (hi : i < n) (hn : n ≤ items.size + 1) (hz : items.size ≤ sizeLine)
    (h : ∀ (h' : Heap) (tk : Nat), (∀ b o, s.heap.get? b = some o → h'.get? b = some o) →
      Q (items.toList.take i ++ [.ref h'.objs.size] ++ (items.toList.drop i).drop (items.size + 1 - n)) { s with heap := h'.push { cls := .type "list", data := .seq ((items.toList.drop i).take (items.size + 1 - n)).toArray }, toks := tk }) :
    wpAny (model prog w) A (unpackItems (.ref l) n (some i)) Q E s := by
  have hll : l < s.heap.objs.size := by
    rcases hl with hl | hl
    · obtain ⟨o, ho, _⟩ := hl; exact Heap.lt_size ho
    · obtain ⟨o, ho, _⟩ := hl; exact Heap.lt_size ho
  have hlt : l ≠ s.heap.objs.size := Nat.ne_of_lt hll
  have hfl : (items.toList.take i).length = i := by rw [List.length_take, Array.length_toList]; omega
  have hrl : (items.toList.drop i).length = items.size - i := by rw [List.length_drop, Array.length_toList]
  have hmid : (items.toList.drop i).length - (n - 1 - i) = items.size + 1 - n := by rw [hrl]; omega
  -- the last part, behind what was drawn
  have last : ∀ (h₂ : Heap) (tk : Nat), (∀ b o, s.heap.get? b = some o → h₂.get? b = some o) →
      wpAny (model prog w) A (newList ((items.toList.drop i).take ((items.toList.drop i).length - (n - 1 - i))) >>= fun d => pure (items.toList.take i ++ [d] ++ (items.toList.drop i).drop ((items.toList.drop i).length - (n - 1 - i)))) Q E { s with heap := h₂, toks := tk } := fun h₂ tk hk => by
    rw [hmid]
    exact wpAny_bind (wpAny_newList (wpAny_pure (h h₂ tk hk)) (by rw [List.length_take, hrl]; omega))
  unfold unpackItems
  refine wpAny_bind ?_
  unfold notIterableAtAll
  rcases hl with hl | hl
  · refine wpAny_bind (wpAny_specialOf hl.typeIs slot_tuple_iter.lookup ?_)
    refine wpAny_pure ?_
    simp only [Bool.false_eq_true, if_false]
    refine wpAny_bind (wpAny_holding (iter_tuple hl ?_))
    refine wpAny_bind (wpAny_holding (draw_tuple hlt i 0 _ _ ⟨_, Heap.get?_push_size _ rfl, rfl, rfl⟩ (hl.push _) (by omega) fun h₁ it₁ sb => ?_))
    have l₁ : IsTup h₁ l items := (hl.push _).extBut sb.extBut hlt
    rw [Nat.zero_add] at it₁
    obtain ⟨oi, hoi, _⟩ := id it₁
    obtain ⟨ol, hol, _⟩ := id l₁
    rw [List.drop_zero, if_neg (show ¬ ((items.toList.take i).length < i) by rw [hfl]; omega)]
    refine wpAny_bind (wpAny_holding (kun_collect (s := { s with heap := h₁ }) (T := "tuple_iterator") (.inr (.inr (.inr rfl))) (Walks.tuple (A := A.in1) hh s.heap.objs.size l hlt items) (fun j u st => st.1.typeIs) (k := i) (by omega) ⟨it₁, l₁⟩ (Heap.lt_size hoi) (Heap.lt_size hol) (fun h₂ tk hk => ?_) hz))
    show wpAny _ _ (if (items.toList.drop i).length < n - 1 - i then _ else _) _ _ _
    rw [if_neg (by rw [hrl]; omega)]
    exact last h₂ tk fun b o e => hk b o (Nat.ne_of_lt (Heap.lt_size e)) (sb.extBut b o (Nat.ne_of_lt (Heap.lt_size e)) (Heap.get?_push_of_some _ e))
  · refine wpAny_bind (wpAny_specialOf hl.typeIs slot_list_iter.lookup ?_)
    refine wpAny_pure ?_
    simp only [Bool.false_eq_true, if_false]
    refine wpAny_bind (wpAny_holding (wpAny_pyIter_list hl ?_))
    refine wpAny_bind (wpAny_holding (kun_draw hlt i 0 _ _ ⟨_, Heap.get?_push_size _ rfl, rfl, rfl⟩ (hl.push _) (by omega) fun h₁ it₁ sb => ?_))
    have l₁ : h₁.IsList l items := (hl.push _).extBut sb.extBut hlt
    rw [Nat.zero_add] at it₁
    obtain ⟨oi, hoi, _⟩ := id it₁
    obtain ⟨ol, hol, _⟩ := id l₁
    rw [List.drop_zero, if_neg (show ¬ ((items.toList.take i).length < i) by rw [hfl]; omega)]
    refine wpAny_bind (wpAny_holding (kun_collect (s := { s with heap := h₁ }) (T := "list_iterator") (.inr (.inr (.inl rfl))) (Walks.list (A := A.in1) hh s.heap.objs.size l hlt items) (fun j u st => st.1.typeIs) (k := i) (by omega) ⟨it₁, l₁⟩ (Heap.lt_size hoi) (Heap.lt_size hol) (fun h₂ tk hk => ?_) hz))
    show wpAny _ _ (if (items.toList.drop i).length < n - 1 - i then _ else _) _ _ _
    rw [if_neg (by rw [hrl]; omega)]
    exact last h₂ tk fun b o e => hk b o (Nat.ne_of_lt (Heap.lt_size e)) (sb.extBut b o (Nat.ne_of_lt (Heap.lt_size e)) (Heap.get?_push_of_some _ e))
end
/-- a, *b, c = a tuple or a list -/
def gStar (K : PySem.W.Frag) (n i : Nat) (t : TGs) : TG := fun v σ H Q => ∃ a xs, v = .ref a ∧ (SqT K H a xs ∨ SqL K H a xs) ∧ n ≤ xs.length + 1 ∧
  ∀ p, H p = none → t (xs.take i ++ [.ref p] ++ (xs.drop i).drop (xs.length + 1 - n)) σ (upd H p (.lst ((xs.drop i).take (xs.length + 1 - n)))) Q
theorem Vals.takes {xs : List V} {us : List Value} (h : Vals xs us) : ∀ k : Nat, Vals (xs.take k) (us.take k) := by
  induction h with
  | nil => intro k; simp; exact .nil
  | cons r t ih =>
    intro k
    cases k with
    | zero => exact .nil
    | succ k => exact .cons r (ih k)
theorem Vals.drops {xs : List V} {us : List Value} (h : Vals xs us) : ∀ k : Nat, Vals (xs.drop k) (us.drop k) := by
  induction h with
  | nil => intro k; simp; exact .nil
  | cons r t ih =>
    intro k
    cases k with
    | zero => exact .cons r t
    | succ k => exact ih k
section
variable {X : Cx} {pos : Pos}
theorem pg_star {es : List Expr} {k : Nat} {t : TGs} {n i : Nat} (hc : X.calm = true) (h : PGs X es t)
    (hn : (assignEach es X.env).length = n) (hst : (assignEach es X.env).findIdx? (·.1) = some i) (hi : i < n) : PG X (.Tuple es k pos) (gStar X.K n i t) := by
  refine ⟨fun pins s σ H v u Q I r hw => ?_⟩
  obtain ⟨a, xs, e1, hq, hl, hw⟩ := hw
  subst e1
  cases r
  have z : ∃ its : List Value, Vals xs its ∧ (IsTup s.heap a its.toArray ∨ s.heap.IsList a its.toArray) ∧ xs.length ≤ sizeLine := by
    rcases hq with hq | hq
    · obtain ⟨its, rv, ht, hz⟩ := I.tuple hq
      exact ⟨its, rv, .inl ht, hz⟩
    · obtain ⟨its, rv, ht, hz⟩ := I.list hq
      exact ⟨its, rv, .inr ht.isList, hz⟩
  obtain ⟨its, rv, ht, hz⟩ := z
  have hlen := rv.length
  rw [PyProof.Rows.assign_Tuple]
  refine wpAny_bind (wpAny_standAt ?_)
  unfold unpack
  rw [hn, hst]
  refine wpAny_bind (wpAny_holding (star_any ht (I.ok.hd hc) hi (by simp; omega) (by simp; omega) fun h' tk hk => ?_))
  have I1 : Inv X pins σ H { s with heap := h', toks := tk } := I.kept hk
  have e : its.toArray.size = xs.length := by simp [hlen]
  rw [e]
  have I2 := I1.lnew (t' := tk) (ys := (xs.drop i).take (xs.length + 1 - n)) (its := (its.drop i).take (xs.length + 1 - n)) ((rv.drops i).takes _) (by rw [List.length_take, List.length_drop]; omega)
  exact h.run pins _ σ _ _ _ Q I2 (((rv.takes i).append (.cons (show RelV (V.ref h'.objs.size) (Value.ref h'.objs.size) from rfl) .nil)).append ((rv.drops i).drops _)) (hw _ I1.fresh)
theorem pgs_star {e : Expr} {p : Pos} {es : List Expr} {t : TG} {u : TGs} (h1 : PG X e t) (h2 : PGs X es u) : PGs X (.Starred e p :: es) (gCons t u) := by
  refine ⟨fun pins s σ H vs us Q I r h => ?_⟩
  obtain ⟨v, vr, e1, h⟩ := h
  subst e1
  cases r with
  | cons r rr =>
    show wpAny _ _ (assignInOrder (assign e X.env :: (assignEach es X.env).map (·.2)) _) _ _ _
    exact assignInOrder_cons (thn (h1.run pins s σ H _ _ _ I r h) fun _ s1 ⟨σ1, H1, I1, q1⟩ => h2.run pins s1 σ1 H1 _ _ Q I1 rr q1)
end
end L2
namespace Dn
open PySem PySem.Spec PyProof.Rows L2
/-- i: where the star stands -/
def gS (i : Nat) (gs : List DG) : DG := fun d env S => match seqS S d with
  | some ds => if gs.length ≤ ds.length + 1 then unpk gs (ds.take i ++ [.lst ((ds.drop i).take (ds.length + 1 - gs.length))] ++ (ds.drop i).drop (ds.length + 1 - gs.length)) env S else .fail
  | none => .fail
section
variable {X : Cx} {W : WX} {es : List Expr} {e : Expr} {pos p : Pos} {mg : Bk} {Z : ZR} {gs : List DG} {t : DG}
theorem ugs_star (z : ZOk Z) (h1 : PG X e (UG X.K mg W Z t)) (h2 : PGs X es (UGs X.K mg W Z gs)) : PGs X (.Starred e p :: es) (UGs X.K mg W Z (t :: gs)) :=
  PGs.imp (pgs_star h1 h2) fun vs σ H Q ⟨env, S, g, ds, h, r, p⟩ => by
    cases r with
    | nil => exact p.elim
    | @cons d ds v vs r1 r2 =>
      refine ⟨v, vs, rfl, env, S, g, d, h, r1, ?_⟩
      unfold unpk at p
      cases q : t d env S with
      | nx e1 S1 =>
        rw [q] at p
        exact fun σ' g' H' e' a' z' => ⟨e1, S1, g', ds, a', r2.mono e'.le, PostG.ext z p e' z'⟩
      | exc x e1 S1 =>
        rw [q] at p
        exact p
      | _ => rw [q] at p; exact p.elim
theorem ug_star {k : Nat} (i : Nat) (z : ZOk Z) (hc : X.calm = true) (h : PGs X es (UGs X.K mg W Z gs)) (hg : gs.length = es.length := by rfl) (hn : (assignEach es X.env).length = es.length := by rfl) (hst : (assignEach es X.env).findIdx? (·.1) = some i := by rfl) (hi : i < es.length := by decide) :
    PG X (.Tuple es k pos) (UG X.K mg W Z (gS i gs)) :=
  PG.imp (pg_star hc h hn hst hi) fun v σ H Q ⟨env, S, g, d, ha, r, p⟩ => by
    unfold gS at p
    split at p
    · rename_i ds hs
      split at p
      · rename_i hl
        obtain ⟨a, vs, rfl, hq, rq⟩ := seq_of ha.ok r hs
        have e := rq.length
        have e2 : vs.length + 1 - es.length = ds.length + 1 - gs.length := by rw [e, hg]
        refine ⟨a, vs, rfl, hq.symm, by rw [← e, ← hg]; exact hl, ?_⟩
        rw [e2]
        intro q hp
        obtain ⟨o, x⟩ := ha.ok.newI (o := .lst ((vs.drop i).take (ds.length + 1 - gs.length))) hp
        exact ⟨env, S, _, _, ha.ext x o, Reps.append (Reps.append ((rq.take i).mono x.le) (.cons (.lst upd_same (((rq.drop i).take _).mono x.le)) .nil)) (((rq.drop i).drop _).mono x.le), PostG.ext z p x (z.re _)⟩
      · exact p.elim
    · exact p.elim
end
end Dn

set_option Elab.async false
set_option linter.all false
set_option maxRecDepth 100000
set_option maxHeartbeats 2000000
/-! Dn8: enumerate, zip over lists, tuples, texts -/
namespace L2
open PySem PySem.Spec PyProof.Rows
/-- for a, b in an iterator that gives a new pair at each turn -/
theorem turn_gn {P : Program} {w : World} {K : PySem.W.Frag} {elts : List Expr} {kk : Nat} {tpos : Pos} {C : Type} {J : It} {wr fpT : List Addr} {I : Addr} {Ce : Nat → Heap → Prop} (Co : C → Heap → Prop) (n : C → Nat) (fp : C → List Addr) (Yv : C → Nat → Value → Value → Prop)
    (hI : I ∈ fpT) (hwr : ∀ b ∈ wr, b ∈ fpT)
    (hobj : ∀ i h, Ce i h → ∀ b ∈ fpT, ∃ o, h.get? b = some o ∧ ∀ v, o.data ≠ .cell v)
    (hkeep : ∀ i h h', Ce i h → (∀ b ∈ fpT, ∀ o, h.get? b = some o → h'.get? b = some o) → Ce i h')
    (W : ∀ (A : Around) (c : C), A.handled = none → GoesN P w A (.Tuple elts kk tpos) I (fp c) wr (n c) (fun i h₀ v h => ∃ T x y, v = .ref T ∧ h₀.objs.size ≤ T ∧ Yv c i x y ∧ h.IsTuple T #[x, y]) (fun i h => Ce i h ∧ Co c h))
    (go : ∀ (X : Cx), X.prog = P → X.w = w → X.K = K → ∀ (pins : List (Addr × Obj)) (s : Shared) (σ : St) (H : Hp) (i : Nat), Inv X pins σ H s → J.go i H → ∃ c, Co c s.heap ∧ i < n c ∧ ∀ x y, Yv c i x y → ∃ vx vy, RelV vx x ∧ RelV vy y ∧ ∀ T, H T = none → J.yld i H (.ref T) (upd H T (.tup [vx, vy])))
    (stop : ∀ (X : Cx), X.prog = P → X.w = w → X.K = K → ∀ (pins : List (Addr × Obj)) (s : Shared) (σ : St) (H : Hp) (i : Nat), Inv X pins σ H s → J.stop i H → ∃ c, Co c s.heap ∧ n c = i)
    (self : ∀ (A : Around) (i : Nat) (s : Shared) (Q : Value → Shared → Prop) (E : Value → Shared → Prop), Ce i s.heap → Q (.ref I) s → wpAny (model P w) A (pyIter (.ref I)) Q E s) :
    Turn P w K (.Tuple elts kk tpos) J fpT I Ce where
  mem := hI
  obj := hobj
  keep := hkeep
  item := by
    intro X hP hw hK hc i pins s σ H E J0 hf st hg
    obtain ⟨c, hCo, hi, hy⟩ := go X hP hw hK pins s σ H i J0 hg
    subst hP hw hK
    refine wpAny_mono ((W X.A c (J0.ok.hd hc)).goes i s (fun v s2 => ∃ x H', Inv X pins σ H' s2 ∧ RelV x v ∧ J.yld i H x H' ∧ Ce (i + 1) s2.heap ∧ ∀ b ∈ fpT, H' b = none) E hi ⟨st, hCo⟩ fun v h' tk hY st' hk _ => ?_) (fun r s1 hr => ?_) fun _ _ h => h
    · obtain ⟨T, x, y, rfl, hT, hxy, o, ho, hcl, m, hd⟩ := hY
      obtain ⟨vx, vy, rx, ry, hyl⟩ := hy x y hxy
      have new : ObjOk X.prog X.w (upd H T (.tup [vx, vy])) h' T (.tup [vx, vy]) := ⟨by show 2 ≤ sizeLine; decide, [x, y], .cons rx (.cons ry .nil), ⟨o, ho, hcl, m, hd⟩⟩
      have I1 := J0.turnedNew (t' := tk) (ch := fpT) (fun b o hb q => hk b o (fun z => hb (hwr b z)) q) hf hT new
      refine ⟨.ref T, _, I1, rfl, hyl T (J0.hok.fresh hT), st'.1, fun b hb => ?_⟩
      obtain ⟨ob, hob, _⟩ := hobj i _ st b hb
      rw [upd_ne (Nat.ne_of_lt (Nat.lt_of_lt_of_le (Heap.lt_size hob) hT))]
      exact (hf b hb).1
    · obtain ⟨v, e, hv⟩ := hr
      exact ⟨v, e, hv⟩
  done := by
    intro X hP hw hK hc i pins s σ H E J0 hf st hg
    obtain ⟨c, hCo, hn⟩ := stop X hP hw hK pins s σ H i J0 hg
    subst hP hw hK
    refine (W X.A c (J0.ok.hd hc)).stops s (fun s1 => Inv X pins σ H s1) E ⟨by rw [hn]; exact st, by exact hCo⟩ fun h' tk hk _ => ?_
    exact J0.turnedL (ch := fpT) (fun b o hb q => hk b o (fun z => hb (hwr b z)) q) hf
  self := self

/-- what is walked: a list, a tuple, a text -/
inductive Sk where
  | lst (a : Addr) | tup (a : Addr) | txt (x : Str) (t : Tok)
namespace Sk
def val : Sk → Value
  | .lst a => .ref a
  | .tup a => .ref a
  | .txt x t => .str x t
def ob : Sk → Obj
  | .lst a => { cls := .type "list_iterator", data := .fields #[.ref a, .int 0 0] }
  | .tup a => { cls := .type "tuple_iterator", data := .fields #[.ref a, .int 0 0] }
  | .txt x t => { cls := .type (strIterType x), data := .fields #[.str x t, .int 0 0] }
def Ce (it i : Nat) (h : Heap) : Sk → Prop
  | .lst a => h.IsListIter it a i
  | .tup a => h.IsTupleIter it a i
  | .txt x t => h.IsStrIter it (strIterType x) x t i
def Co (items : Array Value) (h : Heap) : Sk → Prop
  | .lst a => h.IsList a items
  | .tup a => h.IsTuple a items
  | .txt _ _ => True
def n (items : Array Value) : Sk → Nat
  | .lst _ => items.size
  | .tup _ => items.size
  | .txt x _ => x.cps.size
def P (items : Array Value) (i : Nat) (v : Value) : Sk → Prop
  | .lst _ => items[i]? = some v
  | .tup _ => items[i]? = some v
  | .txt x _ => ∃ c u, x.cps[i]? = some c ∧ v = .str ⟨#[c]⟩ u
def fp (it : Addr) : Sk → List Addr
  | .lst a => [it, a]
  | .tup a => [it, a]
  | .txt _ _ => [it]
def apart (it : Addr) : Sk → Prop
  | .lst a => a ≠ it
  | .tup a => a ≠ it
  | .txt _ _ => True
def Sq (K : PySem.W.Frag) (H : Hp) (vs : List V) : Sk → Prop
  | .lst a => SqL K H a vs
  | .tup a => SqT K H a vs
  | .txt x _ => vs = x.cps.toList.map fun c => .str ⟨#[c]⟩
theorem draws {P : Program} {w : World} {A : Around} (hh : A.handled = none) (it : Addr) (items : Array Value) : ∀ k : Sk, k.apart it → Draws P w A it (k.fp it) (k.n items) (fun i v => k.P items i v) (fun i h => k.Ce it i h ∧ k.Co items h)
  | .lst a, hne => Draws.list hh it a hne items
  | .tup a, hne => Draws.tuple hh it a hne items
  | .txt x t, _ => by
    have D := Draws.text (prog := P) (w := w) hh it x t
    exact ⟨fun i h st => D.live i h st.1, fun i h h' st hk => ⟨D.frame i h h' st.1 hk, trivial⟩, fun i s Q E hi st hQ => D.item i s Q E hi st.1 fun x' h' tk hp st' hs => hQ x' h' tk hp ⟨st', trivial⟩ hs, fun s Q E st hE => D.done s Q E st.1 hE⟩
theorem begins (items : Array Value) : ∀ k : Sk, Begins k.val k.ob (fun h => k.Co items h)
  | .lst a => begins_list a items
  | .tup a => begins_tuple a items
  | .txt x t => begins_text x t
theorem start {it : Addr} {h : Heap} : ∀ {k : Sk}, h.get? it = some k.ob → k.Ce it 0 h
  | .lst _, e => ⟨_, e, rfl, rfl⟩
  | .tup _, e => ⟨_, e, rfl, rfl⟩
  | .txt _ _, e => ⟨_, e, rfl, rfl⟩
theorem obj {it i : Nat} {h : Heap} : ∀ {k : Sk}, k.Ce it i h → ∃ o, h.get? it = some o ∧ ∀ v, o.data ≠ .cell v
  | .lst _, ⟨o, e, _, d⟩ => ⟨o, e, fun v z => by rw [d] at z; cases z⟩
  | .tup _, ⟨o, e, _, d⟩ => ⟨o, e, fun v z => by rw [d] at z; cases z⟩
  | .txt _ _, ⟨o, e, _, d⟩ => ⟨o, e, fun v z => by rw [d] at z; cases z⟩
theorem keep {it i : Nat} {h h' : Heap} (hk : ∀ o, h.get? it = some o → h'.get? it = some o) : ∀ {k : Sk}, k.Ce it i h → k.Ce it i h'
  | .lst _, ⟨o, e, r⟩ => ⟨o, hk o e, r⟩
  | .tup _, ⟨o, e, r⟩ => ⟨o, hk o e, r⟩
  | .txt _ _, ⟨o, e, r⟩ => ⟨o, hk o e, r⟩
section
variable {X : Cx} {pins : List (Addr × Obj)} {σ : St} {H : Hp} {s : Shared} {vs : List V}
theorem items_of (I : Inv X pins σ H s) : ∀ {k : Sk}, k.Sq X.K H vs → ∃ items : Array Value, k.Co items s.heap ∧ k.n items = vs.length ∧ ∀ i v, k.P items i v → ∃ x, vs[i]? = some x ∧ RelV x v
  | .lst a, h => by
    obtain ⟨its, rv, p, _⟩ := I.list h
    have hl := rv.length
    refine ⟨its.toArray, p.isList, by show its.toArray.size = _; simp [hl], fun i v hv => ?_⟩
    have hv' : its[i]? = some v := by
      have hv2 : its.toArray[i]? = some v := hv
      simpa using hv2
    have hi : i < vs.length := by rw [hl]; exact (List.getElem?_eq_some_iff.mp hv').1
    obtain ⟨u, hu, ru⟩ := rv.get (List.getElem?_eq_getElem hi)
    rw [hv'] at hu
    cases hu
    exact ⟨_, List.getElem?_eq_getElem hi, ru⟩
  | .tup a, h => by
    obtain ⟨its, rv, p, _⟩ := I.tuple h
    have hl := rv.length
    refine ⟨its.toArray, p, by show its.toArray.size = _; simp [hl], fun i v hv => ?_⟩
    have hv' : its[i]? = some v := by
      have hv2 : its.toArray[i]? = some v := hv
      simpa using hv2
    have hi : i < vs.length := by rw [hl]; exact (List.getElem?_eq_some_iff.mp hv').1
    obtain ⟨u, hu, ru⟩ := rv.get (List.getElem?_eq_getElem hi)
    rw [hv'] at hu
    cases hu
    exact ⟨_, List.getElem?_eq_getElem hi, ru⟩
  | .txt x t, h => by
    have h' : vs = x.cps.toList.map fun c => .str ⟨#[c]⟩ := h
    subst h'
    refine ⟨#[], trivial, by show x.cps.size = _; simp, fun i v hv => ?_⟩
    obtain ⟨c, u, hc, rfl⟩ := hv
    exact ⟨.str ⟨#[c]⟩, by simp [hc], ⟨u, rfl⟩⟩
theorem inj (I : Inv X pins σ H s) {us : List V} : ∀ {k : Sk}, k.Sq X.K H vs → k.Sq X.K H us → vs = us
  | .lst a, h, h' => I.list_inj h h'
  | .tup a, h, h' => I.tuple_inj h h'
  | .txt x t, h, h' => Eq.trans h (Eq.symm h')
end
end Sk
/-- the pairs of enumerate -/
def ItE (K : PySem.W.Frag) (k : Sk) : It :=
  ⟨fun i H => ∃ vs, k.Sq K H vs ∧ i < vs.length, fun i H v H' => ∃ T x, v = .ref T ∧ H T = none ∧ H' = upd H T (.tup [.int (i : Nat), x]) ∧ ∀ vs, k.Sq K H vs → vs[i]? = some x, fun i H => ∃ vs, k.Sq K H vs ∧ vs.length = i⟩
def ItZ (K : PySem.W.Frag) (k l : Sk) : It :=
  ⟨fun i H => ∃ vs us, k.Sq K H vs ∧ l.Sq K H us ∧ i < vs.length ∧ i < us.length, fun i H v H' => ∃ T x y, v = .ref T ∧ H T = none ∧ H' = upd H T (.tup [x, y]) ∧ (∀ vs, k.Sq K H vs → vs[i]? = some x) ∧ ∀ us, l.Sq K H us → us[i]? = some y,
    fun i H => ∃ vs us, k.Sq K H vs ∧ l.Sq K H us ∧ min vs.length us.length = i⟩
section
variable {P : Program} {w : World} {K : PySem.W.Frag} {elts : List Expr} {kk : Nat} {tpos : Pos}
theorem turn_E (k : Sk) (e it : Addr) (hne : e ≠ it) (hef : e ∉ k.fp it) (ha : k.apart it) :
    Turn P w K (.Tuple elts kk tpos) (ItE K k) [e, it] e (fun i h => (∃ old, IsEnum h e it ((0 : Int) + (i : Int)) old) ∧ k.Ce it i h) :=
  turn_gn (C := Array Value) (wr := [e, it]) (fun c h => k.Co c h) (fun c => k.n c) (fun c => e :: k.fp it) (fun c i x y => ∃ t, x = .int ((0 : Int) + (i : Int)) t ∧ k.P c i y) (by simp) (fun b hb => hb)
    (fun i h st b hb => by
      obtain ⟨⟨old, he⟩, hc⟩ := st
      have e' : b = e ∨ b = it := by simpa using hb
      rcases e' with z | z
      · rw [z]; exact ⟨_, he, fun v q => nomatch q⟩
      · rw [z]; exact Sk.obj hc)
    (fun i h h' st hk => let ⟨⟨old, he⟩, hc⟩ := st; ⟨⟨old, hk e (by simp) _ he⟩, Sk.keep (fun o q => hk it (by simp) o q) hc⟩)
    (fun A c hh => by
      have hif : it ∈ k.fp it := by cases k <;> simp [Sk.fp]
      have G := GoesN.enumFrom (elts := elts) (x1 := kk) (pos := tpos) (0 : Int) (Sk.draws (P := P) (w := w) (A := A.in1) (show A.in1.handled = none from hh) it c k ha) e hne hef hif
      have e1 : (fun (i : Nat) (h : Heap) => ((∃ old, IsEnum h e it ((0 : Int) + (i : Int)) old) ∧ k.Ce it i h) ∧ k.Co c h) = fun (i : Nat) (h : Heap) => (∃ old, IsEnum h e it ((0 : Int) + (i : Int)) old) ∧ k.Ce it i h ∧ k.Co c h := by
        funext i h
        exact propext and_assoc
      rw [e1]
      exact G.mono fun i h₀ v h _ ⟨T, t, x, ev, hn, hx, hT⟩ => ⟨T, _, x, ev, hn, ⟨t, rfl, hx⟩, hT⟩)
    (fun X hP hw hK pins s σ H i I hg => by
      subst hK
      obtain ⟨vs, hs, hi⟩ := hg
      obtain ⟨items, hc, hn, hv⟩ := Sk.items_of I hs
      refine ⟨items, hc, by rw [hn]; exact hi, fun x y hxy => ?_⟩
      obtain ⟨t, rfl, hp⟩ := hxy
      obtain ⟨vy, h1, ry⟩ := hv i y hp
      refine ⟨.int (i : Nat), vy, ⟨t, by simp⟩, ry, fun T hT => ⟨T, vy, rfl, hT, rfl, fun us hus => ?_⟩⟩
      rw [Sk.inj I hus hs]
      exact h1)
    (fun X hP hw hK pins s σ H i I hg => by
      subst hK
      obtain ⟨vs, hs, hi⟩ := hg
      obtain ⟨items, hc, hn, hv⟩ := Sk.items_of I hs
      exact ⟨items, hc, by rw [hn]; exact hi⟩)
    (fun A i s Q E st h => let ⟨⟨_, he⟩, _⟩ := st; wpAny_pyIter_enum he h)
theorem turn_Z (k l : Sk) (z TI TO i1 i2 : Addr) (D : ZipSep2 z TI TO i1 i2 (k.fp i1) (l.fp i2)) (ha : k.apart i1) (hb : l.apart i2) :
    Turn P w K (.Tuple elts kk tpos) (ItZ K k l) [z, TI, TO, i1, i2] z (fun i h => IsZip h z TI TO .none ∧ IsTupOf2 h TI (.ref i1) (.ref i2) ∧ (∃ a1 a2, IsTupOf2 h TO a1 a2) ∧ k.Ce i1 i h ∧ l.Ce i2 i h) :=
  turn_gn (C := Array Value × Array Value) (wr := [z, TO, i1, i2]) (fun c h => k.Co c.1 h ∧ l.Co c.2 h) (fun c => min (k.n c.1) (l.n c.2)) (fun c => z :: TI :: TO :: (k.fp i1 ++ l.fp i2)) (fun c i x y => k.P c.1 i x ∧ l.P c.2 i y) (by simp) (fun b hb => by simp at hb ⊢; rcases hb with q | q | q | q <;> simp [q])
    (fun i h st b hb => by
      obtain ⟨h1, h2, ⟨_, _, h3⟩, h4, h5⟩ := st
      have e' : b = z ∨ b = TI ∨ b = TO ∨ b = i1 ∨ b = i2 := by simpa using hb
      rcases e' with q | q | q | q | q
      · rw [q]; exact ⟨_, h1, fun v q => nomatch q⟩
      · rw [q]; exact ⟨_, h2, fun v q => nomatch q⟩
      · rw [q]; exact ⟨_, h3, fun v q => nomatch q⟩
      · rw [q]; exact Sk.obj h4
      · rw [q]; exact Sk.obj h5)
    (fun i h h' st hk => let ⟨h1, h2, ⟨a, b, h3⟩, h4, h5⟩ := st; ⟨hk z (by simp) _ h1, hk TI (by simp) _ h2, ⟨a, b, hk TO (by simp) _ h3⟩, Sk.keep (fun o q => hk i1 (by simp) o q) h4, Sk.keep (fun o q => hk i2 (by simp) o q) h5⟩)
    (fun A c hh => by
      have G := GoesN.zip2 (elts := elts) (x1 := kk) (pos := tpos) D (Sk.draws (P := P) (w := w) (A := A.in1) (show A.in1.handled = none from hh) i1 c.1 k ha) (Sk.draws (P := P) (w := w) (A := A.in1) (show A.in1.handled = none from hh) i2 c.2 l hb)
      have e1 : (fun i h => (IsZip h z TI TO .none ∧ IsTupOf2 h TI (.ref i1) (.ref i2) ∧ (∃ a1 a2, IsTupOf2 h TO a1 a2) ∧ k.Ce i1 i h ∧ l.Ce i2 i h) ∧ k.Co c.1 h ∧ l.Co c.2 h) =
          fun i h => IsZip h z TI TO .none ∧ IsTupOf2 h TI (.ref i1) (.ref i2) ∧ (∃ a1 a2, IsTupOf2 h TO a1 a2) ∧ (k.Ce i1 i h ∧ k.Co c.1 h) ∧ l.Ce i2 i h ∧ l.Co c.2 h := by
        funext i h
        exact propext ⟨fun ⟨⟨a, b, d, e, f⟩, g1, g2⟩ => ⟨a, b, d, ⟨e, g1⟩, f, g2⟩, fun ⟨a, b, d, ⟨e, g1⟩, f, g2⟩ => ⟨⟨a, b, d, e, f⟩, g1, g2⟩⟩
      rw [e1]
      exact G.mono fun i h₀ v h _ ⟨T, x, y, ev, hn, hx, hy, hT⟩ => ⟨T, x, y, ev, hn, ⟨hx, hy⟩, hT⟩)
    (fun X hP hw hK pins s σ H i I hg => by
      subst hK
      obtain ⟨vs, us, hs, hu, hi, hj⟩ := hg
      obtain ⟨items, hc, hn, hv⟩ := Sk.items_of I hs
      obtain ⟨items2, hc2, hn2, hv2⟩ := Sk.items_of I hu
      refine ⟨(items, items2), ⟨hc, hc2⟩, by show i < min (k.n items) (l.n items2); rw [hn, hn2]; omega, fun x y hxy => ?_⟩
      obtain ⟨vx, h1, rx⟩ := hv i x hxy.1
      obtain ⟨vy, h2, ry⟩ := hv2 i y hxy.2
      refine ⟨vx, vy, rx, ry, fun T hT => ⟨T, vx, vy, rfl, hT, rfl, fun ws hws => ?_, fun ws hws => ?_⟩⟩
      · rw [Sk.inj I hws hs]
        exact h1
      · rw [Sk.inj I hws hu]
        exact h2)
    (fun X hP hw hK pins s σ H i I hg => by
      subst hK
      obtain ⟨vs, us, hs, hu, hi⟩ := hg
      obtain ⟨items, hc, hn, hv⟩ := Sk.items_of I hs
      obtain ⟨items2, hc2, hn2, hv2⟩ := Sk.items_of I hu
      exact ⟨(items, items2), ⟨hc, hc2⟩, by show min (k.n items) (l.n items2) = i; rw [hn, hn2]; exact hi⟩)
    (fun A i s Q E st h => wpAny_pyIter_zip st.1 h)
end
set_option maxHeartbeats 4000000 in
theorem meets_enumB1 {v : Value} {o : Obj} {H : Heap → Prop} (B : Begins v o H) :
    Meets (Builtin.«enumerate.__new__» ⟨[.type "enumerate", v], []⟩) (fun _ R s => H s.heap ∧
      R (.ok (.ret (.ref (s.heap.push o).objs.size))) { s with heap := (s.heap.push o).push { cls := .type "enumerate", data := .fields #[.none, .bool false, .ref s.heap.objs.size, rawInt 0, .none, .none] } }) :=
  .of_wp fun prog w A R s h => by
    obtain ⟨hp, g, d, tk, os⟩ := s; obtain ⟨h1, h⟩ := h
    have hsub := sub_enumerate
    have q1 : ∀ {A' : Around} {E : Value → Shared → Prop} {Q : Value → Shared → Prop}, Q (.ref hp.objs.size) ⟨hp.push o, g, d, tk, os⟩ → wpAny (model prog w) A' (pyIter v) Q E ⟨hp, g, d, tk, os⟩ :=
      fun q => B.iter prog w _ _ ⟨hp, g, d, tk, os⟩ _ h1 q
    wp_walk using q1
    refine wpAny_stack_any fun st => wpAny_pure ?_
    split
    · rename_i c _ _ _ _ _
      cases (c == Value.type "enumerate")
      · wp_walk using q1
        exact ⟨_, rfl, h⟩
      · wp_walk using q1
        exact ⟨_, rfl, h⟩
    · wp_walk using q1
      exact ⟨_, rfl, h⟩
theorem enum_begins1 {prog : Program} {w : World} {A : Around} {E : Value → Shared → Prop} {s : Shared} {v : Value} {o : Obj} {H : Heap → Prop} {Q : Value → Shared → Prop} (B : Begins v o H) (h1 : H s.heap)
    (h : ∀ h', IsEnum h' (s.heap.objs.size + 1) s.heap.objs.size 0 .none → h'.get? s.heap.objs.size = some o → (∀ b o, s.heap.get? b = some o → h'.get? b = some o) → Q (.ref (s.heap.objs.size + 1)) { s with heap := h' }) :
    wpAny (model prog w) A (call (.type "enumerate") [v]) Q E s := by
  refine callType_new F.called_enumerate (by decide) (F.typeCall_enumerate_1 _) (F.newCall_enumerate_1 _) (fun obj => F.args_object_init_2 obj _) F.entry_enumerate_new (meets_enumB1 B) ⟨h1, ?_⟩
  have hz : (s.heap.push o).objs.size = s.heap.objs.size + 1 := Heap.size_push ..
  show _ ∧ _
  rw [hz]
  have he : IsEnum ((s.heap.push o).push { cls := .type "enumerate", data := .fields #[.none, .bool false, .ref s.heap.objs.size, rawInt 0, .none, .none] }) (s.heap.objs.size + 1) s.heap.objs.size 0 .none := by
    have := Heap.get?_push_size (s.heap.push o) (o := { cls := .type "enumerate", data := .fields #[.none, .bool false, .ref s.heap.objs.size, rawInt 0, .none, .none] }) rfl
    rw [hz] at this; exact this
  exact ⟨⟨_, he, rfl⟩, h _ he (Heap.get?_push_of_some _ (Heap.get?_push_size _ B.free)) fun b o x => Heap.get?_push_of_some _ (Heap.get?_push_of_some _ x)⟩
end L2

namespace Dn
open PySem PySem.Spec PyProof.Rows L2
/-- the pairs of enumerate -/
def enumD (i : Nat) : List D → List D
  | [] => []
  | d :: ds => .tup [.int (i : Int), d] :: enumD (i + 1) ds
def zipD : List D → List D → List D
  | a :: as, b :: bs => .tup [a, b] :: zipD as bs
  | _, _ => []
def dEnum (e : DE D) : DE Itn := fun env S => (e env S).bind fun d S1 => (itm d S1).bind fun ds S2 => .ok (enumD 0 ds.1, ds.2) S2
def dZip (a b : DE D) : DE Itn := fun env S => (a env S).bind fun x S1 => (b env S1).bind fun y S2 => (itm x S2).bind fun ds S3 => (itm y S3).bind fun es S4 => .ok (zipD ds.1 es.1, fun S => ds.2 S && es.2 S) S4
theorem enumD_get : ∀ {ds : List D} {k i : Nat}, (enumD k ds)[i]? = (ds[i]?).map fun d => .tup [.int ((k + i : Nat) : Int), d]
  | [], _, _ => rfl
  | d :: ds, k, 0 => rfl
  | d :: ds, k, i + 1 => by
    show (enumD (k + 1) ds)[i]? = _
    rw [enumD_get]
    have e : k + 1 + i = k + (i + 1) := by omega
    rw [e]
    rfl
theorem enumD_length : ∀ {ds : List D} {k : Nat}, (enumD k ds).length = ds.length
  | [], _ => rfl
  | d :: ds, k => congrArg Nat.succ enumD_length
theorem zipD_get : ∀ {as bs : List D} {i : Nat} {a b : D}, as[i]? = some a → bs[i]? = some b → (zipD as bs)[i]? = some (.tup [a, b])
  | a :: as, b :: bs, 0, _, _, h1, h2 => by
    cases h1
    cases h2
    rfl
  | a :: as, b :: bs, i + 1, _, _, h1, h2 => zipD_get (as := as) (bs := bs) (i := i) h1 h2
  | [], _, i, _, _, h1, _ => by simp at h1
  | _ :: _, [], i, _, _, _, h2 => by simp at h2
theorem zipD_length : ∀ {as bs : List D}, (zipD as bs).length = min as.length bs.length
  | [], bs => by simp [zipD]
  | a :: as, [] => by simp [zipD]
  | a :: as, b :: bs => by
    show (zipD as bs).length + 1 = min (as.length + 1) (bs.length + 1)
    rw [zipD_length]
    omega
section
variable {X : Cx} {W : WX} {mg : Bk} {K : PySem.W.Frag}
theorem na {n a b : Nat} (h : a ≠ b) : n + a ≠ n + b := by omega
theorem na0 {n a : Nat} (h : a ≠ 0) : n + a ≠ n := by omega
/-- where the items of a value lie -/
structure Src (K : PySem.W.Frag) (mg : Bk) (g : Gh) (k : Sk) (ds : Itn) : Prop where
  at_ : ∀ g1 S1 H1, g.le g1 → Ok K mg g1 S1 H1 → ds.2 S1 = true → ∃ vs, k.Sq K H1 vs ∧ Reps K mg g1 ds.1 vs
theorem strD_reps {g : Gh} (x : Str) : Reps K mg g (strD x) (x.cps.toList.map fun c => .str ⟨#[c]⟩) := by
  unfold strD
  generalize x.cps.toList = l
  induction l with
  | nil => exact .nil
  | cons c l ih => exact .cons (.str _) ih
theorem src_of {g : Gh} {S S2 : Sto} {d : D} {v : V} {u : Value} {ds : Itn} (r : Rep K mg g d v) (ru : RelV v u) (h : itm d S = .ok ds S2) : S2 = S ∧ ds.2 S = true ∧ ∃ k : Sk, u = k.val ∧ Src K mg g k ds ∧ (∀ (pins : List (Addr × Obj)) (X : Cx) (σ : L2.St) (H : Hp) (s : Shared), X.K = K → Inv X pins σ H s → Ok K mg g S H → k.apart s.heap.objs.size ∧ k.apart (s.heap.objs.size + 1)) := by
  cases r with
  | @tup a vs ds hq rq =>
    cases h
    cases ru
    refine ⟨rfl, rfl, .tup a, rfl, ⟨fun g1 S1 H1 le ok _ => ⟨vs, ok.ex.t (le.im.t hq), rq.mono le⟩⟩, fun pins X σ H s hK I ok => ?_⟩
    subst hK
    obtain ⟨its, _, z, _⟩ := I.tuple (ok.ex.t hq)
    obtain ⟨o, e, _⟩ := z
    have := Heap.lt_size e
    exact ⟨Nat.ne_of_lt this, Nat.ne_of_lt (Nat.lt_succ_of_lt this)⟩
  | @lst a vs ds hq rq =>
    cases h
    cases ru
    refine ⟨rfl, rfl, .lst a, rfl, ⟨fun g1 S1 H1 le ok _ => ⟨vs, SqL.of (ok.ex _ _ (le.im _ _ hq)), rq.mono le⟩⟩, fun pins X σ H s hK I ok => ?_⟩
    subst hK
    obtain ⟨its, _, z, _⟩ := I.list (SqL.of (ok.ex _ _ hq))
    obtain ⟨o, e, _⟩ := z.isList
    have := Heap.lt_size e
    exact ⟨Nat.ne_of_lt this, Nat.ne_of_lt (Nat.lt_succ_of_lt this)⟩
  | @frl a vs ds hq rq =>
    cases h
    cases ru
    refine ⟨rfl, rfl, .lst a, rfl, ⟨fun g1 S1 H1 le ok _ => ⟨vs, ok.ex.l (le.im.l hq), rq.mono le⟩⟩, fun pins X σ H s hK I ok => ?_⟩
    subst hK
    obtain ⟨its, _, z, _⟩ := I.list (ok.ex.l hq)
    obtain ⟨o, e, _⟩ := z.isList
    have := Heap.lt_size e
    exact ⟨Nat.ne_of_lt this, Nat.ne_of_lt (Nat.lt_succ_of_lt this)⟩
  | str x =>
    cases h
    obtain ⟨t, rfl⟩ := ru
    exact ⟨rfl, rfl, .txt x t, rfl, ⟨fun g1 S1 H1 le ok _ => ⟨_, rfl, strD_reps x⟩⟩, fun _ _ _ _ _ _ _ _ => ⟨trivial, trivial⟩⟩
  | @ref a n hm =>
    cases ru
    unfold itm at h
    dsimp only at h
    split at h
    · rename_i ds hs
      cases h
      refine ⟨rfl, ?_, .lst a, rfl, ⟨fun g1 S1 H1 le ok hc => ?_⟩, fun pins X σ H s hK I ok => ?_⟩
      · show sameL n ds S = true
        unfold sameL
        rw [hs]
        exact beqs_refl ds
      · obtain ⟨vs, z1, z2⟩ := ref_lst ok (le.mu _ _ hm) (sameL_eq hc)
        exact ⟨vs, SqL.of z1, z2⟩
      · subst hK
        obtain ⟨vs, z1, z2⟩ := ref_lst ok hm hs
        obtain ⟨its, _, z, _⟩ := I.list (SqL.of z1)
        obtain ⟨o, e, _⟩ := z.isList
        have := Heap.lt_size e
        exact ⟨Nat.ne_of_lt this, Nat.ne_of_lt (Nat.lt_succ_of_lt this)⟩
    · cases h
  | _ => cases h
theorem itr_E {g : Gh} {k : Sk} {ds : Itn} (s : Src K mg g k ds) : ItR K mg g (enumD 0 ds.1, ds.2) (ItE K k) where
  go := fun i g1 S1 H1 le ok hc hi => by
    have hi' : i < ds.1.length := by
      have hi2 : i < (enumD 0 ds.1).length := hi
      rw [enumD_length] at hi2
      exact hi2
    obtain ⟨vs, hs, r⟩ := s.at_ g1 S1 H1 le ok hc
    refine ⟨⟨vs, hs, by rw [← r.length]; exact hi'⟩, fun x H2 y => ?_⟩
    obtain ⟨T, v, rfl, hT, rfl, hv⟩ := y
    obtain ⟨w, hw, rw'⟩ := r.get (List.getElem?_eq_getElem hi')
    have := hv vs hs
    rw [hw] at this
    cases this
    obtain ⟨o, e⟩ := ok.newI (o := .tup [.int (i : Nat), v]) hT
    refine ⟨_, .tup [.int (i : Nat), ds.1[i]], e, o, ?_, .tup (SqT.of upd_same) (.cons (.int _) (.cons (rw'.mono e.le) .nil))⟩
    show (enumD 0 ds.1)[i]? = _
    rw [enumD_get, List.getElem?_eq_getElem hi']
    simp
  stop := fun g1 S1 H1 le ok hc => by
    obtain ⟨vs, hs, r⟩ := s.at_ g1 S1 H1 le ok hc
    refine ⟨vs, hs, ?_⟩
    show _ = (enumD 0 ds.1).length
    rw [enumD_length, r.length]
theorem itr_Z {g : Gh} {k l : Sk} {ds es : Itn} (s : Src K mg g k ds) (s' : Src K mg g l es) : ItR K mg g (zipD ds.1 es.1, fun S => ds.2 S && es.2 S) (ItZ K k l) where
  go := fun i g1 S1 H1 le ok hc hi => by
    have hi' : i < (zipD ds.1 es.1).length := hi
    rw [zipD_length] at hi'
    have hc' : (ds.2 S1 && es.2 S1) = true := hc
    rw [Bool.and_eq_true] at hc'
    obtain ⟨vs, hs, r⟩ := s.at_ g1 S1 H1 le ok hc'.1
    obtain ⟨us, hu, r'⟩ := s'.at_ g1 S1 H1 le ok hc'.2
    have h1 : i < ds.1.length := by omega
    have h2 : i < es.1.length := by omega
    refine ⟨⟨vs, us, hs, hu, by rw [← r.length]; exact h1, by rw [← r'.length]; exact h2⟩, fun x H2 y => ?_⟩
    obtain ⟨T, v, u, rfl, hT, rfl, hv, hu'⟩ := y
    obtain ⟨w, hw, rw'⟩ := r.get (List.getElem?_eq_getElem h1)
    obtain ⟨w2, hw2, rw2⟩ := r'.get (List.getElem?_eq_getElem h2)
    have q1 := hv vs hs
    rw [hw] at q1
    cases q1
    have q2 := hu' us hu
    rw [hw2] at q2
    cases q2
    obtain ⟨o, e⟩ := ok.newI (o := .tup [v, u]) hT
    exact ⟨_, .tup [ds.1[i], es.1[i]], e, o, zipD_get (List.getElem?_eq_getElem h1) (List.getElem?_eq_getElem h2), .tup (SqT.of upd_same) (.cons (rw'.mono e.le) (.cons (rw2.mono e.le) .nil))⟩
  stop := fun g1 S1 H1 le ok hc => by
    have hc' : (ds.2 S1 && es.2 S1) = true := hc
    rw [Bool.and_eq_true] at hc'
    obtain ⟨vs, hs, r⟩ := s.at_ g1 S1 H1 le ok hc'.1
    obtain ⟨us, hu, r'⟩ := s'.at_ g1 S1 H1 le ok hc'.2
    refine ⟨vs, us, hs, hu, ?_⟩
    show _ = (zipD ds.1 es.1).length
    rw [zipD_length, r.length, r'.length]
theorem ui_enum {e : Expr} {da : DE D} {p pos tpos : Pos} {elts : List Expr} {kk : Nat} (hg : Gl X "enumerate") (hm : X.mg "enumerate" = none) (ha : PA X [e] (UA X.K mg W (dCons da dNil))) (hs : starEach [e] X.env = [(false, eval e X.env)] := by rfl) :
    PI X (.Tuple elts kk tpos) (.Call (.Name "enumerate" p) [e] [] pos) (UI X.K mg W (dEnum da)) := by
  refine ⟨fun pins s σ H R I ⟨env, S, g, h, p⟩ => ?_⟩
  have p' : Post X.K mg W (ItR X.K mg) σ g H (((dCons da dNil) env S).bind fun xs S1 => (match xs with | [d] => (itm d S1).bind fun ds S2 => .ok (enumD 0 ds.1, ds.2) S2 | _ => .fail)) R := by
    unfold dEnum at p
    unfold dCons dNil
    cases q : da env S with
    | ok d S1 => rw [q] at p; exact p
    | fail => rw [q] at p; exact p
    | exc x S1 => rw [q] at p; exact p
  refine Call_ (ld_blt I hg hm boot_enumerate (PyProof.Rows.callWith_type1 (thn (ha.run pos pins s σ H _ I (U.seq h p')) fun us s1 ⟨vs, H1, I1, r1, g2, S2, xs, e2, h2, r2, p2⟩ => ?_) hs rfl))
  split at p2
  case h_2 => exact p2.elim
  rename_i d
  obtain ⟨v, rfl, rv⟩ := r2.one
  obtain ⟨u, rfl, ru⟩ := r1.one
  cases hi : itm d S2 with
  | fail => rw [hi] at p2; exact p2.elim
  | exc x S3 => exact absurd hi (by unfold itm; split <;> (first | (intro z; cases z; done) | (split <;> intro z <;> cases z)))
  | ok ds S3 =>
    rw [hi] at p2
    obtain ⟨rfl, hc, k, rfl, src, hap⟩ := src_of rv ru hi
    obtain ⟨ap1, ap2⟩ := hap pins X σ H1 s1 rfl I1 h2.ok
    obtain ⟨vs, hsq, rq⟩ := src.at_ g2 _ H1 (.refl _) h2.ok hc
    obtain ⟨items, hCo, _, _⟩ := Sk.items_of I1 hsq
    refine enum_begins1 (Sk.begins items k) hCo fun h' he hit hk => wpAny_pyIter_enum he ?_
    have I2 : Inv X pins σ H1 { s1 with heap := h' } := I1.kept (t' := s1.toks) hk
    have hef : s1.heap.objs.size + 1 ∉ k.fp s1.heap.objs.size := by
      cases k with
      | lst a => have : a ≠ s1.heap.objs.size + 1 := ap2; simp only [Sk.fp, List.mem_cons, List.not_mem_nil, or_false, not_or]; exact ⟨Nat.succ_ne_self _, fun z => this z.symm⟩
      | tup a => have : a ≠ s1.heap.objs.size + 1 := ap2; simp only [Sk.fp, List.mem_cons, List.not_mem_nil, or_false, not_or]; exact ⟨Nat.succ_ne_self _, fun z => this z.symm⟩
      | txt x t => simp [Sk.fp]
    refine ⟨s1.heap.objs.size + 1, [s1.heap.objs.size + 1, s1.heap.objs.size], _, _, H1, rfl, I2, turn_E k (s1.heap.objs.size + 1) s1.heap.objs.size (Nat.succ_ne_self _) hef ap1, ⟨⟨.none, by simpa using he⟩, Sk.start hit⟩, fun b hb => ?_, p2.now h2.ok (itr_E src)⟩
    have e' : b = s1.heap.objs.size + 1 ∨ b = s1.heap.objs.size := by simpa using hb
    have hle : s1.heap.objs.size ≤ b := by
      rcases e' with z | z
      · rw [z]; exact Nat.le_add_right _ _
      · rw [z]; exact Nat.le_refl _
    exact I1.fpOk hle (I1.hok.fresh hle)
theorem ui_zip {e e2 : Expr} {da db : DE D} {p pos tpos : Pos} {elts : List Expr} {kk : Nat} (hg : Gl X "zip") (hm : X.mg "zip" = none) (ha : PA X [e, e2] (UA X.K mg W (dCons da (dCons db dNil))))
    (hs : starEach [e, e2] X.env = (false, eval e X.env) :: starEach [e2] X.env := by rfl) (hpl : (backTo pos (starEach [e2] X.env)).any (·.1) = false := by rfl) :
    PI X (.Tuple elts kk tpos) (.Call (.Name "zip" p) [e, e2] [] pos) (UI X.K mg W (dZip da db)) := by
  refine ⟨fun pins s σ H R I ⟨env, S, g, h, p⟩ => ?_⟩
  have p' : Post X.K mg W (ItR X.K mg) σ g H (((dCons da (dCons db dNil)) env S).bind fun xs S1 => (match xs with | [x, y] => (itm x S1).bind fun ds S3 => (itm y S3).bind fun es S4 => .ok (zipD ds.1 es.1, fun S => ds.2 S && es.2 S) S4 | _ => .fail)) R := by
    unfold dZip at p
    unfold dCons dNil
    cases q : da env S with
    | ok d S1 =>
      rw [q] at p
      have p0 : Post X.K mg W (ItR X.K mg) σ g H ((db env S1).bind fun y S2 => (itm d S2).bind fun ds S3 => (itm y S3).bind fun es S4 => .ok (zipD ds.1 es.1, fun S => ds.2 S && es.2 S) S4) R := p
      show Post _ _ _ _ _ _ _ (((db env S1).bind _).bind _ |>.bind _) _
      cases q2 : db env S1 with
      | ok d2 S2 => rw [q2] at p0; exact p0
      | fail => rw [q2] at p0; exact p0
      | exc x S2 => rw [q2] at p0; exact p0
    | fail => rw [q] at p; exact p
    | exc x S1 => rw [q] at p; exact p
  refine Call_ (ld_blt I hg hm PyProof.Rows.boot_zip (PyProof.Rows.callWith_type1 (thn (ha.run pos pins s σ H _ I (U.seq h p')) fun us s1 ⟨vs, H1, I1, r1, g2, S2, xs, e2', h2, r2, p2⟩ => ?_) hs hpl))
  split at p2
  case h_2 => exact p2.elim
  rename_i x y
  obtain ⟨v, v2, rfl, rv, rv2⟩ := r2.two
  obtain ⟨u, u2, rfl, ru, ru2⟩ := r1.two
  have noexc : ∀ (d : D) (S : Sto) (z : Xc) (S' : Sto), itm d S ≠ .exc z S' := fun d S z S' => by
    unfold itm
    split <;> (first | (intro z; cases z; done) | (split <;> intro z <;> cases z))
  cases hi : itm x S2 with
  | fail => rw [hi] at p2; exact p2.elim
  | exc z S3 => exact absurd hi (noexc _ _ _ _)
  | ok ds S3 =>
    rw [hi] at p2
    obtain ⟨rfl, hc, k, rfl, src, hap⟩ := src_of rv ru hi
    have p3 : Post X.K mg W (ItR X.K mg) σ g2 H1 ((itm y S3).bind fun es S4 => .ok (zipD ds.1 es.1, fun S => ds.2 S && es.2 S) S4) R := p2
    cases hj : itm y S3 with
    | fail => rw [hj] at p3; exact p3.elim
    | exc z S4 => exact absurd hj (noexc _ _ _ _)
    | ok es S4 =>
      rw [hj] at p3
      obtain ⟨rfl, hc', l, rfl, src', hap'⟩ := src_of rv2 ru2 hj
      obtain ⟨vs, hsq, rq⟩ := src.at_ g2 _ H1 (.refl _) h2.ok hc
      obtain ⟨us, huq, ruq⟩ := src'.at_ g2 _ H1 (.refl _) h2.ok hc'
      obtain ⟨items, hCo, _, _⟩ := Sk.items_of I1 hsq
      obtain ⟨items2, hCo2, _, _⟩ := Sk.items_of I1 huq
      have lt : ∀ {q : Sk} {ws : List V}, q.Sq X.K H1 ws → ∀ j, s1.heap.objs.size ≤ j → ∀ i, s1.heap.objs.size ≤ i → j ≠ i → q.apart i ∧ j ∉ q.fp i := fun {q ws} hq j hj i hi hne => by
        cases q with
        | lst a =>
          obtain ⟨its, _, z, _⟩ := I1.list hq
          obtain ⟨o, e, _⟩ := z.isList
          have := Heap.lt_size e
          exact ⟨Nat.ne_of_lt (Nat.lt_of_lt_of_le this hi), by simp only [Sk.fp, List.mem_cons, List.not_mem_nil, or_false, not_or]; exact ⟨hne, Nat.ne_of_gt (Nat.lt_of_lt_of_le this hj)⟩⟩
        | tup a =>
          obtain ⟨its, _, z, _⟩ := I1.tuple hq
          obtain ⟨o, e, _⟩ := z
          have := Heap.lt_size e
          exact ⟨Nat.ne_of_lt (Nat.lt_of_lt_of_le this hi), by simp only [Sk.fp, List.mem_cons, List.not_mem_nil, or_false, not_or]; exact ⟨hne, Nat.ne_of_gt (Nat.lt_of_lt_of_le this hj)⟩⟩
        | txt x t => exact ⟨trivial, by simp only [Sk.fp, List.mem_singleton]; exact hne⟩
      refine zip_begins2 (Sk.begins items k) (Sk.begins items2 l) hCo hCo2 fun h' hz hTI hTO h1 h2' hsz hk => wpAny_pyIter_zip hz ?_
      have I2 : Inv X pins σ H1 { s1 with heap := h' } := I1.kept (t' := s1.toks) hk
      have sep : ZipSep2 (s1.heap.objs.size + 4) (s1.heap.objs.size + 2) (s1.heap.objs.size + 3) s1.heap.objs.size (s1.heap.objs.size + 1) (k.fp s1.heap.objs.size) (l.fp (s1.heap.objs.size + 1)) :=
        { TIz := na (by decide), TOz := na (by decide), TITO := na (by decide), TIi1 := na0 (by decide), mem1 := by cases k <;> simp [Sk.fp], zf1 := (lt hsq _ (Nat.le_add_right _ _) _ (Nat.le_refl _) (na0 (by decide))).2, Tf1 := (lt hsq _ (Nat.le_add_right _ _) _ (Nat.le_refl _) (na0 (by decide))).2,
          TIi2 := na (by decide), mem2 := by cases l <;> simp [Sk.fp], zf2 := (lt huq _ (Nat.le_add_right _ _) _ (Nat.le_add_right _ _) (na (by decide))).2, Tf2 := (lt huq _ (Nat.le_add_right _ _) _ (Nat.le_add_right _ _) (na (by decide))).2,
          sep1_2 := (lt huq _ (Nat.le_refl _) _ (Nat.le_add_right _ _) (Ne.symm (na0 (by decide)))).2, sep2_1 := (lt hsq _ (Nat.le_add_right _ _) _ (Nat.le_refl _) (na0 (by decide))).2 }
      have ap1 : k.apart s1.heap.objs.size := (lt hsq (s1.heap.objs.size + 1) (Nat.le_add_right _ _) _ (Nat.le_refl _) (na0 (by decide))).1
      have ap2 : l.apart (s1.heap.objs.size + 1) := (lt huq s1.heap.objs.size (Nat.le_refl _) _ (Nat.le_add_right _ _) (Ne.symm (na0 (by decide)))).1
      refine ⟨s1.heap.objs.size + 4, [s1.heap.objs.size + 4, s1.heap.objs.size + 2, s1.heap.objs.size + 3, s1.heap.objs.size, s1.heap.objs.size + 1], _, _, H1, rfl, I2, turn_Z k l _ _ _ _ _ sep ap1 ap2, ⟨hz, hTI, ⟨_, _, hTO⟩, Sk.start h1, Sk.start h2'⟩, fun b hb => ?_, p3.now h2.ok (itr_Z src src')⟩
      have hle : s1.heap.objs.size ≤ b := by
        simp only [List.mem_cons, List.not_mem_nil, or_false] at hb
        rcases hb with q | q | q | q | q
        · rw [q]; exact Nat.le_add_right _ _
        · rw [q]; exact Nat.le_add_right _ _
        · rw [q]; exact Nat.le_add_right _ _
        · rw [q]; exact Nat.le_refl _
        · rw [q]; exact Nat.le_add_right _ _
      exact I1.fpOk hle (I1.hok.fresh hle)
end
end Dn

set_option Elab.async false
set_option linter.all false
set_option maxRecDepth 100000
set_option maxHeartbeats 2000000
/-! Dn9: short words for the printed terms -/
namespace Dn
open PySem PySem.Spec PyProof.Rows L2

/-! ### chains -/
def chK (f' : D → D → Sto → RE D) (c : DE D) (env : Env) (y z : D) (S : Sto) : RE D := match z with
  | .bl true => (c env S).bind fun w S4 => f' y w S4
  | .bl false => .ok (.bl false) S
  | _ => .fail
def dChain (f f' : D → D → Sto → RE D) (a b c : DE D) : DE D := fun env S => (a env S).bind fun x S1 => (b env S1).bind fun y S2 => (f x y S2).bind fun z S3 => chK f' c env y z S3
theorem nomarks {op : CmpOp} (h : (op == .In || op == .NotIn) = false) (b : Expr) : behindInMarks op b = false := by
  unfold behindInMarks
  split
  · rw [h]
    simp
  · rfl
section
variable {X : Cx} {W : WX} {a b c e : Expr} {es : List Expr} {pos p : Pos} {da db dc : DE D} {dl : DE (List D)} {mg : Bk} {K : PySem.W.Frag} {j k : Nat} {x : Str}
/-- an operation, then the rest -/
theorem OpS.seq {r : R2} {f : D → D → Sto → RE D} {σ : L2.St} {g : Gh} {S : Sto} {H : Hp} {x y : D} {v u : V} {Q : VK} {kk : D → Sto → RE D} (hs : OpS K mg r f) (ok : Ok K mg g S H) (rx : Rep K mg g x v) (ry : Rep K mg g y u)
    (p : Post K mg W (Rep K mg) σ g H ((f x y S).bind kk) Q) : r v u H (fun z H1 => ∃ g1 S1 d, Ext g H g1 H1 ∧ Ok K mg g1 S1 H1 ∧ Rep K mg g1 d z ∧ Post K mg W (Rep K mg) σ g1 H1 (kk d S1) Q) := by
  refine hs (W := W) (σ := σ) ok rx ry ?_
  cases e : f x y S with
  | fail => rw [e] at p; exact p
  | ok d S1 =>
    rw [e] at p
    exact fun z g1 H1 x o r => ⟨g1, S1, d, x, o, r, Post.ext p x⟩
  | exc x S1 => rw [e] at p; exact p
theorem ch_tr {r r' : R2} {f f' : D → D → Sto → RE D} (h1 : OpS K mg r f) (h2 : OpS K mg r' f') {σ : L2.St} {H : Hp} {Q : VK} (h : UE K mg W (dChain f f' da db dc) σ H Q) : tChain r r' (UE K mg W da) (UE K mg W db) (UE K mg W dc) σ H Q := by
  obtain ⟨env, S, g, h, p⟩ := h
  obtain ⟨env1, S1, g1, a1, p1⟩ := U.seq h p
  refine ⟨env1, S1, g1, a1, p1.imp fun v H1 ⟨g2, S2, x, e2, a2, r2, p2⟩ => ?_⟩
  obtain ⟨env3, S3, g3, a3, p3⟩ := U.seq a2 p2
  refine ⟨env3, S3, g3, a3, p3.imp fun u H2 ⟨g4, S4, y, e4, a4, r4, p4⟩ => ?_⟩
  refine h1 (W := W) (σ := σ) a4.ok (r2.mono e4.le) r4 ?_
  have q := p4
  cases e : f x y S4 with
  | fail => rw [e] at p4; exact p4
  | exc z S5 => rw [e] at p4; exact p4
  | ok d S5 =>
    rw [e] at p4
    intro z g5 H5 e5 o5 r5
    have p5 := Post.ext p4 e5
    have p5' : Post K mg W (Rep K mg) σ g5 H5 (chK f' dc env y d S5) Q := p5
    clear p5 p4 e
    cases r5 with
    | bl b =>
      refine ⟨b, rfl, ?_⟩
      cases b with
      | false => exact p5'.now o5 (.bl false)
      | true =>
        rw [if_pos rfl]
        obtain ⟨env6, S6, g6, a6, p6⟩ := U.seq (a4.ext e5 o5) p5'
        exact ⟨env6, S6, g6, a6, p6.imp fun w H6 ⟨g7, S7, z, e7, a7, r7, p7⟩ => h2 a7.ok ((r4.mono e5.le).mono e7.le) r7 p7⟩
    | _ => exact p5'.elim
theorem u_chain {op op' : CmpOp} {r r' : R2} {f f' : D → D → Sto → RE D} (ho : OpR X (compareOp op) r) (ho' : OpR X (compareOp op') r') (h1 : OpS X.K mg r f) (h2 : OpS X.K mg r' f') (ha : PE X a (UE X.K mg W da)) (hb : PE X b (UE X.K mg W db)) (hc : PE X c (UE X.K mg W dc))
    (hm : lastMarks [op, op'] [b, c] = false := by rfl) : PE X (.Compare a [op, op'] [b, c] pos) (UE X.K mg W (dChain f f' da db dc)) :=
  (pe_chain ho ho' ha hb hc hm).imp fun σ H Q h => ch_tr h1 h2 h
theorem t_chain {op op' : CmpOp} {r r' : R2} {f f' : D → D → Sto → RE D} (ho : OpR X (compareOp op) r) (ho' : OpR X (compareOp op') r') (h1 : OpS X.K mg r f) (h2 : OpS X.K mg r' f') (ha : PE X a (UE X.K mg W da)) (hb : PE X b (UE X.K mg W db)) (hc : PE X c (UE X.K mg W dc))
    (hm : lastMarks [op, op'] [b, c] = false := by rfl) : PT X (.Compare a [op, op'] [b, c] pos) (UT X.K mg W (dT (dChain f f' da db dc))) :=
  (pt_chain ho ho' ha hb hc hm).imp fun σ H Q ⟨env, S, g, h, p⟩ => by
    refine ch_tr h1 h2 ?_
    obtain ⟨env1, S1, g1, a1, p1⟩ := U.seq h p
    refine ⟨env1, S1, g1, a1, p1.imp fun v H1 ⟨g2, S2, x, e2, a2, r2, p2⟩ => ?_⟩
    cases r2 with
    | bl k => exact ⟨k, rfl, p2.now a2.ok rfl⟩
    | _ => exact p2.elim

/-! ### comparisons, by names -/
theorem hu65 (hr : Room j X.A) : X.A.units + 65 < cLine := by have := hr.un; omega
theorem hu64 (hr : Room j X.A) : X.A.units + 64 < cLine := by have := hr.un; omega
theorem c_eq (hr : Room j X.A) (ha : PE X a (UE X.K mg W da)) (hb : PE X b (UE X.K mg W db)) : PE X (.Compare a [.Eq] [b] pos) (UE X.K mg W (dOp eqV da db)) := u_cmp (op_eqV (hu64 hr)) os_eq ha hb (nomarks rfl b)
theorem c_ne (hr : Room j X.A) (ha : PE X a (UE X.K mg W da)) (hb : PE X b (UE X.K mg W db)) : PE X (.Compare a [.NotEq] [b] pos) (UE X.K mg W (dOp neV da db)) := u_cmp (op_neV (hu64 hr)) os_ne ha hb (nomarks rfl b)
theorem t_eq (hr : Room j X.A) (ha : PE X a (UE X.K mg W da)) (hb : PE X b (UE X.K mg W db)) : PT X (.Compare a [.Eq] [b] pos) (UT X.K mg W (dT (dOp eqV da db))) := u_cmpT (op_eqV (hu64 hr)) os_eq ha hb (nomarks rfl b)
theorem t_ne (hr : Room j X.A) (ha : PE X a (UE X.K mg W da)) (hb : PE X b (UE X.K mg W db)) : PT X (.Compare a [.NotEq] [b] pos) (UT X.K mg W (dT (dOp neV da db))) := u_cmpT (op_neV (hu64 hr)) os_ne ha hb (nomarks rfl b)
end
/-! ### a def by its name -/
structure Fn1 (P : Program) (w : World) (K : PySem.W.Frag) (mg : Str → Option Value) (base : Heap) (x : Str) (ps : List Str) (k : Nat) (den : Den) : Prop where
  ex : ∃ f fd, mg x = some (.ref f) ∧ PySem.W.keepIn K (.ref f) = true ∧ Binds K fd ps [] ∧ FnOk P w K mg base (L2.CX P w) k f fd ps (SpD K ⟨mg, P, w⟩ ps.length den)
section
variable {X : Cx} {W : WX} {e : Expr} {es : List Expr} {pos p : Pos} {dl : DE (List D)} {j k : Nat} {x : Str} {ps : List Str} {den : Den}
theorem u_fG {q : Nat} (F : Fn1 X.prog X.w X.K X.mg X.base x ps k den) (hr : Room j X.A) (hk : k ≤ j) (tk : Takes X W) (hg : Gl X x) (ha : PA X (e :: es) (UA X.K X.bk W dl))
    (hdb : (x == ("__debug__" : Str)) = false := by decide) (he : starEach (e :: es) X.env = (false, eval e X.env) :: starEach es X.env := by rfl) (hpl : (backTo pos (starEach es X.env)).any (·.1) = false := by rfl) (hq : ps.length = q := by rfl) :
    PE X (.Call (.Name x p) (e :: es) [] pos) (UE X.K X.bk W (dArg (gcall q den) dl)) := by
  subst hq
  obtain ⟨f, fd, hm, hkp, hb, F⟩ := F.ex
  exact u_callG F (hr.mono hk) tk hg hm hkp hb ha hdb he hpl
theorem u_fP {q : Nat} (F : Fn1 X.prog X.w X.K X.mg X.base x ps k den) (hr : Room j X.A) (hk : k ≤ j) (tk : Takes X W) (hg : Gl X x) (ha : PA X (e :: es) (UA X.K X.bk W dl))
    (hdb : (x == ("__debug__" : Str)) = false := by decide) (he : starEach (e :: es) X.env = (false, eval e X.env) :: starEach es X.env := by rfl) (hpl : (backTo pos (starEach es X.env)).any (·.1) = false := by rfl) (hq : ps.length = q := by rfl) :
    PE X (.Call (.Name x p) (e :: es) [] pos) (UE X.K X.bk W (dArg (pcall q den) dl)) := by
  subst hq
  obtain ⟨f, fd, hm, hkp, hb, F⟩ := F.ex
  exact u_callP F (hr.mono hk) tk hg hm hkp hb ha hdb he hpl
theorem u_fB {q : Nat} (i : Nat) (F : Fn1 X.prog X.w X.K X.mg X.base x ps k den) (hr : Room j X.A) (hk : k ≤ j) (tk : Takes X W) (hg : Gl X x) (ha : PA X (e :: es) (UA X.K X.bk W dl))
    (hdb : (x == ("__debug__" : Str)) = false := by decide) (he : starEach (e :: es) X.env = (false, eval e X.env) :: starEach es X.env := by rfl) (hpl : (backTo pos (starEach es X.env)).any (·.1) = false := by rfl) (hq : ps.length = q := by rfl) :
    PE X (.Call (.Name x p) (e :: es) [] pos) (UE X.K X.bk W (dArg (bcall q i den) dl)) := by
  subst hq
  obtain ⟨f, fd, hm, hkp, hb, F⟩ := F.ex
  exact u_callB1 i F (hr.mono hk) tk hg hm hkp hb ha hdb he hpl
/-- what raises nothing -/
theorem tk0 {X : Cx} : Takes X W0 := fun _ _ x => by
  obtain ⟨_, _, _, _, _, _, _, _, _, _, _, _, _, _, _, _, z⟩ := x
  exact z.elim
end
/-- dead code -/
def dDead {α : Type} : DE α := fun _ _ => .fail
def dDeadS : DS := fun _ _ => .fail
section
variable {X : Cx} {W : WX} {e : Expr} {st : Stmt} {sts : List Stmt} {mg : Bk} {K : PySem.W.Frag}
theorem u_dead : PE X e (UE K mg W dDead) := ⟨fun _ _ _ _ _ _ ⟨_, _, _, _, p⟩ => p.elim⟩
theorem us_dead : PS X st (US K mg W dDeadS) := ⟨fun _ _ _ _ _ _ ⟨_, _, _, _, p⟩ => p.elim⟩
theorem uss_dead : PSs X sts (US K mg W dDeadS) := ⟨fun _ _ _ _ _ _ ⟨_, _, _, _, p⟩ => p.elim⟩
end
end Dn

set_option Elab.async false
set_option linter.all false
set_option maxRecDepth 100000
set_option maxHeartbeats 2000000
/-! Dn10: instances, their fields and methods -/
namespace L2
open PySem PySem.Spec PyProof.Rows
/-- o.m(e, .., k = v, ..) -/
def tMethN (C : Addr) (m : Str) (n j : Nat) (sp : Sp) (gV : List V → List V → List V) (E : XK) (ta : TE) (t tk : TA) : TE := fun σ H Q => ta σ H fun x H1 => ∃ a dx fs, x = .ref a ∧ H1 a = some (.ins C dx fs) ∧ fs.lookup m = none ∧
  t σ H1 fun vs H2 => tk σ H2 fun zs H3 => vs.length = n ∧ zs.length = j ∧ sp (gV (x :: vs) zs) H3 Q E
section
variable {X : Cx} {CX : CXT} {k n : Nat} {f C : Addr} {fd : FuncData} {ps ks : List Str} {sp : Sp} {E : XK} {m : Str} {pos apos : Pos} {e o : Expr} {es : List Expr} {kws : List Keyword} {ta : TE} {t tk : TA} {g : List Value → List Value → List Value} {gV : List V → List V → List V}
theorem pe_methN {pl : Sem Bool} (he : PE X o ta) (c : Cls X.K C) (hm : Meth X.K C m f) (F : FnOk X.prog X.w X.K X.mg X.base CX k f fd ps sp) (hr : Room k X.A) (hb : KBn X.K fd ps (n + 1) ks g gV) (hx : Passes CX X E) (ha : PA X (e :: es) t) (hkw : PK X kws tk)
    (hall : (backToKw pos (keywordEach kws X.env)).all (·.1.isSome) = true := by rfl) (hks : (backToKw pos (keywordEach kws X.env)).filterMap (·.1) = ks := by rfl)
    (hst : starEach (e :: es) X.env = (false, eval e X.env) :: starEach es X.env := by rfl) (hpl : ((backTo pos (starEach (e :: es) X.env)).any (·.1) || (backToKw pos (keywordEach kws X.env)).any (·.1.isNone)) = false := by rfl)
    (ht : eval (.Call (.Attribute o m apos) (e :: es) kws pos) X.env = (do
      let ov ← eval o X.env
      standAt apos.atName
      let (f, first) ← holding [ov] (getMethod ov m pl)
      callWith pos f first (backTo pos (starEach (e :: es) X.env)) (backToKw pos (keywordEach kws X.env))) := by rfl) :
    PE X (.Call (.Attribute o m apos) (e :: es) kws pos) (tMethN C m n ks.length sp gV E ta t tk) := by
  refine ⟨fun pins s σ H Q I h => ?_⟩
  refine PySem.W.methodCall_KW (pl := pl) (thn (he.run pins s σ H _ I h) fun u s1 ⟨x, H1, I1, rx, a, dx, fs, ex, ea, l, q⟩ => ?_) ht
  subst ex
  obtain rfl : u = Value.ref a := rx
  refine getmeth_ok I1 ea c hm l ?_
  refine PySem.W.callWith_KW (first := [.ref a]) (h₀ := X.base) I.ok.mod.kin hm.kp hall (thn (ha.run pos pins s1 σ H1 _ I1 q) fun us s2 ⟨vs, H2, I2, r, q2⟩ => ?_) hpl hst
  refine thn (hkw.run pos pins s2 σ H2 _ I2 q2) fun ws s3 ⟨zs, H3, I3, rz, l1, l2, q3⟩ => ⟨I3.kIn, ?_⟩
  rw [hks]
  have l0 : (V.ref a :: vs).length = n + 1 := congrArg Nat.succ l1
  exact run_fnN (us := .ref a :: us) (vs := .ref a :: vs) F hr hb hx I3 (.cons rfl r) rz l0 l2 q3
theorem pe_methN0 {pl : Sem Bool} (he : PE X o ta) (c : Cls X.K C) (hm : Meth X.K C m f) (F : FnOk X.prog X.w X.K X.mg X.base CX k f fd ps sp) (hr : Room k X.A) (hb : KBn X.K fd ps 1 ks g gV) (hx : Passes CX X E) (hkw : PK X kws tk)
    (hall : (backToKw pos (keywordEach kws X.env)).all (·.1.isSome) = true := by rfl) (hks : (backToKw pos (keywordEach kws X.env)).filterMap (·.1) = ks := by rfl)
    (hpl : ((backTo pos (starEach [] X.env)).any (·.1) || (backToKw pos (keywordEach kws X.env)).any (·.1.isNone)) = false := by rfl)
    (ht : eval (.Call (.Attribute o m apos) [] kws pos) X.env = (do
      let ov ← eval o X.env
      standAt apos.atName
      let (f, first) ← holding [ov] (getMethod ov m pl)
      callWith pos f first (backTo pos (starEach [] X.env)) (backToKw pos (keywordEach kws X.env))) := by rfl) :
    PE X (.Call (.Attribute o m apos) [] kws pos) (tMethN C m 0 ks.length sp gV E ta tNil tk) := by
  refine ⟨fun pins s σ H Q I h => ?_⟩
  refine PySem.W.methodCall_KW (pl := pl) (thn (he.run pins s σ H _ I h) fun u s1 ⟨x, H1, I1, rx, a, dx, fs, ex, ea, l, q⟩ => ?_) ht
  subst ex
  obtain rfl : u = Value.ref a := rx
  refine getmeth_ok I1 ea c hm l ?_
  refine PySem.W.callWith_KW0 (first := [.ref a]) (h₀ := X.base) I.ok.mod.kin hm.kp hall ?_ hpl
  refine thn (hkw.run pos pins s1 σ H1 _ I1 q) fun ws s3 ⟨zs, H3, I3, rz, l1, l2, q3⟩ => ⟨I3.kIn, ?_⟩
  rw [hks]
  exact run_fnN (us := [.ref a]) (vs := [.ref a]) F hr hb hx I3 (.cons rfl .nil) rz rfl l2 q3
/-- the keywords' values alone -/
theorem PK.imp {t t' : TA} (h : PK X kws t) (i : ∀ σ H Q, t' σ H Q → t σ H Q) : PK X kws t' := ⟨fun pos pins s σ H Q I q => h.run pos pins s σ H Q I (i σ H Q q)⟩
end
end L2
namespace Dn
open PySem PySem.Spec PyProof.Rows L2

/-! ### refs below n; what a call leaves behind is dropped -/
mutual
def D.rb (n : Nat) : D → Bool
  | .tup ds => rbs n ds
  | .lst ds => rbs n ds
  | .frl ds => rbs n ds
  | .dct ks ds => rbs n ks && rbs n ds
  | .ref m => decide (m < n)
  | _ => true
def rbs (n : Nat) : List D → Bool
  | [] => true
  | d :: ds => d.rb n && rbs n ds
end
def SO.rb (n : Nat) : SO → Bool
  | .lst ds => rbs n ds
  | .dct ks ds => rbs n ks && rbs n ds
  | .ins _ fs => fs.all fun q => q.2.rb n
  | .frd ks ds => rbs n ks && rbs n ds
  | .gone => true
def trim (n : Nat) (r : RE D) : RE D := match r with
  | .fail => .fail
  | .ok d S => if (n ≤ S.length ∧ d.rb n = true) ∧ ((S.take n).all (SO.rb n)) = true then .ok d (S.take n) else .fail
  | .exc x S => if n ≤ S.length ∧ ((S.take n).all (SO.rb n)) = true then .exc x (S.take n) else .fail
/-- a call over the whole store that leaves nothing behind -/
def tcall (n : Nat) (den : Den) : Den := fun ds S => trim S.length (gcall n den ds S)
section
variable {K : PySem.W.Frag} {mg : Bk} {g g' : Gh} {S S' : Sto} {H H' : Hp} {W : WX} {σ : L2.St} {n : Nat}
abbrev cutG (g : Gh) (n : Nat) : Gh := ⟨g.im, g.mu.take n⟩
theorem cut_mu {m : Nat} {a : Addr} (hm : m < n) (h : g.mu[m]? = some a) : (cutG g n).mu[m]? = some a := by
  show (g.mu.take n)[m]? = some a
  rw [List.getElem?_take_of_lt hm]
  exact h
mutual
theorem Rep.cut : ∀ {d : D} {v : V}, Rep K mg g d v → d.rb n = true → Rep K mg (cutG g n) d v
  | _, _, .non, _ => .non
  | _, _, .bl b, _ => .bl b
  | _, _, .int i, _ => .int i
  | _, _, .str x, _ => .str x
  | _, _, .tup h r, q => .tup h (Reps.cutR r (by simpa [D.rb] using q))
  | _, _, .lst h r, q => .lst h (Reps.cutR r (by simpa [D.rb] using q))
  | _, _, .frl h r, q => .frl h (Reps.cutR r (by simpa [D.rb] using q))
  | _, _, .dctK h r, q => by
    rw [D.rb, Bool.and_eq_true] at q
    exact .dctK h (KvK.cut r q.2)
  | _, _, .dctN h0 h h1 h2 r, q => by
    rw [D.rb, Bool.and_eq_true] at q
    exact .dctN h0 h h1 h2 (KvN.cut r q.1 q.2)
  | _, _, .ref h, q => .ref (cut_mu (by simpa [D.rb] using q) h)
  | _, _, .glo h, _ => .glo h
  | _, _, .ty n, _ => .ty n
theorem Reps.cutR : ∀ {ds : List D} {vs : List V}, Reps K mg g ds vs → rbs n ds = true → Reps K mg (cutG g n) ds vs
  | _, _, .nil, _ => .nil
  | _, _, .cons h r, q => by
    simp only [rbs, Bool.and_eq_true] at q
    exact .cons (Rep.cut h q.1) (Reps.cutR r q.2)
theorem KvK.cut : ∀ {ks ds : List D} {us : List (Key × V)}, KvK K mg g ks ds us → rbs n ds = true → KvK K mg (cutG g n) ks ds us
  | _, _, _, .nil, _ => .nil
  | _, _, _, .cons h1 h r, q => by
    simp only [rbs, Bool.and_eq_true] at q
    exact .cons h1 (Rep.cut h q.1) (KvK.cut r q.2)
theorem KvN.cut : ∀ {ks ds : List D} {us : List (NestedKey × Addr × Value)}, KvN K mg g ks ds us → rbs n ks = true → rbs n ds = true → KvN K mg (cutG g n) ks ds us
  | _, _, _, .nil, _, _ => .nil
  | _, _, _, .cons h1 h2 h3 h4 h5 r, p, q => by
    simp only [rbs, Bool.and_eq_true] at p q
    exact .cons h1 h2 (Rep.cut h3 p.1) (Rep.cut h4 q.1) h5 (KvN.cut r p.2 q.2)
end
theorem Fs.cut : ∀ {fs : List (Str × D)} {us : List (Str × V)}, Fs K mg g fs us → (fs.all fun q => q.2.rb n) = true → Fs K mg (cutG g n) fs us
  | _, _, .nil, _ => .nil
  | _, _, .cons h r, q => by
    rw [List.all_cons, Bool.and_eq_true] at q
    exact .cons (h.cut q.1) (Fs.cut r q.2)
theorem SoR.cut {a : Addr} : ∀ {o : SO}, SoR K mg g a H o → o.rb n = true → SoR K mg (cutG g n) a H o
  | .lst ds, ⟨vs, h1, h2⟩, q => ⟨vs, h1, h2.cutR q⟩
  | .dct ks ds, ⟨o, h1, h2⟩, q => by
    rw [SO.rb, Bool.and_eq_true] at q
    exact ⟨o, h1, h2.imp (fun ⟨us, a1, a2⟩ => ⟨us, a1, a2.cut q.2⟩) fun ⟨ob, xs, a1, a2, a3, a4⟩ => ⟨ob, xs, a1, a2, a3, a4.cut q.1 q.2⟩⟩
  | .ins c fs, ⟨C, dx, us, h0, h1, h2⟩, q => ⟨C, dx, us, h0, h1, h2.cut q⟩
  | .frd ks ds, ⟨⟨ob, o, h1, h2⟩, h3⟩, q => by
    rw [SO.rb, Bool.and_eq_true] at q
    exact ⟨⟨ob, o, h1, h2.imp (fun ⟨us, a1, a2⟩ => ⟨us, a1, a2.cut q.2⟩) fun ⟨ob, xs, a1, a2, a3, a4⟩ => ⟨ob, xs, a1, a2, a3, a4.cut q.1 q.2⟩⟩, h3⟩
  | .gone, _, _ => trivial
theorem Ok.cut (ok : Ok K mg g' S' H') (e : Ext g H g' H') (hn : g.mu.length = n) (hl : n ≤ S'.length) (hr : ((S'.take n).all (SO.rb n)) = true) : Ok K mg (cutG g' n) (S'.take n) H' ∧ Ext g H (cutG g' n) H' := by
  refine ⟨⟨ok.ex, ?_, fun a h => ok.there a (List.mem_of_mem_take h), ok.inj.sublist (List.take_sublist _ _), fun m o a h1 h2 => ?_⟩, ⟨⟨e.le.im, fun m a h => cut_mu (by rw [← hn]; exact (List.getElem?_eq_some_iff.mp h).1) (e.le.mu m a h)⟩, e.new, e.keep, fun a h => e.newm a (List.mem_of_mem_take h)⟩⟩
  · show (g'.mu.take n).length = _
    rw [List.length_take, List.length_take, ok.len]
  · have hm : m < n := by
      have := (List.getElem?_eq_some_iff.mp h1).1
      rw [List.length_take] at this
      omega
    have h2' : (g'.mu.take n)[m]? = some a := h2
    rw [List.getElem?_take_of_lt hm] at h1 h2'
    have hb : o.rb n = true := by
      refine List.all_eq_true.mp hr o (List.mem_of_getElem? (i := m) ?_)
      rw [List.getElem?_take_of_lt hm]
      exact h1
    exact (ok.live m o a h1 h2').imp id fun z => ⟨z.1, z.2.cut hb⟩
theorem Post.trim {r : RE D} {Q : VK} (hn : g.mu.length = n) (p : Post K mg W (Rep K mg) σ g H (trim n r) Q) : Post K mg W (Rep K mg) σ g H r Q := by
  cases r with
  | fail => exact p
  | ok d S1 =>
    unfold Dn.trim at p
    dsimp only at p
    split at p
    · rename_i h
      intro v g' H' e' o' r'
      obtain ⟨o2, e2⟩ := o'.cut e' hn h.1.1 h.2
      exact p v _ H' e2 o2 (r'.cut h.1.2)
    · exact p.elim
  | exc x S1 =>
    unfold Dn.trim at p
    dsimp only at p
    split at p
    · rename_i h
      intro cls dd g' H' e' o' x'
      obtain ⟨o2, e2⟩ := o'.cut e' hn h.1 h.2
      exact p cls dd _ H' e2 o2 (x'.im rfl)
    · exact p.elim
theorem spd_t {den : Den} {vs : List V} {ds : List D} {Q : VK} (ok : Ok K mg g S H) (r : Reps K mg g ds vs) (p : Post K mg W (Rep K mg) σ g H (tcall n den ds S) Q) : SpD K mg n den vs H Q (WE W σ) :=
  spd_g ok r (p.trim ok.len)
end
section
variable {X : Cx} {W : WX} {e : Expr} {es : List Expr} {pos p : Pos} {dl : DE (List D)} {j k : Nat} {x : Str} {ps : List Str} {den : Den}
theorem u_fT {q : Nat} (F : Fn1 X.prog X.w X.K X.mg X.base x ps k den) (hr : Room j X.A) (hk : k ≤ j) (tk : Takes X W) (hg : Gl X x) (ha : PA X (e :: es) (UA X.K X.bk W dl))
    (hdb : (x == ("__debug__" : Str)) = false := by decide) (he : starEach (e :: es) X.env = (false, eval e X.env) :: starEach es X.env := by rfl) (hpl : (backTo pos (starEach es X.env)).any (·.1) = false := by rfl) (hq : ps.length = q := by rfl) :
    PE X (.Call (.Name x p) (e :: es) [] pos) (UE X.K X.bk W (dArg (tcall q den) dl)) := by
  subst hq
  obtain ⟨f, fd, hm, hkp, hb, F⟩ := F.ex
  exact u_call spd_t F (hr.mono hk) tk hg hm hkp hb ha hdb he hpl
end

/-! ### fields -/
def putD (f : Str) (v : D) : List (Str × D) → List (Str × D)
  | [] => [(f, v)]
  | (g, x) :: r => if g = f then (g, v) :: r else (g, x) :: putD f v r
def fldV (c f : Str) (x : D) (S : Sto) : RE D := match x with
  | .ref n => (match S[n]? with
    | some (.ins c' fs) => if c' = c then (match fs.lookup f with
      | some d => .ok d S
      | none => .fail) else .fail
    | _ => .fail)
  | _ => .fail
def setFV (c f : Str) (x y : D) (env : Env) (S : Sto) : RS := match x with
  | .ref n => (match S[n]? with
    | some (.ins c' fs) => if c' = c ∧ fs.length < 1000 then .nx env (S.set n (.ins c' (putD f y fs))) else .fail
    | _ => .fail)
  | _ => .fail
def dSetF (c f : Str) (o e : DE D) : DS := fun env S => (e env S).bindS env fun y S1 => (o env S1).bindS env fun x S2 => setFV c f x y env S2
section
variable {K : PySem.W.Frag} {mg : Bk} {g : Gh} {S : Sto} {H : Hp} {X : Cx} {W : WX} {σ : L2.St}
theorem Fs.get {f : Str} : ∀ {fs : List (Str × D)} {us : List (Str × V)} {d : D}, Fs K mg g fs us → fs.lookup f = some d → ∃ v, us.lookup f = some v ∧ Rep K mg g d v
  | _, _, _, .nil, h => by cases h
  | _, _, d, .cons (f := f') (fs := fs) (us := us) r t, h => by
    rw [List.lookup_cons] at h ⊢
    cases q : f == f' with
    | true =>
      rw [q] at h
      cases h
      exact ⟨_, rfl, r⟩
    | false =>
      rw [q] at h
      exact Fs.get t h
theorem Fs.none {f : Str} : ∀ {fs : List (Str × D)} {us : List (Str × V)}, Fs K mg g fs us → fs.lookup f = none → us.lookup f = none
  | _, _, .nil, _ => rfl
  | _, _, .cons (f := f') r t, h => by
    rw [List.lookup_cons] at h ⊢
    cases q : f == f' with
    | true =>
      rw [q] at h
      cases h
    | false =>
      rw [q] at h
      exact Fs.none t h
theorem Fs.put {f : Str} {d : D} {v : V} (r : Rep K mg g d v) : ∀ {fs : List (Str × D)} {us : List (Str × V)}, Fs K mg g fs us → Fs K mg g (putD f d fs) (putF f v us)
  | _, _, .nil => .cons r .nil
  | _, _, .cons (f := f') h t => by
    unfold putD putF
    by_cases q : f' = f
    · rw [if_pos q, if_pos q]
      exact .cons r t
    · rw [if_neg q, if_neg q]
      exact .cons h (Fs.put r t)
theorem Fs.len : ∀ {fs : List (Str × D)} {us : List (Str × V)}, Fs K mg g fs us → fs.length = us.length
  | _, _, .nil => rfl
  | _, _, .cons _ t => congrArg Nat.succ (Fs.len t)
theorem ref_ins {n : Nat} {a : Addr} {c : Str} {fs : List (Str × D)} (ok : Ok K mg g S H) (h : g.mu[n]? = some a) (q : S[n]? = some (.ins c fs)) : ∃ C dx us, mg.mg c = some (.ref C) ∧ H a = some (.ins C dx us) ∧ Fs K mg g fs us := by
  rcases ok.live n _ a q h with z | z
  · cases z
  · exact z.2
/-- a class by its name -/
structure CsN (K : PySem.W.Frag) (mg : Str → Option Value) (c : Str) : Prop where
  ex : ∃ C, mg c = some (.ref C) ∧ Cls K C
structure NoA (K : PySem.W.Frag) (mg : Str → Option Value) (c f : Str) : Prop where
  ex : ∀ C, mg c = some (.ref C) → NoAttr K C f
theorem u_fld {c f : Str} {e : Expr} {pos : Pos} {da : DE D} (hc : CsN X.K X.mg c) (hn : NoA X.K X.mg c f) (he : PE X e (UE X.K X.bk W da)) (hb : attributeBase e f X.env (eval e X.env) = eval e X.env := by rfl) : PE X (.Attribute e f pos) (UE X.K X.bk W (dUn (fldV c f) da)) :=
  (pe_fld he hb).imp fun σ H Q ⟨env, S, g, h, p⟩ => by
    obtain ⟨env1, S1, g1, h1, p1⟩ := U.seq h p
    refine ⟨env1, S1, g1, h1, p1.imp fun v H1 ⟨g2, S2, x, e2, h2, r2, p2⟩ => ?_⟩
    unfold fldV at p2
    cases r2 with
    | @ref a n hm =>
      dsimp only at p2
      split at p2
      · rename_i c' fs hs
        split at p2
        · rename_i ec
          subst ec
          split at p2
          · rename_i d hd
            obtain ⟨C, dx, us, hC, hH, hF⟩ := ref_ins h2.ok hm hs
            obtain ⟨u, hu, ru⟩ := hF.get hd
            obtain ⟨C', hC', cl⟩ := hc.ex
            have e0 : C' = C := by
              have := hC'.symm.trans hC
              cases this
              rfl
            subst e0
            exact ⟨a, C', dx, us, u, rfl, hH, cl, hn.ex _ hC', hu, p2.now h2.ok ru⟩
          · exact p2.elim
        · exact p2.elim
      · exact p2.elim
    | _ => exact p2.elim
theorem us_setF {c f : Str} {o e : Expr} {pos pos' : Pos} {da db : DE D} (hc : CsN X.K X.mg c) (hn : NoA X.K X.mg c f) (ho : PE X o (UE X.K X.bk W da)) (he : PE X e (UE X.K X.bk W db)) (hs : swapsWith e (some (.Attribute o f pos')) pos.line X.env = pure false := by rfl) :
    PS X (.Assign [.Attribute o f pos'] e pos) (US X.K X.bk W (dSetF c f da db)) :=
  (ps_fld ho he hs).imp fun D σ H ⟨env, S, g, h, p⟩ => by
    obtain ⟨env1, S1, g1, h1, p1⟩ := U.seqS h p
    refine ⟨env1, S1, g1, h1, p1.imp fun v H1 ⟨g2, S2, y, e2, h2, r2, p2⟩ => ?_⟩
    obtain ⟨env3, S3, g3, h3, p3⟩ := U.seqS h2 p2
    refine ⟨env3, S3, g3, h3, p3.imp fun u H2 ⟨g4, S4, x, e4, h4, r4, p4⟩ => ?_⟩
    unfold setFV at p4
    cases r4 with
    | @ref a n hm =>
      dsimp only at p4
      split at p4
      · rename_i c' fs hs'
        split at p4
        · rename_i ec
          obtain ⟨ec, hl⟩ := ec
          subst ec
          obtain ⟨C, dx, us, hC, hH, hF⟩ := ref_ins h4.ok hm hs'
          obtain ⟨C', hC', cl⟩ := hc.ex
          have e0 : C' = C := by
            have := hC'.symm.trans hC
            cases this
            rfl
          subst e0
          refine ⟨a, C', dx, us, rfl, hH, cl, hn.ex _ hC', by rw [← hF.len]; exact hl, ?_⟩
          obtain ⟨o', e'⟩ := h4.ok.put (so' := .ins c' (putD f y fs)) (o := .ins C' dx (putF f v us)) hs' hm (by intro z; cases z) ⟨C', dx, _, hC', upd_same, hF.put (r2.mono e4.le)⟩
          exact p4 σ g4 _ e' ⟨h4.e.mono e'.le, o'⟩
        · exact p4.elim
      · exact p4.elim
    | _ => exact p4.elim

/-! ### methods -/
/-- x is an instance of c, without m among its fields -/
def isIns (c m : Str) (S : Sto) : D → Bool
  | .ref n => (match S[n]? with
    | some (.ins c' fs) => decide (c' = c) && (fs.lookup m).isNone
    | _ => false)
  | _ => false
theorem isIns_of {c m : Str} {x : D} {v : V} (ok : Ok K mg g S H) (r : Rep K mg g x v) (h : isIns c m S x = true) : ∃ a C dx us, v = .ref a ∧ mg.mg c = some (.ref C) ∧ H a = some (.ins C dx us) ∧ us.lookup m = none := by
  unfold isIns at h
  cases r with
  | @ref a n hm =>
    dsimp only at h
    split at h
    · rename_i c' fs hs
      rw [Bool.and_eq_true] at h
      have e := of_decide_eq_true h.1
      subst e
      obtain ⟨C, dx, us, hC, hH, hF⟩ := ref_ins ok hm hs
      exact ⟨a, C, dx, us, rfl, hC, hH, hF.none (Option.isNone_iff_eq_none.mp h.2)⟩
    · cases h
  | _ => cases h
/-- how n + 1 written values and j keywords' values become the parameters' values -/
structure Bd (K : PySem.W.Frag) (mg : Bk) (fd : FuncData) (ps : List Str) (n : Nat) (ks : List Str) (gD : List D → List D → List D) : Prop where
  ex : ∃ g gV, KBn K fd ps n ks g gV ∧ ∀ (g0 : Gh) (ds zs : List D) (vs ws : List V), Reps K mg g0 ds vs → Reps K mg g0 zs ws → ds.length = n → zs.length = ks.length → Reps K mg g0 (gD ds zs) (gV vs ws)
/-- a def's own datum, what it promises -/
structure Fm1 (P : Program) (w : World) (K : PySem.W.Frag) (mg : Str → Option Value) (base : Heap) (c m : Str) (d : He.DefD) (ps : List Str) (k : Nat) (den : Den) : Prop where
  ex : ∃ C f fd, mg c = some (.ref C) ∧ Cls K C ∧ Meth K C m f ∧ FunD K d.name d.qual d.params d.body d.scope (d.dvs K) (d.kws K) f fd ∧ FnOk P w K mg base (L2.CX P w) k f fd ps (SpD K ⟨mg, P, w⟩ ps.length den)
/-- the class c is made by its __init__ -/
structure Fi1 (P : Program) (w : World) (K : PySem.W.Frag) (mg : Str → Option Value) (base : Heap) (c : Str) (d : He.DefD) (ps : List Str) (k : Nat) (den : Den) : Prop where
  ex : ∃ C f fd, mg c = some (.ref C) ∧ Mk K C f ∧ FunD K d.name d.qual d.params d.body d.scope (d.dvs K) (d.kws K) f fd ∧ FnOk P w K mg base (L2.CX P w) k f fd ps (SpD K ⟨mg, P, w⟩ ps.length den)
abbrev Wc (E : XK) : WX := fun c d _ H' => E c d H'
/-- call: how it runs over the store (gcall, tcall) -/
def dMeth (c m : Str) (n j : Nat) (gD : List D → List D → List D) (call : Den) (o : DE D) (l k : DE (List D)) : DE D := fun env S => (o env S).bind fun x S1 => if isIns c m S1 x = true then (l env S1).bind fun ds S2 => (k env S2).bind fun zs S3 => if ds.length = n ∧ zs.length = j then call (gD (x :: ds) zs) S3 else .fail else .fail
/-- how a call of that kind stands to the promise -/
def CallS (K : PySem.W.Frag) (mg : Bk) (n : Nat) (den call : Den) : Prop :=
  ∀ {W : WX} {σ : L2.St} {g : Gh} {S : Sto} {H : Hp} {ds : List D} {vs : List V} {Q : VK}, Ok K mg g S H → Reps K mg g ds vs → Post K mg W (Rep K mg) σ g H (call ds S) Q → SpD K mg n den vs H Q (WE W σ)
theorem cs_g {den : Den} {n : Nat} : CallS K mg n den (gcall n den) := spd_g
theorem cs_t {den : Den} {n : Nat} : CallS K mg n den (tcall n den) := spd_t
section
variable {c m : Str} {d : He.DefD} {ps ks : List Str} {k j n : Nat} {den call : Den} {gD : List D → List D → List D} {E : XK} {o e : Expr} {es : List Expr} {kws : List Keyword} {pos apos p : Pos} {do_ : DE D} {dl dk : DE (List D)}
theorem uk_nil : PK X [] (UA K mg W dNil) := PK.imp pk_nil fun σ H Q ⟨env, S, g, h, p⟩ => p.now h.ok .nil
theorem uk_cons {nm : Option Str} {kpos : Pos} {da : DE D} (ha : PE X e (UE K mg W da)) (hr : PK X kws (UA K mg W dl)) : PK X (⟨nm, e, kpos⟩ :: kws) (UA K mg W (dCons da dl)) :=
  PK.imp (pk_cons ha hr) fun σ H Q ⟨env, S, g, h, p⟩ => by
    obtain ⟨env1, S1, g1, h1, p1⟩ := U.seq h p
    refine ⟨env1, S1, g1, h1, p1.imp fun v H1 ⟨g2, S2, x, e2, h2, r2, p2⟩ => ?_⟩
    obtain ⟨env3, S3, g3, h3, p3⟩ := U.seq h2 p2
    exact ⟨env3, S3, g3, h3, p3.imp fun u H2 ⟨g4, S4, y, e4, h4, r4, p4⟩ => p4.now h4.ok (.cons (r2.mono e4.le) r4)⟩
theorem u_meth {q : Nat} {kl : Nat} {pl : Sem Bool} (F : Fm1 X.prog X.w X.K X.mg X.base c m d ps k den) (hcs : CallS X.K X.bk q den call) (hb : ∀ f fd, FunD X.K d.name d.qual d.params d.body d.scope (d.dvs X.K) (d.kws X.K) f fd → Bd X.K X.bk fd ps (n + 1) ks gD) (hr : Room j X.A) (hk : k ≤ j) (tk : Takes X (Wc E))
    (ho : PE X o (UE X.K X.bk (Wc E) do_)) (ha : PA X (e :: es) (UA X.K X.bk (Wc E) dl)) (hkw : PK X kws (UA X.K X.bk (Wc E) dk))
    (hall : (backToKw pos (keywordEach kws X.env)).all (·.1.isSome) = true := by rfl) (hks : (backToKw pos (keywordEach kws X.env)).filterMap (·.1) = ks := by rfl)
    (hst : starEach (e :: es) X.env = (false, eval e X.env) :: starEach es X.env := by rfl) (hpl : ((backTo pos (starEach (e :: es) X.env)).any (·.1) || (backToKw pos (keywordEach kws X.env)).any (·.1.isNone)) = false := by rfl)
    (ht : eval (.Call (.Attribute o m apos) (e :: es) kws pos) X.env = (do
      let ov ← eval o X.env
      standAt apos.atName
      let (f, first) ← holding [ov] (getMethod ov m pl)
      callWith pos f first (backTo pos (starEach (e :: es) X.env)) (backToKw pos (keywordEach kws X.env))) := by rfl) (hq : ps.length = q := by rfl) (hkl : ks.length = kl := by rfl) :
    PE X (.Call (.Attribute o m apos) (e :: es) kws pos) (UE X.K X.bk (Wc E) (dMeth c m n kl gD call do_ dl dk)) := by
  subst hq
  subst hkl
  obtain ⟨C, f, fd, hC, cl, hm, hF, F⟩ := F.ex
  obtain ⟨g, gV, hB, hrel⟩ := (hb f fd hF).ex
  refine (pe_methN (n := n) ho cl hm F (hr.mono hk) hB (L2.passes_call tk fun _ _ _ _ z => z) ha hkw hall hks hst hpl ht).imp fun σ H Q ⟨env, S, g, h, p⟩ => ?_
  obtain ⟨env1, S1, g1, h1, p1⟩ := U.seq h p
  refine ⟨env1, S1, g1, h1, p1.imp fun v H1 ⟨g2, S2, x, e2, h2, r2, p2⟩ => ?_⟩
  split at p2
  case isFalse => exact p2.elim
  rename_i hi
  obtain ⟨a, C', dx, us, rfl, hC', hH, hl⟩ := isIns_of h2.ok r2 hi
  have e0 : C' = C := by
    have := hC'.symm.trans hC
    cases this
    rfl
  subst e0
  refine ⟨a, dx, us, rfl, hH, hl, ?_⟩
  obtain ⟨env3, S3, g3, h3, p3⟩ := U.seq h2 p2
  refine ⟨env3, S3, g3, h3, p3.imp fun vs H2 ⟨g4, S4, ds, e4, h4, r4, p4⟩ => ?_⟩
  obtain ⟨env5, S5, g5, h5, p5⟩ := U.seq h4 p4
  refine ⟨env5, S5, g5, h5, p5.imp fun ws H3 ⟨g6, S6, zs, e6, h6, r6, p6⟩ => ?_⟩
  split at p6
  case isFalse => exact p6.elim
  rename_i hn
  have r4' := r4.mono e6.le
  refine ⟨by rw [← r4.length]; exact hn.1, by rw [← r6.length]; exact hn.2, ?_⟩
  exact hcs h6.ok (hrel g6 (x :: ds) zs (.ref a :: vs) ws (.cons ((r2.mono e4.le).mono e6.le) r4') r6 (congrArg Nat.succ hn.1) hn.2) p6
theorem u_meth0 {q : Nat} {kl : Nat} {pl : Sem Bool} (F : Fm1 X.prog X.w X.K X.mg X.base c m d ps k den) (hcs : CallS X.K X.bk q den call) (hb : ∀ f fd, FunD X.K d.name d.qual d.params d.body d.scope (d.dvs X.K) (d.kws X.K) f fd → Bd X.K X.bk fd ps 1 ks gD) (hr : Room j X.A) (hk : k ≤ j) (tk : Takes X (Wc E))
    (ho : PE X o (UE X.K X.bk (Wc E) do_)) (hkw : PK X kws (UA X.K X.bk (Wc E) dk))
    (hall : (backToKw pos (keywordEach kws X.env)).all (·.1.isSome) = true := by rfl) (hks : (backToKw pos (keywordEach kws X.env)).filterMap (·.1) = ks := by rfl)
    (hpl : ((backTo pos (starEach [] X.env)).any (·.1) || (backToKw pos (keywordEach kws X.env)).any (·.1.isNone)) = false := by rfl)
    (ht : eval (.Call (.Attribute o m apos) [] kws pos) X.env = (do
      let ov ← eval o X.env
      standAt apos.atName
      let (f, first) ← holding [ov] (getMethod ov m pl)
      callWith pos f first (backTo pos (starEach [] X.env)) (backToKw pos (keywordEach kws X.env))) := by rfl) (hq : ps.length = q := by rfl) (hkl : ks.length = kl := by rfl) :
    PE X (.Call (.Attribute o m apos) [] kws pos) (UE X.K X.bk (Wc E) (dMeth c m 0 kl gD call do_ dNil dk)) := by
  subst hq
  subst hkl
  obtain ⟨C, f, fd, hC, cl, hm, hF, F⟩ := F.ex
  obtain ⟨g, gV, hB, hrel⟩ := (hb f fd hF).ex
  refine (pe_methN0 ho cl hm F (hr.mono hk) hB (L2.passes_call tk fun _ _ _ _ z => z) hkw hall hks hpl ht).imp fun σ H Q ⟨env, S, g, h, p⟩ => ?_
  obtain ⟨env1, S1, g1, h1, p1⟩ := U.seq h p
  refine ⟨env1, S1, g1, h1, p1.imp fun v H1 ⟨g2, S2, x, e2, h2, r2, p2⟩ => ?_⟩
  split at p2
  case isFalse => exact p2.elim
  rename_i hi
  obtain ⟨a, C', dx, us, rfl, hC', hH, hl⟩ := isIns_of h2.ok r2 hi
  have e0 : C' = C := by
    have := hC'.symm.trans hC
    cases this
    rfl
  subst e0
  refine ⟨a, dx, us, rfl, hH, hl, ?_⟩
  have p2' : Post X.K X.bk (Wc E) (Rep X.K X.bk) σ g2 H1 ((dk env S2).bind fun zs S3 => if ([] : List D).length = 0 ∧ zs.length = ks.length then call (gD [x] zs) S3 else .fail) Q := p2
  obtain ⟨env5, S5, g5, h5, p5⟩ := U.seq h2 p2'
  refine ⟨env5, S5, g5, h5, p5.imp fun ws H3 ⟨g6, S6, zs, e6, h6, r6, p6⟩ => ?_⟩
  split at p6
  case isFalse => exact p6.elim
  rename_i hn
  refine ⟨rfl, by rw [← r6.length]; exact hn.2, ?_⟩
  exact hcs h6.ok (hrel g6 [x] zs [.ref a] ws (.cons (r2.mono e6.le) .nil) r6 rfl hn.2) p6

/-! ### C(e, .., k = v, ..) -/
def madeV (n : Nat) (v : D) (S : Sto) : RE D := match v with
  | .non => .ok (.ref n) S
  | _ => .fail
/-- the store gets a bare instance, then __init__ runs -/
def dMake (c : Str) (n j : Nat) (gD : List D → List D → List D) (call : Den) (l k : DE (List D)) : DE D := fun env S => (l env S).bind fun ds S1 => (k env S1).bind fun zs S2 => if ds.length = n ∧ zs.length = j then (call (gD (.ref S2.length :: ds) zs) (S2 ++ [.ins c []])).bind (madeV S2.length) else .fail
theorem make_tr {C : Addr} {g : Gh} {S : Sto} {H : Hp} {ds zs : List D} {vs ws : List V} {gV : List V → List V → List V} {Q : VK} {ps : List Str} (hcs : CallS X.K X.bk ps.length den call) (hC : X.mg c = some (.ref C))
    (hrel : ∀ (g0 : Gh) (ds zs : List D) (vs ws : List V), Reps X.K X.bk g0 ds vs → Reps X.K X.bk g0 zs ws → ds.length = n + 1 → zs.length = ks.length → Reps X.K X.bk g0 (gD ds zs) (gV vs ws))
    (ok : Ok X.K X.bk g S H) (r : Reps X.K X.bk g ds vs) (rz : Reps X.K X.bk g zs ws) (hn : ds.length = n) (hz : zs.length = ks.length)
    (p : Post X.K X.bk (Wc E) (Rep X.K X.bk) σ g H ((call (gD (.ref S.length :: ds) zs) (S ++ [.ins c []])).bind (madeV S.length)) Q) :
    ∀ x dx, H x = none → H dx = none → dx ≠ x → SpD X.K X.bk ps.length den (gV (.ref x :: vs) ws) (upd (upd H dx (.own x)) x (.ins C dx [])) (fun v H2 => v = .non ∧ Q (.ref x) H2) E := by
  intro x dx hx hdx hne
  have e1 : Ext g H g (upd H dx (.own x)) := (Ext.refl g H).side hdx
  have o1 : Ok X.K X.bk g S (upd H dx (.own x)) := ok.side (ok.ex.none hdx) fun z => ok.there dx z hdx
  have hx1 : upd H dx (.own x) x = none := by rw [upd_ne (Ne.symm hne)]; exact hx
  obtain ⟨o2, e2⟩ := o1.newM (o := .ins C dx []) (so := .ins c []) hx1 (by intro z; cases z) fun g' le => ⟨C, dx, [], hC, upd_same, .nil⟩
  have e3 := e1.trans e2
  have rr : Reps X.K X.bk ⟨g.im, g.mu ++ [x]⟩ (.ref S.length :: ds) (.ref x :: vs) := .cons (newM_rep o1) (r.mono e3.le)
  refine hcs (W := Wc E) (σ := σ) o2 (hrel _ _ _ _ _ rr (rz.mono e3.le) (congrArg Nat.succ hn) hz) ?_
  have p' := Post.ext p e3
  cases q : call (gD (.ref S.length :: ds) zs) (S ++ [.ins c []]) with
  | fail => rw [q] at p'; exact p'
  | exc y S3 => rw [q] at p'; exact p'
  | ok v S3 =>
    rw [q] at p'
    intro u g' H' e' o' r'
    have p2 : Post X.K X.bk (Wc E) (Rep X.K X.bk) σ ⟨g.im, g.mu ++ [x]⟩ (upd (upd H dx (.own x)) x (.ins C dx [])) (madeV S.length v S3) Q := p'
    clear p' q
    cases r' with
    | non => exact ⟨rfl, p2.go e' o' ((newM_rep o1).mono e'.le)⟩
    | _ => exact p2.elim
theorem u_make {q : Nat} {kl : Nat} (F : Fi1 X.prog X.w X.K X.mg X.base c d ps k den) (hcs : CallS X.K X.bk q den call) (hb : ∀ f fd, FunD X.K d.name d.qual d.params d.body d.scope (d.dvs X.K) (d.kws X.K) f fd → Bd X.K X.bk fd ps (n + 1) ks gD) (hr : Room j X.A) (hk : k + 1 ≤ j) (tk : Takes X (Wc E)) (hg : Gl X c)
    (ha : PA X (e :: es) (UA X.K X.bk (Wc E) dl)) (hkw : PK X kws (UA X.K X.bk (Wc E) dk))
    (hall : (backToKw pos (keywordEach kws X.env)).all (·.1.isSome) = true := by rfl) (hks : (backToKw pos (keywordEach kws X.env)).filterMap (·.1) = ks := by rfl) (hdb : (c == ("__debug__" : Str)) = false := by decide)
    (he : starEach (e :: es) X.env = (false, eval e X.env) :: starEach es X.env := by rfl) (hpl : ((backTo pos (starEach (e :: es) X.env)).any (·.1) || (backToKw pos (keywordEach kws X.env)).any (·.1.isNone)) = false := by rfl) (hq : ps.length = q := by rfl) (hkl : ks.length = kl := by rfl) :
    PE X (.Call (.Name c p) (e :: es) kws pos) (UE X.K X.bk (Wc E) (dMake c n kl gD call dl dk)) := by
  subst hq
  subst hkl
  obtain ⟨C, f, fd, hC, M, hF, F⟩ := F.ex
  obtain ⟨g, gV, hB, hrel⟩ := (hb f fd hF).ex
  refine (pe_makeK (n := n) M F (hr.mono hk) hg hC hB (L2.passes_call tk fun _ _ _ _ z => z) ha hkw hall hks hdb he hpl).imp fun σ H Q ⟨env, S, g, h, p⟩ => ?_
  obtain ⟨env3, S3, g3, h3, p3⟩ := U.seq h p
  refine ⟨env3, S3, g3, h3, p3.imp fun vs H2 ⟨g4, S4, ds, e4, h4, r4, p4⟩ => ?_⟩
  obtain ⟨env5, S5, g5, h5, p5⟩ := U.seq h4 p4
  refine ⟨env5, S5, g5, h5, p5.imp fun ws H3 ⟨g6, S6, zs, e6, h6, r6, p6⟩ => ?_⟩
  split at p6
  case isFalse => exact p6.elim
  rename_i hn
  refine ⟨by rw [← r4.length]; exact hn.1, by rw [← r6.length]; exact hn.2, ?_⟩
  exact make_tr hcs hC hrel h6.ok (r4.mono e6.le) r6 hn.1 hn.2 p6
theorem u_make0 {q : Nat} {kl : Nat} (F : Fi1 X.prog X.w X.K X.mg X.base c d ps k den) (hcs : CallS X.K X.bk q den call) (hb : ∀ f fd, FunD X.K d.name d.qual d.params d.body d.scope (d.dvs X.K) (d.kws X.K) f fd → Bd X.K X.bk fd ps 1 ks gD) (hr : Room j X.A) (hk : k + 1 ≤ j) (tk : Takes X (Wc E)) (hg : Gl X c)
    (hkw : PK X kws (UA X.K X.bk (Wc E) dk))
    (hall : (backToKw pos (keywordEach kws X.env)).all (·.1.isSome) = true := by rfl) (hks : (backToKw pos (keywordEach kws X.env)).filterMap (·.1) = ks := by rfl) (hdb : (c == ("__debug__" : Str)) = false := by decide)
    (hpl : ((backTo pos (starEach [] X.env)).any (·.1) || (backToKw pos (keywordEach kws X.env)).any (·.1.isNone)) = false := by rfl) (hq : ps.length = q := by rfl) (hkl : ks.length = kl := by rfl) :
    PE X (.Call (.Name c p) [] kws pos) (UE X.K X.bk (Wc E) (dMake c 0 kl gD call dNil dk)) := by
  subst hq
  subst hkl
  obtain ⟨C, f, fd, hC, M, hF, F⟩ := F.ex
  obtain ⟨g, gV, hB, hrel⟩ := (hb f fd hF).ex
  refine (pe_makeK0 M F (hr.mono hk) hg hC hB (L2.passes_call tk fun _ _ _ _ z => z) hkw hall hks hdb hpl).imp fun σ H Q ⟨env, S, g, h, p⟩ => ?_
  have p' : Post X.K X.bk (Wc E) (Rep X.K X.bk) σ g H ((dk env S).bind fun zs S2 => if ([] : List D).length = 0 ∧ zs.length = ks.length then (call (gD [.ref S2.length] zs) (S2 ++ [.ins c []])).bind (madeV S2.length) else .fail) Q := p
  obtain ⟨env5, S5, g5, h5, p5⟩ := U.seq h p'
  refine ⟨env5, S5, g5, h5, p5.imp fun ws H3 ⟨g6, S6, zs, e6, h6, r6, p6⟩ => ?_⟩
  split at p6
  case isFalse => exact p6.elim
  rename_i hn
  refine ⟨rfl, by rw [← r6.length]; exact hn.2, ?_⟩
  exact make_tr (n := 0) hcs hC hrel h6.ok .nil r6 rfl hn.2 p6
end
end
end Dn

set_option Elab.async false
set_option linter.all false
set_option maxRecDepth 100000
set_option maxHeartbeats 2000000
/-! Dn11: dicts with keys that are ints or texts -/
namespace Dn
open PySem PySem.Spec PyProof.Rows L2

/-! ### lookups in plain lists -/
def getK : List D → List D → Key → Option D
  | k :: ks, d :: ds, q => if keyD k = some q then some d else getK ks ds q
  | _, _, _ => none
def replK : List D → List D → Key → D → List D
  | k :: ks, d :: ds, q, v => (if keyD k = some q then v else d) :: replK ks ds q v
  | _, _, _, _ => []
def putKs (ks ds : List D) (k : D) (q : Key) : List D := if (getK ks ds q).isSome then ks else ks ++ [k]
def putDs (ks ds : List D) (q : Key) (v : D) : List D := if (getK ks ds q).isSome then replK ks ds q v else ds ++ [v]
def dropKs : List D → Key → List D
  | k :: ks, q => if keyD k = some q then dropKs ks q else k :: dropKs ks q
  | [], _ => []
def dropDs : List D → List D → Key → List D
  | k :: ks, d :: ds, q => if keyD k = some q then dropDs ks ds q else d :: dropDs ks ds q
  | _, _, _ => []
/-- the dict that a value is -/
def dctS (S : Sto) (d : D) : Option (List D × List D) := match d with
  | .dct ks ds => some (ks, ds)
  | .ref n => (match S[n]? with
    | some (.dct ks ds) => some (ks, ds)
    | some (.frd ks ds) => some (ks, ds)
    | _ => none)
  | _ => none
section
variable {K : PySem.W.Frag} {mg : Bk} {g : Gh} {S : Sto} {H : Hp} {X : Cx} {W : WX} {σ : L2.St}
theorem KvK.get {q : Key} : ∀ {ks ds : List D} {us : List (Key × V)}, KvK K mg g ks ds us → match getK ks ds q with
    | some d => ∃ v, valV us q = some v ∧ Rep K mg g d v
    | none => valV us q = none
  | _, _, _, .nil => rfl
  | _, _, _, .cons (k := k) (q := q') (us := us) h r t => by
    unfold getK
    by_cases e : q' = q
    · subst e
      rw [if_pos h]
      exact ⟨_, valV_pos rfl, r⟩
    · rw [if_neg (fun z => e (Option.some.inj (h.symm.trans z))), valV_neg (show ¬ (q', _).1 = q from e)]
      exact KvK.get t
theorem KvK.getS {q : Key} {ks ds : List D} {us : List (Key × V)} (r : KvK K mg g ks ds us) : (valV us q).isSome = (getK ks ds q).isSome := by
  have h := r.get (q := q)
  cases e : getK ks ds q with
  | none => rw [e] at h; rw [show valV us q = none from h]; rfl
  | some d =>
    rw [e] at h
    obtain ⟨v, h, _⟩ := h
    rw [h]
    rfl
theorem KvK.repl {q : Key} {d : D} {v : V} (rv : Rep K mg g d v) : ∀ {ks ds : List D} {us : List (Key × V)}, KvK K mg g ks ds us → KvK K mg g ks (replK ks ds q d) (us.map fun kv => if kv.1 = q then (kv.1, v) else kv)
  | _, _, _, .nil => .nil
  | _, _, _, .cons (k := k) (q := q') h r t => by
    unfold replK
    rw [List.map_cons]
    by_cases e : q' = q
    · subst e
      rw [if_pos h, if_pos rfl]
      exact .cons h rv (KvK.repl rv t)
    · rw [if_neg (fun z => e (Option.some.inj (h.symm.trans z))), if_neg e]
      exact .cons h r (KvK.repl rv t)
theorem KvK.snoc {k : D} {q : Key} {d : D} {v : V} (hk : keyD k = some q) (rv : Rep K mg g d v) : ∀ {ks ds : List D} {us : List (Key × V)}, KvK K mg g ks ds us → KvK K mg g (ks ++ [k]) (ds ++ [d]) (us ++ [(q, v)])
  | _, _, _, .nil => .cons hk rv .nil
  | _, _, _, .cons h r t => .cons h r (KvK.snoc hk rv t)
theorem KvK.put {k : D} {q : Key} {d : D} {v : V} (hk : keyD k = some q) (rv : Rep K mg g d v) {ks ds : List D} {us : List (Key × V)} (r : KvK K mg g ks ds us) : KvK K mg g (putKs ks ds k q) (putDs ks ds q d) (putK us q v) := by
  unfold putKs putDs putK
  rw [valV_any, r.getS]
  by_cases e : (getK ks ds q).isSome = true
  · rw [if_pos e, if_pos e, if_pos e]
    exact r.repl rv
  · rw [if_neg e, if_neg e, if_neg e]
    exact r.snoc hk rv
theorem KvK.drop {q : Key} : ∀ {ks ds : List D} {us : List (Key × V)}, KvK K mg g ks ds us → KvK K mg g (dropKs ks q) (dropDs ks ds q) (dropK us q)
  | _, _, _, .nil => .nil
  | _, _, _, .cons (k := k) (q := q') (us := us) h r t => by
    unfold dropKs dropDs dropK
    by_cases e : q' = q
    · subst e
      rw [if_pos h, if_pos h, List.filter_cons_of_neg (by simp)]
      exact KvK.drop t
    · rw [if_neg (fun z => e (Option.some.inj (h.symm.trans z))), if_neg (fun z => e (Option.some.inj (h.symm.trans z))), List.filter_cons_of_pos (by simpa using e)]
      exact .cons h r (KvK.drop t)
theorem KvK.len : ∀ {ks ds : List D} {us : List (Key × V)}, KvK K mg g ks ds us → ks.length = us.length
  | _, _, _, .nil => rfl
  | _, _, _, .cons _ _ t => congrArg Nat.succ (KvK.len t)
theorem key_rep {k : D} {q : Key} {v : V} (r : Rep K mg g k v) (h : keyD k = some q) : v = kV q := by
  cases r with
  | int i => cases h; rfl
  | str x => cases h; rfl
  | _ => cases h
/-- the dict that a value is, its keys ints or texts -/
def dK_of (S : Sto) (d : D) : Option (List D × List D) := match dctS S d with
  | some (ks, ds) => if plainKs ks = true then some (ks, ds) else none
  | none => none
theorem dk_rep (ok : Ok K mg g S H) {d : D} {v : V} {ks ds : List D} (r : Rep K mg g d v) (h : dK_of S d = some (ks, ds)) : ∃ a us, v = .ref a ∧ Rd H a (.dK us) ∧ KvK K mg g ks ds us := by
  unfold dK_of at h
  split at h
  · rename_i ks' ds' hd
    split at h
    · rename_i hp
      cases h
      cases r with
      | dctK h1 h2 =>
        cases hd
        exact ⟨_, _, rfl, .inl (ok.ex _ _ h1), h2⟩
      | dctN h0 h1 h2 h3 h4 =>
        cases hd
        rw [h0] at hp
        cases hp
      | @ref a n hm =>
        unfold dctS at hd
        dsimp only at hd
        split at hd
        · rename_i ks ds hs
          cases hd
          rcases ok.live n _ a hs hm with z | ⟨_, o, z1, z2⟩
          · cases z
          · rcases z2 with ⟨us, e, r⟩ | ⟨ob, xs, e, _⟩
            · subst e
              exact ⟨a, us, rfl, .inl z1, r⟩
            · rw [e.1] at hp
              cases hp
        · rename_i ks ds hs
          cases hd
          rcases ok.live n _ a hs hm with z | ⟨_, ⟨ob, o, z1, z2⟩, _⟩
          · cases z
          · rcases z2 with ⟨us, e, r⟩ | ⟨ob, xs, e, _⟩
            · subst e
              exact ⟨a, us, rfl, .inr ⟨_, ok.ex _ _ z1⟩, r⟩
            · rw [e.1] at hp
              cases hp
        · cases hd
      | _ => cases hd
    · cases h
  · cases h
/-- a dict of the store that is written -/
theorem dk_put (ok : Ok K mg g S H) {n : Nat} {a : Addr} {ks ds : List D} (hm : g.mu[n]? = some a) (hs : S[n]? = some (.dct ks ds)) (hp : plainKs ks = true) :
    ∃ us, H a = some (.dK us) ∧ KvK K mg g ks ds us ∧ ∀ ks' ds' us', KvK K mg g ks' ds' us' → Ok K mg g (S.set n (.dct ks' ds')) (upd H a (.dK us')) ∧ Ext g H g (upd H a (.dK us')) := by
  rcases ok.live n _ a hs hm with z | ⟨_, o, z1, z2⟩
  · cases z
  · rcases z2 with ⟨us, e, r⟩ | ⟨ob, xs, e, _⟩
    · subst e
      exact ⟨us, z1, r, fun ks' ds' us' r' => ok.put hs hm (by intro z; cases z) ⟨_, upd_same, .inl ⟨us', rfl, r'⟩⟩⟩
    · rw [e.1] at hp
      cases hp
/-! ### in, [], [] = -/
def inDct (S : Sto) (x y : D) : Option Bool := match dK_of S y, keyD x with
  | some (ks, ds), some q => some (getK ks ds q).isSome
  | _, _ => none
def inV2 (x y : D) (S : Sto) : RE D := match inDct S x y with
  | some b => .ok (.bl b) S
  | none => Dn.inV x y S
def notInV2 (x y : D) (S : Sto) : RE D := match inDct S x y with
  | some b => .ok (.bl (!b)) S
  | none => Dn.notInV x y S
def rInDct : R2 := fun y x H Q => ∃ a o, x = .ref a ∧ DGet H a y o ∧ Q (.bl o.isSome) H
def rNotInDct : R2 := fun y x H Q => ∃ a o, x = .ref a ∧ DGet H a y o ∧ Q (.bl (!o.isSome)) H
theorem op_inDct (hu : X.A.units + 1 < cLine) : OpR X (compareOp .In) rInDct := by
  intro pins s σ H x y v u Q I rx ry h
  obtain ⟨a, o, rfl, g, q⟩ := h
  cases ry
  exact d_in hu I g rx fun s' I' => ⟨.bl _, H, I', rfl, q⟩
theorem op_notInDct (hu : X.A.units + 1 < cLine) : OpR X (compareOp .NotIn) rNotInDct := by
  intro pins s σ H x y v u Q I rx ry h
  obtain ⟨a, o, rfl, g, q⟩ := h
  cases ry
  exact d_notIn hu I g rx fun s' I' => ⟨.bl _, H, I', rfl, q⟩
theorem inDct_of (ok : Ok K mg g S H) {x y : D} {v u : V} {b : Bool} (rx : Rep K mg g x v) (ry : Rep K mg g y u) (h : inDct S x y = some b) : ∃ a o, u = .ref a ∧ DGet H a v o ∧ o.isSome = b := by
  unfold inDct at h
  split at h
  · rename_i ks ds q h1 h2
    cases h
    obtain ⟨a, us, rfl, hR, r⟩ := dk_rep ok ry h1
    rw [key_rep rx h2]
    exact ⟨a, valV us q, rfl, .inl ⟨us, q, hR, rfl, rfl⟩, r.getS⟩
  · cases h
theorem os_in2 : OpS K mg (fun x y H Q => rInDct x y H Q ∨ rInV K x y H Q) inV2 := by
  intro W σ g S H x y v u Q ok rx ry p
  unfold inV2 at p
  split at p
  · rename_i b hb
    obtain ⟨a, o, e, g, hs⟩ := inDct_of ok rx ry hb
    exact .inl ⟨a, o, e, g, by rw [hs]; exact p.now ok (.bl b)⟩
  · exact .inr (os_in ok rx ry p)
theorem os_nin2 : OpS K mg (fun x y H Q => rNotInDct x y H Q ∨ rNotInV K x y H Q) notInV2 := by
  intro W σ g S H x y v u Q ok rx ry p
  unfold notInV2 at p
  split at p
  · rename_i b hb
    obtain ⟨a, o, e, g, hs⟩ := inDct_of ok rx ry hb
    exact .inl ⟨a, o, e, g, by rw [hs]; exact p.now ok (.bl _)⟩
  · exact .inr (os_nin ok rx ry p)
def ixV2 (x y : D) (S : Sto) : RE D := match dK_of S x with
  | some (ks, ds) => (match (keyD y).bind (getK ks ds) with
    | some d => .ok d S
    | none => .fail)
  | none => ixV x y S
def rIxDct : R2 := fun x y H Q => ∃ a v, x = .ref a ∧ DGet H a y (some v) ∧ Q v H
theorem ix_dct (hu : X.A.units + 1 < cLine) : IxR X rIxDct := by
  intro value slice pins s σ H x y v u Q I rx ry h hs
  obtain ⟨a, z, rfl, g, q⟩ := h
  cases rx
  exact tail_any (dict_typeIs I g) PySem.F.slot_dict_getitem.lookup (d_getItem hu I g ry fun w' s' I' rw' => ⟨z, H, I', rw', q⟩) hs
theorem ixV_of (ok : Ok K mg g S H) {x y : D} {v u : V} {Q : VK} (rx : Rep K mg g x v) (ry : Rep K mg g y u) (p : Post K mg W (Rep K mg) σ g H (ixV x y S) Q) : rIx K v u H Q := by
  unfold ixV at p
  split at p
  · rename_i i
    cases ry
    split at p
    · cases rx
      split at p
      · rename_i hl
        split at p
        · rename_i c hc
          exact .inr (.inr ⟨_, i, c, rfl, rfl, lims hl, hc, p.now ok (.str _)⟩)
        · exact p.elim
      · exact p.elim
    · split at p
      · rename_i ds hs
        split at p
        · rename_i d hd
          obtain ⟨q, vs, rfl, hq, rq⟩ := seq_of ok rx hs
          obtain ⟨w, hw, rw'⟩ := rq.atI hd
          rcases hq with hq | hq
          · exact .inl ⟨q, vs, i, w, rfl, rfl, hq, hw, p.now ok rw'⟩
          · exact .inr (.inl ⟨q, vs, i, w, rfl, rfl, hq, hw, p.now ok rw'⟩)
        · exact p.elim
      · exact p.elim
  · exact p.elim
theorem os_ix2 : OpS K mg (fun x y H Q => rIxDct x y H Q ∨ rIx K x y H Q) ixV2 := by
  intro W σ g S H x y v u Q ok rx ry p
  unfold ixV2 at p
  split at p
  · rename_i ks ds h1
    split at p
    · rename_i d hd
      obtain ⟨q, h2, h3⟩ := Option.bind_eq_some_iff.mp hd
      obtain ⟨a, us, rfl, hR, r⟩ := dk_rep ok rx h1
      have h4 := r.get (q := q)
      rw [h3] at h4
      obtain ⟨w, h5, h6⟩ := h4
      rw [key_rep ry h2]
      exact .inl ⟨a, w, rfl, .inl ⟨us, q, hR, rfl, h5.symm⟩, p.now ok h6⟩
    · exact p.elim
  · exact .inr (ixV_of ok rx ry p)
theorem hu1 {j : Nat} (hr : Room j X.A) : X.A.units + 1 < cLine := by have := hr.un; omega
theorem u_ix2 {j : Nat} {a b : Expr} {pos : Pos} {da db : DE D} (hr : Room j X.A) (ha : PE X a (UE X.K mg W da)) (hb : PE X b (UE X.K mg W db)) (hs : PlainIx b) : PE X (.Subscript a b pos) (UE X.K mg W (dOp ixV2 da db)) :=
  (pe_ix (IxR.or (ix_dct (hu1 hr)) ix_seq) ha hb hs).imp fun σ H Q ⟨env, S, g, h, p⟩ => by
    obtain ⟨env1, S1, g1, h1, p1⟩ := U.seq h p
    refine ⟨env1, S1, g1, h1, p1.imp fun v H1 ⟨g2, S2, x, e2, h2, r2, p2⟩ => ?_⟩
    obtain ⟨env3, S3, g3, h3, p3⟩ := U.seq h2 p2
    refine ⟨env3, S3, g3, h3, p3.imp fun u H2 ⟨g4, S4, y, e4, h4, r4, p4⟩ => ?_⟩
    exact os_ix2 h4.ok (r2.mono e4.le) r4 p4
def setIx2 (x i d : D) (env : Env) (S : Sto) : RS := match x with
  | .ref n => (match S[n]? with
    | some (.dct ks ds) => (match keyD i with
      | some q => if plainKs ks = true ∧ ks.length < LIM then .nx env (S.set n (.dct (putKs ks ds i q) (putDs ks ds q d))) else .fail
      | none => .fail)
    | _ => setIx x i d env S)
  | _ => .fail
def gIx2 (a b : DE D) : DG := fun d env S => (a env S).bindS env fun x S1 => (b env S1).bindS env fun i S2 => setIx2 x i d env S2
theorem PSet.or {t u : TSet} (h : PSet X t) (h' : PSet X u) : PSet X (fun o i v H Q => t o i v H Q ∨ u o i v H Q) := fun pins s σ H o i v ov iv w Q I ro ri rv q => q.elim (h pins s σ H o i v ov iv w Q I ro ri rv) (h' pins s σ H o i v ov iv w Q I ro ri rv)
theorem ug_ix2 {Z : ZR} (z : ZOk Z) {j : Nat} (hr : Room j X.A) {o i : Expr} {pos : Pos} {da db : DE D} (ho : PE X o (UE X.K mg W da)) (hi : PE X i (UE X.K mg W db))
    (ha : ∀ v, assign (.Subscript o i pos) X.env v = (do
      let ov ← holding [v] (eval o X.env)
      let iv ← holding [v, ov] (eval i X.env)
      standAt pos
      holding [v, ov, iv] (setItem ov iv v)
      release [v, ov, iv] []) := by intro _; rfl) : PG X (.Subscript o i pos) (UG X.K mg W Z (gIx2 da db)) :=
  PG.imp (pg_sub ho hi (PSet.or (set_dict (hu1 hr)) set_list) ha) fun v σ H Q ⟨env, S, g, d, h, r, p⟩ => by
    obtain ⟨env1, S1, g1, h1, p1⟩ := U.seqG z h p
    refine ⟨env1, S1, g1, h1, p1.imp fun w H1 ⟨g2, S2, x, e2, h2, r2, p2⟩ => ?_⟩
    obtain ⟨env3, S3, g3, h3, p3⟩ := U.seqG z h2 p2
    refine ⟨env3, S3, g3, h3, p3.imp fun u H2 ⟨g4, S4, y, e4, h4, r4, p4⟩ => ?_⟩
    have rx := r2.mono e4.le
    have rd := (r.mono e2.le).mono e4.le
    unfold setIx2 at p4
    cases rx with
    | @ref a n hm =>
      dsimp only at p4
      split at p4
      · rename_i ks ds hs
        split at p4
        · rename_i q hq
          split at p4
          · rename_i hp
            obtain ⟨us, q1, q2, q3⟩ := dk_put h4.ok hm hs hp.1
            obtain ⟨o', e'⟩ := q3 _ _ _ (q2.put hq rd)
            refine .inl ⟨a, _, rfl, .inl ⟨us, q, q1, key_rep r4 hq, by rw [← q2.len]; exact limlt hp.2, rfl⟩, ?_⟩
            exact p4 σ g4 _ e' ⟨h4.e.mono e'.le, o'⟩ (z.re _)
          · exact p4.elim
        · exact p4.elim
      · right
        unfold setIx at p4
        split at p4
        · rename_i m k he
          cases he
          split at p4
          · rename_i ds hs
            split at p4
            · rename_i j hj
              cases r4
              obtain ⟨vs, q1, q2⟩ := ref_lst h4.ok hm hs
              refine ⟨a, vs, _, j, rfl, rfl, q1, by rw [← q2.length]; exact hj, ?_⟩
              obtain ⟨o', e'⟩ := h4.ok.put (so' := .lst (ds.set j d)) (o := .lst (vs.set j v)) hs hm (by intro z; cases z) ⟨_, upd_same, q2.set rd j⟩
              exact p4 σ g4 _ e' ⟨h4.e.mono e'.le, o'⟩ (z.re _)
            · exact p4.elim
          · exact p4.elim
        · exact p4.elim
    | _ => exact p4.elim

/-! ### {}, d.pop(k), d.get(k, x), list(d), sorted(d), len(d) -/
def dNewD : DE D := fun _ S => .ok (.ref S.length) (S ++ [.dct [] []])
theorem u_dnew {pos : Pos} : PE X (.Dict [] [] pos) (UE X.K mg W dNewD) :=
  pe_dnewK.imp fun σ H Q ⟨env, S, g, h, p⟩ => fun q hq => by
    obtain ⟨o, e⟩ := h.ok.newM (o := .dK []) (so := .dct [] []) hq (by intro z; cases z) fun g' le => ⟨_, upd_same, .inl ⟨[], rfl, .nil⟩⟩
    exact p.go e o (newM_rep h.ok)
def isDct (S : Sto) (d : D) : Bool := (dK_of S d).isSome
def popDV (x k : D) (S : Sto) : RE D := match x with
  | .ref n => (match S[n]? with
    | some (.dct ks ds) => (match keyD k with
      | some q => if plainKs ks = true then (match getK ks ds q with
        | some d => .ok d (S.set n (.dct (dropKs ks q) (dropDs ks ds q)))
        | none => .fail) else .fail
      | none => .fail)
    | _ => .fail)
  | _ => .fail
def dPopD (o k : DE D) : DE D := fun env S => (o env S).bind fun x S1 => if isDct S1 x = true then (k env S1).bind fun y S2 => popDV x y S2 else .fail
def getDV (x k z : D) (S : Sto) : RE D := match dK_of S x, keyD k with
  | some (ks, ds), some q => .ok ((getK ks ds q).getD z) S
  | _, _ => .fail
def dGetD (o k z : DE D) : DE D := fun env S => (o env S).bind fun x S1 => if isDct S1 x = true then (k env S1).bind fun y S2 => (z env S2).bind fun u S3 => getDV x y u S3 else .fail
theorem isD_of (ok : Ok K mg g S H) {x : D} {v : V} (r : Rep K mg g x v) (h : isDct S x = true) : ∃ a, v = .ref a ∧ IsD H a := by
  obtain ⟨⟨ks, ds⟩, h1⟩ := Option.isSome_iff_exists.mp h
  obtain ⟨a, us, rfl, hR, _⟩ := dk_rep ok r h1
  exact ⟨a, rfl, .inl ⟨us, hR⟩⟩
section
variable {o e f : Expr} {apos cpos : Pos} {da db dc : DE D}
theorem m1 (hb : attributeBase o m X.env (eval o X.env) = eval o X.env := by rfl) (hf : ((backTo cpos (starEach [e] X.env)).all (fun x => !x.1) && (backToKw cpos (keywordEach [] X.env)).all (fun x => x.1.isSome)
    && decide (([e] : List Expr).length + ([] : List Keyword).length + (if ([] : List Keyword).isEmpty then 0 else 1) < 30)) = true := by rfl) (hl : (apos.endLine == cpos.line) = true := by rfl) (ht : backTo cpos (starEach [e] X.env) = [(false, eval e X.env)] := by rfl) : M1 X o m apos e cpos := ⟨hb, hf, hl, ht⟩
theorem u_dpop (ho : PE X o (UE X.K mg W da)) (he : PE X e (UE X.K mg W db)) (m : M1 X o "pop" apos e cpos) : PE X (.Call (.Attribute o "pop" apos) [e] [] cpos) (UE X.K mg W (dPopD da db)) :=
  (pe_dpop1 ho he m).imp fun σ H Q ⟨env, S, g, h, p⟩ => by
    obtain ⟨env1, S1, g1, h1, p1⟩ := U.seq h p
    refine ⟨env1, S1, g1, h1, p1.imp fun v H1 ⟨g2, S2, x, e2, h2, r2, p2⟩ => ?_⟩
    split at p2
    case isFalse => exact p2.elim
    rename_i hd
    obtain ⟨a, rfl, hI⟩ := isD_of h2.ok r2 hd
    refine ⟨a, rfl, hI, ?_⟩
    obtain ⟨env3, S3, g3, h3, p3⟩ := U.seq h2 p2
    refine ⟨env3, S3, g3, h3, p3.imp fun u H2 ⟨g4, S4, y, e4, h4, r4, p4⟩ => ?_⟩
    unfold popDV at p4
    have rx := r2.mono e4.le
    cases rx with
    | @ref a n hm =>
      dsimp only at p4
      split at p4
      · rename_i ks ds hs
        split at p4
        · rename_i q hq
          split at p4
          · rename_i hp
            split at p4
            · rename_i d hg
              obtain ⟨us, q1, q2, q3⟩ := dk_put h4.ok hm hs hp
              have hv := q2.get (q := q)
              rw [hg] at hv
              obtain ⟨w, hw, rw'⟩ := hv
              obtain ⟨o', e'⟩ := q3 _ _ _ (q2.drop (q := q))
              exact ⟨us, q, w, q1, key_rep r4 hq, hw, p4.go e' o' rw'⟩
            · exact p4.elim
          · exact p4.elim
        · exact p4.elim
      · exact p4.elim
    | _ => exact p4.elim
theorem u_dget {j : Nat} (hr : Room j X.A) (ho : PE X o (UE X.K mg W da)) (he : PE X e (UE X.K mg W db)) (hf : PE X f (UE X.K mg W dc)) (m : M2 X o "get" apos e f cpos) : PE X (.Call (.Attribute o "get" apos) [e, f] [] cpos) (UE X.K mg W (dGetD da db dc)) :=
  (pe_dget2 (hu1 hr) ho he hf m).imp fun σ H Q ⟨env, S, g, h, p⟩ => by
    obtain ⟨env1, S1, g1, h1, p1⟩ := U.seq h p
    refine ⟨env1, S1, g1, h1, p1.imp fun v H1 ⟨g2, S2, x, e2, h2, r2, p2⟩ => ?_⟩
    split at p2
    case isFalse => exact p2.elim
    rename_i hd
    obtain ⟨a, rfl, hI⟩ := isD_of h2.ok r2 hd
    refine ⟨a, rfl, hI, ?_⟩
    obtain ⟨env3, S3, g3, h3, p3⟩ := U.seq h2 p2
    refine ⟨env3, S3, g3, h3, p3.imp fun u H2 ⟨g4, S4, y, e4, h4, r4, p4⟩ => ?_⟩
    obtain ⟨env5, S5, g5, h5, p5⟩ := U.seq h4 p4
    refine ⟨env5, S5, g5, h5, p5.imp fun w H3 ⟨g6, S6, z, e6, h6, r6, p6⟩ => ?_⟩
    unfold getDV at p6
    split at p6
    · rename_i ks ds q h7 h8
      obtain ⟨a', us, e9, hR, r⟩ := dk_rep h6.ok ((r2.mono e4.le).mono e6.le) h7
      cases e9
      refine ⟨valV us q, .inl ⟨us, q, hR, key_rep (r4.mono e6.le) h8, rfl⟩, ?_⟩
      have hv := r.get (q := q)
      cases hg : getK ks ds q with
      | none =>
        rw [hg] at hv p6
        rw [show valV us q = none from hv]
        exact p6.now h6.ok r6
      | some d =>
        rw [hg] at hv p6
        obtain ⟨w', hw, rw'⟩ := hv
        rw [hw]
        exact p6.now h6.ok rw'
    · exact p6.elim
end
end
end Dn

set_option Elab.async false
set_option linter.all false
set_option maxRecDepth 100000
set_option maxHeartbeats 2000000
/-! Dn12: sorted, list of a dict, divmod -/
namespace L2
open PySem PySem.Spec PyProof.Rows PySem.W
/-- sorted(xs), xs a list of data of one kind -/
def rSortedD (K : PySem.W.Frag) : List V → Hp → VK → Prop := fun xs H Q => ∃ (a : Addr) (bs : List (V × PyData)), xs = [.ref a] ∧ SqL K H a (bs.map (·.1)) ∧ (∀ b, b ∈ bs → Dp K H b.1 b.2) ∧ AllAlike (bs.map (·.2)) ∧ Sortable (bs.map (·.2)) ∧ (∀ b, b ∈ bs → b.2.depth ≤ 60) ∧
  ∀ p, H p = none → Q (.ref p) (upd H p (.lst ((bs.mergeSort (dataLe false (·.2))).map (·.1))))
theorem vals_each {R : Value → (V × PyData) → Prop} : ∀ {bs : List (V × PyData)} {us : List Value}, Vals (bs.map (·.1)) us → (∀ b u, b ∈ bs → RelV b.1 u → R u b) → EachIs R us bs
  | [], _, .nil, _ => .nil
  | b :: bs, _, .cons r t, h => .cons (h b _ List.mem_cons_self r) (vals_each t fun c u hc => h c u (List.mem_cons_of_mem _ hc))
theorem each_vals : ∀ {bs : List (V × PyData)} {us : List Value}, EachIs (fun u b => RelV b.1 u) us bs → Vals (bs.map (·.1)) us
  | _, _, .nil => .nil
  | _, _, .cons r t => .cons r (each_vals t)
theorem cr_sortedD {X : Cx} (hu : X.A.units + 64 < cLine) : CallR X (.builtin "sorted") (rSortedD X.K) := by
  intro pins s σ H xs us Q I r h
  obtain ⟨a, bs, rfl, hs, hd, hal, hk, hdep, q⟩ := h
  rw [Vals.ref1 r]
  obtain ⟨its, rv, pl, hz⟩ := I.list hs
  have hlen : bs.length ≤ sizeLine := by rw [List.length_map] at hz; exact hz
  refine sorted_data (vs := its) (bs := bs) (enc := (·.2)) (R := fun u b => RelV b.1 u) pl.isList (vals_each rv fun _ _ _ r => r) (vals_each rv fun b u hb ru => Dp.reads I b.2 b.1 u (hd b hb) ru) hal hk hlen (fun b hb => ?_) fun out hl he => ?_
  · have := hdep b hb
    omega
  · obtain ⟨ep, he'⟩ := PyProof.Rows.sortedAll_at s.heap its (List.toArray out)
    have hv := each_vals he
    have hle : ((bs.mergeSort (dataLe false (·.2))).map (·.1)).length ≤ sizeLine := by rw [List.length_map, List.length_mergeSort]; exact hlen
    exact ⟨.ref _, upd H (s.heap.objs.size + 1) (.lst ((bs.mergeSort (dataLe false (·.2))).map (·.1))), I.laid (t' := s.toks) (fun _ _ => PyProof.Rows.sortedAll_old) (Nat.le_succ _) ⟨hle, out, ep, hv, he'⟩, rfl, q _ (I.hok.fresh (Nat.le_succ _))⟩
end L2
namespace Dn
open PySem PySem.Spec PyProof.Rows L2 PySem.W

def D.pd (d : D) : PyData := d.py.getD .none
/-- in order, by the data that they are -/
def sortD (ds : List D) : List D := ds.mergeSort (dataLe false D.pd)
def plainP : PyData → Bool
  | .none => false
  | .tuple _ => false
  | _ => true
def pairP : PyData → Bool
  | .tuple (_ :: _) => true
  | _ => false
def sortOk (ds : List D) : Bool := ds.all (fun d => d.py.isSome && decide (d.pd.depth ≤ 60)) && (ds.all (fun d => ds.all fun e => alike d.pd e.pd) && (ds.all (fun d => plainP d.pd) || ds.all fun d => pairP d.pd))
/-- the keys of a dict, the items of a list or a tuple -/
def keysS (S : Sto) (d : D) : Option (List D) := match dK_of S d with
  | some (ks, _) => some ks
  | none => seqS S d
def sortedV (xs : List D) (S : Sto) : RE D := match xs with
  | [x] => (match seqL S x with
    | some ds => if sortOk ds = true then .ok (.lst (sortD ds)) S else .fail
    | none => .fail)
  | _ => .fail
def listV2 (xs : List D) (S : Sto) : RE D := match xs with
  | [x] => (match keysS S x with
    | some ds => .ok (.lst ds) S
    | none => .fail)
  | _ => .fail
def listV2M (xs : List D) (S : Sto) : RE D := match xs with
  | [x] => (match keysS S x with
    | some ds => .ok (.ref S.length) (S ++ [.lst ds])
    | none => .fail)
  | _ => .fail
def lenV2 (xs : List D) (S : Sto) : RE D := match xs with
  | [.ref n] => (match S[n]? with
    | some (.dct ks ds) => if plainKs ks = true then .ok (.int ks.length) S else .fail
    | _ => lenV xs S)
  | _ => lenV xs S
def divmodV2 (xs : List D) (S : Sto) : RE D := match xs with
  | [.int i, .int j] => if 0 < j ∧ j < 1073741824 then .ok (.tup [.int (i / j), .int (i % j)]) S else .fail
  | _ => .fail
section
variable {K : PySem.W.Frag} {mg : Bk} {g : Gh} {S : Sto} {H : Hp} {X : Cx} {W : WX} {σ : L2.St}
theorem Reps.dpE (e : Ex g.im H) : ∀ {ds : List D} {vs : List V}, Reps K mg g ds vs → (∀ d ∈ ds, d.py.isSome = true) → ∀ b, b ∈ (vs.zip (ds.map D.pd)) → Dp K H b.1 b.2
  | _, _, .nil, _, b, h => by cases h
  | d :: ds, v :: vs, .cons r t, hp, b, h => by
    rcases List.mem_cons.mp h with h | h
    · subst h
      obtain ⟨p, hq⟩ := Option.isSome_iff_exists.mp (hp d List.mem_cons_self)
      have e2 : d.pd = p := by unfold D.pd; rw [hq]; rfl
      show Dp K H v d.pd
      rw [e2]
      exact r.dp e hq
    · exact Reps.dpE e t (fun d hd => hp d (List.mem_cons_of_mem _ hd)) b h
theorem zip_fst : ∀ {ds : List D} {vs : List V}, Reps K mg g ds vs → (vs.zip (ds.map D.pd)).map (·.1) = vs
  | _, _, .nil => rfl
  | d :: ds, v :: vs, .cons r t => congrArg (v :: ·) (zip_fst t)
theorem zip_snd : ∀ {ds : List D} {vs : List V}, Reps K mg g ds vs → (vs.zip (ds.map D.pd)).map (·.2) = ds.map D.pd
  | _, _, .nil => rfl
  | d :: ds, v :: vs, .cons r t => congrArg (d.pd :: ·) (zip_snd t)
theorem sort_reps {ds : List D} {vs : List V} (r : Reps K mg g ds vs) : Reps K mg g (sortD ds) (((vs.zip (ds.map D.pd)).mergeSort (dataLe false (·.2))).map (·.1)) := by
  -- both are images of the pairs (value, datum), sorted
  have h1 : sortD ds = ((vs.zip ds).mergeSort (dataLe false fun t => t.2.pd)).map (·.2) := by
    rw [sort_maps (r := dataLe false fun t : V × D => t.2.pd) (s := dataLe false D.pd) (fun t : V × D => t.2) fun a _ b _ => rfl]
    have e : (vs.zip ds).map (fun t : V × D => t.2) = ds := by
      have : ∀ {ds : List D} {vs : List V}, Reps K mg g ds vs → (vs.zip ds).map (fun t : V × D => t.2) = ds := by
        intro ds vs r
        induction ds generalizing vs with
        | nil => cases r; rfl
        | cons d ds ih => cases r with | cons r t => exact congrArg (d :: ·) (ih t)
      exact this r
    rw [e]
    rfl
  have h2 : ((vs.zip (ds.map D.pd)).mergeSort (dataLe false (·.2))).map (·.1) = ((vs.zip ds).mergeSort (dataLe false fun t => t.2.pd)).map (·.1) := by
    have e : vs.zip (ds.map D.pd) = (vs.zip ds).map fun t : V × D => (t.1, t.2.pd) := by
      have : ∀ (ds : List D) (vs : List V), vs.zip (ds.map D.pd) = (vs.zip ds).map fun t : V × D => (t.1, t.2.pd) := by
        intro ds
        induction ds with
        | nil => intro vs; cases vs <;> rfl
        | cons d ds ih =>
          intro vs
          cases vs with
          | nil => rfl
          | cons v vs => exact congrArg ((v, d.pd) :: ·) (ih vs)
      exact this ds vs
    rw [e, ← sort_maps (r := dataLe false fun t : V × D => t.2.pd) (fun t : V × D => (t.1, t.2.pd)) fun a _ b _ => rfl, List.map_map]
    rfl
  rw [h1, h2]
  have pm := List.mergeSort_perm (vs.zip ds) (dataLe false fun t => t.2.pd)
  have all : ∀ t, t ∈ (vs.zip ds).mergeSort (dataLe false fun t => t.2.pd) → Rep K mg g t.2 t.1 := fun t ht => by
    have ht' := pm.mem_iff.mp ht
    have : ∀ {ds : List D} {vs : List V}, Reps K mg g ds vs → ∀ t ∈ vs.zip ds, Rep K mg g t.2 t.1 := by
      intro ds vs r
      induction ds generalizing vs with
      | nil => cases r; intro t ht; cases ht
      | cons d ds ih =>
        cases r with
        | cons r t =>
          intro t' ht
          rcases List.mem_cons.mp ht with e | e
          · subst e; exact r
          · exact ih t t' e
    exact this r t ht'
  generalize (vs.zip ds).mergeSort (dataLe false fun t => t.2.pd) = l at all
  clear pm h1 h2 r
  induction l with
  | nil => exact .nil
  | cons t l ih => exact .cons (all t List.mem_cons_self) (ih fun t' ht => all t' (List.mem_cons_of_mem _ ht))
theorem cs_sorted : CaS K mg (L2.rSortedD K) sortedV := by
  intro W σ g S H xs vs Q ok r p
  unfold sortedV at p
  split at p
  · split at p
    · rename_i ds hs
      split at p
      · rename_i hso
        obtain ⟨v, rfl, rv⟩ := r.one
        obtain ⟨a, us, rfl, hq, rq⟩ := seqL_of ok rv hs
        unfold sortOk at hso
        rw [Bool.and_eq_true, Bool.and_eq_true] at hso
        obtain ⟨h1, h2, h3⟩ := hso
        rw [List.all_eq_true] at h1 h2
        have h1' : ∀ d ∈ ds, d.py.isSome = true ∧ d.pd.depth ≤ 60 := fun d hd => by
          have := h1 d hd
          rw [Bool.and_eq_true] at this
          exact ⟨this.1, of_decide_eq_true this.2⟩
        refine ⟨a, us.zip (ds.map D.pd), rfl, by rw [zip_fst rq]; exact hq, rq.dpE ok.ex fun d hd => (h1' d hd).1, ?_, ?_, fun b hb => ?_, fun l hl => ?_⟩
        · rw [zip_snd rq]
          intro d hd d' hd'
          obtain ⟨x, hx, rfl⟩ := List.mem_map.mp hd
          obtain ⟨y, hy, rfl⟩ := List.mem_map.mp hd'
          exact List.all_eq_true.mp (h2 x hx) y hy
        · rw [zip_snd rq]
          rw [Bool.or_eq_true, List.all_eq_true, List.all_eq_true] at h3
          rcases h3 with h3 | h3
          · right
            intro d hd
            obtain ⟨x, hx, rfl⟩ := List.mem_map.mp hd
            have := h3 x hx
            refine ⟨fun e => ?_, fun xs e => ?_⟩
            · rw [e] at this; cases this
            · rw [e] at this; cases this
          · left
            intro d hd
            obtain ⟨x, hx, rfl⟩ := List.mem_map.mp hd
            have := h3 x hx
            unfold pairP at this
            split at this
            · rename_i y ys e
              exact ⟨y, ys, e⟩
            · cases this
        · have : b.2 ∈ (us.zip (ds.map D.pd)).map (·.2) := List.mem_map.mpr ⟨b, hb, rfl⟩
          rw [zip_snd rq] at this
          obtain ⟨x, hx, e⟩ := List.mem_map.mp this
          rw [← e]
          exact (h1' x hx).2
        · obtain ⟨o, e⟩ := ok.newI (o := .lst ((((us.zip (ds.map D.pd)).mergeSort (dataLe false (·.2))).map (·.1)))) hl
          exact p.go e o (.lst upd_same ((sort_reps rq).mono e.le))
      · exact p.elim
    · exact p.elim
  · exact p.elim
def rListV2 (K : PySem.W.Frag) : List V → Hp → VK → Prop := fun xs H Q => rListV K xs H Q ∨ ∃ (a : Addr) (kvs : List (Key × V)), xs = [.ref a] ∧ Rd H a (.dK kvs) ∧ ∀ p, H p = none → Q (.ref p) (upd H p (.lst (kvs.map fun kv => kV kv.1)))
theorem call_listV2 (hc : X.calm = true) : CallR X (.type "list") (rListV2 X.K) := CallR.or call_list_of (call_listD hc)
theorem KvK.keys : ∀ {ks ds : List D} {us : List (Key × V)}, KvK K mg g ks ds us → Reps K mg g ks (us.map fun kv => kV kv.1)
  | _, _, _, .nil => .nil
  | _, _, _, .cons (k := k) (q := q) h r t => .cons (by
      cases k with
      | int i => cases h; exact .int i
      | str x => cases h; exact .str x
      | _ => cases h) (KvK.keys t)
theorem cs_list2 : CaS K mg (rListV2 K) listV2 := by
  intro W σ g S H xs vs Q ok r p
  unfold listV2 keysS at p
  split at p
  · rename_i x
    cases hd : dK_of S x with
    | some kd =>
      obtain ⟨ks, ds⟩ := kd
      rw [hd] at p
      dsimp only at p
      obtain ⟨v, rfl, rv⟩ := r.one
      obtain ⟨a, us, rfl, hR, rk⟩ := dk_rep ok rv hd
      refine .inr ⟨a, us, rfl, hR, fun l hl => ?_⟩
      obtain ⟨o, e⟩ := ok.newI (o := .lst (us.map fun kv => kV kv.1)) hl
      exact p.go e o (.lst upd_same (rk.keys.mono e.le))
    | none =>
      rw [hd] at p
      dsimp only at p
      split at p
      · rename_i ds hs
        obtain ⟨v, rfl, rv⟩ := r.one
        obtain ⟨a, us, rfl, hq, rq⟩ := seq_of ok rv hs
        refine .inl ⟨a, us, rfl, hq, fun l hl => ?_⟩
        obtain ⟨o, e⟩ := ok.newI (o := .lst us) hl
        exact p.go e o (.lst upd_same (rq.mono e.le))
      · exact p.elim
  · exact p.elim
theorem cs_list2M : CaS K mg (rListV2 K) listV2M := by
  intro W σ g S H xs vs Q ok r p
  unfold listV2M keysS at p
  split at p
  · rename_i x
    cases hd : dK_of S x with
    | some kd =>
      obtain ⟨ks, ds⟩ := kd
      rw [hd] at p
      dsimp only at p
      obtain ⟨v, rfl, rv⟩ := r.one
      obtain ⟨a, us, rfl, hR, rk⟩ := dk_rep ok rv hd
      refine .inr ⟨a, us, rfl, hR, fun l hl => ?_⟩
      obtain ⟨o, e⟩ := ok.newM (o := .lst (us.map fun kv => kV kv.1)) (so := .lst ks) hl (by intro z; cases z) fun g' le => ⟨_, upd_same, rk.keys.mono le⟩
      exact p.go e o (newM_rep ok)
    | none =>
      rw [hd] at p
      dsimp only at p
      split at p
      · rename_i ds hs
        obtain ⟨v, rfl, rv⟩ := r.one
        obtain ⟨a, us, rfl, hq, rq⟩ := seq_of ok rv hs
        refine .inl ⟨a, us, rfl, hq, fun l hl => ?_⟩
        obtain ⟨o, e⟩ := ok.newM (o := .lst us) (so := .lst ds) hl (by intro z; cases z) fun g' le => ⟨us, upd_same, rq.mono le⟩
        exact p.go e o (newM_rep ok)
      · exact p.elim
  · exact p.elim
def rLenV2 (K : PySem.W.Frag) : List V → Hp → VK → Prop := fun xs H Q => rLenV K xs H Q ∨ ∃ a kvs, xs = [V.ref a] ∧ H a = some (.dK kvs) ∧ Q (.int kvs.length) H
theorem call_lenV2 : CallR X (.builtin "len") (rLenV2 X.K) := CallR.or call_lenV call_lenD
theorem cs_len2 : CaS K mg (rLenV2 K) lenV2 := by
  intro W σ g S H xs vs Q ok r p
  unfold lenV2 at p
  split at p
  · rename_i n
    split at p
    · rename_i ks ds hs
      split at p
      · rename_i hp
        obtain ⟨v, rfl, rv⟩ := r.one
        cases rv with
        | @ref a n hm =>
          obtain ⟨us, h1, h2, _⟩ := dk_put ok hm hs hp
          exact .inr ⟨a, us, rfl, h1, by rw [← h2.len]; exact p.now ok (.int _)⟩
      · exact p.elim
    · exact .inl (cs_len ok r p)
  · exact .inl (cs_len ok r p)
theorem cs_divmod : CaS K mg (fun xs H Q => ∃ i j, xs = [.int i, .int j] ∧ CDiv i j ∧ ∀ p, H p = none → Q (.ref p) (upd H p (.tup [.int (i / j), .int (i % j)]))) divmodV2 := by
  intro W σ g S H xs vs Q ok r p
  unfold divmodV2 at p
  split at p
  · rename_i i j
    split at p
    · rename_i h
      obtain ⟨v, u, rfl, rv, ru⟩ := r.two
      cases rv
      cases ru
      refine ⟨i, j, rfl, h, fun l hl => ?_⟩
      obtain ⟨o, e⟩ := ok.newI (o := .tup [.int (i / j), .int (i % j)]) hl
      exact p.go e o (.tup (SqT.of upd_same) (.cons (.int _) (.cons (.int _) .nil)))
    · exact p.elim
  · exact p.elim
end
end Dn

set_option Elab.async false
set_option linter.all false
set_option maxRecDepth 100000
set_option maxHeartbeats 2000000
/-! Dn13: the printed terms' words -/
namespace Dn
open PySem PySem.Spec PyProof.Rows L2
section
variable {X : Cx} {W : WX} {a b c e : Expr} {es rest : List Expr} {pos p : Pos} {da db dc : DE D} {ta tb : DE Bool} {dl : DE (List D)} {mg : Bk} {j k : Nat} {x : Str}
theorem o_add (ha : PE X a (UE X.K mg W da)) (hb : PE X b (UE X.K mg W db)) : PE X (.BinOp a .Add b pos) (UE X.K mg W (dOp addV da db)) := u_op op_addV os_add ha hb
theorem o_sub (ha : PE X a (UE X.K mg W da)) (hb : PE X b (UE X.K mg W db)) : PE X (.BinOp a .Sub b pos) (UE X.K mg W (dOp subV da db)) := u_op op_sub os_sub ha hb
theorem o_mul (ha : PE X a (UE X.K mg W da)) (hb : PE X b (UE X.K mg W db)) : PE X (.BinOp a .Mult b pos) (UE X.K mg W (dOp mulV da db)) := u_op op_mul os_mul ha hb
theorem o_div (ha : PE X a (UE X.K mg W da)) (hb : PE X b (UE X.K mg W db)) : PE X (.BinOp a .FloorDiv b pos) (UE X.K mg W (dOp divV da db)) := u_op op_fdivN os_div ha hb
theorem o_mod (ha : PE X a (UE X.K mg W da)) (hb : PE X b (UE X.K mg W db)) : PE X (.BinOp a .Mod b pos) (UE X.K mg W (dOp modV da db)) := u_op op_modN os_mod ha hb
theorem o_pow (ha : PE X a (UE X.K mg W da)) (hb : PE X b (UE X.K mg W db)) : PE X (.BinOp a .Pow b pos) (UE X.K mg W (dOp powV da db)) := u_op op_pow os_pow ha hb
def negV (x : D) (S : Sto) : RE D := match x with
  | .int i => .ok (.int (-i)) S
  | _ => .fail
theorem us_neg : UnS X.K mg (rU fun i => .int (-i)) negV := by
  intro W σ g S H x v Q ok rx p
  unfold negV at p
  split at p
  · cases rx
    exact ⟨_, rfl, p.now ok (.int _)⟩
  · exact p.elim
theorem o_neg (ha : PE X a (UE X.K mg W da)) : PE X (.UnaryOp .USub a pos) (UE X.K mg W (dUn negV da)) := u_un un_neg us_neg ha
theorem c_lt (ha : PE X a (UE X.K mg W da)) (hb : PE X b (UE X.K mg W db)) : PE X (.Compare a [.Lt] [b] pos) (UE X.K mg W (dOp ltV da db)) := u_cmp op_ltV os_ord ha hb (nomarks rfl b)
theorem c_le (ha : PE X a (UE X.K mg W da)) (hb : PE X b (UE X.K mg W db)) : PE X (.Compare a [.LtE] [b] pos) (UE X.K mg W (dOp leV da db)) := u_cmp op_leV os_ord ha hb (nomarks rfl b)
theorem c_gt (ha : PE X a (UE X.K mg W da)) (hb : PE X b (UE X.K mg W db)) : PE X (.Compare a [.Gt] [b] pos) (UE X.K mg W (dOp gtV da db)) := u_cmp op_gtV os_ord ha hb (nomarks rfl b)
theorem c_ge (ha : PE X a (UE X.K mg W da)) (hb : PE X b (UE X.K mg W db)) : PE X (.Compare a [.GtE] [b] pos) (UE X.K mg W (dOp geV da db)) := u_cmp op_geV os_ord ha hb (nomarks rfl b)
theorem c_is (ha : PE X a (UE X.K mg W da)) (hb : PE X b (UE X.K mg W db)) : PE X (.Compare a [.Is] [b] pos) (UE X.K mg W (dOp isV da db)) := u_cmp op_isN os_is ha hb (nomarks rfl b)
theorem c_isnt (ha : PE X a (UE X.K mg W da)) (hb : PE X b (UE X.K mg W db)) : PE X (.Compare a [.IsNot] [b] pos) (UE X.K mg W (dOp isntV da db)) := u_cmp op_notN os_isnt ha hb (nomarks rfl b)
theorem t_lt (ha : PE X a (UE X.K mg W da)) (hb : PE X b (UE X.K mg W db)) : PT X (.Compare a [.Lt] [b] pos) (UT X.K mg W (dT (dOp ltV da db))) := u_cmpT op_ltV os_ord ha hb (nomarks rfl b)
theorem t_le (ha : PE X a (UE X.K mg W da)) (hb : PE X b (UE X.K mg W db)) : PT X (.Compare a [.LtE] [b] pos) (UT X.K mg W (dT (dOp leV da db))) := u_cmpT op_leV os_ord ha hb (nomarks rfl b)
theorem t_gt (ha : PE X a (UE X.K mg W da)) (hb : PE X b (UE X.K mg W db)) : PT X (.Compare a [.Gt] [b] pos) (UT X.K mg W (dT (dOp gtV da db))) := u_cmpT op_gtV os_ord ha hb (nomarks rfl b)
theorem t_ge (ha : PE X a (UE X.K mg W da)) (hb : PE X b (UE X.K mg W db)) : PT X (.Compare a [.GtE] [b] pos) (UT X.K mg W (dT (dOp geV da db))) := u_cmpT op_geV os_ord ha hb (nomarks rfl b)
theorem t_is (ha : PE X a (UE X.K mg W da)) (hb : PE X b (UE X.K mg W db)) : PT X (.Compare a [.Is] [b] pos) (UT X.K mg W (dT (dOp isV da db))) := u_cmpT op_isN os_is ha hb (nomarks rfl b)
theorem t_isnt (ha : PE X a (UE X.K mg W da)) (hb : PE X b (UE X.K mg W db)) : PT X (.Compare a [.IsNot] [b] pos) (UT X.K mg W (dT (dOp isntV da db))) := u_cmpT op_notN os_isnt ha hb (nomarks rfl b)
theorem op_inV2 (hr : Room j X.A) : OpR X (compareOp .In) (fun x y H Q => rInDct x y H Q ∨ rInV X.K x y H Q) := OpR.or (op_inDct (hu1 hr)) (op_inV (hu65 hr))
theorem op_nInV2 (hr : Room j X.A) : OpR X (compareOp .NotIn) (fun x y H Q => rNotInDct x y H Q ∨ rNotInV X.K x y H Q) := OpR.or (op_notInDct (hu1 hr)) (op_nInV (hu65 hr))
theorem c_in (hr : Room j X.A) (ha : PE X a (UE X.K mg W da)) (hb : PE X b (UE X.K mg W db)) (hm : behindInMarks .In b = false := by rfl) : PE X (.Compare a [.In] [b] pos) (UE X.K mg W (dOp inV2 da db)) := u_cmp (op_inV2 hr) os_in2 ha hb hm
theorem c_nin (hr : Room j X.A) (ha : PE X a (UE X.K mg W da)) (hb : PE X b (UE X.K mg W db)) (hm : behindInMarks .NotIn b = false := by rfl) : PE X (.Compare a [.NotIn] [b] pos) (UE X.K mg W (dOp notInV2 da db)) := u_cmp (op_nInV2 hr) os_nin2 ha hb hm
theorem t_in (hr : Room j X.A) (ha : PE X a (UE X.K mg W da)) (hb : PE X b (UE X.K mg W db)) (hm : behindInMarks .In b = false := by rfl) : PT X (.Compare a [.In] [b] pos) (UT X.K mg W (dT (dOp inV2 da db))) := u_cmpT (op_inV2 hr) os_in2 ha hb hm
theorem t_nin (hr : Room j X.A) (ha : PE X a (UE X.K mg W da)) (hb : PE X b (UE X.K mg W db)) (hm : behindInMarks .NotIn b = false := by rfl) : PT X (.Compare a [.NotIn] [b] pos) (UT X.K mg W (dT (dOp notInV2 da db))) := u_cmpT (op_nInV2 hr) os_nin2 ha hb hm
/-- a <= b <= c, ints or texts -/
theorem c_lele (ha : PE X a (UE X.K mg W da)) (hb : PE X b (UE X.K mg W db)) (hc : PE X c (UE X.K mg W dc)) (hm : lastMarks [.LtE, .LtE] [b, c] = false := by rfl) : PE X (.Compare a [.LtE, .LtE] [b, c] pos) (UE X.K mg W (dChain leV leV da db dc)) := u_chain op_leV op_leV os_ord os_ord ha hb hc hm
theorem t_lele (ha : PE X a (UE X.K mg W da)) (hb : PE X b (UE X.K mg W db)) (hc : PE X c (UE X.K mg W dc)) (hm : lastMarks [.LtE, .LtE] [b, c] = false := by rfl) : PT X (.Compare a [.LtE, .LtE] [b, c] pos) (UT X.K mg W (dT (dChain leV leV da db dc))) := t_chain op_leV op_leV os_ord os_ord ha hb hc hm
theorem c_lelt (ha : PE X a (UE X.K mg W da)) (hb : PE X b (UE X.K mg W db)) (hc : PE X c (UE X.K mg W dc)) (hm : lastMarks [.LtE, .Lt] [b, c] = false := by rfl) : PE X (.Compare a [.LtE, .Lt] [b, c] pos) (UE X.K mg W (dChain leV ltV da db dc)) := u_chain op_leV op_ltV os_ord os_ord ha hb hc hm
theorem t_lelt (ha : PE X a (UE X.K mg W da)) (hb : PE X b (UE X.K mg W db)) (hc : PE X c (UE X.K mg W dc)) (hm : lastMarks [.LtE, .Lt] [b, c] = false := by rfl) : PT X (.Compare a [.LtE, .Lt] [b, c] pos) (UT X.K mg W (dT (dChain leV ltV da db dc))) := t_chain op_leV op_ltV os_ord os_ord ha hb hc hm
/-! names -/
theorem u_gi {i : Int} (hm : ∃ u, X.mg x = some u ∧ RelV (.int i) u) (hg : Gl X x) (hd : (x == ("__debug__" : Str)) = false := by decide) : PE X (.Name x pos) (UE X.K mg W (dC (.int i))) := by
  obtain ⟨u, h1, h2⟩ := hm
  exact u_glob hg h1 h2 (fun g => .int i) hd
theorem u_gs {z : Str} (hm : ∃ u, X.mg x = some u ∧ RelV (.str z) u) (hg : Gl X x) (hd : (x == ("__debug__" : Str)) = false := by decide) : PE X (.Name x pos) (UE X.K mg W (dC (.str z))) := by
  obtain ⟨u, h1, h2⟩ := hm
  exact u_glob hg h1 h2 (fun g => .str z) hd
theorem u_ty {n : String} (hm : X.mg x = none) (hv : bootBuiltins x = some (.type n)) (hg : Gl X x) (hn : x ≠ "__name__" := by decide) (hd : (x == ("__debug__" : Str)) = false := by decide) : PE X (.Name x pos) (UE X.K mg W (dC (.ty n))) :=
  (pe_bltn (v := .ty n) hg hm hv rfl hn hd).imp fun σ H Q ⟨env, S, g, h, p⟩ => Post.now p h.ok (.ty n)
/-! what is built in -/
section
variable {nm : Str}
theorem b_len (hm : X.mg "len" = none) (hg : Gl X "len") (ha : PE X a (UE X.K mg W da)) (h1 : starEach [a] X.env = (false, eval a X.env) :: starEach [] X.env := by rfl) : PE X (.Call (.Name "len" p) [a] [] pos) (UE X.K mg W (dArg lenV2 (dCons da dNil))) := u_callB call_lenV2 cs_len2 hg hm boot_len (u_cons ha u_nil h1) (he := h1)
theorem b_isi (hm : X.mg "isinstance" = none) (hg : Gl X "isinstance") (ha : PE X a (UE X.K mg W da)) (hb : PE X b (UE X.K mg W db)) (h1 : starEach [a, b] X.env = (false, eval a X.env) :: starEach [b] X.env := by rfl) (h2 : starEach [b] X.env = (false, eval b X.env) :: starEach [] X.env := by rfl) (hpl : (backTo pos (starEach [b] X.env)).any (·.1) = false := by rfl) :
    PE X (.Call (.Name "isinstance" p) [a, b] [] pos) (UE X.K mg W (dArg isiV (dCons da (dCons db dNil)))) := u_callB call_isi cs_isi hg hm boot_isinstance (u_cons ha (u_cons hb u_nil h2) h1) (he := h1) (hpl := hpl)
theorem b_all (hc : X.calm = true) (hm : X.mg "all" = none) (hg : Gl X "all") (ha : PE X a (UE X.K mg W da)) (h1 : starEach [a] X.env = (false, eval a X.env) :: starEach [] X.env := by rfl) : PE X (.Call (.Name "all" p) [a] [] pos) (UE X.K mg W (dArg allV (dCons da dNil))) := u_callB (cr_all hc) cs_all hg hm boot_all (u_cons ha u_nil h1) (he := h1)
theorem b_any (hc : X.calm = true) (hm : X.mg "any" = none) (hg : Gl X "any") (ha : PE X a (UE X.K mg W da)) (h1 : starEach [a] X.env = (false, eval a X.env) :: starEach [] X.env := by rfl) : PE X (.Call (.Name "any" p) [a] [] pos) (UE X.K mg W (dArg anyV (dCons da dNil))) := u_callB (cr_any hc) cs_any hg hm boot_any (u_cons ha u_nil h1) (he := h1)
theorem b_abs (hm : X.mg "abs" = none) (hg : Gl X "abs") (ha : PE X a (UE X.K mg W da)) (h1 : starEach [a] X.env = (false, eval a X.env) :: starEach [] X.env := by rfl) : PE X (.Call (.Name "abs" p) [a] [] pos) (UE X.K mg W (dArg absV (dCons da dNil))) := u_callB call_abs cs_abs hg hm boot_abs (u_cons ha u_nil h1) (he := h1)
theorem b_tuple (hm : X.mg "tuple" = none) (hg : Gl X "tuple") (ha : PE X a (UE X.K mg W da)) (h1 : starEach [a] X.env = (false, eval a X.env) :: starEach [] X.env := by rfl) : PE X (.Call (.Name "tuple" p) [a] [] pos) (UE X.K mg W (dArg tupleV (dCons da dNil))) := u_callTy call_tuple_of cs_tuple hg hm boot_tuple (u_cons ha u_nil h1) (he := h1)
theorem b_list (hc : X.calm = true) (hm : X.mg "list" = none) (hg : Gl X "list") (ha : PE X a (UE X.K mg W da)) (h1 : starEach [a] X.env = (false, eval a X.env) :: starEach [] X.env := by rfl) : PE X (.Call (.Name "list" p) [a] [] pos) (UE X.K mg W (dArg listV2 (dCons da dNil))) := u_callTy (call_listV2 hc) cs_list2 hg hm boot_list (u_cons ha u_nil h1) (he := h1)
theorem b_listM (hc : X.calm = true) (hm : X.mg "list" = none) (hg : Gl X "list") (ha : PE X a (UE X.K mg W da)) (h1 : starEach [a] X.env = (false, eval a X.env) :: starEach [] X.env := by rfl) : PE X (.Call (.Name "list" p) [a] [] pos) (UE X.K mg W (dArg listV2M (dCons da dNil))) := u_callTy (call_listV2 hc) cs_list2M hg hm boot_list (u_cons ha u_nil h1) (he := h1)
theorem b_int (hm : X.mg "int" = none) (hg : Gl X "int") (ha : PE X a (UE X.K mg W da)) (h1 : starEach [a] X.env = (false, eval a X.env) :: starEach [] X.env := by rfl) : PE X (.Call (.Name "int" p) [a] [] pos) (UE X.K mg W (dArg intV (dCons da dNil))) := u_callTy call_int1 cs_int hg hm boot_int (u_cons ha u_nil h1) (he := h1)
theorem b_str (hm : X.mg "str" = none) (hg : Gl X "str") (ha : PE X a (UE X.K mg W da)) (h1 : starEach [a] X.env = (false, eval a X.env) :: starEach [] X.env := by rfl) : PE X (.Call (.Name "str" p) [a] [] pos) (UE X.K mg W (dArg strV (dCons da dNil))) := u_callTy call_strV cs_str hg hm boot_str (u_cons ha u_nil h1) (he := h1)
theorem b_sorted (hr : Room j X.A) (hm : X.mg "sorted" = none) (hg : Gl X "sorted") (ha : PE X a (UE X.K mg W da)) (h1 : starEach [a] X.env = (false, eval a X.env) :: starEach [] X.env := by rfl) : PE X (.Call (.Name "sorted" p) [a] [] pos) (UE X.K mg W (dArg sortedV (dCons da dNil))) := u_callB (cr_sortedD (hu64 hr)) cs_sorted hg hm boot_sorted (u_cons ha u_nil h1) (he := h1)
theorem b_max2 (hc : X.calm = true) (hm : X.mg "max" = none) (hg : Gl X "max") (ha : PE X a (UE X.K mg W da)) (hb : PE X b (UE X.K mg W db)) (h1 : starEach [a, b] X.env = (false, eval a X.env) :: starEach [b] X.env := by rfl) (h2 : starEach [b] X.env = (false, eval b X.env) :: starEach [] X.env := by rfl) (hpl : (backTo pos (starEach [b] X.env)).any (·.1) = false := by rfl) :
    PE X (.Call (.Name "max" p) [a, b] [] pos) (UE X.K mg W (dArg maxV (dCons da (dCons db dNil)))) := u_callB (call_maxV hc) cs_max hg hm boot_max (u_cons ha (u_cons hb u_nil h2) h1) (he := h1) (hpl := hpl)
theorem b_min2 (hc : X.calm = true) (hm : X.mg "min" = none) (hg : Gl X "min") (ha : PE X a (UE X.K mg W da)) (hb : PE X b (UE X.K mg W db)) (h1 : starEach [a, b] X.env = (false, eval a X.env) :: starEach [b] X.env := by rfl) (h2 : starEach [b] X.env = (false, eval b X.env) :: starEach [] X.env := by rfl) (hpl : (backTo pos (starEach [b] X.env)).any (·.1) = false := by rfl) :
    PE X (.Call (.Name "min" p) [a, b] [] pos) (UE X.K mg W (dArg minV (dCons da (dCons db dNil)))) := u_callB (call_minV hc) cs_min hg hm boot_min (u_cons ha (u_cons hb u_nil h2) h1) (he := h1) (hpl := hpl)
theorem b_divmod (hm : X.mg "divmod" = none) (hg : Gl X "divmod") (ha : PE X a (UE X.K mg W da)) (hb : PE X b (UE X.K mg W db)) (h1 : starEach [a, b] X.env = (false, eval a X.env) :: starEach [b] X.env := by rfl) (h2 : starEach [b] X.env = (false, eval b X.env) :: starEach [] X.env := by rfl) (hpl : (backTo pos (starEach [b] X.env)).any (·.1) = false := by rfl) :
    PE X (.Call (.Name "divmod" p) [a, b] [] pos) (UE X.K mg W (dArg divmodV2 (dCons da (dCons db dNil)))) := u_callB call_divmod cs_divmod hg hm boot_divmod (u_cons ha (u_cons hb u_nil h2) h1) (he := h1) (hpl := hpl)
theorem ui_r1 {tg : Expr} (hm : X.mg "range" = none) (hg : Gl X "range") (ha : PE X a (UE X.K mg W da)) (h1 : starEach [a] X.env = (false, eval a X.env) :: starEach [] X.env := by rfl) : PI X tg (.Call (.Name "range" p) [a] [] pos) (UI X.K mg W (dArg rng1 (dCons da dNil))) := ui_rng1 hg hm (u_cons ha u_nil h1) h1
theorem ui_r2 {tg : Expr} (hm : X.mg "range" = none) (hg : Gl X "range") (ha : PE X a (UE X.K mg W da)) (hb : PE X b (UE X.K mg W db)) (h1 : starEach [a, b] X.env = (false, eval a X.env) :: starEach [b] X.env := by rfl) (h2 : starEach [b] X.env = (false, eval b X.env) :: starEach [] X.env := by rfl) :
    PI X tg (.Call (.Name "range" p) [a, b] [] pos) (UI X.K mg W (dArg rng2 (dCons da (dCons db dNil)))) := ui_rng2 hg hm (u_cons ha (u_cons hb u_nil h2) h1) (h1.trans (by rw [h2]; rfl)) h2
theorem m_append {o : Expr} {apos : Pos} (ho : PE X o (UE X.K mg W da)) (ha : PE X a (UE X.K mg W db)) (hbase : attributeBase o "append" X.env (eval o X.env) = eval o X.env := by rfl) (hfew : ((backTo pos (starEach [a] X.env)).all (fun x => !x.1) && (backToKw pos (keywordEach [] X.env)).all (fun x => x.1.isSome)
      && decide (([a] : List Expr).length + ([] : List Keyword).length + (if ([] : List Keyword).isEmpty then 0 else 1) < 30)) = true := by rfl) (hline : (apos.endLine == pos.line) = true := by rfl) (h1 : starEach [a] X.env = (false, eval a X.env) :: starEach [] X.env := by rfl) :
    PE X (.Call (.Attribute o "append" apos) [a] [] pos) (UE X.K mg W (dMl appendV da (dCons db dNil))) := u_ml PySem.F.slot_list_append PySem.F.type_list_append (fun pins s σ H x xs v us Q I rx rv h => mt_append pins s σ H x xs v us Q I rx rv h) mu_append ho (u_cons ha u_nil h1) hbase hfew hline h1
theorem m_extend {o : Expr} {apos : Pos} (ho : PE X o (UE X.K mg W da)) (ha : PE X a (UE X.K mg W db)) (hbase : attributeBase o "extend" X.env (eval o X.env) = eval o X.env := by rfl) (hfew : ((backTo pos (starEach [a] X.env)).all (fun x => !x.1) && (backToKw pos (keywordEach [] X.env)).all (fun x => x.1.isSome)
      && decide (([a] : List Expr).length + ([] : List Keyword).length + (if ([] : List Keyword).isEmpty then 0 else 1) < 30)) = true := by rfl) (hline : (apos.endLine == pos.line) = true := by rfl) (h1 : starEach [a] X.env = (false, eval a X.env) :: starEach [] X.env := by rfl) :
    PE X (.Call (.Attribute o "extend" apos) [a] [] pos) (UE X.K mg W (dMl extendV da (dCons db dNil))) := u_ml PySem.F.slot_list_extend PySem.F.type_list_extend (fun pins s σ H x xs v us Q I rx rv h => mt_extend pins s σ H x xs v us Q I rx rv h) mu_extend ho (u_cons ha u_nil h1) hbase hfew hline h1
theorem m_pop1 {o : Expr} {apos : Pos} (ho : PE X o (UE X.K mg W da)) (ha : PE X a (UE X.K mg W db)) (hbase : attributeBase o "pop" X.env (eval o X.env) = eval o X.env := by rfl) (hfew : ((backTo pos (starEach [a] X.env)).all (fun x => !x.1) && (backToKw pos (keywordEach [] X.env)).all (fun x => x.1.isSome)
      && decide (([a] : List Expr).length + ([] : List Keyword).length + (if ([] : List Keyword).isEmpty then 0 else 1) < 30)) = true := by rfl) (hline : (apos.endLine == pos.line) = true := by rfl) (h1 : starEach [a] X.env = (false, eval a X.env) :: starEach [] X.env := by rfl) :
    PE X (.Call (.Attribute o "pop" apos) [a] [] pos) (UE X.K mg W (dMl popV da (dCons db dNil))) := u_ml PySem.F.slot_list_pop PySem.F.type_list_pop mt_popV mu_pop ho (u_cons ha u_nil h1) hbase hfew hline h1
theorem m_split {o : Expr} {apos : Pos} (ho : PE X o (UE X.K mg W da)) (ha : PE X a (UE X.K mg W db)) (hs : starEach [a] X.env = [(false, eval a X.env)] := by rfl) (hbase : attributeBase o "split" X.env (eval o X.env) = eval o X.env := by rfl) (hline : (apos.endLine == pos.line) = true := by rfl) :
    PE X (.Call (.Attribute o "split" apos) [a] [] pos) (UE X.K mg W (dMs splitV da (dCons db dNil))) := u_ms1 PySem.F.slot_str_split PySem.F.type_str_split mt_split mu_split ho ha hs hbase hline
theorem m_join {o : Expr} {apos : Pos} (ho : PE X o (UE X.K mg W da)) (ha : PE X a (UE X.K mg W db)) (hs : starEach [a] X.env = [(false, eval a X.env)] := by rfl) (hbase : attributeBase o "join" X.env (eval o X.env) = eval o X.env := by rfl) (hline : (apos.endLine == pos.line) = true := by rfl) :
    PE X (.Call (.Attribute o "join" apos) [a] [] pos) (UE X.K mg W (dMs joinV da (dCons db dNil))) := u_ms1 PySem.F.slot_str_join PySem.F.type_str_join mt_join mu_join ho ha hs hbase hline
theorem it_enum {elts : List Expr} {kk : Nat} {tpos : Pos} (hm : X.mg "enumerate" = none) (hg : Gl X "enumerate") (ha : PE X a (UE X.K mg W da)) (h1 : starEach [a] X.env = (false, eval a X.env) :: starEach [] X.env := by rfl) : PI X (.Tuple elts kk tpos) (.Call (.Name "enumerate" p) [a] [] pos) (UI X.K mg W (dEnum da)) := ui_enum hg hm (u_cons ha u_nil h1) h1
theorem it_zip {elts : List Expr} {kk : Nat} {tpos : Pos} (hm : X.mg "zip" = none) (hg : Gl X "zip") (ha : PE X a (UE X.K mg W da)) (hb : PE X b (UE X.K mg W db)) (h1 : starEach [a, b] X.env = (false, eval a X.env) :: starEach [b] X.env := by rfl) (h2 : starEach [b] X.env = (false, eval b X.env) :: starEach [] X.env := by rfl) (hpl : (backTo pos (starEach [b] X.env)).any (·.1) = false := by rfl) :
    PI X (.Tuple elts kk tpos) (.Call (.Name "zip" p) [a, b] [] pos) (UI X.K mg W (dZip da db)) := ui_zip hg hm (u_cons ha (u_cons hb u_nil h2) h1) h1 hpl
end
end
end Dn

set_option Elab.async false
set_option linter.all false
set_option maxRecDepth 100000
set_option maxHeartbeats 2000000
/-! Dn14: more words -/
namespace Dn
open PySem PySem.Spec PyProof.Rows L2
def dPar (i j : Nat) (l : DE (List D)) : DS := fun env S => (l env S).bindS env fun xs S1 => match xs with
  | [x, y] => .nx ((env.set i (some x)).set j (some y)) S1
  | _ => .fail
section
variable {X : Cx} {W : WX} {a b c e : Expr} {es rest : List Expr} {pos p : Pos} {da db dc : DE D} {dl : DE (List D)} {mg : Bk} {x : Str}
theorem us_par {i j : Nat} {x y : Str} {px py pt : Pos} {kt k2 pt2} (hc : X.calm = true) (hN : X.N.Nodup) (hi : X.N[i]? = some x) (hj : X.N[j]? = some y) (hij : i ≠ j)
    (hx : X.env.scope.names.lookup x = some .local) (hy : X.env.scope.names.lookup y = some .local) (ha : PA X [a, b] (UA X.K mg W dl))
    (hw : swappedStores [.Tuple [.Name x px, .Name y py] kt pt] (.Tuple [a, b] k2 pt2) X.env = pure (some [x, y]))
    (hs : swapsWithSole [.Tuple [.Name x px, .Name y py] kt pt] (.Tuple [a, b] k2 pt2) pos.line X.env = pure false := by rfl) :
    PS X (.Assign [.Tuple [.Name x px, .Name y py] kt pt] (.Tuple [a, b] k2 pt2) pos) (US X.K mg W (dPar i j dl)) :=
  (ps_par hc hN hi hj hij hx hy ha hw hs).imp fun D σ H ⟨env, S, g, h, p⟩ => by
    obtain ⟨env1, S1, g1, h1, p1⟩ := U.seqS h p
    refine ⟨env1, S1, g1, h1, p1.imp fun vs H1 ⟨g2, S2, xs, e2, h2, r2, p2⟩ => ?_⟩
    split at p2
    · obtain ⟨v, u, rfl, rv, ru⟩ := r2.two
      exact ⟨v, u, rfl, p2 _ g2 H1 (.refl _ _) ⟨(h2.e.set rv).set ru, h2.ok⟩⟩
    · exact p2.elim
/-- a constant of the module that is data -/
structure Gd (K : PySem.W.Frag) (mg : Bk) (x : Str) (d : D) : Prop where
  ex : ∃ v u, mg.mg x = some u ∧ RelV v u ∧ ∀ g, Rep K mg g d v
theorem u_gd {d : D} (hm : Gd X.K X.bk x d) (hg : Gl X x) (hd : (x == ("__debug__" : Str)) = false := by decide) : PE X (.Name x pos) (UE X.K X.bk W (dC d)) := by
  obtain ⟨v, u, h1, h2, h3⟩ := hm.ex
  exact u_glob hg h1 h2 h3 hd
theorem m2 {o f : Expr} {m : Str} {apos cpos : Pos} (hb : attributeBase o m X.env (eval o X.env) = eval o X.env := by rfl) (hf : ((backTo cpos (starEach [e, f] X.env)).all (fun x => !x.1) && (backToKw cpos (keywordEach [] X.env)).all (fun x => x.1.isSome)
    && decide (([e, f] : List Expr).length + ([] : List Keyword).length + (if ([] : List Keyword).isEmpty then 0 else 1) < 30)) = true := by rfl) (hl : (apos.endLine == cpos.line) = true := by rfl) (ht : backTo cpos (starEach [e, f] X.env) = [(false, eval e X.env), (false, eval f X.env)] := by rfl) : M2 X o m apos e f cpos := ⟨hb, hf, hl, ht⟩
end
end Dn

set_option Elab.async false
set_option linter.all false
set_option maxRecDepth 100000
set_option maxHeartbeats 2000000
/-! Dn15: a field as a target among others; what calls bind -/
namespace L2
open PySem PySem.Spec PyProof.Rows
/-- o.f = .. as a target -/
def gFld (K : PySem.W.Frag) (to : TE) (f : Str) : TG := fun v σ H Q => to σ H fun o H1 => ∃ a C dx fs, o = .ref a ∧ H1 a = some (.ins C dx fs) ∧ Cls K C ∧ NoAttr K C f ∧ fs.length < 1000 ∧ Q σ (upd H1 a (.ins C dx (putF f v fs)))
theorem pg_fld {X : Cx} {o : Expr} {f : Str} {pos : Pos} {to : TE} (ho : PE X o to)
    (ha : ∀ v, assign (.Attribute o f pos) X.env v = (do
      let ov ← holding [v] (eval o X.env)
      standAt pos.atName
      holding [v, ov] (setAttr ov f v)
      release [v, ov] []) := by intro _; rfl) : PG X (.Attribute o f pos) (gFld X.K to f) := by
  refine ⟨fun pins s σ H v u Q I r h => ?_⟩
  rw [ha]
  refine wpAny_bind (wpAny_holding (thn (ho.run pins s σ H _ I h) fun ov s1 ⟨x, H1, I1, r1, a, C, dx, fs, ex, ea, c, n, l, q1⟩ => ?_))
  subst ex
  obtain rfl : ov = Value.ref a := r1
  refine wpAny_bind (wpAny_standAt (wpAny_bind (wpAny_holding (setattr_ok I1 ea c n l r fun s3 I3 => ?_))))
  exact wpAny_release ⟨σ, _, I3, q1⟩
end L2
namespace Dn
open PySem PySem.Spec PyProof.Rows L2
def gFl (c f : Str) (o : DE D) : DG := fun d env S => (o env S).bindS env fun x S1 => setFV c f x d env S1
section
variable {X : Cx} {W : WX} {mg : Bk}
theorem ug_fld {Z : ZR} (z : ZOk Z) {c f : Str} {o : Expr} {pos : Pos} {da : DE D} (hc : CsN X.K X.mg c) (hn : NoA X.K X.mg c f) (ho : PE X o (UE X.K X.bk W da))
    (ha : ∀ v, assign (.Attribute o f pos) X.env v = (do
      let ov ← holding [v] (eval o X.env)
      standAt pos.atName
      holding [v, ov] (setAttr ov f v)
      release [v, ov] []) := by intro _; rfl) : PG X (.Attribute o f pos) (UG X.K X.bk W Z (gFl c f da)) :=
  PG.imp (pg_fld ho ha) fun v σ H Q ⟨env, S, g, d, h, r, p⟩ => by
    obtain ⟨env1, S1, g1, h1, p1⟩ := U.seqG z h p
    refine ⟨env1, S1, g1, h1, p1.imp fun w H1 ⟨g4, S4, x, e4, h4, r4, p4⟩ => ?_⟩
    unfold setFV at p4
    cases r4 with
    | @ref a n hm =>
      dsimp only at p4
      split at p4
      · rename_i c' fs hs'
        split at p4
        · rename_i ec
          obtain ⟨ec, hl⟩ := ec
          subst ec
          obtain ⟨C, dx, us, hC, hH, hF⟩ := ref_ins h4.ok hm hs'
          obtain ⟨C', hC', cl⟩ := hc.ex
          have e0 : C' = C := by
            have := hC'.symm.trans hC
            cases this
            rfl
          subst e0
          refine ⟨a, C', dx, us, rfl, hH, cl, hn.ex _ hC', by rw [← hF.len]; exact hl, ?_⟩
          obtain ⟨o', e'⟩ := h4.ok.put (so' := .ins c' (putD f d fs)) (o := .ins C' dx (putF f v us)) hs' hm (by intro z; cases z) ⟨C', dx, _, hC', upd_same, hF.put (r.mono e4.le)⟩
          exact p4 σ g4 _ e' ⟨h4.e.mono e'.le, o'⟩ (z.re _)
        · exact p4.elim
      · exact p4.elim
    | _ => exact p4.elim
end
section
variable {K : PySem.W.Frag} {mg : Bk} {x qual : Str} {params : Arguments} {body : List Stmt} {scope : Scope} {kws : List (Str × V)} {f : Addr} {fd : FuncData} {ps : List Str} {n : Nat}
/-- every parameter is written -/
theorem Bd.plain (F : FunD K x qual params body scope [] [] f fd) (hn : ps.length = n)
    (h : ∀ (kV doc pm : Value) (an : Option Addr) (cdv ct : Value) (us : List Value), us.length = ps.length → bindArgs (PySem.W.fnOf x qual params body scope .none kV doc pm an cdv ct) ⟨us, []⟩ = pure (ps.zip us)) : Bd K mg fd ps n [] (fun ds _ => ds) := by
  have b := F.bindsN h
  refine ⟨fun us _ => us, fun vs _ => vs, ⟨fun s us ws kin l1 l2 => ?_, fun r _ => r⟩, fun _ _ _ _ _ r _ _ _ => r⟩
  have := b s us kin (by rw [List.append_nil, l1, hn])
  rw [List.append_nil] at this
  exact this
/-- keyword-only parameters: the written ones and the rest's defaults; g tells the order -/
theorem Bd.kw (F : FunD K x qual params body scope [] kws f fd) (ks : List Str) (ms : List (Str × V)) (mD : List D) (g : {α : Type} → List α → List α → List α → List α) (hk : kws ≠ []) (hms : ∀ q ∈ ms, q ∈ kws)
    (hrel : ∀ {vs mz zs : List V} {us mv ws : List Value}, Vals vs us → Vals mz mv → Vals zs ws → Vals (g vs mz zs) (g us mv ws))
    (hrep : ∀ {g0 : Gh} {ds mz zs : List D} {us mv ws : List V}, Reps K mg g0 ds us → Reps K mg g0 mz mv → Reps K mg g0 zs ws → Reps K mg g0 (g ds mz zs) (g us mv ws))
    (hm : ∀ g0, Reps K mg g0 mD (ms.map (·.2)))
    (h : ∀ (D : Addr) (doc pm : Value) (an : Option Addr) (cdv ct : Value) (us mv ws : List Value), us.length = n → mv.length = ms.length → ws.length = ks.length →
      KwChain D ((ms.map (·.1)).zip mv) (bindArgs (PySem.W.fnOf x qual params body scope .none (.ref D) doc pm an cdv ct) ⟨us, ks.zip ws⟩) (ps.zip (g us mv ws))) :
    Bd K mg fd ps n ks (fun ds zs => g ds mD zs) := by
  obtain ⟨mv, b⟩ := F.kbinds0 n ks ms g hk hms hrel h
  exact ⟨_, _, b, fun g0 ds zs vs ws r1 r2 _ _ => hrep r1 (hm g0) r2⟩
end
end Dn

set_option Elab.async false
set_option linter.all false
set_option maxRecDepth 100000
set_option maxHeartbeats 2000000
/-! Dn16: sorted of a dict's keys; what decides a sorted list -/
namespace Dn
open PySem PySem.Spec PyProof.Rows L2 PySem.W
theorem leT : TotalLe (dataLe false D.pd) := sortLe_total _ _ _
/-- a and b are not told apart by the order only if they are one -/
def AntiD (ds : List D) : Prop := ∀ a b, a ∈ ds → b ∈ ds → dataLe false D.pd a b = true → dataLe false D.pd b a = true → a = b
theorem sortD_perm (ds : List D) : (sortD ds).Perm ds := List.mergeSort_perm _ _
theorem sortD_pw (ds : List D) : (sortD ds).Pairwise (fun a b => dataLe false D.pd a b = true) := sort_pairwise leT ds
theorem sortD_uniq {ds es : List D} (ha : AntiD ds) (p : es.Perm ds) (h : es.Pairwise (fun a b => dataLe false D.pd a b = true)) : es = sortD ds :=
  List.Perm.eq_of_pairwise (le := fun a b => dataLe false D.pd a b = true) (fun a b h1 h2 h3 h4 => ha a b (p.mem_iff.mp h1) ((sortD_perm ds).mem_iff.mp h2) h3 h4) h (sortD_pw ds) (p.trans (sortD_perm ds).symm)
theorem sortD_eq {ds es : List D} (ha : AntiD ds) (p : es.Perm ds) : sortD es = sortD ds := sortD_uniq ha ((sortD_perm es).trans p) (sortD_pw es)
theorem le_strD (x y : Str) : dataLe false D.pd (.str x) (.str y) = decide (x.cps.toList ≤ y.cps.toList) := by
  show (!dataLt (.str y) (.str x)) = _
  rw [dataLt_str, not_lt_str]
theorem str_of_cps {x y : Str} (h : x.cps.toList = y.cps.toList) : x = y := by
  cases x; cases y
  exact congrArg Str.mk (Array.toList_inj.mp h)
theorem anti_str (ss : List Str) : AntiD (ss.map .str) := by
  intro a b ha hb h1 h2
  obtain ⟨x, _, rfl⟩ := List.mem_map.mp ha
  obtain ⟨y, _, rfl⟩ := List.mem_map.mp hb
  rw [le_strD] at h1 h2
  exact congrArg D.str (str_of_cps (List.le_antisymm (of_decide_eq_true h1) (of_decide_eq_true h2)))
theorem rising_pw : ∀ (p : Str) (l : List Str), risingS p l = true → (p :: l).Pairwise (fun a b => a.cps.toList ≤ b.cps.toList)
  | p, [], _ => List.pairwise_singleton _ _
  | p, x :: r, h => by
    unfold risingS at h
    rw [Bool.and_eq_true] at h
    have h1 : p.cps.toList ≤ x.cps.toList := by
      have := h.1
      rw [ltCps_eq] at this
      exact List.not_lt.mp (by simpa using this)
    have ih := rising_pw x r h.2
    refine .cons (fun c hc => ?_) ih
    rcases List.mem_cons.mp hc with rfl | hc
    · exact h1
    · exact List.le_trans h1 ((List.pairwise_cons.mp ih).1 c hc)
theorem sorted_pw : ∀ (l : List Str), sortedS l = true → l.Pairwise (fun a b => a.cps.toList ≤ b.cps.toList)
  | [], _ => .nil
  | p :: l, h => rising_pw p l h
theorem sortD_strs {ks ys : List Str} (p : ys.Perm ks) (h : sortedS ys = true) : ys.map D.str = sortD (ks.map .str) := by
  refine sortD_uniq (anti_str ks) (p.map _) ?_
  rw [List.pairwise_map]
  exact (sorted_pw ys h).imp fun h => by rw [le_strD]; exact decide_eq_true h
def strsOf : List D → Option (List Str)
  | [] => some []
  | .str x :: r => (strsOf r).map (x :: ·)
  | _ => none
theorem strsOf_eq : ∀ {ks : List D} {ss : List Str}, strsOf ks = some ss → ks = ss.map .str
  | [], _, h => by cases h; rfl
  | .str x :: r, ss, h => by
    unfold strsOf at h
    cases q : strsOf r with
    | none => rw [q] at h; cases h
    | some t =>
      rw [q] at h
      cases h
      rw [strsOf_eq q]
      rfl
  | .non :: _, _, h => by cases h
  | .bl _ :: _, _, h => by cases h
  | .int _ :: _, _, h => by cases h
  | .tup _ :: _, _, h => by cases h
  | .lst _ :: _, _, h => by cases h
  | .frl _ :: _, _, h => by cases h
  | .dct _ _ :: _, _, h => by cases h
  | .ref _ :: _, _, h => by cases h
  | .glo _ :: _, _, h => by cases h
  | .ty _ :: _, _, h => by cases h
theorem strsOf_map : ∀ ss : List Str, strsOf (ss.map .str) = some ss
  | [] => rfl
  | x :: r => by
    show (strsOf (r.map .str)).map (x :: ·) = _
    rw [strsOf_map r]
    rfl
/-- sorted(x): a list of data, or a dict whose keys are texts -/
def sortedV2 (xs : List D) (S : Sto) : RE D := match xs with
  | [x] => (match dK_of S x with
    | some (ks, _) => (match strsOf ks with
      | some ss => if ks.length < 64 then .ok (.lst (sortD ks)) S else .fail
      | none => .fail)
    | none => sortedV [x] S)
  | _ => .fail
def rSorted2 (K : PySem.W.Frag) : List V → Hp → VK → Prop := fun xs H Q => L2.rSortedD K xs H Q ∨ ∃ (a : Addr) (kvs : List (Key × V)) (ks : List Str), xs = [.ref a] ∧ Rd H a (.dK kvs) ∧ kvs.map (·.1) = ks.map Sum.inr ∧ ks.length < 64 ∧
    ∀ ys p, ys.Perm ks → sortedS ys = true → H p = none → Q (.ref p) (upd H p (.lst (ys.map V.str)))
section
variable {X : Cx} {W : WX} {mg : Bk} {K : PySem.W.Frag}
theorem kvK_keys {g : Gh} : ∀ {ks ds : List D} {us : List (Key × V)} {ss : List Str}, KvK K mg g ks ds us → ks = ss.map .str → us.map (·.1) = ss.map Sum.inr
  | _, _, _, [], .nil, _ => rfl
  | _, _, _, x :: t, .cons h1 h2 r, e => by
    rw [List.map_cons, List.cons.injEq] at e
    obtain ⟨e1, e2⟩ := e
    subst e1
    cases h1
    rw [List.map_cons, List.map_cons, kvK_keys r e2]
theorem strs_reps {g : Gh} : ∀ ys : List Str, Reps K mg g (ys.map D.str) (ys.map V.str)
  | [] => .nil
  | y :: t => .cons (.str y) (strs_reps t)
theorem cs_sorted2 : CaS K mg (rSorted2 K) sortedV2 := by
  intro W σ g S H xs vs Q ok r p
  unfold sortedV2 at p
  split at p
  · rename_i x
    split at p
    · rename_i ks ds hd
      split at p
      · rename_i ss hss
        split at p
        · rename_i hl
          obtain ⟨v, rfl, rv⟩ := r.one
          obtain ⟨a, us, rfl, h1, h2⟩ := dk_rep ok rv hd
          have e := strsOf_eq hss
          refine .inr ⟨a, us, ss, rfl, h1, kvK_keys h2 e, by rw [e, List.length_map] at hl; exact hl, fun ys q hy hs hq => ?_⟩
          obtain ⟨o, ee⟩ := ok.newI (o := .lst (ys.map V.str)) hq
          refine p.go ee o (.lst upd_same ?_)
          rw [e, ← sortD_strs hy hs]
          exact strs_reps ys
        · exact p.elim
      · exact p.elim
    · exact .inl (cs_sorted ok r p)
  · exact p.elim
variable {a : Expr} {pos p : Pos} {da : DE D} {j : Nat}
theorem b_sorted2 (hc : X.calm = true) (hr : Room j X.A) (hm : X.mg "sorted" = none) (hg : Gl X "sorted") (ha : PE X a (UE X.K mg W da)) (h1 : starEach [a] X.env = (false, eval a X.env) :: starEach [] X.env := by rfl) : PE X (.Call (.Name "sorted" p) [a] [] pos) (UE X.K mg W (dArg sortedV2 (dCons da dNil))) :=
  u_callB (CallR.or (cr_sortedD (hu64 hr)) (call_sortedD hc)) cs_sorted2 hg hm boot_sorted (u_cons ha u_nil h1) (he := h1)
end
end Dn

set_option Elab.async false
set_option linter.all false
set_option maxRecDepth 100000
set_option maxHeartbeats 2000000
/-! Dn17: max(xs, default=d) -/
namespace L2
open PySem PySem.Spec PyProof.Rows PySem.W
theorem ints_reads {h : Heap} : ∀ {ns : List Int} {us : List Value}, Vals (ns.map V.int) us → ReadsAll h us (ns.map .int) (List.replicate 0 0)
  | [], _, .nil => .nil
  | n :: ns, _, .cons r t => by
    obtain ⟨tk, rfl⟩ := r
    exact .cons (as := []) (bs := []) (.int n tk) (ints_reads t)
theorem ints_alike (ns : List Int) : AlikeAll (ns.map PyData.int) := ⟨fun x hx y hy => by
  obtain ⟨a, _, rfl⟩ := List.mem_map.mp hx
  obtain ⟨b, _, rfl⟩ := List.mem_map.mp hy
  simp [alike], fun x hx => by
  obtain ⟨a, _, rfl⟩ := List.mem_map.mp hx
  intro e
  cases e⟩
def rMaxDef (K : PySem.W.Frag) : List V → List V → Hp → VK → Prop := fun xs zs H Q => ∃ (a : Addr) (ns : List Int) (d : V), xs = [.ref a] ∧ zs = [d] ∧ SqL K H a (ns.map V.int) ∧ (ns = [] → Q d H) ∧ ∀ n ms, ns = n :: ms → Q (.int (ms.foldl max n)) H
theorem cr_maxDef {X : Cx} (hc : X.calm = true) (hu : X.A.units + 64 < cLine) : CallRK X (.builtin "max") ["default"] (rMaxDef X.K) := by
  intro pins s σ H xs zs us ws Q I r rz h
  obtain ⟨a, ns, d, rfl, rfl, hs, q0, q1⟩ := h
  rw [Vals.ref1 r]
  obtain ⟨w, rfl, rw_⟩ := vals1 rz
  obtain ⟨its, rv, pl, _⟩ := I.list hs
  show wpAny _ _ (call (.builtin "max") [.ref a] [(Str.ofString "default", w)]) _ _ _
  refine max_list_default (xs := ns.map PyData.int) (I.ok.hd hc) pl.isList (by rw [List.toList_toArray]; exact ints_reads rv) (ints_alike ns) (by rw [depth_ints]; omega) (fun e h' tk hk => ?_) fun y ys i v h' tk bs e hv hr hk => ?_
  · refine ⟨d, H, I.kept hk, rw_, q0 ?_⟩
    cases ns with
    | nil => rfl
    | cons => cases e
  · cases ns with
    | nil => cases e
    | cons n ms =>
      rw [List.map_cons, List.cons.injEq] at e
      obtain ⟨e1, e2⟩ := e
      subst e1
      subst e2
      rw [maxD_ints] at hr
      cases hr with
      | int m t => exact ⟨.int _, H, I.kept hk, ⟨t, rfl⟩, q1 n ms rfl⟩
end L2
namespace Dn
open PySem PySem.Spec PyProof.Rows L2 PySem.W
def maxDefV (x d : D) (S : Sto) : RE D := match (seqL S x).bind intsD with
  | some [] => .ok d S
  | some (i :: is) => .ok (.int (is.foldl max i)) S
  | none => .fail
def dMaxD (a d : DE D) : DE D := fun env S => (a env S).bind fun x S1 => (d env S1).bind fun y S2 => maxDefV x y S2
section
variable {X : Cx} {W : WX} {mg : Bk} {a d : Expr} {da dd : DE D} {p pos kp : Pos} {j : Nat}
theorem one_arg {σ : L2.St} {H : Hp} {K : PySem.W.Frag} {Q : VK} (h : UE K mg W da σ H Q) : UA K mg W (dCons da dNil) σ H (fun vs H1 => ∃ v, vs = [v] ∧ Q v H1) := by
  obtain ⟨env, S, g, h, p⟩ := h
  refine ⟨env, S, g, h, ?_⟩
  show Post K mg W (Reps K mg) σ g H ((da env S).bind fun x S1 => .ok [x] S1) _
  cases e : da env S with
  | fail => rw [e] at p; exact p
  | ok d S1 =>
    rw [e] at p
    intro vs g' H' x o r
    obtain ⟨v, rfl, rv⟩ := r.one
    exact ⟨v, rfl, p v g' H' x o rv⟩
  | exc x S1 => rw [e] at p; exact p
theorem b_maxDef (hc : X.calm = true) (hr : Room j X.A) (hm : X.mg "max" = none) (hg : Gl X "max") (ha : PE X a (UE X.K mg W da)) (hd : PE X d (UE X.K mg W dd))
    (h1 : starEach [a] X.env = (false, eval a X.env) :: starEach [] X.env := by rfl)
    (he : backTo pos (starEach [a] X.env) = (false, eval a X.env) :: backTo pos (starEach [] X.env) := by rfl) (hpl : (backTo pos (starEach [a] X.env)).any (·.1) = false := by rfl)
    (hall : (backToKw pos (keywordEach [⟨some "default", d, kp⟩] X.env)).all (·.1.isSome) = true := by rfl) (hnone : (backToKw pos (keywordEach [⟨some "default", d, kp⟩] X.env)).any (·.1.isNone) = false := by rfl) (hks : (backToKw pos (keywordEach [⟨some "default", d, kp⟩] X.env)).filterMap (·.1) = [(Str.ofString "default")] := by rfl) :
    PE X (.Call (.Name "max" p) [a] [⟨some "default", d, kp⟩] pos) (UE X.K mg W (dMaxD da dd)) :=
  (pe_callBK (cr_maxDef hc (hu64 hr)) hg hm boot_max (u_cons ha u_nil h1) (uk_cons hd uk_nil) (by decide) (by decide) he hpl hall hnone hks).imp fun σ H Q ⟨env, S, g, h, p⟩ => by
    obtain ⟨env1, S1, g1, h1, p1⟩ := one_arg (U.seq h p)
    refine ⟨env1, S1, g1, h1, p1.imp fun vs H1 ⟨v, ev, g2, S2, x, e2, h2, r2, p2⟩ => ?_⟩
    obtain ⟨env3, S3, g3, h3, p3⟩ := one_arg (U.seq h2 p2)
    refine ⟨env3, S3, g3, h3, p3.imp fun us H2 ⟨u, eu, g4, S4, y, e4, h4, r4, p4⟩ => ?_⟩
    subst ev
    subst eu
    unfold maxDefV at p4
    split at p4
    · rename_i hb
      obtain ⟨ds, h5, h6⟩ := Option.bind_eq_some_iff.mp hb
      obtain ⟨a, us, rfl, hq, rq⟩ := seqL_of h4.ok (r2.mono e4.le) h5
      rw [ints_of rq h6] at hq
      exact ⟨a, [], u, rfl, rfl, hq, fun _ => p4.now h4.ok r4, fun n ms e => by cases e⟩
    · rename_i i is hb
      obtain ⟨ds, h5, h6⟩ := Option.bind_eq_some_iff.mp hb
      obtain ⟨a, us, rfl, hq, rq⟩ := seqL_of h4.ok (r2.mono e4.le) h5
      rw [ints_of rq h6] at hq
      refine ⟨a, i :: is, u, rfl, rfl, hq, (fun e => nomatch e), fun n ms e => ?_⟩
      cases e
      exact p4.now h4.ok (.int _)
    · exact p4.elim
end
end Dn

set_option Elab.async false
set_option linter.all false
set_option maxRecDepth 100000
set_option maxHeartbeats 2000000
/-! Dn18: a dict is walked: it is locked meanwhile -/
namespace Dn
open PySem PySem.Spec PyProof.Rows L2
/-- all but what is said at a -/
def dropI (im : Hp) (a : Addr) : Hp := fun x => if x = a then none else im x
theorem dropI_ne {im : Hp} {a b : Addr} (h : b ≠ a) : dropI im a b = im b := if_neg h
theorem dropI_same {im : Hp} {a : Addr} : dropI im a a = none := if_pos rfl
section
variable {K : PySem.W.Frag} {mg : Bk} {g : Gh} {a : Addr} {od : Obj} {kv : List (Key × V)}
theorem drop_get (ha : g.im a = some (.frz od (.dK kv))) {b : Addr} {o : HO} (h : g.im b = some o) (hn : ∀ o' u', o ≠ .frz o' u') : dropI g.im a b = some o := by
  rw [dropI_ne (fun e => by
    rw [e, ha] at h
    cases h
    exact hn _ _ rfl)]
  exact h
theorem drop_rd (ha : g.im a = some (.frz od (.dK kv))) {b : Addr} {u : HO} (h : Rd g.im b u) (h1 : ∀ o' u', u ≠ .frz o' u') (h2 : u ≠ .dK kv) : Rd (dropI g.im a) b u := by
  rcases h with h | ⟨o, h⟩
  · exact .inl (drop_get ha h h1)
  · refine .inr ⟨o, ?_⟩
    rw [dropI_ne (fun e => by
      rw [e, ha] at h
      cases h
      exact h2 rfl)]
    exact h
theorem drop_t (ha : g.im a = some (.frz od (.dK kv))) {b : Addr} {vs : List V} (h : SqT K g.im b vs) : SqT K (dropI g.im a) b vs := h.imp (fun h => drop_rd ha h (fun _ _ z => nomatch z) (fun z => nomatch z)) id
theorem drop_l (ha : g.im a = some (.frz od (.dK kv))) {b : Addr} {vs : List V} (h : SqL K g.im b vs) : SqL K (dropI g.im a) b vs := h.imp (fun h => drop_rd ha h (fun _ _ z => nomatch z) (fun z => nomatch z)) id
abbrev dropG (g : Gh) (a : Addr) : Gh := ⟨dropI g.im a, g.mu⟩
mutual
theorem Rep.unl (ha : g.im a = some (.frz od (.dK kv))) : ∀ {d : D} {v : V}, Rep K mg g d v → Rep K mg (dropG g a) d v
  | _, _, .non => .non
  | _, _, .bl b => .bl b
  | _, _, .int i => .int i
  | _, _, .str x => .str x
  | _, _, .tup h r => .tup (drop_t ha h) (Reps.unl ha r)
  | _, _, .lst h r => .lst (drop_get ha h (fun _ _ z => nomatch z)) (Reps.unl ha r)
  | _, _, .frl h r => .frl (drop_l ha h) (Reps.unl ha r)
  | _, _, .dctK h r => .dctK (drop_get ha h (fun _ _ z => nomatch z)) (KvK.unl ha r)
  | _, _, .dctN h0 h h1 h2 r => .dctN h0 (drop_get ha h (fun _ _ z => nomatch z)) h1 h2 (KvN.unl ha r)
  | _, _, .ref h => .ref h
  | _, _, .glo h => .glo h
  | _, _, .ty n => .ty n
theorem Reps.unl (ha : g.im a = some (.frz od (.dK kv))) : ∀ {ds : List D} {vs : List V}, Reps K mg g ds vs → Reps K mg (dropG g a) ds vs
  | _, _, .nil => .nil
  | _, _, .cons h r => .cons (Rep.unl ha h) (Reps.unl ha r)
theorem KvK.unl (ha : g.im a = some (.frz od (.dK kv))) : ∀ {ks ds : List D} {us : List (Key × V)}, KvK K mg g ks ds us → KvK K mg (dropG g a) ks ds us
  | _, _, _, .nil => .nil
  | _, _, _, .cons h1 h r => .cons h1 (Rep.unl ha h) (KvK.unl ha r)
theorem KvN.unl (ha : g.im a = some (.frz od (.dK kv))) : ∀ {ks ds : List D} {us : List (NestedKey × Addr × Value)}, KvN K mg g ks ds us → KvN K mg (dropG g a) ks ds us
  | _, _, _, .nil => .nil
  | _, _, _, .cons h1 h2 h3 h4 h5 r => .cons h1 h2 (Rep.unl ha h3) (Rep.unl ha h4) h5 (KvN.unl ha r)
end
theorem Fs.unl (ha : g.im a = some (.frz od (.dK kv))) : ∀ {fs : List (Str × D)} {us : List (Str × V)}, Fs K mg g fs us → Fs K mg (dropG g a) fs us
  | _, _, .nil => .nil
  | _, _, .cons h r => .cons (h.unl ha) (Fs.unl ha r)
theorem DctO.unl (ha : g.im a = some (.frz od (.dK kv))) {b : Addr} {ks ds : List D} {o : HO} (h : DctO K mg g b ks ds o) : DctO K mg (dropG g a) b ks ds o := h.imp (fun ⟨us, h1, h2⟩ => ⟨us, h1, h2.unl ha⟩) fun ⟨ob, xs, h1, h2, h3, h4⟩ => ⟨ob, xs, h1, h2, h3, h4.unl ha⟩
theorem SoR.unl {b : Addr} {H H' : Hp} (ha : g.im a = some (.frz od (.dK kv))) (hb : b ≠ a) (h : H' b = H b) : ∀ {o : SO}, SoR K mg g b H o → SoR K mg (dropG g a) b H' o
  | .lst ds, ⟨vs, h1, h2⟩ => ⟨vs, h.trans h1, h2.unl ha⟩
  | .dct ks ds, ⟨o, h1, h2⟩ => ⟨o, h.trans h1, h2.unl ha⟩
  | .ins c fs, ⟨C, dx, us, h0, h1, h2⟩ => ⟨C, dx, us, h0, h.trans h1, h2.unl ha⟩
  | .frd ks ds, ⟨⟨ob, o, h1, h2⟩, h3⟩ => ⟨⟨ob, o, by show dropI g.im a b = _; rw [dropI_ne hb]; exact h1, h2.unl ha⟩, by rw [h]; exact h3⟩
  | .gone, _ => trivial
/-- a dict is locked -/
theorem Ok.lock {S : Sto} {H : Hp} (ok : Ok K mg g S H) {n : Nat} {ks ds : List D} {us : List (Key × V)} (hm : g.mu[n]? = some a) (hs : S[n]? = some (.dct ks ds)) (hH : H a = some (.dK us)) (r : KvK K mg g ks ds us) (od : Obj) :
    Ok K mg ⟨upd g.im a (.frz od (.dK us)), g.mu⟩ (S.set n (.frd ks ds)) (upd H a (.frz od (.dK us))) ∧ g.le ⟨upd g.im a (.frz od (.dK us)), g.mu⟩ := by
  have ga : g.im a = none := by
    rcases ok.live n _ a hs hm with z | z
    · cases z
    · exact z.1
  have le : g.le ⟨upd g.im a (.frz od (.dK us)), g.mu⟩ := ⟨Ex.new ga, fun _ _ h => h⟩
  refine ⟨⟨fun b u e => ?_, by rw [List.length_set]; exact ok.len, fun b h => ?_, ok.inj, fun m u b q1 q2 => ?_⟩, le⟩
  · by_cases hb : b = a
    · subst hb
      have e' : upd g.im b (.frz od (.dK us)) b = some u := e
      rw [upd_same] at e' ⊢
      exact e'
    · have e' : upd g.im a (.frz od (.dK us)) b = some u := e
      rw [upd_ne hb] at e' ⊢
      exact ok.ex b u e'
  · by_cases hb : b = a
    · rw [hb, upd_same]
      intro z
      cases z
    · rw [upd_ne hb]
      exact ok.there b h
  · by_cases e : m = n
    · subst e
      have hl : m < S.length := (List.getElem?_eq_some_iff.mp hs).1
      rw [List.getElem?_set_self hl] at q1
      cases q1
      have q2' : g.mu[m]? = some b := q2
      rw [hm] at q2'
      cases q2'
      exact .inr ⟨trivial, ⟨od, .dK us, upd_same, .inl ⟨us, rfl, r.mono le⟩⟩, by rw [upd_same]; intro z; cases z⟩
    · rw [List.getElem?_set_ne (fun z => e z.symm)] at q1
      have hb : b ≠ a := fun z => by
        subst z
        exact e (nd_ix ok.inj q2 hm)
      rcases ok.live m u b q1 q2 with z | ⟨z1, z2⟩
      · exact .inl z
      · exact .inr ⟨z1.of fun z => by
          show upd g.im a _ b = none
          rw [upd_ne hb]
          exact z, z2.mono le (upd_ne hb)⟩
/-- and set free again -/
theorem Ok.free {g0 : Gh} {S S2 : Sto} {H0 H2 : Hp} (ok0 : Ok K mg g0 S H0) {n : Nat} {ks ds ks' ds' : List D} {us : List (Key × V)} (hm : g0.mu[n]? = some a) (hs : S[n]? = some (.dct ks ds)) (hH : H0 a = some (.dK us))
    (e : Ext ⟨upd g0.im a (.frz od (.dK us)), g0.mu⟩ (upd H0 a (.frz od (.dK us))) g H2) (ok : Ok K mg g S2 H2) (hs2 : S2[n]? = some (.frd ks' ds')) :
    g.im a = some (.frz od (.dK us)) ∧ H2 a = some (.frz od (.dK us)) ∧ Ok K mg (dropG g a) (S2.set n (.dct ks' ds')) (upd H2 a (.dK us)) ∧ Ext g0 H0 (dropG g a) (upd H2 a (.dK us)) := by
  have ga : g0.im a = none := by
    rcases ok0.live n _ a hs hm with z | z
    · cases z
    · exact z.1
  have am : a ∈ g0.mu := List.mem_of_getElem? hm
  have gi : g.im a = some (.frz od (.dK us)) := e.le.im a _ upd_same
  have hm2 : g.mu[n]? = some a := e.le.mu n a hm
  refine ⟨gi, ok.ex _ _ gi, ⟨fun b u q => ?_, by rw [List.length_set]; exact ok.len, fun b h => ?_, ok.inj, fun m u b q1 q2 => ?_⟩, ⟨⟨fun b u q => ?_, e.le.mu⟩, fun b q1 q2 => ?_, fun b u q1 q2 => ?_, fun b h => ?_⟩⟩
  · have q' : dropI g.im a b = some u := q
    by_cases hb : b = a
    · rw [hb, dropI_same] at q'
      cases q'
    · rw [dropI_ne hb] at q'
      rw [upd_ne hb]
      exact ok.ex b u q'
  · by_cases hb : b = a
    · rw [hb, upd_same]
      intro z
      cases z
    · rw [upd_ne hb]
      exact ok.there b h
  · by_cases em : m = n
    · subst em
      have hl : m < S2.length := (List.getElem?_eq_some_iff.mp hs2).1
      rw [List.getElem?_set_self hl] at q1
      cases q1
      have q2' : g.mu[m]? = some b := q2
      rw [hm2] at q2'
      cases q2'
      rcases ok.live m _ a hs2 hm2 with z | ⟨_, ⟨ob, o, z1, z2⟩, _⟩
      · cases z
      · rw [gi] at z1
        cases z1
        exact .inr ⟨dropI_same, .dK us, upd_same, z2.unl gi⟩
    · rw [List.getElem?_set_ne (fun z => em z.symm)] at q1
      have hb : b ≠ a := fun z => by
        subst z
        exact em (nd_ix ok.inj q2 hm2)
      rcases ok.live m u b q1 q2 with z | ⟨z1, z2⟩
      · exact .inl z
      · exact .inr ⟨z1.of fun z => by
          show dropI g.im a b = none
          rw [dropI_ne hb]
          exact z, z2.unl gi hb (upd_ne hb)⟩
  · show dropI g.im a b = some u
    have hb : b ≠ a := fun z => by
      rw [z, ga] at q
      cases q
    rw [dropI_ne hb]
    exact e.le.im b u (by show upd g0.im a _ b = _; rw [upd_ne hb]; exact q)
  · have q2' : dropI g.im a b ≠ none := q2
    by_cases hb : b = a
    · rw [hb, dropI_same] at q2'
      exact absurd rfl q2'
    · rw [dropI_ne hb] at q2'
      rcases e.new b (by show upd g0.im a _ b = _; rw [upd_ne hb]; exact q1) q2' with z | z
      · rw [upd_ne hb] at z
        exact .inl z
      · exact .inr z
  · have hb : b ≠ a := fun z => q2 (by rw [z]; exact am)
    rw [upd_ne hb]
    exact e.keep b u (by rw [upd_ne hb]; exact q1) q2
  · rcases e.newm b h with z | z
    · exact .inl z
    · by_cases hb : b = a
      · exact .inl (by rw [hb]; exact am)
      · rw [upd_ne hb] at z
        exact .inr z
end
/-- the dict n is set free -/
def freeD {α : Type} (n : Nat) (x : α) (S : Sto) : RE α := match S[n]? with
  | some (.frd ks ds) => .ok x (S.set n (.dct ks ds))
  | _ => .fail
/-- no exception leaves it -/
def calmR {α β : Type} (r : RE α) (k : α → Sto → RE β) : RE β := match r with
  | .ok d S => k d S
  | _ => .fail
/-- e, while the dict that pk tells is locked -/
def dLock (pk : Env → Sto → Option Nat) (e : DE D) : DE D := fun env S => match pk env S with
  | some n => (match S[n]? with
    | some (.dct ks ds) => if plainKs ks = true then calmR (e env (S.set n (.frd ks ds))) (freeD n) else .fail
    | _ => .fail)
  | none => .fail
section
variable {X : Cx} {K : PySem.W.Frag} {mg : Bk} {W : WX} {e : Expr} {de : DE D}
theorem u_lock {pk : Env → Sto → Option Nat} (h : PE X e (UE K mg W de)) : PE X e (UE K mg W (dLock pk de)) :=
  (pe_lock h).imp fun σ H Q ⟨env, S, g, hat, p⟩ => by
    unfold dLock at p
    split at p
    case h_2 => exact p.elim
    rename_i n _
    split at p
    case h_2 => exact p.elim
    rename_i ks ds hs
    split at p
    case isFalse => exact p.elim
    rename_i hp
    have hl : n < g.mu.length := by
      rw [hat.ok.len]
      exact (List.getElem?_eq_some_iff.mp hs).1
    have hm : g.mu[n]? = some g.mu[n] := List.getElem?_eq_getElem hl
    obtain ⟨us, hH, r, _⟩ := dk_put hat.ok hm hs hp
    refine ⟨g.mu[n], .dK us, hH, trivial, fun od => ?_⟩
    obtain ⟨ok1, le1⟩ := hat.ok.lock hm hs hH r od
    refine ⟨env, S.set n (.frd ks ds), _, ⟨hat.e.mono le1, ok1⟩, ?_⟩
    unfold calmR at p
    split at p
    case h_2 => exact p.elim
    rename_i d S2 he
    rw [he]
    intro v g2 H2 e2 o2 r2
    unfold freeD at p
    split at p
    case h_2 => exact p.elim
    rename_i ks' ds' hs2
    obtain ⟨gi, h2, o3, e3⟩ := Ok.free hat.ok hm hs hH e2 o2 hs2
    exact ⟨h2, p v _ _ e3 o3 (r2.unl gi)⟩
end
/-- what is walked, a locked dict's keys too -/
def itm2 (d : D) (S : Sto) : RE Itn := match d with
  | .ref n => (match S[n]? with
    | some (.frd ks ds) => if plainKs ks = true then .ok (ks, any_) S else .fail
    | _ => itm (.ref n) S)
  | d => itm d S
def dItm2 (e : DE D) : DE Itn := fun env S => (e env S).bind itm2
theorem itm2_eq {d : D} {S : Sto} (h : ∀ n ks ds, d = .ref n → S[n]? ≠ some (.frd ks ds)) : itm2 d S = itm d S := by
  unfold itm2
  split
  · rename_i n
    split
    · rename_i ks ds hs
      exact absurd hs (h n ks ds rfl)
    · rfl
  · rfl
section
variable {X : Cx} {W : WX} {e tg : Expr} {da : DE D} {mg : Bk} {K : PySem.W.Frag}
theorem itr_frd {g : Gh} {a : Addr} {ob : Obj} {us : List (Key × V)} {ks ds : List D} (h : g.im a = some (.frz ob (.dK us))) (r : KvK K mg g ks ds us) : ItR K mg g (ks, any_) (Itk a ob us) where
  go := fun i g1 S1 H1 le ok _ hi => by
    have hH : H1 a = some (.frz ob (.dK us)) := ok.ex _ _ (le.im _ _ h)
    have hl : i < us.length := by rw [← r.len]; exact hi
    refine ⟨⟨hH, hl⟩, fun x H2 ⟨e, k, v, hk, ex⟩ => ?_⟩
    subst e
    subst ex
    obtain ⟨u, hu, ru⟩ := r.keys.get (List.getElem?_eq_getElem hi)
    rw [List.getElem?_map, hk] at hu
    cases hu
    exact ⟨g1, ks[i], .refl _ _, ok, List.getElem?_eq_getElem hi, ru.mono le⟩
  stop := fun g1 S1 H1 le ok _ => ⟨ok.ex _ _ (le.im _ _ h), by rw [← r.len]; exact Nat.le_refl _⟩
theorem ui_itm2 (he : PE X e (UE X.K mg W da)) : PI X tg e (UI X.K mg W (dItm2 da)) :=
  (PI.or (ui_itm he) (pi_keys he)).imp fun σ H R ⟨env, S, g, h, p⟩ => by
    by_cases c : ∃ n S1 ks ds, da env S = .ok (.ref n) S1 ∧ S1[n]? = some (.frd ks ds)
    · right
      obtain ⟨n, S1, ks, ds, c1, c2⟩ := c
      refine ⟨env, S, g, h, ?_⟩
      unfold dItm2 at p
      rw [c1] at p ⊢
      have p' : Post X.K mg W (ItR X.K mg) σ g H (itm2 (.ref n) S1) R := p
      intro v g' H' e' o' r'
      have p2 := Post.ext p' e'
      have eq2 : itm2 (.ref n) S1 = (if plainKs ks = true then .ok (ks, any_) S1 else .fail) := by
        unfold itm2
        dsimp only
        rw [c2]
      rw [eq2] at p2
      split at p2
      case isFalse => exact p2.elim
      rename_i hp
      cases r' with
      | @ref a _ hm =>
        rcases o'.live n _ a c2 hm with z | ⟨_, ⟨ob, o, z1, z2⟩, _⟩
        · cases z
        · rcases z2 with ⟨us, eu, r⟩ | ⟨_, xs, eu, _⟩
          · subst eu
            exact ⟨a, ob, rfl, .inl ⟨us, o'.ex _ _ z1, p2.now o' (itr_frd z1 r)⟩⟩
          · rw [eu.1] at hp
            cases hp
    · left
      refine ⟨env, S, g, h, ?_⟩
      have e1 : dItm da env S = dItm2 da env S := by
        unfold dItm dItm2
        cases q : da env S with
        | fail => rfl
        | exc x S1 => rfl
        | ok d S1 =>
          show itm d S1 = itm2 d S1
          exact (itm2_eq fun n ks ds e1 e2 => c ⟨n, S1, ks, ds, by rw [q, e1], e2⟩).symm
      rw [e1]
      exact p
end
end Dn

set_option Elab.async false
set_option linter.all false
set_option maxRecDepth 100000
set_option maxHeartbeats 2000000
/-! Dn19: sorted(xs, key=f), f a def of the module -/
namespace L2
open PySem PySem.Spec PyProof.Rows PySem.W
/-- what is ours and is not followed is followed from now on -/
theorem Inv.adopt {X : Cx} {pins : List (Addr × Obj)} {σ : St} {H : Hp} {s : Shared} {a : Addr} {o : HO} (I : Inv X pins σ H s) (hf : FpOk X pins H a) (new : ObjOk X.prog X.w (upd H a o) s.heap a o) : Inv X pins σ (upd H a o) s := by
  obtain ⟨hn, f1, f2, f3, f4, f5⟩ := hf
  have neN : ∀ b (u : HO), H b = some u → b ≠ a := fun b u e => ne_of_none e hn
  have neS : ∀ b ob, X.s_0.heap.get? b = some ob → b ∉ X.ex → b ≠ a := fun b ob e hx z => by
    rcases f3 with q | q
    · exact hx (by rw [z]; exact q)
    · exact absurd (Nat.lt_of_lt_of_le (Heap.lt_size e) (by rw [z]; exact q)) (Nat.lt_irrefl _)
  refine ⟨I.ok, I.os, I.bare, ⟨I.base.keep, I.base.slot, fun b ob e n hx => ?_, I.base.there, fun b xs e => ?_, fun b ob x e => ?_, fun b ps e => ?_⟩, I.loc, I.cell, ?_, fun x c e => ?_, fun p hp => ?_, fun b u e => ?_, I.len⟩
  · rw [upd_ne (neS b ob e hx)]; exact I.base.free b ob e n hx
  · have q := I.base.tups b xs e
    rw [upd_ne (neN b _ q)]; exact q
  · have q := I.base.frzs b ob x e
    rw [upd_ne (neN b _ q)]; exact q
  · obtain ⟨m, q⟩ := I.base.tbls b ps e
    exact ⟨m, by rw [upd_ne (neN b _ q)]; exact q⟩
  · rw [upd_ne (Ne.symm f1)]; exact I.free
  · rw [upd_ne (f4 x c e)]; exact I.freeC x c e
  · obtain ⟨e, n, r⟩ := I.pin p hp
    exact ⟨e, by rw [upd_ne (f5 p hp)]; exact n, r⟩
  · by_cases hb : b = a
    · subst hb
      rw [upd_same] at e
      cases e
      exact new
    · rw [upd_ne hb] at e
      exact (I.hok b u e).stay (fun c v _ q => q) (fun c q => by rw [upd_ne (neN c _ q)]; exact q) fun c xs q => by rw [upd_ne (neN c _ q)]; exact q
abbrev EN : XK := fun _ _ _ => False
section
variable {X : Cx} {pins : List (Addr × Obj)} {σ : St} {H : Hp} {s : Shared} {k : Nat} {f : Addr} {fd : FuncData} {ps : List Str} {sp : Sp}
/-- a call f(u) from within built-in code -/
theorem call_in2 {v : V} {u : Value} {Q : VK} (F : FnOk X.prog X.w X.K X.mg X.base (CX X.prog X.w) k f fd ps sp) (hr : Room (k + 2) X.A) (hb : Binds X.K fd ps []) (hp : ps.length = 1) (I : Inv X pins σ H s) (r : RelV v u) (h : sp [v] H Q EN) :
    wpAny (model X.prog X.w) X.A.in1.in1 (call (.ref f) [u]) (EP X pins σ Q) (fun _ _ => False) s := by
  refine wpAny_call (codeAny_mono (F.run X.A.in1.in1 X.stack s H ⟨[u], []⟩ [u] [v] Q EN hr.in1.in1 I.env0.in1.in1 ?_ (.cons r .nil) h) fun r s' hq => ?_)
  · have := hb s [u] I.kIn (by rw [List.append_nil, hp]; rfl)
    rw [List.append_nil] at this
    exact this
  · cases r with
    | error e =>
      obtain ⟨_, _, _, _, _, _, _, _, _, _, _, _, z⟩ := hq
      exact z.elim
    | ok fl =>
      cases fl with
      | ret u => exact I.after hq
      | next => exact False.elim hq
      | brk => exact False.elim hq
      | cont => exact False.elim hq
/-- the keys so far -/
structure KI (X : Cx) (pins : List (Addr × Obj)) (σ : St) (a kS : Addr) (oa : Obj) (P : Nat → List V → Hp → Prop) (i : Nat) (s : Shared) : Prop where
  ex : ∃ H ks kA e, Inv X (pins ++ [(a, oa), (kS, seqObj "list" kA e)]) σ H s ∧ FpOk X pins H a ∧ FpOk X pins H kS ∧ Vals ks kA.toList ∧ ks.length = i ∧ P i ks H
/-- sorted(xs, key=f): P tells of the keys so far -/
def rSortK (K : PySem.W.Frag) (f : Addr) (sp : Sp) : List V → List V → Hp → VK → Prop := fun xs zs H Q => ∃ (a : Addr) (vs : List V) (P : Nat → List V → Hp → Prop), xs = [.ref a] ∧ zs = [.ref f] ∧ SqL K H a vs ∧ P 0 [] H ∧
  (∀ i v ks H', vs[i]? = some v → P i ks H' → sp [v] H' (fun y H2 => P (i + 1) (ks ++ [y]) H2) EN) ∧
  ∀ ks H', P vs.length ks H' → ∃ kz : List PyData, DpAll K H' ks kz ∧ AllAlike kz ∧ PySem.W.Sortable kz ∧ (∀ d, d ∈ kz → d.depth ≤ 60) ∧
    ∀ p, H' p = none → Q (.ref p) (upd H' p (.lst (((vs.zip kz).mergeSort (dataLe false (·.2))).map (·.1))))
end
theorem Vals.snoc {ks : List V} {us : List Value} {v : V} {u : Value} (h : Vals ks us) (r : RelV v u) : Vals (ks ++ [v]) (us ++ [u]) := h.append (.cons r .nil)
section
variable {X : Cx} {k : Nat} {f : Addr} {fd : FuncData} {ps : List Str} {sp : Sp}
theorem DpAll.len {K : PySem.W.Frag} {H : Hp} : ∀ {ks : List V} {kz : List PyData}, DpAll K H ks kz → ks.length = kz.length
  | _, _, .nil => rfl
  | _, _, .cons _ t => congrArg Nat.succ (DpAll.len t)
theorem cr_sortK (F : FnOk X.prog X.w X.K X.mg X.base (CX X.prog X.w) k f fd ps sp) (hr : Room (k + 2) X.A) (hb : Binds X.K fd ps []) (hp : ps.length = 1) : CallRK X (.builtin "sorted") ["key"] (rSortK X.K f sp) := by
  intro pins s σ H xs zs us ws Q I r rz h
  obtain ⟨l, vs, P, rfl, rfl, hs, p0, pstep, pend⟩ := h
  rw [Vals.ref1 r, Vals.ref1 rz]
  obtain ⟨its, rv, pl, hz⟩ := I.list hs
  have hzi : its.length ≤ sizeLine := by rw [← rv.length]; exact hz
  show wpAny _ _ (call (.builtin "sorted") [.ref l] [(Str.ofString "key", .ref f)]) _ _ _
  refine sorted_of_sort (vs := its) pl.isList hzi (ksk_s1 _ _) (fun _ => ksk_l1 _ _) fun E' => ?_
  rw [ksk_t1]
  generalize ha : s.heap.objs.size + 1 = a
  have hoa : (copyHeap s.heap its).get? a = some (seqObj "list" its.toArray 0) := by rw [← ha]; exact copyHeap_at s.heap its
  have old0 : ∀ b o, s.heap.get? b = some o → b ≠ a ∧ (copyHeap s.heap its).get? b = some o := fun b o e => ⟨Nat.ne_of_lt (by rw [← ha]; exact Nat.lt_succ_of_lt (Heap.lt_size e)), copyHeap_old e⟩
  generalize hch : copyHeap s.heap its = ch at *
  have hal : a < ch.objs.size := Heap.lt_size hoa
  obtain ⟨e1, ho1⟩ : ∃ e1, (ch.update a (Obj.mapSeq fun _ => (#[] : Array Value))).get? a = some (seqObj "list" #[] e1) := ⟨_, get?_update_seq hoa fun _ => #[]⟩
  generalize hkS : ((ch.update a (Obj.mapSeq fun _ => (#[] : Array Value))).push (seqObj "tuple" its.toArray 0)).objs.size = kS
  have hkS2 : kS = ch.objs.size + 1 := by rw [← hkS, size_push', Heap.size_update]
  unfold ksk_tree
  refine wpAny_bind (listItems_at hoa rfl ?_)
  refine wpAny_bind (listUpdate_at hoa rfl ?_ (by rw [List.size_toArray]; exact hzi) (Nat.zero_le _))
  refine wpAny_bind (seqEpoch_at ho1 rfl ?_)
  refine wpAny_bind (wpAny_newTuple ?_ (by show its.length ≤ _; exact hzi))
  refine wpAny_bind (wpAny_newList ?_ (Nat.zero_le _))
  refine wpAny_holding ?_
  have up1 := Heap.SameBut.update ch a (Obj.mapSeq fun _ => (#[] : Array Value))
  have oldA : ∀ b o, s.heap.get? b = some o → (((ch.update a (Obj.mapSeq fun _ => (#[] : Array Value))).push (seqObj "tuple" its.toArray 0)).push (seqObj "list" #[] 0)).get? b = some o := fun b o e =>
    Heap.get?_push_of_some _ (Heap.get?_push_of_some _ ((up1.2 b (old0 b o e).1).trans (old0 b o e).2))
  have I3 : Inv X pins σ H { s with heap := ((ch.update a (Obj.mapSeq fun _ => (#[] : Array Value))).push (seqObj "tuple" its.toArray 0)).push (seqObj "list" #[] 0) } := I.kept (t' := s.toks) oldA
  have sza : s.heap.objs.size ≤ a := by omega
  have szk : s.heap.objs.size ≤ kS := by
    rw [hkS2]
    omega
  have fa : FpOk X pins H a := I.fpOk sza (I.hok.fresh sza)
  have fk : FpOk X pins H kS := I.fpOk szk (I.hok.fresh szk)
  have hak : kS ≠ a := by omega
  have g3a : (((ch.update a (Obj.mapSeq fun _ => (#[] : Array Value))).push (seqObj "tuple" its.toArray 0)).push (seqObj "list" #[] 0)).get? a = some (seqObj "list" #[] e1) := Heap.get?_push_of_some _ (Heap.get?_push_of_some _ ho1)
  have g3k : (((ch.update a (Obj.mapSeq fun _ => (#[] : Array Value))).push (seqObj "tuple" its.toArray 0)).push (seqObj "list" #[] 0)).get? kS = some (seqObj "list" #[] 0) := by rw [← hkS]; exact Heap.get?_push_size _ rfl
  generalize hh3 : (((ch.update a (Obj.mapSeq fun _ => (#[] : Array Value))).push (seqObj "tuple" its.toArray 0)).push (seqObj "list" #[] 0)) = h3 at *
  have repin : ∀ {H' : Hp} {s' : Shared} {kA : Array Value} {e : Nat}, Inv X pins σ H' s' → FpOk X pins H' a → FpOk X pins H' kS → s'.heap.get? a = some (seqObj "list" #[] e1) → s'.heap.get? kS = some (seqObj "list" kA e) →
      Inv X (pins ++ [(a, seqObj "list" #[] e1), (kS, seqObj "list" kA e)]) σ H' s' := fun {H' s' kA e} I' fa fk ga gk => I'.pins_of fun p hp => by
    rcases List.mem_append.mp hp with z | z
    · exact I'.pin p (List.mem_append_right _ z)
    · rcases List.mem_cons.mp z with rfl | z
      · exact ⟨ga, fa.1, fa.2.1, fa.2.2.1, fun v => by intro z; cases z⟩
      · rw [List.mem_singleton.mp z]
        exact ⟨gk, fk.1, fk.2.1, fk.2.2.1, fun v => by intro z; cases z⟩
  have pinA : ∀ {H' : Hp} {s' : Shared} {kA : Array Value} {e : Nat}, Inv X (pins ++ [(a, seqObj "list" #[] e1), (kS, seqObj "list" kA e)]) σ H' s' → (s'.heap.get? a = some (seqObj "list" #[] e1) ∧ H' a = none) ∧ s'.heap.get? kS = some (seqObj "list" kA e) ∧ H' kS = none := fun {H' s' kA e} I' => by
    have q1 := I'.pin (a, seqObj "list" #[] e1) (by simp)
    have q2 := I'.pin (kS, seqObj "list" kA e) (by simp)
    exact ⟨⟨q1.1, q1.2.1⟩, q2.1, q2.2.1⟩
  unfold ksk_rest
  refine wpAny_bind (wpAny_rule ?_)
  first
    | rw [List.forIn_toArray]
    | (rw [← Array.forIn_toList]; simp only [List.toList_toArray])
    | rw [← Array.forIn_toList]
  refine wpAny_bind (ksk_fold (fun i s' => KI X pins σ a kS (seqObj "list" #[] e1) P i s') its 0 _ ⟨H, [], #[], 0, repin I3 fa fk g3a g3k, fa, fk, .nil, rfl, p0⟩ ?step ?done)
  case step =>
    rintro j x s' hx ⟨H', ks, kA, e, I', fa', fk', rk, hl, hP⟩
    rw [Nat.zero_add] at hl hP ⊢
    have hj : j < its.length := (List.getElem?_eq_some_iff.mp hx).1
    have hjv : j < vs.length := by rw [rv.length]; exact hj
    obtain ⟨u, hu, ru⟩ := rv.get (List.getElem?_eq_getElem hjv)
    rw [hx] at hu
    cases hu
    have hsz : kA.size = j := by rw [← Array.length_toList, ← rk.length, hl]
    refine wpAny_bind (wpAny_attempt (wpAny_mono (call_in2 F hr hb hp I' ru (pstep j _ ks H' (List.getElem?_eq_getElem hjv) hP)) (fun v s'' he => ?_) fun _ _ hF => hF.elim))
    obtain ⟨y, H2, I2, ry, hP2⟩ := he
    obtain ⟨⟨ga, na⟩, gk, nk⟩ := pinA I2
    try dsimp only
    have s1 := Heap.SameBut.update s''.heap kS (Obj.mapSeq (·.push v))
    obtain ⟨c2, hc2⟩ : ∃ c2, (s''.heap.update kS (Obj.mapSeq (·.push v))).get? kS = some (seqObj "list" (kA.push v) c2) := ⟨_, get?_update_seq gk (·.push v)⟩
    have gk' : s''.heap.get? ((ch.update a (Obj.mapSeq fun _ => (#[] : Array Value))).push (seqObj "tuple" its.toArray 0)).objs.size = some (seqObj "list" kA e) := by rw [hkS]; exact gk
    have lsz : kA.size ≤ sizeLine := by omega
    have lsz2 : (kA.push v).size ≤ sizeLine + 1 := by rw [Array.size_push]; omega
    refine wpAny_bind (listUpdate_at gk' rfl ?_ lsz lsz2)
    rw [hkS]
    have I4 : Inv X pins σ H2 s'' := I2.unpinned
    have I5 : Inv X pins σ H2 { s'' with heap := s''.heap.update kS (Obj.mapSeq (·.push v)) } := I4.turnedL (ch := [kS]) (t' := s''.toks) (fun b o hb e => (s1.2 b (fun z => hb (by rw [z]; exact List.mem_singleton_self _))).trans e) (fun b hb => by
      rw [List.mem_singleton.mp hb]
      exact ⟨nk, fk'.2⟩)
    refine wpAny_pure ⟨rfl, H2, ks ++ [y], kA.push v, c2, repin I5 ⟨na, fa'.2⟩ ⟨nk, fk'.2⟩ ((s1.2 a hak.symm).trans ga) hc2, ⟨na, fa'.2⟩, ⟨nk, fk'.2⟩, ?_, by rw [List.length_append, hl]; rfl, hP2⟩
    rw [Array.toList_push]
    exact rk.snoc ry
  case done =>
    rintro s' ⟨H', ks, kA, e, I', fa', fk', rk, hl, hP⟩
    rw [Nat.zero_add] at hl hP
    rw [← rv.length] at hl hP
    obtain ⟨⟨ga, na⟩, gk, nk⟩ := pinA I'
    obtain ⟨kz, hdp, hal, hsk, hdep, q⟩ := pend ks H' hP
    have hlz : kz.length = vs.length := by rw [← hdp.len, hl]
    obtain ⟨as, hra⟩ := Dp.readsAll I' kz ks kA.toList hdp rk
    have hk' : EachIs (fun v k => ∃ as, Reads s'.heap v k as) kA.toList kz := readsAll_each (fun d => d) (as := as) (by rw [List.map_id']; exact hra)
    have hsz : kA.size = its.length := by rw [← Array.length_toList, ← rk.length, hl, rv.length]
    try dsimp only
    have gk' : s'.heap.get? ((ch.update a (Obj.mapSeq fun _ => (#[] : Array Value))).push (seqObj "tuple" its.toArray 0)).objs.size = some (seqObj "list" kA e) := by rw [hkS]; exact gk
    refine wpAny_bind (listItems_at gk' rfl ?_)
    rw [hkS]
    obtain ⟨G, hG1, hG2⟩ := restrict s'.heap fun b => b != kS
    have kp : KeepsBut a G s'.heap := fun b o hb e => by
      by_cases hbk : b = kS
      · rw [hG2 b (by rw [hbk]; simp)] at e
        cases e
      · rw [← hG1 b (by simpa using hbk)]
        exact e
    have hun : ∀ d, d ∈ kz → X.A.in1.in1.units + d.depth < cLine := fun d hd => by
      have h1 := hdep d hd
      have h2 := hr.un
      show X.A.units + 1 + 1 + _ < _
      omega
    refine keyH_end (κ := dataKind s'.heap kz) (h₁ := G) kp (hG2 kS (by simp)) gk ga hak (SortsAt.data (s := s') hk' hal hsk hun) hsz hzi fun h' tk c k3 n3 => ⟨rfl, ?_⟩
    have hcut : (vs.zip kz).map (·.1) = vs := List.map_fst_zip (by omega)
    have hcut2 : (vs.zip kz).map (·.2) = kz := List.map_snd_zip (by omega)
    have hko : KeyedOut false ((vs.zip kz).map (·.2)) its (sortVals (dataKind s'.heap kz) false kA.toList its) := by
      rw [hcut2]
      exact ⟨s'.heap, kA.toList, hal, rfl, hk'⟩
    have hR : EachIs (fun (u : Value) (b : V × PyData) => RelV b.1 u) its (vs.zip kz) := vals_each (by rw [hcut]; exact rv) fun b u _ r => r
    have hout := each_vals (keyedOut_each (fun b : V × PyData => b.2) hko hR)
    have I6 : Inv X pins σ H' { s' with heap := h', toks := tk } := (I'.unpinned).turnedL (ch := [a, kS]) (fun b o hb e => k3 b o (fun z => hb (by simp [z])) (by rw [hG1 b (by simpa using fun z => hb (by simp [z]))]; exact e)) (fun b hb => by
      rcases List.mem_cons.mp hb with rfl | hb
      · exact ⟨na, fa'.2⟩
      · rw [List.mem_singleton.mp hb]
        exact ⟨nk, fk'.2⟩)
    have hle : (((vs.zip kz).mergeSort (dataLe false (·.2))).map (·.1)).length ≤ sizeLine := by
      rw [List.length_map, List.length_mergeSort, List.length_zip, hlz, Nat.min_self]
      exact hz
    exact ⟨.ref a, _, I6.adopt (o := .lst (((vs.zip kz).mergeSort (dataLe false (·.2))).map (·.1))) ⟨na, fa'.2⟩ ⟨hle, _, c, hout, n3⟩, rfl, q a na⟩
end
end L2

set_option Elab.async false
set_option linter.all false
set_option maxRecDepth 100000
set_option maxHeartbeats 2000000
/-! Dn20: sorted(xs, key=f), by the store -/
namespace Dn
open PySem PySem.Spec PyProof.Rows L2 PySem.W
/-- the keys, by a def that changes nothing -/
def keysD (den : Den) : List D → Option (List D)
  | [] => some []
  | d :: r => match pcall 1 den [d] [] with
    | .ok k _ => (keysD den r).map (k :: ·)
    | _ => none
def sortBy (ds kd : List D) : List D := ((ds.zip kd).mergeSort (dataLe false fun t => t.2.pd)).map (·.1)
def sortKV (den : Den) (x : D) (S : Sto) : RE D := match seqL S x with
  | some ds => (match keysD den ds with
    | some kd => if sortOk kd = true then .ok (.lst (sortBy ds kd)) S else .fail
    | none => .fail)
  | none => .fail
def dSortK (den : Den) (a : DE D) : DE D := fun env S => (a env S).bind fun x S1 => sortKV den x S1
section
variable {K : PySem.W.Frag} {mg : Bk} {g g' : Gh} {S : Sto} {H H' : Hp} {W : WX} {σ : L2.St}
theorem zip_same : ∀ {ds kd : List D} {vs : List V}, Reps K mg g ds vs → ds.length = kd.length → (vs.zip (ds.zip kd)).map (·.2) = ds.zip kd ∧ vs.zip (kd.map D.pd) = (vs.zip (ds.zip kd)).map (fun t => (t.1, t.2.2.pd)) ∧ ∀ t ∈ vs.zip (ds.zip kd), Rep K mg g t.2.1 t.1
  | _, [], _, .nil, _ => ⟨rfl, rfl, fun t h => by cases h⟩
  | d :: ds, k :: kd, v :: vs, .cons r t, h => by
    obtain ⟨a, b, c⟩ := zip_same (ds := ds) (kd := kd) (vs := vs) t (Nat.succ.inj h)
    refine ⟨congrArg ((d, k) :: ·) a, congrArg ((v, k.pd) :: ·) b, fun x hx => ?_⟩
    rcases List.mem_cons.mp (show x ∈ (v, d, k) :: vs.zip (ds.zip kd) from hx) with e | e
    · subst e; exact r
    · exact c x e
theorem sortBy_reps {ds kd : List D} {vs : List V} (r : Reps K mg g ds vs) (hl : ds.length = kd.length) : Reps K mg g (sortBy ds kd) (((vs.zip (kd.map D.pd)).mergeSort (dataLe false (·.2))).map (·.1)) := by
  obtain ⟨a, b, c⟩ := zip_same r hl
  have h1 : sortBy ds kd = ((vs.zip (ds.zip kd)).mergeSort (dataLe false fun t => t.2.2.pd)).map (fun t => t.2.1) := by
    have e := sort_maps (l := vs.zip (ds.zip kd)) (r := dataLe false fun t : V × D × D => t.2.2.pd) (s := dataLe false fun t : D × D => t.2.pd) (fun t : V × D × D => t.2) fun a _ b _ => rfl
    rw [a] at e
    unfold sortBy
    rw [← e, List.map_map]
    rfl
  have h2 : ((vs.zip (kd.map D.pd)).mergeSort (dataLe false (·.2))).map (·.1) = ((vs.zip (ds.zip kd)).mergeSort (dataLe false fun t => t.2.2.pd)).map (·.1) := by
    rw [b, ← sort_maps (r := dataLe false fun t : V × D × D => t.2.2.pd) (fun t : V × D × D => (t.1, t.2.2.pd)) fun a _ b _ => rfl, List.map_map]
    rfl
  rw [h1, h2]
  have pm := List.mergeSort_perm (vs.zip (ds.zip kd)) (dataLe false fun t => t.2.2.pd)
  have all : ∀ t, t ∈ (vs.zip (ds.zip kd)).mergeSort (dataLe false fun t => t.2.2.pd) → Rep K mg g t.2.1 t.1 := fun t ht => c t (pm.mem_iff.mp ht)
  generalize (vs.zip (ds.zip kd)).mergeSort (dataLe false fun t => t.2.2.pd) = l at all
  clear pm h1 h2 a b c
  induction l with
  | nil => exact .nil
  | cons t l ih => exact .cons (all t List.mem_cons_self) (ih fun t' ht => all t' (List.mem_cons_of_mem _ ht))
theorem keysD_len {den : Den} : ∀ {ds kd : List D}, keysD den ds = some kd → ds.length = kd.length
  | [], kd, h => by cases h; rfl
  | d :: r, kd, h => by
    unfold keysD at h
    split at h
    · cases q : keysD den r with
      | none => rw [q] at h; cases h
      | some t =>
        rw [q] at h
        cases h
        exact congrArg Nat.succ (keysD_len q)
    · cases h
theorem keysD_at {den : Den} : ∀ {ds kd : List D} {i : Nat} {d : D}, keysD den ds = some kd → ds[i]? = some d → ∃ k, kd[i]? = some k ∧ ∃ S, pcall 1 den [d] [] = .ok k S
  | [], kd, i, d, h, hi => by simp at hi
  | e :: r, kd, i, d, h, hi => by
    unfold keysD at h
    split at h
    · rename_i k S hk
      cases q : keysD den r with
      | none => rw [q] at h; cases h
      | some t =>
        rw [q] at h
        cases h
        cases i with
        | zero => cases hi; exact ⟨k, rfl, S, hk⟩
        | succ i =>
          obtain ⟨k', h1, h2⟩ := keysD_at (i := i) q (by simpa using hi)
          exact ⟨k', by simpa using h1, h2⟩
    · cases h
theorem pcall_any {n : Nat} {den : Den} {ds : List D} {S S' S1 : Sto} {d : D} (h : pcall n den ds S = .ok d S') : pcall n den ds S1 = .ok d S1 := by
  unfold pcall at h ⊢
  split at h
  · rename_i hc
    rw [if_pos hc]
    split at h
    · rename_i d' _ _
      split at h
      · rename_i hn
        cases h
        rw [if_pos hn]
      · cases h
    · cases h
    · cases h
  · cases h
theorem pys_all : ∀ {ds : List D}, (∀ d ∈ ds, d.py.isSome = true) → pys ds = some (ds.map D.pd)
  | [], _ => rfl
  | d :: ds, h => by
    obtain ⟨p, hp⟩ := Option.isSome_iff_exists.mp (h d List.mem_cons_self)
    unfold pys
    rw [hp, pys_all fun d hd => h d (List.mem_cons_of_mem _ hd)]
    show some (p :: ds.map D.pd) = some (d.pd :: ds.map D.pd)
    unfold D.pd
    rw [hp]
    rfl
theorem Reps.snoc {ds : List D} {vs : List V} {d : D} {v : V} (r : Reps K mg g ds vs) (h : Rep K mg g d v) : Reps K mg g (ds ++ [d]) (vs ++ [v]) := by
  induction ds generalizing vs with
  | nil => cases r; exact .cons h .nil
  | cons e t ih => cases r with | cons r1 r2 => exact .cons r1 (ih r2)
/-- what sortOk tells -/
theorem sortOk_of {kd : List D} (h : sortOk kd = true) : (∀ d ∈ kd, d.py.isSome = true ∧ d.pd.depth ≤ 60) ∧ AllAlike (kd.map D.pd) ∧ PySem.W.Sortable (kd.map D.pd) := by
  unfold sortOk at h
  rw [Bool.and_eq_true, Bool.and_eq_true] at h
  obtain ⟨h1, h2, h3⟩ := h
  rw [List.all_eq_true] at h1 h2
  refine ⟨fun d hd => ?_, ?_, ?_⟩
  · have := h1 d hd
    rw [Bool.and_eq_true] at this
    exact ⟨this.1, of_decide_eq_true this.2⟩
  · intro d hd d' hd'
    obtain ⟨x, hx, rfl⟩ := List.mem_map.mp hd
    obtain ⟨y, hy, rfl⟩ := List.mem_map.mp hd'
    exact List.all_eq_true.mp (h2 x hx) y hy
  · rw [Bool.or_eq_true, List.all_eq_true, List.all_eq_true] at h3
    rcases h3 with h3 | h3
    · right
      intro d hd
      obtain ⟨x, hx, rfl⟩ := List.mem_map.mp hd
      have := h3 x hx
      refine ⟨fun e => ?_, fun xs e => ?_⟩
      · rw [e] at this; cases this
      · rw [e] at this; cases this
    · left
      intro d hd
      obtain ⟨x, hx, rfl⟩ := List.mem_map.mp hd
      have := h3 x hx
      unfold pairP at this
      split at this
      · rename_i y ys e
        exact ⟨y, ys, e⟩
      · cases this
theorem sortK_ok {f : Addr} {den : Den} {x : D} {v : V} {Q : VK} (ok : Ok K mg g S H) (r : Rep K mg g x v) (p : Post K mg W (Rep K mg) σ g H (sortKV den x S) Q) : rSortK K f (SpD K mg 1 den) [v] [.ref f] H Q := by
  unfold sortKV at p
  split at p
  case h_2 => exact p.elim
  rename_i ds hs
  split at p
  case h_2 => exact p.elim
  rename_i kd hk
  split at p
  case isFalse => exact p.elim
  rename_i hso
  obtain ⟨a, vs, rfl, hq, rq⟩ := seqL_of ok r hs
  obtain ⟨c1, c2, c3⟩ := sortOk_of hso
  have hlen := keysD_len hk
  refine ⟨a, vs, fun i ks H1 => ∃ g1, Ext g H g1 H1 ∧ Ok K mg g1 S H1 ∧ Reps K mg g1 (kd.take i) ks, rfl, rfl, hq, ⟨g, .refl _ _, ok, by rw [List.take_zero]; exact .nil⟩, fun i u ks H1 hu ⟨g1, e1, o1, r1⟩ => ?_, fun ks H1 ⟨g1, e1, o1, r1⟩ => ?_⟩
  · have hi : i < ds.length := by rw [rq.length]; exact (List.getElem?_eq_some_iff.mp hu).1
    obtain ⟨k, hki, S0, hp⟩ := keysD_at hk (List.getElem?_eq_getElem hi)
    obtain ⟨u', hu', ru⟩ := rq.get (List.getElem?_eq_getElem hi)
    rw [hu] at hu'
    cases hu'
    refine spd_p (W := W0) (σ := σ) o1 (.cons (ru.mono e1.le) .nil) ?_
    rw [pcall_any hp]
    intro y g2 H2 e2 o2 r2
    refine ⟨g2, e1.trans e2, o2, ?_⟩
    have ek : kd.take (i + 1) = kd.take i ++ [k] := by rw [List.take_add_one, hki]; simp
    rw [ek]
    exact (r1.mono e2.le).snoc r2
  · have hkt : kd.take vs.length = kd := List.take_of_length_le (by rw [← rq.length, hlen]; exact Nat.le_refl _)
    rw [hkt] at r1
    refine ⟨kd.map D.pd, r1.dp o1.ex (pys_all fun d hd => (c1 d hd).1), c2, c3, fun d hd => ?_, fun p' hp' => ?_⟩
    · obtain ⟨y, hy, rfl⟩ := List.mem_map.mp hd
      exact (c1 y hy).2
    · obtain ⟨o2, e2⟩ := o1.newI (o := .lst (((vs.zip (kd.map D.pd)).mergeSort (dataLe false (·.2))).map (·.1))) hp'
      exact p.go (e1.trans e2) o2 (.lst upd_same ((sortBy_reps rq hlen).mono (e1.trans e2).le))
end
section
variable {X : Cx} {W : WX} {a : Expr} {da : DE D} {p pos kp fp : Pos} {j k : Nat} {x : Str} {ps : List Str} {den : Den}
theorem b_sortK (F : Fn1 X.prog X.w X.K X.mg X.base x ps k den) (hr : Room j X.A) (hk : k + 2 ≤ j) (hf : Gl X x) (hm : X.mg "sorted" = none) (hg : Gl X "sorted") (ha : PE X a (UE X.K X.bk W da)) (hp : ps.length = 1 := by rfl) (hdb : (x == ("__debug__" : Str)) = false := by decide)
    (h1 : starEach [a] X.env = (false, eval a X.env) :: starEach [] X.env := by rfl)
    (he : backTo pos (starEach [a] X.env) = (false, eval a X.env) :: backTo pos (starEach [] X.env) := by rfl) (hpl : (backTo pos (starEach [a] X.env)).any (·.1) = false := by rfl)
    (hall : (backToKw pos (keywordEach [⟨some "key", .Name x fp, kp⟩] X.env)).all (·.1.isSome) = true := by rfl) (hnone : (backToKw pos (keywordEach [⟨some "key", .Name x fp, kp⟩] X.env)).any (·.1.isNone) = false := by rfl) (hks : (backToKw pos (keywordEach [⟨some "key", .Name x fp, kp⟩] X.env)).filterMap (·.1) = [(Str.ofString "key")] := by rfl) :
    PE X (.Call (.Name "sorted" p) [a] [⟨some "key", .Name x fp, kp⟩] pos) (UE X.K X.bk W (dSortK den da)) := by
  obtain ⟨f, fd, hm', hkp, hb, F⟩ := F.ex
  have hn : PE X (.Name x fp) (UE X.K X.bk W (dC (.glo x))) := u_glob (u := .ref f) (v := .ref f) hf hm' rfl (fun g => .glo hm') hdb
  rw [hp] at F
  refine (pe_callBK (cr_sortK F (hr.mono hk) hb hp) hg hm boot_sorted (u_cons ha u_nil h1) (uk_cons hn uk_nil) (by decide) (by decide) he hpl hall hnone hks).imp fun σ H Q ⟨env, S, g, h, p⟩ => ?_
  have p' : Post X.K X.bk W (Rep X.K X.bk) σ g H ((da env S).bind fun x S1 => sortKV den x S1) Q := p
  obtain ⟨env1, S1, g1, h1, p1⟩ := one_arg (U.seq h p')
  refine ⟨env1, S1, g1, h1, p1.imp fun vs H1 ⟨v, ev, g2, S2, d, e2, h2, r2, p2⟩ => ?_⟩
  subst ev
  refine ⟨env, S2, g2, h2, ?_⟩
  show ∀ us g' H', Ext g2 H1 g' H' → Ok X.K X.bk g' S2 H' → Reps X.K X.bk g' [.glo x] us → rSortK X.K f (SpD X.K X.bk 1 den) [v] us H' Q
  intro us g' H' e' o' r'
  obtain ⟨u, rfl, ru⟩ := r'.one
  cases ru with
  | glo hx =>
    have e0 := hm'.symm.trans hx
    cases e0
    exact sortK_ok o' (r2.mono e'.le) (Post.ext p2 e')
end
end Dn

set_option Elab.async false
set_option linter.all false
set_option maxRecDepth 100000
set_option maxHeartbeats 2000000
/-! Dn21: repr of data; promises where no repr is under way -/
namespace L2
open PySem PySem.Spec PyProof.Rows PySem.W
/-- repr(x) of a tuple or a list of data -/
def rRepr (K : PySem.W.Frag) : List V → Hp → VK → Prop := fun xs H Q => ∃ (a : Addr) (d : PyData), xs = [.ref a] ∧ Dp K H (.ref a) d ∧ d.showable = true ∧ d.hasDict = false ∧ d.depth ≤ 60 ∧ d.shown.length ≤ sizeLine ∧ Q (.str d.shown) H
theorem cr_repr {X : Cx} (hg : X.A.guards = some []) (hu : X.A.units + 64 < cLine) : CallR X (.builtin "repr") (rRepr X.K) := by
  intro pins s σ H xs us Q I r h
  obtain ⟨a, d, rfl, hd, h1, h2, h3, h4, q⟩ := h
  rw [Vals.ref1 r]
  obtain ⟨as, hr⟩ := Dp.reads I d (.ref a) (.ref a) hd rfl
  exact repr_of_reads' (h₀ := s.heap) hr h1 (PyData.noDict_hsm h2) hg (by omega) (fun _ _ e => e) (fun h' u tk hk => ⟨.str _, H, I.kept hk, ⟨u, rfl⟩, q⟩) h4
/-- a promise for where no repr is under way -/
structure FnG (P : Program) (w : World) (K : PySem.W.Frag) (mg : Str → Option Value) (base : Heap) (CX : CXT) (k : Nat) (f : Addr) (fd : FuncData) (ps : List Str) (sp : Sp) : Prop where
  len : ∀ vs H Q E, sp vs H Q E → vs.length = ps.length
  run : ∀ (A : Around) (outer : List Env) (s : Shared) (H : Hp) (args : Args) (us : List Value) (vs : List V) (Q : VK) (E : XK), Room k A → A.guards = some [] → Env0 P w K mg base A outer s H → BindsTo s fd args (ps.zip us) → Vals vs us → sp vs H Q E →
    codeAny (model P w) A (.call (.ref f) args) (CR CX outer P w H s Q E) s
/-- a def of the text, where no repr is under way -/
theorem fnG_of {CX : CXT} {P : Program} {w : World} {K : PySem.W.Frag} {mg : Str → Option Value} {base : Heap} {k : Nat} {x qual : Str} {params : Arguments} {body : List Stmt} {scope : Scope} {dvs : List V} {kws : List (Str × V)} {f : Addr} {fd : FuncData}
    {N ps : List Str} {sp : Sp} (F : FunD K x qual params body scope dvs kws f fd) (S : FnScope N ps scope)
    (len : ∀ vs H Q E, sp vs H Q E → vs.length = ps.length)
    (hbody : ∀ (cdv : Value) (A : Around) (outer : List Env) (s : Shared) (H : Hp) (vs : List V) (Q : VK) (E : XK), Room k (A.deeper (envOfC qual scope s.heap.objs.size f cdv)) → (A.deeper (envOfC qual scope s.heap.objs.size f cdv)).guards = some [] → sp vs H Q E →
      ∃ t, PSs (cxOf CX P w K mg base N qual scope f cdv A outer s H E) body t ∧ t { nx := fun _ H' => Q .non H', rt := Q } (start N vs) H) :
    FnG P w K mg base CX (k + 1) f fd ps sp := by
  obtain ⟨oc, od, dV, kV, doc, pm, an, cdv, ct, osl, rfl, lk, hcd, _, _⟩ := F.ex
  refine ⟨len, fun A outer s H args us vs Q E hr hgd e0 hb r hsp => ?_⟩
  have hl := len _ _ _ _ hsp
  have KX : K.In s.heap := e0.mod.kin.keeps fun b o e => (e0.bs b o e).1
  have lim : s.heap.NoLimit := e0.mod.nolimit.keeps fun b o e => (e0.bs b o e).1
  have hkind : ∀ y ∈ ps.zip us, scope.names.lookup y.1 = some .local ∨ (scope.names.lookup y.1 = some .cell ∧ ((cellsFrom (s.heap.objs.size + 1) scope.names []).lookup y.1).isSome = true) := fun ⟨n, v⟩ hy => by
    rcases S.par n (List.of_mem_zip hy).1 with q | q
    · exact .inl q
    · exact .inr ⟨q, PySem.W.cellsFrom_some _ _ _ (.inl q)⟩
  refine codeAny_call_function hr.depth (KX _ _ lk) rfl S.co S.gen rfl (PySem.W.codeRec_of KX hcd) (hb _ _ _ _ ?_)
  refine wpAny_newFunctionEnv_cells S.kind hkind fun env he s1 x => ?_
  subst he
  refine ⟨lim.keeps x.toInCall.keep, codeAny_func ?_⟩
  obtain ⟨t, ht, hq⟩ := hbody cdv A outer s H vs Q E (hr.deeper _) hgd hsp
  have I : Inv (cxOf CX P w K mg base N qual scope f cdv A outer s H E) [] (start N vs) H s1 := inv_start S hr.hd e0 hl r x
  refine wpAny_mono (ht.run [] s1 (start N vs) H _ I hq) (fun fl s' hs => ?_) fun e s' hs => hs
  have fin : ∀ {σ' : St} {H' : Hp} {v : V} {u : Value}, Inv (cxOf CX P w K mg base N qual scope f cdv A outer s H E) [] σ' H' s' → RelV v u → Q v H' → CE outer P w H s Q u s' :=
    fun {σ' H' v u} J rv q => ⟨v, H', J.os, J.bare, J.base, J.hok, rv, q⟩
  cases fl with
  | ret u =>
    obtain ⟨v, σ', H', J, rv, q⟩ := hs
    exact fin J rv q
  | next =>
    obtain ⟨σ', H', J, q⟩ := hs
    exact fin (v := V.non) (u := Value.none) J rfl q
  | brk =>
    obtain ⟨_, _, _, q⟩ := hs
    exact False.elim q
  | cont =>
    obtain ⟨_, _, _, q⟩ := hs
    exact False.elim q
end L2

set_option Elab.async false
set_option linter.all false
set_option maxRecDepth 100000
set_option maxHeartbeats 2000000
/-! Dn22: repr by the store; guarded defs; the law's end -/
namespace L2
open PySem PySem.Spec PyProof.Rows PySem.W
section
variable {X : Cx} {CX : CXT} {k : Nat} {f : Addr} {fd : FuncData} {ps : List Str} {sp : Sp} {E : St → XK} {x : Str} {p pos : Pos} {e : Expr} {es : List Expr} {t : TA}
theorem run_fnGS {pins : List (Addr × Obj)} {σ : St} {H : Hp} {s : Shared} {Q : VK} {us : List Value} {vs : List V} (F : FnG X.prog X.w X.K X.mg X.base CX k f fd ps sp) (hr : Room k X.A) (hgd : X.A.guards = some []) (hb : Binds X.K fd ps []) (hx : PassesAt CX X σ (E σ))
    (I : Inv X pins σ H s) (r : Vals vs us) (h : sp vs H Q (E σ)) : wpAny (model X.prog X.w) X.A (call (.ref f) us) (EP X pins σ Q) X.xe s := by
  have hl : us.length = ps.length := by rw [← r.length]; exact F.len _ _ _ _ h
  have b := hb s us I.kIn (by rw [List.append_nil]; exact hl)
  rw [List.append_nil] at b
  refine wpAny_call (codeAny_mono (F.run X.A X.stack s H ⟨us, []⟩ us vs Q (E σ) hr hgd I.env0 b r h) fun r s' hq => ?_)
  cases r with
  | error e => exact hx pins H s e s' I hq
  | ok fl =>
    cases fl with
    | ret u => exact I.after hq
    | next => exact False.elim hq
    | brk => exact False.elim hq
    | cont => exact False.elim hq
theorem pe_callGS (F : FnG X.prog X.w X.K X.mg X.base CX k f fd ps sp) (hr : Room k X.A) (hgd : X.A.guards = some []) (hg : Gl X x) (hm : X.mg x = some (.ref f)) (hk : PySem.W.keepIn X.K (.ref f) = true) (hb : Binds X.K fd ps []) (hx : ∀ σ, PassesAt CX X σ (E σ))
    (ha : PA X (e :: es) t) (hdb : (x == ("__debug__" : Str)) = false := by decide) (he : starEach (e :: es) X.env = (false, eval e X.env) :: starEach es X.env := by rfl) (hpl : (backTo pos (starEach es X.env)).any (·.1) = false := by rfl) :
    PE X (.Call (.Name x p) (e :: es) [] pos) (fun σ H Q => t σ H fun vs H1 => sp vs H1 Q (E σ)) := by
  refine ⟨fun pins s σ H Q I h => ?_⟩
  refine wpAny_Call_Name_kw (ld_glob I hg hm ?_ hdb)
  refine PySem.W.callWith_K (h₀ := X.base) I.ok.mod.kin hk (thn (ha.run pos pins s σ H _ I h) fun us s1 ⟨vs, H1, I1, r, q⟩ => ⟨I1.kIn, ?_⟩) he hpl
  exact run_fnGS F hr hgd hb (hx σ) I1 r q
end
/-- the law's promise, at the heap behind the top (no repr is under way there) -/
theorem law_callG {P : Program} {w : World} {K : PySem.W.Frag} {mg mb : Str → Option Value} {CX : CXT} {k : Nat} {fa a : Addr} {fd : FuncData} {x : Str} {sp : Sp} {s₁ : Shared} {vs : List Value} {ns : List Int}
    (KX : K.In s₁.heap) (hns : s₁.heap.Ns mainGlobals mg) (hb : s₁.heap.Ns builtinsNs mb) (hbb : ∀ x : Str, x ≠ "__name__" → mb x = bootBuiltins x) (hlim : s₁.heap.NoLimit) (hg : s₁.gens = #[])
    (ha : s₁.heap.get? a = some { cls := .type "list", data := .seq vs.toArray }) (hi : IntsAre vs ns) (hl : ns.length ≤ sizeLine) (hr : Room k callerA)
    (F : ∀ base : Heap, K.In base → base.Ns mainGlobals mg → FnG P w K mg base CX k fa fd [x] sp) (hbind : ∀ (s : Shared) (u : Value), BindsTo s fd ⟨[u], []⟩ [(x, u)])
    (hsp : ∀ H : Hp, Only H → SqL K H a (ns.map V.int) → sp [.ref a] H (fun v _ => v = .bl true) fun _ _ _ => False)
    (hCX : ∀ H e s', CX [] H s₁ (fun _ _ _ => False) e s' → False) :
    codeAny (model P w) callerA (.call (.ref fa) ⟨[.ref a], []⟩) (fun r s' => r = .ok (.ret (.bool true)) ∧ OldK s₁.heap s'.heap ∧ s'.os = s₁.os ∧ AllBare s'.gens) s₁ := by
  have rv := vals_ints hi
  have lenV := hi.length
  -- at most the script is followed
  have core : ∀ H : Hp, Only H → SqL K H a (ns.map V.int) → HOk P w H s₁.heap → (∀ b, H b ≠ none → b = a) → (H a ≠ none → K.lookup a = none) →
      codeAny (model P w) callerA (.call (.ref fa) ⟨[.ref a], []⟩) (fun r s' => r = .ok (.ret (.bool true)) ∧ OldK s₁.heap s'.heap ∧ s'.os = s₁.os ∧ AllBare s'.gens) s₁ := by
    intro H hO hS hok hA hK
    have free : ∀ {b : Addr}, b ≠ a → H b = none := fun {b} hb => by
      cases q : H b with
      | none => rfl
      | some u => exact absurd (hA b (by rw [q]; intro z; cases z)) hb
    have base_of : ∀ {b : Addr} {o : Obj}, s₁.heap.get? b = some o → H b = none → (hidT s₁.heap H).get? b = some o := fun e n => hidT_get e n
    have noD : ∀ {b : Addr} {o : Obj} {es : Array DictEntry} {ep : Nat}, s₁.heap.get? b = some o → o.data = .dict es ep → H b = none := fun {b o es ep} e d => free fun z => by
      rw [z, ha] at e
      cases e
      exact nomatch d
    have nsK : ∀ {b : Addr} {m : Str → Option Value}, s₁.heap.Ns b m → (hidT s₁.heap H).Ns b m := fun {b m} ⟨o, es, ep, e, d, r⟩ => ⟨o, es, ep, base_of e (noD e d), d, r⟩
    have hKb : K.In (hidT s₁.heap H) := fun b o e => base_of (KX b o e) (by
      cases q : H b with
      | none => rfl
      | some u =>
        have e' : b = a := hA b (by rw [q]; intro z; cases z)
        subst e'
        rw [hK (by rw [q]; intro z; cases z)] at e
        cases e)
    have hM : Mod K mg (hidT s₁.heap H) := ⟨hKb, nsK hns, ⟨mb, nsK hb, hbb⟩, let ⟨mc, h1, h2⟩ := hlim; ⟨mc, nsK h1, h2⟩⟩
    have e0 : Env0 P w K mg (hidT s₁.heap H) callerA [] s₁ H := ⟨rfl, hM, fun b o e => of_hidT e, Nat.le_of_eq (hidT_size _ _), trivial, fun b hb => absurd (show b ∈ ([] : List Addr) from hb) (by simp), hok, .of_eq hg⟩
    refine codeAny_mono ((F _ hKb (nsK hns)).run callerA [] s₁ H ⟨[.ref a], []⟩ [.ref a] [.ref a] _ _ hr rfl e0 (hbind s₁ (.ref a)) (.cons rfl .nil) (hsp H hO hS)) fun r s' h => ?_
    match r, h with
    | .error e, h => exact (hCX H e s' h).elim
    | .ok (.next), h => exact False.elim h
    | .ok (.brk), h => exact False.elim h
    | .ok (.cont), h => exact False.elim h
    | .ok (.ret u), ⟨v, H', os, bare, un, hok', r', q⟩ =>
      have q' : v = .bl true := q
      subst q'
      obtain rfl : u = Value.bool true := r'
      refine ⟨rfl, OldK.of_keep fun b o e => ?_, os, bare⟩
      cases q : H b with
      | none => exact un.keep b o e q (fun z => absurd (show b ∈ ([] : List Addr) from z) (by simp)) (by simp)
      | some u =>
        rcases hO b with z | ⟨ob, xs, z⟩
        · rw [q] at z; cases z
        · obtain ⟨e1, _⟩ := hok b _ z
          obtain ⟨e2, _⟩ := hok' b _ (un.frzs b ob _ z)
          rw [e] at e1; cases e1
          exact e2
  cases hk : K.lookup a with
  | some o =>
    have e := KX a o hk
    rw [ha] at e
    cases e
    exact core (fun _ => none) (fun _ => .inl rfl) (.inr ⟨_, vs.toArray, _, hk, rfl, rfl, rfl, by rw [List.size_toArray, lenV]; exact hl, by simpa using rv⟩) (fun b u z => nomatch (show (none : Option HO) = some u from z)) (fun b z => absurd rfl z) fun z => absurd rfl z
  | none =>
    refine core (upd (fun _ => none) a (.frz { cls := .type "list", data := .seq vs.toArray } (.lst (ns.map V.int)))) (fun b => ?_) (.inl (.inr ⟨{ cls := .type "list", data := .seq vs.toArray }, upd_same⟩)) (fun b u z => ?_) (fun b z => ?_) fun _ => hk
    · by_cases hb : b = a
      · rw [hb]; exact .inr ⟨_, _, upd_same⟩
      · exact .inl (upd_ne hb)
    · by_cases hb : b = a
      · subst hb
        rw [upd_same] at z
        cases z
        exact ⟨ha, by rw [List.length_map]; exact hl, vs, _, rv, ha⟩
      · rw [upd_ne hb] at z
        cases z
    · by_cases hb : b = a
      · exact hb
      · exact absurd (upd_ne hb) z
/-- a law's end -/
theorem walk_ofG {l : PySem.W.OpenLaw} {n k : Nat} {q : Program} {loose : List Str} {XP : (Str → Option Value) → Heap → Prop} {YP : World → Heap → Prop} {d : DefRec} {CX : CXT} {x : Str}
    (hn : l.most = some n) (hn2 : n ≤ sizeLine) (hdf : d.params.defaults = []) (hr : Room k callerA)
    (F : ∀ (w : World) (mg : Str → Option Value) (fa : Addr) (h : Heap), YP w h → h.Ns mainGlobals mg → mg d.name = some (.ref fa) →
      ∃ (K : PySem.W.Frag) (fd : FuncData) (sp : Sp), K.In h ∧ (∀ (s : Shared) (u : Value), BindsTo s fd ⟨[u], []⟩ [(x, u)]) ∧
        (∀ (H : Hp) (a : Addr) (ns : List Int), ns.length ≤ n → Only H → SqL K H a (ns.map V.int) → sp [.ref a] H (fun v _ => v = .bl true) fun _ _ _ => False) ∧
        ∀ base : Heap, K.In base → base.Ns mainGlobals mg → FnG l.prog w K mg base CX k fa fd [x] sp)
    (hCX : ∀ (H : Hp) (s : Shared) (e : Value) (s' : Shared), CX [] H s (fun _ _ _ => False) e s' → False) :
    PySem.W.WalkO q loose XP YP l.row.toRowW d [] (fun f vs => PySem.call f vs) := by
  refine Att.attach_call hn hdf fun w s₀ s₁ mg mb fa o pm cd doc a vs ns G Y ho hd hcd hmg hobj hints hlen hg => ?_
  obtain ⟨K, fd, sp, KX, hb, hsp, hF⟩ := F w mg fa _ Y G.T.g hmg
  exact law_callG KX G.T.g G.T.b G.T.builtins G.T.nolimit hg hobj hints (Nat.le_trans hlen hn2) hr hF hb (fun H hO hS => hsp H a ns hlen hO hS) fun H e s' => hCX H s₁ e s'
end L2
namespace Dn
open PySem PySem.Spec PyProof.Rows L2 PySem.W
def isCon : D → Bool
  | .tup _ => true
  | .lst _ => true
  | .frl _ => true
  | .ref _ => true
  | _ => false
def reprOk (d : PyData) : Bool := d.showable && (!d.hasDict && (decide (d.depth ≤ 60) && decide (d.shown.length ≤ LIM)))
def reprV (xs : List D) (S : Sto) : RE D := match xs with
  | [x] => if isCon x = true then (match pyS S x with
    | some d => if reprOk d = true then .ok (.str d.shown) S else .fail
    | none => .fail) else .fail
  | _ => .fail
section
variable {K : PySem.W.Frag} {mg : Bk} {g : Gh} {S : Sto} {H : Hp} {W : WX} {σ : L2.St}
theorem con_ref {d : D} {v : V} (r : Rep K mg g d v) (h : isCon d = true) : ∃ a, v = .ref a := by
  cases r with
  | tup _ _ => exact ⟨_, rfl⟩
  | lst _ _ => exact ⟨_, rfl⟩
  | frl _ _ => exact ⟨_, rfl⟩
  | ref _ => exact ⟨_, rfl⟩
  | _ => cases h
theorem cs_repr : CaS K mg (rRepr K) reprV := by
  intro W σ g S H xs vs Q ok r p
  unfold reprV at p
  split at p
  case h_2 => exact p.elim
  split at p
  case isFalse => exact p.elim
  rename_i hc
  split at p
  case h_2 => exact p.elim
  rename_i d hd
  split at p
  case isFalse => exact p.elim
  rename_i hr
  unfold reprOk at hr
  simp only [Bool.and_eq_true, Bool.not_eq_true', decide_eq_true_eq] at hr
  obtain ⟨h1, h2, h3, h4⟩ := hr
  obtain ⟨v, rfl, rv⟩ := r.one
  obtain ⟨a, rfl⟩ := con_ref rv hc
  rw [lim_eq] at h4
  exact ⟨a, d, rfl, dp_of ok rv hd, h1, h2, h3, h4, p.now ok (.str _)⟩
end
section
variable {X : Cx} {W : WX} {a : Expr} {pos p : Pos} {da : DE D} {j : Nat} {mg : Bk}
theorem b_repr (hgd : X.A.guards = some []) (hr : Room j X.A) (hm : X.mg "repr" = none) (hg : Gl X "repr") (ha : PE X a (UE X.K mg W da)) (h1 : starEach [a] X.env = (false, eval a X.env) :: starEach [] X.env := by rfl) : PE X (.Call (.Name "repr" p) [a] [] pos) (UE X.K mg W (dArg reprV (dCons da dNil))) :=
  u_callB (cr_repr hgd (hu64 hr)) cs_repr hg hm boot_repr (u_cons ha u_nil h1) (he := h1)
end
/-- a def's body is as told, where no repr is under way -/
theorem fnG_ok {P : Program} {w : World} {K : PySem.W.Frag} {mg : Str → Option Value} {base : Heap} {x qual : Str} {params : Arguments} {body : List Stmt} {scope : Scope} {dvs : List V} {kws : List (Str × V)} {f : Addr} {fd : FuncData} {N ps : List Str} {k : Nat} {db : DS} (F : FunD K x qual params body scope dvs kws f fd) (Sc : FnScope N ps scope)
    (hbody : ∀ (cdv : Value) (A : Around) (outer : List PySem.Env) (s : Shared) (H : Hp) (E : XK), Room k (A.deeper (envOfC qual scope s.heap.objs.size f cdv)) → (A.deeper (envOfC qual scope s.heap.objs.size f cdv)).guards = some [] →
      PSs (cxOf (L2.CX P w) P w K mg base N qual scope f cdv A outer s H E) body (US K ⟨mg, P, w⟩ (fun c d _ H' => E c d H') db)) : FnG P w K mg base (L2.CX P w) (k + 1) f fd ps (SpD K ⟨mg, P, w⟩ ps.length (fnD N.length db)) := by
  refine fnG_of F Sc (fun vs H Q E h => h.1) fun cdv A outer s H vs Q E hr hgd h => ⟨_, hbody cdv A outer s H E hr hgd, ?_⟩
  obtain ⟨hl, g, S, ds, ok, r, p⟩ := h
  refine ⟨_, S, g, ⟨rel_start r, ok⟩, ?_⟩
  unfold fnD at p
  cases q : db (ds.map some ++ List.replicate (N.length - ds.length) none) S with
  | fail => rw [q] at p; exact p
  | nx e1 S1 =>
    rw [q] at p
    exact fun σ' g' H' e' a' => p .non g' H' e' a'.ok .non
  | ret d S1 =>
    rw [q] at p
    exact fun v g' H' e' o' r' => p v g' H' e' o' r'
  | brk e1 S1 => rw [q] at p; exact p.elim
  | cnt e1 S1 => rw [q] at p; exact p.elim
  | exc x e1 S1 =>
    rw [q] at p
    exact fun cls dd σ' g' H' e' a' x' => p cls dd g' H' e' a'.ok x'
end Dn

set_option Elab.async false
set_option linter.all false
/-! Dn23: small things for the printer -/
namespace Dn
open PySem PySem.Spec PyProof.Rows L2
/-- the dict that a variable names -/
def pkVar (i : Nat) : Env → Sto → Option Nat := fun env _ => match env[i]? with
  | some (some (.ref n)) => some n
  | _ => none
end Dn

set_option Elab.async false
set_option linter.all false
set_option maxRecDepth 100000
/-! Dn24: the law's start; a hook with one Bool more -/
namespace Dn
open PySem PySem.Spec PyProof.Rows L2
theorem reps_ints {K : PySem.W.Frag} {mg : Bk} {g : Gh} : ∀ ns : List Int, Reps K mg g (ns.map .int) (ns.map V.int)
  | [] => .nil
  | n :: ns => .cons (.int n) (reps_ints ns)
/-- the script alone stands -/
theorem sp_start {K : PySem.W.Frag} {mg : Bk} {den : Den} {H : Hp} {a : Addr} {ns : List Int} (hS : SqL K H a (ns.map V.int)) (h : ∃ S', den [.frl (ns.map .int)] [] = .ok (.bl true) S') : SpD K mg 1 den [.ref a] H (fun v _ => v = .bl true) fun _ _ _ => False := by
  obtain ⟨S', h⟩ := h
  refine ⟨rfl, ⟨H, []⟩, [], [.frl (ns.map .int)], { ex := Ex.refl _, len := rfl, there := fun a h => (List.not_mem_nil h).elim, inj := List.nodup_nil, live := fun n o a h _ => by simp at h }, .cons (.frl hS (reps_ints ns)) .nil, ?_⟩
  rw [h]
  intro v g' H' _ _ r
  cases r
  rfl
abbrev AlE : Type := He.AlD × Bool
def obsE (fa : List He.Fa) (fn : List He.DefD) (ex : PySem.W.Frag → Bool) (K : PySem.W.Frag) : AlE := (He.obsD fa fn K, ex K)
def obsEG (n : Nat) (fa : List He.Fa) (fn : List He.DefD) (ex : PySem.W.Frag → Bool) (g : Addr → Option Obj) : AlE := obsE fa fn ex (He.frG g (He.asD g n))
def hookE (n : Nat) (fa : List He.Fa) (fn : List He.DefD) (ex : PySem.W.Frag → Bool) : PySem.W.Hook where
  α := AlE
  obs := fun s => obsEG n fa fn ex s.heap.get?
  val := fun _ => (He.valD fn, true)
  says := fun _ h => ∃ K : PySem.W.Frag, K.In h ∧ He.SaysD fa fn K ∧ ex K = true
  of := fun _ _ e => ⟨_, He.frG_in, congrArg (fun z : AlE => z.1) e, congrArg (fun z : AlE => z.2) e⟩
  keeps := fun _ _ _ ⟨K, hK, c⟩ k => ⟨K, PySem.W.Frag.In.keeps hK k, c⟩
theorem obsEG_eq {n : Nat} {fa : List He.Fa} {fn : List He.DefD} {ex : PySem.W.Frag → Bool} {g : Addr → Option Obj} {s : Shared} (h : ∀ a, g a = s.heap.get? a) : obsEG n fa fn ex g = (hookE n fa fn ex).obs s := by
  have e : g = s.heap.get? := funext h
  rw [e] <;> rfl
end Dn
namespace L2
open PySem PySem.Spec PyProof.Rows Dn
/-- a law's end, the air of each World its own -/
theorem walk_ofGW {l : PySem.W.OpenLaw} {n k : Nat} {q : Program} {loose : List Str} {XP : (Str → Option Value) → Heap → Prop} {YP : World → Heap → Prop} {d : DefRec} {x : Str}
    (hn : l.most = some n) (hn2 : n ≤ sizeLine) (hdf : d.params.defaults = []) (hr : Room k callerA)
    (F : ∀ (w : World) (mg : Str → Option Value) (fa : Addr) (h : Heap), YP w h → h.Ns mainGlobals mg → mg d.name = some (.ref fa) →
      ∃ (K : PySem.W.Frag) (fd : FuncData) (sp : Sp), K.In h ∧ (∀ (s : Shared) (u : Value), BindsTo s fd ⟨[u], []⟩ [(x, u)]) ∧
        (∀ (H : Hp) (a : Addr) (ns : List Int), ns.length ≤ n → Only H → SqL K H a (ns.map V.int) → sp [.ref a] H (fun v _ => v = .bl true) fun _ _ _ => False) ∧
        ∀ base : Heap, K.In base → base.Ns mainGlobals mg → FnG l.prog w K mg base (L2.CX l.prog w) k fa fd [x] sp) :
    PySem.W.WalkO q loose XP YP l.row.toRowW d [] (fun f vs => PySem.call f vs) := by
  refine Att.attach_call hn hdf fun w s₀ s₁ mg mb fa o pm cd doc a vs ns G Y ho hd hcd hmg hobj hints hlen hg => ?_
  obtain ⟨K, fd, sp, KX, hb, hsp, hF⟩ := F w mg fa _ Y G.T.g hmg
  refine law_callG KX G.T.g G.T.b G.T.builtins G.T.nolimit hg hobj hints (Nat.le_trans hlen hn2) hr hF hb (fun H hO hS => hsp H a ns hlen hO hS) fun H e s' hc => ?_
  obtain ⟨_, _, _, _, _, _, _, _, _, _, _, _, hE⟩ := hc
  exact hE
end L2

set_option Elab.async false
set_option linter.all false
set_option maxRecDepth 100000
set_option maxHeartbeats 2000000
namespace T55
open PySem PySem.Spec PyProof.Rows L2 Dn
def top (i : Nat) : Stmt := PySem.Challenge.pw_wordferry_k55_whole_wills.main.body.getD i (.Pass ⟨0, 0, 0, 0⟩)
def c_RIGHT : D := (.tup [.bl true, .bl true, .bl false, .bl false, .bl false, .bl true])
abbrev s__law_box : Stmt := top 53
abbrev s_is_among : Stmt := top 17
abbrev s_is_number : Stmt := top 28
abbrev s_need_window : Stmt := top 29
abbrev s_House___init__ : Stmt := inClass (top 51) 0
abbrev s_is_lettered : Stmt := top 19
abbrev s_is_caller : Stmt := top 20
abbrev s_need_caller : Stmt := top 23
abbrev s_is_level : Stmt := top 38
abbrev s_is_name : Stmt := top 39
abbrev s_is_word : Stmt := top 21
abbrev s_is_quality : Stmt := top 22
abbrev s_is_truth : Stmt := top 18
abbrev s_is_will : Stmt := top 46
abbrev s_need_will : Stmt := top 47
abbrev s_House_need_on : Stmt := inClass (top 51) 11
abbrev s_House_off : Stmt := inClass (top 51) 20
abbrev s_does_match : Stmt := top 43
abbrev s_best_by : Stmt := top 44
abbrev s_House_worded : Stmt := inClass (top 51) 12
abbrev s_free_of : Stmt := top 30
abbrev s_offer : Stmt := top 31
abbrev s_House_drained : Stmt := inClass (top 51) 13
abbrev s_House_given_to : Stmt := inClass (top 51) 14
abbrev s_House_accept : Stmt := inClass (top 51) 15
abbrev s_House_cut : Stmt := inClass (top 51) 22
abbrev s_Session___init__ : Stmt := inClass (top 50) 0
abbrev s_sent_again : Stmt := top 32
abbrev s_House_come : Stmt := inClass (top 51) 16
abbrev s_is_filter : Stmt := top 40
abbrev s_need_filter : Stmt := top 41
abbrev s_need_quality : Stmt := top 24
abbrev s_order_of : Stmt := top 42
abbrev s_House_kept_names : Stmt := inClass (top 51) 10
abbrev s_House_wants : Stmt := inClass (top 51) 18
abbrev s__law_more : Stmt := top 54
abbrev s__law_take : Stmt := top 55
abbrev s__law_level : Stmt := top 56
abbrev s__law_topic : Stmt := top 57
abbrev s__law_text : Stmt := top 58
abbrev s__law_will : Stmt := top 59
abbrev s_House_goes : Stmt := inClass (top 51) 21
abbrev s_House_accepted : Stmt := inClass (top 51) 6
abbrev s_House_on : Stmt := inClass (top 51) 7
abbrev s__law_words_to : Stmt := top 60
abbrev s_House_kept : Stmt := inClass (top 51) 8
abbrev s_law : Stmt := top 61
def dd_House___init__ : He.DefD := ⟨("House", some "__init__"), "__init__", "House.__init__", defArgs s_House___init__, defBody s_House___init__, defScope s_House___init__, [], [("window", .int 2)]⟩
def dd_House_need_on : He.DefD := ⟨("House", some "need_on"), "need_on", "House.need_on", defArgs s_House_need_on, defBody s_House_need_on, defScope s_House_need_on, [], []⟩
def dd_House_off : He.DefD := ⟨("House", some "off"), "off", "House.off", defArgs s_House_off, defBody s_House_off, defScope s_House_off, [], []⟩
def dd_House_worded : He.DefD := ⟨("House", some "worded"), "worded", "House.worded", defArgs s_House_worded, defBody s_House_worded, defScope s_House_worded, [], []⟩
def dd_House_drained : He.DefD := ⟨("House", some "drained"), "drained", "House.drained", defArgs s_House_drained, defBody s_House_drained, defScope s_House_drained, [], []⟩
def dd_House_given_to : He.DefD := ⟨("House", some "given_to"), "given_to", "House.given_to", defArgs s_House_given_to, defBody s_House_given_to, defScope s_House_given_to, [], []⟩
def dd_House_accept : He.DefD := ⟨("House", some "accept"), "accept", "House.accept", defArgs s_House_accept, defBody s_House_accept, defScope s_House_accept, [], []⟩
def dd_House_cut : He.DefD := ⟨("House", some "cut"), "cut", "House.cut", defArgs s_House_cut, defBody s_House_cut, defScope s_House_cut, [], []⟩
def dd_Session___init__ : He.DefD := ⟨("Session", some "__init__"), "__init__", "Session.__init__", defArgs s_Session___init__, defBody s_Session___init__, defScope s_Session___init__, [], []⟩
def dd_House_come : He.DefD := ⟨("House", some "come"), "come", "House.come", defArgs s_House_come, defBody s_House_come, defScope s_House_come, [], [("clean", .bl true), ("will", .non)]⟩
def dd_House_kept_names : He.DefD := ⟨("House", some "kept_names"), "kept_names", "House.kept_names", defArgs s_House_kept_names, defBody s_House_kept_names, defScope s_House_kept_names, [], []⟩
def dd_House_wants : He.DefD := ⟨("House", some "wants"), "wants", "House.wants", defArgs s_House_wants, defBody s_House_wants, defScope s_House_wants, [], [("quality", .int 0)]⟩
def dd_House_goes : He.DefD := ⟨("House", some "goes"), "goes", "House.goes", defArgs s_House_goes, defBody s_House_goes, defScope s_House_goes, [], []⟩
def dd_House_accepted : He.DefD := ⟨("House", some "accepted"), "accepted", "House.accepted", defArgs s_House_accepted, defBody s_House_accepted, defScope s_House_accepted, [], []⟩
def dd_House_on : He.DefD := ⟨("House", some "on"), "on", "House.on", defArgs s_House_on, defBody s_House_on, defScope s_House_on, [], []⟩
def dd_House_kept : He.DefD := ⟨("House", some "kept"), "kept", "House.kept", defArgs s_House_kept, defBody s_House_kept, defScope s_House_kept, [], []⟩
def gD_House___init___1_window : List D → List D → List D := fun a c => (fun (b : List D) => a ++ c) []
theorem bd_House___init___1_window {K : PySem.W.Frag} {mg : Bk} (f : Addr) (fd : FuncData) (F : FunD K dd_House___init__.name dd_House___init__.qual dd_House___init__.params dd_House___init__.body dd_House___init__.scope (dd_House___init__.dvs K) (dd_House___init__.kws K) f fd) : Bd K mg fd ["self", "window"] 1 ["window"] gD_House___init___1_window :=
  Bd.kw (n := 1) F ["window"] [] [] (fun {α} a b c => a ++ c) (by intro z; cases z) (by intro q hq; simpa [dd_House___init__, He.DefD.kws, He.Dv.v] using hq) (fun r1 r2 r3 => r1.append r3) (fun r1 r2 r3 => r1.append r3) (fun _ => .nil) (fun D doc pm an cdv ct us mv ws l1 l2 l3 => by
    match us, mv, ws, l1, l2, l3 with
    | [u0], [], [w0], _, _, _ => exact rfl)
def gD_House_come_2_ : List D → List D → List D := fun a c => (fun (b : List D) => a ++ b) [.bl true, .non]
theorem bd_House_come_2_ {K : PySem.W.Frag} {mg : Bk} (f : Addr) (fd : FuncData) (F : FunD K dd_House_come.name dd_House_come.qual dd_House_come.params dd_House_come.body dd_House_come.scope (dd_House_come.dvs K) (dd_House_come.kws K) f fd) : Bd K mg fd ["self", "caller", "clean", "will"] 2 [] gD_House_come_2_ :=
  Bd.kw (n := 2) F [] [("clean", .bl true), ("will", .non)] [.bl true, .non] (fun {α} a b c => a ++ b) (by intro z; cases z) (by intro q hq; simpa [dd_House_come, He.DefD.kws, He.Dv.v] using hq) (fun r1 r2 r3 => r1.append r2) (fun r1 r2 r3 => r1.append r2) (fun _ => .cons (.bl true) (.cons (.non) (.nil))) (fun D doc pm an cdv ct us mv ws l1 l2 l3 => by
    match us, mv, ws, l1, l2, l3 with
    | [u0, u1], [m0, m1], [], _, _, _ => exact ⟨_, _, _, _, _, _, rfl, rfl, _, _, _, _, _, _, rfl, rfl, rfl⟩)
def gD_House_wants_3_quality : List D → List D → List D := fun a c => (fun (b : List D) => a ++ c) []
theorem bd_House_wants_3_quality {K : PySem.W.Frag} {mg : Bk} (f : Addr) (fd : FuncData) (F : FunD K dd_House_wants.name dd_House_wants.qual dd_House_wants.params dd_House_wants.body dd_House_wants.scope (dd_House_wants.dvs K) (dd_House_wants.kws K) f fd) : Bd K mg fd ["self", "caller", "pattern", "quality"] 3 ["quality"] gD_House_wants_3_quality :=
  Bd.kw (n := 3) F ["quality"] [] [] (fun {α} a b c => a ++ c) (by intro z; cases z) (by intro q hq; simpa [dd_House_wants, He.DefD.kws, He.Dv.v] using hq) (fun r1 r2 r3 => r1.append r3) (fun r1 r2 r3 => r1.append r3) (fun _ => .nil) (fun D doc pm an cdv ct us mv ws l1 l2 l3 => by
    match us, mv, ws, l1, l2, l3 with
    | [u0, u1, u2], [], [w0], _, _, _ => exact rfl)
def gD_House_come_2_clean_will : List D → List D → List D := fun a c => (fun (b : List D) => a ++ c) []
theorem bd_House_come_2_clean_will {K : PySem.W.Frag} {mg : Bk} (f : Addr) (fd : FuncData) (F : FunD K dd_House_come.name dd_House_come.qual dd_House_come.params dd_House_come.body dd_House_come.scope (dd_House_come.dvs K) (dd_House_come.kws K) f fd) : Bd K mg fd ["self", "caller", "clean", "will"] 2 ["clean", "will"] gD_House_come_2_clean_will :=
  Bd.kw (n := 2) F ["clean", "will"] [] [] (fun {α} a b c => a ++ c) (by intro z; cases z) (by intro q hq; simpa [dd_House_come, He.DefD.kws, He.Dv.v] using hq) (fun r1 r2 r3 => r1.append r3) (fun r1 r2 r3 => r1.append r3) (fun _ => .nil) (fun D doc pm an cdv ct us mv ws l1 l2 l3 => by
    match us, mv, ws, l1, l2, l3 with
    | [u0, u1], [], [w0, w1], _, _, _ => exact rfl)
def gD_House_cut_2_ : List D → List D → List D := fun ds _ => ds
theorem bd_House_cut_2_ {K : PySem.W.Frag} {mg : Bk} (f : Addr) (fd : FuncData) (F : FunD K dd_House_cut.name dd_House_cut.qual dd_House_cut.params dd_House_cut.body dd_House_cut.scope (dd_House_cut.dvs K) (dd_House_cut.kws K) f fd) : Bd K mg fd ["self", "caller"] 2 [] gD_House_cut_2_ :=
  Bd.plain F rfl (fun kV doc pm an cdv ct us hl => by
    match us, hl with
    | [u0, u1], _ => exact rfl)
def gD_House_goes_2_ : List D → List D → List D := fun ds _ => ds
theorem bd_House_goes_2_ {K : PySem.W.Frag} {mg : Bk} (f : Addr) (fd : FuncData) (F : FunD K dd_House_goes.name dd_House_goes.qual dd_House_goes.params dd_House_goes.body dd_House_goes.scope (dd_House_goes.dvs K) (dd_House_goes.kws K) f fd) : Bd K mg fd ["self", "caller"] 2 [] gD_House_goes_2_ :=
  Bd.plain F rfl (fun kV doc pm an cdv ct us hl => by
    match us, hl with
    | [u0, u1], _ => exact rfl)
def gD_House_accepted_1_ : List D → List D → List D := fun ds _ => ds
theorem bd_House_accepted_1_ {K : PySem.W.Frag} {mg : Bk} (f : Addr) (fd : FuncData) (F : FunD K dd_House_accepted.name dd_House_accepted.qual dd_House_accepted.params dd_House_accepted.body dd_House_accepted.scope (dd_House_accepted.dvs K) (dd_House_accepted.kws K) f fd) : Bd K mg fd ["self"] 1 [] gD_House_accepted_1_ :=
  Bd.plain F rfl (fun kV doc pm an cdv ct us hl => by
    match us, hl with
    | [u0], _ => exact rfl)
def gD_House_on_1_ : List D → List D → List D := fun ds _ => ds
theorem bd_House_on_1_ {K : PySem.W.Frag} {mg : Bk} (f : Addr) (fd : FuncData) (F : FunD K dd_House_on.name dd_House_on.qual dd_House_on.params dd_House_on.body dd_House_on.scope (dd_House_on.dvs K) (dd_House_on.kws K) f fd) : Bd K mg fd ["self"] 1 [] gD_House_on_1_ :=
  Bd.plain F rfl (fun kV doc pm an cdv ct us hl => by
    match us, hl with
    | [u0], _ => exact rfl)
def gD_House_kept_1_ : List D → List D → List D := fun ds _ => ds
theorem bd_House_kept_1_ {K : PySem.W.Frag} {mg : Bk} (f : Addr) (fd : FuncData) (F : FunD K dd_House_kept.name dd_House_kept.qual dd_House_kept.params dd_House_kept.body dd_House_kept.scope (dd_House_kept.dvs K) (dd_House_kept.kws K) f fd) : Bd K mg fd ["self"] 1 [] gD_House_kept_1_ :=
  Bd.plain F rfl (fun kV doc pm an cdv ct us hl => by
    match us, hl with
    | [u0], _ => exact rfl)
def gD_Session___init___2_ : List D → List D → List D := fun ds _ => ds
theorem bd_Session___init___2_ {K : PySem.W.Frag} {mg : Bk} (f : Addr) (fd : FuncData) (F : FunD K dd_Session___init__.name dd_Session___init__.qual dd_Session___init__.params dd_Session___init__.body dd_Session___init__.scope (dd_Session___init__.dvs K) (dd_Session___init__.kws K) f fd) : Bd K mg fd ["self", "clean"] 2 [] gD_Session___init___2_ :=
  Bd.plain F rfl (fun kV doc pm an cdv ct us hl => by
    match us, hl with
    | [u0, u1], _ => exact rfl)
def gD_House_worded_3_ : List D → List D → List D := fun ds _ => ds
theorem bd_House_worded_3_ {K : PySem.W.Frag} {mg : Bk} (f : Addr) (fd : FuncData) (F : FunD K dd_House_worded.name dd_House_worded.qual dd_House_worded.params dd_House_worded.body dd_House_worded.scope (dd_House_worded.dvs K) (dd_House_worded.kws K) f fd) : Bd K mg fd ["self", "caller", "packets"] 3 [] gD_House_worded_3_ :=
  Bd.plain F rfl (fun kV doc pm an cdv ct us hl => by
    match us, hl with
    | [u0, u1, u2], _ => exact rfl)
def gD_House_drained_2_ : List D → List D → List D := fun ds _ => ds
theorem bd_House_drained_2_ {K : PySem.W.Frag} {mg : Bk} (f : Addr) (fd : FuncData) (F : FunD K dd_House_drained.name dd_House_drained.qual dd_House_drained.params dd_House_drained.body dd_House_drained.scope (dd_House_drained.dvs K) (dd_House_drained.kws K) f fd) : Bd K mg fd ["self", "caller"] 2 [] gD_House_drained_2_ :=
  Bd.plain F rfl (fun kV doc pm an cdv ct us hl => by
    match us, hl with
    | [u0, u1], _ => exact rfl)
def gD_House_need_on_2_ : List D → List D → List D := fun ds _ => ds
theorem bd_House_need_on_2_ {K : PySem.W.Frag} {mg : Bk} (f : Addr) (fd : FuncData) (F : FunD K dd_House_need_on.name dd_House_need_on.qual dd_House_need_on.params dd_House_need_on.body dd_House_need_on.scope (dd_House_need_on.dvs K) (dd_House_need_on.kws K) f fd) : Bd K mg fd ["self", "caller"] 2 [] gD_House_need_on_2_ :=
  Bd.plain F rfl (fun kV doc pm an cdv ct us hl => by
    match us, hl with
    | [u0, u1], _ => exact rfl)
def gD_House_off_2_ : List D → List D → List D := fun ds _ => ds
theorem bd_House_off_2_ {K : PySem.W.Frag} {mg : Bk} (f : Addr) (fd : FuncData) (F : FunD K dd_House_off.name dd_House_off.qual dd_House_off.params dd_House_off.body dd_House_off.scope (dd_House_off.dvs K) (dd_House_off.kws K) f fd) : Bd K mg fd ["self", "caller"] 2 [] gD_House_off_2_ :=
  Bd.plain F rfl (fun kV doc pm an cdv ct us hl => by
    match us, hl with
    | [u0, u1], _ => exact rfl)
def gD_House_accept_2_ : List D → List D → List D := fun ds _ => ds
theorem bd_House_accept_2_ {K : PySem.W.Frag} {mg : Bk} (f : Addr) (fd : FuncData) (F : FunD K dd_House_accept.name dd_House_accept.qual dd_House_accept.params dd_House_accept.body dd_House_accept.scope (dd_House_accept.dvs K) (dd_House_accept.kws K) f fd) : Bd K mg fd ["self", "row"] 2 [] gD_House_accept_2_ :=
  Bd.plain F rfl (fun kV doc pm an cdv ct us hl => by
    match us, hl with
    | [u0, u1], _ => exact rfl)
def gD_House_given_to_4_ : List D → List D → List D := fun ds _ => ds
theorem bd_House_given_to_4_ {K : PySem.W.Frag} {mg : Bk} (f : Addr) (fd : FuncData) (F : FunD K dd_House_given_to.name dd_House_given_to.qual dd_House_given_to.params dd_House_given_to.body dd_House_given_to.scope (dd_House_given_to.dvs K) (dd_House_given_to.kws K) f fd) : Bd K mg fd ["self", "caller", "number", "quality"] 4 [] gD_House_given_to_4_ :=
  Bd.plain F rfl (fun kV doc pm an cdv ct us hl => by
    match us, hl with
    | [u0, u1, u2, u3], _ => exact rfl)
def gD_House_kept_names_1_ : List D → List D → List D := fun ds _ => ds
theorem bd_House_kept_names_1_ {K : PySem.W.Frag} {mg : Bk} (f : Addr) (fd : FuncData) (F : FunD K dd_House_kept_names.name dd_House_kept_names.qual dd_House_kept_names.params dd_House_kept_names.body dd_House_kept_names.scope (dd_House_kept_names.dvs K) (dd_House_kept_names.kws K) f fd) : Bd K mg fd ["self"] 1 [] gD_House_kept_names_1_ :=
  Bd.plain F rfl (fun kV doc pm an cdv ct us hl => by
    match us, hl with
    | [u0], _ => exact rfl)
abbrev b__law_box : DS := (dSeq (dSet 2 (dOp addV (dOp mulV (dC (.int 7919)) (dVar 1)) (dC (.int 13)))) (dSeq (dIfS (dT (dOp ltV (dVar 1) (dArg lenV2 (dCons (dVar 0) dNil)))) (dSet 2 (dOp ixV2 (dVar 0) (dVar 1))) dNext) (dSeq (dIfS (dT (dOp eqV (dOp modV (dVar 2) (dC (.int 2))) (dC (.int 0)))) (dRet (dArg mkLstM (dCons (dOp divV (dVar 2) (dC (.int 2))) (dCons (dOp modV (dArg absV (dCons (dVar 2) dNil)) (dC (.int 2147483647))) dNil)))) dNext) (dSeq (dSet 3 (dC (.int 0))) (dSeq (dFor (dArg rng1 (dCons (dC (.int 16)) dNil)) (gN 4) (dSeq (dSet 5 (dOp modV (dOp addV (dOp addV (dOp mulV (dOp modV (dVar 2) (dC (.int 2147483647))) (dC (.int 48271))) (dOp mulV (dC (.int 7919)) (dVar 4))) (dC (.int 1))) (dC (.int 2147483647)))) (dSeq (dSet 5 (dOp modV (dOp mulV (dVar 5) (dVar 5)) (dC (.int 2147483629)))) (dSet 3 (dOp addV (dOp mulV (dVar 3) (dC (.int 2147483647))) (dOp modV (dOp mulV (dVar 5) (dOp addV (dVar 5) (dC (.int 13)))) (dC (.int 2147483647)))))))) (dRet (dArg mkLstM (dCons (dVar 3) (dCons (dOp modV (dArg absV (dCons (dVar 2) dNil)) (dC (.int 2147483647))) dNil)))))))))
abbrev N__law_box : List Str := ["_law_script", "_law_k", "_law_here", "_law_number", "_law_j", "_law_piece"]
def D__law_box : Den := fnD 6 b__law_box
abbrev b_is_among : DS := (dRet (dAndV (dArg isiV (dCons (dVar 0) (dCons (dC (.ty "int")) dNil))) (dAndV (dNotV (dArg isiV (dCons (dVar 0) (dCons (dC (.ty "bool")) dNil)))) (dChain leV leV (dVar 1) (dVar 0) (dVar 2)))))
abbrev N_is_among : List Str := ["thing", "least", "most"]
def D_is_among : Den := fnD 3 b_is_among
abbrev b_is_number : DS := (dRet (dArg (pcall 3 D_is_among) (dCons (dVar 0) (dCons (dC (.int 1)) (dCons (dC (.int 3)) dNil)))))
abbrev N_is_number : List Str := ["thing"]
def D_is_number : Den := fnD 1 b_is_number
abbrev b_need_window : DS := (dIfS (dNot (dT (dArg (pcall 1 D_is_number) (dCons (dVar 0) dNil)))) dDeadS dNext)
abbrev N_need_window : List Str := ["thing"]
def D_need_window : Den := fnD 1 b_need_window
abbrev b_House___init__ : DS := (dSeq (dDrop (dArg (pcall 1 D_need_window) (dCons (dVar 1) dNil))) (dSeq (dSetF "House" "own_window" (dVar 0) (dVar 1)) (dSeq (dSetF "House" "own_words" (dVar 0) (dArg mkLstM dNil)) (dSeq (dSetF "House" "own_sessions" (dVar 0) dNewD) (dSeq (dSetF "House" "own_wills" (dVar 0) dNewD) (dSetF "House" "own_kept" (dVar 0) dNewD))))))
abbrev N_House___init__ : List Str := ["self", "window"]
def D_House___init__ : Den := fnD 2 b_House___init__
abbrev b_is_lettered : DS := (dRet (dAndV (dArg isiV (dCons (dVar 0) (dCons (dC (.ty "str")) dNil))) (dAndV (dChain leV leV (dVar 1) (dArg lenV2 (dCons (dVar 0) dNil)) (dVar 2)) (dArg allV (dCons (dLcL (dItm (dVar 0)) (gN 3) dYes (dOp inV2 (dVar 3) (dC (.str "abcdefghijklmnopqrstuvwxyz"))) [3]) dNil)))))
abbrev N_is_lettered : List Str := ["thing", "least", "most", "sign"]
def D_is_lettered : Den := fnD 4 b_is_lettered
abbrev b_is_caller : DS := (dRet (dArg (pcall 3 D_is_lettered) (dCons (dVar 0) (dCons (dC (.int 1)) (dCons (dC (.int 3)) dNil)))))
abbrev N_is_caller : List Str := ["thing"]
def D_is_caller : Den := fnD 1 b_is_caller
abbrev b_need_caller : DS := (dIfS (dNot (dT (dArg (pcall 1 D_is_caller) (dCons (dVar 0) dNil)))) dDeadS dNext)
abbrev N_need_caller : List Str := ["thing"]
def D_need_caller : Den := fnD 1 b_need_caller
abbrev b_is_level : DS := (dRet (dArg (pcall 3 D_is_lettered) (dCons (dVar 0) (dCons (dC (.int 1)) (dCons (dC (.int 3)) dNil)))))
abbrev N_is_level : List Str := ["thing"]
def D_is_level : Den := fnD 1 b_is_level
abbrev b_is_name : DS := (dSeq (dIfS (dNot (dT (dArg isiV (dCons (dVar 0) (dCons (dC (.ty "str")) dNil))))) (dRet (dC (.bl false))) dNext) (dSeq (dSet 1 (dMs splitV (dVar 0) (dCons (dC (.str "/")) dNil))) (dRet (dAndV (dOp leV (dArg lenV2 (dCons (dVar 1) dNil)) (dC (.int 4))) (dArg allV (dCons (dLcL (dItm (dVar 1)) (gN 2) dYes (dArg (pcall 1 D_is_level) (dCons (dVar 2) dNil)) [2]) dNil))))))
abbrev N_is_name : List Str := ["thing", "levels", "level"]
def D_is_name : Den := fnD 3 b_is_name
abbrev b_is_word : DS := (dRet (dArg (pcall 3 D_is_lettered) (dCons (dVar 0) (dCons (dC (.int 0)) (dCons (dC (.int 12)) dNil)))))
abbrev N_is_word : List Str := ["thing"]
def D_is_word : Den := fnD 1 b_is_word
abbrev b_is_quality : DS := (dRet (dArg (pcall 3 D_is_among) (dCons (dVar 0) (dCons (dC (.int 0)) (dCons (dC (.int 2)) dNil)))))
abbrev N_is_quality : List Str := ["thing"]
def D_is_quality : Den := fnD 1 b_is_quality
abbrev b_is_truth : DS := (dRet (dArg isiV (dCons (dVar 0) (dCons (dC (.ty "bool")) dNil))))
abbrev N_is_truth : List Str := ["thing"]
def D_is_truth : Den := fnD 1 b_is_truth
abbrev b_is_will : DS := (dSeq (dIfS (dOr (dNot (dT (dArg isiV (dCons (dVar 0) (dCons (dC (.ty "tuple")) dNil))))) (dT (dOp neV (dArg lenV2 (dCons (dVar 0) dNil)) (dC (.int 4))))) (dRet (dC (.bl false))) dNext) (dSeq (dAsg (dVar 0) (gT [(gN 1), (gN 2), (gN 3), (gN 4)])) (dRet (dAndV (dArg (pcall 1 D_is_name) (dCons (dVar 1) dNil)) (dAndV (dArg (pcall 1 D_is_word) (dCons (dVar 2) dNil)) (dAndV (dArg (pcall 1 D_is_quality) (dCons (dVar 3) dNil)) (dArg (pcall 1 D_is_truth) (dCons (dVar 4) dNil))))))))
abbrev N_is_will : List Str := ["thing", "name", "word", "quality", "kept"]
def D_is_will : Den := fnD 5 b_is_will
abbrev b_need_will : DS := (dIfS (dAnd (dT (dOp isntV (dVar 0) (dC .non))) (dNot (dT (dArg (pcall 1 D_is_will) (dCons (dVar 0) dNil))))) dDeadS dNext)
abbrev N_need_will : List Str := ["thing"]
def D_need_will : Den := fnD 1 b_need_will
abbrev b_House_need_on : DS := (dIfS (dT (dOp notInV2 (dVar 1) (dUn (fldV "House" "own_wills") (dVar 0)))) dDeadS dNext)
abbrev N_House_need_on : List Str := ["self", "caller"]
def D_House_need_on : Den := fnD 2 b_House_need_on
abbrev b_House_off : DS := (dSeq (dSet 2 (dPopD (dUn (fldV "House" "own_wills") (dVar 0)) (dVar 1))) (dSeq (dIfS (dT (dUn (fldV "Session" "clean") (dOp ixV2 (dUn (fldV "House" "own_sessions") (dVar 0)) (dVar 1)))) (dDrop (dPopD (dUn (fldV "House" "own_sessions") (dVar 0)) (dVar 1))) dNext) (dRet (dVar 2))))
abbrev N_House_off : List Str := ["self", "caller", "will"]
def D_House_off : Den := fnD 3 b_House_off
abbrev b_does_match : DS := (dSeq (dPar 2 3 (dCons (dMs splitV (dVar 0) (dCons (dC (.str "/")) dNil)) (dCons (dMs splitV (dVar 1) (dCons (dC (.str "/")) dNil)) dNil))) (dSeq (dFor (dEnum (dVar 2)) (gT [(gN 4), (gN 5)]) (dSeq (dIfS (dT (dOp eqV (dVar 5) (dC (.str "#")))) (dRet (dC (.bl true))) dNext) (dIfS (dOr (dT (dOp eqV (dVar 4) (dArg lenV2 (dCons (dVar 3) dNil)))) (dT (dOp notInV2 (dVar 5) (dArg mkTup (dCons (dC (.str "+")) (dCons (dOp ixV2 (dVar 3) (dVar 4)) dNil)))))) (dRet (dC (.bl false))) dNext))) (dRet (dOp eqV (dArg lenV2 (dCons (dVar 2) dNil)) (dArg lenV2 (dCons (dVar 3) dNil))))))
abbrev N_does_match : List Str := ["pattern", "name", "parts", "levels", "at", "part"]
def D_does_match : Den := fnD 6 b_does_match
abbrev b_best_by : DS := (dRet (dMaxD (dLcL (dItm (dVar 0)) (gT [(gN 2), (gN 3)]) (dT (dArg (pcall 2 D_does_match) (dCons (dVar 2) (dCons (dVar 1) dNil)))) (dVar 3) [2, 3]) (dC .non)))
abbrev N_best_by : List Str := ["wants", "name", "pattern", "quality"]
def D_best_by : Den := fnD 4 b_best_by
abbrev b_House_worded : DS := (dSeq (dSet 3 (dArg mkLstM dNil)) (dSeq (dFor (dItm (dVar 2)) (gN 4) (dSeq (dIfS (dT (dOp eqV (dOp ixV2 (dVar 4) (dC (.int 0))) (dC (.str "publish")))) (dSeq (dAsg (dOp ixV2 (dUn (fldV "House" "own_words") (dVar 0)) (dOp ixV2 (dVar 4) (dC (.int 2)))) (gT [(gN 5), (gN 6), (gN 7), (gN 8), (gN 9)])) (dSet 4 (dArg mkTup (dCons (dC (.str "publish")) (dCons (dOp ixV2 (dVar 4) (dC (.int 1))) (dCons (dVar 6) (dCons (dVar 7) (dCons (dOp ixV2 (dVar 4) (dC (.int 3))) (dCons (dVar 9) dNil))))))))) dNext) (dDrop (dMl appendV (dVar 3) (dCons (dArg mkTup (dCons (dVar 1) (dCons (dVar 4) dNil))) dNil))))) (dRet (dFrz (dVar 3)))))
abbrev N_House_worded : List Str := ["self", "caller", "packets", "found", "packet", "giver", "name", "word", "quality", "kept"]
def D_House_worded : Den := fnD 10 b_House_worded
abbrev b_free_of : DS := (dRet (dLcL (dArg rng2 (dCons (dC (.int 1)) (dCons (dOp addV (dVar 1) (dC (.int 1))) dNil))) (gN 2) (dT (dOp notInV2 (dVar 2) (dLcL (dItm (dVar 0)) (gN 3) dYes (dOp ixV2 (dVar 3) (dC (.int 0))) [3]))) (dVar 2) [2]))
abbrev N_free_of : List Str := ["sender", "window", "number", "one"]
def D_free_of : Den := fnD 4 b_free_of
abbrev b_offer : DS := (dSeq (dIfS (dT (dOp eqV (dVar 2) (dC (.int 0)))) (dRet (dArg mkTup (dCons (dVar 0) (dCons (dArg mkTup (dCons (dArg mkTup (dCons (dC (.str "publish")) (dCons (dC (.int 0)) (dCons (dVar 1) (dCons (dC (.int 0)) dNil))))) dNil)) dNil)))) dNext) (dSeq (dSet 4 (dArg (pcall 2 D_free_of) (dCons (dVar 0) (dCons (dVar 3) dNil)))) (dSeq (dIfS (dT (dOp eqV (dVar 4) (dArg mkLst dNil))) dDeadS dNext) (dSeq (dAsg (dVar 4) (gS 1 [(gN 5), (gN 6)])) (dRet (dArg mkTup (dCons (dOp addV (dVar 0) (dArg mkTup (dCons (dArg mkTup (dCons (dVar 5) (dCons (dVar 1) (dCons (dVar 2) (dCons (dC (.bl false)) dNil))))) dNil))) (dCons (dArg mkTup (dCons (dArg mkTup (dCons (dC (.str "publish")) (dCons (dVar 5) (dCons (dVar 1) (dCons (dVar 2) dNil))))) dNil)) dNil))))))))
abbrev N_offer : List Str := ["sender", "word", "quality", "window", "free", "number", "others"]
def D_offer : Den := fnD 7 b_offer
abbrev b_House_drained : DS := (dSeq (dPar 2 3 (dCons (dOp ixV2 (dUn (fldV "House" "own_sessions") (dVar 0)) (dVar 1)) (dCons (dArg mkLstM dNil) dNil))) (dSeq (dWhile 1000 (dAnd (dT (dOp neV (dUn (fldV "Session" "queue") (dVar 2)) (dArg mkLst dNil))) (dT (dOp neV (dArg (pcall 2 D_free_of) (dCons (dUn (fldV "Session" "out") (dVar 2)) (dCons (dUn (fldV "House" "own_window") (dVar 0)) dNil))) (dArg mkLst dNil)))) (dSeq (dAsg (dMl popV (dUn (fldV "Session" "queue") (dVar 2)) (dCons (dC (.int 0)) dNil)) (gT [(gN 4), (gN 5)])) (dSeq (dAsg (dArg (pcall 4 D_offer) (dCons (dUn (fldV "Session" "out") (dVar 2)) (dCons (dVar 4) (dCons (dVar 5) (dCons (dUn (fldV "House" "own_window") (dVar 0)) dNil))))) (gT [(gFl "Session" "out" (dVar 2)), (gN 6)])) (dDrop (dMl extendV (dVar 3) (dCons (dMeth "House" "worded" 2 0 gD_House_worded_3_ (gcall 3 D_House_worded) (dVar 0) (dCons (dVar 1) (dCons (dVar 6) dNil)) dNil) dNil)))))) (dRet (dFrz (dVar 3)))))
abbrev N_House_drained : List Str := ["self", "caller", "session", "found", "word", "quality", "packets"]
def D_House_drained : Den := fnD 7 b_House_drained
abbrev b_House_given_to : DS := (dSeq (dSet 4 (dOp ixV2 (dUn (fldV "House" "own_sessions") (dVar 0)) (dVar 1))) (dSeq (dIfS (dT (dOp eqV (dVar 3) (dC (.int 0)))) (dSeq (dIfS (dT (dOp notInV2 (dVar 1) (dUn (fldV "House" "own_wills") (dVar 0)))) (dRet (dArg mkLst dNil)) dNext) (dRet (dMeth "House" "worded" 2 0 gD_House_worded_3_ (gcall 3 D_House_worded) (dVar 0) (dCons (dVar 1) (dCons (dArg mkLst (dCons (dArg mkTup (dCons (dC (.str "publish")) (dCons (dC (.int 0)) (dCons (dVar 2) (dCons (dC (.int 0)) dNil))))) dNil)) dNil)) dNil))) dNext) (dSeq (dDrop (dMl appendV (dUn (fldV "Session" "queue") (dVar 4)) (dCons (dArg mkTup (dCons (dVar 2) (dCons (dVar 3) dNil))) dNil))) (dRet (dIf (dT (dOp inV2 (dVar 1) (dUn (fldV "House" "own_wills") (dVar 0)))) (dMeth "House" "drained" 1 0 gD_House_drained_2_ (gcall 2 D_House_drained) (dVar 0) (dCons (dVar 1) dNil) dNil) (dArg mkLst dNil))))))
abbrev N_House_given_to : List Str := ["self", "caller", "number", "quality", "session"]
def D_House_given_to : Den := fnD 5 b_House_given_to
abbrev b_House_accept : DS := (dSeq (dAsg (dVar 1) (gT [(gN 2), (gN 3), (gN 4), (gN 5), (gN 6)])) (dSeq (dSet 7 (dArg lenV2 (dCons (dUn (fldV "House" "own_words") (dVar 0)) dNil))) (dSeq (dDrop (dMl appendV (dUn (fldV "House" "own_words") (dVar 0)) (dCons (dVar 1) dNil))) (dSeq (dIfS (dT (dVar 6)) (dSeq (dAsg (dVar 7) (gIx2 (dUn (fldV "House" "own_kept") (dVar 0)) (dVar 3))) (dIfS (dT (dOp eqV (dVar 4) (dC (.str "")))) (dDrop (dPopD (dUn (fldV "House" "own_kept") (dVar 0)) (dVar 3))) dNext)) dNext) (dSeq (dSet 8 (dArg mkLstM dNil)) (dSeq (dFor (dItm (dArg sortedV2 (dCons (dUn (fldV "House" "own_sessions") (dVar 0)) dNil))) (gN 9) (dSeq (dSet 10 (dArg (pcall 2 D_best_by) (dCons (dUn (fldV "Session" "liked") (dOp ixV2 (dUn (fldV "House" "own_sessions") (dVar 0)) (dVar 9))) (dCons (dVar 3) dNil)))) (dIfS (dT (dOp isntV (dVar 10) (dC .non))) (dDrop (dMl extendV (dVar 8) (dCons (dMeth "House" "given_to" 3 0 gD_House_given_to_4_ (gcall 4 D_House_given_to) (dVar 0) (dCons (dVar 9) (dCons (dVar 7) (dCons (dArg minV (dCons (dVar 10) (dCons (dVar 5) dNil))) dNil))) dNil) dNil))) dNext))) (dRet (dVar 8))))))))
abbrev N_House_accept : List Str := ["self", "row", "giver", "name", "word", "quality", "kept", "number", "found", "caller", "best"]
def D_House_accept : Den := fnD 11 b_House_accept
abbrev b_House_cut : DS := (dSeq (dDrop (dArg (pcall 1 D_need_caller) (dCons (dVar 1) dNil))) (dSeq (dDrop (dMeth "House" "need_on" 1 0 gD_House_need_on_2_ (gcall 2 D_House_need_on) (dVar 0) (dCons (dVar 1) dNil) dNil)) (dSeq (dSet 2 (dMeth "House" "off" 1 0 gD_House_off_2_ (gcall 2 D_House_off) (dVar 0) (dCons (dVar 1) dNil) dNil)) (dRet (dIf (dT (dOp isV (dVar 2) (dC .non))) (dArg mkLstM dNil) (dMeth "House" "accept" 1 0 gD_House_accept_2_ (gcall 2 D_House_accept) (dVar 0) (dCons (dOp addV (dArg mkTup (dCons (dVar 1) dNil)) (dVar 2)) dNil) dNil))))))
abbrev N_House_cut : List Str := ["self", "caller", "will"]
def D_House_cut : Den := fnD 3 b_House_cut
abbrev b_Session___init__ : DS := (dSeq (dSetF "Session" "clean" (dVar 0) (dVar 1)) (dSeq (dSetF "Session" "liked" (dVar 0) (dArg mkTup dNil)) (dSeq (dSetF "Session" "out" (dVar 0) (dArg mkTup dNil)) (dSeq (dSetF "Session" "notes" (dVar 0) (dArg mkTup dNil)) (dSetF "Session" "queue" (dVar 0) (dArg mkLstM dNil))))))
abbrev N_Session___init__ : List Str := ["self", "clean"]
def D_Session___init__ : Den := fnD 2 b_Session___init__
abbrev b_sent_again : DS := (dSeq (dIfS (dNot (dT (dOp ixV2 (dVar 0) (dC (.int 0))))) (dRet (dArg mkTup dNil)) dNext) (dSeq (dSet 2 (dArg mkLstM dNil)) (dSeq (dFor (dItm (dVar 1)) (gT [(gN 3), (gN 4), (gN 5), (gN 6)]) (dDrop (dMl appendV (dVar 2) (dCons (dIf (dT (dVar 6)) (dArg mkTup (dCons (dC (.str "release")) (dCons (dVar 3) dNil))) (dArg mkTup (dCons (dC (.str "publish")) (dCons (dVar 3) (dCons (dVar 4) (dCons (dVar 5) dNil)))))) dNil)))) (dRet (dArg tupleV (dCons (dVar 2) dNil))))))
abbrev N_sent_again : List Str := ["rules", "sender", "found", "number", "word", "quality", "released"]
def D_sent_again : Den := fnD 7 b_sent_again
abbrev b_House_come : DS := (dSeq (dDrop (dArg (pcall 1 D_need_caller) (dCons (dVar 1) dNil))) (dSeq (dDrop (dArg (pcall 1 D_need_will) (dCons (dVar 3) dNil))) (dSeq (dSet 4 (dIf (dT (dOp inV2 (dVar 1) (dUn (fldV "House" "own_wills") (dVar 0)))) (dMeth "House" "cut" 1 0 gD_House_cut_2_ (gcall 2 D_House_cut) (dVar 0) (dCons (dVar 1) dNil) dNil) (dArg mkLstM dNil))) (dSeq (dSet 5 (dAndV (dNotV (dVar 2)) (dOp inV2 (dVar 1) (dUn (fldV "House" "own_sessions") (dVar 0))))) (dSeq (dIfS (dNot (dT (dVar 5))) (dAsg (dMake "Session" 1 0 gD_Session___init___2_ (gcall 2 D_Session___init__) (dCons (dVar 2) dNil) dNil) (gIx2 (dUn (fldV "House" "own_sessions") (dVar 0)) (dVar 1))) dNext) (dSeq (dAsg (dVar 3) (gIx2 (dUn (fldV "House" "own_wills") (dVar 0)) (dVar 1))) (dSeq (dDrop (dMl appendV (dVar 4) (dCons (dArg mkTup (dCons (dVar 1) (dCons (dArg mkTup (dCons (dC (.str "accept")) (dCons (dVar 5) dNil))) dNil))) dNil))) (dSeq (dDrop (dMl extendV (dVar 4) (dCons (dMeth "House" "worded" 2 0 gD_House_worded_3_ (gcall 3 D_House_worded) (dVar 0) (dCons (dVar 1) (dCons (dArg (pcall 2 D_sent_again) (dCons (dC c_RIGHT) (dCons (dUn (fldV "Session" "out") (dOp ixV2 (dUn (fldV "House" "own_sessions") (dVar 0)) (dVar 1))) dNil))) dNil)) dNil) dNil))) (dRet (dOp addV (dVar 4) (dMeth "House" "drained" 1 0 gD_House_drained_2_ (gcall 2 D_House_drained) (dVar 0) (dCons (dVar 1) dNil) dNil)))))))))))
abbrev N_House_come : List Str := ["self", "caller", "clean", "will", "found", "known"]
def D_House_come : Den := fnD 6 b_House_come
abbrev b_is_filter : DS := (dSeq (dIfS (dNot (dT (dArg isiV (dCons (dVar 0) (dCons (dC (.ty "str")) dNil))))) (dRet (dC (.bl false))) dNext) (dSeq (dAsg (dMs splitV (dVar 0) (dCons (dC (.str "/")) dNil)) (gS 0 [(gN 2), (gN 1)])) (dSeq (dIfS (dOr (dT (dOp geV (dArg lenV2 (dCons (dVar 2) dNil)) (dC (.int 4)))) (dNot (dT (dArg allV (dCons (dLcL (dItm (dVar 2)) (gN 3) dYes (dOrV (dOp eqV (dVar 3) (dC (.str "+"))) (dArg (pcall 1 D_is_level) (dCons (dVar 3) dNil))) [3]) dNil))))) (dRet (dC (.bl false))) dNext) (dRet (dOrV (dOp inV2 (dVar 1) (dArg mkTup (dCons (dC (.str "+")) (dCons (dC (.str "#")) dNil)))) (dArg (pcall 1 D_is_level) (dCons (dVar 1) dNil)))))))
abbrev N_is_filter : List Str := ["thing", "last", "most", "part"]
def D_is_filter : Den := fnD 4 b_is_filter
abbrev b_need_filter : DS := (dIfS (dNot (dT (dArg (pcall 1 D_is_filter) (dCons (dVar 0) dNil)))) dDeadS dNext)
abbrev N_need_filter : List Str := ["thing"]
def D_need_filter : Den := fnD 1 b_need_filter
abbrev b_need_quality : DS := (dIfS (dNot (dT (dArg (pcall 1 D_is_quality) (dCons (dVar 0) dNil)))) dDeadS dNext)
abbrev N_need_quality : List Str := ["thing"]
def D_need_quality : Den := fnD 1 b_need_quality
abbrev b_order_of : DS := (dSeq (dSet 1 (dMs splitV (dVar 0) (dCons (dC (.str "/")) dNil))) (dRet (dArg mkTup (dCons (dArg lenV2 (dCons (dVar 1) dNil)) (dCons (dVar 1) dNil)))))
abbrev N_order_of : List Str := ["name", "levels"]
def D_order_of : Den := fnD 2 b_order_of
abbrev b_House_kept_names : DS := (dRet (dSortK D_order_of (dArg listV2 (dCons (dUn (fldV "House" "own_kept") (dVar 0)) dNil))))
abbrev N_House_kept_names : List Str := ["self"]
def D_House_kept_names : Den := fnD 1 b_House_kept_names
abbrev b_House_wants : DS := (dSeq (dDrop (dArg (pcall 1 D_need_caller) (dCons (dVar 1) dNil))) (dSeq (dDrop (dArg (pcall 1 D_need_filter) (dCons (dVar 2) dNil))) (dSeq (dDrop (dArg (pcall 1 D_need_quality) (dCons (dVar 3) dNil))) (dSeq (dDrop (dMeth "House" "need_on" 1 0 gD_House_need_on_2_ (gcall 2 D_House_need_on) (dVar 0) (dCons (dVar 1) dNil) dNil)) (dSeq (dSet 4 (dOp ixV2 (dUn (fldV "House" "own_sessions") (dVar 0)) (dVar 1))) (dSeq (dSet 5 (dLcL (dItm (dUn (fldV "Session" "liked") (dVar 4))) (gN 6) (dT (dOp neV (dOp ixV2 (dVar 6) (dC (.int 0))) (dVar 2))) (dVar 6) [6])) (dSeq (dIfS (dT (dOp eqV (dArg lenV2 (dCons (dVar 5) dNil)) (dC (.int 8)))) dDeadS dNext) (dSeq (dSetF "Session" "liked" (dVar 4) (dArg tupleV (dCons (dArg sortedV2 (dCons (dOp addV (dVar 5) (dArg mkLst (dCons (dArg mkTup (dCons (dVar 2) (dCons (dVar 3) dNil))) dNil))) dNil)) dNil))) (dSeq (dSet 7 (dArg mkLstM dNil)) (dSeq (dFor (dItm (dMeth "House" "kept_names" 0 0 gD_House_kept_names_1_ (gcall 1 D_House_kept_names) (dVar 0) dNil dNil)) (gN 8) (dIfS (dT (dArg (pcall 2 D_does_match) (dCons (dVar 2) (dCons (dVar 8) dNil)))) (dSeq (dSet 9 (dOp ixV2 (dUn (fldV "House" "own_kept") (dVar 0)) (dVar 8))) (dDrop (dMl extendV (dVar 7) (dCons (dMeth "House" "given_to" 3 0 gD_House_given_to_4_ (gcall 4 D_House_given_to) (dVar 0) (dCons (dVar 1) (dCons (dVar 9) (dCons (dArg minV (dCons (dVar 3) (dCons (dOp ixV2 (dOp ixV2 (dUn (fldV "House" "own_words") (dVar 0)) (dVar 9)) (dC (.int 3))) dNil))) dNil))) dNil) dNil)))) dNext)) (dRet (dVar 7))))))))))))
abbrev N_House_wants : List Str := ["self", "caller", "pattern", "quality", "session", "left", "want", "found", "name", "number"]
def D_House_wants : Den := fnD 10 b_House_wants
abbrev b__law_more : DS := (dSeq (dSet 1 (dC (.int 0))) (dSeq (dFor (dArg rng1 (dCons (dC (.int 12)) dNil)) (gN 2) (dSeq (dAsg (dOp modV (dOp addV (dOp mulV (dOp ixV2 (dVar 0) (dC (.int 1))) (dC (.int 48271))) (dC (.int 30269))) (dC (.int 2147483647))) (gIx2 (dVar 0) (dC (.int 1)))) (dSet 1 (dOp addV (dOp mulV (dVar 1) (dC (.int 65521))) (dOp modV (dOp divV (dOp ixV2 (dVar 0) (dC (.int 1))) (dC (.int 7))) (dC (.int 65521))))))) (dRet (dVar 1))))
abbrev N__law_more : List Str := ["_law_box_here", "_law_number", "_law_j"]
def D__law_more : Den := fnD 3 b__law_more
abbrev b__law_take : DS := (dSeq (dIfS (dT (dChain leV ltV (dC (.int 0)) (dOp ixV2 (dVar 0) (dC (.int 0))) (dVar 1))) (dAsg (dOp addV (dOp ixV2 (dVar 0) (dC (.int 0))) (dOp mulV (dVar 1) (dArg (bcall 1 0 D__law_more) (dCons (dVar 0) dNil)))) (gIx2 (dVar 0) (dC (.int 0)))) dNext) (dSeq (dAsg (dArg divmodV2 (dCons (dOp ixV2 (dVar 0) (dC (.int 0))) (dCons (dVar 1) dNil))) (gT [(gN 2), (gN 3)])) (dSeq (dAsg (dVar 2) (gIx2 (dVar 0) (dC (.int 0)))) (dRet (dVar 3)))))
abbrev N__law_take : List Str := ["_law_box_here", "_law_count", "_law_rest_of", "_law_digit"]
def D__law_take : Den := fnD 4 b__law_take
abbrev b__law_level : DS := (dSeq (dSet 1 (dC (.str "abcdefghijklmnopqrstuvwxyz"))) (dSeq (dIfS (dT (dOp gtV (dArg (bcall 2 0 D__law_take) (dCons (dVar 0) (dCons (dC (.int 4)) dNil))) (dC (.int 0)))) (dRet (dOp ixV2 (dArg mkLst (dCons (dC (.str "a")) (dCons (dC (.str "b")) (dCons (dC (.str "ab")) dNil)))) (dArg (bcall 2 0 D__law_take) (dCons (dVar 0) (dCons (dC (.int 3)) dNil))))) dNext) (dRet (dMs joinV (dC (.str "")) (dCons (dLcL (dArg rng1 (dCons (dOp addV (dC (.int 1)) (dArg (bcall 2 0 D__law_take) (dCons (dVar 0) (dCons (dC (.int 3)) dNil)))) dNil)) (gN 2) dYes (dOp ixV2 (dVar 1) (dArg (bcall 2 0 D__law_take) (dCons (dVar 0) (dCons (dC (.int 26)) dNil)))) [2]) dNil)))))
abbrev N__law_level : List Str := ["_law_box_here", "_law_letters", "_law_sign"]
def D__law_level : Den := fnD 3 b__law_level
abbrev b__law_topic : DS := (dRet (dMs joinV (dC (.str "/")) (dCons (dLcL (dArg rng1 (dCons (dOp addV (dC (.int 1)) (dOp mulV (dArg (bcall 2 0 D__law_take) (dCons (dVar 0) (dCons (dC (.int 4)) dNil))) (dArg (bcall 2 0 D__law_take) (dCons (dVar 0) (dCons (dC (.int 2)) dNil))))) dNil)) (gN 1) dYes (dArg (bcall 1 0 D__law_level) (dCons (dVar 0) dNil)) [1]) dNil)))
abbrev N__law_topic : List Str := ["_law_box_here", "_law_part"]
def D__law_topic : Den := fnD 2 b__law_topic
abbrev b__law_text : DS := (dSeq (dSet 1 (dC (.str "abcdefghijklmnopqrstuvwxyz"))) (dSeq (dSet 2 (dOp ixV2 (dArg mkLst (dCons (dC (.int 0)) (dCons (dC (.int 1)) (dCons (dC (.int 1)) (dCons (dC (.int 12)) (dCons (dArg (bcall 2 0 D__law_take) (dCons (dVar 0) (dCons (dC (.int 13)) dNil))) dNil)))))) (dArg (bcall 2 0 D__law_take) (dCons (dVar 0) (dCons (dC (.int 5)) dNil))))) (dRet (dMs joinV (dC (.str "")) (dCons (dLcL (dArg rng1 (dCons (dVar 2) dNil)) (gN 3) dYes (dOp ixV2 (dVar 1) (dArg (bcall 2 0 D__law_take) (dCons (dVar 0) (dCons (dC (.int 26)) dNil)))) [3]) dNil)))))
abbrev N__law_text : List Str := ["_law_box_here", "_law_letters", "_law_many", "_law_sign"]
def D__law_text : Den := fnD 4 b__law_text
abbrev b__law_will : DS := (dSeq (dIfS (dT (dOp eqV (dArg (bcall 2 0 D__law_take) (dCons (dVar 0) (dCons (dC (.int 2)) dNil))) (dC (.int 0)))) (dRet (dC .non)) dNext) (dRet (dArg mkTup (dCons (dArg (bcall 1 0 D__law_topic) (dCons (dVar 0) dNil)) (dCons (dArg (bcall 1 0 D__law_text) (dCons (dVar 0) dNil)) (dCons (dArg (bcall 2 0 D__law_take) (dCons (dVar 0) (dCons (dC (.int 3)) dNil))) (dCons (dOp eqV (dArg (bcall 2 0 D__law_take) (dCons (dVar 0) (dCons (dC (.int 3)) dNil))) (dC (.int 0))) dNil)))))))
abbrev N__law_will : List Str := ["_law_box_here"]
def D__law_will : Den := fnD 1 b__law_will
abbrev b_House_goes : DS := (dSeq (dDrop (dArg (pcall 1 D_need_caller) (dCons (dVar 1) dNil))) (dSeq (dDrop (dMeth "House" "need_on" 1 0 gD_House_need_on_2_ (gcall 2 D_House_need_on) (dVar 0) (dCons (dVar 1) dNil) dNil)) (dSeq (dDrop (dMeth "House" "off" 1 0 gD_House_off_2_ (gcall 2 D_House_off) (dVar 0) (dCons (dVar 1) dNil) dNil)) (dRet (dArg mkLst dNil)))))
abbrev N_House_goes : List Str := ["self", "caller"]
def D_House_goes : Den := fnD 2 b_House_goes
abbrev b_House_accepted : DS := (dRet (dArg listV2 (dCons (dUn (fldV "House" "own_words") (dVar 0)) dNil)))
abbrev N_House_accepted : List Str := ["self"]
def D_House_accepted : Den := fnD 1 b_House_accepted
abbrev b_House_on : DS := (dRet (dArg sortedV2 (dCons (dArg listV2 (dCons (dUn (fldV "House" "own_wills") (dVar 0)) dNil)) dNil)))
abbrev N_House_on : List Str := ["self"]
def D_House_on : Den := fnD 1 b_House_on
abbrev b__law_words_to : DS := (dRet (dLcL (dItm (dVar 0)) (gT [(gN 2), (gN 3)]) (dAnd (dT (dOp eqV (dVar 2) (dVar 1))) (dT (dOp eqV (dOp ixV2 (dVar 3) (dC (.int 0))) (dC (.str "publish"))))) (dSl (dVar 3) (dPart (dC (.int 2))) (dPart (dC (.int 4)))) [2, 3]))
abbrev N__law_words_to : List Str := ["_law_rows", "_law_caller", "_law_who", "_law_packet"]
def D__law_words_to : Den := fnD 4 b__law_words_to
abbrev b_House_kept : DS := (dRet (dLcL (dItm (dMeth "House" "kept_names" 0 0 gD_House_kept_names_1_ (gcall 1 D_House_kept_names) (dVar 0) dNil dNil)) (gN 1) dYes (dArg mkTup (dCons (dVar 1) (dCons (dOp ixV2 (dUn (fldV "House" "own_kept") (dVar 0)) (dVar 1)) dNil))) [1]))
abbrev N_House_kept : List Str := ["self", "name"]
def D_House_kept : Den := fnD 2 b_House_kept
abbrev b_law : DS := (dSeq (dFor (dArg rng1 (dCons (dArg maxV (dCons (dC (.int 1)) (dCons (dArg minV (dCons (dArg lenV2 (dCons (dVar 0) dNil)) (dCons (dC (.int 3)) dNil))) dNil))) dNil)) (gN 1) (dSeq (dSet 2 (dArg (gcall 2 D__law_box) (dCons (dVar 0) (dCons (dVar 1) dNil)))) (dSeq (dAsg (dArg mkTup (dCons (dMake "House" 0 1 gD_House___init___1_window (gcall 2 D_House___init__) dNil (dCons (dC (.int 3)) dNil)) (dCons (dArg mkLstM dNil) (dCons dNewD (dCons (dArg mkLstM dNil) dNil))))) (gT [(gN 4), (gN 5), (gN 6), (gN 7)])) (dSeq (dDrop (dMeth "House" "come" 1 0 gD_House_come_2_ (gcall 4 D_House_come) (dVar 4) (dCons (dC (.str "zz")) dNil) dNil)) (dSeq (dDrop (dMeth "House" "wants" 2 1 gD_House_wants_3_quality (gcall 4 D_House_wants) (dVar 4) (dCons (dC (.str "zz")) (dCons (dC (.str "#")) dNil)) (dCons (dC (.int 2)) dNil))) (dFor (dArg rng1 (dCons (dArg (bcall 2 0 D__law_take) (dCons (dVar 2) (dCons (dC (.int 21)) dNil))) dNil)) (gN 3) (dSeq (dPar 10 11 (dCons (dOp ixV2 (dArg mkLst (dCons (dC (.str "a")) (dCons (dC (.str "b")) (dCons (dC (.str "cab")) (dCons (dC (.str "d")) dNil))))) (dArg (bcall 2 0 D__law_take) (dCons (dVar 2) (dCons (dC (.int 4)) dNil)))) (dCons (dArg (bcall 2 0 D__law_take) (dCons (dVar 2) (dCons (dC (.int 5)) dNil))) dNil))) (dSeq (dPar 12 13 (dCons (dArg mkLst dNil) (dCons (dArg lenV2 (dCons (dVar 5) dNil)) dNil))) (dSeq (dSet 8 (dArg (bcall 1 0 D__law_will) (dCons (dVar 2) dNil))) (dSeq (dIfS (dT (dOp isntV (dVar 8) (dC .non))) (dSet 8 (dArg mkTup (dCons (dOp ixV2 (dVar 8) (dC (.int 0))) (dCons (dOp ixV2 (dVar 8) (dC (.int 1))) (dCons (dC (.int 0)) (dCons (dOp ixV2 (dVar 8) (dC (.int 3))) dNil)))))) dNext) (dSeq (dIfS (dT (dOp ltV (dVar 11) (dC (.int 3)))) (dSeq (dIfS (dT (dOp isntV (dGetD (dVar 6) (dVar 10) (dC .non)) (dC .non))) (dDrop (dMl appendV (dVar 5) (dCons (dOp addV (dArg mkTup (dCons (dVar 10) dNil)) (dOp ixV2 (dVar 6) (dVar 10))) dNil))) dNext) (dSeq (dAsg (dVar 8) (gIx2 (dVar 6) (dVar 10))) (dSet 12 (dMeth "House" "come" 1 2 gD_House_come_2_clean_will (gcall 4 D_House_come) (dVar 4) (dCons (dVar 10) dNil) (dCons (dOp eqV (dArg (bcall 2 0 D__law_take) (dCons (dVar 2) (dCons (dC (.int 2)) dNil))) (dC (.int 0))) (dCons (dVar 8) dNil)))))) (dIfS (dT (dOp inV2 (dVar 10) (dVar 6))) (dSeq (dSet 16 (dPopD (dVar 6) (dVar 10))) (dSeq (dIfS (dAnd (dT (dOp eqV (dVar 11) (dC (.int 3)))) (dT (dOp isntV (dVar 16) (dC .non)))) (dDrop (dMl appendV (dVar 5) (dCons (dOp addV (dArg mkTup (dCons (dVar 10) dNil)) (dVar 16)) dNil))) dNext) (dSet 12 (dIf (dT (dOp eqV (dVar 11) (dC (.int 3)))) (dMeth "House" "cut" 1 0 gD_House_cut_2_ (gcall 2 D_House_cut) (dVar 4) (dCons (dVar 10) dNil) dNil) (dMeth "House" "goes" 1 0 gD_House_goes_2_ (gcall 2 D_House_goes) (dVar 4) (dCons (dVar 10) dNil) dNil))))) dNext)) (dSeq (dIfS (dOr (dT (dOp neV (dArg reprV (dCons (dMeth "House" "accepted" 0 0 gD_House_accepted_1_ (gcall 1 D_House_accepted) (dVar 4) dNil dNil) dNil)) (dArg reprV (dCons (dVar 5) dNil)))) (dT (dOp neV (dMeth "House" "on" 0 0 gD_House_on_1_ (gcall 1 D_House_on) (dVar 4) dNil dNil) (dArg sortedV2 (dCons (dOp addV (dArg listV2 (dCons (dVar 6) dNil)) (dArg mkLst (dCons (dC (.str "zz")) dNil))) dNil))))) (dRet (dC (.bl false))) dNext) (dSeq (dIfS (dT (dOp neV (dArg (gcall 2 D__law_words_to) (dCons (dVar 12) (dCons (dC (.str "zz")) dNil))) (dLcL (dItm (dSl (dVar 5) (dPart (dVar 13)) dNoP)) (gN 15) dYes (dSl (dVar 15) (dPart (dC (.int 1))) (dPart (dC (.int 3)))) [15]))) (dRet (dC (.bl false))) dNext) (dSeq (dSet 9 dNewD) (dSeq (dFor (dEnum (dVar 5)) (gT [(gN 14), (gN 15)]) (dIfS (dT (dOp ixV2 (dVar 15) (dC (.int 4)))) (dSeq (dAsg (dVar 14) (gIx2 (dVar 9) (dOp ixV2 (dVar 15) (dC (.int 1))))) (dIfS (dT (dOp eqV (dOp ixV2 (dVar 15) (dC (.int 2))) (dC (.str "")))) (dDrop (dPopD (dVar 9) (dOp ixV2 (dVar 15) (dC (.int 1))))) dNext)) dNext)) (dIfS (dT (dOp neV (dArg sortedV2 (dCons (dMeth "House" "kept" 0 0 gD_House_kept_1_ (gcall 1 D_House_kept) (dVar 4) dNil dNil) dNil)) (dArg sortedV2 (dCons (dLock (pkVar 9) (dLcL (dItm2 (dVar 9)) (gN 17) dYes (dArg mkTup (dCons (dVar 17) (dCons (dOp ixV2 (dVar 9) (dVar 17)) dNil))) [17])) dNil)))) (dRet (dC (.bl false))) dNext)))))))))))))))) (dRet (dC (.bl true))))
abbrev N_law : List Str := ["_law_script", "_law_k", "_law_box_here", "_law_turn", "_law_real", "_law_due", "_law_standing", "_law_got", "_law_legacy", "_law_held", "_law_who", "_law_way", "_law_rows", "_law_ahead", "_law_at", "_law_row", "_law_last", "_law_name"]
def D_law : Den := fnD 18 b_law
structure Gf (P : Program) (w : World) (K : PySem.W.Frag) (mg : Str → Option Value) : Prop where
  f_len : mg "len" = none
  f_abs : mg "abs" = none
  f_range : mg "range" = none
  f_int : mg "int" = none
  f_isinstance : mg "isinstance" = none
  f_bool : mg "bool" = none
  c_MOST_WINDOW : ∃ u, mg "MOST_WINDOW" = some u ∧ RelV (.int 3) u
  cls_House : CsN K mg "House"
  noat_House_own_window : NoA K mg "House" "own_window"
  noat_House_own_words : NoA K mg "House" "own_words"
  noat_House_own_sessions : NoA K mg "House" "own_sessions"
  noat_House_own_wills : NoA K mg "House" "own_wills"
  noat_House_own_kept : NoA K mg "House" "own_kept"
  f_str : mg "str" = none
  c_LETTERS : ∃ u, mg "LETTERS" = some u ∧ RelV (.str "abcdefghijklmnopqrstuvwxyz") u
  f_all : mg "all" = none
  c_MOST_CALLER : ∃ u, mg "MOST_CALLER" = some u ∧ RelV (.int 3) u
  c_MOST_LETTERS : ∃ u, mg "MOST_LETTERS" = some u ∧ RelV (.int 3) u
  c_MOST_LEVELS : ∃ u, mg "MOST_LEVELS" = some u ∧ RelV (.int 4) u
  c_MOST_WORD : ∃ u, mg "MOST_WORD" = some u ∧ RelV (.int 12) u
  f_tuple : mg "tuple" = none
  cls_Session : CsN K mg "Session"
  noat_Session_clean : NoA K mg "Session" "clean"
  f_enumerate : mg "enumerate" = none
  c_REST : ∃ u, mg "REST" = some u ∧ RelV (.str "#") u
  c_ANY : ∃ u, mg "ANY" = some u ∧ RelV (.str "+") u
  f_max : mg "max" = none
  noat_Session_queue : NoA K mg "Session" "queue"
  noat_Session_out : NoA K mg "Session" "out"
  f_sorted : mg "sorted" = none
  noat_Session_liked : NoA K mg "Session" "liked"
  f_min : mg "min" = none
  noat_Session_notes : NoA K mg "Session" "notes"
  c_RIGHT : Gd K ⟨mg, P, w⟩ "RIGHT" c_RIGHT
  f_list : mg "list" = none
  c_MOST_WANTS : ∃ u, mg "MOST_WANTS" = some u ∧ RelV (.int 8) u
  f_divmod : mg "divmod" = none
  f_repr : mg "repr" = none
section
variable {P : Program} {w : World} {K : PySem.W.Frag} {mg : Str → Option Value} {base : Heap}
theorem sc__law_box : FnScope ["_law_script", "_law_k", "_law_here", "_law_number", "_law_j", "_law_piece"] ["_law_script", "_law_k"] (defScope s__law_box) := ⟨rfl, rfl, rfl, by decide +kernel, rfl, by decide +kernel, by decide +kernel⟩
theorem ok__law_box {f : Addr} {fd : FuncData} {dvs : List V} {kws : List (Str × V)} (G : Gf P w K mg) (F : FunD K "_law_box" "_law_box" (defArgs s__law_box) (defBody s__law_box) (defScope s__law_box) dvs kws f fd) :
    FnOk P w K mg base (L2.CX P w) 1 f fd ["_law_script", "_law_k"] (SpD K ⟨mg, P, w⟩ 2 D__law_box) :=
  have sc := sc__law_box
  fn_ok F sc fun cdv A outer s H E hr => (uss_cons (us_set (i := 2) sc.nd rfl (.inl rfl) (o_add (o_mul u_int (u_var 1)) u_int)) (uss_cons (us_if (t_lt (u_var 1) (b_len G.f_len (by rfl) (u_var 0))) (uss_one (us_set (i := 2) sc.nd rfl (.inl rfl) (u_ix2 hr (u_var 0) (u_var 1) (fun _ _ => rfl)))) uss_nil) (uss_cons (us_if (t_eq hr (o_mod (u_var 2) u_int) u_int) (uss_one (us_ret (u_lstM (u_cons (o_div (u_var 2) u_int) (u_cons (o_mod (b_abs G.f_abs (by rfl) (u_var 2)) u_int) u_nil))))) uss_nil) (uss_cons (us_set (i := 3) sc.nd rfl (.inl rfl) u_int) (uss_cons (us_for po_fn rfl (ui_r1 G.f_range (by rfl) u_int) (ug_name (i := 4) (fun _ _ => trivial) sc.nd rfl (.inl rfl)) (uss_cons (us_set (i := 5) sc.nd rfl (.inl rfl) (o_mod (o_add (o_add (o_mul (o_mod (u_var 2) u_int) u_int) (o_mul u_int (u_var 4))) u_int) u_int)) (uss_cons (us_set (i := 5) sc.nd rfl (.inl rfl) (o_mod (o_mul (u_var 5) (u_var 5)) u_int)) (uss_one (us_set (i := 3) sc.nd rfl (.inl rfl) (o_add (o_mul (u_var 3) u_int) (o_mod (o_mul (u_var 5) (o_add (u_var 5) u_int)) u_int))))))) (uss_one (us_ret (u_lstM (u_cons (u_var 3) (u_cons (o_mod (b_abs G.f_abs (by rfl) (u_var 2)) u_int) u_nil))))))))))
theorem sc_is_among : FnScope ["thing", "least", "most"] ["thing", "least", "most"] (defScope s_is_among) := ⟨rfl, rfl, rfl, by decide +kernel, rfl, by decide +kernel, by decide +kernel⟩
theorem ok_is_among {f : Addr} {fd : FuncData} {dvs : List V} {kws : List (Str × V)} (G : Gf P w K mg) (F : FunD K "is_among" "is_among" (defArgs s_is_among) (defBody s_is_among) (defScope s_is_among) dvs kws f fd) :
    FnOk P w K mg base (L2.CX P w) 1 f fd ["thing", "least", "most"] (SpD K ⟨mg, P, w⟩ 3 D_is_among) :=
  have sc := sc_is_among
  fn_ok F sc fun cdv A outer s H E hr => (uss_one (us_ret (u_andV (b_isi G.f_isinstance (by rfl) (u_var 0) (u_ty G.f_int boot_int (by rfl))) (u_andV (u_notV (b_isi G.f_isinstance (by rfl) (u_var 0) (u_ty G.f_bool boot_bool (by rfl)))) (u_one (c_lele (u_var 1) (u_var 0) (u_var 2)))))))
theorem sc_is_number : FnScope ["thing"] ["thing"] (defScope s_is_number) := ⟨rfl, rfl, rfl, by decide +kernel, rfl, by decide +kernel, by decide +kernel⟩
theorem ok_is_number {f : Addr} {fd : FuncData} {dvs : List V} {kws : List (Str × V)} (G : Gf P w K mg) (F : FunD K "is_number" "is_number" (defArgs s_is_number) (defBody s_is_number) (defScope s_is_number) dvs kws f fd) (h_is_among : Fn1 P w K mg base "is_among" ["thing", "least", "most"] 1 D_is_among) :
    FnOk P w K mg base (L2.CX P w) 2 f fd ["thing"] (SpD K ⟨mg, P, w⟩ 1 D_is_number) :=
  have sc := sc_is_number
  fn_ok F sc fun cdv A outer s H E hr => (uss_one (us_ret (u_fP h_is_among hr (by decide) tk_fn (by rfl) (u_cons (u_var 0) (u_cons u_int (u_cons (u_gi G.c_MOST_WINDOW (by rfl)) u_nil))))))
theorem sc_need_window : FnScope ["thing"] ["thing"] (defScope s_need_window) := ⟨rfl, rfl, rfl, by decide +kernel, rfl, by decide +kernel, by decide +kernel⟩
theorem ok_need_window {f : Addr} {fd : FuncData} {dvs : List V} {kws : List (Str × V)} (G : Gf P w K mg) (F : FunD K "need_window" "need_window" (defArgs s_need_window) (defBody s_need_window) (defScope s_need_window) dvs kws f fd) (h_is_number : Fn1 P w K mg base "is_number" ["thing"] 2 D_is_number) :
    FnOk P w K mg base (L2.CX P w) 3 f fd ["thing"] (SpD K ⟨mg, P, w⟩ 1 D_need_window) :=
  have sc := sc_need_window
  fn_ok F sc fun cdv A outer s H E hr => (uss_one (us_if (u_not (u_val (u_fP h_is_number hr (by decide) tk_fn (by rfl) (u_cons (u_var 0) u_nil)))) (uss_one us_dead) uss_nil))
theorem sc_House___init__ : FnScope ["self", "window"] ["self", "window"] (defScope s_House___init__) := ⟨rfl, rfl, rfl, by decide +kernel, rfl, by decide +kernel, by decide +kernel⟩
theorem ok_House___init__ {f : Addr} {fd : FuncData} {dvs : List V} {kws : List (Str × V)} (G : Gf P w K mg) (F : FunD K "__init__" "House.__init__" (defArgs s_House___init__) (defBody s_House___init__) (defScope s_House___init__) dvs kws f fd) (h_need_window : Fn1 P w K mg base "need_window" ["thing"] 3 D_need_window) :
    FnOk P w K mg base (L2.CX P w) 4 f fd ["self", "window"] (SpD K ⟨mg, P, w⟩ 2 D_House___init__) :=
  have sc := sc_House___init__
  fn_ok F sc fun cdv A outer s H E hr => (uss_cons (us_drop (u_fP h_need_window hr (by decide) tk_fn (by rfl) (u_cons (u_var 1) u_nil))) (uss_cons (us_setF G.cls_House G.noat_House_own_window (u_var 0) (u_var 1)) (uss_cons (us_setF G.cls_House G.noat_House_own_words (u_var 0) (u_lstM u_nil)) (uss_cons (us_setF G.cls_House G.noat_House_own_sessions (u_var 0) u_dnew) (uss_cons (us_setF G.cls_House G.noat_House_own_wills (u_var 0) u_dnew) (uss_one (us_setF G.cls_House G.noat_House_own_kept (u_var 0) u_dnew)))))))
theorem sc_is_lettered : FnScope ["thing", "least", "most", "sign"] ["thing", "least", "most"] (defScope s_is_lettered) := ⟨rfl, rfl, rfl, by decide +kernel, rfl, by decide +kernel, by decide +kernel⟩
theorem ok_is_lettered {f : Addr} {fd : FuncData} {dvs : List V} {kws : List (Str × V)} (G : Gf P w K mg) (F : FunD K "is_lettered" "is_lettered" (defArgs s_is_lettered) (defBody s_is_lettered) (defScope s_is_lettered) dvs kws f fd) :
    FnOk P w K mg base (L2.CX P w) 1 f fd ["thing", "least", "most"] (SpD K ⟨mg, P, w⟩ 3 D_is_lettered) :=
  have sc := sc_is_lettered
  fn_ok F sc fun cdv A outer s H E hr => (uss_one (us_ret (u_andV (b_isi G.f_isinstance (by rfl) (u_var 0) (u_ty G.f_str boot_str (by rfl))) (u_andV (c_lele (u_var 1) (b_len G.f_len (by rfl) (u_var 0)) (u_var 2)) (u_one (b_all (by rfl) G.f_all (by rfl) (u_lc rfl sc.nd (ui_itm (u_var 0)) (blkOk_by (own := [("sign", 3)]) (by show blkC N_is_lettered (defScope s_is_lettered) _ _ = true; decide +kernel)) (fun _ _ _ _ _ => (ug_name (i := 3) (zw_set (by decide)) sc.nd rfl (.inl rfl))) (fun _ _ _ _ _ => u_yes) (fun _ _ _ _ _ => (c_in hr (u_var 3) (u_gs G.c_LETTERS (by rfl)))))))))))
theorem sc_is_caller : FnScope ["thing"] ["thing"] (defScope s_is_caller) := ⟨rfl, rfl, rfl, by decide +kernel, rfl, by decide +kernel, by decide +kernel⟩
theorem ok_is_caller {f : Addr} {fd : FuncData} {dvs : List V} {kws : List (Str × V)} (G : Gf P w K mg) (F : FunD K "is_caller" "is_caller" (defArgs s_is_caller) (defBody s_is_caller) (defScope s_is_caller) dvs kws f fd) (h_is_lettered : Fn1 P w K mg base "is_lettered" ["thing", "least", "most"] 1 D_is_lettered) :
    FnOk P w K mg base (L2.CX P w) 2 f fd ["thing"] (SpD K ⟨mg, P, w⟩ 1 D_is_caller) :=
  have sc := sc_is_caller
  fn_ok F sc fun cdv A outer s H E hr => (uss_one (us_ret (u_fP h_is_lettered hr (by decide) tk_fn (by rfl) (u_cons (u_var 0) (u_cons u_int (u_cons (u_gi G.c_MOST_CALLER (by rfl)) u_nil))))))
theorem sc_need_caller : FnScope ["thing"] ["thing"] (defScope s_need_caller) := ⟨rfl, rfl, rfl, by decide +kernel, rfl, by decide +kernel, by decide +kernel⟩
theorem ok_need_caller {f : Addr} {fd : FuncData} {dvs : List V} {kws : List (Str × V)} (G : Gf P w K mg) (F : FunD K "need_caller" "need_caller" (defArgs s_need_caller) (defBody s_need_caller) (defScope s_need_caller) dvs kws f fd) (h_is_caller : Fn1 P w K mg base "is_caller" ["thing"] 2 D_is_caller) :
    FnOk P w K mg base (L2.CX P w) 3 f fd ["thing"] (SpD K ⟨mg, P, w⟩ 1 D_need_caller) :=
  have sc := sc_need_caller
  fn_ok F sc fun cdv A outer s H E hr => (uss_one (us_if (u_not (u_val (u_fP h_is_caller hr (by decide) tk_fn (by rfl) (u_cons (u_var 0) u_nil)))) (uss_one us_dead) uss_nil))
theorem sc_is_level : FnScope ["thing"] ["thing"] (defScope s_is_level) := ⟨rfl, rfl, rfl, by decide +kernel, rfl, by decide +kernel, by decide +kernel⟩
theorem ok_is_level {f : Addr} {fd : FuncData} {dvs : List V} {kws : List (Str × V)} (G : Gf P w K mg) (F : FunD K "is_level" "is_level" (defArgs s_is_level) (defBody s_is_level) (defScope s_is_level) dvs kws f fd) (h_is_lettered : Fn1 P w K mg base "is_lettered" ["thing", "least", "most"] 1 D_is_lettered) :
    FnOk P w K mg base (L2.CX P w) 2 f fd ["thing"] (SpD K ⟨mg, P, w⟩ 1 D_is_level) :=
  have sc := sc_is_level
  fn_ok F sc fun cdv A outer s H E hr => (uss_one (us_ret (u_fP h_is_lettered hr (by decide) tk_fn (by rfl) (u_cons (u_var 0) (u_cons u_int (u_cons (u_gi G.c_MOST_LETTERS (by rfl)) u_nil))))))
theorem sc_is_name : FnScope ["thing", "levels", "level"] ["thing"] (defScope s_is_name) := ⟨rfl, rfl, rfl, by decide +kernel, rfl, by decide +kernel, by decide +kernel⟩
theorem ok_is_name {f : Addr} {fd : FuncData} {dvs : List V} {kws : List (Str × V)} (G : Gf P w K mg) (F : FunD K "is_name" "is_name" (defArgs s_is_name) (defBody s_is_name) (defScope s_is_name) dvs kws f fd) (h_is_level : Fn1 P w K mg base "is_level" ["thing"] 2 D_is_level) :
    FnOk P w K mg base (L2.CX P w) 3 f fd ["thing"] (SpD K ⟨mg, P, w⟩ 1 D_is_name) :=
  have sc := sc_is_name
  fn_ok F sc fun cdv A outer s H E hr => (uss_cons (us_if (u_not (u_val (b_isi G.f_isinstance (by rfl) (u_var 0) (u_ty G.f_str boot_str (by rfl))))) (uss_one (us_ret u_bl)) uss_nil) (uss_cons (us_set (i := 1) sc.nd rfl (.inl rfl) (m_split (u_var 0) u_str)) (uss_one (us_ret (u_andV (c_le (b_len G.f_len (by rfl) (u_var 1)) (u_gi G.c_MOST_LEVELS (by rfl))) (u_one (b_all (by rfl) G.f_all (by rfl) (u_lc rfl sc.nd (ui_itm (u_var 1)) (blkOk_by (own := [("level", 2)]) (by show blkC N_is_name (defScope s_is_name) _ _ = true; decide +kernel)) (fun _ _ _ _ _ => (ug_name (i := 2) (zw_set (by decide)) sc.nd rfl (.inl rfl))) (fun _ _ _ _ _ => u_yes) (fun _ _ _ _ _ => (u_fP h_is_level hr (by decide) tk0 (by rfl) (u_cons (u_var 2) u_nil)))))))))))
theorem sc_is_word : FnScope ["thing"] ["thing"] (defScope s_is_word) := ⟨rfl, rfl, rfl, by decide +kernel, rfl, by decide +kernel, by decide +kernel⟩
theorem ok_is_word {f : Addr} {fd : FuncData} {dvs : List V} {kws : List (Str × V)} (G : Gf P w K mg) (F : FunD K "is_word" "is_word" (defArgs s_is_word) (defBody s_is_word) (defScope s_is_word) dvs kws f fd) (h_is_lettered : Fn1 P w K mg base "is_lettered" ["thing", "least", "most"] 1 D_is_lettered) :
    FnOk P w K mg base (L2.CX P w) 2 f fd ["thing"] (SpD K ⟨mg, P, w⟩ 1 D_is_word) :=
  have sc := sc_is_word
  fn_ok F sc fun cdv A outer s H E hr => (uss_one (us_ret (u_fP h_is_lettered hr (by decide) tk_fn (by rfl) (u_cons (u_var 0) (u_cons u_int (u_cons (u_gi G.c_MOST_WORD (by rfl)) u_nil))))))
theorem sc_is_quality : FnScope ["thing"] ["thing"] (defScope s_is_quality) := ⟨rfl, rfl, rfl, by decide +kernel, rfl, by decide +kernel, by decide +kernel⟩
theorem ok_is_quality {f : Addr} {fd : FuncData} {dvs : List V} {kws : List (Str × V)} (G : Gf P w K mg) (F : FunD K "is_quality" "is_quality" (defArgs s_is_quality) (defBody s_is_quality) (defScope s_is_quality) dvs kws f fd) (h_is_among : Fn1 P w K mg base "is_among" ["thing", "least", "most"] 1 D_is_among) :
    FnOk P w K mg base (L2.CX P w) 2 f fd ["thing"] (SpD K ⟨mg, P, w⟩ 1 D_is_quality) :=
  have sc := sc_is_quality
  fn_ok F sc fun cdv A outer s H E hr => (uss_one (us_ret (u_fP h_is_among hr (by decide) tk_fn (by rfl) (u_cons (u_var 0) (u_cons u_int (u_cons u_int u_nil))))))
theorem sc_is_truth : FnScope ["thing"] ["thing"] (defScope s_is_truth) := ⟨rfl, rfl, rfl, by decide +kernel, rfl, by decide +kernel, by decide +kernel⟩
theorem ok_is_truth {f : Addr} {fd : FuncData} {dvs : List V} {kws : List (Str × V)} (G : Gf P w K mg) (F : FunD K "is_truth" "is_truth" (defArgs s_is_truth) (defBody s_is_truth) (defScope s_is_truth) dvs kws f fd) :
    FnOk P w K mg base (L2.CX P w) 1 f fd ["thing"] (SpD K ⟨mg, P, w⟩ 1 D_is_truth) :=
  have sc := sc_is_truth
  fn_ok F sc fun cdv A outer s H E hr => (uss_one (us_ret (b_isi G.f_isinstance (by rfl) (u_var 0) (u_ty G.f_bool boot_bool (by rfl)))))
theorem sc_is_will : FnScope ["thing", "name", "word", "quality", "kept"] ["thing"] (defScope s_is_will) := ⟨rfl, rfl, rfl, by decide +kernel, rfl, by decide +kernel, by decide +kernel⟩
theorem ok_is_will {f : Addr} {fd : FuncData} {dvs : List V} {kws : List (Str × V)} (G : Gf P w K mg) (F : FunD K "is_will" "is_will" (defArgs s_is_will) (defBody s_is_will) (defScope s_is_will) dvs kws f fd) (h_is_name : Fn1 P w K mg base "is_name" ["thing"] 3 D_is_name) (h_is_word : Fn1 P w K mg base "is_word" ["thing"] 2 D_is_word) (h_is_quality : Fn1 P w K mg base "is_quality" ["thing"] 2 D_is_quality) (h_is_truth : Fn1 P w K mg base "is_truth" ["thing"] 1 D_is_truth) :
    FnOk P w K mg base (L2.CX P w) 4 f fd ["thing"] (SpD K ⟨mg, P, w⟩ 1 D_is_will) :=
  have sc := sc_is_will
  fn_ok F sc fun cdv A outer s H E hr => (uss_cons (us_if (PW.pt (u_or (u_not (u_val (b_isi G.f_isinstance (by rfl) (u_var 0) (u_ty G.f_tuple boot_tuple (by rfl))))) (u_or1 (t_ne hr (b_len G.f_len (by rfl) (u_var 0)) u_int)))) (uss_one (us_ret u_bl)) uss_nil) (uss_cons (us_asg (u_var 0) (ug_tup rfl (ugs_cons zt_ok (ug_name (i := 1) (fun _ _ => trivial) sc.nd rfl (.inl rfl)) (ugs_cons zt_ok (ug_name (i := 2) (fun _ _ => trivial) sc.nd rfl (.inl rfl)) (ugs_cons zt_ok (ug_name (i := 3) (fun _ _ => trivial) sc.nd rfl (.inl rfl)) (ugs_cons zt_ok (ug_name (i := 4) (fun _ _ => trivial) sc.nd rfl (.inl rfl)) (ugs_nil zt_ok))))))) (uss_one (us_ret (u_andV (u_fP h_is_name hr (by decide) tk_fn (by rfl) (u_cons (u_var 1) u_nil)) (u_andV (u_fP h_is_word hr (by decide) tk_fn (by rfl) (u_cons (u_var 2) u_nil)) (u_andV (u_fP h_is_quality hr (by decide) tk_fn (by rfl) (u_cons (u_var 3) u_nil)) (u_one (u_fP h_is_truth hr (by decide) tk_fn (by rfl) (u_cons (u_var 4) u_nil))))))))))
theorem sc_need_will : FnScope ["thing"] ["thing"] (defScope s_need_will) := ⟨rfl, rfl, rfl, by decide +kernel, rfl, by decide +kernel, by decide +kernel⟩
theorem ok_need_will {f : Addr} {fd : FuncData} {dvs : List V} {kws : List (Str × V)} (G : Gf P w K mg) (F : FunD K "need_will" "need_will" (defArgs s_need_will) (defBody s_need_will) (defScope s_need_will) dvs kws f fd) (h_is_will : Fn1 P w K mg base "is_will" ["thing"] 4 D_is_will) :
    FnOk P w K mg base (L2.CX P w) 5 f fd ["thing"] (SpD K ⟨mg, P, w⟩ 1 D_need_will) :=
  have sc := sc_need_will
  fn_ok F sc fun cdv A outer s H E hr => (uss_one (us_if (PW.pt (u_and (t_isnt (u_var 0) u_non) (u_and1 (u_not (u_val (u_fP h_is_will hr (by decide) tk_fn (by rfl) (u_cons (u_var 0) u_nil))))))) (uss_one us_dead) uss_nil))
theorem sc_House_need_on : FnScope ["self", "caller"] ["self", "caller"] (defScope s_House_need_on) := ⟨rfl, rfl, rfl, by decide +kernel, rfl, by decide +kernel, by decide +kernel⟩
theorem ok_House_need_on {f : Addr} {fd : FuncData} {dvs : List V} {kws : List (Str × V)} (G : Gf P w K mg) (F : FunD K "need_on" "House.need_on" (defArgs s_House_need_on) (defBody s_House_need_on) (defScope s_House_need_on) dvs kws f fd) :
    FnOk P w K mg base (L2.CX P w) 1 f fd ["self", "caller"] (SpD K ⟨mg, P, w⟩ 2 D_House_need_on) :=
  have sc := sc_House_need_on
  fn_ok F sc fun cdv A outer s H E hr => (uss_one (us_if (t_nin hr (u_var 1) (u_fld G.cls_House G.noat_House_own_wills (u_var 0))) (uss_one us_dead) uss_nil))
theorem sc_House_off : FnScope ["self", "caller", "will"] ["self", "caller"] (defScope s_House_off) := ⟨rfl, rfl, rfl, by decide +kernel, rfl, by decide +kernel, by decide +kernel⟩
theorem ok_House_off {f : Addr} {fd : FuncData} {dvs : List V} {kws : List (Str × V)} (G : Gf P w K mg) (F : FunD K "off" "House.off" (defArgs s_House_off) (defBody s_House_off) (defScope s_House_off) dvs kws f fd) :
    FnOk P w K mg base (L2.CX P w) 1 f fd ["self", "caller"] (SpD K ⟨mg, P, w⟩ 2 D_House_off) :=
  have sc := sc_House_off
  fn_ok F sc fun cdv A outer s H E hr => (uss_cons (us_set (i := 2) sc.nd rfl (.inl rfl) (u_dpop (u_fld G.cls_House G.noat_House_own_wills (u_var 0)) (u_var 1) (m1))) (uss_cons (us_if (u_val (u_fld G.cls_Session G.noat_Session_clean (u_ix2 hr (u_fld G.cls_House G.noat_House_own_sessions (u_var 0)) (u_var 1) (fun _ _ => rfl)))) (uss_one (us_drop (u_dpop (u_fld G.cls_House G.noat_House_own_sessions (u_var 0)) (u_var 1) (m1)))) uss_nil) (uss_one (us_ret (u_var 2)))))
theorem sc_does_match : FnScope ["pattern", "name", "parts", "levels", "at", "part"] ["pattern", "name"] (defScope s_does_match) := ⟨rfl, rfl, rfl, by decide +kernel, rfl, by decide +kernel, by decide +kernel⟩
theorem ok_does_match {f : Addr} {fd : FuncData} {dvs : List V} {kws : List (Str × V)} (G : Gf P w K mg) (F : FunD K "does_match" "does_match" (defArgs s_does_match) (defBody s_does_match) (defScope s_does_match) dvs kws f fd) :
    FnOk P w K mg base (L2.CX P w) 1 f fd ["pattern", "name"] (SpD K ⟨mg, P, w⟩ 2 D_does_match) :=
  have sc := sc_does_match
  fn_ok F sc fun cdv A outer s H E hr => (uss_cons (us_par (i := 2) (j := 3) rfl sc.nd rfl rfl (by decide) rfl rfl (u_cons (m_split (u_var 0) u_str) (u_cons (m_split (u_var 1) u_str) u_nil)) rfl) (uss_cons (us_for po_fn rfl (it_enum G.f_enumerate (by rfl) (u_var 2)) (ug_tup rfl (ugs_cons zt_ok (ug_name (i := 4) (fun _ _ => trivial) sc.nd rfl (.inl rfl)) (ugs_cons zt_ok (ug_name (i := 5) (fun _ _ => trivial) sc.nd rfl (.inl rfl)) (ugs_nil zt_ok)))) (uss_cons (us_if (t_eq hr (u_var 5) (u_gs G.c_REST (by rfl))) (uss_one (us_ret u_bl)) uss_nil) (uss_one (us_if (PW.pt (u_or (t_eq hr (u_var 4) (b_len G.f_len (by rfl) (u_var 3))) (u_or1 (t_nin hr (u_var 5) (u_tup (u_cons (u_gs G.c_ANY (by rfl)) (u_cons (u_ix2 hr (u_var 3) (u_var 4) (fun _ _ => rfl)) u_nil))))))) (uss_one (us_ret u_bl)) uss_nil)))) (uss_one (us_ret (c_eq hr (b_len G.f_len (by rfl) (u_var 2)) (b_len G.f_len (by rfl) (u_var 3)))))))
theorem sc_best_by : FnScope ["wants", "name", "pattern", "quality"] ["wants", "name"] (defScope s_best_by) := ⟨rfl, rfl, rfl, by decide +kernel, rfl, by decide +kernel, by decide +kernel⟩
theorem ok_best_by {f : Addr} {fd : FuncData} {dvs : List V} {kws : List (Str × V)} (G : Gf P w K mg) (F : FunD K "best_by" "best_by" (defArgs s_best_by) (defBody s_best_by) (defScope s_best_by) dvs kws f fd) (h_does_match : Fn1 P w K mg base "does_match" ["pattern", "name"] 1 D_does_match) :
    FnOk P w K mg base (L2.CX P w) 2 f fd ["wants", "name"] (SpD K ⟨mg, P, w⟩ 2 D_best_by) :=
  have sc := sc_best_by
  fn_ok F sc fun cdv A outer s H E hr => (uss_one (us_ret (b_maxDef (by rfl) hr G.f_max (by rfl) (u_lc rfl sc.nd (ui_itm (u_var 0)) (blkOk_by (own := [("pattern", 2), ("quality", 3)]) (by show blkC N_best_by (defScope s_best_by) _ _ = true; decide +kernel)) (fun _ _ _ _ _ => (ug_tup rfl (ugs_cons zw_ok (ug_name (i := 2) (zw_set (by decide)) sc.nd rfl (.inl rfl)) (ugs_cons zw_ok (ug_name (i := 3) (zw_set (by decide)) sc.nd rfl (.inl rfl)) (ugs_nil zw_ok))))) (fun _ _ _ _ _ => (u_tst (u_val (u_fP h_does_match hr (by decide) tk0 (by rfl) (u_cons (u_var 2) (u_cons (u_var 1) u_nil)))))) (fun _ _ _ _ _ => (u_var 3))) u_non)))
theorem sc_House_worded : FnScope ["self", "caller", "packets", "found", "packet", "giver", "name", "word", "quality", "kept"] ["self", "caller", "packets"] (defScope s_House_worded) := ⟨rfl, rfl, rfl, by decide +kernel, rfl, by decide +kernel, by decide +kernel⟩
theorem ok_House_worded {f : Addr} {fd : FuncData} {dvs : List V} {kws : List (Str × V)} (G : Gf P w K mg) (F : FunD K "worded" "House.worded" (defArgs s_House_worded) (defBody s_House_worded) (defScope s_House_worded) dvs kws f fd) :
    FnOk P w K mg base (L2.CX P w) 1 f fd ["self", "caller", "packets"] (SpD K ⟨mg, P, w⟩ 3 D_House_worded) :=
  have sc := sc_House_worded
  fn_ok F sc fun cdv A outer s H E hr => (uss_cons (us_set (i := 3) sc.nd rfl (.inl rfl) (u_lstM u_nil)) (uss_cons (us_for po_fn rfl (ui_itm (u_var 2)) (ug_name (i := 4) (fun _ _ => trivial) sc.nd rfl (.inl rfl)) (uss_cons (us_if (t_eq hr (u_ix2 hr (u_var 4) u_int (fun _ _ => rfl)) u_str) (uss_cons (us_asg (u_ix2 hr (u_fld G.cls_House G.noat_House_own_words (u_var 0)) (u_ix2 hr (u_var 4) u_int (fun _ _ => rfl)) (fun _ _ => rfl)) (ug_tup rfl (ugs_cons zt_ok (ug_name (i := 5) (fun _ _ => trivial) sc.nd rfl (.inl rfl)) (ugs_cons zt_ok (ug_name (i := 6) (fun _ _ => trivial) sc.nd rfl (.inl rfl)) (ugs_cons zt_ok (ug_name (i := 7) (fun _ _ => trivial) sc.nd rfl (.inl rfl)) (ugs_cons zt_ok (ug_name (i := 8) (fun _ _ => trivial) sc.nd rfl (.inl rfl)) (ugs_cons zt_ok (ug_name (i := 9) (fun _ _ => trivial) sc.nd rfl (.inl rfl)) (ugs_nil zt_ok)))))))) (uss_one (us_set (i := 4) sc.nd rfl (.inl rfl) (u_tup (u_cons u_str (u_cons (u_ix2 hr (u_var 4) u_int (fun _ _ => rfl)) (u_cons (u_var 6) (u_cons (u_var 7) (u_cons (u_ix2 hr (u_var 4) u_int (fun _ _ => rfl)) (u_cons (u_var 9) u_nil)))))))))) uss_nil) (uss_one (us_drop (m_append (u_var 3) (u_tup (u_cons (u_var 1) (u_cons (u_var 4) u_nil)))))))) (uss_one (us_ret (u_frz (u_var 3))))))
theorem sc_free_of : FnScope ["sender", "window", "number", "one"] ["sender", "window"] (defScope s_free_of) := ⟨rfl, rfl, rfl, by decide +kernel, rfl, by decide +kernel, by decide +kernel⟩
theorem ok_free_of {f : Addr} {fd : FuncData} {dvs : List V} {kws : List (Str × V)} (G : Gf P w K mg) (F : FunD K "free_of" "free_of" (defArgs s_free_of) (defBody s_free_of) (defScope s_free_of) dvs kws f fd) :
    FnOk P w K mg base (L2.CX P w) 1 f fd ["sender", "window"] (SpD K ⟨mg, P, w⟩ 2 D_free_of) :=
  have sc := sc_free_of
  fn_ok F sc fun cdv A outer s H E hr => (uss_one (us_ret (u_lc rfl sc.nd (ui_r2 G.f_range (by rfl) u_int (o_add (u_var 1) u_int)) (blkOk_by (own := [("number", 2)]) (by show blkC N_free_of (defScope s_free_of) _ _ = true; decide +kernel)) (fun _ _ _ _ _ => (ug_name (i := 2) (zw_set (by decide)) sc.nd rfl (.inl rfl))) (fun _ _ _ _ _ => (u_tst (t_nin hr (u_var 2) (u_lc rfl sc.nd (ui_itm (u_var 0)) (blkOk_by (own := [("one", 3)]) (by show blkC N_free_of (relS _ (defScope s_free_of)) _ _ = true; decide +kernel)) (fun _ _ _ _ _ => (ug_name (i := 3) (zw_set (by decide)) sc.nd rfl (.inl rfl))) (fun _ _ _ _ _ => u_yes) (fun _ _ _ _ _ => (u_ix2 hr (u_var 3) u_int (fun _ _ => rfl))))))) (fun _ _ _ _ _ => (u_var 2)))))
theorem sc_offer : FnScope ["sender", "word", "quality", "window", "free", "number", "others"] ["sender", "word", "quality", "window"] (defScope s_offer) := ⟨rfl, rfl, rfl, by decide +kernel, rfl, by decide +kernel, by decide +kernel⟩
theorem ok_offer {f : Addr} {fd : FuncData} {dvs : List V} {kws : List (Str × V)} (G : Gf P w K mg) (F : FunD K "offer" "offer" (defArgs s_offer) (defBody s_offer) (defScope s_offer) dvs kws f fd) (h_free_of : Fn1 P w K mg base "free_of" ["sender", "window"] 1 D_free_of) :
    FnOk P w K mg base (L2.CX P w) 2 f fd ["sender", "word", "quality", "window"] (SpD K ⟨mg, P, w⟩ 4 D_offer) :=
  have sc := sc_offer
  fn_ok F sc fun cdv A outer s H E hr => (uss_cons (us_if (t_eq hr (u_var 2) u_int) (uss_one (us_ret (u_tup (u_cons (u_var 0) (u_cons (u_tup (u_cons (u_tup (u_cons u_str (u_cons u_int (u_cons (u_var 1) (u_cons u_int u_nil))))) u_nil)) u_nil))))) uss_nil) (uss_cons (us_set (i := 4) sc.nd rfl (.inl rfl) (u_fP h_free_of hr (by decide) tk_fn (by rfl) (u_cons (u_var 0) (u_cons (u_var 3) u_nil)))) (uss_cons (us_if (t_eq hr (u_var 4) (u_lst u_nil)) (uss_one us_dead) uss_nil) (uss_cons (us_asg (u_var 4) (ug_star 1 zt_ok rfl (ugs_cons zt_ok (ug_name (i := 5) (fun _ _ => trivial) sc.nd rfl (.inl rfl)) (ugs_star zt_ok (ug_name (i := 6) (fun _ _ => trivial) sc.nd rfl (.inl rfl)) (ugs_nil zt_ok))))) (uss_one (us_ret (u_tup (u_cons (o_add (u_var 0) (u_tup (u_cons (u_tup (u_cons (u_var 5) (u_cons (u_var 1) (u_cons (u_var 2) (u_cons u_bl u_nil))))) u_nil))) (u_cons (u_tup (u_cons (u_tup (u_cons u_str (u_cons (u_var 5) (u_cons (u_var 1) (u_cons (u_var 2) u_nil))))) u_nil)) u_nil)))))))))
theorem sc_House_drained : FnScope ["self", "caller", "session", "found", "word", "quality", "packets"] ["self", "caller"] (defScope s_House_drained) := ⟨rfl, rfl, rfl, by decide +kernel, rfl, by decide +kernel, by decide +kernel⟩
theorem ok_House_drained {f : Addr} {fd : FuncData} {dvs : List V} {kws : List (Str × V)} (G : Gf P w K mg) (F : FunD K "drained" "House.drained" (defArgs s_House_drained) (defBody s_House_drained) (defScope s_House_drained) dvs kws f fd) (h_free_of : Fn1 P w K mg base "free_of" ["sender", "window"] 1 D_free_of) (h_offer : Fn1 P w K mg base "offer" ["sender", "word", "quality", "window"] 2 D_offer) (h_House_worded : Fm1 P w K mg base "House" "worded" dd_House_worded ["self", "caller", "packets"] 1 D_House_worded) :
    FnOk P w K mg base (L2.CX P w) 3 f fd ["self", "caller"] (SpD K ⟨mg, P, w⟩ 2 D_House_drained) :=
  have sc := sc_House_drained
  fn_ok F sc fun cdv A outer s H E hr => (uss_cons (us_par (i := 2) (j := 3) rfl sc.nd rfl rfl (by decide) rfl rfl (u_cons (u_ix2 hr (u_fld G.cls_House G.noat_House_own_sessions (u_var 0)) (u_var 1) (fun _ _ => rfl)) (u_cons (u_lstM u_nil) u_nil)) rfl) (uss_cons (us_while 1000 po_fn (PW.pt (u_and (t_ne hr (u_fld G.cls_Session G.noat_Session_queue (u_var 2)) (u_lst u_nil)) (u_and1 (t_ne hr (u_fP h_free_of hr (by decide) tk_fn (by rfl) (u_cons (u_fld G.cls_Session G.noat_Session_out (u_var 2)) (u_cons (u_fld G.cls_House G.noat_House_own_window (u_var 0)) u_nil))) (u_lst u_nil))))) (uss_cons (us_asg (m_pop1 (u_fld G.cls_Session G.noat_Session_queue (u_var 2)) u_int) (ug_tup rfl (ugs_cons zt_ok (ug_name (i := 4) (fun _ _ => trivial) sc.nd rfl (.inl rfl)) (ugs_cons zt_ok (ug_name (i := 5) (fun _ _ => trivial) sc.nd rfl (.inl rfl)) (ugs_nil zt_ok))))) (uss_cons (us_asg (u_fP h_offer hr (by decide) tk_fn (by rfl) (u_cons (u_fld G.cls_Session G.noat_Session_out (u_var 2)) (u_cons (u_var 4) (u_cons (u_var 5) (u_cons (u_fld G.cls_House G.noat_House_own_window (u_var 0)) u_nil))))) (ug_tup rfl (ugs_cons zt_ok (ug_fld zt_ok G.cls_Session G.noat_Session_out (u_var 2)) (ugs_cons zt_ok (ug_name (i := 6) (fun _ _ => trivial) sc.nd rfl (.inl rfl)) (ugs_nil zt_ok))))) (uss_one (us_drop (m_extend (u_var 3) (u_meth (pl := _) h_House_worded cs_g (bd_House_worded_3_) hr (by decide) tk_fn (u_var 0) (u_cons (u_var 1) (u_cons (u_var 6) u_nil)) uk_nil))))))) (uss_one (us_ret (u_frz (u_var 3))))))
theorem sc_House_given_to : FnScope ["self", "caller", "number", "quality", "session"] ["self", "caller", "number", "quality"] (defScope s_House_given_to) := ⟨rfl, rfl, rfl, by decide +kernel, rfl, by decide +kernel, by decide +kernel⟩
theorem ok_House_given_to {f : Addr} {fd : FuncData} {dvs : List V} {kws : List (Str × V)} (G : Gf P w K mg) (F : FunD K "given_to" "House.given_to" (defArgs s_House_given_to) (defBody s_House_given_to) (defScope s_House_given_to) dvs kws f fd) (h_House_worded : Fm1 P w K mg base "House" "worded" dd_House_worded ["self", "caller", "packets"] 1 D_House_worded) (h_House_drained : Fm1 P w K mg base "House" "drained" dd_House_drained ["self", "caller"] 3 D_House_drained) :
    FnOk P w K mg base (L2.CX P w) 4 f fd ["self", "caller", "number", "quality"] (SpD K ⟨mg, P, w⟩ 4 D_House_given_to) :=
  have sc := sc_House_given_to
  fn_ok F sc fun cdv A outer s H E hr => (uss_cons (us_set (i := 4) sc.nd rfl (.inl rfl) (u_ix2 hr (u_fld G.cls_House G.noat_House_own_sessions (u_var 0)) (u_var 1) (fun _ _ => rfl))) (uss_cons (us_if (t_eq hr (u_var 3) u_int) (uss_cons (us_if (t_nin hr (u_var 1) (u_fld G.cls_House G.noat_House_own_wills (u_var 0))) (uss_one (us_ret (u_lst u_nil))) uss_nil) (uss_one (us_ret (u_meth (pl := _) h_House_worded cs_g (bd_House_worded_3_) hr (by decide) tk_fn (u_var 0) (u_cons (u_var 1) (u_cons (u_lst (u_cons (u_tup (u_cons u_str (u_cons u_int (u_cons (u_var 2) (u_cons u_int u_nil))))) u_nil)) u_nil)) uk_nil)))) uss_nil) (uss_cons (us_drop (m_append (u_fld G.cls_Session G.noat_Session_queue (u_var 4)) (u_tup (u_cons (u_var 2) (u_cons (u_var 3) u_nil))))) (uss_one (us_ret (u_ifExp (t_in hr (u_var 1) (u_fld G.cls_House G.noat_House_own_wills (u_var 0))) (u_meth (pl := _) h_House_drained cs_g (bd_House_drained_2_) hr (by decide) tk_fn (u_var 0) (u_cons (u_var 1) u_nil) uk_nil) (u_lst u_nil)))))))
theorem sc_House_accept : FnScope ["self", "row", "giver", "name", "word", "quality", "kept", "number", "found", "caller", "best"] ["self", "row"] (defScope s_House_accept) := ⟨rfl, rfl, rfl, by decide +kernel, rfl, by decide +kernel, by decide +kernel⟩
theorem ok_House_accept {f : Addr} {fd : FuncData} {dvs : List V} {kws : List (Str × V)} (G : Gf P w K mg) (F : FunD K "accept" "House.accept" (defArgs s_House_accept) (defBody s_House_accept) (defScope s_House_accept) dvs kws f fd) (h_best_by : Fn1 P w K mg base "best_by" ["wants", "name"] 2 D_best_by) (h_House_given_to : Fm1 P w K mg base "House" "given_to" dd_House_given_to ["self", "caller", "number", "quality"] 4 D_House_given_to) :
    FnOk P w K mg base (L2.CX P w) 5 f fd ["self", "row"] (SpD K ⟨mg, P, w⟩ 2 D_House_accept) :=
  have sc := sc_House_accept
  fn_ok F sc fun cdv A outer s H E hr => (uss_cons (us_asg (u_var 1) (ug_tup rfl (ugs_cons zt_ok (ug_name (i := 2) (fun _ _ => trivial) sc.nd rfl (.inl rfl)) (ugs_cons zt_ok (ug_name (i := 3) (fun _ _ => trivial) sc.nd rfl (.inl rfl)) (ugs_cons zt_ok (ug_name (i := 4) (fun _ _ => trivial) sc.nd rfl (.inl rfl)) (ugs_cons zt_ok (ug_name (i := 5) (fun _ _ => trivial) sc.nd rfl (.inl rfl)) (ugs_cons zt_ok (ug_name (i := 6) (fun _ _ => trivial) sc.nd rfl (.inl rfl)) (ugs_nil zt_ok)))))))) (uss_cons (us_set (i := 7) sc.nd rfl (.inl rfl) (b_len G.f_len (by rfl) (u_fld G.cls_House G.noat_House_own_words (u_var 0)))) (uss_cons (us_drop (m_append (u_fld G.cls_House G.noat_House_own_words (u_var 0)) (u_var 1))) (uss_cons (us_if (u_val (u_var 6)) (uss_cons (us_asg (u_var 7) (ug_ix2 zt_ok hr (u_fld G.cls_House G.noat_House_own_kept (u_var 0)) (u_var 3))) (uss_one (us_if (t_eq hr (u_var 4) u_str) (uss_one (us_drop (u_dpop (u_fld G.cls_House G.noat_House_own_kept (u_var 0)) (u_var 3) (m1)))) uss_nil))) uss_nil) (uss_cons (us_set (i := 8) sc.nd rfl (.inl rfl) (u_lstM u_nil)) (uss_cons (us_for po_fn rfl (ui_itm (b_sorted2 (by rfl) hr G.f_sorted (by rfl) (u_fld G.cls_House G.noat_House_own_sessions (u_var 0)))) (ug_name (i := 9) (fun _ _ => trivial) sc.nd rfl (.inl rfl)) (uss_cons (us_set (i := 10) sc.nd rfl (.inl rfl) (u_fP h_best_by hr (by decide) tk_fn (by rfl) (u_cons (u_fld G.cls_Session G.noat_Session_liked (u_ix2 hr (u_fld G.cls_House G.noat_House_own_sessions (u_var 0)) (u_var 9) (fun _ _ => rfl))) (u_cons (u_var 3) u_nil)))) (uss_one (us_if (t_isnt (u_var 10) u_non) (uss_one (us_drop (m_extend (u_var 8) (u_meth (pl := _) h_House_given_to cs_g (bd_House_given_to_4_) hr (by decide) tk_fn (u_var 0) (u_cons (u_var 9) (u_cons (u_var 7) (u_cons (b_min2 (by rfl) G.f_min (by rfl) (u_var 10) (u_var 5)) u_nil))) uk_nil)))) uss_nil)))) (uss_one (us_ret (u_var 8)))))))))
theorem sc_House_cut : FnScope ["self", "caller", "will"] ["self", "caller"] (defScope s_House_cut) := ⟨rfl, rfl, rfl, by decide +kernel, rfl, by decide +kernel, by decide +kernel⟩
theorem ok_House_cut {f : Addr} {fd : FuncData} {dvs : List V} {kws : List (Str × V)} (G : Gf P w K mg) (F : FunD K "cut" "House.cut" (defArgs s_House_cut) (defBody s_House_cut) (defScope s_House_cut) dvs kws f fd) (h_need_caller : Fn1 P w K mg base "need_caller" ["thing"] 3 D_need_caller) (h_House_need_on : Fm1 P w K mg base "House" "need_on" dd_House_need_on ["self", "caller"] 1 D_House_need_on) (h_House_off : Fm1 P w K mg base "House" "off" dd_House_off ["self", "caller"] 1 D_House_off) (h_House_accept : Fm1 P w K mg base "House" "accept" dd_House_accept ["self", "row"] 5 D_House_accept) :
    FnOk P w K mg base (L2.CX P w) 6 f fd ["self", "caller"] (SpD K ⟨mg, P, w⟩ 2 D_House_cut) :=
  have sc := sc_House_cut
  fn_ok F sc fun cdv A outer s H E hr => (uss_cons (us_drop (u_fP h_need_caller hr (by decide) tk_fn (by rfl) (u_cons (u_var 1) u_nil))) (uss_cons (us_drop (u_meth (pl := _) h_House_need_on cs_g (bd_House_need_on_2_) hr (by decide) tk_fn (u_var 0) (u_cons (u_var 1) u_nil) uk_nil)) (uss_cons (us_set (i := 2) sc.nd rfl (.inl rfl) (u_meth (pl := _) h_House_off cs_g (bd_House_off_2_) hr (by decide) tk_fn (u_var 0) (u_cons (u_var 1) u_nil) uk_nil)) (uss_one (us_ret (u_ifExp (t_is (u_var 2) u_non) (u_lstM u_nil) (u_meth (pl := _) h_House_accept cs_g (bd_House_accept_2_) hr (by decide) tk_fn (u_var 0) (u_cons (o_add (u_tup (u_cons (u_var 1) u_nil)) (u_var 2)) u_nil) uk_nil)))))))
theorem sc_Session___init__ : FnScope ["self", "clean"] ["self", "clean"] (defScope s_Session___init__) := ⟨rfl, rfl, rfl, by decide +kernel, rfl, by decide +kernel, by decide +kernel⟩
theorem ok_Session___init__ {f : Addr} {fd : FuncData} {dvs : List V} {kws : List (Str × V)} (G : Gf P w K mg) (F : FunD K "__init__" "Session.__init__" (defArgs s_Session___init__) (defBody s_Session___init__) (defScope s_Session___init__) dvs kws f fd) :
    FnOk P w K mg base (L2.CX P w) 1 f fd ["self", "clean"] (SpD K ⟨mg, P, w⟩ 2 D_Session___init__) :=
  have sc := sc_Session___init__
  fn_ok F sc fun cdv A outer s H E hr => (uss_cons (us_setF G.cls_Session G.noat_Session_clean (u_var 0) (u_var 1)) (uss_cons (us_setF G.cls_Session G.noat_Session_liked (u_var 0) (u_tup u_nil)) (uss_cons (us_setF G.cls_Session G.noat_Session_out (u_var 0) (u_tup u_nil)) (uss_cons (us_setF G.cls_Session G.noat_Session_notes (u_var 0) (u_tup u_nil)) (uss_one (us_setF G.cls_Session G.noat_Session_queue (u_var 0) (u_lstM u_nil)))))))
theorem sc_sent_again : FnScope ["rules", "sender", "found", "number", "word", "quality", "released"] ["rules", "sender"] (defScope s_sent_again) := ⟨rfl, rfl, rfl, by decide +kernel, rfl, by decide +kernel, by decide +kernel⟩
theorem ok_sent_again {f : Addr} {fd : FuncData} {dvs : List V} {kws : List (Str × V)} (G : Gf P w K mg) (F : FunD K "sent_again" "sent_again" (defArgs s_sent_again) (defBody s_sent_again) (defScope s_sent_again) dvs kws f fd) :
    FnOk P w K mg base (L2.CX P w) 1 f fd ["rules", "sender"] (SpD K ⟨mg, P, w⟩ 2 D_sent_again) :=
  have sc := sc_sent_again
  fn_ok F sc fun cdv A outer s H E hr => (uss_cons (us_if (u_not (u_val (u_ix2 hr (u_var 0) u_int (fun _ _ => rfl)))) (uss_one (us_ret (u_tup u_nil))) uss_nil) (uss_cons (us_set (i := 2) sc.nd rfl (.inl rfl) (u_lstM u_nil)) (uss_cons (us_for po_fn rfl (ui_itm (u_var 1)) (ug_tup rfl (ugs_cons zt_ok (ug_name (i := 3) (fun _ _ => trivial) sc.nd rfl (.inl rfl)) (ugs_cons zt_ok (ug_name (i := 4) (fun _ _ => trivial) sc.nd rfl (.inl rfl)) (ugs_cons zt_ok (ug_name (i := 5) (fun _ _ => trivial) sc.nd rfl (.inl rfl)) (ugs_cons zt_ok (ug_name (i := 6) (fun _ _ => trivial) sc.nd rfl (.inl rfl)) (ugs_nil zt_ok)))))) (uss_one (us_drop (m_append (u_var 2) (u_ifExp (u_val (u_var 6)) (u_tup (u_cons u_str (u_cons (u_var 3) u_nil))) (u_tup (u_cons u_str (u_cons (u_var 3) (u_cons (u_var 4) (u_cons (u_var 5) u_nil)))))))))) (uss_one (us_ret (b_tuple G.f_tuple (by rfl) (u_var 2)))))))
theorem sc_House_come : FnScope ["self", "caller", "clean", "will", "found", "known"] ["self", "caller", "clean", "will"] (defScope s_House_come) := ⟨rfl, rfl, rfl, by decide +kernel, rfl, by decide +kernel, by decide +kernel⟩
theorem ok_House_come {f : Addr} {fd : FuncData} {dvs : List V} {kws : List (Str × V)} (G : Gf P w K mg) (F : FunD K "come" "House.come" (defArgs s_House_come) (defBody s_House_come) (defScope s_House_come) dvs kws f fd) (h_need_caller : Fn1 P w K mg base "need_caller" ["thing"] 3 D_need_caller) (h_need_will : Fn1 P w K mg base "need_will" ["thing"] 5 D_need_will) (h_House_cut : Fm1 P w K mg base "House" "cut" dd_House_cut ["self", "caller"] 6 D_House_cut) (i_Session___init__ : Fi1 P w K mg base "Session" dd_Session___init__ ["self", "clean"] 1 D_Session___init__) (h_House_worded : Fm1 P w K mg base "House" "worded" dd_House_worded ["self", "caller", "packets"] 1 D_House_worded) (h_sent_again : Fn1 P w K mg base "sent_again" ["rules", "sender"] 1 D_sent_again) (h_House_drained : Fm1 P w K mg base "House" "drained" dd_House_drained ["self", "caller"] 3 D_House_drained) :
    FnOk P w K mg base (L2.CX P w) 7 f fd ["self", "caller", "clean", "will"] (SpD K ⟨mg, P, w⟩ 4 D_House_come) :=
  have sc := sc_House_come
  fn_ok F sc fun cdv A outer s H E hr => (uss_cons (us_drop (u_fP h_need_caller hr (by decide) tk_fn (by rfl) (u_cons (u_var 1) u_nil))) (uss_cons (us_drop (u_fP h_need_will hr (by decide) tk_fn (by rfl) (u_cons (u_var 3) u_nil))) (uss_cons (us_set (i := 4) sc.nd rfl (.inl rfl) (u_ifExp (t_in hr (u_var 1) (u_fld G.cls_House G.noat_House_own_wills (u_var 0))) (u_meth (pl := _) h_House_cut cs_g (bd_House_cut_2_) hr (by decide) tk_fn (u_var 0) (u_cons (u_var 1) u_nil) uk_nil) (u_lstM u_nil))) (uss_cons (us_set (i := 5) sc.nd rfl (.inl rfl) (u_andV (u_notV (u_var 2)) (u_one (c_in hr (u_var 1) (u_fld G.cls_House G.noat_House_own_sessions (u_var 0)))))) (uss_cons (us_if (u_not (u_val (u_var 5))) (uss_one (us_asg (u_make i_Session___init__ cs_g (bd_Session___init___2_) hr (by decide) tk_fn (by rfl) (u_cons (u_var 2) u_nil) uk_nil) (ug_ix2 zt_ok hr (u_fld G.cls_House G.noat_House_own_sessions (u_var 0)) (u_var 1)))) uss_nil) (uss_cons (us_asg (u_var 3) (ug_ix2 zt_ok hr (u_fld G.cls_House G.noat_House_own_wills (u_var 0)) (u_var 1))) (uss_cons (us_drop (m_append (u_var 4) (u_tup (u_cons (u_var 1) (u_cons (u_tup (u_cons u_str (u_cons (u_var 5) u_nil))) u_nil))))) (uss_cons (us_drop (m_extend (u_var 4) (u_meth (pl := _) h_House_worded cs_g (bd_House_worded_3_) hr (by decide) tk_fn (u_var 0) (u_cons (u_var 1) (u_cons (u_fP h_sent_again hr (by decide) tk_fn (by rfl) (u_cons (u_gd G.c_RIGHT (by rfl)) (u_cons (u_fld G.cls_Session G.noat_Session_out (u_ix2 hr (u_fld G.cls_House G.noat_House_own_sessions (u_var 0)) (u_var 1) (fun _ _ => rfl))) u_nil))) u_nil)) uk_nil))) (uss_one (us_ret (o_add (u_var 4) (u_meth (pl := _) h_House_drained cs_g (bd_House_drained_2_) hr (by decide) tk_fn (u_var 0) (u_cons (u_var 1) u_nil) uk_nil))))))))))))
theorem sc_is_filter : FnScope ["thing", "last", "most", "part"] ["thing"] (defScope s_is_filter) := ⟨rfl, rfl, rfl, by decide +kernel, rfl, by decide +kernel, by decide +kernel⟩
theorem ok_is_filter {f : Addr} {fd : FuncData} {dvs : List V} {kws : List (Str × V)} (G : Gf P w K mg) (F : FunD K "is_filter" "is_filter" (defArgs s_is_filter) (defBody s_is_filter) (defScope s_is_filter) dvs kws f fd) (h_is_level : Fn1 P w K mg base "is_level" ["thing"] 2 D_is_level) :
    FnOk P w K mg base (L2.CX P w) 3 f fd ["thing"] (SpD K ⟨mg, P, w⟩ 1 D_is_filter) :=
  have sc := sc_is_filter
  fn_ok F sc fun cdv A outer s H E hr => (uss_cons (us_if (u_not (u_val (b_isi G.f_isinstance (by rfl) (u_var 0) (u_ty G.f_str boot_str (by rfl))))) (uss_one (us_ret u_bl)) uss_nil) (uss_cons (us_asg (m_split (u_var 0) u_str) (ug_star 0 zt_ok rfl (ugs_star zt_ok (ug_name (i := 2) (fun _ _ => trivial) sc.nd rfl (.inl rfl)) (ugs_cons zt_ok (ug_name (i := 1) (fun _ _ => trivial) sc.nd rfl (.inl rfl)) (ugs_nil zt_ok))))) (uss_cons (us_if (PW.pt (u_or (t_ge (b_len G.f_len (by rfl) (u_var 2)) (u_gi G.c_MOST_LEVELS (by rfl))) (u_or1 (u_not (u_val (b_all (by rfl) G.f_all (by rfl) (u_lc rfl sc.nd (ui_itm (u_var 2)) (blkOk_by (own := [("part", 3)]) (by show blkC N_is_filter (defScope s_is_filter) _ _ = true; decide +kernel)) (fun _ _ _ _ _ => (ug_name (i := 3) (zw_set (by decide)) sc.nd rfl (.inl rfl))) (fun _ _ _ _ _ => u_yes) (fun _ _ _ _ _ => (u_orV (c_eq hr (u_var 3) (u_gs G.c_ANY (by rfl))) (u_one (u_fP h_is_level hr (by decide) tk0 (by rfl) (u_cons (u_var 3) u_nil)))))))))))) (uss_one (us_ret u_bl)) uss_nil) (uss_one (us_ret (u_orV (c_in hr (u_var 1) (u_tup (u_cons (u_gs G.c_ANY (by rfl)) (u_cons (u_gs G.c_REST (by rfl)) u_nil)))) (u_one (u_fP h_is_level hr (by decide) tk_fn (by rfl) (u_cons (u_var 1) u_nil)))))))))
theorem sc_need_filter : FnScope ["thing"] ["thing"] (defScope s_need_filter) := ⟨rfl, rfl, rfl, by decide +kernel, rfl, by decide +kernel, by decide +kernel⟩
theorem ok_need_filter {f : Addr} {fd : FuncData} {dvs : List V} {kws : List (Str × V)} (G : Gf P w K mg) (F : FunD K "need_filter" "need_filter" (defArgs s_need_filter) (defBody s_need_filter) (defScope s_need_filter) dvs kws f fd) (h_is_filter : Fn1 P w K mg base "is_filter" ["thing"] 3 D_is_filter) :
    FnOk P w K mg base (L2.CX P w) 4 f fd ["thing"] (SpD K ⟨mg, P, w⟩ 1 D_need_filter) :=
  have sc := sc_need_filter
  fn_ok F sc fun cdv A outer s H E hr => (uss_one (us_if (u_not (u_val (u_fP h_is_filter hr (by decide) tk_fn (by rfl) (u_cons (u_var 0) u_nil)))) (uss_one us_dead) uss_nil))
theorem sc_need_quality : FnScope ["thing"] ["thing"] (defScope s_need_quality) := ⟨rfl, rfl, rfl, by decide +kernel, rfl, by decide +kernel, by decide +kernel⟩
theorem ok_need_quality {f : Addr} {fd : FuncData} {dvs : List V} {kws : List (Str × V)} (G : Gf P w K mg) (F : FunD K "need_quality" "need_quality" (defArgs s_need_quality) (defBody s_need_quality) (defScope s_need_quality) dvs kws f fd) (h_is_quality : Fn1 P w K mg base "is_quality" ["thing"] 2 D_is_quality) :
    FnOk P w K mg base (L2.CX P w) 3 f fd ["thing"] (SpD K ⟨mg, P, w⟩ 1 D_need_quality) :=
  have sc := sc_need_quality
  fn_ok F sc fun cdv A outer s H E hr => (uss_one (us_if (u_not (u_val (u_fP h_is_quality hr (by decide) tk_fn (by rfl) (u_cons (u_var 0) u_nil)))) (uss_one us_dead) uss_nil))
theorem sc_order_of : FnScope ["name", "levels"] ["name"] (defScope s_order_of) := ⟨rfl, rfl, rfl, by decide +kernel, rfl, by decide +kernel, by decide +kernel⟩
theorem ok_order_of {f : Addr} {fd : FuncData} {dvs : List V} {kws : List (Str × V)} (G : Gf P w K mg) (F : FunD K "order_of" "order_of" (defArgs s_order_of) (defBody s_order_of) (defScope s_order_of) dvs kws f fd) :
    FnOk P w K mg base (L2.CX P w) 1 f fd ["name"] (SpD K ⟨mg, P, w⟩ 1 D_order_of) :=
  have sc := sc_order_of
  fn_ok F sc fun cdv A outer s H E hr => (uss_cons (us_set (i := 1) sc.nd rfl (.inl rfl) (m_split (u_var 0) u_str)) (uss_one (us_ret (u_tup (u_cons (b_len G.f_len (by rfl) (u_var 1)) (u_cons (u_var 1) u_nil))))))
theorem sc_House_kept_names : FnScope ["self"] ["self"] (defScope s_House_kept_names) := ⟨rfl, rfl, rfl, by decide +kernel, rfl, by decide +kernel, by decide +kernel⟩
theorem ok_House_kept_names {f : Addr} {fd : FuncData} {dvs : List V} {kws : List (Str × V)} (G : Gf P w K mg) (F : FunD K "kept_names" "House.kept_names" (defArgs s_House_kept_names) (defBody s_House_kept_names) (defScope s_House_kept_names) dvs kws f fd) (h_order_of : Fn1 P w K mg base "order_of" ["name"] 1 D_order_of) :
    FnOk P w K mg base (L2.CX P w) 4 f fd ["self"] (SpD K ⟨mg, P, w⟩ 1 D_House_kept_names) :=
  have sc := sc_House_kept_names
  fn_ok F sc fun cdv A outer s H E hr => (uss_one (us_ret (b_sortK h_order_of hr (by decide) (by rfl) G.f_sorted (by rfl) (b_list (by rfl) G.f_list (by rfl) (u_fld G.cls_House G.noat_House_own_kept (u_var 0))))))
theorem sc_House_wants : FnScope ["self", "caller", "pattern", "quality", "session", "left", "want", "found", "name", "number"] ["self", "caller", "pattern", "quality"] (defScope s_House_wants) := ⟨rfl, rfl, rfl, by decide +kernel, rfl, by decide +kernel, by decide +kernel⟩
theorem ok_House_wants {f : Addr} {fd : FuncData} {dvs : List V} {kws : List (Str × V)} (G : Gf P w K mg) (F : FunD K "wants" "House.wants" (defArgs s_House_wants) (defBody s_House_wants) (defScope s_House_wants) dvs kws f fd) (h_need_caller : Fn1 P w K mg base "need_caller" ["thing"] 3 D_need_caller) (h_need_filter : Fn1 P w K mg base "need_filter" ["thing"] 4 D_need_filter) (h_need_quality : Fn1 P w K mg base "need_quality" ["thing"] 3 D_need_quality) (h_House_need_on : Fm1 P w K mg base "House" "need_on" dd_House_need_on ["self", "caller"] 1 D_House_need_on) (h_House_kept_names : Fm1 P w K mg base "House" "kept_names" dd_House_kept_names ["self"] 4 D_House_kept_names) (h_does_match : Fn1 P w K mg base "does_match" ["pattern", "name"] 1 D_does_match) (h_House_given_to : Fm1 P w K mg base "House" "given_to" dd_House_given_to ["self", "caller", "number", "quality"] 4 D_House_given_to) :
    FnOk P w K mg base (L2.CX P w) 5 f fd ["self", "caller", "pattern", "quality"] (SpD K ⟨mg, P, w⟩ 4 D_House_wants) :=
  have sc := sc_House_wants
  fn_ok F sc fun cdv A outer s H E hr => (uss_cons (us_drop (u_fP h_need_caller hr (by decide) tk_fn (by rfl) (u_cons (u_var 1) u_nil))) (uss_cons (us_drop (u_fP h_need_filter hr (by decide) tk_fn (by rfl) (u_cons (u_var 2) u_nil))) (uss_cons (us_drop (u_fP h_need_quality hr (by decide) tk_fn (by rfl) (u_cons (u_var 3) u_nil))) (uss_cons (us_drop (u_meth (pl := _) h_House_need_on cs_g (bd_House_need_on_2_) hr (by decide) tk_fn (u_var 0) (u_cons (u_var 1) u_nil) uk_nil)) (uss_cons (us_set (i := 4) sc.nd rfl (.inl rfl) (u_ix2 hr (u_fld G.cls_House G.noat_House_own_sessions (u_var 0)) (u_var 1) (fun _ _ => rfl))) (uss_cons (us_setLc (i := 5) rfl sc.nd rfl rfl rfl (ui_itm (u_fld G.cls_Session G.noat_Session_liked (u_var 4))) (blkOk_by (own := [("want", 6)]) (by show blkC N_House_wants (defScope s_House_wants) _ _ = true; decide +kernel)) (fun _ _ _ _ _ => (ug_name (i := 6) (zw_set (by decide)) sc.nd rfl (.inl rfl))) (fun _ _ _ _ _ => (u_tst (t_ne hr (u_ix2 hr (u_var 6) u_int (fun _ _ => rfl)) (u_var 2)))) (fun _ _ _ _ _ => (u_var 6))) (uss_cons (us_if (t_eq hr (b_len G.f_len (by rfl) (u_var 5)) (u_gi G.c_MOST_WANTS (by rfl))) (uss_one us_dead) uss_nil) (uss_cons (us_setF G.cls_Session G.noat_Session_liked (u_var 4) (b_tuple G.f_tuple (by rfl) (b_sorted2 (by rfl) hr G.f_sorted (by rfl) (o_add (u_var 5) (u_lst (u_cons (u_tup (u_cons (u_var 2) (u_cons (u_var 3) u_nil))) u_nil)))))) (uss_cons (us_set (i := 7) sc.nd rfl (.inl rfl) (u_lstM u_nil)) (uss_cons (us_for po_fn rfl (ui_itm (u_meth0 (pl := _) h_House_kept_names cs_g (bd_House_kept_names_1_) hr (by decide) tk_fn (u_var 0) uk_nil)) (ug_name (i := 8) (fun _ _ => trivial) sc.nd rfl (.inl rfl)) (uss_one (us_if (u_val (u_fP h_does_match hr (by decide) tk_fn (by rfl) (u_cons (u_var 2) (u_cons (u_var 8) u_nil)))) (uss_cons (us_set (i := 9) sc.nd rfl (.inl rfl) (u_ix2 hr (u_fld G.cls_House G.noat_House_own_kept (u_var 0)) (u_var 8) (fun _ _ => rfl))) (uss_one (us_drop (m_extend (u_var 7) (u_meth (pl := _) h_House_given_to cs_g (bd_House_given_to_4_) hr (by decide) tk_fn (u_var 0) (u_cons (u_var 1) (u_cons (u_var 9) (u_cons (b_min2 (by rfl) G.f_min (by rfl) (u_var 3) (u_ix2 hr (u_ix2 hr (u_fld G.cls_House G.noat_House_own_words (u_var 0)) (u_var 9) (fun _ _ => rfl)) u_int (fun _ _ => rfl))) u_nil))) uk_nil))))) uss_nil))) (uss_one (us_ret (u_var 7)))))))))))))
theorem sc__law_more : FnScope ["_law_box_here", "_law_number", "_law_j"] ["_law_box_here"] (defScope s__law_more) := ⟨rfl, rfl, rfl, by decide +kernel, rfl, by decide +kernel, by decide +kernel⟩
theorem ok__law_more {f : Addr} {fd : FuncData} {dvs : List V} {kws : List (Str × V)} (G : Gf P w K mg) (F : FunD K "_law_more" "_law_more" (defArgs s__law_more) (defBody s__law_more) (defScope s__law_more) dvs kws f fd) :
    FnOk P w K mg base (L2.CX P w) 1 f fd ["_law_box_here"] (SpD K ⟨mg, P, w⟩ 1 D__law_more) :=
  have sc := sc__law_more
  fn_ok F sc fun cdv A outer s H E hr => (uss_cons (us_set (i := 1) sc.nd rfl (.inl rfl) u_int) (uss_cons (us_for po_fn rfl (ui_r1 G.f_range (by rfl) u_int) (ug_name (i := 2) (fun _ _ => trivial) sc.nd rfl (.inl rfl)) (uss_cons (us_asg (o_mod (o_add (o_mul (u_ix2 hr (u_var 0) u_int (fun _ _ => rfl)) u_int) u_int) u_int) (ug_ix2 zt_ok hr (u_var 0) u_int)) (uss_one (us_set (i := 1) sc.nd rfl (.inl rfl) (o_add (o_mul (u_var 1) u_int) (o_mod (o_div (u_ix2 hr (u_var 0) u_int (fun _ _ => rfl)) u_int) u_int)))))) (uss_one (us_ret (u_var 1)))))
theorem sc__law_take : FnScope ["_law_box_here", "_law_count", "_law_rest_of", "_law_digit"] ["_law_box_here", "_law_count"] (defScope s__law_take) := ⟨rfl, rfl, rfl, by decide +kernel, rfl, by decide +kernel, by decide +kernel⟩
theorem ok__law_take {f : Addr} {fd : FuncData} {dvs : List V} {kws : List (Str × V)} (G : Gf P w K mg) (F : FunD K "_law_take" "_law_take" (defArgs s__law_take) (defBody s__law_take) (defScope s__law_take) dvs kws f fd) (h__law_more : Fn1 P w K mg base "_law_more" ["_law_box_here"] 1 D__law_more) :
    FnOk P w K mg base (L2.CX P w) 2 f fd ["_law_box_here", "_law_count"] (SpD K ⟨mg, P, w⟩ 2 D__law_take) :=
  have sc := sc__law_take
  fn_ok F sc fun cdv A outer s H E hr => (uss_cons (us_if (t_lelt u_int (u_ix2 hr (u_var 0) u_int (fun _ _ => rfl)) (u_var 1)) (uss_one (us_asg (o_add (u_ix2 hr (u_var 0) u_int (fun _ _ => rfl)) (o_mul (u_var 1) (u_fB 0 h__law_more hr (by decide) tk_fn (by rfl) (u_cons (u_var 0) u_nil)))) (ug_ix2 zt_ok hr (u_var 0) u_int))) uss_nil) (uss_cons (us_asg (b_divmod G.f_divmod (by rfl) (u_ix2 hr (u_var 0) u_int (fun _ _ => rfl)) (u_var 1)) (ug_tup rfl (ugs_cons zt_ok (ug_name (i := 2) (fun _ _ => trivial) sc.nd rfl (.inl rfl)) (ugs_cons zt_ok (ug_name (i := 3) (fun _ _ => trivial) sc.nd rfl (.inl rfl)) (ugs_nil zt_ok))))) (uss_cons (us_asg (u_var 2) (ug_ix2 zt_ok hr (u_var 0) u_int)) (uss_one (us_ret (u_var 3))))))
theorem sc__law_level : FnScope ["_law_box_here", "_law_letters", "_law_sign"] ["_law_box_here"] (defScope s__law_level) := ⟨rfl, rfl, rfl, by decide +kernel, rfl, by decide +kernel, by decide +kernel⟩
theorem ok__law_level {f : Addr} {fd : FuncData} {dvs : List V} {kws : List (Str × V)} (G : Gf P w K mg) (F : FunD K "_law_level" "_law_level" (defArgs s__law_level) (defBody s__law_level) (defScope s__law_level) dvs kws f fd) (h__law_take : Fn1 P w K mg base "_law_take" ["_law_box_here", "_law_count"] 2 D__law_take) :
    FnOk P w K mg base (L2.CX P w) 3 f fd ["_law_box_here"] (SpD K ⟨mg, P, w⟩ 1 D__law_level) :=
  have sc := sc__law_level
  fn_ok F sc fun cdv A outer s H E hr => (uss_cons (us_set (i := 1) sc.nd rfl (.inr rfl) u_str) (uss_cons (us_if (t_gt (u_fB 0 h__law_take hr (by decide) tk_fn (by rfl) (u_cons (u_var 0) (u_cons u_int u_nil))) u_int) (uss_one (us_ret (u_ix2 hr (u_lst (u_cons u_str (u_cons u_str (u_cons u_str u_nil)))) (u_fB 0 h__law_take hr (by decide) tk_fn (by rfl) (u_cons (u_var 0) (u_cons u_int u_nil))) (fun _ _ => rfl)))) uss_nil) (uss_one (us_ret (m_join u_str (u_lc rfl sc.nd (ui_r1 G.f_range (by rfl) (o_add u_int (u_fB 0 h__law_take hr (by decide) tk_fn (by rfl) (u_cons (u_var 0) (u_cons u_int u_nil))))) (blkOk_by (own := [("_law_sign", 2)]) (by show blkC N__law_level (defScope s__law_level) _ _ = true; decide +kernel)) (fun _ _ _ _ _ => (ug_name (i := 2) (zw_set (by decide)) sc.nd rfl (.inl rfl))) (fun _ _ _ _ _ => u_yes) (fun _ _ _ _ _ => (u_ix2 hr (u_var 1) (u_fB 0 h__law_take hr (by decide) tk0 (by rfl) (u_cons (u_var 0) (u_cons u_int u_nil))) (fun _ _ => rfl)))))))))
theorem sc__law_topic : FnScope ["_law_box_here", "_law_part"] ["_law_box_here"] (defScope s__law_topic) := ⟨rfl, rfl, rfl, by decide +kernel, rfl, by decide +kernel, by decide +kernel⟩
theorem ok__law_topic {f : Addr} {fd : FuncData} {dvs : List V} {kws : List (Str × V)} (G : Gf P w K mg) (F : FunD K "_law_topic" "_law_topic" (defArgs s__law_topic) (defBody s__law_topic) (defScope s__law_topic) dvs kws f fd) (h__law_take : Fn1 P w K mg base "_law_take" ["_law_box_here", "_law_count"] 2 D__law_take) (h__law_level : Fn1 P w K mg base "_law_level" ["_law_box_here"] 3 D__law_level) :
    FnOk P w K mg base (L2.CX P w) 4 f fd ["_law_box_here"] (SpD K ⟨mg, P, w⟩ 1 D__law_topic) :=
  have sc := sc__law_topic
  fn_ok F sc fun cdv A outer s H E hr => (uss_one (us_ret (m_join u_str (u_lc rfl sc.nd (ui_r1 G.f_range (by rfl) (o_add u_int (o_mul (u_fB 0 h__law_take hr (by decide) tk_fn (by rfl) (u_cons (u_var 0) (u_cons u_int u_nil))) (u_fB 0 h__law_take hr (by decide) tk_fn (by rfl) (u_cons (u_var 0) (u_cons u_int u_nil)))))) (blkOk_by (own := [("_law_part", 1)]) (by show blkC N__law_topic (defScope s__law_topic) _ _ = true; decide +kernel)) (fun _ _ _ _ _ => (ug_name (i := 1) (zw_set (by decide)) sc.nd rfl (.inl rfl))) (fun _ _ _ _ _ => u_yes) (fun _ _ _ _ _ => (u_fB 0 h__law_level hr (by decide) tk0 (by rfl) (u_cons (u_var 0) u_nil)))))))
theorem sc__law_text : FnScope ["_law_box_here", "_law_letters", "_law_many", "_law_sign"] ["_law_box_here"] (defScope s__law_text) := ⟨rfl, rfl, rfl, by decide +kernel, rfl, by decide +kernel, by decide +kernel⟩
theorem ok__law_text {f : Addr} {fd : FuncData} {dvs : List V} {kws : List (Str × V)} (G : Gf P w K mg) (F : FunD K "_law_text" "_law_text" (defArgs s__law_text) (defBody s__law_text) (defScope s__law_text) dvs kws f fd) (h__law_take : Fn1 P w K mg base "_law_take" ["_law_box_here", "_law_count"] 2 D__law_take) :
    FnOk P w K mg base (L2.CX P w) 3 f fd ["_law_box_here"] (SpD K ⟨mg, P, w⟩ 1 D__law_text) :=
  have sc := sc__law_text
  fn_ok F sc fun cdv A outer s H E hr => (uss_cons (us_set (i := 1) sc.nd rfl (.inr rfl) u_str) (uss_cons (us_set (i := 2) sc.nd rfl (.inl rfl) (u_ix2 hr (u_lst (u_cons u_int (u_cons u_int (u_cons u_int (u_cons u_int (u_cons (u_fB 0 h__law_take hr (by decide) tk_fn (by rfl) (u_cons (u_var 0) (u_cons u_int u_nil))) u_nil)))))) (u_fB 0 h__law_take hr (by decide) tk_fn (by rfl) (u_cons (u_var 0) (u_cons u_int u_nil))) (fun _ _ => rfl))) (uss_one (us_ret (m_join u_str (u_lc rfl sc.nd (ui_r1 G.f_range (by rfl) (u_var 2)) (blkOk_by (own := [("_law_sign", 3)]) (by show blkC N__law_text (defScope s__law_text) _ _ = true; decide +kernel)) (fun _ _ _ _ _ => (ug_name (i := 3) (zw_set (by decide)) sc.nd rfl (.inl rfl))) (fun _ _ _ _ _ => u_yes) (fun _ _ _ _ _ => (u_ix2 hr (u_var 1) (u_fB 0 h__law_take hr (by decide) tk0 (by rfl) (u_cons (u_var 0) (u_cons u_int u_nil))) (fun _ _ => rfl)))))))))
theorem sc__law_will : FnScope ["_law_box_here"] ["_law_box_here"] (defScope s__law_will) := ⟨rfl, rfl, rfl, by decide +kernel, rfl, by decide +kernel, by decide +kernel⟩
theorem ok__law_will {f : Addr} {fd : FuncData} {dvs : List V} {kws : List (Str × V)} (G : Gf P w K mg) (F : FunD K "_law_will" "_law_will" (defArgs s__law_will) (defBody s__law_will) (defScope s__law_will) dvs kws f fd) (h__law_take : Fn1 P w K mg base "_law_take" ["_law_box_here", "_law_count"] 2 D__law_take) (h__law_topic : Fn1 P w K mg base "_law_topic" ["_law_box_here"] 4 D__law_topic) (h__law_text : Fn1 P w K mg base "_law_text" ["_law_box_here"] 3 D__law_text) :
    FnOk P w K mg base (L2.CX P w) 5 f fd ["_law_box_here"] (SpD K ⟨mg, P, w⟩ 1 D__law_will) :=
  have sc := sc__law_will
  fn_ok F sc fun cdv A outer s H E hr => (uss_cons (us_if (t_eq hr (u_fB 0 h__law_take hr (by decide) tk_fn (by rfl) (u_cons (u_var 0) (u_cons u_int u_nil))) u_int) (uss_one (us_ret u_non)) uss_nil) (uss_one (us_ret (u_tup (u_cons (u_fB 0 h__law_topic hr (by decide) tk_fn (by rfl) (u_cons (u_var 0) u_nil)) (u_cons (u_fB 0 h__law_text hr (by decide) tk_fn (by rfl) (u_cons (u_var 0) u_nil)) (u_cons (u_fB 0 h__law_take hr (by decide) tk_fn (by rfl) (u_cons (u_var 0) (u_cons u_int u_nil))) (u_cons (c_eq hr (u_fB 0 h__law_take hr (by decide) tk_fn (by rfl) (u_cons (u_var 0) (u_cons u_int u_nil))) u_int) u_nil))))))))
theorem sc_House_goes : FnScope ["self", "caller"] ["self", "caller"] (defScope s_House_goes) := ⟨rfl, rfl, rfl, by decide +kernel, rfl, by decide +kernel, by decide +kernel⟩
theorem ok_House_goes {f : Addr} {fd : FuncData} {dvs : List V} {kws : List (Str × V)} (G : Gf P w K mg) (F : FunD K "goes" "House.goes" (defArgs s_House_goes) (defBody s_House_goes) (defScope s_House_goes) dvs kws f fd) (h_need_caller : Fn1 P w K mg base "need_caller" ["thing"] 3 D_need_caller) (h_House_need_on : Fm1 P w K mg base "House" "need_on" dd_House_need_on ["self", "caller"] 1 D_House_need_on) (h_House_off : Fm1 P w K mg base "House" "off" dd_House_off ["self", "caller"] 1 D_House_off) :
    FnOk P w K mg base (L2.CX P w) 4 f fd ["self", "caller"] (SpD K ⟨mg, P, w⟩ 2 D_House_goes) :=
  have sc := sc_House_goes
  fn_ok F sc fun cdv A outer s H E hr => (uss_cons (us_drop (u_fP h_need_caller hr (by decide) tk_fn (by rfl) (u_cons (u_var 1) u_nil))) (uss_cons (us_drop (u_meth (pl := _) h_House_need_on cs_g (bd_House_need_on_2_) hr (by decide) tk_fn (u_var 0) (u_cons (u_var 1) u_nil) uk_nil)) (uss_cons (us_drop (u_meth (pl := _) h_House_off cs_g (bd_House_off_2_) hr (by decide) tk_fn (u_var 0) (u_cons (u_var 1) u_nil) uk_nil)) (uss_one (us_ret (u_lst u_nil))))))
theorem sc_House_accepted : FnScope ["self"] ["self"] (defScope s_House_accepted) := ⟨rfl, rfl, rfl, by decide +kernel, rfl, by decide +kernel, by decide +kernel⟩
theorem ok_House_accepted {f : Addr} {fd : FuncData} {dvs : List V} {kws : List (Str × V)} (G : Gf P w K mg) (F : FunD K "accepted" "House.accepted" (defArgs s_House_accepted) (defBody s_House_accepted) (defScope s_House_accepted) dvs kws f fd) :
    FnOk P w K mg base (L2.CX P w) 1 f fd ["self"] (SpD K ⟨mg, P, w⟩ 1 D_House_accepted) :=
  have sc := sc_House_accepted
  fn_ok F sc fun cdv A outer s H E hr => (uss_one (us_ret (b_list (by rfl) G.f_list (by rfl) (u_fld G.cls_House G.noat_House_own_words (u_var 0)))))
theorem sc_House_on : FnScope ["self"] ["self"] (defScope s_House_on) := ⟨rfl, rfl, rfl, by decide +kernel, rfl, by decide +kernel, by decide +kernel⟩
theorem ok_House_on {f : Addr} {fd : FuncData} {dvs : List V} {kws : List (Str × V)} (G : Gf P w K mg) (F : FunD K "on" "House.on" (defArgs s_House_on) (defBody s_House_on) (defScope s_House_on) dvs kws f fd) :
    FnOk P w K mg base (L2.CX P w) 1 f fd ["self"] (SpD K ⟨mg, P, w⟩ 1 D_House_on) :=
  have sc := sc_House_on
  fn_ok F sc fun cdv A outer s H E hr => (uss_one (us_ret (b_sorted2 (by rfl) hr G.f_sorted (by rfl) (b_list (by rfl) G.f_list (by rfl) (u_fld G.cls_House G.noat_House_own_wills (u_var 0))))))
theorem sc__law_words_to : FnScope ["_law_rows", "_law_caller", "_law_who", "_law_packet"] ["_law_rows", "_law_caller"] (defScope s__law_words_to) := ⟨rfl, rfl, rfl, by decide +kernel, rfl, by decide +kernel, by decide +kernel⟩
theorem ok__law_words_to {f : Addr} {fd : FuncData} {dvs : List V} {kws : List (Str × V)} (G : Gf P w K mg) (F : FunD K "_law_words_to" "_law_words_to" (defArgs s__law_words_to) (defBody s__law_words_to) (defScope s__law_words_to) dvs kws f fd) :
    FnOk P w K mg base (L2.CX P w) 1 f fd ["_law_rows", "_law_caller"] (SpD K ⟨mg, P, w⟩ 2 D__law_words_to) :=
  have sc := sc__law_words_to
  fn_ok F sc fun cdv A outer s H E hr => (uss_one (us_ret (u_lc rfl sc.nd (ui_itm (u_var 0)) (blkOk_by (own := [("_law_who", 2), ("_law_packet", 3)]) (by show blkC N__law_words_to (defScope s__law_words_to) _ _ = true; decide +kernel)) (fun _ _ _ _ _ => (ug_tup rfl (ugs_cons zw_ok (ug_name (i := 2) (zw_set (by decide)) sc.nd rfl (.inl rfl)) (ugs_cons zw_ok (ug_name (i := 3) (zw_set (by decide)) sc.nd rfl (.inl rfl)) (ugs_nil zw_ok))))) (fun _ _ _ _ _ => (u_tst (PW.pt (u_and (t_eq hr (u_var 2) (u_var 1)) (u_and1 (t_eq hr (u_ix2 hr (u_var 3) u_int (fun _ _ => rfl)) u_str)))))) (fun _ _ _ _ _ => (u_sl (u_var 3) (uo_some u_int) (uo_some u_int))))))
theorem sc_House_kept : FnScope ["self", "name"] ["self"] (defScope s_House_kept) := ⟨rfl, rfl, rfl, by decide +kernel, rfl, by decide +kernel, by decide +kernel⟩
theorem ok_House_kept {f : Addr} {fd : FuncData} {dvs : List V} {kws : List (Str × V)} (G : Gf P w K mg) (F : FunD K "kept" "House.kept" (defArgs s_House_kept) (defBody s_House_kept) (defScope s_House_kept) dvs kws f fd) (h_House_kept_names : Fm1 P w K mg base "House" "kept_names" dd_House_kept_names ["self"] 4 D_House_kept_names) :
    FnOk P w K mg base (L2.CX P w) 5 f fd ["self"] (SpD K ⟨mg, P, w⟩ 1 D_House_kept) :=
  have sc := sc_House_kept
  fn_ok F sc fun cdv A outer s H E hr => (uss_one (us_ret (u_lc rfl sc.nd (ui_itm (u_meth0 (pl := _) h_House_kept_names cs_g (bd_House_kept_names_1_) hr (by decide) tk_fn (u_var 0) uk_nil)) (blkOk_by (own := [("name", 1)]) (by show blkC N_House_kept (defScope s_House_kept) _ _ = true; decide +kernel)) (fun _ _ _ _ _ => (ug_name (i := 1) (zw_set (by decide)) sc.nd rfl (.inl rfl))) (fun _ _ _ _ _ => u_yes) (fun _ _ _ _ _ => (u_tup (u_cons (u_var 1) (u_cons (u_ix2 hr (u_fld G.cls_House G.noat_House_own_kept (u_var 0)) (u_var 1) (fun _ _ => rfl)) u_nil)))))))
end
end T55

set_option Elab.async false
set_option linter.all false
set_option maxRecDepth 100000
set_option maxHeartbeats 0
namespace T55
open PySem PySem.Spec PyProof.Rows L2 Dn
section
variable {P : Program} {w : World} {K : PySem.W.Frag} {mg : Str → Option Value} {base : Heap}
theorem sc_law : FnScope ["_law_script", "_law_k", "_law_box_here", "_law_turn", "_law_real", "_law_due", "_law_standing", "_law_got", "_law_legacy", "_law_held", "_law_who", "_law_way", "_law_rows", "_law_ahead", "_law_at", "_law_row", "_law_last", "_law_name"] ["_law_script"] (defScope s_law) := ⟨rfl, rfl, rfl, by decide +kernel, rfl, by decide +kernel, by decide +kernel⟩
theorem ok_law {f : Addr} {fd : FuncData} {dvs : List V} {kws : List (Str × V)} (G : Gf P w K mg) (F : FunD K "law" "law" (defArgs s_law) (defBody s_law) (defScope s_law) dvs kws f fd) (h__law_box : Fn1 P w K mg base "_law_box" ["_law_script", "_law_k"] 1 D__law_box) (i_House___init__ : Fi1 P w K mg base "House" dd_House___init__ ["self", "window"] 4 D_House___init__) (h_House_come : Fm1 P w K mg base "House" "come" dd_House_come ["self", "caller", "clean", "will"] 7 D_House_come) (h_House_wants : Fm1 P w K mg base "House" "wants" dd_House_wants ["self", "caller", "pattern", "quality"] 5 D_House_wants) (h__law_take : Fn1 P w K mg base "_law_take" ["_law_box_here", "_law_count"] 2 D__law_take) (h__law_will : Fn1 P w K mg base "_law_will" ["_law_box_here"] 5 D__law_will) (h_House_cut : Fm1 P w K mg base "House" "cut" dd_House_cut ["self", "caller"] 6 D_House_cut) (h_House_goes : Fm1 P w K mg base "House" "goes" dd_House_goes ["self", "caller"] 4 D_House_goes) (h_House_accepted : Fm1 P w K mg base "House" "accepted" dd_House_accepted ["self"] 1 D_House_accepted) (h_House_on : Fm1 P w K mg base "House" "on" dd_House_on ["self"] 1 D_House_on) (h__law_words_to : Fn1 P w K mg base "_law_words_to" ["_law_rows", "_law_caller"] 1 D__law_words_to) (h_House_kept : Fm1 P w K mg base "House" "kept" dd_House_kept ["self"] 5 D_House_kept) :
    FnG P w K mg base (L2.CX P w) 8 f fd ["_law_script"] (SpD K ⟨mg, P, w⟩ 1 D_law) :=
  have sc := sc_law
  fnG_ok F sc fun cdv A outer s H E hr hgd => (uss_cons (us_for po_fn rfl (ui_r1 G.f_range (by rfl) (b_max2 (by rfl) G.f_max (by rfl) u_int (b_min2 (by rfl) G.f_min (by rfl) (b_len G.f_len (by rfl) (u_var 0)) u_int))) (ug_name (i := 1) (fun _ _ => trivial) sc.nd rfl (.inl rfl)) (uss_cons (us_set (i := 2) sc.nd rfl (.inl rfl) (u_fG h__law_box hr (by decide) tk_fn (by rfl) (u_cons (u_var 0) (u_cons (u_var 1) u_nil)))) (uss_cons (us_asg (u_tup (u_cons (u_make0 i_House___init__ cs_g (bd_House___init___1_window) hr (by decide) tk_fn (by rfl) (uk_cons u_int uk_nil)) (u_cons (u_lstM u_nil) (u_cons u_dnew (u_cons (u_lstM u_nil) u_nil))))) (ug_tup rfl (ugs_cons zt_ok (ug_name (i := 4) (fun _ _ => trivial) sc.nd rfl (.inl rfl)) (ugs_cons zt_ok (ug_name (i := 5) (fun _ _ => trivial) sc.nd rfl (.inl rfl)) (ugs_cons zt_ok (ug_name (i := 6) (fun _ _ => trivial) sc.nd rfl (.inl rfl)) (ugs_cons zt_ok (ug_name (i := 7) (fun _ _ => trivial) sc.nd rfl (.inl rfl)) (ugs_nil zt_ok))))))) (uss_cons (us_drop (u_meth (pl := _) h_House_come cs_g (bd_House_come_2_) hr (by decide) tk_fn (u_var 4) (u_cons u_str u_nil) uk_nil)) (uss_cons (us_drop (u_meth (pl := _) h_House_wants cs_g (bd_House_wants_3_quality) hr (by decide) tk_fn (u_var 4) (u_cons u_str (u_cons u_str u_nil)) (uk_cons u_int uk_nil))) (uss_one (us_for po_fn rfl (ui_r1 G.f_range (by rfl) (u_fB 0 h__law_take hr (by decide) tk_fn (by rfl) (u_cons (u_var 2) (u_cons u_int u_nil)))) (ug_name (i := 3) (fun _ _ => trivial) sc.nd rfl (.inl rfl)) (uss_cons (us_par (i := 10) (j := 11) rfl sc.nd rfl rfl (by decide) rfl rfl (u_cons (u_ix2 hr (u_lst (u_cons u_str (u_cons u_str (u_cons u_str (u_cons u_str u_nil))))) (u_fB 0 h__law_take hr (by decide) tk_fn (by rfl) (u_cons (u_var 2) (u_cons u_int u_nil))) (fun _ _ => rfl)) (u_cons (u_fB 0 h__law_take hr (by decide) tk_fn (by rfl) (u_cons (u_var 2) (u_cons u_int u_nil))) u_nil)) rfl) (uss_cons (us_par (i := 12) (j := 13) rfl sc.nd rfl rfl (by decide) rfl rfl (u_cons (u_lst u_nil) (u_cons (b_len G.f_len (by rfl) (u_var 5)) u_nil)) rfl) (uss_cons (us_set (i := 8) sc.nd rfl (.inl rfl) (u_fB 0 h__law_will hr (by decide) tk_fn (by rfl) (u_cons (u_var 2) u_nil))) (uss_cons (us_if (t_isnt (u_var 8) u_non) (uss_one (us_set (i := 8) sc.nd rfl (.inl rfl) (u_tup (u_cons (u_ix2 hr (u_var 8) u_int (fun _ _ => rfl)) (u_cons (u_ix2 hr (u_var 8) u_int (fun _ _ => rfl)) (u_cons u_int (u_cons (u_ix2 hr (u_var 8) u_int (fun _ _ => rfl)) u_nil))))))) uss_nil) (uss_cons (us_if (t_lt (u_var 11) u_int) (uss_cons (us_if (t_isnt (u_dget hr (u_var 6) (u_var 10) u_non (m2)) u_non) (uss_one (us_drop (m_append (u_var 5) (o_add (u_tup (u_cons (u_var 10) u_nil)) (u_ix2 hr (u_var 6) (u_var 10) (fun _ _ => rfl)))))) uss_nil) (uss_cons (us_asg (u_var 8) (ug_ix2 zt_ok hr (u_var 6) (u_var 10))) (uss_one (us_set (i := 12) sc.nd rfl (.inl rfl) (u_meth (pl := _) h_House_come cs_g (bd_House_come_2_clean_will) hr (by decide) tk_fn (u_var 4) (u_cons (u_var 10) u_nil) (uk_cons (c_eq hr (u_fB 0 h__law_take hr (by decide) tk_fn (by rfl) (u_cons (u_var 2) (u_cons u_int u_nil))) u_int) (uk_cons (u_var 8) uk_nil))))))) (uss_one (us_if (t_in hr (u_var 10) (u_var 6)) (uss_cons (us_set (i := 16) sc.nd rfl (.inl rfl) (u_dpop (u_var 6) (u_var 10) (m1))) (uss_cons (us_if (PW.pt (u_and (t_eq hr (u_var 11) u_int) (u_and1 (t_isnt (u_var 16) u_non)))) (uss_one (us_drop (m_append (u_var 5) (o_add (u_tup (u_cons (u_var 10) u_nil)) (u_var 16))))) uss_nil) (uss_one (us_set (i := 12) sc.nd rfl (.inl rfl) (u_ifExp (t_eq hr (u_var 11) u_int) (u_meth (pl := _) h_House_cut cs_g (bd_House_cut_2_) hr (by decide) tk_fn (u_var 4) (u_cons (u_var 10) u_nil) uk_nil) (u_meth (pl := _) h_House_goes cs_g (bd_House_goes_2_) hr (by decide) tk_fn (u_var 4) (u_cons (u_var 10) u_nil) uk_nil)))))) uss_nil))) (uss_cons (us_if (PW.pt (u_or (t_ne hr (b_repr hgd hr G.f_repr (by rfl) (u_meth0 (pl := _) h_House_accepted cs_g (bd_House_accepted_1_) hr (by decide) tk_fn (u_var 4) uk_nil)) (b_repr hgd hr G.f_repr (by rfl) (u_var 5))) (u_or1 (t_ne hr (u_meth0 (pl := _) h_House_on cs_g (bd_House_on_1_) hr (by decide) tk_fn (u_var 4) uk_nil) (b_sorted2 (by rfl) hr G.f_sorted (by rfl) (o_add (b_list (by rfl) G.f_list (by rfl) (u_var 6)) (u_lst (u_cons u_str u_nil)))))))) (uss_one (us_ret u_bl)) uss_nil) (uss_cons (us_if (t_ne hr (u_fG h__law_words_to hr (by decide) tk_fn (by rfl) (u_cons (u_var 12) (u_cons u_str u_nil))) (u_lc rfl sc.nd (ui_itm (u_sl (u_var 5) (uo_some (u_var 13)) uo_none)) (blkOk_by (own := [("_law_row", 15)]) (by show blkC N_law (defScope s_law) _ _ = true; decide +kernel)) (fun _ _ _ _ _ => (ug_name (i := 15) (zw_set (by decide)) sc.nd rfl (.inl rfl))) (fun _ _ _ _ _ => u_yes) (fun _ _ _ _ _ => (u_sl (u_var 15) (uo_some u_int) (uo_some u_int))))) (uss_one (us_ret u_bl)) uss_nil) (uss_cons (us_set (i := 9) sc.nd rfl (.inr rfl) u_dnew) (uss_cons (us_for po_fn rfl (it_enum G.f_enumerate (by rfl) (u_var 5)) (ug_tup rfl (ugs_cons zt_ok (ug_name (i := 14) (fun _ _ => trivial) sc.nd rfl (.inl rfl)) (ugs_cons zt_ok (ug_name (i := 15) (fun _ _ => trivial) sc.nd rfl (.inl rfl)) (ugs_nil zt_ok)))) (uss_one (us_if (u_val (u_ix2 hr (u_var 15) u_int (fun _ _ => rfl))) (uss_cons (us_asg (u_var 14) (ug_ix2 zt_ok hr (u_var 9) (u_ix2 hr (u_var 15) u_int (fun _ _ => rfl)))) (uss_one (us_if (t_eq hr (u_ix2 hr (u_var 15) u_int (fun _ _ => rfl)) u_str) (uss_one (us_drop (u_dpop (u_var 9) (u_ix2 hr (u_var 15) u_int (fun _ _ => rfl)) (m1)))) uss_nil))) uss_nil))) (uss_one (us_if (t_ne hr (b_sorted2 (by rfl) hr G.f_sorted (by rfl) (u_meth0 (pl := _) h_House_kept cs_g (bd_House_kept_1_) hr (by decide) tk_fn (u_var 4) uk_nil)) (b_sorted2 (by rfl) hr G.f_sorted (by rfl) (u_lock (u_lc rfl sc.nd (ui_itm2 (u_var 9)) (blkOk_by (own := [("_law_name", 17)]) (by show blkC N_law (defScope s_law) _ _ = true; decide +kernel)) (fun _ _ _ _ _ => (ug_name (i := 17) (zw_set (by decide)) sc.nd rfl (.inl rfl))) (fun _ _ _ _ _ => u_yes) (fun _ _ _ _ _ => (u_tup (u_cons (u_var 17) (u_cons (u_ix2 hr (u_var 9) (u_var 17) (fun _ _ => rfl)) u_nil)))))))) (uss_one (us_ret u_bl)) uss_nil)))))))))))))))))) (uss_one (us_ret u_bl)))
end
end T55

set_option Elab.async false
set_option linter.all false
set_option maxRecDepth 100000
/-! Dm0: how the denotations are computed with -/
namespace Dn
open PySem
section
variable {α β : Type} {a : α} {S S1 S2 : Sto} {x : Xc} {env e1 : Env} {k : α → Sto → RE β} {ks : α → Sto → RS}
@[simp] theorem bind_ok : (RE.ok a S).bind k = k a S := rfl
@[simp] theorem bind_exc : (RE.exc x S : RE α).bind k = .exc x S := rfl
@[simp] theorem bind_fail : (RE.fail : RE α).bind k = .fail := rfl
@[simp] theorem bindS_ok : (RE.ok a S).bindS env ks = ks a S := rfl
@[simp] theorem bindS_exc : (RE.exc x S : RE α).bindS env ks = .exc x env S := rfl
@[simp] theorem bindS_fail : (RE.fail : RE α).bindS env ks = .fail := rfl
variable {i j n : Nat} {d : D} {ea eb : DE D} {l : DE (List D)} {c ca : DE Bool} {f2 : D → D → Sto → RE D} {f1 : D → Sto → RE D} {fl : List D → Sto → RE α} {sa sb : DS}
@[simp] theorem e_var : dVar i env S = match env[i]? with | some (some d) => .ok d S | _ => .fail := rfl
@[simp] theorem e_c : dC d env S = .ok d S := rfl
@[simp] theorem e_op : dOp f2 ea eb env S = (ea env S).bind fun x S1 => (eb env S1).bind fun y S2 => f2 x y S2 := rfl
@[simp] theorem e_un : dUn f1 ea env S = (ea env S).bind fun x S1 => f1 x S1 := rfl
@[simp] theorem e_t : dT ea env S = (ea env S).bind fun x S1 => asB x S1 := rfl
@[simp] theorem e_and : dAnd c ca env S = (c env S).bind fun x S1 => if x = true then ca env S1 else .ok false S1 := rfl
@[simp] theorem e_or : dOr c ca env S = (c env S).bind fun x S1 => if x = true then .ok true S1 else ca env S1 := rfl
@[simp] theorem e_not : dNot c env S = (c env S).bind fun x S1 => .ok (!x) S1 := rfl
@[simp] theorem e_if : dIf c ea eb env S = (c env S).bind fun x S1 => if x = true then ea env S1 else eb env S1 := rfl
@[simp] theorem e_nil : dNil env S = .ok [] S := rfl
@[simp] theorem e_cons : dCons ea l env S = (ea env S).bind fun x S1 => (l env S1).bind fun xs S2 => .ok (x :: xs) S2 := rfl
@[simp] theorem e_arg : dArg fl l env S = (l env S).bind fun xs S1 => fl xs S1 := rfl
@[simp] theorem as_bl {b : Bool} : asB (.bl b) S = .ok b S := rfl
@[simp] theorem s_next : dNext env S = .nx env S := rfl
@[simp] theorem s_drop : dDrop ea env S = (ea env S).bindS env fun _ S1 => .nx env S1 := rfl
@[simp] theorem s_set : dSet i ea env S = (ea env S).bindS env fun d S1 => .nx (env.set i (some d)) S1 := rfl
@[simp] theorem s_ret : dRet ea env S = (ea env S).bindS env fun d S1 => .ret d S1 := rfl
@[simp] theorem s_if : dIfS c sa sb env S = (c env S).bindS env fun x S1 => if x = true then sa env S1 else sb env S1 := rfl
@[simp] theorem s_seq : dSeq sa sb env S = match sa env S with | .nx e1 S1 => sb e1 S1 | r => r := rfl
@[simp] theorem s_frz : dFrz ea env S = (ea env S).bind fun x S1 => frz x S1 := rfl
@[simp] theorem out_nx : outD (.nx env S) = .ok .non S := rfl
@[simp] theorem out_ret : outD (.ret d S) = .ok d S := rfl
theorem fnD_eq {N : Nat} {body : DS} {ds : List D} : fnD N body ds S = outD (body (ds.map some ++ List.replicate (N - ds.length) none) S) := rfl
end
/-- the store keeps what it has -/
def Sub (S S2 : Sto) : Prop := ∀ (i : Nat) (o : SO), S[i]? = some o → S2[i]? = some o
theorem Sub.refl (S : Sto) : Sub S S := fun _ _ h => h
theorem Sub.trans {S S1 S2 : Sto} (a : Sub S S1) (b : Sub S1 S2) : Sub S S2 := fun i o h => b i o (a i o h)
theorem Sub.app (S G : Sto) : Sub S (S ++ G) := fun i o h => by
  rw [List.getElem?_append_left (List.getElem?_eq_some_iff.mp h).1]
  exact h
end Dn

set_option Elab.async false
set_option linter.all false
set_option maxRecDepth 100000
/-! Dm1: comprehensions and loops whose parts change nothing -/
namespace Dn
open PySem
section
variable {i : Nat} {e : DE D} {c : DE Bool} {env : Env} {S : Sto}
theorem lcGo_map {f : D → D} : ∀ (ds acc : List D), acc.length + ds.length ≤ LIM → (∀ d ∈ ds, e (env.set i (some d)) S = .ok (f d) S) → lcGo any_ (gN i) dYes e env ds acc S = .ok (acc ++ ds.map f) S
  | [], acc, _, _ => by simp [lcGo, any_]
  | d :: ds, acc, hl, h => by
    have hl' : acc.length + (ds.length + 1) ≤ LIM := hl
    have h1 : acc.length < LIM := by omega
    have ih := lcGo_map (f := f) ds (acc ++ [f d]) (by rw [List.length_append]; show acc.length + 1 + ds.length ≤ LIM; omega) fun x hx => h x (List.mem_cons_of_mem _ hx)
    unfold lcGo
    simp only [any_, if_true, gN, dYes]
    rw [h d List.mem_cons_self]
    simp only [if_pos h1]
    rw [ih]
    simp
theorem lcGo_filter {f : D → D} {p : D → Bool} : ∀ (ds acc : List D), acc.length + ds.length ≤ LIM → (∀ d ∈ ds, c (env.set i (some d)) S = .ok (p d) S) → (∀ d ∈ ds, p d = true → e (env.set i (some d)) S = .ok (f d) S) →
    lcGo any_ (gN i) c e env ds acc S = .ok (acc ++ (ds.filter p).map f) S
  | [], acc, _, _, _ => by simp [lcGo, any_]
  | d :: ds, acc, hl, hc, h => by
    have hl' : acc.length + (ds.length + 1) ≤ LIM := hl
    have h1 : acc.length < LIM := by omega
    unfold lcGo
    simp only [any_, if_true, gN]
    rw [hc d List.mem_cons_self]
    cases q : p d with
    | false =>
      have ih := lcGo_filter (f := f) (p := p) ds acc (by omega) (fun x hx => hc x (List.mem_cons_of_mem _ hx)) fun x hx => h x (List.mem_cons_of_mem _ hx)
      rw [List.filter_cons_of_neg (by simp [q])]
      exact ih
    | true =>
      have ih := lcGo_filter (f := f) (p := p) ds (acc ++ [f d]) (by rw [List.length_append]; show acc.length + 1 + ds.length ≤ LIM; omega) (fun x hx => hc x (List.mem_cons_of_mem _ hx)) fun x hx => h x (List.mem_cons_of_mem _ hx)
      dsimp only
      rw [h d List.mem_cons_self q]
      simp only [if_pos h1]
      rw [List.filter_cons_of_pos q]
      show lcGo _ _ _ _ _ _ _ _ = _
      rw [ih]
      simp
end
end Dn

set_option Elab.async false
set_option linter.all false
set_option maxRecDepth 100000
/-! Dm2: data that equals itself; dicts of texts as rows -/
namespace Dn
open PySem
section
variable {S : Sto} {d x y : D} {p : PyData} {b : Bool} {xs ds : List D}
theorem sc_self : ∀ d : D, scEq d d = some true ∨ scEq d d = none
  | .bl a => .inl (by simp [scEq])
  | .int a => .inl (by simp [scEq])
  | .str a => .inl (by simp [scEq])
  | .non => .inl rfl
  | .tup _ => .inr rfl
  | .lst _ => .inr rfl
  | .frl _ => .inr rfl
  | .dct _ _ => .inr rfl
  | .ref _ => .inr rfl
  | .glo _ => .inr rfl
  | .ty _ => .inr rfl
/-- two things that hold the same datum are equal -/
theorem eq_dp (h1 : scEq x y = none) (hx : pyS S x = some p) (hy : pyS S y = some p) (h : p.canLay0 = true) (hd : p.depth ≤ 64) : eqB S x y = some true := by
  have hs : SeqAt.shaped p = true := by
    unfold SeqAt.shaped
    rw [h, decide_eq_true hd]
    rfl
  unfold eqB
  rw [h1]
  show dpEq S x y = _
  unfold dpEq
  rw [hx, hy]
  simp only [hs, Bool.and_self, if_true, SeqAt.eqv_refl p h]
theorem eq_self (hx : pyS S d = some p) (h : p.canLay0 = true) (hd : p.depth ≤ 64) : eqB S d d = some true := by
  rcases sc_self d with h1 | h1
  · unfold eqB
    rw [h1]
  · exact eq_dp h1 hx hx h hd
end
/-- rows of a dict whose keys are texts -/
abbrev Rows := List (Str × D)
def dO (m : Rows) : SO := .dct (m.map fun r => .str r.1) (m.map (·.2))
def ag : Rows → Str → Option D
  | [], _ => none
  | (k, d) :: m, x => if k = x then some d else ag m x
def rp : Rows → Str → D → Rows
  | [], _, _ => []
  | (k, d) :: m, x, v => (k, if k = x then v else d) :: rp m x v
def ap (m : Rows) (x : Str) (v : D) : Rows := if (ag m x).isSome then rp m x v else m ++ [(x, v)]
def ad : Rows → Str → Rows
  | [], _ => []
  | (k, d) :: m, x => if k = x then ad m x else (k, d) :: ad m x
section
variable {m : Rows} {x y : Str} {v : D} {S : Sto} {n : Nat}
theorem key_eq {k x : Str} : (keyD (.str k) = some (.inr x)) ↔ k = x := by simp [keyD]
theorem plain_rows : ∀ m : Rows, plainKs (m.map fun r => .str r.1) = true
  | [] => rfl
  | r :: m => by
    show ((keyD (.str r.1)).isSome && plainKs (m.map fun r => .str r.1)) = true
    rw [plain_rows m]
    rfl
theorem getK_rows : ∀ (m : Rows) (x : Str), getK (m.map fun r => .str r.1) (m.map (·.2)) (.inr x) = ag m x
  | [], _ => rfl
  | (k, d) :: m, x => by simp only [List.map_cons, getK, ag, key_eq, getK_rows m x]
theorem replK_rows : ∀ (m : Rows) (x : Str) (v : D), replK (m.map fun r => .str r.1) (m.map (·.2)) (.inr x) v = (rp m x v).map (·.2)
  | [], _, _ => rfl
  | (k, d) :: m, x, v => by simp only [List.map_cons, replK, rp, key_eq, replK_rows m x v]
theorem rp_keys : ∀ (m : Rows) (x : Str) (v : D), (rp m x v).map (·.1) = m.map (·.1)
  | [], _, _ => rfl
  | (k, d) :: m, x, v => by simp only [List.map_cons, rp, rp_keys m x v]
theorem keysS_rows (m : Rows) : (m.map fun r => D.str r.1) = (m.map (·.1)).map .str := by simp [List.map_map, Function.comp_def]
theorem dropKs_rows : ∀ (m : Rows) (x : Str), dropKs (m.map fun r => .str r.1) (.inr x) = (ad m x).map fun r => .str r.1
  | [], _ => rfl
  | (k, d) :: m, x => by
    simp only [List.map_cons, dropKs, ad, key_eq, dropKs_rows m x]
    split <;> rfl
theorem dropDs_rows : ∀ (m : Rows) (x : Str), dropDs (m.map fun r => .str r.1) (m.map (·.2)) (.inr x) = (ad m x).map (·.2)
  | [], _ => rfl
  | (k, d) :: m, x => by
    simp only [List.map_cons, dropDs, ad, key_eq, dropDs_rows m x]
    split <;> rfl
theorem put_rows : SO.dct (putKs (m.map fun r => .str r.1) (m.map (·.2)) (.str x) (.inr x)) (putDs (m.map fun r => .str r.1) (m.map (·.2)) (.inr x) v) = dO (ap m x v) := by
  unfold putKs putDs ap dO
  rw [getK_rows]
  cases h : (ag m x).isSome with
  | true =>
    simp only [if_true, replK_rows]
    rw [keysS_rows (rp m x v), rp_keys, ← keysS_rows]
  | false => simp
theorem dk_rows (h : S[n]? = some (dO m)) : dK_of S (.ref n) = some (m.map (fun r => .str r.1), m.map (·.2)) := by
  unfold dK_of dctS
  simp only [h, dO, plain_rows, if_true]
theorem isDct_rows (h : S[n]? = some (dO m)) : isDct S (.ref n) = true := by
  unfold isDct
  rw [dk_rows h]
  rfl
theorem in_rows (h : S[n]? = some (dO m)) : inV2 (.str x) (.ref n) S = .ok (.bl (ag m x).isSome) S := by
  simp [inV2, inDct, dk_rows h, keyD, getK_rows]
theorem nin_rows (h : S[n]? = some (dO m)) : notInV2 (.str x) (.ref n) S = .ok (.bl (!(ag m x).isSome)) S := by
  simp [notInV2, inDct, dk_rows h, keyD, getK_rows]
theorem ix_rows {d : D} (h : S[n]? = some (dO m)) (hd : ag m x = some d) : ixV2 (.ref n) (.str x) S = .ok d S := by
  simp [ixV2, dk_rows h, keyD, getK_rows, hd]
theorem set_rows {env : Env} (h : S[n]? = some (dO m)) (hl : m.length < LIM) : setIx2 (.ref n) (.str x) v env S = .nx env (S.set n (dO (ap m x v))) := by
  unfold setIx2
  simp only [h, dO, keyD, plain_rows, List.length_map, hl, and_self, if_true]
  rw [put_rows]
  rfl
theorem popd_rows {d : D} (h : S[n]? = some (dO m)) (hd : ag m x = some d) : popDV (.ref n) (.str x) S = .ok d (S.set n (dO (ad m x))) := by
  unfold popDV
  simp only [h, dO, keyD, plain_rows, if_true, getK_rows, hd, dropKs_rows, dropDs_rows]
theorem get_rows {d : D} (h : S[n]? = some (dO m)) : getDV (.ref n) (.str x) d S = .ok ((ag m x).getD d) S := by
  simp [getDV, dk_rows h, keyD, getK_rows]
theorem keys_rows (h : S[n]? = some (dO m)) : listV2 [.ref n] S = .ok (.lst (m.map fun r => .str r.1)) S := by
  simp [listV2, keysS, dk_rows h]
theorem sort_rows (h : S[n]? = some (dO m)) (hl : m.length < 64) : sortedV2 [.ref n] S = .ok (.lst (sortD ((m.map (·.1)).map .str))) S := by
  unfold sortedV2
  simp only [dk_rows h, keysS_rows, strsOf_map, List.length_map, hl, if_true]
/-! what the rows tell -/
theorem ag_some : ∀ {m : Rows} {x : Str} {d : D}, ag m x = some d → (x, d) ∈ m
  | (k, d) :: m, x, e, h => by
    unfold ag at h
    split at h
    · rename_i q
      cases h
      exact q ▸ List.mem_cons_self
    · exact List.mem_cons_of_mem _ (ag_some h)
theorem ag_mem : ∀ {m : Rows} {x : Str}, (ag m x).isSome = true ↔ x ∈ m.map (·.1)
  | [], x => by simp [ag]
  | (k, d) :: m, x => by
    unfold ag
    by_cases q : k = x
    · simp [q]
    · simp only [q, if_false, List.map_cons, List.mem_cons, ag_mem (m := m)]
      exact ⟨.inr, fun h => h.resolve_left fun e => q e.symm⟩
theorem ag_none {x : Str} : ag m x = none ↔ x ∉ m.map (·.1) := by
  rw [← ag_mem]
  cases ag m x <;> simp
theorem ag_rp : ∀ (m : Rows) (x y : Str) (v : D), ag (rp m x v) y = if x = y ∧ (ag m x).isSome = true then some v else ag m y
  | [], x, y, v => by simp [rp, ag]
  | (k, d) :: m, x, y, v => by
    unfold rp ag
    by_cases q : k = x
    · subst q
      by_cases r : k = y
      · simp [r]
      · simp only [r, if_false, if_true, ag_rp m k y v, Option.isSome_some, and_true, false_and]
    · by_cases r : k = y
      · subst r
        have q' : ¬ x = k := fun e => q e.symm
        simp [q, q']
      · simp only [q, r, if_false, ag_rp m x y v]
theorem ag_app : ∀ (m : Rows) (x y : Str) (v : D), ag (m ++ [(x, v)]) y = match ag m y with | some d => some d | none => if x = y then some v else none
  | [], x, y, v => rfl
  | (k, d) :: m, x, y, v => by
    by_cases r : k = y
    · simp [ag, r]
    · simp only [List.cons_append, ag, r, if_false, ag_app m x y v]
theorem ag_ap : ag (ap m x v) y = if x = y then some v else ag m y := by
  unfold ap
  split
  · rename_i h
    rw [ag_rp]
    simp only [h, and_true]
  · rename_i h
    rw [ag_app]
    by_cases q : x = y
    · subst q
      cases e : ag m x with
      | none => rfl
      | some d => rw [e] at h; exact absurd rfl h
    · simp only [q, if_false]
      cases ag m y <;> rfl
theorem ag_ad : ∀ (m : Rows) (x y : Str), ag (ad m x) y = if x = y then none else ag m y
  | [], x, y => by simp [ad, ag]
  | (k, d) :: m, x, y => by
    unfold ad
    by_cases q : k = x
    · subst q
      rw [if_pos rfl, ag_ad m k y]
      by_cases r : k = y <;> simp [r, ag]
    · rw [if_neg q]
      unfold ag
      by_cases r : k = y
      · subst r
        have q' : ¬ x = k := fun e => q e.symm
        simp [q']
      · simp only [r, if_false, ag_ad m x y]
theorem ap_keys : (ap m x v).map (·.1) = if x ∈ m.map (·.1) then m.map (·.1) else m.map (·.1) ++ [x] := by
  unfold ap
  by_cases h : (ag m x).isSome = true
  · rw [if_pos h, if_pos (ag_mem.mp h), rp_keys]
  · rw [if_neg h, if_neg fun q => h (ag_mem.mpr q)]
    simp
theorem ad_keys : ∀ (m : Rows) (x : Str), (ad m x).map (·.1) = (m.map (·.1)).filter fun y => !decide (y = x)
  | [], x => rfl
  | (k, d) :: m, x => by
    unfold ad
    by_cases q : k = x
    · subst q
      rw [if_pos rfl, List.map_cons, List.filter_cons_of_neg (by simp), ad_keys m k]
    · rw [if_neg q, List.map_cons, List.map_cons, List.filter_cons_of_pos (by simp [q]), ad_keys m x]
theorem ap_nodup (h : (m.map (·.1)).Nodup) : ((ap m x v).map (·.1)).Nodup := by
  rw [ap_keys]
  split
  · exact h
  · rename_i q
    rw [List.nodup_append]
    exact ⟨h, by simp, fun a ha b hb e => q (by cases List.mem_singleton.mp hb; exact e ▸ ha)⟩
theorem ad_nodup (h : (m.map (·.1)).Nodup) : ((ad m x).map (·.1)).Nodup := by
  rw [ad_keys]
  exact h.sublist List.filter_sublist
theorem mem_rp : ∀ {m : Rows} {r : Str × D}, r ∈ rp m x v → r = (x, v) ∨ r ∈ m
  | (k, d) :: m, r, h => by
    unfold rp at h
    rcases List.mem_cons.mp h with h | h
    · by_cases q : k = x
      · rw [if_pos q] at h
        exact .inl (h.trans (by rw [q]))
      · rw [if_neg q] at h
        exact .inr (h ▸ List.mem_cons_self)
    · exact (mem_rp h).imp id fun z => List.mem_cons_of_mem _ z
theorem mem_ap {r : Str × D} (h : r ∈ ap m x v) : r = (x, v) ∨ r ∈ m := by
  unfold ap at h
  split at h
  · exact mem_rp h
  · rcases List.mem_append.mp h with h | h
    · exact .inr h
    · exact .inl (List.mem_singleton.mp h)
theorem mem_ad : ∀ {m : Rows} {r : Str × D}, r ∈ ad m x → r ∈ m
  | (k, d) :: m, r, h => by
    unfold ad at h
    split at h
    · exact List.mem_cons_of_mem _ (mem_ad h)
    · rcases List.mem_cons.mp h with h | h
      · exact h ▸ List.mem_cons_self
      · exact List.mem_cons_of_mem _ (mem_ad h)
theorem ag_of_mem : ∀ {m : Rows} {x : Str} {d : D}, (m.map (·.1)).Nodup → (x, d) ∈ m → ag m x = some d
  | (k, e) :: m, x, d, hn, h => by
    rw [List.map_cons, List.nodup_cons] at hn
    unfold ag
    rcases List.mem_cons.mp h with h | h
    · cases h
      rw [if_pos rfl]
    · rw [if_neg fun q : k = x => hn.1 (List.mem_map.mpr ⟨(x, d), h, q.symm⟩)]
      exact ag_of_mem hn.2 h
theorem ap_len : (ap m x v).length ≤ m.length + 1 := by
  have h := congrArg List.length (ap_keys (m := m) (x := x) (v := v))
  split at h <;> simp at h <;> omega
theorem ad_len : (ad m x).length ≤ m.length := by
  have h := congrArg List.length (ad_keys m x)
  have := List.length_filter_le (fun y => !decide (y = x)) (m.map (·.1))
  simp only [List.length_map] at h this
  omega
end
end Dn

set_option Elab.async false
set_option linter.all false
set_option maxRecDepth 100000
/-! Dm3: sorted things of data -/
namespace Dn
open PySem PySem.W
theorem alikeAll_str : ∀ (xs ys : List Str), alikeAll (xs.map .str) (ys.map .str) = true
  | [], _ => by simp [alikeAll]
  | _ :: _, [] => by simp [alikeAll]
  | x :: xs, y :: ys => by simp [alikeAll, alike, alikeAll_str xs ys]
theorem pys_str : ∀ (xs : List Str), pys (xs.map .str) = some (xs.map .str)
  | [] => rfl
  | x :: xs => by simp [pys, D.py, pys_str xs]
theorem depth_str : ∀ (xs : List Str), PyData.depthAll (xs.map .str) = 0
  | [] => by simp [PyData.depthAll]
  | x :: xs => by simp [PyData.depthAll, PyData.depth, depth_str xs]
theorem sortOk_str (xs : List Str) : sortOk (xs.map .str) = true := by
  simp [sortOk, D.py, D.pd, PyData.depth, alike, plainP]
theorem pd_pair (x : Str) (i : Int) : (D.tup [.str x, .int i]).pd = .tuple [.str x, .int i] := by simp [D.pd, D.py, pys]
theorem lt_pair {x y : Str} {i j : Int} (h : x ≠ y) : dataLt (.tuple [.str x, .int i]) (.tuple [.str y, .int j]) = decide (x.cps.toList < y.cps.toList) := by
  rw [dataLt_tuple, dataLt_all_no rfl (by simp [PyData.eqv, h]), dataLt_str]
theorem lt_pair2 {x : Str} {i j : Int} : dataLt (.tuple [.str x, .int i]) (.tuple [.str x, .int j]) = decide (i < j) := by
  rw [dataLt_tuple, dataLt_all_yes rfl (by simp [PyData.eqv])]
  by_cases h : i = j
  · subst h
    rw [dataLt_all_yes rfl (by simp [PyData.eqv])]
    rw [PyProof.Rows.lex_irrefl]
    simp
  · rw [dataLt_all_no rfl (by simp [PyData.eqv, h]), dataLt_int]
theorem le_def (a b : D) : dataLe false D.pd a b = !dataLt b.pd a.pd := rfl
theorem anti_pair (m : List (Str × Int)) : AntiD (m.map fun r => .tup [.str r.1, .int r.2]) := by
  intro a b ha hb h1 h2
  obtain ⟨⟨x, i⟩, _, rfl⟩ := List.mem_map.mp ha
  obtain ⟨⟨y, j⟩, _, rfl⟩ := List.mem_map.mp hb
  rw [le_def, pd_pair, pd_pair] at h1 h2
  by_cases h : x = y
  · subst h
    rw [lt_pair2] at h1 h2
    simp at h1 h2
    have : i = j := by omega
    rw [this]
  · rw [lt_pair (fun e => h e.symm)] at h1
    rw [lt_pair h] at h2
    simp at h1 h2
    exact absurd (str_of_cps (List.le_antisymm h1 h2)) h
theorem sortOk_pair (m : List (Str × Int)) : sortOk (m.map fun r => .tup [.str r.1, .int r.2]) = true := by
  simp [sortOk, D.py, D.pd, pys, PyData.depth, PyData.depthAll, alike, alikeAll, plainP, pairP]
theorem zipD_fst : ∀ (ds kd : List D), ds.length = kd.length → (ds.zip kd).map (·.1) = ds
  | [], _, _ => by simp
  | d :: ds, [], h => by cases h
  | d :: ds, k :: kd, h => by simp [zipD_fst ds kd (by simpa using h)]
theorem sortBy_perm {ds kd : List D} (h : ds.length = kd.length) : (sortBy ds kd).Perm ds := by
  unfold sortBy
  have := (List.mergeSort_perm (ds.zip kd) (dataLe false fun t => t.2.pd)).map (·.1)
  rwa [zipD_fst ds kd h] at this
end Dn

set_option Elab.async false
set_option linter.all false
set_option maxRecDepth 100000
namespace T55
open PySem Dn
section
variable {S : Sto} {i : Int} {x : Str} {b : Bool} {ds : List D}
@[simp] theorem isi_ii : isiV [.int i, .ty "int"] S = .ok (.bl true) S := rfl
@[simp] theorem isi_ib : isiV [.int i, .ty "bool"] S = .ok (.bl false) S := rfl
@[simp] theorem isi_bb : isiV [.bl b, .ty "bool"] S = .ok (.bl true) S := rfl
@[simp] theorem isi_ss : isiV [.str x, .ty "str"] S = .ok (.bl true) S := rfl
@[simp] theorem isi_tt : isiV [.tup ds, .ty "tuple"] S = .ok (.bl true) S := rfl
end
theorem among_ok {i : Int} {lo hi : Int} {S : Sto} (h : lo ≤ i ∧ i ≤ hi) : D_is_among [.int i, .int lo, .int hi] S = .ok (.bl true) S := by
  simp [D_is_among, fnD_eq, dAndV, dNotV, dChain, chK, leV, ordV, h.1, h.2]

abbrev LET : Str := "abcdefghijklmnopqrstuvwxyz"
/-- small letters alone -/
def Low (x : Str) : Prop := ∀ c ∈ x.cps.toList, 97 ≤ c ∧ c ≤ 122
theorem let_all : ∀ k : Nat, k < 26 → (!(Builtin.Str.occurrences LET ⟨#[97 + k]⟩ 0 LET.length 1).isEmpty) = true := by decide +kernel
theorem let_in {c : Nat} {S : Sto} (h : 97 ≤ c ∧ c ≤ 122) : inV2 (.str ⟨#[c]⟩) (.str LET) S = .ok (.bl true) S := by
  have e := let_all (c - 97) (by omega)
  rw [show 97 + (c - 97) = c by omega] at e
  show oB id (some (!(Builtin.Str.occurrences LET ⟨#[c]⟩ 0 LET.length 1).isEmpty)) S = _
  rw [e]
  rfl
theorem lettered_ok {x : Str} {lo hi : Int} {S : Sto} (h : Low x) (hl : lo ≤ x.length ∧ x.length ≤ hi) (hb : x.length ≤ 1000) : D_is_lettered [.str x, .int lo, .int hi] S = .ok (.bl true) S := by
  have h1 : LIMS x.length = true := decide_eq_true (by show x.length ≤ LIM; unfold LIM; omega)
  have hlen : x.cps.toList.length = x.length := by simp [Str.length]
  have h2 : lcGo any_ (gN 3) dYes (dOp inV2 (dVar 3) (dC (.str LET))) [some (.str x), some (.int lo), some (.int hi), none] (strD x) [] S = .ok ([] ++ (strD x).map fun _ => .bl true) S := by
    refine lcGo_map (f := fun _ => .bl true) (strD x) [] (by unfold strD; rw [List.length_map, hlen]; show 0 + x.length ≤ LIM; unfold LIM; omega) fun d hd => ?_
    obtain ⟨c, hc, rfl⟩ := List.mem_map.mp hd
    simp [let_in (h c hc)]
  have h3 : blsD ((strD x).map fun _ => D.bl true) = some ((strD x).map fun _ => true) := by
    generalize strD x = l
    induction l with
    | nil => rfl
    | cons a l ih => simp [blsD, ih]
  simp [D_is_lettered, fnD_eq, dAndV, dChain, chK, leV, ordV, lenV2, lenV, h1, hl.1, hl.2, dLcL, dLc, dItm, itm, wpe, h2, allV, seqL, h3]
section
variable {S : Sto} {n : Nat} {ds : List D} {x : Str}
@[simp] theorem len_l : lenV2 [.lst ds] S = .ok (.int ds.length) S := rfl
@[simp] theorem len_t : lenV2 [.tup ds] S = .ok (.int ds.length) S := rfl
@[simp] theorem itm_l : itm (.lst ds) S = .ok (ds, any_) S := rfl
@[simp] theorem itm_t : itm (.tup ds) S = .ok (ds, any_) S := rfl
theorem len_s (h : x.length ≤ 1000) : lenV2 [.str x] S = .ok (.int x.length) S := by
  have h1 : LIMS x.length = true := decide_eq_true (by show x.length ≤ LIM; unfold LIM; omega)
  show (if LIMS x.length = true then _ else _) = _
  rw [h1]
  rfl
theorem all_true (h : ds.length ≤ 100) : allV [.lst (ds.map fun _ => .bl true)] S = .ok (.bl true) S := by
  have h3 : blsD (ds.map fun _ => D.bl true) = some (ds.map fun _ => true) := by
    clear h
    induction ds with
    | nil => rfl
    | cons a l ih => simp [blsD, ih]
  simp [allV, seqL, h3]
theorem split_slash (h : x.length ≤ 1000) : splitV (.str x) [.str "/"] S = .ok (.lst ((Txt.split x "/").map .str)) S := by
  have h1 : LIMS (x.length + 2) = true := decide_eq_true (by show x.length + 2 ≤ LIM; unfold LIM; omega)
  show (if ((Str.ofString "/").length == 0) = false ∧ LIMS (x.length + 2) = true then _ else _) = _
  rw [if_pos ⟨rfl, h1⟩]
theorem pcall_ok {den : Den} {d : D} {S0 : Sto} (hd : den ds [] = .ok d S0) (h : ds.length = n := by rfl) (hn : nrs ds = true := by rfl) (hr : d.nr = true := by rfl) : pcall n den ds S = .ok d S := by
  unfold pcall
  rw [if_pos ⟨h, hn⟩, hd]
  simp only [hr, if_true]
theorem gcall_eq {den : Den} (h : ds.length = n := by rfl) : gcall n den ds S = den ds S := by
  unfold gcall
  rw [if_pos h]
end
theorem level_ok {x : Str} {S : Sto} (h : Low x) (hl : 1 ≤ x.length ∧ x.length ≤ 3) : D_is_level [.str x] S = .ok (.bl true) S := by
  have h1 : pcall 3 D_is_lettered [.str x, .int 1, .int 3] S = .ok (.bl true) S := pcall_ok (lettered_ok (S := []) h (by omega) (by omega))
  simp [D_is_level, fnD_eq, h1]
theorem caller_ok {x : Str} {S : Sto} (h : Low x) (hl : 1 ≤ x.length ∧ x.length ≤ 3) : pcall 1 D_need_caller [.str x] S = .ok .non S := by
  have h1 : pcall 3 D_is_lettered [.str x, .int 1, .int 3] ([] : Sto) = .ok (.bl true) [] := pcall_ok (lettered_ok (S := []) h (by omega) (by omega))
  have h2 : pcall 1 D_is_caller [.str x] ([] : Sto) = .ok (.bl true) [] := pcall_ok (S0 := []) (by simp [D_is_caller, fnD_eq, h1])
  refine pcall_ok (S0 := []) ?_
  simp [D_need_caller, fnD_eq, h2, dT, dUnB]
theorem word_ok {x : Str} {S : Sto} (h : Low x) (hl : x.length ≤ 12) : D_is_word [.str x] S = .ok (.bl true) S := by
  have h1 : pcall 3 D_is_lettered [.str x, .int 0, .int 12] S = .ok (.bl true) S := pcall_ok (lettered_ok (S := []) h (by omega) (by omega))
  simp [D_is_word, fnD_eq, h1]
theorem quality_ok {i : Int} {S : Sto} (h : 0 ≤ i ∧ i ≤ 2) : D_is_quality [.int i] S = .ok (.bl true) S := by
  have h1 : pcall 3 D_is_among [.int i, .int 0, .int 2] S = .ok (.bl true) S := pcall_ok (among_ok (S := []) h)
  simp [D_is_quality, fnD_eq, h1]
theorem truth_ok {b : Bool} {S : Sto} : D_is_truth [.bl b] S = .ok (.bl true) S := by
  simp [D_is_truth, fnD_eq]
/-- a name: its levels -/
structure Top (x : Str) (ls : List Str) : Prop where
  split : Txt.split x "/" = ls
  low : ∀ l ∈ ls, Low l ∧ 1 ≤ l.length ∧ l.length ≤ 3
  few : ls.length ≤ 4
  some : ls ≠ []
  sm : x.length ≤ 1000
  sgn : ∀ c ∈ x.cps.toList, c ≤ 122
theorem name_ok {x : Str} {ls : List Str} {S : Sto} (h : Top x ls) : D_is_name [.str x] S = .ok (.bl true) S := by
  have h1 : splitV (.str x) [.str "/"] S = .ok (.lst (ls.map .str)) S := by rw [split_slash h.sm, h.split]
  have h2 : lcGo any_ (gN 2) dYes (dArg (pcall 1 D_is_level) (dCons (dVar 2) dNil)) [some (.str x), some (.lst (ls.map .str)), none] (ls.map .str) [] S = .ok ([] ++ (ls.map D.str).map fun _ => .bl true) S := by
    refine lcGo_map (f := fun _ => .bl true) (ls.map .str) [] (by have := h.few; simp; unfold LIM; omega) fun d hd => ?_
    obtain ⟨l, hl, rfl⟩ := List.mem_map.mp hd
    have := h.low l hl
    have h3 : pcall 1 D_is_level [.str l] S = .ok (.bl true) S := pcall_ok (level_ok (S := []) this.1 this.2)
    simp [h3]
  have h3 := all_true (S := S) (ds := ls.map D.str) (by have := h.few; simp; omega)
  have h4 : ((ls.length : Nat) : Int) ≤ 4 := by have := h.few; omega
  simp only [List.nil_append] at h2
  simp [D_is_name, fnD_eq, dMs, isStr, h1, leV, ordV, h4, dAndV, dLcL, dLc, dItm, wpe, h2, dT, dUnB]
  rw [List.map_map] at h3
  rw [h3]
  rfl
/-- what a will is -/
structure Row where
  name : Str
  text : Str
  kept : Bool
  deriving DecidableEq
def Row.w (r : Row) : D := .tup [.str r.name, .str r.text, .int 0, .bl r.kept]
structure ROk (r : Row) : Prop where
  top : ∃ ls, Top r.name ls
  low : Low r.text
  len : r.text.length ≤ 12
theorem will_ok {r : Row} {S : Sto} (h : ROk r) : pcall 1 D_need_will [r.w] S = .ok .non S := by
  obtain ⟨ls, ht⟩ := h.top
  have h1 : pcall 1 D_is_name [.str r.name] ([] : Sto) = .ok (.bl true) [] := pcall_ok (name_ok (S := []) ht)
  have h2 : pcall 1 D_is_word [.str r.text] ([] : Sto) = .ok (.bl true) [] := pcall_ok (word_ok (S := []) h.low h.len)
  have h3 : pcall 1 D_is_quality [.int 0] ([] : Sto) = .ok (.bl true) [] := pcall_ok (quality_ok (S := []) (by omega))
  have h4 : pcall 1 D_is_truth [.bl r.kept] ([] : Sto) = .ok (.bl true) [] := pcall_ok (truth_ok (S := []))
  have h5 : pcall 1 D_is_will [r.w] ([] : Sto) = .ok (.bl true) [] := by
    refine pcall_ok (S0 := []) ?_
    simp [Row.w, D_is_will, fnD_eq, dT, dUnB, neV, eqB, scEq, oB, dAsg, gT, unpk, gN, onlyG, dAndV, h1, h2, h3, h4]
  refine pcall_ok (S0 := []) ?_
  simp [D_need_will, fnD_eq, isntV, isNon, dT, dUnB, h5, show isNon r.w = false from rfl]
theorem will_none {S : Sto} : pcall 1 D_need_will [.non] S = .ok .non S := by
  refine pcall_ok (S0 := []) ?_
  simp [D_need_will, fnD_eq, isntV, isNon, dT, dUnB]
end T55

set_option Elab.async false
set_option linter.all false
set_option maxRecDepth 100000
namespace T55
open PySem Dn
/-! ### the store of a turn -/
def hx (P : Sto) (i : Nat) : Nat := P.length + i
def tx (P : Sto) (j : Nat) : Nat := P.length + (9 + j)
def HF (P : Sto) : List (Str × D) := [("own_window", .int 3), ("own_words", .ref (hx P 2)), ("own_sessions", .ref (hx P 3)), ("own_wills", .ref (hx P 4)), ("own_kept", .ref (hx P 5))]
def sto (P : Sto) (a w s l k u t : SO) (T : Sto) : Sto := P ++ ([a, .ins "House" (HF P), w, s, l, k, u, t, .lst []] ++ T)
section
variable {P T G : Sto} {a w s l k u t x y : SO} {j : Nat}
@[simp] theorem sto_len : (sto P a w s l k u t T).length = tx P T.length := by simp [sto, tx]; omega
@[simp] theorem sto_app : sto P a w s l k u t T ++ G = sto P a w s l k u t (T ++ G) := by simp [sto]
theorem get_h {i : Nat} : (sto P a w s l k u t T)[hx P i]? = ([a, .ins "House" (HF P), w, s, l, k, u, t, .lst []] ++ T)[i]? := by
  unfold sto hx
  rw [List.getElem?_append_right (by omega)]
  congr 1
  omega
@[simp] theorem get_0 : (sto P a w s l k u t T)[hx P 0]? = some a := get_h
@[simp] theorem get_1 : (sto P a w s l k u t T)[hx P 1]? = some (.ins "House" (HF P)) := get_h
@[simp] theorem get_2 : (sto P a w s l k u t T)[hx P 2]? = some w := get_h
@[simp] theorem get_3 : (sto P a w s l k u t T)[hx P 3]? = some s := get_h
@[simp] theorem get_4 : (sto P a w s l k u t T)[hx P 4]? = some l := get_h
@[simp] theorem get_5 : (sto P a w s l k u t T)[hx P 5]? = some k := get_h
@[simp] theorem get_6 : (sto P a w s l k u t T)[hx P 6]? = some u := get_h
@[simp] theorem get_7 : (sto P a w s l k u t T)[hx P 7]? = some t := get_h
@[simp] theorem get_t : (sto P a w s l k u t T)[tx P j]? = T[j]? := by
  have h := get_h (P := P) (T := T) (a := a) (w := w) (s := s) (l := l) (k := k) (u := u) (t := t) (i := 9 + j)
  rw [show tx P j = hx P (9 + j) from rfl, h, List.getElem?_append_right (by simp)]
  congr 1
  simp
theorem set_h {i : Nat} {x : SO} : (sto P a w s l k u t T).set (hx P i) x = P ++ ([a, .ins "House" (HF P), w, s, l, k, u, t, .lst []] ++ T).set i x := by
  unfold sto hx
  rw [List.set_append_right _ _ (by omega)]
  congr 2
  omega
@[simp] theorem set_0 : (sto P a w s l k u t T).set (hx P 0) x = sto P x w s l k u t T := set_h
@[simp] theorem set_2 : (sto P a w s l k u t T).set (hx P 2) x = sto P a x s l k u t T := set_h
@[simp] theorem set_3 : (sto P a w s l k u t T).set (hx P 3) x = sto P a w x l k u t T := set_h
@[simp] theorem set_4 : (sto P a w s l k u t T).set (hx P 4) x = sto P a w s x k u t T := set_h
@[simp] theorem set_5 : (sto P a w s l k u t T).set (hx P 5) x = sto P a w s l x u t T := set_h
@[simp] theorem set_6 : (sto P a w s l k u t T).set (hx P 6) x = sto P a w s l k x t T := set_h
@[simp] theorem set_7 : (sto P a w s l k u t T).set (hx P 7) x = sto P a w s l k u x T := set_h
@[simp] theorem set_t : (sto P a w s l k u t T).set (tx P j) x = sto P a w s l k u t (T.set j x) := by
  rw [show tx P j = hx P (9 + j) from rfl, set_h, List.set_append_right _ _ (by simp)]
  unfold sto
  congr 3
  simp
@[simp] theorem mid_0 : (T ++ x :: G)[T.length]? = some x := by simp
@[simp] theorem mid_1 : (T ++ y :: x :: G)[T.length + 1]? = some x := by simp [List.getElem?_append_right]
@[simp] theorem mid_s0 : (T ++ x :: G).set T.length y = T ++ y :: G := by simp [List.set_append_right]
@[simp] theorem mid_s1 {z : SO} : (T ++ y :: x :: G).set (T.length + 1) z = T ++ y :: z :: G := by simp [List.set_append_right]
@[simp] theorem fl_1 : fldV "House" "own_window" (.ref (hx P 1)) (sto P a w s l k u t T) = .ok (.int 3) (sto P a w s l k u t T) := by unfold fldV; simp only [get_1]; rfl
@[simp] theorem fl_2 : fldV "House" "own_words" (.ref (hx P 1)) (sto P a w s l k u t T) = .ok (.ref (hx P 2)) (sto P a w s l k u t T) := by unfold fldV; simp only [get_1]; rfl
@[simp] theorem fl_3 : fldV "House" "own_sessions" (.ref (hx P 1)) (sto P a w s l k u t T) = .ok (.ref (hx P 3)) (sto P a w s l k u t T) := by unfold fldV; simp only [get_1]; rfl
@[simp] theorem fl_4 : fldV "House" "own_wills" (.ref (hx P 1)) (sto P a w s l k u t T) = .ok (.ref (hx P 4)) (sto P a w s l k u t T) := by unfold fldV; simp only [get_1]; rfl
@[simp] theorem fl_5 : fldV "House" "own_kept" (.ref (hx P 1)) (sto P a w s l k u t T) = .ok (.ref (hx P 5)) (sto P a w s l k u t T) := by unfold fldV; simp only [get_1]; rfl
theorem is_h {m : Str} (h : (["own_window", "own_words", "own_sessions", "own_wills", "own_kept"] : List Str).all (fun z => !(m == z)) = true) : isIns "House" m (sto P a w s l k u t T) (.ref (hx P 1)) = true := by
  unfold isIns
  simp only [get_1, decide_true, Bool.true_and, HF]
  simp only [List.all_cons, List.all_nil, Bool.and_eq_true, Bool.not_eq_true'] at h
  obtain ⟨h1, h2, h3, h4, h5, _⟩ := h
  simp [List.lookup, h1, h2, h3, h4, h5]
end
/-- what a caller likes -/
def lk (c : Str) : List D := if c = "zz" then [.tup [.str "#", .int 2]] else []
/-- a session of c at i -/
def Ses (P T : Sto) (c : Str) (d : D) : Prop := ∃ j cl q, d = .ref (tx P j) ∧ T[j]? = some (.ins "Session" [("clean", .bl cl), ("liked", .tup (lk c)), ("out", .tup []), ("notes", .tup []), ("queue", .ref (tx P q))]) ∧ T[q]? = some (.lst [])
theorem Ses.app {P T G : Sto} {c : Str} {d : D} (h : Ses P T c d) : Ses P (T ++ G) c d := by
  obtain ⟨j, cl, q, h1, h2, h3⟩ := h
  exact ⟨j, cl, q, h1, by rw [List.getElem?_append_left (List.getElem?_eq_some_iff.mp h2).1]; exact h2, by rw [List.getElem?_append_left (List.getElem?_eq_some_iff.mp h3).1]; exact h3⟩
section
variable {P T G : Sto} {a w s l k u t : SO} {c : Str} {ds : List D} {j : Nat}
theorem app_t {x : D} (h : T[j]? = some (.lst ds)) (hl : ds.length < LIM) : appendV (.ref (tx P j)) [x] (sto P a w s l k u t T) = .ok .non (sto P a w s l k u t (T.set j (.lst (ds ++ [x])))) := by
  simp [appendV, chg, h, hl]
theorem app_last {x : D} (hl : ds.length < LIM) : appendV (.ref (tx P T.length)) [x] (sto P a w s l k u t (T ++ .lst ds :: G)) = .ok .non (sto P a w s l k u t (T ++ .lst (ds ++ [x]) :: G)) := by
  simp [appendV, chg, hl]
theorem app_2 {x : D} (hl : ds.length < LIM) : appendV (.ref (hx P 2)) [x] (sto P a (.lst ds) s l k u t T) = .ok .non (sto P a (.lst (ds ++ [x])) s l k u t T) := by
  simp [appendV, chg, hl]
theorem app_6 {x : D} (hl : ds.length < LIM) : appendV (.ref (hx P 6)) [x] (sto P a w s l k (.lst ds) t T) = .ok .non (sto P a w s l k (.lst (ds ++ [x])) t T) := by
  simp [appendV, chg, hl]
theorem worded_nil : D_House_worded [.ref (hx P 1), .str c, .tup []] (sto P a w s l k u t T) = .ok (.lst []) (sto P a w s l k u t (T ++ [.gone])) := by
  simp [D_House_worded, fnD_eq, mkLstM, dFor, dItm, forGo, any_, frz]
/-- a row that was accepted -/
def Row.d (c : Str) (r : Row) : D := .tup [.str c, .str r.name, .str r.text, .int 0, .bl r.kept]
/-- what is sent of it -/
def Row.pub (r : Row) : D := .tup [.str "zz", .tup [.str "publish", .int 0, .str r.name, .str r.text, .int 0, .bl r.kept]]
theorem at_nat {α : Type} {xs : List α} {i : Nat} {x : α} (h : xs[i]? = some x) : L2.atI xs (i : Int) = some x := by
  unfold L2.atI L2.ixN
  have := (List.getElem?_eq_some_iff.mp h).1
  rw [if_pos (by omega), if_pos (by omega)]
  simpa using h
theorem at_last {α : Type} (xs : List α) (x : α) : L2.atI (xs ++ [x]) (xs.length : Int) = some x := at_nat (by simp)
theorem ix_lst {W : List D} {i : Nat} {d : D} {n : Nat} {S : Sto} (hS : S[n]? = some (.lst W)) (h : W[i]? = some d) : ixV2 (.ref n) (.int (i : Int)) S = .ok d S := by
  unfold ixV2 dK_of dctS
  simp only [hS]
  unfold ixV
  simp only [seqS, hS, at_nat h]
theorem ix_tup {W : List D} {i : Nat} {d : D} {S : Sto} (h : W[i]? = some d) : ixV2 (.tup W) (.int (i : Int)) S = .ok d S := by
  show ixV (.tup W) (.int (i : Int)) S = _
  unfold ixV
  simp only [seqS, at_nat h]
theorem ix_ll {W : List D} {i : Nat} {d : D} {S : Sto} (h : W[i]? = some d) : ixV2 (.lst W) (.int (i : Int)) S = .ok d S := by
  show ixV (.lst W) (.int (i : Int)) S = _
  unfold ixV
  simp only [seqS, at_nat h]
section
variable {x0 x1 x2 x3 x4 : D} {r : List D} {S : Sto}
@[simp] theorem ixt0 : ixV2 (.tup (x0 :: r)) (.int 0) S = .ok x0 S := ix_tup (i := 0) rfl
@[simp] theorem ixt1 : ixV2 (.tup (x0 :: x1 :: r)) (.int 1) S = .ok x1 S := ix_tup (i := 1) rfl
@[simp] theorem ixt2 : ixV2 (.tup (x0 :: x1 :: x2 :: r)) (.int 2) S = .ok x2 S := ix_tup (i := 2) rfl
@[simp] theorem ixt3 : ixV2 (.tup (x0 :: x1 :: x2 :: x3 :: r)) (.int 3) S = .ok x3 S := ix_tup (i := 3) rfl
@[simp] theorem ixt4 : ixV2 (.tup (x0 :: x1 :: x2 :: x3 :: x4 :: r)) (.int 4) S = .ok x4 S := ix_tup (i := 4) rfl
@[simp] theorem eqss {x y : Str} : eqV (.str x) (.str y) S = .ok (.bl (decide (x = y))) S := rfl
@[simp] theorem eqii {x y : Int} : eqV (.int x) (.int y) S = .ok (.bl (decide (x = y))) S := rfl
@[simp] theorem ness {x y : Str} : neV (.str x) (.str y) S = .ok (.bl (!decide (x = y))) S := rfl
@[simp] theorem neii {x y : Int} : neV (.int x) (.int y) S = .ok (.bl (!decide (x = y))) S := rfl
end
theorem worded_pub {W : List D} {r : Row} {g : Str} : D_House_worded [.ref (hx P 1), .str "zz", .lst [.tup [.str "publish", .int 0, .int W.length, .int 0]]] (sto P a (.lst (W ++ [r.d g])) s l k u t T) = .ok (.lst [r.pub]) (sto P a (.lst (W ++ [r.d g])) s l k u t (T ++ [.gone])) := by
  have h1 : ixV2 (.ref (hx P 2)) (.int W.length) (sto P a (.lst (W ++ [r.d g])) s l k u t (T ++ [.lst []])) = .ok (r.d g) _ := ix_lst get_2 (by simp)
  have h2 := app_last (P := P) (a := a) (w := .lst (W ++ [r.d g])) (s := s) (l := l) (k := k) (u := u) (t := t) (T := T) (G := []) (ds := []) (x := r.pub) (by decide)
  simp only [Row.pub, Row.d] at h1 h2 ⊢
  simp [D_House_worded, fnD_eq, mkLstM, dFor, dItm, forGo, any_, frz, gN, dT, dUnB, dAsg, h1, mkTup, gT, unpk, onlyG, dMl, isLst, seqL, h2, LIM]
end
end T55

set_option Elab.async false
set_option linter.all false
set_option maxRecDepth 100000
namespace T55
open PySem Dn
section
variable {P T G : Sto} {a w s l k u t : SO} {c name : Str} {ds : List D} {j : Nat} {S : Sto}
theorem split_hash : splitV (.str "#") [.str "/"] S = .ok (.lst [.str "#"]) S := by
  rw [split_slash (by decide)]
  have : Txt.split "#" "/" = (["#"] : List Str) := by decide +kernel
  rw [this]
  rfl
theorem match_hash (h : name.length ≤ 1000) : pcall 2 D_does_match [.str "#", .str name] S = .ok (.bl true) S := by
  refine pcall_ok (S0 := []) ?_
  simp [D_does_match, fnD_eq, dPar, dMs, isStr, split_hash, split_slash h, dFor, dEnum, enumD, forGo, any_, gT, unpk, gN]
theorem best_none : pcall 2 D_best_by [.tup [], .str name] S = .ok .non S := by
  refine pcall_ok (S0 := []) ?_
  simp [D_best_by, fnD_eq, dMaxD, dLcL, dLc, dItm, lcGo, any_, maxDefV, seqL, intsD]
theorem best_hash (h : name.length ≤ 1000) : pcall 2 D_best_by [.tup [.tup [.str "#", .int 2]], .str name] S = .ok (.int 2) S := by
  refine pcall_ok (S0 := []) ?_
  simp [D_best_by, fnD_eq, dMaxD, dLcL, dLc, dItm, lcGo, any_, maxDefV, seqL, intsD, gT, unpk, gN, wpe, match_hash h, LIM]
theorem best_lk (h : name.length ≤ 1000) : pcall 2 D_best_by [.tup (lk c), .str name] S = .ok (if c = "zz" then .int 2 else .non) S := by
  unfold lk
  split
  · exact best_hash h
  · exact best_none
theorem fl_liked {d : D} (h : Ses P T c d) : fldV "Session" "liked" d (sto P a w s l k u t T) = .ok (.tup (lk c)) (sto P a w s l k u t T) := by
  obtain ⟨j, cl, q, rfl, h2, h3⟩ := h
  unfold fldV
  simp only [get_t, h2]
  rfl
theorem fl_out {d : D} (h : Ses P T c d) : fldV "Session" "out" d (sto P a w s l k u t T) = .ok (.tup []) (sto P a w s l k u t T) := by
  obtain ⟨j, cl, q, rfl, h2, h3⟩ := h
  unfold fldV
  simp only [get_t, h2]
  rfl
theorem fl_clean {d : D} (h : Ses P T c d) : ∃ cl, fldV "Session" "clean" d (sto P a w s l k u t T) = .ok (.bl cl) (sto P a w s l k u t T) := by
  obtain ⟨j, cl, q, rfl, h2, h3⟩ := h
  refine ⟨cl, ?_⟩
  unfold fldV
  simp only [get_t, h2]
  rfl
theorem fl_queue {d : D} (h : Ses P T c d) : ∃ q, T[q]? = some (.lst []) ∧ ∀ a w s l k u t G, fldV "Session" "queue" d (sto P a w s l k u t (T ++ G)) = .ok (.ref (tx P q)) (sto P a w s l k u t (T ++ G)) := by
  obtain ⟨j, cl, q, rfl, h2, h3⟩ := h
  refine ⟨q, h3, fun a w s l k u t G => ?_⟩
  unfold fldV
  have h4 : (T ++ G)[j]? = T[j]? := List.getElem?_append_left (List.getElem?_eq_some_iff.mp h2).1
  simp only [get_t, h4, h2]
  rfl
@[simp] theorem is_worded : isIns "House" "worded" (sto P a w s l k u t T) (.ref (hx P 1)) = true := is_h rfl
@[simp] theorem is_drained : isIns "House" "drained" (sto P a w s l k u t T) (.ref (hx P 1)) = true := is_h rfl
@[simp] theorem is_given : isIns "House" "given_to" (sto P a w s l k u t T) (.ref (hx P 1)) = true := is_h rfl
@[simp] theorem is_accept : isIns "House" "accept" (sto P a w s l k u t T) (.ref (hx P 1)) = true := is_h rfl
@[simp] theorem is_come : isIns "House" "come" (sto P a w s l k u t T) (.ref (hx P 1)) = true := is_h rfl
@[simp] theorem is_wants : isIns "House" "wants" (sto P a w s l k u t T) (.ref (hx P 1)) = true := is_h rfl
@[simp] theorem is_cut : isIns "House" "cut" (sto P a w s l k u t T) (.ref (hx P 1)) = true := is_h rfl
@[simp] theorem is_goes : isIns "House" "goes" (sto P a w s l k u t T) (.ref (hx P 1)) = true := is_h rfl
@[simp] theorem is_off : isIns "House" "off" (sto P a w s l k u t T) (.ref (hx P 1)) = true := is_h rfl
@[simp] theorem is_need_on : isIns "House" "need_on" (sto P a w s l k u t T) (.ref (hx P 1)) = true := is_h rfl
@[simp] theorem is_kept : isIns "House" "kept" (sto P a w s l k u t T) (.ref (hx P 1)) = true := is_h rfl
@[simp] theorem is_kept_names : isIns "House" "kept_names" (sto P a w s l k u t T) (.ref (hx P 1)) = true := is_h rfl
@[simp] theorem is_accepted : isIns "House" "accepted" (sto P a w s l k u t T) (.ref (hx P 1)) = true := is_h rfl
@[simp] theorem is_on : isIns "House" "on" (sto P a w s l k u t T) (.ref (hx P 1)) = true := is_h rfl
theorem e_meth {c m : Str} {n j : Nat} {gD : List D → List D → List D} {call : Den} {o : DE D} {l k : DE (List D)} {env : Dn.Env} : dMeth c m n j gD call o l k env S = (o env S).bind fun x S1 => if isIns c m S1 x = true then (l env S1).bind fun ds S2 => (k env S2).bind fun zs S3 => if ds.length = n ∧ zs.length = j then call (gD (x :: ds) zs) S3 else .fail else .fail := rfl
theorem drained_nil {se : Rows} {c c' : Str} {d : D} (h : ag se c = some d) (hs : Ses P T c' d) : D_House_drained [.ref (hx P 1), .str c] (sto P a w (dO se) l k u t T) = .ok (.lst []) (sto P a w (dO se) l k u t (T ++ [.gone])) := by
  have h1 : ixV2 (.ref (hx P 3)) (.str c) (sto P a w (dO se) l k u t T) = .ok d (sto P a w (dO se) l k u t T) := ix_rows get_3 h
  obtain ⟨q, h2, h3⟩ := fl_queue hs
  have h4 : (T ++ [SO.lst []])[q]? = some (.lst []) := by rw [List.getElem?_append_left (List.getElem?_eq_some_iff.mp h2).1]; exact h2
  have h5 : neV (.ref (tx P q)) (.lst []) (sto P a w (dO se) l k u t (T ++ [.lst []])) = .ok (.bl false) (sto P a w (dO se) l k u t (T ++ [.lst []])) := by
    unfold neV
    rw [eq_dp (p := .list []) rfl (by simp [pyS, h4, pys]) (by simp [pyS, D.py, pys]) rfl (by decide)]
    rfl
  have h6 : ∀ {c : DE Bool} {body : DS} {env : Dn.Env} {S S1 : Sto}, c env S = .ok false S1 → dWhile 1000 c body env S = .nx env S1 := fun {c body env S S1} h => by
    show (c env S).bindS env _ = _
    rw [h]
    rfl
  simp [D_House_drained, fnD_eq, dPar, h1, mkLstM]
  rw [h6 (S1 := sto P a w (dO se) l k u t (T ++ [.lst []])) (by simp [h3, mkLst, h5])]
  simp [frz]
theorem given_ok {se wi : Rows} {W : List D} {r : Row} {g : Str} {d e : D} (h : ag se "zz" = some d) (hw : ag wi "zz" = some e) : D_House_given_to [.ref (hx P 1), .str "zz", .int W.length, .int 0] (sto P a (.lst (W ++ [r.d g])) (dO se) (dO wi) k u t T) = .ok (.lst [r.pub]) (sto P a (.lst (W ++ [r.d g])) (dO se) (dO wi) k u t (T ++ [.gone])) := by
  have h1 : ixV2 (.ref (hx P 3)) (.str "zz") (sto P a (.lst (W ++ [r.d g])) (dO se) (dO wi) k u t T) = .ok d (sto P a (.lst (W ++ [r.d g])) (dO se) (dO wi) k u t T) := ix_rows get_3 h
  have h2 : notInV2 (.str "zz") (.ref (hx P 4)) (sto P a (.lst (W ++ [r.d g])) (dO se) (dO wi) k u t T) = .ok (.bl false) (sto P a (.lst (W ++ [r.d g])) (dO se) (dO wi) k u t T) := by rw [nin_rows get_4, hw]; rfl
  simp [D_House_given_to, fnD_eq, h1, h2, e_meth, mkTup, mkLst, LIM, gD_House_worded_3_, gcall_eq, worded_pub]
end
theorem forGo_inv {I : List D → Dn.Env → Sto → Prop} {t : DG} {body : DS} (step : ∀ d ds env S, I (d :: ds) env S → ∃ e1 S1, t d env S = .nx e1 S1 ∧ ∃ e2 S2, body e1 S1 = .nx e2 S2 ∧ I ds e2 S2) :
    ∀ ds env S, I ds env S → ∃ e2 S2, forGo any_ t body ds env S = .nx e2 S2 ∧ I [] e2 S2
  | [], env, S, h => ⟨env, S, rfl, h⟩
  | d :: ds, env, S, h => by
    obtain ⟨e1, S1, h1, e2, S2, h2, h3⟩ := step d ds env S h
    obtain ⟨e3, S3, h4, h5⟩ := forGo_inv step ds e2 S2 h3
    refine ⟨e3, S3, ?_, h5⟩
    unfold forGo
    simp only [any_, if_true, h1, h2]
    exact h4
/-- the house's rows hold together -/
structure HOk (P T : Sto) (se wi : Rows) : Prop where
  ses : ∀ c d, (c, d) ∈ se → Ses P T c d
  nd : (se.map (·.1)).Nodup
  few : se.length < 64
  zs : (ag se "zz").isSome = true
  zw : (ag wi "zz").isSome = true
  sub : ∀ c, (ag wi c).isSome = true → (ag se c).isSome = true
theorem HOk.app {P T G : Sto} {se wi : Rows} (h : HOk P T se wi) : HOk P (T ++ G) se wi := ⟨fun c d m => (h.ses c d m).app, h.nd, h.few, h.zs, h.zw, h.sub⟩
/-- the kept words when one more comes -/
def keptUp (ke : Rows) (r : Row) (i : Nat) : Rows := if r.kept = true then (if r.text = "" then ad (ap ke r.name (.int i)) r.name else ap ke r.name (.int i)) else ke
end T55

set_option Elab.async false
set_option linter.all false
set_option maxRecDepth 100000
namespace T55
open PySem Dn
abbrev bodyA : DS := (dSeq (dSet 10 (dArg (pcall 2 D_best_by) (dCons (dUn (fldV "Session" "liked") (dOp ixV2 (dUn (fldV "House" "own_sessions") (dVar 0)) (dVar 9))) (dCons (dVar 3) dNil)))) (dIfS (dT (dOp isntV (dVar 10) (dC .non))) (dDrop (dMl extendV (dVar 8) (dCons (dMeth "House" "given_to" 3 0 gD_House_given_to_4_ (gcall 4 D_House_given_to) (dVar 0) (dCons (dVar 9) (dCons (dVar 7) (dCons (dArg minV (dCons (dVar 10) (dCons (dVar 5) dNil))) dNil))) dNil) dNil))) dNext))
section
variable {P T G : Sto} {a w s l k u t : SO} {c name : Str} {ds : List D} {j : Nat} {S : Sto} {se wi ke : Rows} {W : List D} {r : Row} {g : Str}
theorem ext_last {es : List D} (hl : ds.length + es.length ≤ LIM) : extendV (.ref (tx P T.length)) [.lst es] (sto P a w s l k u t (T ++ .lst ds :: G)) = .ok .non (sto P a w s l k u t (T ++ .lst (ds ++ es) :: G)) := by
  simp [extendV, lstS, chg, hl]
open Classical in
/-- what stands in the store when the callers of rest are still to come -/
noncomputable def tA (T : Sto) (r : Row) (rest : List D) : Sto := if D.str "zz" ∈ rest then T ++ [.lst []] else T ++ [.lst [r.pub], .gone]
def eA (P T : Sto) (g : Str) (r : Row) (n : Nat) (x y : Option D) : Dn.Env := [some (.ref (hx P 1)), some (r.d g), some (.str g), some (.str r.name), some (.str r.text), some (.int 0), some (.bl r.kept), some (.int n), some (.ref (tx P T.length)), x, y]
def IA (P T : Sto) (a k u t : SO) (W : List D) (se wi : Rows) (g : Str) (r : Row) (rest : List D) (env : Dn.Env) (S : Sto) : Prop :=
  rest.Nodup ∧ (∀ d ∈ rest, ∃ c, d = .str c ∧ (ag se c).isSome = true) ∧ (∃ x y, env = eA P T g r W.length x y) ∧ S = sto P a (.lst (W ++ [r.d g])) (dO se) (dO wi) k u t (tA T r rest)
theorem loopA (H : HOk P T se wi) (hn : r.name.length ≤ 1000) (rest : List D) (env : Dn.Env) (S : Sto) (h : IA P T a k u t W se wi g r rest env S) : ∃ e2 S2, forGo any_ (gN 9) bodyA rest env S = .nx e2 S2 ∧ IA P T a k u t W se wi g r [] e2 S2 := by
  refine forGo_inv (I := IA P T a k u t W se wi g r) (fun d ds env S ⟨h1, h2, ⟨x, y, h3⟩, h4⟩ => ?_) rest env S h
  subst h3
  obtain ⟨c, rfl, hc⟩ := h2 _ List.mem_cons_self
  obtain ⟨sd, hsd⟩ := Option.isSome_iff_exists.mp hc
  have hS := H.ses c sd (ag_some hsd)
  rw [List.nodup_cons] at h1
  refine ⟨_, S, rfl, ?_⟩
  have a1 : ∀ T', ixV2 (.ref (hx P 3)) (.str c) (sto P a (.lst (W ++ [r.d g])) (dO se) (dO wi) k u t T') = .ok sd (sto P a (.lst (W ++ [r.d g])) (dO se) (dO wi) k u t T') := fun T' => ix_rows get_3 hsd
  by_cases hz : c = "zz"
  · subst hz
    have e0 : tA T r (D.str "zz" :: ds) = T ++ [.lst []] := by simp [tA]
    have e1 : tA T r ds = T ++ [.lst [r.pub], .gone] := by simp [tA, h1.1]
    obtain ⟨wd, hwd⟩ := Option.isSome_iff_exists.mp H.zw
    rw [e0] at h4
    subst h4
    have a3 : fldV "Session" "liked" sd (sto P a (.lst (W ++ [r.d g])) (dO se) (dO wi) k u t (T ++ [.lst []])) = .ok (.tup (lk "zz")) _ := fl_liked hS.app
    have a4 := given_ok (P := P) (T := T ++ [.lst []]) (a := a) (k := k) (u := u) (t := t) (W := W) (r := r) (g := g) hsd hwd
    have a5 := ext_last (P := P) (T := T) (a := a) (w := .lst (W ++ [r.d g])) (s := dO se) (l := dO wi) (k := k) (u := u) (t := t) (G := [.gone]) (ds := []) (es := [r.pub]) (by show 0 + 1 ≤ LIM; decide)
    refine ⟨eA P T g r W.length (some (.str "zz")) (some (.int 2)), _, ?_, h1.2, fun d hd => h2 d (List.mem_cons_of_mem _ hd), ⟨_, _, rfl⟩, by rw [e1]⟩
    simp [eA, bodyA, a1, a3, best_lk hn, isntV, isNon, dMl, isLst, seqL, e_meth, minV, gD_House_given_to_4_, gcall_eq, a4]
    simp at a5
    simp [a5]
  · have e0 : tA T r (D.str c :: ds) = tA T r ds := by
      unfold tA
      by_cases hq : D.str "zz" ∈ ds
      · rw [if_pos (List.mem_cons_of_mem _ hq), if_pos hq]
      · rw [if_neg (fun z => (List.mem_cons.mp z).elim (fun e => hz (by injection e with e; exact e.symm)) hq), if_neg hq]
    rw [e0] at h4
    subst h4
    have hS' : Ses P (tA T r ds) c sd := by
      unfold tA
      split <;> exact hS.app
    have a3 : fldV "Session" "liked" sd (sto P a (.lst (W ++ [r.d g])) (dO se) (dO wi) k u t (tA T r ds)) = .ok (.tup (lk c)) _ := fl_liked hS'
    refine ⟨eA P T g r W.length (some (.str c)) (some .non), _, ?_, h1.2, fun d hd => h2 d (List.mem_cons_of_mem _ hd), ⟨_, _, rfl⟩, rfl⟩
    simp [eA, bodyA, a1, a3, best_lk hn, hz, isntV, isNon]
theorem sorted_has {m : Rows} {c : Str} : D.str c ∈ sortD ((m.map (·.1)).map .str) ↔ (ag m c).isSome = true := by
  rw [(sortD_perm _).mem_iff, ag_mem]
  simp
theorem sorted_nd {m : Rows} (h : (m.map (·.1)).Nodup) : (sortD ((m.map (·.1)).map .str)).Nodup := by
  rw [(sortD_perm _).nodup_iff]
  exact h.map _ fun a b e => by
    intro q
    exact e (by injection q)
theorem accept_ok (H : HOk P T se wi) (hn : r.name.length ≤ 1000) (hW : W.length ≤ 1000) (hk : ke.length ≤ 1000) :
    D_House_accept [.ref (hx P 1), r.d g] (sto P a (.lst W) (dO se) (dO wi) (dO ke) u t T) = .ok (.ref (tx P T.length)) (sto P a (.lst (W ++ [r.d g])) (dO se) (dO wi) (dO (keptUp ke r W.length)) u t (T ++ [.lst [r.pub], .gone])) := by
  have hw : W.length < LIM := by unfold LIM; omega
  have hk1 : ke.length < LIM := by unfold LIM; omega
  have b1 := app_2 (P := P) (T := T) (a := a) (s := dO se) (l := dO wi) (k := dO ke) (u := u) (t := t) (ds := W) (x := r.d g) hw
  have b2 : lenV2 [.ref (hx P 2)] (sto P a (.lst W) (dO se) (dO wi) (dO ke) u t T) = .ok (.int W.length) (sto P a (.lst W) (dO se) (dO wi) (dO ke) u t T) := by
    simp [lenV2, lenV, seqS]
  have b3 : ∀ (S0 : Sto) (env : Dn.Env), setIx2 (.ref (hx P 5)) (.str r.name) (.int W.length) env (sto P a (.lst (W ++ [r.d g])) (dO se) (dO wi) (dO ke) u t T) = .nx env (sto P a (.lst (W ++ [r.d g])) (dO se) (dO wi) (dO (ap ke r.name (.int W.length))) u t T) := fun _ env => by
    rw [set_rows get_5 hk1, set_5]
  have b4 : popDV (.ref (hx P 5)) (.str r.name) (sto P a (.lst (W ++ [r.d g])) (dO se) (dO wi) (dO (ap ke r.name (.int W.length))) u t T) = .ok (.int W.length) (sto P a (.lst (W ++ [r.d g])) (dO se) (dO wi) (dO (ad (ap ke r.name (.int W.length)) r.name)) u t T) := by
    rw [popd_rows get_5 (d := .int W.length) (by rw [ag_ap]; simp), set_5]
  have b5 : isDct (sto P a (.lst (W ++ [r.d g])) (dO se) (dO wi) (dO (ap ke r.name (.int W.length))) u t T) (.ref (hx P 5)) = true := isDct_rows get_5
  have b6 : ∀ k', sortedV2 [.ref (hx P 3)] (sto P a (.lst (W ++ [r.d g])) (dO se) (dO wi) (dO k') u t (T ++ [.lst []])) = .ok (.lst (sortD ((se.map (·.1)).map .str))) (sto P a (.lst (W ++ [r.d g])) (dO se) (dO wi) (dO k') u t (T ++ [.lst []])) := fun k' => sort_rows get_3 H.few
  have b7 : ∀ k' x y, ∃ e2 S2, forGo any_ (gN 9) bodyA (sortD ((se.map (·.1)).map .str)) (eA P T g r W.length x y) (sto P a (.lst (W ++ [r.d g])) (dO se) (dO wi) (dO k') u t (T ++ [.lst []])) = .nx e2 S2 ∧ IA P T a (dO k') u t W se wi g r [] e2 S2 := fun k' x y => by
    refine loopA H hn _ _ _ ⟨sorted_nd H.nd, fun d hd => ?_, ⟨x, y, rfl⟩, ?_⟩
    · obtain ⟨z, hz, rfl⟩ := List.mem_map.mp ((sortD_perm _).mem_iff.mp hd)
      exact ⟨z, rfl, ag_mem.mpr hz⟩
    · unfold tA
      rw [if_pos (sorted_has.mpr H.zs)]
  have b8 : ∀ k' x y, outD ((match forGo any_ (gN 9) bodyA (sortD ((se.map (·.1)).map .str)) (eA P T g r W.length x y) (sto P a (.lst (W ++ [r.d g])) (dO se) (dO wi) (dO k') u t (T ++ [.lst []])) with
      | .nx e1 S1 => dRet (dVar 8) e1 S1
      | r => r)) = .ok (.ref (tx P T.length)) (sto P a (.lst (W ++ [r.d g])) (dO se) (dO wi) (dO k') u t (T ++ [.lst [r.pub], .gone])) := fun k' x y => by
    obtain ⟨e2, S2, h1, _, _, ⟨x', y', rfl⟩, h3⟩ := b7 k' x y
    rw [h1, h3]
    simp [eA, tA]
  have b0 : ∀ (env : Dn.Env) (S : Sto), gT [gN 2, gN 3, gN 4, gN 5, gN 6] (r.d g) env S = .nx (((((env.set 2 (some (.str g))).set 3 (some (.str r.name))).set 4 (some (.str r.text))).set 5 (some (.int 0))).set 6 (some (.bl r.kept))) S := fun _ _ => rfl
  have b9 := fun k' => b8 k' none none
  simp only [eA] at b9
  cases hq : r.kept with
  | false =>
    rw [hq] at b9
    have hu : keptUp ke r W.length = ke := by simp [keptUp, hq]
    rw [hu]
    simp [D_House_accept, fnD_eq, dAsg, b0, onlyG, b2, dMl, isLst, seqL, b1, hq, mkLstM, dFor, dItm, b6]
    have z9 := b9 ke
    simp [bodyA] at z9
    exact z9
  | true =>
    rw [hq] at b9
    by_cases hx' : r.text = ""
    · have hu : keptUp ke r W.length = ad (ap ke r.name (.int W.length)) r.name := by simp [keptUp, hq, hx']
      rw [hu]
      simp [D_House_accept, fnD_eq, dAsg, b0, onlyG, b2, dMl, isLst, seqL, b1, hq, mkLstM, dFor, dItm, b6, gIx2, b3 [], hx', dPopD, b4, b5]
      rw [hx'] at b9
      have z9 := b9 (ad (ap ke r.name (.int W.length)) r.name)
      simp [bodyA] at z9
      exact z9
    · have hu : keptUp ke r W.length = ap ke r.name (.int W.length) := by simp [keptUp, hq, hx']
      rw [hu]
      simp [D_House_accept, fnD_eq, dAsg, b0, onlyG, b2, dMl, isLst, seqL, b1, hq, mkLstM, dFor, dItm, b6, gIx2, b3 [], hx']
      have z9 := b9 (ap ke r.name (.int W.length))
      simp [bodyA] at z9
      exact z9
end
end T55

set_option Elab.async false
set_option linter.all false
set_option maxRecDepth 100000
namespace T55
open PySem Dn
/-- a will, or none -/
def wd : Option Row → D
  | none => .non
  | some r => r.w
def pubs (o : Option Row) : List D := (o.map Row.pub).toList
def acc (c : Str) (o : Option Row) : List D := (o.map (Row.d c)).toList
def garb (o : Option Row) : Sto := match o with
  | none => [.lst []]
  | some r => [.lst [r.pub], .gone]
def keptO (ke : Rows) (o : Option Row) (i : Nat) : Rows := match o with
  | none => ke
  | some r => keptUp ke r i
structure CallOk (c : Str) : Prop where
  low : Low c
  len : 1 ≤ c.length ∧ c.length ≤ 3
  nz : c ≠ "zz"
section
variable {P T G : Sto} {a w s l k u t : SO} {c name : Str} {ds : List D} {j : Nat} {S : Sto} {se wi ke : Rows} {W : List D} {r : Row} {g : Str} {d : D}
theorem HOk.off (H : HOk P T se wi) (hz : c ≠ "zz") (cl : Bool) : HOk P T (if cl = true then ad se c else se) (ad wi c) := by
  have hzz : (ag (ad wi c) "zz").isSome = true := by rw [ag_ad, if_neg hz]; exact H.zw
  cases cl with
  | true =>
    refine ⟨fun x d m => H.ses x d (mem_ad m), ad_nodup H.nd, ?_, ?_, hzz, fun x h => ?_⟩
    · have := H.few
      have := ad_len (m := se) (x := c)
      show (ad se c).length < 64
      omega
    · show (ag (ad se c) "zz").isSome = true
      rw [ag_ad, if_neg hz]
      exact H.zs
    · show (ag (ad se c) x).isSome = true
      rw [ag_ad] at h ⊢
      split at h
      · cases h
      · rename_i q
        rw [if_neg q]
        exact H.sub x h
  | false =>
    refine ⟨H.ses, H.nd, H.few, H.zs, hzz, fun x h => ?_⟩
    rw [ag_ad] at h
    split at h
    · cases h
    · exact H.sub x h
theorem off_ok (H : HOk P T se wi) (hz : c ≠ "zz") (hw : ag wi c = some d) : ∃ cl : Bool, D_House_off [.ref (hx P 1), .str c] (sto P a w (dO se) (dO wi) k u t T) = .ok d (sto P a w (dO (if cl = true then ad se c else se)) (dO (ad wi c)) k u t T) := by
  obtain ⟨sd, hsd⟩ := Option.isSome_iff_exists.mp (H.sub c (by rw [hw]; rfl))
  have hS := H.ses c sd (ag_some hsd)
  obtain ⟨cl, hcl⟩ := fl_clean (a := a) (w := w) (s := dO se) (l := dO (ad wi c)) (k := k) (u := u) (t := t) hS
  refine ⟨cl, ?_⟩
  have c1 : isDct (sto P a w (dO se) (dO wi) k u t T) (.ref (hx P 4)) = true := isDct_rows get_4
  have c2 : popDV (.ref (hx P 4)) (.str c) (sto P a w (dO se) (dO wi) k u t T) = .ok d (sto P a w (dO se) (dO (ad wi c)) k u t T) := by rw [popd_rows get_4 hw, set_4]
  have c3 : ixV2 (.ref (hx P 3)) (.str c) (sto P a w (dO se) (dO (ad wi c)) k u t T) = .ok sd (sto P a w (dO se) (dO (ad wi c)) k u t T) := ix_rows get_3 hsd
  have c4 : isDct (sto P a w (dO se) (dO (ad wi c)) k u t T) (.ref (hx P 3)) = true := isDct_rows get_3
  have c5 : popDV (.ref (hx P 3)) (.str c) (sto P a w (dO se) (dO (ad wi c)) k u t T) = .ok sd (sto P a w (dO (ad se c)) (dO (ad wi c)) k u t T) := by rw [popd_rows get_3 hsd, set_3]
  cases cl <;> simp [D_House_off, fnD_eq, dPopD, c1, c2, c3, hcl, c4, c5]
theorem need_on_ok (hw : ag wi c = some d) : D_House_need_on [.ref (hx P 1), .str c] (sto P a w s (dO wi) k u t T) = .ok .non (sto P a w s (dO wi) k u t T) := by
  have c1 : notInV2 (.str c) (.ref (hx P 4)) (sto P a w s (dO wi) k u t T) = .ok (.bl false) (sto P a w s (dO wi) k u t T) := by rw [nin_rows get_4, hw]; rfl
  simp [D_House_need_on, fnD_eq, c1]
theorem cut_ok {o : Option Row} (H : HOk P T se wi) (hc : CallOk c) (hw : ag wi c = some (wd o)) (ho : ∀ r, o = some r → ROk r) (hW : W.length ≤ 1000) (hk : ke.length ≤ 1000) :
    ∃ cl : Bool, D_House_cut [.ref (hx P 1), .str c] (sto P a (.lst W) (dO se) (dO wi) (dO ke) u t T) = .ok (.ref (tx P T.length)) (sto P a (.lst (W ++ acc c o)) (dO (if cl = true then ad se c else se)) (dO (ad wi c)) (dO (keptO ke o W.length)) u t (T ++ garb o)) := by
  obtain ⟨cl, h1⟩ := off_ok (a := a) (w := .lst W) (k := dO ke) (u := u) (t := t) H hc.nz hw
  refine ⟨cl, ?_⟩
  have H2 := H.off hc.nz cl
  have h2 := need_on_ok (P := P) (T := T) (a := a) (w := .lst W) (s := dO se) (k := dO ke) (u := u) (t := t) hw
  cases o with
  | none =>
    simp [D_House_cut, fnD_eq, caller_ok hc.low hc.len, e_meth, gD_House_need_on_2_, gD_House_off_2_, gcall_eq, h1, h2, wd, isV, isNon, mkLstM, acc, keptO, garb]
  | some r =>
    have hr := ho r rfl
    obtain ⟨ls, ht⟩ := hr.top
    have h3 := accept_ok (P := P) (T := T) (a := a) (u := u) (t := t) (g := c) (r := r) H2 ht.sm hW hk
    have h4 : addV (.tup [.str c]) r.w (sto P a (.lst W) (dO (if cl = true then ad se c else se)) (dO (ad wi c)) (dO ke) u t T) = .ok (r.d c) (sto P a (.lst W) (dO (if cl = true then ad se c else se)) (dO (ad wi c)) (dO ke) u t T) := by
      simp [addV, Row.w, Row.d, LIMS, LIM]
    simp [D_House_cut, fnD_eq, caller_ok hc.low hc.len, e_meth, gD_House_need_on_2_, gD_House_off_2_, gD_House_accept_2_, gcall_eq, h1, h2, wd, isV, show isNon r.w = false from rfl, mkTup, LIM, h4, h3, acc, keptO, garb]
theorem goes_ok {d : D} (H : HOk P T se wi) (hc : CallOk c) (hw : ag wi c = some d) :
    ∃ cl : Bool, D_House_goes [.ref (hx P 1), .str c] (sto P a w (dO se) (dO wi) k u t T) = .ok (.lst []) (sto P a w (dO (if cl = true then ad se c else se)) (dO (ad wi c)) k u t T) := by
  obtain ⟨cl, h1⟩ := off_ok (a := a) (w := w) (k := k) (u := u) (t := t) H hc.nz hw
  refine ⟨cl, ?_⟩
  have h2 := need_on_ok (P := P) (T := T) (a := a) (w := w) (s := dO se) (k := k) (u := u) (t := t) hw
  simp [D_House_goes, fnD_eq, caller_ok hc.low hc.len, e_meth, gD_House_need_on_2_, gD_House_off_2_, gcall_eq, h1, h2, mkLst]
end
end T55

set_option Elab.async false
set_option linter.all false
set_option maxRecDepth 100000
namespace T55
open PySem Dn
abbrev bodyC : DS := (dSeq (dSet 5 (dAndV (dNotV (dVar 2)) (dOp inV2 (dVar 1) (dUn (fldV "House" "own_sessions") (dVar 0))))) (dSeq (dIfS (dNot (dT (dVar 5))) (dAsg (dMake "Session" 1 0 gD_Session___init___2_ (gcall 2 D_Session___init__) (dCons (dVar 2) dNil) dNil) (gIx2 (dUn (fldV "House" "own_sessions") (dVar 0)) (dVar 1))) dNext) (dSeq (dAsg (dVar 3) (gIx2 (dUn (fldV "House" "own_wills") (dVar 0)) (dVar 1))) (dSeq (dDrop (dMl appendV (dVar 4) (dCons (dArg mkTup (dCons (dVar 1) (dCons (dArg mkTup (dCons (dC (.str "accept")) (dCons (dVar 5) dNil))) dNil))) dNil))) (dSeq (dDrop (dMl extendV (dVar 4) (dCons (dMeth "House" "worded" 2 0 gD_House_worded_3_ (gcall 3 D_House_worded) (dVar 0) (dCons (dVar 1) (dCons (dArg (pcall 2 D_sent_again) (dCons (dC c_RIGHT) (dCons (dUn (fldV "Session" "out") (dOp ixV2 (dUn (fldV "House" "own_sessions") (dVar 0)) (dVar 1))) dNil))) dNil)) dNil) dNil))) (dRet (dOp addV (dVar 4) (dMeth "House" "drained" 1 0 gD_House_drained_2_ (gcall 2 D_House_drained) (dVar 0) (dCons (dVar 1) dNil) dNil))))))))
abbrev bodyC2 : DS := (dSeq (dAsg (dVar 3) (gIx2 (dUn (fldV "House" "own_wills") (dVar 0)) (dVar 1))) (dSeq (dDrop (dMl appendV (dVar 4) (dCons (dArg mkTup (dCons (dVar 1) (dCons (dArg mkTup (dCons (dC (.str "accept")) (dCons (dVar 5) dNil))) dNil))) dNil))) (dSeq (dDrop (dMl extendV (dVar 4) (dCons (dMeth "House" "worded" 2 0 gD_House_worded_3_ (gcall 3 D_House_worded) (dVar 0) (dCons (dVar 1) (dCons (dArg (pcall 2 D_sent_again) (dCons (dC c_RIGHT) (dCons (dUn (fldV "Session" "out") (dOp ixV2 (dUn (fldV "House" "own_sessions") (dVar 0)) (dVar 1))) dNil))) dNil)) dNil) dNil))) (dRet (dOp addV (dVar 4) (dMeth "House" "drained" 1 0 gD_House_drained_2_ (gcall 2 D_House_drained) (dVar 0) (dCons (dVar 1) dNil) dNil))))))
section
variable {P T T0 G0 G : Sto} {a w s l k u t : SO} {c name : Str} {ds fs : List D} {j : Nat} {S : Sto} {se wi ke : Rows} {W : List D} {r : Row} {g : Str} {d : D}
/-- a session that is new -/
def sesN (P : Sto) (c : Bool) (q : Nat) : SO := .ins "Session" [("clean", .bl c), ("liked", .tup []), ("out", .tup []), ("notes", .tup []), ("queue", .ref (tx P q))]
theorem ses_new {cl : Bool} : D_Session___init__ [.ref (tx P T.length), .bl cl] (sto P a w s l k u t (T ++ [.ins "Session" []])) = .ok .non (sto P a w s l k u t (T ++ [sesN P cl (T.length + 1), .lst []])) := by
  have p1 : ∀ v, putD "clean" v [] = ([("clean", v)] : List (Str × D)) := fun _ => rfl
  have p2 : ∀ v x, putD "liked" v [("clean", x)] = ([("clean", x), ("liked", v)] : List (Str × D)) := fun _ _ => rfl
  have p3 : ∀ v x y, putD "out" v [("clean", x), ("liked", y)] = ([("clean", x), ("liked", y), ("out", v)] : List (Str × D)) := fun _ _ _ => rfl
  have p4 : ∀ v x y z, putD "notes" v [("clean", x), ("liked", y), ("out", z)] = ([("clean", x), ("liked", y), ("out", z), ("notes", v)] : List (Str × D)) := fun _ _ _ _ => rfl
  have p5 : ∀ v x y z q, putD "queue" v [("clean", x), ("liked", y), ("out", z), ("notes", q)] = ([("clean", x), ("liked", y), ("out", z), ("notes", q), ("queue", v)] : List (Str × D)) := fun _ _ _ _ _ => rfl
  simp [D_Session___init__, fnD_eq, dSetF, setFV, p1, p2, p3, p4, p5, mkTup, mkLstM, LIM, sesN]
theorem again_nil {S : Sto} : pcall 2 D_sent_again [c_RIGHT, .tup []] S = .ok (.tup []) S := by
  refine pcall_ok (S0 := [.lst []]) ?_
  simp [D_sent_again, c_RIGHT, fnD_eq, mkLstM, dFor, dItm, forGo, any_, tupleV, seqL]
theorem HOk.put (H : HOk P T se wi) (hs : (ag se c).isSome = true) : HOk P T se (ap wi c d) := by
  refine ⟨H.ses, H.nd, H.few, H.zs, ?_, fun x h => ?_⟩
  · rw [ag_ap]
    split
    · rfl
    · exact H.zw
  · rw [ag_ap] at h
    split at h
    · rename_i q
      exact q ▸ hs
    · exact H.sub x h
theorem HOk.new (H : HOk P T se wi) (hS : Ses P T c d) (hl : se.length < 63) : HOk P T (ap se c d) wi := by
  refine ⟨fun x e m => ?_, ap_nodup H.nd, ?_, ?_, H.zw, fun x h => ?_⟩
  · rcases mem_ap m with h | h
    · cases h
      exact hS
    · exact H.ses x e h
  · have := ap_len (m := se) (x := c) (v := d)
    omega
  · rw [ag_ap]
    split
    · rfl
    · exact H.zs
  · rw [ag_ap]
    split
    · rfl
    · exact H.sub x h
/-- what is told of a coming -/
def accRow (c : Str) (kn : Bool) : D := .tup [.str c, .tup [.str "accept", .bl kn]]
theorem tail2 {cl kn : Bool} {d' : D} {c' : Str} (hS : ∀ fs, Ses P (T0 ++ .lst fs :: G) c' d') (hd : ag se c = some d') (hw : wi.length < 1000) (hf : fs.length < 1000) :
    outD (bodyC2 [some (.ref (hx P 1)), some (.str c), some (.bl cl), some d, some (.ref (tx P T0.length)), some (.bl kn)] (sto P a w (dO se) (dO wi) k u t (T0 ++ .lst fs :: G))) = .ok (.lst (fs ++ [accRow c kn])) (sto P a w (dO se) (dO (ap wi c d)) k u t (T0 ++ .lst (fs ++ [accRow c kn]) :: (G ++ [.gone, .gone]))) := by
  have e2 : ∀ T (env : Dn.Env), setIx2 (.ref (hx P 4)) (.str c) d env (sto P a w (dO se) (dO wi) k u t T) = .nx env (sto P a w (dO se) (dO (ap wi c d)) k u t T) := fun T env => by rw [set_rows get_4 (by unfold LIM; omega), set_4]
  have e3 : appendV (.ref (tx P T0.length)) [.tup [.str c, .tup [.str "accept", .bl kn]]] (sto P a w (dO se) (dO (ap wi c d)) k u t (T0 ++ .lst fs :: G)) = .ok .non (sto P a w (dO se) (dO (ap wi c d)) k u t (T0 ++ .lst (fs ++ [accRow c kn]) :: G)) := app_last (by unfold LIM; omega)
  have e4 := ext_last (P := P) (T := T0) (a := a) (w := w) (s := dO se) (l := dO (ap wi c d)) (k := k) (u := u) (t := t) (G := G ++ [.gone]) (ds := fs ++ [accRow c kn]) (es := []) (by simp; unfold LIM; omega)
  rw [List.append_nil] at e4
  have e5 : ∀ G, addV (.ref (tx P T0.length)) (.lst []) (sto P a w (dO se) (dO (ap wi c d)) k u t (T0 ++ .lst (fs ++ [accRow c kn]) :: G)) = .ok (.lst (fs ++ [accRow c kn])) (sto P a w (dO se) (dO (ap wi c d)) k u t (T0 ++ .lst (fs ++ [accRow c kn]) :: G)) := fun G => by
    have : LIMS (fs.length + 1) = true := decide_eq_true (by unfold LIM; omega)
    simp [addV, lstS, this]
  have e6 : ixV2 (.ref (hx P 3)) (.str c) (sto P a w (dO se) (dO (ap wi c d)) k u t (T0 ++ .lst (fs ++ [accRow c kn]) :: G)) = .ok d' (sto P a w (dO se) (dO (ap wi c d)) k u t (T0 ++ .lst (fs ++ [accRow c kn]) :: G)) := ix_rows get_3 hd
  have e7 := fl_out (a := a) (w := w) (s := dO se) (l := dO (ap wi c d)) (k := k) (u := u) (t := t) (hS (fs ++ [accRow c kn]))
  have e8 := worded_nil (P := P) (a := a) (w := w) (s := dO se) (l := dO (ap wi c d)) (k := k) (u := u) (t := t) (c := c) (T := T0 ++ .lst (fs ++ [accRow c kn]) :: G)
  have hS2 : Ses P (T0 ++ .lst (fs ++ [accRow c kn]) :: (G ++ [.gone])) c' d' := by
    have := (hS (fs ++ [accRow c kn])).app (G := [.gone])
    simpa using this
  have e9 := drained_nil (a := a) (w := w) (l := dO (ap wi c d)) (k := k) (u := u) (t := t) hd hS2
  rw [show T0 ++ .lst (fs ++ [accRow c kn]) :: G ++ [SO.gone] = T0 ++ .lst (fs ++ [accRow c kn]) :: (G ++ [.gone]) by simp] at e8
  simp only [accRow] at *
  simp [bodyC2, dAsg, gIx2, onlyG, e2, dMl, isLst, seqL, mkTup, LIM, e3, e_meth, e6, e7, again_nil, gD_House_worded_3_, gD_House_drained_2_, gcall_eq, e8, e4, e5, e9]
theorem e_set_of {i : Nat} {e : DE D} {env : Dn.Env} {S S1 : Sto} {d : D} (h : e env S = .ok d S1) : dSet i e env S = .nx (env.set i (some d)) S1 := by rw [s_set, h]; rfl
theorem if_yes {c : DE Bool} {x y : DS} {env : Dn.Env} {S S1 : Sto} (h : c env S = .ok true S1) : dIfS c x y env S = x env S1 := by rw [s_if, h]; rfl
theorem lk_ne (h : c ≠ "zz") : lk c = [] := by unfold lk; rw [if_neg h]
theorem come_new {cl : Bool} (hk : ¬ (cl = false ∧ (ag se c).isSome = true)) (hl : se.length < 63) (hw : wi.length < 1000) (hf : fs.length < 1000) :
    outD (bodyC [some (.ref (hx P 1)), some (.str c), some (.bl cl), some d, some (.ref (tx P T0.length)), none] (sto P a w (dO se) (dO wi) k u t (T0 ++ .lst fs :: G0))) = .ok (.lst (fs ++ [accRow c false])) (sto P a w (dO (ap se c (.ref (tx P (T0 ++ .lst fs :: G0).length)))) (dO (ap wi c d)) k u t (T0 ++ .lst (fs ++ [accRow c false]) :: (G0 ++ [sesN P cl ((T0 ++ .lst fs :: G0).length + 1), .lst []] ++ [.gone, .gone]))) ∧
    (∀ fs' c', lk c' = [] → Ses P (T0 ++ .lst fs' :: (G0 ++ [sesN P cl ((T0 ++ .lst fs :: G0).length + 1), .lst []])) c' (.ref (tx P (T0 ++ .lst fs :: G0).length))) := by
  have e1 : inV2 (.str c) (.ref (hx P 3)) (sto P a w (dO se) (dO wi) k u t (T0 ++ .lst fs :: G0)) = .ok (.bl (ag se c).isSome) (sto P a w (dO se) (dO wi) k u t (T0 ++ .lst fs :: G0)) := in_rows get_3
  have h0 := ses_new (P := P) (T := T0 ++ .lst fs :: G0) (a := a) (w := w) (s := dO se) (l := dO wi) (k := k) (u := u) (t := t) (cl := cl)
  have h1 : ∀ T (env : Dn.Env) v, setIx2 (.ref (hx P 3)) (.str c) v env (sto P a w (dO se) (dO wi) k u t T) = .nx env (sto P a w (dO (ap se c v)) (dO wi) k u t T) := fun T env v => by rw [set_rows get_3 (by unfold LIM; omega), set_3]
  have hn : ∀ fs' : List D, (T0 ++ .lst fs' :: G0).length = (T0 ++ .lst fs :: G0).length := fun fs' => by simp
  have hS' : ∀ fs' c', lk c' = [] → Ses P (T0 ++ .lst fs' :: (G0 ++ [sesN P cl ((T0 ++ .lst fs :: G0).length + 1), .lst []])) c' (.ref (tx P (T0 ++ .lst fs :: G0).length)) := fun fs' c' hc' => by
    have e : T0 ++ .lst fs' :: (G0 ++ [sesN P cl ((T0 ++ .lst fs' :: G0).length + 1), .lst []]) = (T0 ++ .lst fs' :: G0) ++ [sesN P cl ((T0 ++ .lst fs' :: G0).length + 1), .lst []] := by simp
    rw [← hn fs', e]
    refine ⟨_, cl, (T0 ++ .lst fs' :: G0).length + 1, rfl, ?_, mid_1⟩
    rw [mid_0, hc']
    rfl
  refine ⟨?_, hS'⟩
  have h2 := tail2 (P := P) (T0 := T0) (G := G0 ++ [sesN P cl ((T0 ++ .lst fs :: G0).length + 1), .lst []]) (a := a) (w := w) (se := ap se c (.ref (tx P (T0 ++ .lst fs :: G0).length))) (wi := wi) (k := k) (u := u) (t := t) (c := c) (c' := "a") (fs := fs) (d := d) (cl := cl) (kn := false) (fun fs' => hS' fs' "a" rfl) (by rw [ag_ap, if_pos rfl]) hw hf
  rw [← h2]
  have hkn : (!cl && (ag se c).isSome) = false := by
    cases cl <;> simp_all
  have e2 : T0 ++ SO.lst fs :: G0 ++ [sesN P cl ((T0 ++ SO.lst fs :: G0).length + 1), SO.lst []] = T0 ++ SO.lst fs :: (G0 ++ [sesN P cl ((T0 ++ SO.lst fs :: G0).length + 1), SO.lst []]) := by simp
  rw [e2] at h0
  have e3 : (dAndV (dNotV (dVar 2)) (dOp inV2 (dVar 1) (dUn (fldV "House" "own_sessions") (dVar 0)))) [some (.ref (hx P 1)), some (.str c), some (.bl cl), some d, some (.ref (tx P T0.length)), none] (sto P a w (dO se) (dO wi) k u t (T0 ++ .lst fs :: G0)) = .ok (.bl false) (sto P a w (dO se) (dO wi) k u t (T0 ++ .lst fs :: G0)) := by
    cases cl <;> simp_all [dAndV, dNotV]
  have e4 : (dAsg (dMake "Session" 1 0 gD_Session___init___2_ (gcall 2 D_Session___init__) (dCons (dVar 2) dNil) dNil) (gIx2 (dUn (fldV "House" "own_sessions") (dVar 0)) (dVar 1))) [some (.ref (hx P 1)), some (.str c), some (.bl cl), some d, some (.ref (tx P T0.length)), some (.bl false)] (sto P a w (dO se) (dO wi) k u t (T0 ++ .lst fs :: G0)) = .nx [some (.ref (hx P 1)), some (.str c), some (.bl cl), some d, some (.ref (tx P T0.length)), some (.bl false)] (sto P a w (dO (ap se c (.ref (tx P (T0 ++ .lst fs :: G0).length)))) (dO wi) k u t (T0 ++ .lst fs :: (G0 ++ [sesN P cl ((T0 ++ .lst fs :: G0).length + 1), .lst []]))) := by
    have e5 : dMake "Session" 1 0 gD_Session___init___2_ (gcall 2 D_Session___init__) (dCons (dVar 2) dNil) dNil [some (.ref (hx P 1)), some (.str c), some (.bl cl), some d, some (.ref (tx P T0.length)), some (.bl false)] (sto P a w (dO se) (dO wi) k u t (T0 ++ .lst fs :: G0)) = .ok (.ref (tx P (T0 ++ .lst fs :: G0).length)) (sto P a w (dO se) (dO wi) k u t (T0 ++ .lst fs :: (G0 ++ [sesN P cl ((T0 ++ .lst fs :: G0).length + 1), .lst []]))) := by
      unfold dMake
      simp only [e_cons, e_var, e_nil, bind_ok, List.getElem?_cons_succ, List.getElem?_cons_zero, List.length_cons, List.length_nil, and_self, if_true, sto_len, sto_app, gD_Session___init___2_]
      rw [gcall_eq, h0]
      rfl
    unfold dAsg
    rw [e5]
    simp [gIx2, h1, onlyG]
  unfold bodyC
  rw [s_seq, e_set_of e3]
  simp only [List.set_cons_succ, List.set_cons_zero]
  rw [s_seq]
  rw [if_yes (S1 := sto P a w (dO se) (dO wi) k u t (T0 ++ .lst fs :: G0)) (by simp), e4]
theorem come_tail {cl : Bool} (H : HOk P T0 se wi) (hc : c ≠ "zz") (hl : se.length < 63) (hw : wi.length < 1000) (hf : fs.length < 1000) :
    ∃ kn se' G', HOk P (T0 ++ G') se' (ap wi c d) ∧ outD (bodyC [some (.ref (hx P 1)), some (.str c), some (.bl cl), some d, some (.ref (tx P T0.length)), none] (sto P a w (dO se) (dO wi) k u t (T0 ++ .lst fs :: G0))) = .ok (.lst (fs ++ [accRow c kn])) (sto P a w (dO se') (dO (ap wi c d)) k u t (T0 ++ G')) ∧ (∀ x, (ag se' x).isSome = true → x = c ∨ (ag se x).isSome = true) := by
  have e1 : inV2 (.str c) (.ref (hx P 3)) (sto P a w (dO se) (dO wi) k u t (T0 ++ .lst fs :: G0)) = .ok (.bl (ag se c).isSome) (sto P a w (dO se) (dO wi) k u t (T0 ++ .lst fs :: G0)) := in_rows get_3
  by_cases hk : cl = false ∧ (ag se c).isSome = true
  · obtain ⟨d', hd⟩ := Option.isSome_iff_exists.mp hk.2
    have h2 := tail2 (P := P) (T0 := T0) (G := G0) (a := a) (w := w) (k := k) (u := u) (t := t) (c := c) (c' := c) (fs := fs) (d := d) (cl := cl) (kn := true) (fun fs => (H.ses c d' (ag_some hd)).app) hd hw hf
    refine ⟨true, se, .lst (fs ++ [accRow c true]) :: (G0 ++ [.gone, .gone]), (H.app).put hk.2, ?_, fun x h => .inr h⟩
    rw [← h2]
    simp [bodyC, dAndV, dNotV, hk.1, e1, hk.2]
  · obtain ⟨h2, hS⟩ := come_new (P := P) (T0 := T0) (G0 := G0) (a := a) (w := w) (se := se) (wi := wi) (k := k) (u := u) (t := t) (c := c) (fs := fs) (d := d) (cl := cl) hk hl hw hf
    refine ⟨false, _, _, ?_, h2, fun x h => ?_⟩
    · have hS2 := (hS (fs ++ [accRow c false]) c (lk_ne hc)).app (G := [.gone, .gone])
      have e7 : T0 ++ SO.lst (fs ++ [accRow c false]) :: (G0 ++ [sesN P cl ((T0 ++ SO.lst fs :: G0).length + 1), SO.lst []]) ++ [SO.gone, SO.gone] = T0 ++ (SO.lst (fs ++ [accRow c false]) :: (G0 ++ [sesN P cl ((T0 ++ SO.lst fs :: G0).length + 1), SO.lst []] ++ [SO.gone, SO.gone])) := by simp
      rw [e7] at hS2
      exact ((H.app).new hS2 hl).put (by rw [ag_ap, if_pos rfl]; rfl)
    · rw [ag_ap] at h
      split at h
      · rename_i q
        exact .inl q.symm
      · exact .inr h
end
end T55

set_option Elab.async false
set_option linter.all false
set_option maxRecDepth 100000
namespace T55
open PySem Dn
section
variable {P T T0 G0 G : Sto} {a w s l k u t : SO} {c name : Str} {ds fs : List D} {j : Nat} {S : Sto} {se wi ke : Rows} {W : List D} {r : Row} {g : Str} {d : D}
theorem ad_none : ∀ {m : Rows} {x : Str}, ag m x = none → ad m x = m
  | [], _, _ => rfl
  | (k, d) :: m, x, h => by
    unfold ag at h
    unfold ad
    split at h
    · cases h
    · rename_i q
      rw [if_neg q, ad_none h]
theorem set_of {c : DE Bool} {e f : DE D} {i : Nat} {env : Dn.Env} {S S1 S2 : Sto} {b : Bool} {d : D} (hc : c env S = .ok b S1) (h : (if b = true then e env S1 else f env S1) = .ok d S2) : dSet i (dIf c e f) env S = .nx (env.set i (some d)) S2 := by
  rw [s_set, e_if, hc, bind_ok, h]
  rfl
theorem come_pre {cl : Bool} {v : D} {S : Sto} (hlow : Low c) (hlen : 1 ≤ c.length ∧ c.length ≤ 3) (h1 : pcall 1 D_need_will [v] S = .ok .non S) : D_House_come [.ref (hx P 1), .str c, .bl cl, v] S = outD (dSeq (dSet 4 (dIf (dT (dOp inV2 (dVar 1) (dUn (fldV "House" "own_wills") (dVar 0)))) (dMeth "House" "cut" 1 0 gD_House_cut_2_ (gcall 2 D_House_cut) (dVar 0) (dCons (dVar 1) dNil) dNil) (dArg mkLstM dNil))) bodyC [some (.ref (hx P 1)), some (.str c), some (.bl cl), some v, none, none] S) := by
  show outD (dSeq (dDrop (dArg (pcall 1 D_need_caller) (dCons (dVar 1) dNil))) (dSeq (dDrop (dArg (pcall 1 D_need_will) (dCons (dVar 3) dNil))) (dSeq _ bodyC)) [some (.ref (hx P 1)), some (.str c), some (.bl cl), some v, none, none] _) = _
  rw [s_seq]
  have z1 : dDrop (dArg (pcall 1 D_need_caller) (dCons (dVar 1) dNil)) [some (.ref (hx P 1)), some (.str c), some (.bl cl), some v, none, none] S = .nx [some (.ref (hx P 1)), some (.str c), some (.bl cl), some v, none, none] S := by simp [caller_ok hlow hlen]
  rw [z1]
  show outD (dSeq _ _ _ _) = _
  rw [s_seq]
  have z2 : dDrop (dArg (pcall 1 D_need_will) (dCons (dVar 3) dNil)) [some (.ref (hx P 1)), some (.str c), some (.bl cl), some v, none, none] S = .nx [some (.ref (hx P 1)), some (.str c), some (.bl cl), some v, none, none] S := by simp [h1]
  rw [z2]
theorem come_ok {cl : Bool} {v : Option Row} (o : Option (Option Row)) (H : HOk P T se wi) (hc : CallOk c) (hw : ag wi c = o.map wd) (ho : ∀ r, o.join = some r → ROk r) (hv : ∀ r, v = some r → ROk r) (hW : W.length ≤ 1000) (hk : ke.length ≤ 1000) (hl : se.length < 63) (hwl : wi.length < 1000) :
    ∃ kn se' G', HOk P (T ++ G') se' (ap (ad wi c) c (wd v)) ∧ D_House_come [.ref (hx P 1), .str c, .bl cl, wd v] (sto P a (.lst W) (dO se) (dO wi) (dO ke) u t T) = .ok (.lst (pubs o.join ++ [accRow c kn])) (sto P a (.lst (W ++ acc c o.join)) (dO se') (dO (ap (ad wi c) c (wd v))) (dO (keptO ke o.join W.length)) u t (T ++ G')) ∧ (∀ x, (ag se' x).isSome = true → x = c ∨ (ag se x).isSome = true) := by
  have h1 : pcall 1 D_need_will [wd v] (sto P a (.lst W) (dO se) (dO wi) (dO ke) u t T) = .ok .non (sto P a (.lst W) (dO se) (dO wi) (dO ke) u t T) := by
    cases v with
    | none => exact will_none
    | some r => exact will_ok (hv r rfl)
  have h2 : inV2 (.str c) (.ref (hx P 4)) (sto P a (.lst W) (dO se) (dO wi) (dO ke) u t T) = .ok (.bl (ag wi c).isSome) (sto P a (.lst W) (dO se) (dO wi) (dO ke) u t T) := in_rows get_4
  have h4 : (dT (dOp inV2 (dVar 1) (dUn (fldV "House" "own_wills") (dVar 0)))) [some (.ref (hx P 1)), some (.str c), some (.bl cl), some (wd v), none, none] (sto P a (.lst W) (dO se) (dO wi) (dO ke) u t T) = .ok (ag wi c).isSome (sto P a (.lst W) (dO se) (dO wi) (dO ke) u t T) := by
    simp [h2]
  rw [come_pre hc.low hc.len h1, s_seq]
  cases o with
  | none =>
    have e : ag wi c = none := hw
    rw [ad_none e]
    obtain ⟨kn, se', G', g1, g2, g3⟩ := come_tail (P := P) (T0 := T) (G0 := []) (a := a) (w := .lst W) (k := dO ke) (u := u) (t := t) (fs := []) (d := wd v) (cl := cl) H hc.nz hl hwl (by decide)
    refine ⟨kn, se', G', g1, ?_, g3⟩
    rw [set_of (d := .ref (tx P T.length)) (S2 := sto P a (.lst W) (dO se) (dO wi) (dO ke) u t (T ++ [.lst []])) h4 (by rw [e]; simp [mkLstM])]
    simp only [List.set_cons_succ, List.set_cons_zero]
    rw [g2]
    simp [pubs, acc, keptO]
  | some q =>
    have e : ag wi c = some (wd q) := hw
    obtain ⟨cl2, f1⟩ := cut_ok (P := P) (T := T) (a := a) (u := u) (t := t) H hc e ho hW hk
    have f2 : garb q = .lst (pubs q) :: (garb q).tail := by cases q <;> rfl
    have f3 := H.off hc.nz cl2
    have f4 : (if cl2 = true then ad se c else se).length < 63 := by
      have := ad_len (m := se) (x := c)
      split <;> omega
    have f5 : (ad wi c).length < 1000 := by
      have := ad_len (m := wi) (x := c)
      omega
    obtain ⟨kn, se', G', g1, g2, g3⟩ := come_tail (P := P) (T0 := T) (G0 := (garb q).tail) (a := a) (w := .lst (W ++ acc c q)) (k := dO (keptO ke q W.length)) (u := u) (t := t) (fs := pubs q) (d := wd v) (cl := cl) f3 hc.nz f4 f5 (by cases q <;> simp [pubs])
    refine ⟨kn, se', G', g1, ?_, fun x h => ?_⟩
    · rw [set_of (d := .ref (tx P T.length)) (S2 := sto P a (.lst (W ++ acc c q)) (dO (if cl2 = true then ad se c else se)) (dO (ad wi c)) (dO (keptO ke q W.length)) u t (T ++ garb q)) h4 (by rw [e]; simp [e_meth, gD_House_cut_2_, gcall_eq, f1])]
      simp only [List.set_cons_succ, List.set_cons_zero]
      rw [f2, g2]
      rfl
    · rcases g3 x h with h | h
      · exact .inl h
      · refine .inr ?_
        split at h
        · rw [ag_ad] at h
          split at h
          · cases h
          · exact h
        · exact h
theorem accepted_ok : D_House_accepted [.ref (hx P 1)] (sto P a (.lst W) s l k u t T) = .ok (.lst W) (sto P a (.lst W) s l k u t T) := by
  simp [D_House_accepted, fnD_eq, listV2, keysS, dK_of, dctS, seqS]
theorem str_shaped {ss : List Str} (h : ∀ x ∈ ss, ∀ c ∈ x.cps.toList, c ≤ 122) : pys (ss.map .str) = some (ss.map .str) ∧ PyData.canLayAll0 (ss.map .str) = true := by
  induction ss with
  | nil => exact ⟨rfl, rfl⟩
  | cons x ss ih =>
    have := ih fun y hy => h y (List.mem_cons_of_mem _ hy)
    refine ⟨by simp [pys, D.py, this.1], ?_⟩
    have hx : PyData.strOk x = true := by
      unfold PyData.strOk
      rw [Array.all_eq_true_iff_forall_mem]
      intro c hc
      have := h x List.mem_cons_self c (by simpa using hc)
      simp
      omega
    simp [PyData.canLayAll0, PyData.canLay0, hx, this.2]
end
end T55

set_option Elab.async false
set_option linter.all false
set_option maxRecDepth 100000
namespace T55
open PySem Dn
section
variable {P T T0 G0 G : Sto} {a w s l k u t : SO} {c name : Str} {ds fs : List D} {j : Nat} {S : Sto} {se wi ke : Rows} {W : List D} {r : Row} {g : Str} {d : D}
theorem sort_strs {ss : List Str} : sortedV2 [.lst (ss.map .str)] S = .ok (.lst (sortD (ss.map .str))) S := by
  show sortedV [.lst (ss.map .str)] S = _
  unfold sortedV
  simp only [seqL, sortOk_str, if_true]
theorem on_ok : D_House_on [.ref (hx P 1)] (sto P a w s (dO wi) k u t T) = .ok (.lst (sortD ((wi.map (·.1)).map .str))) (sto P a w s (dO wi) k u t T) := by
  have h1 : listV2 [.ref (hx P 4)] (sto P a w s (dO wi) k u t T) = .ok (.lst ((wi.map (·.1)).map .str)) (sto P a w s (dO wi) k u t T) := by rw [keys_rows get_4, keysS_rows]
  have h2 := sort_strs (ss := wi.map (·.1)) (S := sto P a w s (dO wi) k u t T)
  simp at h1 h2
  simp [D_House_on, fnD_eq, h1, h2]
/-- the key of a name -/
def ordD (x : Str) : D := .tup [.int (Txt.split x "/").length, .lst ((Txt.split x "/").map .str)]
theorem order_ok {x : Str} (h : x.length ≤ 1000) : pcall 1 D_order_of [.str x] S = .ok (ordD x) S := by
  refine pcall_ok (S0 := []) ?_ rfl rfl ?_
  · simp [D_order_of, fnD_eq, dMs, isStr, split_slash h, mkTup, LIM, ordD]
  · have : ∀ ss : List Str, nrs (ss.map .str) = true := fun ss => by
      induction ss with
      | nil => rfl
      | cons x ss ih => simp [nrs, D.nr, ih]
    simp [ordD, D.nr, nrs, this]
theorem keys_ord : ∀ {ss : List Str}, (∀ x ∈ ss, x.length ≤ 1000) → keysD D_order_of (ss.map .str) = some (ss.map ordD)
  | [], _ => rfl
  | x :: ss, h => by
    show (match pcall 1 D_order_of [.str x] [] with | .ok k _ => (keysD D_order_of (ss.map .str)).map (k :: ·) | _ => none) = _
    rw [order_ok (h x List.mem_cons_self), keys_ord fun y hy => h y (List.mem_cons_of_mem _ hy)]
    rfl
theorem ord_py (x : Str) : (ordD x).py = some (.tuple [.int (Txt.split x "/").length, .list ((Txt.split x "/").map .str)]) := by
  simp [ordD, D.py, pys, pys_str]
theorem sortOk_ord (ss : List Str) : sortOk (ss.map ordD) = true := by
  have h : ∀ x, (ordD x).pd = .tuple [.int (Txt.split x "/").length, .list ((Txt.split x "/").map .str)] := fun x => by simp [D.pd, ord_py]
  have hal : ∀ x y, PySem.W.alike (ordD x).pd (ordD y).pd = true := fun x y => by
    rw [h, h]
    show (true && (PySem.W.alikeAll ((Txt.split x "/").map .str) ((Txt.split y "/").map .str) && true)) = true
    rw [alikeAll_str]
    rfl
  unfold sortOk
  rw [Bool.and_eq_true, Bool.and_eq_true, Bool.or_eq_true, List.all_eq_true, List.all_eq_true]
  refine ⟨fun d hd => ?_, fun d hd => ?_, .inr ?_⟩
  · obtain ⟨x, _, rfl⟩ := List.mem_map.mp hd
    rw [h, ord_py]
    simp [PyData.depth, PyData.depthAll, depth_str]
  · obtain ⟨x, _, rfl⟩ := List.mem_map.mp hd
    rw [List.all_eq_true]
    intro e he
    obtain ⟨y, _, rfl⟩ := List.mem_map.mp he
    exact hal x y
  · rw [List.all_eq_true]
    intro d hd
    obtain ⟨x, _, rfl⟩ := List.mem_map.mp hd
    rw [h]
    rfl
theorem kept_names_ok (hn : ∀ x ∈ ke.map (·.1), x.length ≤ 1000) : ∃ ss : List Str, D_House_kept_names [.ref (hx P 1)] (sto P a w s l (dO ke) u t T) = .ok (.lst (ss.map .str)) (sto P a w s l (dO ke) u t T) ∧ ss.Perm (ke.map (·.1)) := by
  have h1 : listV2 [.ref (hx P 5)] (sto P a w s l (dO ke) u t T) = .ok (.lst ((ke.map (·.1)).map .str)) (sto P a w s l (dO ke) u t T) := by rw [keys_rows get_5, keysS_rows]
  have h2 := sortBy_perm (ds := (ke.map (·.1)).map .str) (kd := (ke.map (·.1)).map ordD) (by simp)
  obtain ⟨ss, hs⟩ : ∃ ss : List Str, sortBy ((ke.map (·.1)).map .str) ((ke.map (·.1)).map ordD) = ss.map .str := by
    have : ∀ l : List D, (∀ d ∈ l, ∃ x, d = D.str x) → ∃ ss : List Str, l = ss.map .str := fun l => by
      induction l with
      | nil => exact fun _ => ⟨[], rfl⟩
      | cons d l ih =>
        intro h
        obtain ⟨x, rfl⟩ := h d List.mem_cons_self
        obtain ⟨ss, rfl⟩ := ih fun e he => h e (List.mem_cons_of_mem _ he)
        exact ⟨x :: ss, rfl⟩
    refine this _ fun d hd => ?_
    obtain ⟨x, _, rfl⟩ := List.mem_map.mp (h2.mem_iff.mp hd)
    exact ⟨x, rfl⟩
  refine ⟨ss, ?_, ?_⟩
  · have h3 : sortKV D_order_of (.lst ((ke.map (·.1)).map .str)) (sto P a w s l (dO ke) u t T) = .ok (.lst (ss.map .str)) (sto P a w s l (dO ke) u t T) := by
      unfold sortKV
      simp only [seqL, keys_ord hn, sortOk_ord, if_true, hs]
    simp at h1 h3
    simp [D_House_kept_names, fnD_eq, dSortK, h1, h3]
  · rw [hs] at h2
    have h3 : ss.map D.str = ss.map D.str := rfl
    have := List.Perm.map (fun d : D => match d with | .str x => x | _ => "") h2
    simpa [Function.comp_def] using this
def prD (ke : Rows) (d : D) : D := match d with
  | .str x => .tup [.str x, (ag ke x).getD .non]
  | d => d
theorem kept_ok (hn : ∀ x ∈ ke.map (·.1), x.length ≤ 1000) (hd : (ke.map (·.1)).Nodup) (hl : ke.length ≤ 1000) : ∃ L, D_House_kept [.ref (hx P 1)] (sto P a w s l (dO ke) u t T) = .ok (.lst L) (sto P a w s l (dO ke) u t T) ∧ L.Perm (ke.map fun r => .tup [.str r.1, r.2]) := by
  obtain ⟨ss, h1, h2⟩ := kept_names_ok (P := P) (T := T) (a := a) (w := w) (s := s) (l := l) (u := u) (t := t) hn
  have hlen : ss.length = ke.length := by simpa using h2.length_eq
  refine ⟨(ss.map D.str).map (prD ke), ?_, ?_⟩
  · have h3 : lcGo any_ (gN 1) dYes (dArg mkTup (dCons (dVar 1) (dCons (dOp ixV2 (dUn (fldV "House" "own_kept") (dVar 0)) (dVar 1)) dNil))) [some (.ref (hx P 1)), none] (ss.map .str) [] (sto P a w s l (dO ke) u t T) = .ok ([] ++ (ss.map D.str).map (prD ke)) (sto P a w s l (dO ke) u t T) := by
      refine lcGo_map (f := prD ke) (ss.map .str) [] (by simp; unfold LIM; omega) fun d hd' => ?_
      obtain ⟨x, hx', rfl⟩ := List.mem_map.mp hd'
      obtain ⟨e, he⟩ := Option.isSome_iff_exists.mp (ag_mem.mpr (h2.mem_iff.mp hx'))
      have h4 : ixV2 (.ref (hx P 5)) (.str x) (sto P a w s l (dO ke) u t T) = .ok e (sto P a w s l (dO ke) u t T) := ix_rows get_5 he
      simp [h4, mkTup, LIM, prD, he]
    simp at h3
    simp [D_House_kept, fnD_eq, dLcL, dLc, dItm, e_meth, gD_House_kept_names_1_, gcall_eq, h1, wpe, h3]
  · refine ((h2.map D.str).map (prD ke)).trans (List.Perm.of_eq ?_)
    rw [List.map_map, List.map_map]
    refine List.map_congr_left fun r hr => ?_
    show prD ke (.str r.1) = _
    show D.tup [.str r.1, (ag ke r.1).getD .non] = _
    rw [ag_of_mem hd (show (r.1, r.2) ∈ ke from hr)]
    rfl
end
end T55

set_option Elab.async false
set_option linter.all false
set_option maxRecDepth 100000
namespace T55
open PySem Dn
/-! ### the box -/
def IsBox (o : SO) : Prop := ∃ i j : Int, o = .lst [.int i, .int j]
theorem IsBox.nr {o : SO} (h : IsBox o) : o.nr = true := by
  obtain ⟨i, j, rfl⟩ := h
  rfl
theorem bcall_ok {n : Nat} {den : Den} {ds : List D} {m : Nat} {S R : Sto} {o o' : SO} {d : D} (h0 : ds[0]? = some (.ref m)) (hn : ds.length = n) (hr : nrs (ds.set 0 .non) = true) (hS : S[m]? = some o) (ho : IsBox o) (h : den (ds.set 0 (.ref 0)) [o] = .ok d (o' :: R)) (hd : d.nr = true) (ho' : IsBox o') : bcall n 0 den ds S = .ok d (S.set m o') := by
  unfold bcall
  rw [if_pos ⟨hn, hr⟩]
  simp only [h0, hS, ho.nr, if_true, h, hd, ho'.nr, and_self]
theorem forGo_any {C : Sto → Bool} (hC : ∀ S, C S = true) {I : List D → Dn.Env → Sto → Prop} {t : DG} {body : DS} (step : ∀ d ds env S, I (d :: ds) env S → ∃ e1 S1, t d env S = .nx e1 S1 ∧ ∃ e2 S2, body e1 S1 = .nx e2 S2 ∧ I ds e2 S2) :
    ∀ ds env S, I ds env S → ∃ e2 S2, forGo C t body ds env S = .nx e2 S2 ∧ I [] e2 S2
  | [], env, S, h => ⟨env, S, by unfold forGo; rw [if_pos (hC S)], h⟩
  | d :: ds, env, S, h => by
    obtain ⟨e1, S1, h1, e2, S2, h2, h3⟩ := step d ds env S h
    obtain ⟨e3, S3, h4, h5⟩ := forGo_any hC step ds e2 S2 h3
    refine ⟨e3, S3, ?_, h5⟩
    unfold forGo
    simp only [hC, if_true, h1, h2]
    exact h4
theorem lcGo_box {i : Nat} {e : DE D} {env : Dn.Env} {I : Sto → Prop} {Q : D → Prop} : ∀ (ds acc : List D) (S : Sto), I S → acc.length + ds.length ≤ LIM → (∀ d ∈ ds, ∀ S, I S → ∃ x S', e (env.set i (some d)) S = .ok x S' ∧ I S' ∧ Q x) →
    ∃ xs S', lcGo any_ (gN i) dYes e env ds acc S = .ok (acc ++ xs) S' ∧ I S' ∧ xs.length = ds.length ∧ ∀ x ∈ xs, Q x
  | [], acc, S, h, _, _ => ⟨[], S, by simp [lcGo, any_], h, rfl, by simp⟩
  | d :: ds, acc, S, h, hl, he => by
    obtain ⟨x, S1, h1, h2, h3⟩ := he d List.mem_cons_self S h
    have hl' : acc.length + (ds.length + 1) ≤ LIM := hl
    obtain ⟨xs, S2, g1, g2, g3, g4⟩ := lcGo_box (i := i) (e := e) (env := env) (I := I) (Q := Q) ds (acc ++ [x]) S1 h2 (by simp; omega) fun z hz => he z (List.mem_cons_of_mem _ hz)
    refine ⟨x :: xs, S2, ?_, g2, by simp [g3], fun z hz => ?_⟩
    · unfold lcGo
      simp only [any_, if_true, gN, dYes]
      rw [h1]
      simp only [if_pos (show acc.length < LIM by omega)]
      rw [g1]
      simp
    · rcases List.mem_cons.mp hz with rfl | hz
      · exact h3
      · exact g4 z hz
abbrev bodyM : DS := (dSeq (dAsg (dOp modV (dOp addV (dOp mulV (dOp ixV2 (dVar 0) (dC (.int 1))) (dC (.int 48271))) (dC (.int 30269))) (dC (.int 2147483647))) (gIx2 (dVar 0) (dC (.int 1)))) (dSet 1 (dOp addV (dOp mulV (dVar 1) (dC (.int 65521))) (dOp modV (dOp divV (dOp ixV2 (dVar 0) (dC (.int 1))) (dC (.int 7))) (dC (.int 65521))))))
theorem more_step (i j q : Int) (d : D) : bodyM [some (.ref 0), some (.int q), some d] [.lst [.int i, .int j]] = .nx [some (.ref 0), some (.int (q * 65521 + (((j * 48271 + 30269).fmod 2147483647).fdiv 7).fmod 65521)), some d] [.lst [.int i, .int ((j * 48271 + 30269).fmod 2147483647)]] := by
  have a1 : ∀ i j, ixV2 (.ref 0) (.int 1) [.lst [.int i, .int j]] = .ok (.int j) [.lst [.int i, .int j]] := fun i j => ix_lst (i := 1) rfl rfl
  have hm : mulOk j 48271 = true := decide_eq_true (.inr (by decide))
  have hm2 : mulOk q 65521 = true := decide_eq_true (.inr (by decide))
  simp [bodyM, a1, dAsg, mulV, int2, hm, hm2, addV, modV, divV, gIx2, setIx2, setIx, L2.ixN, onlyG]
theorem more_ok {o : SO} (h : IsBox o) : ∃ q o', D__law_more [.ref 0] [o] = .ok (.int q) [o'] ∧ IsBox o' := by
  let I : List D → Dn.Env → Sto → Prop := fun _ env S => (∃ q x, env = [some (.ref 0), some (.int q), x]) ∧ ∃ i j, S = [.lst [.int i, .int j]]
  obtain ⟨i, j, rfl⟩ := h
  have hI : I (rngD 0 12) [some (.ref 0), some (.int 0), none] [.lst [.int i, .int j]] := ⟨⟨0, none, rfl⟩, i, j, rfl⟩
  obtain ⟨e2, S2, h1, ⟨q, x, rfl⟩, i', j', rfl⟩ := forGo_inv (I := I) (t := gN 2) (body := bodyM)
    (fun d ds env S ⟨⟨q, x, he⟩, i, j, hS⟩ => by
      subst he hS
      exact ⟨_, _, rfl, _, _, more_step i j q d, ⟨_, _, rfl⟩, _, _, rfl⟩) _ _ _ hI
  refine ⟨q, .lst [.int i', .int j'], ?_, ⟨i', j', rfl⟩⟩
  simp [D__law_more, fnD_eq, dFor, rng1]
  simp only [bodyM] at h1
  rw [h1]
  simp
theorem take_ok {o : SO} {c : Int} (h : IsBox o) (hc : 0 < c ∧ c < 1073741824) : ∃ q o', D__law_take [.ref 0, .int c] [o] = .ok (.int q) [o'] ∧ IsBox o' ∧ 0 ≤ q ∧ q < c := by
  have key : ∀ (i j : Int), ∃ q o', outD ((dSeq (dAsg (dArg divmodV2 (dCons (dOp ixV2 (dVar 0) (dC (.int 0))) (dCons (dVar 1) dNil))) (gT [(gN 2), (gN 3)])) (dSeq (dAsg (dVar 2) (gIx2 (dVar 0) (dC (.int 0)))) (dRet (dVar 3)))) [some (.ref 0), some (.int c), none, none] [.lst [.int i, .int j]]) = .ok (.int q) [o'] ∧ IsBox o' ∧ 0 ≤ q ∧ q < c := fun i j => by
    have a1 : ixV2 (.ref 0) (.int 0) [.lst [.int i, .int j]] = .ok (.int i) [.lst [.int i, .int j]] := ix_lst (i := 0) rfl rfl
    refine ⟨i % c, .lst [.int (i / c), .int j], ?_, ⟨_, _, rfl⟩, Int.emod_nonneg _ (by omega), Int.emod_lt_of_pos _ hc.1⟩
    simp [a1, dAsg, divmodV2, hc, gT, unpk, gN, gIx2, setIx2, setIx, L2.ixN, onlyG]
  obtain ⟨i, j, rfl⟩ := h
  have a1 : ixV2 (.ref 0) (.int 0) [.lst [.int i, .int j]] = .ok (.int i) [.lst [.int i, .int j]] := ix_lst (i := 0) rfl rfl
  by_cases hi : 0 ≤ i ∧ i < c
  · obtain ⟨m, o1, h1, h2⟩ := more_ok (o := .lst [.int i, .int j]) ⟨i, j, rfl⟩
    have h3 : bcall 1 0 D__law_more [.ref 0] [.lst [.int i, .int j]] = .ok (.int m) ([.lst [.int i, .int j]].set 0 o1) := bcall_ok (n := 1) (den := D__law_more) (ds := [.ref 0]) (S := [.lst [.int i, .int j]]) (R := []) (d := .int m) rfl rfl rfl rfl ⟨i, j, rfl⟩ h1 rfl h2
    obtain ⟨i1, j1, rfl⟩ := h2
    have hm : mulOk c m = true := decide_eq_true (.inl ⟨by omega, by omega⟩)
    obtain ⟨q, o', k1, k2⟩ := key (i + c * m) j1
    refine ⟨q, o', ?_, k2⟩
    rw [← k1]
    have hi1 := hi.1
    have hi2 := hi.2
    simp [D__law_take, fnD_eq, dChain, chK, a1, leV, ltV, ordV, hi1, hi2, dAsg, h3, mulV, int2, hm, addV, gIx2, setIx2, setIx, L2.ixN, onlyG]
  · obtain ⟨q, o', k1, k2⟩ := key i j
    refine ⟨q, o', ?_, k2⟩
    rw [← k1]
    have hg : (dChain leV ltV (dC (.int 0)) (dOp ixV2 (dVar 0) (dC (.int 0))) (dVar 1)) [some (.ref 0), some (.int c), none, none] [.lst [.int i, .int j]] = .ok (.bl false) [.lst [.int i, .int j]] := by
      by_cases h0 : 0 ≤ i
      · have h1 : ¬ i < c := fun z => hi ⟨h0, z⟩
        simp [dChain, chK, a1, leV, ltV, ordV, h0, h1]
      · simp [dChain, chK, a1, leV, ltV, ordV, h0]
    have hg2 := hg
    simp only [D__law_take, fnD_eq, List.map_cons, List.map_nil, List.length_cons, List.length_nil, List.replicate, List.cons_append, List.nil_append, s_seq, s_if, e_t]
    rw [hg]
    rfl
/-- a draw of the box at m -/
theorem take_b {S : Sto} {m : Nat} {o : SO} {c : Int} (hS : S[m]? = some o) (h : IsBox o) (hc : 0 < c ∧ c < 1073741824) : ∃ q o', bcall 2 0 D__law_take [.ref m, .int c] S = .ok (.int q) (S.set m o') ∧ IsBox o' ∧ 0 ≤ q ∧ q < c := by
  obtain ⟨q, o', h1, h2, h3⟩ := take_ok h hc
  exact ⟨q, o', bcall_ok (n := 2) (ds := [.ref m, .int c]) (R := []) rfl rfl rfl hS h h1 rfl h2, h2, h3⟩
theorem take_0 {o : SO} {c : Int} (h : IsBox o) (hc : 0 < c ∧ c < 1073741824) : ∃ q o', bcall 2 0 D__law_take [.ref 0, .int c] [o] = .ok (.int q) [o'] ∧ IsBox o' ∧ 0 ≤ q ∧ q < c := take_b (S := [o]) rfl h hc
end T55

set_option Elab.async false
set_option linter.all false
set_option maxRecDepth 100000
namespace T55
open PySem Dn
theorem mem_joinL {S : List Nat} {c : Nat} : ∀ {ps : List (List Nat)}, c ∈ TL.joinL S ps → c ∈ S ∨ ∃ p ∈ ps, c ∈ p
  | [], h => by cases h
  | [p], h => .inr ⟨p, List.mem_cons_self, h⟩
  | p :: q :: r, h => by
    have h' : c ∈ p ++ (S ++ TL.joinL S (q :: r)) := h
    rw [List.mem_append, List.mem_append] at h'
    rcases h' with h | h | h
    · exact .inr ⟨p, List.mem_cons_self, h⟩
    · exact .inl h
    · rcases mem_joinL (ps := q :: r) h with h | ⟨z, h1, h2⟩
      · exact .inl h
      · exact .inr ⟨z, List.mem_cons_of_mem _ h1, h2⟩
theorem len_joinL {S : List Nat} : ∀ {ps : List (List Nat)}, (TL.joinL S ps).length ≤ (ps.map (·.length)).sum + ps.length * S.length
  | [] => by simp [TL.joinL]
  | [p] => by simp [TL.joinL]
  | p :: q :: r => by
    have ih := len_joinL (S := S) (ps := q :: r)
    have e : TL.joinL S (p :: q :: r) = p ++ (S ++ TL.joinL S (q :: r)) := rfl
    rw [e, List.length_append, List.length_append]
    simp only [List.map_cons, List.sum_cons, List.length_cons] at ih ⊢
    have : (r.length + 1 + 1) * S.length = S.length + (r.length + 1) * S.length := by
      rw [Nat.add_mul (r.length + 1)]
      omega
    omega
theorem len_joinE : ∀ {ps : List (List Nat)}, (TL.joinL [] ps).length = (ps.map (·.length)).sum
  | [] => by simp [TL.joinL]
  | [p] => by simp [TL.joinL]
  | p :: q :: r => by
    have ih := len_joinE (ps := q :: r)
    have e : TL.joinL [] (p :: q :: r) = p ++ ([] ++ TL.joinL [] (q :: r)) := rfl
    rw [e, List.length_append, List.nil_append, ih]
    simp
theorem tl_jn (y : Str) (ys : List Str) : (Txt.join y ys).cps.toList = TL.joinL y.cps.toList (ys.map (·.cps.toList)) := by
  rw [TL.join_eq]
  exact TL.tl_join y ys
theorem str_len (x : Str) : x.length = x.cps.toList.length := by simp [Str.length]
theorem strs_map : ∀ (ys : List Str), strsD (ys.map .str) = some ys
  | [] => rfl
  | y :: ys => by simp [strsD, strs_map ys]
theorem sum_le {B : Nat} : ∀ {ys : List Str}, (∀ y ∈ ys, y.length ≤ B) → (ys.map (·.length)).sum ≤ ys.length * B
  | [], _ => by simp
  | y :: ys, h => by
    have h1 := h y List.mem_cons_self
    have h2 := sum_le (B := B) (ys := ys) fun z hz => h z (List.mem_cons_of_mem _ hz)
    simp only [List.map_cons, List.sum_cons, List.length_cons, Nat.add_mul, Nat.one_mul]
    omega
theorem join_ok {y : Str} {ys : List Str} {S : Sto} {B : Nat} (h : ∀ z ∈ ys, z.length ≤ B) (hl : ys.length * B + ys.length * y.length ≤ 1000) : joinV (.str y) [.lst (ys.map .str)] S = .ok (.str (Txt.join y ys)) S := by
  unfold joinV
  simp only [seqS, Option.bind_some, strs_map]
  rw [if_pos]
  have := sum_le h
  unfold LIM
  omega
theorem let_tab : ∀ k : Nat, k < 26 → L2.atI LET.cps.toList (k : Int) = some (97 + k) := by decide +kernel
theorem let_at {q : Int} {S : Sto} (h : 0 ≤ q ∧ q < 26) : ∃ c, ixV2 (.str LET) (.int q) S = .ok (.str ⟨#[c]⟩) S ∧ 97 ≤ c ∧ c ≤ 122 := by
  have e := let_tab q.toNat (by omega)
  rw [Int.toNat_of_nonneg h.1] at e
  refine ⟨97 + q.toNat, ?_, by omega, by omega⟩
  show ixV (.str LET) (.int q) S = _
  unfold ixV
  have hl : LIMS LET.length = true := by decide +kernel
  simp only [hl, if_true, e]
theorem low_one {c : Nat} (h : 97 ≤ c ∧ c ≤ 122) : Low ⟨#[c]⟩ := by
  intro z hz
  simp at hz
  subst hz
  exact h
/-- a row of drawn letters -/
theorem letters_ok {o : SO} {env : Dn.Env} {i : Nat} {n : Nat} (ho : IsBox o) (h0 : env[0]? = some (some (.ref 0))) (h1 : env[1]? = some (some (.str LET))) (hi : 2 ≤ i) (hn : n ≤ 12) : ∃ x o', (dMs joinV (dC (.str "")) (dCons (dLcL (fun _ S => .ok (rngD 0 n, any_) S) (gN i) dYes (dOp ixV2 (dVar 1) (dArg (bcall 2 0 D__law_take) (dCons (dVar 0) (dCons (dC (.int 26)) dNil)))) [i]) dNil)) env [o] = .ok (.str x) [o'] ∧ IsBox o' ∧ Low x ∧ x.length = n := by
  obtain ⟨xs, S', g1, ⟨o', rfl, ho'⟩, g3, g4⟩ := lcGo_box (i := i) (e := (dOp ixV2 (dVar 1) (dArg (bcall 2 0 D__law_take) (dCons (dVar 0) (dCons (dC (.int 26)) dNil))))) (env := wpe env [i]) (I := fun S => ∃ o, S = [o] ∧ IsBox o) (Q := fun d => ∃ c, d = .str ⟨#[c]⟩ ∧ 97 ≤ c ∧ c ≤ 122) (rngD 0 n) [] [o] ⟨o, rfl, ho⟩ (by simp [rngD]; unfold LIM; omega) (fun d hd S ⟨o, hS, ho⟩ => by
    subst hS
    obtain ⟨q, o', k1, k2, k3, k4⟩ := take_0 (c := 26) ho (by omega)
    obtain ⟨c, m1, m2⟩ := let_at (S := [o']) ⟨k3, k4⟩
    refine ⟨.str ⟨#[c]⟩, [o'], ?_, ⟨o', rfl, k2⟩, c, rfl, m2⟩
    have e0 : ((wpe env [i]).set i (some d))[0]? = some (some (.ref 0)) := by simp [wpe, List.getElem?_set, h0]; omega
    have e1 : ((wpe env [i]).set i (some d))[1]? = some (some (.str LET)) := by simp [wpe, List.getElem?_set, h1]; omega
    simp [e0, e1, k1, m1])
  obtain ⟨ys, rfl, hy⟩ : ∃ ys : List Str, xs = ys.map .str ∧ ∀ y ∈ ys, Low y ∧ y.length = 1 := by
    clear g1 g3
    induction xs with
    | nil => exact ⟨[], rfl, by simp⟩
    | cons x xs ih =>
      obtain ⟨ys, rfl, hy⟩ := ih fun z hz => g4 z (List.mem_cons_of_mem _ hz)
      obtain ⟨c, rfl, hc⟩ := g4 x List.mem_cons_self
      refine ⟨⟨#[c]⟩ :: ys, rfl, fun y h => ?_⟩
      rcases List.mem_cons.mp h with rfl | h
      · exact ⟨low_one hc, rfl⟩
      · exact hy y h
  have hlen : ys.length = n := by simpa [rngD] using g3
  have g5 := join_ok (y := "") (S := [o']) (B := 1) (ys := ys) (fun z hz => Nat.le_of_eq (hy z hz).2) (by rw [show (Str.ofString "").length = 0 from rfl]; omega)
  refine ⟨Txt.join "" ys, o', ?_, ho', fun c hc => ?_, ?_⟩
  · simp only [List.nil_append] at g1
    simp [dMs, isStr, dLcL, dLc, g1, g5]
  · rw [tl_jn] at hc
    rcases mem_joinL hc with h | ⟨p, h1, h2⟩
    · cases h
    · obtain ⟨y, hy1, rfl⟩ := List.mem_map.mp h1
      exact (hy y hy1).1 c h2
  · rw [str_len, tl_jn]
    show (TL.joinL [] _).length = n
    rw [len_joinE, List.map_map, ← hlen]
    clear g1 g3 g4 g5 hlen
    induction ys with
    | nil => rfl
    | cons y ys ih =>
      have h1 := (hy y List.mem_cons_self).2
      rw [str_len] at h1
      simp only [List.map_cons, List.sum_cons, Function.comp_def, List.length_cons, h1]
      have := ih fun z hz => hy z (List.mem_cons_of_mem _ hz)
      simp only [Function.comp_def] at this
      omega
end T55

set_option Elab.async false
set_option linter.all false
set_option maxRecDepth 100000
namespace T55
open PySem Dn
@[simp] theorem ix_l0 {x0 : D} {r : List D} {S : Sto} : ixV2 (.lst (x0 :: r)) (.int 0) S = .ok x0 S := ix_ll (i := 0) rfl
theorem lit_low (x : Str) (h : (x.cps.toList.all fun c => decide (97 ≤ c) && decide (c ≤ 122)) = true) : Low x := by
  intro c hc
  rw [List.all_eq_true] at h
  have := h c hc
  simp at this
  exact this
/-- what a level is -/
def LevOk (x : Str) : Prop := Low x ∧ 1 ≤ x.length ∧ x.length ≤ 3
theorem three_ok {q : Int} {S : Sto} (h : 0 ≤ q ∧ q < 3) : ∃ x, ixV2 (.lst [.str "a", .str "b", .str "ab"]) (.int q) S = .ok (.str x) S ∧ LevOk x := by
  have : q = 0 ∨ q = 1 ∨ q = 2 := by omega
  rcases this with rfl | rfl | rfl
  · exact ⟨"a", ix_ll (i := 0) rfl, lit_low _ (by decide), by decide, by decide⟩
  · exact ⟨"b", ix_ll (i := 1) rfl, lit_low _ (by decide), by decide, by decide⟩
  · exact ⟨"ab", ix_ll (i := 2) rfl, lit_low _ (by decide), by decide, by decide⟩
theorem rng_ok {n : Int} {S : Sto} (h : 0 ≤ n ∧ n ≤ 1000) : rng1 [.int n] S = .ok (rngD 0 n.toNat, any_) S := by
  show (if -(2 ^ 62) ≤ n ∧ n < 2 ^ 62 then _ else _) = _
  rw [if_pos ⟨by omega, by omega⟩]
theorem lev_ok {o : SO} (h : IsBox o) : ∃ x o', D__law_level [.ref 0] [o] = .ok (.str x) [o'] ∧ IsBox o' ∧ LevOk x := by
  obtain ⟨q, o1, h1, h2, h3, h4⟩ := take_0 (c := 4) h (by omega)
  by_cases hq : 0 < q
  · obtain ⟨p, o2, k1, k2, k3, k4⟩ := take_0 (c := 3) h2 (by omega)
    obtain ⟨x, m1, m2⟩ := three_ok (S := [o2]) ⟨k3, k4⟩
    refine ⟨x, o2, ?_, k2, m2⟩
    simp [D__law_level, fnD_eq, h1, gtV, ordV, hq, mkLst, LIM, k1, m1]
  · obtain ⟨p, o2, k1, k2, k3, k4⟩ := take_0 (c := 3) h2 (by omega)
    have hp : (1 + p).toNat ≤ 12 := by omega
    obtain ⟨x, o3, m1, m2, m3, m4⟩ := letters_ok (env := [some (.ref 0), some (.str LET), none]) (i := 2) (n := (1 + p).toNat) k2 rfl rfl (by omega) hp
    refine ⟨x, o3, ?_, m2, m3, by omega, by omega⟩
    have e := rng_ok (n := 1 + p) (S := [o2]) (by omega)
    have m5 : (dMs joinV (dC (.str "")) (dCons (dLcL (dArg rng1 (dCons (dOp addV (dC (.int 1)) (dArg (bcall 2 0 D__law_take) (dCons (dVar 0) (dCons (dC (.int 3)) dNil)))) dNil)) (gN 2) dYes (dOp ixV2 (dVar 1) (dArg (bcall 2 0 D__law_take) (dCons (dVar 0) (dCons (dC (.int 26)) dNil)))) [2]) dNil)) [some (.ref 0), some (.str LET), none] [o1] = .ok (.str x) [o3] := by
      rw [← m1]
      simp [dMs, isStr, dLcL, dLc, k1, addV, e]
    simp only [D__law_level, b__law_level, fnD_eq, List.map_cons, List.map_nil, List.length_cons, List.length_nil, List.replicate, List.cons_append, List.nil_append, s_seq, s_set, e_c, bindS_ok, s_if, e_t, e_op, e_arg, e_cons, e_var, e_nil, bind_ok, List.set_cons_succ, List.set_cons_zero, List.getElem?_cons_zero, h1, gtV, ordV, as_bl, hq, decide_false, Bool.false_eq_true, if_false, s_next, s_ret]
    rw [m5]
    rfl
theorem level_b {o : SO} (h : IsBox o) : ∃ x o', bcall 1 0 D__law_level [.ref 0] [o] = .ok (.str x) [o'] ∧ IsBox o' ∧ LevOk x := by
  obtain ⟨x, o', h1, h2, h3⟩ := lev_ok h
  exact ⟨x, o', bcall_ok (n := 1) (ds := [.ref 0]) (S := [o]) (R := []) rfl rfl rfl rfl h h1 rfl h2, h2, h3⟩
/-- a name of levels that are drawn -/
theorem top_join {ls : List Str} (h : ∀ l ∈ ls, LevOk l) (h0 : ls ≠ []) (h4 : ls.length ≤ 4) : Top (Txt.join "/" ls) ls := by
  refine ⟨?_, fun l hl => ⟨(h l hl).1, (h l hl).2⟩, h4, h0, ?_, fun c hc => ?_⟩
  · refine TL.split_join (s := 47) (S := []) rfl (by decide +kernel) h0 fun p hp hm => ?_
    have := (h p hp).1 47 hm
    omega
  · rw [str_len, tl_jn]
    have h1 := len_joinL (S := (Str.ofString "/").cps.toList) (ps := ls.map (·.cps.toList))
    have h2 := sum_le (B := 3) (ys := ls) fun y hy => (h y hy).2.2
    rw [List.map_map, List.length_map] at h1
    have e : ((fun x : List Nat => x.length) ∘ fun x : Str => x.cps.toList) = fun x : Str => x.length := by
      funext x
      exact (str_len x).symm
    rw [e] at h1
    have e2 : (Str.ofString "/").cps.toList.length = 1 := rfl
    rw [e2] at h1
    omega
  · rw [tl_jn] at hc
    rcases mem_joinL hc with h1 | ⟨p, h1, h2⟩
    · have e2 : (Str.ofString "/").cps.toList = [47] := rfl
      rw [e2] at h1
      simp at h1
      omega
    · obtain ⟨y, hy, rfl⟩ := List.mem_map.mp h1
      exact ((h y hy).1 c h2).2
theorem topic_ok {o : SO} (h : IsBox o) : ∃ x o' ls, D__law_topic [.ref 0] [o] = .ok (.str x) [o'] ∧ IsBox o' ∧ Top x ls := by
  obtain ⟨q, o1, h1, h2, h3, h4⟩ := take_0 (c := 4) h (by omega)
  obtain ⟨p, o2, k1, k2, k3, k4⟩ := take_0 (c := 2) h2 (by omega)
  have hb : 0 ≤ q * p ∧ q * p ≤ 3 := by
    have : p = 0 ∨ p = 1 := by omega
    rcases this with rfl | rfl <;> omega
  have hm : mulOk q p = true := decide_eq_true (.inl ⟨by omega, by omega⟩)
  have e := rng_ok (n := 1 + q * p) (S := [o2]) (by omega)
  obtain ⟨xs, S', g1, ⟨o', rfl, ho'⟩, g3, g4⟩ := lcGo_box (i := 1) (e := (dArg (bcall 1 0 D__law_level) (dCons (dVar 0) dNil))) (env := [some (.ref 0), none]) (I := fun S => ∃ o, S = [o] ∧ IsBox o) (Q := fun d => ∃ x, d = .str x ∧ LevOk x) (rngD 0 (1 + q * p).toNat) [] [o2] ⟨o2, rfl, k2⟩ (by simp [rngD]; unfold LIM; omega) (fun d hd S ⟨o, hS, ho⟩ => by
    subst hS
    obtain ⟨x, o', m1, m2, m3⟩ := level_b ho
    exact ⟨.str x, [o'], by simp [m1], ⟨o', rfl, m2⟩, x, rfl, m3⟩)
  obtain ⟨ls, rfl, hy⟩ : ∃ ys : List Str, xs = ys.map .str ∧ ∀ y ∈ ys, LevOk y := by
    clear g1 g3
    induction xs with
    | nil => exact ⟨[], rfl, by simp⟩
    | cons x xs ih =>
      obtain ⟨ys, rfl, hy⟩ := ih fun z hz => g4 z (List.mem_cons_of_mem _ hz)
      obtain ⟨c, rfl, hc⟩ := g4 x List.mem_cons_self
      refine ⟨c :: ys, rfl, fun y h => ?_⟩
      rcases List.mem_cons.mp h with rfl | h
      · exact hc
      · exact hy y h
  have hlen : ls.length = (1 + q * p).toNat := by simpa [rngD] using g3
  have g5 := join_ok (y := "/") (S := [o']) (B := 3) (ys := ls) (fun z hz => (hy z hz).2.2) (by rw [show (Str.ofString "/").length = 1 from rfl]; omega)
  refine ⟨_, o', ls, ?_, ho', top_join hy (fun e => by rw [e] at hlen; simp at hlen; omega) (by omega)⟩
  simp only [List.nil_append] at g1
  simp [D__law_topic, fnD_eq, dMs, isStr, dLcL, dLc, h1, k1, mulV, int2, hm, addV, e, wpe, g1, g5]
theorem text_ok {o : SO} (h : IsBox o) : ∃ x o', D__law_text [.ref 0] [o] = .ok (.str x) [o'] ∧ IsBox o' ∧ Low x ∧ x.length ≤ 12 := by
  obtain ⟨q, o1, h1, h2, h3, h4⟩ := take_0 (c := 13) h (by omega)
  obtain ⟨p, o2, k1, k2, k3, k4⟩ := take_0 (c := 5) h2 (by omega)
  obtain ⟨n, hn, e0⟩ : ∃ n : Int, (0 ≤ n ∧ n ≤ 12) ∧ ixV2 (.lst [.int 0, .int 1, .int 1, .int 12, .int q]) (.int p) [o2] = .ok (.int n) [o2] := by
    have : p = 0 ∨ p = 1 ∨ p = 2 ∨ p = 3 ∨ p = 4 := by omega
    rcases this with rfl | rfl | rfl | rfl | rfl
    · exact ⟨0, by omega, ix_ll (i := 0) rfl⟩
    · exact ⟨1, by omega, ix_ll (i := 1) rfl⟩
    · exact ⟨1, by omega, ix_ll (i := 2) rfl⟩
    · exact ⟨12, by omega, ix_ll (i := 3) rfl⟩
    · exact ⟨q, by omega, ix_ll (i := 4) rfl⟩
  obtain ⟨x, o3, m1, m2, m3, m4⟩ := letters_ok (env := [some (.ref 0), some (.str LET), some (.int n), none]) (i := 3) (n := n.toNat) k2 rfl rfl (by omega) (by omega)
  refine ⟨x, o3, ?_, m2, m3, by omega⟩
  have e := rng_ok (n := n) (S := [o2]) (by omega)
  have m5 : (dMs joinV (dC (.str "")) (dCons (dLcL (dArg rng1 (dCons (dVar 2) dNil)) (gN 3) dYes (dOp ixV2 (dVar 1) (dArg (bcall 2 0 D__law_take) (dCons (dVar 0) (dCons (dC (.int 26)) dNil)))) [3]) dNil)) [some (.ref 0), some (.str LET), some (.int n), none] [o2] = .ok (.str x) [o3] := by
    rw [← m1]
    simp [dMs, isStr, dLcL, dLc, e]
  have m6 : (dSet 2 (dOp ixV2 (dArg mkLst (dCons (dC (.int 0)) (dCons (dC (.int 1)) (dCons (dC (.int 1)) (dCons (dC (.int 12)) (dCons (dArg (bcall 2 0 D__law_take) (dCons (dVar 0) (dCons (dC (.int 13)) dNil))) dNil)))))) (dArg (bcall 2 0 D__law_take) (dCons (dVar 0) (dCons (dC (.int 5)) dNil))))) [some (.ref 0), some (.str LET), none, none] [o] = .nx [some (.ref 0), some (.str LET), some (.int n), none] [o2] := by
    simp [h1, mkLst, LIM, k1, e0]
  have m7 : (dSet 1 (dC (.str "abcdefghijklmnopqrstuvwxyz"))) [some (.ref 0), none, none, none] [o] = .nx [some (.ref 0), some (.str LET), none, none] [o] := rfl
  simp only [D__law_text, b__law_text, fnD_eq, List.map_cons, List.map_nil, List.length_cons, List.length_nil, List.replicate, List.cons_append, List.nil_append]
  rw [s_seq, m7]
  show outD (dSeq _ _ _ _) = _
  rw [s_seq, m6]
  show outD (dRet _ _ _) = _
  rw [s_ret, m5]
  rfl
theorem topic_b {o : SO} (h : IsBox o) : ∃ x o' ls, bcall 1 0 D__law_topic [.ref 0] [o] = .ok (.str x) [o'] ∧ IsBox o' ∧ Top x ls := by
  obtain ⟨x, o', ls, h1, h2, h3⟩ := topic_ok h
  exact ⟨x, o', ls, bcall_ok (n := 1) (ds := [.ref 0]) (S := [o]) (R := []) rfl rfl rfl rfl h h1 rfl h2, h2, h3⟩
theorem text_b {o : SO} (h : IsBox o) : ∃ x o', bcall 1 0 D__law_text [.ref 0] [o] = .ok (.str x) [o'] ∧ IsBox o' ∧ Low x ∧ x.length ≤ 12 := by
  obtain ⟨x, o', h1, h2, h3⟩ := text_ok h
  exact ⟨x, o', bcall_ok (n := 1) (ds := [.ref 0]) (S := [o]) (R := []) rfl rfl rfl rfl h h1 rfl h2, h2, h3⟩
/-- a drawn will: none, or a row, its quality set aside -/
theorem will_draw {o : SO} (h : IsBox o) : ∃ d o', D__law_will [.ref 0] [o] = .ok d [o'] ∧ IsBox o' ∧ d.nr = true ∧ (d = .non ∨ ∃ r : Row, ∃ q : Int, ROk r ∧ d = .tup [.str r.name, .str r.text, .int q, .bl r.kept]) := by
  obtain ⟨q, o1, h1, h2, h3, h4⟩ := take_0 (c := 2) h (by omega)
  by_cases hq : q = 0
  · refine ⟨.non, o1, ?_, h2, rfl, .inl rfl⟩
    simp [D__law_will, fnD_eq, h1, hq]
  · obtain ⟨x, o2, ls, k1, k2, k3⟩ := topic_b h2
    obtain ⟨y, o3, m1, m2, m3, m4⟩ := text_b k2
    obtain ⟨p, o4, n1, n2, n3, n4⟩ := take_0 (c := 3) m2 (by omega)
    obtain ⟨z, o5, p1, p2, p3, p4⟩ := take_0 (c := 3) n2 (by omega)
    refine ⟨.tup [.str x, .str y, .int p, .bl (decide (z = 0))], o5, ?_, p2, rfl, .inr ⟨⟨x, y, decide (z = 0)⟩, p, ⟨⟨ls, k3⟩, m3, m4⟩, rfl⟩⟩
    simp [D__law_will, fnD_eq, h1, hq, k1, m1, n1, p1, mkTup, LIM]
theorem will_b {S : Sto} {m : Nat} {o : SO} (hS : S[m]? = some o) (h : IsBox o) : ∃ d o', bcall 1 0 D__law_will [.ref m] S = .ok d (S.set m o') ∧ IsBox o' ∧ (d = .non ∨ ∃ r : Row, ∃ q : Int, ROk r ∧ d = .tup [.str r.name, .str r.text, .int q, .bl r.kept]) := by
  obtain ⟨d, o', h1, h2, h3, h4⟩ := will_draw h
  exact ⟨d, o', bcall_ok (n := 1) (ds := [.ref m]) (R := []) rfl rfl rfl hS h h1 h3 h2, h2, h4⟩
end T55

set_option Elab.async false
set_option linter.all false
set_option maxRecDepth 100000
namespace T55
open PySem Dn
abbrev bW : DS := (dIfS (dT (dOp ltV (dVar 11) (dC (.int 3)))) (dSeq (dIfS (dT (dOp isntV (dGetD (dVar 6) (dVar 10) (dC .non)) (dC .non))) (dDrop (dMl appendV (dVar 5) (dCons (dOp addV (dArg mkTup (dCons (dVar 10) dNil)) (dOp ixV2 (dVar 6) (dVar 10))) dNil))) dNext) (dSeq (dAsg (dVar 8) (gIx2 (dVar 6) (dVar 10))) (dSet 12 (dMeth "House" "come" 1 2 gD_House_come_2_clean_will (gcall 4 D_House_come) (dVar 4) (dCons (dVar 10) dNil) (dCons (dOp eqV (dArg (bcall 2 0 D__law_take) (dCons (dVar 2) (dCons (dC (.int 2)) dNil))) (dC (.int 0))) (dCons (dVar 8) dNil)))))) (dIfS (dT (dOp inV2 (dVar 10) (dVar 6))) (dSeq (dSet 16 (dPopD (dVar 6) (dVar 10))) (dSeq (dIfS (dAnd (dT (dOp eqV (dVar 11) (dC (.int 3)))) (dT (dOp isntV (dVar 16) (dC .non)))) (dDrop (dMl appendV (dVar 5) (dCons (dOp addV (dArg mkTup (dCons (dVar 10) dNil)) (dVar 16)) dNil))) dNext) (dSet 12 (dIf (dT (dOp eqV (dVar 11) (dC (.int 3)))) (dMeth "House" "cut" 1 0 gD_House_cut_2_ (gcall 2 D_House_cut) (dVar 4) (dCons (dVar 10) dNil) dNil) (dMeth "House" "goes" 1 0 gD_House_goes_2_ (gcall 2 D_House_goes) (dVar 4) (dCons (dVar 10) dNil) dNil))))) dNext))
abbrev bWc : DS := (dSeq (dIfS (dT (dOp isntV (dGetD (dVar 6) (dVar 10) (dC .non)) (dC .non))) (dDrop (dMl appendV (dVar 5) (dCons (dOp addV (dArg mkTup (dCons (dVar 10) dNil)) (dOp ixV2 (dVar 6) (dVar 10))) dNil))) dNext) (dSeq (dAsg (dVar 8) (gIx2 (dVar 6) (dVar 10))) (dSet 12 (dMeth "House" "come" 1 2 gD_House_come_2_clean_will (gcall 4 D_House_come) (dVar 4) (dCons (dVar 10) dNil) (dCons (dOp eqV (dArg (bcall 2 0 D__law_take) (dCons (dVar 2) (dCons (dC (.int 2)) dNil))) (dC (.int 0))) (dCons (dVar 8) dNil))))))
abbrev bWg : DS := (dSeq (dSet 16 (dPopD (dVar 6) (dVar 10))) (dSeq (dIfS (dAnd (dT (dOp eqV (dVar 11) (dC (.int 3)))) (dT (dOp isntV (dVar 16) (dC .non)))) (dDrop (dMl appendV (dVar 5) (dCons (dOp addV (dArg mkTup (dCons (dVar 10) dNil)) (dVar 16)) dNil))) dNext) (dSet 12 (dIf (dT (dOp eqV (dVar 11) (dC (.int 3)))) (dMeth "House" "cut" 1 0 gD_House_cut_2_ (gcall 2 D_House_cut) (dVar 4) (dCons (dVar 10) dNil) dNil) (dMeth "House" "goes" 1 0 gD_House_goes_2_ (gcall 2 D_House_goes) (dVar 4) (dCons (dVar 10) dNil) dNil)))))

def keptFrom : Nat → Rows → List (Str × Row) → Rows
  | _, ke, [] => ke
  | n, ke, x :: rs => keptFrom (n + 1) (keptUp ke x.2 n) rs
theorem keptFrom_app : ∀ (n : Nat) (ke : Rows) (rs : List (Str × Row)) (x : Str × Row), keptFrom n ke (rs ++ [x]) = keptUp (keptFrom n ke rs) x.2 (n + rs.length)
  | n, ke, [], x => rfl
  | n, ke, y :: rs, x => by
    have ih := keptFrom_app (n + 1) (keptUp ke y.2 n) rs x
    show keptFrom (n + 1) (keptUp ke y.2 n) (rs ++ [x]) = _
    rw [ih, show n + 1 + rs.length = n + (y :: rs).length by simp; omega]
    rfl
theorem keptUp_len (ke : Rows) (r : Row) (n : Nat) : (keptUp ke r n).length ≤ ke.length + 1 := by
  have h1 := ap_len (m := ke) (x := r.name) (v := .int n)
  have h2 := ad_len (m := ap ke r.name (.int n)) (x := r.name)
  unfold keptUp
  split
  · split <;> omega
  · omega
theorem keptFrom_len : ∀ (n : Nat) (ke : Rows) (rs : List (Str × Row)), (keptFrom n ke rs).length ≤ ke.length + rs.length
  | n, ke, [] => by simp [keptFrom]
  | n, ke, x :: rs => by
    have h1 := keptFrom_len (n + 1) (keptUp ke x.2 n) rs
    have h2 := keptUp_len ke x.2 n
    simp only [keptFrom, List.length_cons]
    omega
def Wd (rs : List (Str × Row)) : List D := rs.map fun p => p.2.d p.1
def addR (c : Str) (o : Option Row) : List (Str × Row) := (o.map fun r => (c, r)).toList
abbrev WHO : List Str := ["a", "b", "cab", "d"]
structure TI (P : Sto) (rs : List (Str × Row)) (se wi sd : Rows) (T : Sto) : Prop where
  H : HOk P T se wi
  wn : (wi.map (·.1)).Nodup
  sn : (sd.map (·.1)).Nodup
  ks : ∀ c, (ag se c).isSome = true → c ∈ (("zz" : Str) :: WHO)
  kd : ∀ c, (ag sd c).isSome = true → c ∈ WHO
  eq : ∀ c : Str, c ≠ "zz" → ag wi c = ag sd c
  vd : ∀ c d, ag sd c = some d → ∃ o, d = wd o ∧ ∀ r, o = some r → ROk r
  rk : ∀ p ∈ rs, p.1 ∈ WHO ∧ ROk p.2
def St (P : Sto) (b : SO) (rs : List (Str × Row)) (se wi sd : Rows) (T : Sto) : Sto := sto P b (.lst (Wd rs)) (dO se) (dO wi) (dO (keptFrom 0 [] rs)) (.lst (Wd rs)) (dO sd) T
def eL (P : Sto) (sc k x3 x8 x9 x10 x11 x12 x13 x14 x15 x16 x17 : Option D) : Dn.Env := [sc, k, some (.ref (hx P 0)), x3, some (.ref (hx P 1)), some (.ref (hx P 6)), some (.ref (hx P 7)), some (.ref (hx P 8)), x8, x9, x10, x11, x12, x13, x14, x15, x16, x17]
theorem nodup_le : ∀ (l m : List Str), l.Nodup → (∀ x ∈ l, x ∈ m) → l.length ≤ m.length
  | [], _, _, _ => by simp
  | x :: l, m, hn, h => by
    rw [List.nodup_cons] at hn
    have h1 := nodup_le l (m.erase x) hn.2 fun y hy => (List.mem_erase_of_ne (fun e : y = x => hn.1 (e ▸ hy))).mpr (h y (List.mem_cons_of_mem _ hy))
    have h2 := List.length_erase_of_mem (h x List.mem_cons_self)
    have h3 : 0 < m.length := List.length_pos_of_mem (h x List.mem_cons_self)
    simp only [List.length_cons]
    omega
theorem who_ok {c : Str} (h : c ∈ WHO) : CallOk c := by
  simp at h
  rcases h with rfl | rfl | rfl | rfl
  · exact ⟨lit_low _ (by decide), by decide, by decide⟩
  · exact ⟨lit_low _ (by decide), by decide, by decide⟩
  · exact ⟨lit_low _ (by decide), by decide, by decide⟩
  · exact ⟨lit_low _ (by decide), by decide, by decide⟩
section
variable {P T : Sto} {rs : List (Str × Row)} {se wi sd : Rows} {b : SO} {who : Str} {way : Int} {v : Option Row} {sc k x3 x8 x9 x10 x11 x12 x13 x14 x15 x16 x17 : Option D}
theorem TI.sl (I : TI P rs se wi sd T) : se.length ≤ 5 := by
  have := nodup_le (se.map (·.1)) (("zz" : Str) :: WHO) I.H.nd fun x hx => I.ks x (ag_mem.mpr hx)
  simpa using this
theorem TI.dl (I : TI P rs se wi sd T) : sd.length ≤ 4 := by
  have := nodup_le (sd.map (·.1)) WHO I.sn fun x hx => I.kd x (ag_mem.mpr hx)
  simpa using this
theorem TI.wl (I : TI P rs se wi sd T) : wi.length ≤ 5 := by
  have := nodup_le (wi.map (·.1)) (("zz" : Str) :: WHO) I.wn fun x hx => I.ks x (I.H.sub x (ag_mem.mpr hx))
  simpa using this
theorem TI.ow (I : TI P rs se wi sd T) (c : Str) : ∃ o : Option (Option Row), ag sd c = o.map wd ∧ ∀ r, o.join = some r → ROk r := by
  cases h : ag sd c with
  | none => exact ⟨none, rfl, fun r e => by cases e⟩
  | some d =>
    obtain ⟨o, rfl, h2⟩ := I.vd c d h
    exact ⟨some o, rfl, h2⟩
theorem wd_add {c : Str} {o : Option Row} : Wd (rs ++ addR c o) = Wd rs ++ acc c o := by
  cases o <;> simp [Wd, addR, acc]
theorem kept_add {c : Str} {o : Option Row} : keptFrom 0 [] (rs ++ addR c o) = keptO (keptFrom 0 [] rs) o (Wd rs).length := by
  cases o with
  | none => simp [addR, keptO]
  | some r =>
    simp only [addR, Option.map_some, Option.toList, keptO]
    rw [keptFrom_app]
    simp [Wd]
def RowsAt (P T : Sto) (R : D) (L : List D) : Prop := R = .lst L ∨ ∃ j, R = .ref (tx P j) ∧ T[j]? = some (.lst L)
theorem if_no {c : DE Bool} {x y : DS} {env : Dn.Env} {S S1 : Sto} (h : c env S = .ok false S1) : dIfS c x y env S = y env S1 := by rw [s_if, h]; rfl
theorem come_deed (I : TI P rs se wi sd T) (hl : rs.length ≤ 100) (hb : IsBox b) (hw : who ∈ WHO) (hv : ∀ r, v = some r → ROk r) :
    ∃ (o : Option Row) (se' wi' sd' : Rows) (T' : Sto) (b' : SO) (kn : Bool),
      bWc (eL P sc k x3 (some (wd v)) x9 (some (.str who)) x11 x12 x13 x14 x15 x16 x17) (St P b rs se wi sd T) = .nx (eL P sc k x3 (some (wd v)) x9 (some (.str who)) x11 (some (.lst (pubs o ++ [accRow who kn]))) x13 x14 x15 x16 x17) (St P b' (rs ++ addR who o) se' wi' sd' T') ∧ TI P (rs ++ addR who o) se' wi' sd' T' ∧ IsBox b' := by
  obtain ⟨o, ho, hr⟩ := I.ow who
  have hc := who_ok hw
  have hwi : ag wi who = o.map wd := (I.eq who hc.nz).trans ho
  have hWl : (Wd rs).length ≤ 1000 := by simp [Wd]; omega
  have hkl : (keptFrom 0 [] rs).length ≤ 1000 := by have := keptFrom_len 0 [] rs; simp at this; omega
  have hwl := I.wl
  have hsl := I.sl
  have hdl := I.dl
  -- the first part: what is due
  have p1 : ∀ (e : Dn.Env) , e = eL P sc k x3 (some (wd v)) x9 (some (.str who)) x11 x12 x13 x14 x15 x16 x17 → (dIfS (dT (dOp isntV (dGetD (dVar 6) (dVar 10) (dC .non)) (dC .non))) (dDrop (dMl appendV (dVar 5) (dCons (dOp addV (dArg mkTup (dCons (dVar 10) dNil)) (dOp ixV2 (dVar 6) (dVar 10))) dNil))) dNext) e (St P b rs se wi sd T) = .nx e (sto P b (.lst (Wd rs)) (dO se) (dO wi) (dO (keptFrom 0 [] rs)) (.lst (Wd rs ++ acc who o.join)) (dO sd) T) := fun e he => by
    subst he
    have a1 : isDct (St P b rs se wi sd T) (.ref (hx P 7)) = true := isDct_rows get_7
    have a2 : getDV (.ref (hx P 7)) (.str who) .non (St P b rs se wi sd T) = .ok ((ag sd who).getD .non) (St P b rs se wi sd T) := get_rows get_7
    rw [ho] at a2
    cases o with
    | none =>
      simp at a2
      simp [eL, dGetD, a1, a2, isntV, isNon]
      simp [St, acc]
    | some q =>
      cases q with
      | none =>
        simp [wd] at a2
        simp [eL, dGetD, a1, a2, isntV, isNon]
        simp [St, acc]
      | some r =>
        have a3 : ixV2 (.ref (hx P 7)) (.str who) (St P b rs se wi sd T) = .ok r.w (St P b rs se wi sd T) := ix_rows get_7 ho
        have a4 : addV (.tup [.str who]) r.w (St P b rs se wi sd T) = .ok (r.d who) (St P b rs se wi sd T) := by
          simp [addV, Row.w, Row.d, LIMS, LIM]
        have a5 : appendV (.ref (hx P 6)) [r.d who] (St P b rs se wi sd T) = .ok .non (sto P b (.lst (Wd rs)) (dO se) (dO wi) (dO (keptFrom 0 [] rs)) (.lst (Wd rs ++ [r.d who])) (dO sd) T) := app_6 (by unfold LIM; omega)
        simp [wd] at a2
        have a6 : isLst (St P b rs se wi sd T) (.ref (hx P 6)) = true := by simp [isLst, seqL, St]
        simp [eL, dGetD, a1, a2, isntV, show isNon r.w = false from rfl, dMl, a6, mkTup, LIM, a3, a4, a5, acc]
  obtain ⟨q, b', k1, k2, k3, k4⟩ := take_b (S := sto P b (.lst (Wd rs)) (dO se) (dO wi) (dO (keptFrom 0 [] rs)) (.lst (Wd rs ++ acc who o.join)) (dO (ap sd who (wd v))) T) (m := hx P 0) (c := 2) get_0 hb (by omega)
  rw [set_0] at k1
  obtain ⟨kn, se', G', g1, g2, g3⟩ := come_ok (P := P) (T := T) (a := b') (u := .lst (Wd rs ++ acc who o.join)) (t := dO (ap sd who (wd v))) (cl := decide (q = 0)) (v := v) o I.H hc hwi hr hv hWl hkl (by omega) (by omega)
  refine ⟨o.join, se', ap (ad wi who) who (wd v), ap sd who (wd v), T ++ G', b', kn, ?_, ?_, k2⟩
  · have p2 : ∀ (env : Dn.Env), setIx2 (.ref (hx P 7)) (.str who) (wd v) env (sto P b (.lst (Wd rs)) (dO se) (dO wi) (dO (keptFrom 0 [] rs)) (.lst (Wd rs ++ acc who o.join)) (dO sd) T) = .nx env (sto P b (.lst (Wd rs)) (dO se) (dO wi) (dO (keptFrom 0 [] rs)) (.lst (Wd rs ++ acc who o.join)) (dO (ap sd who (wd v))) T) := fun env => by rw [set_rows get_7 (by unfold LIM; omega), set_7]
    unfold bWc
    rw [s_seq, p1 _ rfl]
    unfold St
    rw [wd_add, kept_add]
    simp [eL, dAsg, gIx2, p2, onlyG, e_meth, k1, gD_House_come_2_clean_will, gcall_eq, g2]
  · refine ⟨g1, ?_, ap_nodup I.sn, fun c h => ?_, fun c h => ?_, fun c h => ?_, fun c d h => ?_, fun p h => ?_⟩
    · exact ap_nodup (ad_nodup I.wn)
    · rcases g3 c h with rfl | h
      · exact List.mem_cons_of_mem _ hw
      · exact I.ks c h
    · rw [ag_ap] at h
      split at h
      · rename_i e
        exact e ▸ hw
      · exact I.kd c h
    · rw [ag_ap, ag_ap, ag_ad]
      split
      · rfl
      · exact I.eq c h
    · rw [ag_ap] at h
      split at h
      · cases h
        exact ⟨v, rfl, hv⟩
      · exact I.vd c d h
    · rcases List.mem_append.mp h with h | h
      · exact I.rk p h
      · cases q' : o.join with
        | none =>
          rw [q'] at h
          cases h
        | some r =>
          rw [q'] at h
          simp [addR] at h
          subst h
          exact ⟨hw, hr r q'⟩
theorem TI.off (I : TI P rs se wi sd T) (hw : who ∈ WHO) {o : Option Row} (ho : ∀ r, o = some r → ROk r) (cl : Bool) {G : Sto} : TI P (rs ++ addR who o) (if cl = true then ad se who else se) (ad wi who) (ad sd who) (T ++ G) := by
  have hc := who_ok hw
  refine ⟨(I.H.off hc.nz cl).app, ad_nodup I.wn, ad_nodup I.sn, fun c h => ?_, fun c h => ?_, fun c h => ?_, fun c d h => ?_, fun p h => ?_⟩
  · refine I.ks c ?_
    split at h
    · rw [ag_ad] at h
      split at h
      · cases h
      · exact h
    · exact h
  · rw [ag_ad] at h
    split at h
    · cases h
    · exact I.kd c h
  · rw [ag_ad, ag_ad]
    split
    · rfl
    · exact I.eq c h
  · rw [ag_ad] at h
    split at h
    · cases h
    · exact I.vd c d h
  · rcases List.mem_append.mp h with h | h
    · exact I.rk p h
    · cases o with
      | none => cases h
      | some r =>
        simp [addR] at h
        subst h
        exact ⟨hw, ho r rfl⟩
theorem go_deed (I : TI P rs se wi sd T) (hl : rs.length ≤ 100) (hb : IsBox b) (hw : who ∈ WHO) :
    ∃ (o : Option Row) (se' wi' sd' : Rows) (T' : Sto) (R : D) (y : Option D),
      (dIfS (dT (dOp inV2 (dVar 10) (dVar 6))) bWg dNext) (eL P sc k x3 x8 x9 (some (.str who)) (some (.int way)) (some (.lst [])) x13 x14 x15 x16 x17) (St P b rs se wi sd T) = .nx (eL P sc k x3 x8 x9 (some (.str who)) (some (.int way)) (some R) x13 x14 x15 y x17) (St P b (rs ++ addR who o) se' wi' sd' T') ∧ TI P (rs ++ addR who o) se' wi' sd' T' ∧ RowsAt P T' R (pubs o) := by
  obtain ⟨o, ho, hr⟩ := I.ow who
  have hc := who_ok hw
  have hwi : ag wi who = o.map wd := (I.eq who hc.nz).trans ho
  have hWl : (Wd rs).length ≤ 1000 := by simp [Wd]; omega
  have hkl : (keptFrom 0 [] rs).length ≤ 1000 := by have := keptFrom_len 0 [] rs; simp at this; omega
  have a0 : inV2 (.str who) (.ref (hx P 7)) (St P b rs se wi sd T) = .ok (.bl (ag sd who).isSome) (St P b rs se wi sd T) := in_rows get_7
  cases o with
  | none =>
    rw [ho] at a0
    refine ⟨none, se, wi, sd, T, .lst [], x16, ?_, ?_, .inl rfl⟩
    · simp at a0
      simp [eL, a0, addR]
    · simpa [addR] using I
  | some q =>
    rw [ho] at a0
    simp at a0
    have a1 : isDct (St P b rs se wi sd T) (.ref (hx P 7)) = true := isDct_rows get_7
    have a2 : popDV (.ref (hx P 7)) (.str who) (St P b rs se wi sd T) = .ok (wd q) (sto P b (.lst (Wd rs)) (dO se) (dO wi) (dO (keptFrom 0 [] rs)) (.lst (Wd rs)) (dO (ad sd who)) T) := by
      unfold St
      rw [popd_rows get_7 ho, set_7]
    by_cases h3 : way = 3
    · subst h3
      obtain ⟨cl, g1⟩ := cut_ok (P := P) (T := T) (a := b) (u := .lst (Wd rs ++ acc who q)) (t := dO (ad sd who)) I.H hc hwi hr hWl hkl
      refine ⟨q, _, _, _, T ++ garb q, .ref (tx P T.length), some (wd q), ?_, I.off hw hr cl, .inr ⟨T.length, rfl, ?_⟩⟩
      · cases q with
        | none =>
          simp [acc] at g1
          simp [eL, a0, dPopD, a1, a2, wd, isntV, isNon, e_meth, gD_House_cut_2_, gcall_eq]
          rw [g1]
          simp [St, addR, keptO]
        | some r =>
          have a4 : addV (.tup [.str who]) r.w (sto P b (.lst (Wd rs)) (dO se) (dO wi) (dO (keptFrom 0 [] rs)) (.lst (Wd rs)) (dO (ad sd who)) T) = .ok (r.d who) (sto P b (.lst (Wd rs)) (dO se) (dO wi) (dO (keptFrom 0 [] rs)) (.lst (Wd rs)) (dO (ad sd who)) T) := by
            simp [addV, Row.w, Row.d, LIMS, LIM]
          have a5 := app_6 (P := P) (T := T) (a := b) (w := .lst (Wd rs)) (s := dO se) (l := dO wi) (k := dO (keptFrom 0 [] rs)) (t := dO (ad sd who)) (ds := Wd rs) (x := r.d who) (by unfold LIM; omega)
          have a6 : isLst (sto P b (.lst (Wd rs)) (dO se) (dO wi) (dO (keptFrom 0 [] rs)) (.lst (Wd rs)) (dO (ad sd who)) T) (.ref (hx P 6)) = true := by simp [isLst, seqL]
          have e1 : acc who (some r) = [r.d who] := rfl
          simp only [e1] at g1
          simp [eL, a0, dPopD, a1, a2, wd, isntV, show isNon r.w = false from rfl, dMl, a6, mkTup, LIM, a4, a5, e_meth, gD_House_cut_2_, gcall_eq]
          rw [g1]
          unfold St
          rw [wd_add, kept_add, e1]
          simp
      · cases q <;> simp [garb, pubs]
    · obtain ⟨cl, g1⟩ := goes_ok (P := P) (T := T) (a := b) (w := .lst (Wd rs)) (k := dO (keptFrom 0 [] rs)) (u := .lst (Wd rs)) (t := dO (ad sd who)) I.H hc hwi
      have hoff := I.off hw (o := none) (fun r e => by cases e) cl (G := [])
      rw [List.append_nil] at hoff
      refine ⟨none, _, _, _, T, .lst [], some (wd q), ?_, hoff, .inl rfl⟩
      simp [eL, a0, dPopD, a1, a2, h3, e_meth, gD_House_goes_2_, gcall_eq, g1]
      simp [St, addR]
/-- what comes of a turn's deed -/
theorem deed_ok (I : TI P rs se wi sd T) (hl : rs.length ≤ 100) (hb : IsBox b) (hw : who ∈ WHO) (hv : ∀ r, v = some r → ROk r) :
    ∃ (o : Option Row) (se' wi' sd' : Rows) (T' : Sto) (b' : SO) (R : D) (L : List D) (y : Option D),
      bW (eL P sc k x3 (some (wd v)) x9 (some (.str who)) (some (.int way)) (some (.lst [])) x13 x14 x15 x16 x17) (St P b rs se wi sd T) = .nx (eL P sc k x3 (some (wd v)) x9 (some (.str who)) (some (.int way)) (some R) x13 x14 x15 y x17) (St P b' (rs ++ addR who o) se' wi' sd' T') ∧ TI P (rs ++ addR who o) se' wi' sd' T' ∧ IsBox b' ∧ RowsAt P T' R (pubs o ++ L) ∧ (L = [] ∨ ∃ kn, L = [accRow who kn]) := by
  by_cases h : way < 3
  · obtain ⟨o, se', wi', sd', T', b', kn, h1, h2, h3⟩ := come_deed (sc := sc) (k := k) (x3 := x3) (x9 := x9) (x11 := some (.int way)) (x12 := some (.lst [])) (x13 := x13) (x14 := x14) (x15 := x15) (x16 := x16) (x17 := x17) I hl hb hw hv
    refine ⟨o, se', wi', sd', T', b', _, [accRow who kn], x16, ?_, h2, h3, .inl rfl, .inr ⟨kn, rfl⟩⟩
    rw [← h1]
    show dIfS _ bWc _ _ _ = _
    rw [if_yes (S1 := St P b rs se wi sd T) (by simp [eL, ltV, ordV, h])]
  · obtain ⟨o, se', wi', sd', T', R, y, h1, h2, h3⟩ := go_deed (sc := sc) (k := k) (x3 := x3) (x8 := some (wd v)) (x9 := x9) (x13 := x13) (x14 := x14) (x15 := x15) (x16 := x16) (x17 := x17) (way := way) I hl hb hw
    refine ⟨o, se', wi', sd', T', b, R, [], y, ?_, h2, hb, by rw [List.append_nil]; exact h3, .inl rfl⟩
    rw [← h1]
    show dIfS _ bWc _ _ _ = _
    rw [if_no (S1 := St P b rs se wi sd T) (by simp [eL, ltV, ordV, h])]
end
end T55

set_option Elab.async false
set_option linter.all false
set_option maxRecDepth 100000
namespace T55
open PySem Dn
abbrev bC1 : DS := (dIfS (dOr (dT (dOp neV (dArg reprV (dCons (dMeth "House" "accepted" 0 0 gD_House_accepted_1_ (gcall 1 D_House_accepted) (dVar 4) dNil dNil) dNil)) (dArg reprV (dCons (dVar 5) dNil)))) (dT (dOp neV (dMeth "House" "on" 0 0 gD_House_on_1_ (gcall 1 D_House_on) (dVar 4) dNil dNil) (dArg sortedV2 (dCons (dOp addV (dArg listV2 (dCons (dVar 6) dNil)) (dArg mkLst (dCons (dC (.str "zz")) dNil))) dNil))))) (dRet (dC (.bl false))) dNext)
abbrev bC2 : DS := (dIfS (dT (dOp neV (dArg (gcall 2 D__law_words_to) (dCons (dVar 12) (dCons (dC (.str "zz")) dNil))) (dLcL (dItm (dSl (dVar 5) (dPart (dVar 13)) dNoP)) (gN 15) dYes (dSl (dVar 15) (dPart (dC (.int 1))) (dPart (dC (.int 3)))) [15]))) (dRet (dC (.bl false))) dNext)
abbrev bFH : DS := (dIfS (dT (dOp ixV2 (dVar 15) (dC (.int 4)))) (dSeq (dAsg (dVar 14) (gIx2 (dVar 9) (dOp ixV2 (dVar 15) (dC (.int 1))))) (dIfS (dT (dOp eqV (dOp ixV2 (dVar 15) (dC (.int 2))) (dC (.str "")))) (dDrop (dPopD (dVar 9) (dOp ixV2 (dVar 15) (dC (.int 1))))) dNext)) dNext)
abbrev bC3 : DS := (dIfS (dT (dOp neV (dArg sortedV2 (dCons (dMeth "House" "kept" 0 0 gD_House_kept_1_ (gcall 1 D_House_kept) (dVar 4) dNil dNil) dNil)) (dArg sortedV2 (dCons (dLock (pkVar 9) (dLcL (dItm2 (dVar 9)) (gN 17) dYes (dArg mkTup (dCons (dVar 17) (dCons (dOp ixV2 (dVar 9) (dVar 17)) dNil))) [17])) dNil)))) (dRet (dC (.bl false))) dNext)

def Row.p (c : Str) (r : Row) : PyData := .tuple [.str c, .str r.name, .str r.text, .int 0, .bool r.kept]
theorem row_py (c : Str) (r : Row) : (r.d c).py = some (r.p c) := by simp [Row.d, Row.p, D.py, pys]
def Wp (rs : List (Str × Row)) : List PyData := rs.map fun p => p.2.p p.1
theorem rows_py : ∀ rs : List (Str × Row), pys (Wd rs) = some (Wp rs)
  | [] => rfl
  | p :: rs => by
    have ih := rows_py rs
    show (p.2.d p.1).py.bind (fun x => (pys (Wd rs)).map fun ps => x :: ps) = _
    rw [row_py, ih]
    rfl
theorem strOk_of {x : Str} (h : ∀ c ∈ x.cps.toList, c ≤ 122) : PyData.strOk x = true := by
  unfold PyData.strOk
  rw [Array.all_eq_true_iff_forall_mem]
  intro c hc
  have := h c (by simpa using hc)
  simp
  omega
theorem Low.le {x : Str} (h : Low x) : ∀ c ∈ x.cps.toList, c ≤ 122 := fun c hc => (h c hc).2
structure Fine (d : PyData) : Prop where
  lay : d.canLay0 = true
  dep : d.depth ≤ 1
  wei : d.weight ≤ 1100
  sho : d.showable = true
  sht : d.intsShort 13 = true
theorem row_fine {c : Str} {r : Row} (hc : c ∈ WHO) (hr : ROk r) : Fine (r.p c) := by
  obtain ⟨ls, ht⟩ := hr.top
  have h1 := strOk_of (who_ok hc).low.le
  have h2 := strOk_of ht.sgn
  have h3 := strOk_of hr.low.le
  have s1 := (who_ok hc).len
  have s2 := ht.sm
  have s3 := hr.len
  have z : (PyData.shown (.int 0)).length ≤ 13 := PyData.shown_int_le (by decide)
  refine ⟨by simp [Row.p, PyData.canLay0, PyData.canLayAll0, h1, h2, h3], by simp [Row.p, PyData.depth, PyData.depthAll], ?_, ?_, ?_⟩
  · simp only [Str.length] at s1 s2 s3
    simp [Row.p, PyData.weight, PyData.weightAll]
    omega
  · have : (0 : Int).natAbs.log2 < 1920 := by decide
    simp [Row.p, PyData.showable, PyData.showableAll]
  · simp [Row.p, PyData.intsShort, PyData.intsShortAll, z]
theorem fine_all : ∀ {ds : List PyData}, (∀ d ∈ ds, Fine d) → PyData.canLayAll0 ds = true ∧ PyData.depthAll ds ≤ 1 ∧ PyData.weightAll ds ≤ ds.length * 1101 ∧ PyData.showableAll ds = true ∧ PyData.intsShortAll 13 ds = true
  | [], _ => by simp [PyData.canLayAll0, PyData.depthAll, PyData.weightAll, PyData.showableAll, PyData.intsShortAll]
  | d :: ds, h => by
    have h1 := h d List.mem_cons_self
    obtain ⟨a1, a2, a3, a4, a5⟩ := fine_all (ds := ds) fun e he => h e (List.mem_cons_of_mem _ he)
    have b2 := h1.dep
    have b3 := h1.wei
    refine ⟨by simp [PyData.canLayAll0, h1.lay, a1], ?_, ?_, by simp [PyData.showableAll, h1.sho, a4], by simp [PyData.intsShortAll, h1.sht, a5]⟩
    · simp only [PyData.depthAll]
      omega
    · simp only [PyData.weightAll, List.length_cons, Nat.add_mul, Nat.one_mul]
      omega
section
variable {P T : Sto} {rs : List (Str × Row)} {se wi sd : Rows} {b : SO} {who : Str} {way : Int} {v : Option Row} {sc k x3 x8 x9 x10 x11 x12 x13 x14 x15 x16 x17 : Option D} {S : Sto}
theorem reprOk_rows (h : ∀ p ∈ rs, p.1 ∈ WHO ∧ ROk p.2) (hl : rs.length ≤ 100) : reprOk (.list (Wp rs)) = true := by
  obtain ⟨a1, a2, a3, a4, a5⟩ := fine_all (ds := Wp rs) fun d hd => by
    obtain ⟨p, hp, rfl⟩ := List.mem_map.mp hd
    exact row_fine (h p hp).1 (h p hp).2
  have hlen : (Wp rs).length = rs.length := by simp [Wp]
  have hc : (PyData.list (Wp rs)).canLay0 = true := by simp [PyData.canLay0, a1]
  have hlay : (PyData.list (Wp rs)).layable0 = true := by
    unfold PyData.layable0
    have : PyData.weightAll (Wp rs) ≤ 2 ^ 20 := by
      rw [hlen] at a3
      have : rs.length * 1101 ≤ 100 * 1101 := Nat.mul_le_mul_right _ hl
      omega
    simp [hc, PyData.depth, PyData.weight, this]
    omega
  have h1 := PyData.shown_le_of_layable0 hlay (by simp [PyData.intsShort, a5])
  have h2 := PyData.hasDict_of_canLay _ hc
  unfold reprOk
  have h3 : (PyData.list (Wp rs)).shown.length ≤ LIM := by unfold LIM; omega
  have h4 : (PyData.list (Wp rs)).depth ≤ 60 := by simp [PyData.depth]; omega
  simp [PyData.showable, a4, h2, h3, h4]
theorem on_perm (I : TI P rs se wi sd T) : ((wi.map (·.1))).Perm (sd.map (·.1) ++ [("zz" : Str)]) := by
  have hz : (Str.ofString "zz") ∉ sd.map (·.1) := fun h => by
    have := I.kd _ (ag_mem.mpr h)
    exact absurd this (by decide)
  rw [List.perm_ext_iff_of_nodup I.wn]
  · intro c
    rw [List.mem_append, ← ag_mem, ← ag_mem]
    by_cases h : c = "zz"
    · subst h
      simp [I.H.zw]
    · rw [I.eq c h]
      simp [h]
  · rw [List.nodup_append]
    refine ⟨I.sn, by simp, fun a ha b hb e => ?_⟩
    rw [List.mem_singleton] at hb
    subst hb
    exact hz (e ▸ ha)
theorem neV_same {d : D} {p : PyData} (hx : pyS S d = some p) (h : p.canLay0 = true) (hd : p.depth ≤ 64) : neV d d S = .ok (.bl false) S := by
  unfold neV
  rw [eq_self hx h hd]
  rfl
theorem canStr : ∀ {ss : List Str}, (∀ x ∈ ss, ∀ c ∈ x.cps.toList, c ≤ 122) → PyData.canLayAll0 (ss.map .str) = true
  | [], _ => rfl
  | x :: ss, h => by simp [PyData.canLayAll0, PyData.canLay0, strOk_of (h x List.mem_cons_self), canStr fun y hy => h y (List.mem_cons_of_mem _ hy)]
theorem strs_of_perm {ss : List Str} {l : List D} (h : l.Perm (ss.map .str)) : ∃ ts : List Str, l = ts.map .str ∧ ts.Perm ss := by
  have : ∀ l : List D, (∀ d ∈ l, ∃ x, d = D.str x) → ∃ ss : List Str, l = ss.map .str := fun l => by
    induction l with
    | nil => exact fun _ => ⟨[], rfl⟩
    | cons d l ih =>
      intro h
      obtain ⟨x, rfl⟩ := h d List.mem_cons_self
      obtain ⟨ss, rfl⟩ := ih fun e he => h e (List.mem_cons_of_mem _ he)
      exact ⟨x :: ss, rfl⟩
  obtain ⟨ts, rfl⟩ := this l fun d hd => by
    obtain ⟨x, _, rfl⟩ := List.mem_map.mp (h.mem_iff.mp hd)
    exact ⟨x, rfl⟩
  refine ⟨ts, rfl, ?_⟩
  have := List.Perm.map (fun d : D => match d with | .str x => x | _ => "") h
  simpa [Function.comp_def] using this
theorem check1 (I : TI P rs se wi sd T) (hl : rs.length ≤ 100) : bC1 (eL P sc k x3 x8 x9 x10 x11 x12 x13 x14 x15 x16 x17) (St P b rs se wi sd T) = .nx (eL P sc k x3 x8 x9 x10 x11 x12 x13 x14 x15 x16 x17) (St P b rs se wi sd T) := by
  have hr := reprOk_rows I.rk hl
  have a1 : gcall 1 D_House_accepted [.ref (hx P 1)] (St P b rs se wi sd T) = .ok (.lst (Wd rs)) (St P b rs se wi sd T) := by rw [gcall_eq]; exact accepted_ok
  have a2 : reprV [.lst (Wd rs)] (St P b rs se wi sd T) = .ok (.str (PyData.list (Wp rs)).shown) (St P b rs se wi sd T) := by
    simp [reprV, isCon, pyS, D.py, rows_py, hr]
  have a3 : reprV [.ref (hx P 6)] (St P b rs se wi sd T) = .ok (.str (PyData.list (Wp rs)).shown) (St P b rs se wi sd T) := by
    simp [reprV, isCon, pyS, St, rows_py, hr]
  have a4 : gcall 1 D_House_on [.ref (hx P 1)] (St P b rs se wi sd T) = .ok (.lst (sortD ((wi.map (·.1)).map .str))) (St P b rs se wi sd T) := by rw [gcall_eq]; exact on_ok
  have a5 : listV2 [.ref (hx P 7)] (St P b rs se wi sd T) = .ok (.lst ((sd.map (·.1)).map .str)) (St P b rs se wi sd T) := by
    rw [keys_rows (show (St P b rs se wi sd T)[hx P 7]? = some (dO sd) from get_7), keysS_rows]
  have hdl := I.dl
  have a6 : addV (.lst ((sd.map (·.1)).map .str)) (.lst [.str "zz"]) (St P b rs se wi sd T) = .ok (.lst ((sd.map (·.1) ++ [("zz" : Str)]).map .str)) (St P b rs se wi sd T) := by
    have : LIMS (sd.length + 1) = true := decide_eq_true (by unfold LIM; omega)
    simp [addV, lstS, this]
  have a7 : sortedV2 [.lst ((sd.map (·.1) ++ [("zz" : Str)]).map .str)] (St P b rs se wi sd T) = .ok (.lst (sortD ((wi.map (·.1)).map .str))) (St P b rs se wi sd T) := by
    rw [sort_strs, sortD_eq (anti_str _) ((on_perm I).symm.map D.str)]
  obtain ⟨ts, h1, h2⟩ := strs_of_perm (sortD_perm ((wi.map (·.1)).map .str))
  have hts : ∀ x ∈ ts, ∀ c ∈ x.cps.toList, c ≤ 122 := fun x hx => by
    have h3 := I.ks x (I.H.sub x (ag_mem.mpr (h2.mem_iff.mp hx)))
    rcases List.mem_cons.mp h3 with rfl | h3
    · exact (lit_low "zz" (by decide)).le
    · exact (who_ok h3).low.le
  have a8 : neV (.lst (sortD ((wi.map (·.1)).map .str))) (.lst (sortD ((wi.map (·.1)).map .str))) (St P b rs se wi sd T) = .ok (.bl false) (St P b rs se wi sd T) := by
    rw [h1]
    refine neV_same (p := .list (ts.map .str)) (by simp [pyS, D.py, pys_str]) (by simp [PyData.canLay0, canStr hts]) (by simp [PyData.depth, depth_str])
  have i1 : isIns "House" "accepted" (St P b rs se wi sd T) (.ref (hx P 1)) = true := is_accepted
  have i2 : isIns "House" "on" (St P b rs se wi sd T) (.ref (hx P 1)) = true := is_on
  have a9 : mkLst [.str "zz"] (St P b rs se wi sd T) = .ok (.lst [.str "zz"]) (St P b rs se wi sd T) := by simp [mkLst, LIM]
  unfold bC1
  rw [if_no (S1 := St P b rs se wi sd T)]
  · rfl
  · simp only [e_or, e_t, e_op, e_arg, e_cons, e_nil, e_meth, e_var, eL, List.getElem?_cons_succ, List.getElem?_cons_zero, bind_ok, i1, i2, if_true, gD_House_accepted_1_, gD_House_on_1_, gcall_eq, a1, a2, a3, a4, a5, ness, decide_true, Bool.not_true, as_bl, List.length_nil, and_self, Bool.false_eq_true, if_false, a9, a6, a7, a8, e_c]
def nm (o : Option Row) : List D := (o.map fun r => D.tup [.str r.name, .str r.text]).toList
theorem slice_pub {a b c d e f : D} : sliV (.tup [a, b, c, d, e, f]) (some 2) (some 4) S = .ok (.tup [c, d]) S := rfl
theorem words_lc {C : Sto → Bool} (hC : C S = true) {R : D} {o : Option Row} {L : List D} (hw : who ∈ WHO) (hL : L = [] ∨ ∃ kn, L = [accRow who kn]) :
    lcGo C (gT [(gN 2), (gN 3)]) (dAnd (dT (dOp eqV (dVar 2) (dVar 1))) (dT (dOp eqV (dOp ixV2 (dVar 3) (dC (.int 0))) (dC (.str "publish"))))) (dSl (dVar 3) (dPart (dC (.int 2))) (dPart (dC (.int 4)))) [some R, some (.str "zz"), none, none] (pubs o ++ L) [] S = .ok (nm o) S := by
  have hz := (who_ok hw).nz
  have h1 : ∀ (acc : List D), acc.length < 5 → lcGo C (gT [(gN 2), (gN 3)]) (dAnd (dT (dOp eqV (dVar 2) (dVar 1))) (dT (dOp eqV (dOp ixV2 (dVar 3) (dC (.int 0))) (dC (.str "publish"))))) (dSl (dVar 3) (dPart (dC (.int 2))) (dPart (dC (.int 4)))) [some R, some (.str "zz"), none, none] L acc S = .ok acc S := fun acc ha => by
    rcases hL with rfl | ⟨kn, rfl⟩
    · simp [lcGo, hC]
    · simp [lcGo, hC, accRow, gT, unpk, gN, hz]
  cases o with
  | none => simpa [pubs, nm] using h1 [] (by decide)
  | some r =>
    show lcGo _ _ _ _ _ (r.pub :: L) [] S = _
    have h2 := h1 [.tup [.str r.name, .str r.text]] (by simp)
    unfold lcGo
    simp [hC, Row.pub, gT, unpk, gN, dSl, dPart, oInt, slice_pub, LIM, h2, nm]
theorem words_ok {R : D} {o : Option Row} {L : List D} (hR : RowsAt P T R (pubs o ++ L)) (hw : who ∈ WHO) (hL : L = [] ∨ ∃ kn, L = [accRow who kn]) :
    gcall 2 D__law_words_to [R, .str "zz"] (St P b rs se wi sd T) = .ok (.lst (nm o)) (St P b rs se wi sd T) := by
  rw [gcall_eq]
  rcases hR with rfl | ⟨j, rfl, hj⟩
  · have := words_lc (S := St P b rs se wi sd T) (C := any_) rfl (R := .lst (pubs o ++ L)) (o := o) hw hL
    simp [D__law_words_to, fnD_eq, dLcL, dLc, dItm, wpe, any_, this]
  · have hg : (St P b rs se wi sd T)[tx P j]? = some (.lst (pubs o ++ L)) := by unfold St; rw [get_t]; exact hj
    have hC : sameL (tx P j) (pubs o ++ L) (St P b rs se wi sd T) = true := by
      unfold sameL
      rw [hg]
      exact beqs_refl _
    have := words_lc (S := St P b rs se wi sd T) (C := sameL (tx P j) (pubs o ++ L)) hC (R := .ref (tx P j)) (o := o) hw hL
    simp [D__law_words_to, fnD_eq, dLcL, dLc, dItm, wpe, itm, hg, this]
theorem cut_end {W W2 : List D} : cutD (W ++ W2) (some (W.length : Int)) none = W2 := by
  unfold cutD
  rw [HT.sIx_nat, HT.sIx_none]
  have : min W.length (W ++ W2).length = W.length := by simp
  rw [this]
  simp
theorem slice_row {a b c d e : D} : sliV (.tup [a, b, c, d, e]) (some 1) (some 3) S = .ok (.tup [b, c]) S := rfl
theorem nm_lay {o : Option Row} (h : ∀ r, o = some r → ROk r) : ∃ p, pyS S (.lst (nm o)) = some p ∧ p.canLay0 = true ∧ p.depth ≤ 64 := by
  cases o with
  | none => exact ⟨.list [], rfl, rfl, by decide⟩
  | some r =>
    have hr := h r rfl
    obtain ⟨ls, ht⟩ := hr.top
    exact ⟨.list [.tuple [.str r.name, .str r.text]], by simp [nm, pyS, D.py, pys], by simp [PyData.canLay0, PyData.canLayAll0, strOk_of ht.sgn, strOk_of hr.low.le], by simp [PyData.depth, PyData.depthAll]⟩
theorem check2 {R : D} {o : Option Row} {L : List D} {n : Nat} (hR : RowsAt P T R (pubs o ++ L)) (hw : who ∈ WHO) (hL : L = [] ∨ ∃ kn, L = [accRow who kn]) (ho : ∀ r, o = some r → ROk r) (hn : n = rs.length) :
    bC2 (eL P sc k x3 x8 x9 x10 x11 (some R) (some (.int n)) x14 x15 x16 x17) (St P b (rs ++ addR who o) se wi sd T) = .nx (eL P sc k x3 x8 x9 x10 x11 (some R) (some (.int n)) x14 x15 x16 x17) (St P b (rs ++ addR who o) se wi sd T) := by
  have a1 := words_ok (b := b) (rs := rs ++ addR who o) (se := se) (wi := wi) (sd := sd) hR hw hL
  obtain ⟨p, h1, h2, h3⟩ := nm_lay (S := St P b (rs ++ addR who o) se wi sd T) ho
  have a2 := neV_same h1 h2 h3
  have a3 : sliV (.ref (hx P 6)) (some (n : Int)) none (St P b (rs ++ addR who o) se wi sd T) = .ok (.lst (acc who o)) (St P b (rs ++ addR who o) se wi sd T) := by
    have hl : (Wd rs).length = n := by rw [hn]; simp [Wd]
    have := cut_end (W := Wd rs) (W2 := acc who o)
    rw [hl] at this
    simp [sliV, seqL, St, wd_add, this]
  have a4 : lcGo any_ (gN 15) dYes (dSl (dVar 15) (dPart (dC (.int 1))) (dPart (dC (.int 3)))) ((eL P sc k x3 x8 x9 x10 x11 (some R) (some (.int n)) x14 x15 x16 x17).set 15 none) (acc who o) [] (St P b (rs ++ addR who o) se wi sd T) = .ok (nm o) (St P b (rs ++ addR who o) se wi sd T) := by
    cases o with
    | none => simp [acc, lcGo, any_, nm]
    | some r => simp [acc, lcGo, any_, nm, eL, gN, dYes, Row.d, dSl, dPart, oInt, slice_row, LIM]
  unfold bC2
  rw [if_no (S1 := St P b (rs ++ addR who o) se wi sd T)]
  · rfl
  · have a5 : (dLcL (dItm (dSl (dVar 5) (dPart (dVar 13)) dNoP)) (gN 15) dYes (dSl (dVar 15) (dPart (dC (.int 1))) (dPart (dC (.int 3)))) [15]) (eL P sc k x3 x8 x9 x10 x11 (some R) (some (.int n)) x14 x15 x16 x17) (St P b (rs ++ addR who o) se wi sd T) = .ok (.lst (nm o)) (St P b (rs ++ addR who o) se wi sd T) := by
      have a6 : (dItm (dSl (dVar 5) (dPart (dVar 13)) dNoP)) (eL P sc k x3 x8 x9 x10 x11 (some R) (some (.int n)) x14 x15 x16 x17) (St P b (rs ++ addR who o) se wi sd T) = .ok (acc who o, any_) (St P b (rs ++ addR who o) se wi sd T) := by
        simp [dItm, dSl, dPart, dNoP, eL, oInt, a3]
      unfold dLcL dLc
      rw [a6]
      simp only [bind_ok, wpe]
      rw [a4]
      rfl
    have a7 : (dArg (gcall 2 D__law_words_to) (dCons (dVar 12) (dCons (dC (.str "zz")) dNil))) (eL P sc k x3 x8 x9 x10 x11 (some R) (some (.int n)) x14 x15 x16 x17) (St P b (rs ++ addR who o) se wi sd T) = .ok (.lst (nm o)) (St P b (rs ++ addR who o) se wi sd T) := by
      simp [eL, a1]
    rw [e_t, e_op, a7, bind_ok, a5, bind_ok, a2]
    rfl
end
end T55

set_option Elab.async false
set_option linter.all false
set_option maxRecDepth 100000
namespace T55
open PySem Dn
/-- rows of kept words -/
structure KO (ke : Rows) : Prop where
  row : ∀ p ∈ ke, (∃ i : Int, p.2 = .int i) ∧ (∀ c ∈ p.1.cps.toList, c ≤ 122) ∧ p.1.length ≤ 1000
  nd : (ke.map (·.1)).Nodup
theorem KO.up {ke : Rows} {r : Row} {n : Nat} (h : KO ke) (hr : ROk r) : KO (keptUp ke r n) := by
  obtain ⟨ls, ht⟩ := hr.top
  have h1 : KO (ap ke r.name (.int n)) := ⟨fun p hp => by
    rcases mem_ap hp with rfl | hp
    · exact ⟨⟨n, rfl⟩, ht.sgn, ht.sm⟩
    · exact h.row p hp, ap_nodup h.nd⟩
  unfold keptUp
  split
  · split
    · exact ⟨fun p hp => h1.row p (mem_ad hp), ad_nodup h1.nd⟩
    · exact h1
  · exact h
theorem KO.from : ∀ {rs : List (Str × Row)} {n : Nat} {ke : Rows}, KO ke → (∀ p ∈ rs, p.1 ∈ WHO ∧ ROk p.2) → KO (keptFrom n ke rs)
  | [], _, _, h, _ => h
  | p :: rs, n, ke, h, hr => KO.from (rs := rs) (h.up (hr p List.mem_cons_self).2) fun q hq => hr q (List.mem_cons_of_mem _ hq)
theorem KO.nil : KO [] := ⟨by simp, List.nodup_nil⟩
theorem KO.ints {ke : Rows} (h : KO ke) : ∃ m : List (Str × Int), ke = m.map fun r => (r.1, D.int r.2) := by
  have : ∀ l : Rows, (∀ p ∈ l, ∃ i : Int, p.2 = .int i) → ∃ m : List (Str × Int), l = m.map fun r => (r.1, D.int r.2) := fun l => by
    induction l with
    | nil => exact fun _ => ⟨[], rfl⟩
    | cons p l ih =>
      intro h
      obtain ⟨i, hi⟩ := h p List.mem_cons_self
      obtain ⟨m, rfl⟩ := ih fun q hq => h q (List.mem_cons_of_mem _ hq)
      exact ⟨(p.1, i) :: m, by rw [List.map_cons, ← hi]⟩
  exact this ke fun p hp => (h.row p hp).1
section
variable {P T : Sto} {rs : List (Str × Row)} {se wi sd ke : Rows} {b w s l k u t : SO} {who : Str} {way : Int} {v : Option Row} {sc kk x3 x8 x9 x10 x11 x12 x13 x14 x15 x16 x17 : Option D} {S : Sto}
theorem held_loop {C : Sto → Bool} (hC : ∀ T, C (sto P b w s l k u t T) = true) : ∀ (rs : List (Str × Row)) (n : Nat) (ke : Rows) (x14 x15 : Option D), ke.length + rs.length ≤ 1000 →
    ∃ y14 y15, forGo C (gT [(gN 14), (gN 15)]) bFH (enumD n (Wd rs)) (eL P sc kk x3 x8 (some (.ref (tx P T.length))) x10 x11 x12 x13 x14 x15 x16 x17) (sto P b w s l k u t (T ++ [dO ke])) = .nx (eL P sc kk x3 x8 (some (.ref (tx P T.length))) x10 x11 x12 x13 y14 y15 x16 x17) (sto P b w s l k u t (T ++ [dO (keptFrom n ke rs)]))
  | [], n, ke, x14, x15, _ => ⟨x14, x15, by simp [Wd, enumD, forGo, hC, keptFrom]⟩
  | p :: rs, n, ke, x14, x15, hl => by
    have hl' : ke.length + (rs.length + 1) ≤ 1000 := hl
    have hu := keptUp_len ke p.2 n
    obtain ⟨y14, y15, ih⟩ := held_loop hC rs (n + 1) (keptUp ke p.2 n) (some (.int n)) (some (p.2.d p.1)) (by omega)
    refine ⟨y14, y15, ?_⟩
    have e1 : enumD n (Wd (p :: rs)) = .tup [.int n, p.2.d p.1] :: enumD (n + 1) (Wd rs) := rfl
    have g0 : ∀ ke, (sto P b w s l k u t (T ++ [dO ke]))[tx P T.length]? = some (dO ke) := fun ke => by rw [get_t, mid_0]
    have b3 : ∀ (env : Dn.Env), setIx2 (.ref (tx P T.length)) (.str p.2.name) (.int n) env (sto P b w s l k u t (T ++ [dO ke])) = .nx env (sto P b w s l k u t (T ++ [dO (ap ke p.2.name (.int n))])) := fun env => by
      rw [set_rows (g0 ke) (by unfold LIM; omega), set_t, mid_s0]
    have b4 : popDV (.ref (tx P T.length)) (.str p.2.name) (sto P b w s l k u t (T ++ [dO (ap ke p.2.name (.int n))])) = .ok (.int n) (sto P b w s l k u t (T ++ [dO (ad (ap ke p.2.name (.int n)) p.2.name)])) := by
      rw [popd_rows (g0 _) (d := .int n) (by rw [ag_ap]; simp), set_t, mid_s0]
    have b5 : isDct (sto P b w s l k u t (T ++ [dO (ap ke p.2.name (.int n))])) (.ref (tx P T.length)) = true := isDct_rows (g0 _)
    rw [e1]
    unfold forGo
    rw [if_pos (hC _)]
    have e2 : gT [gN 14, gN 15] (.tup [.int n, p.2.d p.1]) (eL P sc kk x3 x8 (some (.ref (tx P T.length))) x10 x11 x12 x13 x14 x15 x16 x17) (sto P b w s l k u t (T ++ [dO ke])) = .nx (eL P sc kk x3 x8 (some (.ref (tx P T.length))) x10 x11 x12 x13 (some (.int n)) (some (p.2.d p.1)) x16 x17) (sto P b w s l k u t (T ++ [dO ke])) := by
      simp [gT, unpk, gN, eL]
    rw [e2]
    have e3 : bFH (eL P sc kk x3 x8 (some (.ref (tx P T.length))) x10 x11 x12 x13 (some (.int n)) (some (p.2.d p.1)) x16 x17) (sto P b w s l k u t (T ++ [dO ke])) = .nx (eL P sc kk x3 x8 (some (.ref (tx P T.length))) x10 x11 x12 x13 (some (.int n)) (some (p.2.d p.1)) x16 x17) (sto P b w s l k u t (T ++ [dO (keptUp ke p.2 n)])) := by
      cases hq : p.2.kept with
      | false => simp [bFH, eL, Row.d, hq, keptUp]
      | true =>
        by_cases hx' : p.2.text = ""
        · simp [bFH, eL, Row.d, hq, keptUp, dAsg, gIx2, b3, onlyG, hx', dPopD, b5, b4]
        · simp [bFH, eL, Row.d, hq, keptUp, dAsg, gIx2, b3, onlyG, hx']
    simp only [e3]
    rw [ih]
    rfl
def pairD (r : Str × Int) : D := .tup [.str r.1, .int r.2]
theorem pairs_of_perm {m : List (Str × Int)} {L : List D} (h : L.Perm (m.map pairD)) : ∃ m' : List (Str × Int), L = m'.map pairD := by
  have : ∀ l : List D, (∀ d ∈ l, ∃ x, d = pairD x) → ∃ ss : List (Str × Int), l = ss.map pairD := fun l => by
    induction l with
    | nil => exact fun _ => ⟨[], rfl⟩
    | cons d l ih =>
      intro h
      obtain ⟨x, rfl⟩ := h d List.mem_cons_self
      obtain ⟨ss, rfl⟩ := ih fun e he => h e (List.mem_cons_of_mem _ he)
      exact ⟨x :: ss, rfl⟩
  refine this L fun d hd => ?_
  obtain ⟨x, _, rfl⟩ := List.mem_map.mp (h.mem_iff.mp hd)
  exact ⟨x, rfl⟩
theorem sort_pairs {m : List (Str × Int)} {L : List D} (h : L.Perm (m.map pairD)) : sortedV2 [.lst L] S = .ok (.lst (sortD (m.map pairD))) S := by
  obtain ⟨m', rfl⟩ := pairs_of_perm h
  show sortedV [.lst (m'.map pairD)] S = _
  unfold sortedV
  have h1 : sortOk (m'.map pairD) = true := sortOk_pair m'
  simp only [seqL, h1, if_true]
  rw [sortD_eq (anti_pair m) h]
  rfl
theorem lock_ok (hk : ke.length ≤ 1000) (hn : (ke.map (·.1)).Nodup) : (dLock (pkVar 9) (dLcL (dItm2 (dVar 9)) (gN 17) dYes (dArg mkTup (dCons (dVar 17) (dCons (dOp ixV2 (dVar 9) (dVar 17)) dNil))) [17])) (eL P sc kk x3 x8 (some (.ref (tx P T.length))) x10 x11 x12 x13 x14 x15 x16 x17) (sto P b w s l k u t (T ++ [dO ke])) = .ok (.lst (ke.map fun r => .tup [.str r.1, r.2])) (sto P b w s l k u t (T ++ [dO ke])) := by
  have h0 : pkVar 9 (eL P sc kk x3 x8 (some (.ref (tx P T.length))) x10 x11 x12 x13 x14 x15 x16 x17) (sto P b w s l k u t (T ++ [dO ke])) = some (tx P T.length) := rfl
  have g0 : (sto P b w s l k u t (T ++ [dO ke]))[tx P T.length]? = some (.dct (ke.map fun r => .str r.1) (ke.map (·.2))) := by rw [get_t, mid_0]; rfl
  have g1 : (sto P b w s l k u t (T ++ [.frd (ke.map fun r => .str r.1) (ke.map (·.2))]))[tx P T.length]? = some (.frd (ke.map fun r => .str r.1) (ke.map (·.2))) := by rw [get_t, mid_0]
  have h2 : dItm2 (dVar 9) (eL P sc kk x3 x8 (some (.ref (tx P T.length))) x10 x11 x12 x13 x14 x15 x16 x17) (sto P b w s l k u t (T ++ [.frd (ke.map fun r => .str r.1) (ke.map (·.2))])) = .ok (ke.map (fun r => .str r.1), any_) (sto P b w s l k u t (T ++ [.frd (ke.map fun r => .str r.1) (ke.map (·.2))])) := by
    show itm2 (.ref (tx P T.length)) _ = _
    unfold itm2
    simp only [g1, plain_rows, if_true]
  have h3 : lcGo any_ (gN 17) dYes (dArg mkTup (dCons (dVar 17) (dCons (dOp ixV2 (dVar 9) (dVar 17)) dNil))) (wpe (eL P sc kk x3 x8 (some (.ref (tx P T.length))) x10 x11 x12 x13 x14 x15 x16 x17) [17]) (ke.map fun r => .str r.1) [] (sto P b w s l k u t (T ++ [.frd (ke.map fun r => .str r.1) (ke.map (·.2))])) = .ok ([] ++ (ke.map fun r => D.str r.1).map (prD ke)) (sto P b w s l k u t (T ++ [.frd (ke.map fun r => .str r.1) (ke.map (·.2))])) := by
    refine lcGo_map (f := prD ke) _ [] (by simp; unfold LIM; omega) fun d hd => ?_
    obtain ⟨r, hr, rfl⟩ := List.mem_map.mp hd
    have h5 : ag ke r.1 = some r.2 := ag_of_mem hn (show (r.1, r.2) ∈ ke from hr)
    have h6 : dK_of (sto P b w s l k u t (T ++ [.frd (ke.map fun r => .str r.1) (ke.map (·.2))])) (.ref (tx P T.length)) = some (ke.map (fun r => .str r.1), ke.map (·.2)) := by
      unfold dK_of dctS
      simp only [g1, plain_rows, if_true]
    have h4 : ixV2 (.ref (tx P T.length)) (.str r.1) (sto P b w s l k u t (T ++ [.frd (ke.map fun r => .str r.1) (ke.map (·.2))])) = .ok r.2 (sto P b w s l k u t (T ++ [.frd (ke.map fun r => .str r.1) (ke.map (·.2))])) := by
      unfold ixV2
      simp only [h6, keyD, Option.bind_some, getK_rows, h5]
    have h7 : prD ke (.str r.1) = .tup [.str r.1, r.2] := by
      show D.tup [.str r.1, (ag ke r.1).getD .non] = _
      rw [h5]
      rfl
    rw [h7]
    simp [eL, wpe, h4, mkTup, LIM]
  have h8 : (ke.map fun r => D.str r.1).map (prD ke) = ke.map fun r => .tup [.str r.1, r.2] := by
    rw [List.map_map]
    refine List.map_congr_left fun r hr => ?_
    show D.tup [.str r.1, (ag ke r.1).getD .non] = _
    rw [ag_of_mem hn (show (r.1, r.2) ∈ ke from hr)]
    rfl
  unfold dLock
  simp only [h0, g0, plain_rows, if_true, set_t, mid_s0]
  unfold dLcL dLc
  rw [h2, bind_ok, h3, bind_ok, List.nil_append, h8]
  show freeD _ _ _ = _
  unfold freeD
  simp only [g1, set_t, mid_s0]
  rfl
theorem canPair : ∀ {m : List (Str × Int)}, (∀ p ∈ m, ∀ c ∈ p.1.cps.toList, c ≤ 122) → pys (m.map pairD) = some (m.map fun r => .tuple [.str r.1, .int r.2]) ∧ PyData.canLayAll0 (m.map fun r => .tuple [.str r.1, .int r.2]) = true ∧ PyData.depthAll (m.map fun r => .tuple [.str r.1, .int r.2]) ≤ 1
  | [], _ => ⟨rfl, rfl, by decide⟩
  | p :: m, h => by
    obtain ⟨h1, h2, h3⟩ := canPair (m := m) fun q hq => h q (List.mem_cons_of_mem _ hq)
    refine ⟨by simp [pys, pairD, D.py]; exact h1, by simp [PyData.canLayAll0, PyData.canLay0, strOk_of (h p List.mem_cons_self)]; exact h2, ?_⟩
    simp only [List.map_cons, PyData.depthAll, PyData.depth]
    omega
theorem check3 (hk : KO ke) (hl : ke.length ≤ 1000) : bC3 (eL P sc kk x3 x8 (some (.ref (tx P T.length))) x10 x11 x12 x13 x14 x15 x16 x17) (sto P b w s l (dO ke) u t (T ++ [dO ke])) = .nx (eL P sc kk x3 x8 (some (.ref (tx P T.length))) x10 x11 x12 x13 x14 x15 x16 x17) (sto P b w s l (dO ke) u t (T ++ [dO ke])) := by
  obtain ⟨m, hm⟩ := hk.ints
  have hp : (ke.map fun r => D.tup [.str r.1, r.2]) = m.map pairD := by
    rw [hm, List.map_map]
    rfl
  obtain ⟨L, h1, h2⟩ := kept_ok (P := P) (T := T ++ [dO ke]) (a := b) (w := w) (s := s) (l := l) (u := u) (t := t) (ke := ke) (fun x hx => by
    obtain ⟨p, hp, rfl⟩ := List.mem_map.mp hx
    exact (hk.row p hp).2.2) hk.nd hl
  rw [hp] at h2
  have h3 := lock_ok (P := P) (T := T) (b := b) (w := w) (s := s) (l := l) (k := dO ke) (u := u) (t := t) (sc := sc) (kk := kk) (x3 := x3) (x8 := x8) (x10 := x10) (x11 := x11) (x12 := x12) (x13 := x13) (x14 := x14) (x15 := x15) (x16 := x16) (x17 := x17) hl hk.nd
  rw [hp] at h3
  have h4 : gcall 1 D_House_kept [.ref (hx P 1)] (sto P b w s l (dO ke) u t (T ++ [dO ke])) = .ok (.lst L) (sto P b w s l (dO ke) u t (T ++ [dO ke])) := by rw [gcall_eq]; exact h1
  have h5 := sort_pairs (S := sto P b w s l (dO ke) u t (T ++ [dO ke])) h2
  have h6 := sort_pairs (S := sto P b w s l (dO ke) u t (T ++ [dO ke])) (List.Perm.refl (m.map pairD))
  obtain ⟨m', hm'⟩ := pairs_of_perm (sortD_perm (m.map pairD))
  have hs : ∀ p ∈ m', ∀ c ∈ p.1.cps.toList, c ≤ 122 := fun p hp' => by
    have hin : pairD p ∈ m.map pairD := (sortD_perm (m.map pairD)).mem_iff.mp (by rw [hm']; exact List.mem_map_of_mem hp')
    obtain ⟨q, hq, e⟩ := List.mem_map.mp hin
    have e1 : q.1 = p.1 := by
      unfold pairD at e
      injection e with e
      injection e with e _
      injection e
    rw [← e1]
    have hq2 : (q.1, D.int q.2) ∈ ke := by rw [hm]; exact List.mem_map.mpr ⟨q, hq, rfl⟩
    exact (hk.row _ hq2).2.1
  obtain ⟨c1, c2, c3⟩ := canPair hs
  have h7 : neV (.lst (sortD (m.map pairD))) (.lst (sortD (m.map pairD))) (sto P b w s l (dO ke) u t (T ++ [dO ke])) = .ok (.bl false) (sto P b w s l (dO ke) u t (T ++ [dO ke])) := by
    rw [hm']
    exact neV_same (p := .list (m'.map fun r => .tuple [.str r.1, .int r.2])) (by simp [pyS, D.py, c1]) (by simp only [PyData.canLay0]; exact c2) (by simp only [PyData.depth]; omega)
  unfold bC3
  rw [if_no (S1 := sto P b w s l (dO ke) u t (T ++ [dO ke]))]
  · rfl
  · have h8 : (dArg sortedV2 (dCons (dMeth "House" "kept" 0 0 gD_House_kept_1_ (gcall 1 D_House_kept) (dVar 4) dNil dNil) dNil)) (eL P sc kk x3 x8 (some (.ref (tx P T.length))) x10 x11 x12 x13 x14 x15 x16 x17) (sto P b w s l (dO ke) u t (T ++ [dO ke])) = .ok (.lst (sortD (m.map pairD))) (sto P b w s l (dO ke) u t (T ++ [dO ke])) := by
      simp [eL, e_meth, gD_House_kept_1_, h4, h5]
    rw [e_t, e_op, h8, bind_ok, e_arg, e_cons, h3, bind_ok, e_nil, bind_ok, bind_ok, h6, bind_ok, h7]
    rfl
end
end T55

set_option Elab.async false
set_option linter.all false
set_option maxRecDepth 100000
namespace T55
open PySem Dn
abbrev bBx : DS := (dSeq (dSet 5 (dOp modV (dOp addV (dOp addV (dOp mulV (dOp modV (dVar 2) (dC (.int 2147483647))) (dC (.int 48271))) (dOp mulV (dC (.int 7919)) (dVar 4))) (dC (.int 1))) (dC (.int 2147483647)))) (dSeq (dSet 5 (dOp modV (dOp mulV (dVar 5) (dVar 5)) (dC (.int 2147483629)))) (dSet 3 (dOp addV (dOp mulV (dVar 3) (dC (.int 2147483647))) (dOp modV (dOp mulV (dVar 5) (dOp addV (dVar 5) (dC (.int 13)))) (dC (.int 2147483647)))))))
abbrev bBt : DS := (dSeq (dIfS (dT (dOp eqV (dOp modV (dVar 2) (dC (.int 2))) (dC (.int 0)))) (dRet (dArg mkLstM (dCons (dOp divV (dVar 2) (dC (.int 2))) (dCons (dOp modV (dArg absV (dCons (dVar 2) dNil)) (dC (.int 2147483647))) dNil)))) dNext) (dSeq (dSet 3 (dC (.int 0))) (dSeq (dFor (dArg rng1 (dCons (dC (.int 16)) dNil)) (gN 4) (dSeq (dSet 5 (dOp modV (dOp addV (dOp addV (dOp mulV (dOp modV (dVar 2) (dC (.int 2147483647))) (dC (.int 48271))) (dOp mulV (dC (.int 7919)) (dVar 4))) (dC (.int 1))) (dC (.int 2147483647)))) (dSeq (dSet 5 (dOp modV (dOp mulV (dVar 5) (dVar 5)) (dC (.int 2147483629)))) (dSet 3 (dOp addV (dOp mulV (dVar 3) (dC (.int 2147483647))) (dOp modV (dOp mulV (dVar 5) (dOp addV (dVar 5) (dC (.int 13)))) (dC (.int 2147483647)))))))) (dRet (dArg mkLstM (dCons (dVar 3) (dCons (dOp modV (dArg absV (dCons (dVar 2) dNil)) (dC (.int 2147483647))) dNil)))))))

theorem fmod_bd (x : Int) {m : Int} (h : 0 < m) : 0 ≤ x.fmod m ∧ x.fmod m < m := ⟨Int.fmod_nonneg_of_pos x h, Int.fmod_lt_of_pos x h⟩
theorem box_step (D0 : D) (k h q i : Int) (x : Option D) (S : Sto) : ∃ q' y, bBx [some D0, some (.int k), some (.int h), some (.int q), some (.int i), x] S = .nx [some D0, some (.int k), some (.int h), some (.int q'), some (.int i), y] S := by
  have m1 : mulOk (h.fmod 2147483647) 48271 = true := decide_eq_true (.inr (by decide))
  have m2 : mulOk 7919 i = true := decide_eq_true (.inl (by decide))
  generalize hp : ((h.fmod 2147483647 * 48271 + 7919 * i + 1).fmod 2147483647) = p
  have hb := fmod_bd (h.fmod 2147483647 * 48271 + 7919 * i + 1) (m := 2147483647) (by decide)
  rw [hp] at hb
  have m3 : mulOk p p = true := decide_eq_true (.inl ⟨by omega, by omega⟩)
  generalize hr : (p * p).fmod 2147483629 = r
  have hb2 := fmod_bd (p * p) (m := 2147483629) (by decide)
  rw [hr] at hb2
  have m4 : mulOk r (r + 13) = true := decide_eq_true (.inl ⟨by omega, by omega⟩)
  have m5 : mulOk q 2147483647 = true := decide_eq_true (.inr (by decide))
  exact ⟨q * 2147483647 + (r * (r + 13)).fmod 2147483647, some (.int r), by simp [bBx, modV, int2, mulV, m1, m2, addV, hp, m3, hr, m4, m5]⟩
theorem box_loop (D0 : D) (k h : Int) (S : Sto) : ∀ (ds : List D) (q : Int) (x4 x5 : Option D), (∀ d ∈ ds, ∃ i : Int, d = .int i) → ∃ q' y4 y5, forGo any_ (gN 4) bBx ds [some D0, some (.int k), some (.int h), some (.int q), x4, x5] S = .nx [some D0, some (.int k), some (.int h), some (.int q'), y4, y5] S
  | [], q, x4, x5, _ => ⟨q, x4, x5, rfl⟩
  | d :: ds, q, x4, x5, hd => by
    obtain ⟨i, rfl⟩ := hd d List.mem_cons_self
    obtain ⟨q1, y, h1⟩ := box_step D0 k h q i x5 S
    obtain ⟨q2, y4, y5, h2⟩ := box_loop D0 k h S ds q1 (some (.int i)) y fun z hz => hd z (List.mem_cons_of_mem _ hz)
    refine ⟨q2, y4, y5, ?_⟩
    unfold forGo
    rw [if_pos rfl]
    show (match bBx [some D0, some (.int k), some (.int h), some (.int q), some (.int i), x5] S with | .nx e2 S2 => _ | .cnt e2 S2 => _ | .brk e2 S2 => _ | r => _) = _
    rw [h1]
    exact h2
theorem box_tail (D0 : D) (k h : Int) (S : Sto) : ∃ i j : Int, outD (bBt [some D0, some (.int k), some (.int h), none, none, none] S) = .ok (.ref S.length) (S ++ [.lst [.int i, .int j]]) := by
  by_cases hz : h.fmod 2 = 0
  · refine ⟨h.fdiv 2, (if h < 0 then -h else h).fmod 2147483647, ?_⟩
    simp [bBt, modV, int2, hz, divV, absV, mkLstM, LIM]
  · obtain ⟨q, y4, y5, h1⟩ := box_loop D0 k h S (rngD 0 16) 0 none none fun d hd => by
      obtain ⟨n, _, rfl⟩ := List.mem_map.mp hd
      exact ⟨_, rfl⟩
    refine ⟨q, (if h < 0 then -h else h).fmod 2147483647, ?_⟩
    have h2 : (dFor (dArg rng1 (dCons (dC (.int 16)) dNil)) (gN 4) bBx) [some D0, some (.int k), some (.int h), some (.int 0), none, none] S = .nx [some D0, some (.int k), some (.int h), some (.int q), y4, y5] S := by
      show forGo any_ (gN 4) bBx (rngD 0 16) _ S = _
      exact h1
    unfold bBt
    rw [s_seq, if_no (S1 := S) (by simp [modV, int2, hz])]
    show outD (dSeq (dSet 3 (dC (.int 0))) (dSeq (dFor (dArg rng1 (dCons (dC (.int 16)) dNil)) (gN 4) bBx) _) _ _) = _
    rw [s_seq]
    show outD (dSeq _ _ [some D0, some (.int k), some (.int h), some (.int 0), none, none] S) = _
    rw [s_seq, h2]
    simp [absV, modV, int2, mkLstM, LIM]
theorem box_ok (ns : List Int) (k : Nat) (S : Sto) : ∃ i j : Int, gcall 2 D__law_box [.frl (ns.map .int), .int k] S = .ok (.ref S.length) (S ++ [.lst [.int i, .int j]]) := by
  have m2 : mulOk 7919 (k : Int) = true := decide_eq_true (.inl (by decide))
  have a1 : lenV2 [.frl (ns.map .int)] S = .ok (.int ns.length) S := by simp [lenV2, lenV, seqS]
  by_cases hk : k < ns.length
  · obtain ⟨i, j, h1⟩ := box_tail (.frl (ns.map .int)) k (ns[k]) S
    refine ⟨i, j, ?_⟩
    rw [← h1, gcall_eq]
    have a2 : ixV2 (.frl (ns.map .int)) (.int k) S = .ok (.int ns[k]) S := by
      show ixV (.frl (ns.map .int)) (.int k) S = _
      unfold ixV
      have : L2.atI (ns.map D.int) (k : Int) = some (.int ns[k]) := at_nat (by simp [hk])
      simp only [seqS, this]
    simp [D__law_box, fnD_eq, mulV, int2, m2, addV, a1, ltV, ordV, hk, a2]
  · obtain ⟨i, j, h1⟩ := box_tail (.frl (ns.map .int)) k (7919 * k + 13) S
    refine ⟨i, j, ?_⟩
    rw [← h1, gcall_eq]
    have a3 : decide ((k : Int) < (ns.length : Int)) = false := decide_eq_false (by omega)
    simp [D__law_box, fnD_eq, mulV, int2, m2, addV, a1, ltV, ordV, hk]
section
variable {P T : Sto} {b u t : SO}
theorem house_init {S : Sto} (hS : S = P ++ [b]) : D_House___init__ [.ref (hx P 1), .int 3] (S ++ [.ins "House" []]) = .ok .non (P ++ [b, .ins "House" (HF P), .lst [], .dct [] [], .dct [] [], .dct [] []]) := by
  subst hS
  have n1 : pcall 1 D_need_window [.int 3] (P ++ [b] ++ [.ins "House" []]) = .ok .non (P ++ [b] ++ [.ins "House" []]) := by
    have h1 : pcall 3 D_is_among [.int 3, .int 1, .int 3] ([] : Sto) = .ok (.bl true) [] := pcall_ok (among_ok (S := []) (by omega))
    have h2 : pcall 1 D_is_number [.int 3] ([] : Sto) = .ok (.bl true) [] := pcall_ok (S0 := []) (by simp [D_is_number, fnD_eq, h1])
    exact pcall_ok (S0 := []) (by simp [D_need_window, fnD_eq, h2])
  have p1 : ∀ v, putD "own_window" v [] = ([("own_window", v)] : List (Str × D)) := fun _ => rfl
  have p2 : ∀ v x, putD "own_words" v [("own_window", x)] = ([("own_window", x), ("own_words", v)] : List (Str × D)) := fun _ _ => rfl
  have p3 : ∀ v x y, putD "own_sessions" v [("own_window", x), ("own_words", y)] = ([("own_window", x), ("own_words", y), ("own_sessions", v)] : List (Str × D)) := fun _ _ _ => rfl
  have p4 : ∀ v x y z, putD "own_wills" v [("own_window", x), ("own_words", y), ("own_sessions", z)] = ([("own_window", x), ("own_words", y), ("own_sessions", z), ("own_wills", v)] : List (Str × D)) := fun _ _ _ _ => rfl
  have p5 : ∀ v x y z q, putD "own_kept" v [("own_window", x), ("own_words", y), ("own_sessions", z), ("own_wills", q)] = ([("own_window", x), ("own_words", y), ("own_sessions", z), ("own_wills", q), ("own_kept", v)] : List (Str × D)) := fun _ _ _ _ _ => rfl
  have n2 : pcall 1 D_need_window [.int 3] (P ++ [b, .ins "House" []]) = .ok .non (P ++ [b, .ins "House" []]) := by
    have e : P ++ [b, SO.ins "House" []] = P ++ [b] ++ [.ins "House" []] := by simp
    rw [e]
    exact n1
  have q1 : ∀ (y : SO) (G : Sto), (P ++ b :: y :: G)[hx P 1]? = some y := fun y G => by unfold hx; exact mid_1
  have q2 : ∀ (y z : SO) (G : Sto), (P ++ b :: y :: G).set (hx P 1) z = P ++ b :: z :: G := fun y z G => by unfold hx; exact mid_s1
  simp [D_House___init__, fnD_eq, dSetF, setFV, n2, q1, q2, p1, p2, p3, p4, p5, mkLstM, LIM, dNewD, HF]
  simp [hx]
theorem make_house {S : Sto} {env : Dn.Env} (hS : S = P ++ [b]) : dMake "House" 0 1 gD_House___init___1_window (gcall 2 D_House___init__) dNil (dCons (dC (.int 3)) dNil) env S = .ok (.ref (hx P 1)) (P ++ [b, .ins "House" (HF P), .lst [], .dct [] [], .dct [] [], .dct [] []]) := by
  have h1 := house_init (P := P) (b := b) hS
  have h2 : S.length = hx P 1 := by rw [hS]; simp [hx]
  unfold dMake
  simp only [e_nil, e_cons, e_c, bind_ok]
  rw [if_pos ⟨rfl, rfl⟩]
  show ((gcall 2 D_House___init__ [.ref S.length, .int 3] (S ++ [.ins "House" []])).bind (madeV S.length)) = _
  rw [gcall_eq, h2, h1]
  rfl
/-- what stands when the taker has come -/
def T1 (P : Sto) : Sto := [.lst [accRow "zz" false], sesN P true 2, .lst [], .gone, .gone]
theorem come_zz : D_House_come [.ref (hx P 1), .str "zz", .bl true, .non] (sto P b (.lst []) (dO []) (dO []) (dO []) u t []) = .ok (.lst [accRow "zz" false]) (sto P b (.lst []) (dO [("zz", .ref (tx P 1))]) (dO [("zz", .non)]) (dO []) u t (T1 P)) := by
  rw [come_pre (lit_low _ (by decide)) (by decide) will_none, s_seq]
  have h2 : inV2 (.str "zz") (.ref (hx P 4)) (sto P b (.lst []) (dO []) (dO []) (dO []) u t []) = .ok (.bl false) (sto P b (.lst []) (dO []) (dO []) (dO []) u t []) := in_rows get_4
  rw [set_of (b := false) (d := .ref (tx P 0)) (S1 := sto P b (.lst []) (dO []) (dO []) (dO []) u t []) (S2 := sto P b (.lst []) (dO []) (dO []) (dO []) u t [.lst []]) (by simp [h2]) (by simp [mkLstM])]
  obtain ⟨h3, _⟩ := come_new (P := P) (T0 := []) (G0 := []) (a := b) (w := .lst []) (se := []) (wi := []) (k := dO []) (u := u) (t := t) (c := "zz") (fs := []) (d := .non) (cl := true) (by simp) (by decide) (by decide) (by decide)
  exact h3
/-- what stands when it wants all -/
def T2 (P : Sto) : Sto := [.lst [accRow "zz" false], .ins "Session" [("clean", .bl true), ("liked", .tup [.tup [.str "#", .int 2]]), ("out", .tup []), ("notes", .tup []), ("queue", .ref (tx P 2))], .lst [], .gone, .gone, .lst []]
def T1b (P : Sto) : Sto := [.lst [accRow "zz" false], .ins "Session" [("clean", .bl true), ("liked", .tup [.tup [.str "#", .int 2]]), ("out", .tup []), ("notes", .tup []), ("queue", .ref (tx P 2))], .lst [], .gone, .gone]
theorem filter_hash {S : Sto} : pcall 1 D_need_filter [.str "#"] S = .ok .non S := by
  have h1 : pcall 1 D_is_filter [.str "#"] ([] : Sto) = .ok (.bl true) [] := by
    refine pcall_ok (S0 := []) ?_
    have e : inV2 (.str "#") (.tup [.str "+", .str "#"]) ([] : Sto) = .ok (.bl true) [] := rfl
    simp [D_is_filter, fnD_eq, dMs, isStr, split_hash, dAsg, gS, seqS, unpk, gN, onlyG, geV, ordV, dLcL, dLc, dItm, lcGo, any_, allV, seqL, blsD, mkTup, LIM, e, dOrV]
  exact pcall_ok (S0 := []) (by simp [D_need_filter, fnD_eq, h1])
theorem quality_two {S : Sto} : pcall 1 D_need_quality [.int 2] S = .ok .non S := by
  have h3 : pcall 1 D_is_quality [.int 2] ([] : Sto) = .ok (.bl true) [] := pcall_ok (quality_ok (S := []) (by omega))
  exact pcall_ok (S0 := []) (by simp [D_need_quality, fnD_eq, h3])
theorem wants_zz : D_House_wants [.ref (hx P 1), .str "zz", .str "#", .int 2] (sto P b (.lst []) (dO [("zz", .ref (tx P 1))]) (dO [("zz", .non)]) (dO []) u t (T1 P)) = .ok (.ref (tx P 5)) (sto P b (.lst []) (dO [("zz", .ref (tx P 1))]) (dO [("zz", .non)]) (dO []) u t (T2 P)) := by
  have w1 : pcall 1 D_need_caller [.str "zz"] (sto P b (.lst []) (dO [("zz", .ref (tx P 1))]) (dO [("zz", .non)]) (dO []) u t (T1 P)) = .ok .non (sto P b (.lst []) (dO [("zz", .ref (tx P 1))]) (dO [("zz", .non)]) (dO []) u t (T1 P)) := caller_ok (lit_low _ (by decide)) (by decide)
  have w2 : gcall 2 D_House_need_on [.ref (hx P 1), .str "zz"] (sto P b (.lst []) (dO [("zz", .ref (tx P 1))]) (dO [("zz", .non)]) (dO []) u t (T1 P)) = .ok .non (sto P b (.lst []) (dO [("zz", .ref (tx P 1))]) (dO [("zz", .non)]) (dO []) u t (T1 P)) := by
    rw [gcall_eq]
    exact need_on_ok (d := .non) rfl
  have w3 : ixV2 (.ref (hx P 3)) (.str "zz") (sto P b (.lst []) (dO [("zz", .ref (tx P 1))]) (dO [("zz", .non)]) (dO []) u t (T1 P)) = .ok (.ref (tx P 1)) (sto P b (.lst []) (dO [("zz", .ref (tx P 1))]) (dO [("zz", .non)]) (dO []) u t (T1 P)) := ix_rows get_3 rfl
  have w4 : fldV "Session" "liked" (.ref (tx P 1)) (sto P b (.lst []) (dO [("zz", .ref (tx P 1))]) (dO [("zz", .non)]) (dO []) u t (T1 P)) = .ok (.tup []) (sto P b (.lst []) (dO [("zz", .ref (tx P 1))]) (dO [("zz", .non)]) (dO []) u t (T1 P)) := by
    unfold fldV
    simp only [get_t]
    rfl
  have w5 : addV (.lst []) (.lst [.tup [.str "#", .int 2]]) (sto P b (.lst []) (dO [("zz", .ref (tx P 1))]) (dO [("zz", .non)]) (dO []) u t (T1 P)) = .ok (.lst [.tup [.str "#", .int 2]]) (sto P b (.lst []) (dO [("zz", .ref (tx P 1))]) (dO [("zz", .non)]) (dO []) u t (T1 P)) := rfl
  have w6 : sortedV2 [.lst [.tup [.str "#", .int 2]]] (sto P b (.lst []) (dO [("zz", .ref (tx P 1))]) (dO [("zz", .non)]) (dO []) u t (T1 P)) = .ok (.lst [.tup [.str "#", .int 2]]) (sto P b (.lst []) (dO [("zz", .ref (tx P 1))]) (dO [("zz", .non)]) (dO []) u t (T1 P)) := by
    have := sort_pairs (S := sto P b (.lst []) (dO [("zz", .ref (tx P 1))]) (dO [("zz", .non)]) (dO []) u t (T1 P)) (List.Perm.refl ([(("#" : Str), (2 : Int))].map pairD))
    refine this.trans ?_
    have e : sortD ([(("#" : Str), (2 : Int))].map pairD) = [pairD ("#", 2)] := by simp [sortD]
    rw [e]
    rfl
  have w7 : ∀ (env : Dn.Env), setFV "Session" "liked" (.ref (tx P 1)) (.tup [.tup [.str "#", .int 2]]) env (sto P b (.lst []) (dO [("zz", .ref (tx P 1))]) (dO [("zz", .non)]) (dO []) u t (T1 P)) = .nx env (sto P b (.lst []) (dO [("zz", .ref (tx P 1))]) (dO [("zz", .non)]) (dO []) u t (T1b P)) := fun env => by
    unfold setFV
    simp only [get_t]
    show (if _ then RS.nx env (List.set _ (tx P 1) _) else _) = _
    rw [if_pos ⟨rfl, show 5 < 1000 by decide⟩, set_t]
    rfl
  have w8 : T1b P ++ [SO.lst []] = T2 P := rfl
  have w9 : gcall 1 D_House_kept_names [.ref (hx P 1)] (sto P b (.lst []) (dO [("zz", .ref (tx P 1))]) (dO [("zz", .non)]) (dO []) u t (T2 P)) = .ok (.lst []) (sto P b (.lst []) (dO [("zz", .ref (tx P 1))]) (dO [("zz", .non)]) (dO []) u t (T2 P)) := by
    rw [gcall_eq]
    obtain ⟨ss, h1, h2⟩ := kept_names_ok (P := P) (T := T2 P) (a := b) (w := .lst []) (s := dO [("zz", .ref (tx P 1))]) (l := dO [("zz", .non)]) (u := u) (t := t) (ke := []) (by simp)
    rw [h1]
    have : ss = [] := by simpa using h2
    rw [this]
    rfl
  have w10 : (T1b P).length = 5 := rfl
  simp [D_House_wants, fnD_eq, w1, filter_hash, quality_two, e_meth, gD_House_need_on_2_, w2, w3, w4, dLcL, dLc, dItm, lcGo, any_, mkTup, mkLst, w5, w6, tupleV, seqL, dSetF, w7, mkLstM, LIM, gD_House_kept_names_1_, w8, w9, w10, dFor, forGo]
end
end T55

set_option Elab.async false
set_option linter.all false
set_option maxRecDepth 100000
namespace T55
open PySem Dn
abbrev bP10 : DS := (dPar 10 11 (dCons (dOp ixV2 (dArg mkLst (dCons (dC (.str "a")) (dCons (dC (.str "b")) (dCons (dC (.str "cab")) (dCons (dC (.str "d")) dNil))))) (dArg (bcall 2 0 D__law_take) (dCons (dVar 2) (dCons (dC (.int 4)) dNil)))) (dCons (dArg (bcall 2 0 D__law_take) (dCons (dVar 2) (dCons (dC (.int 5)) dNil))) dNil)))
abbrev bP12 : DS := (dPar 12 13 (dCons (dArg mkLst dNil) (dCons (dArg lenV2 (dCons (dVar 5) dNil)) dNil)))
abbrev bS8 : DS := (dSet 8 (dArg (bcall 1 0 D__law_will) (dCons (dVar 2) dNil)))
abbrev bI8 : DS := (dIfS (dT (dOp isntV (dVar 8) (dC .non))) (dSet 8 (dArg mkTup (dCons (dOp ixV2 (dVar 8) (dC (.int 0))) (dCons (dOp ixV2 (dVar 8) (dC (.int 1))) (dCons (dC (.int 0)) (dCons (dOp ixV2 (dVar 8) (dC (.int 3))) dNil)))))) dNext)
abbrev bT : DS := dSeq bP10 (dSeq bP12 (dSeq bS8 (dSeq bI8 (dSeq bW (dSeq bC1 (dSeq bC2 (dSeq (dSet 9 dNewD) (dSeq (dFor (dEnum (dVar 5)) (gT [(gN 14), (gN 15)]) bFH) bC3))))))))
abbrev bT0 : DS := (dSeq (dPar 10 11 (dCons (dOp ixV2 (dArg mkLst (dCons (dC (.str "a")) (dCons (dC (.str "b")) (dCons (dC (.str "cab")) (dCons (dC (.str "d")) dNil))))) (dArg (bcall 2 0 D__law_take) (dCons (dVar 2) (dCons (dC (.int 4)) dNil)))) (dCons (dArg (bcall 2 0 D__law_take) (dCons (dVar 2) (dCons (dC (.int 5)) dNil))) dNil))) (dSeq (dPar 12 13 (dCons (dArg mkLst dNil) (dCons (dArg lenV2 (dCons (dVar 5) dNil)) dNil))) (dSeq (dSet 8 (dArg (bcall 1 0 D__law_will) (dCons (dVar 2) dNil))) (dSeq (dIfS (dT (dOp isntV (dVar 8) (dC .non))) (dSet 8 (dArg mkTup (dCons (dOp ixV2 (dVar 8) (dC (.int 0))) (dCons (dOp ixV2 (dVar 8) (dC (.int 1))) (dCons (dC (.int 0)) (dCons (dOp ixV2 (dVar 8) (dC (.int 3))) dNil)))))) dNext) (dSeq (dIfS (dT (dOp ltV (dVar 11) (dC (.int 3)))) (dSeq (dIfS (dT (dOp isntV (dGetD (dVar 6) (dVar 10) (dC .non)) (dC .non))) (dDrop (dMl appendV (dVar 5) (dCons (dOp addV (dArg mkTup (dCons (dVar 10) dNil)) (dOp ixV2 (dVar 6) (dVar 10))) dNil))) dNext) (dSeq (dAsg (dVar 8) (gIx2 (dVar 6) (dVar 10))) (dSet 12 (dMeth "House" "come" 1 2 gD_House_come_2_clean_will (gcall 4 D_House_come) (dVar 4) (dCons (dVar 10) dNil) (dCons (dOp eqV (dArg (bcall 2 0 D__law_take) (dCons (dVar 2) (dCons (dC (.int 2)) dNil))) (dC (.int 0))) (dCons (dVar 8) dNil)))))) (dIfS (dT (dOp inV2 (dVar 10) (dVar 6))) (dSeq (dSet 16 (dPopD (dVar 6) (dVar 10))) (dSeq (dIfS (dAnd (dT (dOp eqV (dVar 11) (dC (.int 3)))) (dT (dOp isntV (dVar 16) (dC .non)))) (dDrop (dMl appendV (dVar 5) (dCons (dOp addV (dArg mkTup (dCons (dVar 10) dNil)) (dVar 16)) dNil))) dNext) (dSet 12 (dIf (dT (dOp eqV (dVar 11) (dC (.int 3)))) (dMeth "House" "cut" 1 0 gD_House_cut_2_ (gcall 2 D_House_cut) (dVar 4) (dCons (dVar 10) dNil) dNil) (dMeth "House" "goes" 1 0 gD_House_goes_2_ (gcall 2 D_House_goes) (dVar 4) (dCons (dVar 10) dNil) dNil))))) dNext)) (dSeq (dIfS (dOr (dT (dOp neV (dArg reprV (dCons (dMeth "House" "accepted" 0 0 gD_House_accepted_1_ (gcall 1 D_House_accepted) (dVar 4) dNil dNil) dNil)) (dArg reprV (dCons (dVar 5) dNil)))) (dT (dOp neV (dMeth "House" "on" 0 0 gD_House_on_1_ (gcall 1 D_House_on) (dVar 4) dNil dNil) (dArg sortedV2 (dCons (dOp addV (dArg listV2 (dCons (dVar 6) dNil)) (dArg mkLst (dCons (dC (.str "zz")) dNil))) dNil))))) (dRet (dC (.bl false))) dNext) (dSeq (dIfS (dT (dOp neV (dArg (gcall 2 D__law_words_to) (dCons (dVar 12) (dCons (dC (.str "zz")) dNil))) (dLcL (dItm (dSl (dVar 5) (dPart (dVar 13)) dNoP)) (gN 15) dYes (dSl (dVar 15) (dPart (dC (.int 1))) (dPart (dC (.int 3)))) [15]))) (dRet (dC (.bl false))) dNext) (dSeq (dSet 9 dNewD) (dSeq (dFor (dEnum (dVar 5)) (gT [(gN 14), (gN 15)]) (dIfS (dT (dOp ixV2 (dVar 15) (dC (.int 4)))) (dSeq (dAsg (dVar 14) (gIx2 (dVar 9) (dOp ixV2 (dVar 15) (dC (.int 1))))) (dIfS (dT (dOp eqV (dOp ixV2 (dVar 15) (dC (.int 2))) (dC (.str "")))) (dDrop (dPopD (dVar 9) (dOp ixV2 (dVar 15) (dC (.int 1))))) dNext)) dNext)) (dIfS (dT (dOp neV (dArg sortedV2 (dCons (dMeth "House" "kept" 0 0 gD_House_kept_1_ (gcall 1 D_House_kept) (dVar 4) dNil dNil) dNil)) (dArg sortedV2 (dCons (dLock (pkVar 9) (dLcL (dItm2 (dVar 9)) (gN 17) dYes (dArg mkTup (dCons (dVar 17) (dCons (dOp ixV2 (dVar 9) (dVar 17)) dNil))) [17])) dNil)))) (dRet (dC (.bl false))) dNext))))))))))
theorem bT_eq : bT = bT0 := rfl
abbrev bK : DS := (dSeq (dSet 2 (dArg (gcall 2 D__law_box) (dCons (dVar 0) (dCons (dVar 1) dNil)))) (dSeq (dAsg (dArg mkTup (dCons (dMake "House" 0 1 gD_House___init___1_window (gcall 2 D_House___init__) dNil (dCons (dC (.int 3)) dNil)) (dCons (dArg mkLstM dNil) (dCons dNewD (dCons (dArg mkLstM dNil) dNil))))) (gT [(gN 4), (gN 5), (gN 6), (gN 7)])) (dSeq (dDrop (dMeth "House" "come" 1 0 gD_House_come_2_ (gcall 4 D_House_come) (dVar 4) (dCons (dC (.str "zz")) dNil) dNil)) (dSeq (dDrop (dMeth "House" "wants" 2 1 gD_House_wants_3_quality (gcall 4 D_House_wants) (dVar 4) (dCons (dC (.str "zz")) (dCons (dC (.str "#")) dNil)) (dCons (dC (.int 2)) dNil))) (dFor (dArg rng1 (dCons (dArg (bcall 2 0 D__law_take) (dCons (dVar 2) (dCons (dC (.int 21)) dNil))) dNil)) (gN 3) (dSeq (dPar 10 11 (dCons (dOp ixV2 (dArg mkLst (dCons (dC (.str "a")) (dCons (dC (.str "b")) (dCons (dC (.str "cab")) (dCons (dC (.str "d")) dNil))))) (dArg (bcall 2 0 D__law_take) (dCons (dVar 2) (dCons (dC (.int 4)) dNil)))) (dCons (dArg (bcall 2 0 D__law_take) (dCons (dVar 2) (dCons (dC (.int 5)) dNil))) dNil))) (dSeq (dPar 12 13 (dCons (dArg mkLst dNil) (dCons (dArg lenV2 (dCons (dVar 5) dNil)) dNil))) (dSeq (dSet 8 (dArg (bcall 1 0 D__law_will) (dCons (dVar 2) dNil))) (dSeq (dIfS (dT (dOp isntV (dVar 8) (dC .non))) (dSet 8 (dArg mkTup (dCons (dOp ixV2 (dVar 8) (dC (.int 0))) (dCons (dOp ixV2 (dVar 8) (dC (.int 1))) (dCons (dC (.int 0)) (dCons (dOp ixV2 (dVar 8) (dC (.int 3))) dNil)))))) dNext) (dSeq (dIfS (dT (dOp ltV (dVar 11) (dC (.int 3)))) (dSeq (dIfS (dT (dOp isntV (dGetD (dVar 6) (dVar 10) (dC .non)) (dC .non))) (dDrop (dMl appendV (dVar 5) (dCons (dOp addV (dArg mkTup (dCons (dVar 10) dNil)) (dOp ixV2 (dVar 6) (dVar 10))) dNil))) dNext) (dSeq (dAsg (dVar 8) (gIx2 (dVar 6) (dVar 10))) (dSet 12 (dMeth "House" "come" 1 2 gD_House_come_2_clean_will (gcall 4 D_House_come) (dVar 4) (dCons (dVar 10) dNil) (dCons (dOp eqV (dArg (bcall 2 0 D__law_take) (dCons (dVar 2) (dCons (dC (.int 2)) dNil))) (dC (.int 0))) (dCons (dVar 8) dNil)))))) (dIfS (dT (dOp inV2 (dVar 10) (dVar 6))) (dSeq (dSet 16 (dPopD (dVar 6) (dVar 10))) (dSeq (dIfS (dAnd (dT (dOp eqV (dVar 11) (dC (.int 3)))) (dT (dOp isntV (dVar 16) (dC .non)))) (dDrop (dMl appendV (dVar 5) (dCons (dOp addV (dArg mkTup (dCons (dVar 10) dNil)) (dVar 16)) dNil))) dNext) (dSet 12 (dIf (dT (dOp eqV (dVar 11) (dC (.int 3)))) (dMeth "House" "cut" 1 0 gD_House_cut_2_ (gcall 2 D_House_cut) (dVar 4) (dCons (dVar 10) dNil) dNil) (dMeth "House" "goes" 1 0 gD_House_goes_2_ (gcall 2 D_House_goes) (dVar 4) (dCons (dVar 10) dNil) dNil))))) dNext)) (dSeq (dIfS (dOr (dT (dOp neV (dArg reprV (dCons (dMeth "House" "accepted" 0 0 gD_House_accepted_1_ (gcall 1 D_House_accepted) (dVar 4) dNil dNil) dNil)) (dArg reprV (dCons (dVar 5) dNil)))) (dT (dOp neV (dMeth "House" "on" 0 0 gD_House_on_1_ (gcall 1 D_House_on) (dVar 4) dNil dNil) (dArg sortedV2 (dCons (dOp addV (dArg listV2 (dCons (dVar 6) dNil)) (dArg mkLst (dCons (dC (.str "zz")) dNil))) dNil))))) (dRet (dC (.bl false))) dNext) (dSeq (dIfS (dT (dOp neV (dArg (gcall 2 D__law_words_to) (dCons (dVar 12) (dCons (dC (.str "zz")) dNil))) (dLcL (dItm (dSl (dVar 5) (dPart (dVar 13)) dNoP)) (gN 15) dYes (dSl (dVar 15) (dPart (dC (.int 1))) (dPart (dC (.int 3)))) [15]))) (dRet (dC (.bl false))) dNext) (dSeq (dSet 9 dNewD) (dSeq (dFor (dEnum (dVar 5)) (gT [(gN 14), (gN 15)]) (dIfS (dT (dOp ixV2 (dVar 15) (dC (.int 4)))) (dSeq (dAsg (dVar 14) (gIx2 (dVar 9) (dOp ixV2 (dVar 15) (dC (.int 1))))) (dIfS (dT (dOp eqV (dOp ixV2 (dVar 15) (dC (.int 2))) (dC (.str "")))) (dDrop (dPopD (dVar 9) (dOp ixV2 (dVar 15) (dC (.int 1))))) dNext)) dNext)) (dIfS (dT (dOp neV (dArg sortedV2 (dCons (dMeth "House" "kept" 0 0 gD_House_kept_1_ (gcall 1 D_House_kept) (dVar 4) dNil dNil) dNil)) (dArg sortedV2 (dCons (dLock (pkVar 9) (dLcL (dItm2 (dVar 9)) (gN 17) dYes (dArg mkTup (dCons (dVar 17) (dCons (dOp ixV2 (dVar 9) (dVar 17)) dNil))) [17])) dNil)))) (dRet (dC (.bl false))) dNext)))))))))))))))

section
variable {P T : Sto} {rs : List (Str × Row)} {se wi sd ke : Rows} {b w s l k u t : SO} {who : Str} {way : Int} {v : Option Row} {sc kk x3 x8 x9 x10 x11 x12 x13 x14 x15 x16 x17 : Option D} {S : Sto}
theorem St_box {b' : SO} : (St P b rs se wi sd T).set (hx P 0) b' = St P b' rs se wi sd T := set_0
theorem St_get0 : (St P b rs se wi sd T)[hx P 0]? = some b := get_0
theorem who_at {q : Int} (h : 0 ≤ q ∧ q < 4) : ∃ x ∈ WHO, ixV2 (.lst [.str "a", .str "b", .str "cab", .str "d"]) (.int q) S = .ok (.str x) S := by
  have : q = 0 ∨ q = 1 ∨ q = 2 ∨ q = 3 := by omega
  rcases this with rfl | rfl | rfl | rfl
  · exact ⟨"a", by simp, ix_ll (i := 0) rfl⟩
  · exact ⟨"b", by simp, ix_ll (i := 1) rfl⟩
  · exact ⟨"cab", by simp, ix_ll (i := 2) rfl⟩
  · exact ⟨"d", by simp, ix_ll (i := 3) rfl⟩
theorem draw10 (hb : IsBox b) : ∃ who ∈ WHO, ∃ (way : Int) (b' : SO), bP10 (eL P sc kk x3 x8 x9 x10 x11 x12 x13 x14 x15 x16 x17) (St P b rs se wi sd T) = .nx (eL P sc kk x3 x8 x9 (some (.str who)) (some (.int way)) x12 x13 x14 x15 x16 x17) (St P b' rs se wi sd T) ∧ IsBox b' := by
  obtain ⟨q, b1, h1, h2, h3, h4⟩ := take_b (S := St P b rs se wi sd T) (m := hx P 0) (c := 4) St_get0 hb (by omega)
  rw [St_box] at h1
  obtain ⟨q2, b2, k1, k2, k3, k4⟩ := take_b (S := St P b1 rs se wi sd T) (m := hx P 0) (c := 5) St_get0 h2 (by omega)
  rw [St_box] at k1
  obtain ⟨who, hw, h5⟩ := who_at (S := St P b1 rs se wi sd T) ⟨h3, h4⟩
  refine ⟨who, hw, q2, b2, ?_, k2⟩
  simp [bP10, dPar, mkLst, LIM, eL, h1, h5, k1]
theorem draw12 : bP12 (eL P sc kk x3 x8 x9 x10 x11 x12 x13 x14 x15 x16 x17) (St P b rs se wi sd T) = .nx (eL P sc kk x3 x8 x9 x10 x11 (some (.lst [])) (some (.int rs.length)) x14 x15 x16 x17) (St P b rs se wi sd T) := by
  have h1 : lenV2 [.ref (hx P 6)] (St P b rs se wi sd T) = .ok (.int rs.length) (St P b rs se wi sd T) := by
    simp [lenV2, lenV, St, seqS, Wd]
  simp [bP12, dPar, mkLst, LIM, eL, h1]
theorem draw8 (hb : IsBox b) : ∃ (v : Option Row) (b' : SO), (dSeq bS8 bI8) (eL P sc kk x3 x8 x9 x10 x11 x12 x13 x14 x15 x16 x17) (St P b rs se wi sd T) = .nx (eL P sc kk x3 (some (wd v)) x9 x10 x11 x12 x13 x14 x15 x16 x17) (St P b' rs se wi sd T) ∧ IsBox b' ∧ ∀ r, v = some r → ROk r := by
  obtain ⟨d, b1, h1, h2, h3⟩ := will_b (S := St P b rs se wi sd T) (m := hx P 0) St_get0 hb
  rw [St_box] at h1
  rcases h3 with rfl | ⟨r, q, hr, rfl⟩
  · exact ⟨none, b1, by simp [bS8, bI8, eL, h1, isntV, isNon, wd], h2, fun r e => by cases e⟩
  · refine ⟨some r, b1, ?_, h2, fun r' e => by cases e; exact hr⟩
    simp [bS8, bI8, eL, h1, isntV, isNon, wd, mkTup, LIM, Row.w]
theorem turn_ok (I : TI P rs se wi sd T) (hl : rs.length ≤ 50) (hb : IsBox b) : ∃ (rs' : List (Str × Row)) (se' wi' sd' : Rows) (T' : Sto) (b' : SO) (y8 y9 y10 y11 y12 y13 y14 y15 y16 : Option D),
    bT (eL P sc kk x3 x8 x9 x10 x11 x12 x13 x14 x15 x16 x17) (St P b rs se wi sd T) = .nx (eL P sc kk x3 y8 y9 y10 y11 y12 y13 y14 y15 y16 x17) (St P b' rs' se' wi' sd' T') ∧ TI P rs' se' wi' sd' T' ∧ rs'.length ≤ rs.length + 1 ∧ IsBox b' := by
  obtain ⟨who, hw, way, b1, h1, hb1⟩ := draw10 (P := P) (rs := rs) (se := se) (wi := wi) (sd := sd) (T := T) (sc := sc) (kk := kk) (x3 := x3) (x8 := x8) (x9 := x9) (x10 := x10) (x11 := x11) (x12 := x12) (x13 := x13) (x14 := x14) (x15 := x15) (x16 := x16) (x17 := x17) hb
  obtain ⟨v, b2, h2, hb2, hv⟩ := draw8 (P := P) (rs := rs) (se := se) (wi := wi) (sd := sd) (T := T) (sc := sc) (kk := kk) (x3 := x3) (x8 := x8) (x9 := x9) (x10 := some (.str who)) (x11 := some (.int way)) (x12 := some (.lst [])) (x13 := some (.int rs.length)) (x14 := x14) (x15 := x15) (x16 := x16) (x17 := x17) hb1
  obtain ⟨o, se', wi', sd', T', b3, R, L, y, h3, I', hb3, hR, hL⟩ := deed_ok (way := way) (sc := sc) (k := kk) (x3 := x3) (x9 := x9) (x13 := some (.int rs.length)) (x14 := x14) (x15 := x15) (x16 := x16) (x17 := x17) I (by omega) hb2 hw hv
  have hlen : (rs ++ addR who o).length ≤ rs.length + 1 := by cases o <;> simp [addR]
  have hlen2 : (rs ++ addR who o).length ≤ 100 := by omega
  have ho : ∀ r, o = some r → ROk r := fun r e => by
    subst e
    exact (I'.rk (who, r) (by simp [addR])).2
  have c1 := check1 (b := b3) (sc := sc) (k := kk) (x3 := x3) (x8 := some (wd v)) (x9 := x9) (x10 := some (.str who)) (x11 := some (.int way)) (x12 := some R) (x13 := some (.int rs.length)) (x14 := x14) (x15 := x15) (x16 := y) (x17 := x17) I' hlen2
  have c2 := check2 (b := b3) (sc := sc) (k := kk) (x3 := x3) (x8 := some (wd v)) (x9 := x9) (x10 := some (.str who)) (x11 := some (.int way)) (x14 := x14) (x15 := x15) (x16 := y) (x17 := x17) (rs := rs) (se := se') (wi := wi') (sd := sd') hR hw hL ho rfl
  obtain ⟨y14, y15, c4⟩ := held_loop (P := P) (T := T') (b := b3) (w := .lst (Wd (rs ++ addR who o))) (s := dO se') (l := dO wi') (k := dO (keptFrom 0 [] (rs ++ addR who o))) (u := .lst (Wd (rs ++ addR who o))) (t := dO sd') (sc := sc) (kk := kk) (x3 := x3) (x8 := some (wd v)) (x10 := some (.str who)) (x11 := some (.int way)) (x12 := some R) (x13 := some (.int rs.length)) (x16 := y) (x17 := x17) (C := sameL (hx P 6) (Wd (rs ++ addR who o))) (fun T => by unfold sameL; rw [get_6]; exact beqs_refl _) (rs ++ addR who o) 0 [] x14 x15 (by simp only [List.length_nil]; omega)
  have hKO := KO.from (rs := rs ++ addR who o) (n := 0) KO.nil I'.rk
  have hkl := keptFrom_len 0 [] (rs ++ addR who o)
  have c5 := check3 (P := P) (T := T') (b := b3) (w := .lst (Wd (rs ++ addR who o))) (s := dO se') (l := dO wi') (u := .lst (Wd (rs ++ addR who o))) (t := dO sd') (sc := sc) (kk := kk) (x3 := x3) (x8 := some (wd v)) (x10 := some (.str who)) (x11 := some (.int way)) (x12 := some R) (x13 := some (.int rs.length)) (x14 := y14) (x15 := y15) (x16 := y) (x17 := x17) hKO (by simp only [List.length_nil] at hkl; omega)
  refine ⟨rs ++ addR who o, se', wi', sd', T' ++ [dO (keptFrom 0 [] (rs ++ addR who o))], b3, some (wd v), some (.ref (tx P T'.length)), some (.str who), some (.int way), some R, some (.int rs.length), y14, y15, y, ?_, ⟨I'.H.app, I'.wn, I'.sn, I'.ks, I'.kd, I'.eq, I'.vd, I'.rk⟩, hlen, hb3⟩
  have d9 : (dSet 9 dNewD) (eL P sc kk x3 (some (wd v)) x9 (some (.str who)) (some (.int way)) (some R) (some (.int rs.length)) x14 x15 y x17) (St P b3 (rs ++ addR who o) se' wi' sd' T') = .nx (eL P sc kk x3 (some (wd v)) (some (.ref (tx P T'.length))) (some (.str who)) (some (.int way)) (some R) (some (.int rs.length)) x14 x15 y x17) (St P b3 (rs ++ addR who o) se' wi' sd' (T' ++ [dO []])) := by
    simp [dNewD, St, eL, dO]
  have d10 : (dFor (dEnum (dVar 5)) (gT [(gN 14), (gN 15)]) bFH) (eL P sc kk x3 (some (wd v)) (some (.ref (tx P T'.length))) (some (.str who)) (some (.int way)) (some R) (some (.int rs.length)) x14 x15 y x17) (St P b3 (rs ++ addR who o) se' wi' sd' (T' ++ [dO []])) = .nx (eL P sc kk x3 (some (wd v)) (some (.ref (tx P T'.length))) (some (.str who)) (some (.int way)) (some R) (some (.int rs.length)) y14 y15 y x17) (St P b3 (rs ++ addR who o) se' wi' sd' (T' ++ [dO (keptFrom 0 [] (rs ++ addR who o))])) := by
    have e1 : dEnum (dVar 5) (eL P sc kk x3 (some (wd v)) (some (.ref (tx P T'.length))) (some (.str who)) (some (.int way)) (some R) (some (.int rs.length)) x14 x15 y x17) (St P b3 (rs ++ addR who o) se' wi' sd' (T' ++ [dO []])) = .ok (enumD 0 (Wd (rs ++ addR who o)), sameL (hx P 6) (Wd (rs ++ addR who o))) (St P b3 (rs ++ addR who o) se' wi' sd' (T' ++ [dO []])) := by
      simp [dEnum, eL, itm, St]
    unfold dFor
    rw [e1]
    exact c4
  unfold bT
  rw [s_seq, h1]
  show dSeq _ _ _ _ = _
  rw [s_seq, draw12]
  show dSeq _ _ _ _ = _
  rw [s_seq] at h2 ⊢
  cases q8 : bS8 (eL P sc kk x3 x8 x9 (some (.str who)) (some (.int way)) (some (.lst [])) (some (.int rs.length)) x14 x15 x16 x17) (St P b1 rs se wi sd T) with
  | nx e8 S8 =>
    rw [q8] at h2
    show dSeq _ _ _ _ = _
    rw [s_seq]
    have h2' : bI8 e8 S8 = _ := h2
    rw [h2']
    show dSeq _ _ _ _ = _
    rw [s_seq, h3]
    show dSeq _ _ _ _ = _
    rw [s_seq, c1]
    show dSeq _ _ _ _ = _
    rw [s_seq, c2]
    show dSeq _ _ _ _ = _
    rw [s_seq, d9]
    show dSeq _ _ _ _ = _
    rw [s_seq, d10]
    exact c5
  | ret d S => rw [q8] at h2; cases h2
  | brk e S => rw [q8] at h2; cases h2
  | cnt e S => rw [q8] at h2; cases h2
  | exc x e S => rw [q8] at h2; cases h2
  | fail => rw [q8] at h2; cases h2
/-- the turns -/
theorem turns_ok : ∀ (ds : List D) (rs : List (Str × Row)) (se wi sd : Rows) (T : Sto) (b : SO) (x3 x8 x9 x10 x11 x12 x13 x14 x15 x16 x17 : Option D), TI P rs se wi sd T → rs.length + ds.length ≤ 40 → IsBox b →
    ∃ (e : Dn.Env) (S' : Sto) (y : List (Option D)), forGo any_ (gN 3) bT ds (eL P sc kk x3 x8 x9 x10 x11 x12 x13 x14 x15 x16 x17) (St P b rs se wi sd T) = .nx (sc :: y) S' ∧ y.length = 17
  | [], rs, se, wi, sd, T, b, x3, x8, x9, x10, x11, x12, x13, x14, x15, x16, x17, I, hl, hb => ⟨[], _, _, rfl, rfl⟩
  | d :: ds, rs, se, wi, sd, T, b, x3, x8, x9, x10, x11, x12, x13, x14, x15, x16, x17, I, hl, hb => by
    have hl' : rs.length + (ds.length + 1) ≤ 40 := hl
    obtain ⟨rs', se', wi', sd', T', b', y8, y9, y10, y11, y12, y13, y14, y15, y16, h1, I', h2, hb'⟩ := turn_ok (sc := sc) (kk := kk) (x3 := some d) (x8 := x8) (x9 := x9) (x10 := x10) (x11 := x11) (x12 := x12) (x13 := x13) (x14 := x14) (x15 := x15) (x16 := x16) (x17 := x17) I (by omega) hb
    obtain ⟨e, S', y, h3, h4⟩ := turns_ok ds rs' se' wi' sd' T' b' (some d) y8 y9 y10 y11 y12 y13 y14 y15 y16 x17 I' (by omega) hb'
    refine ⟨e, S', y, ?_, h4⟩
    unfold forGo
    rw [if_pos rfl]
    show (match bT (eL P sc kk (some d) x8 x9 x10 x11 x12 x13 x14 x15 x16 x17) (St P b rs se wi sd T) with | .nx e2 S2 => _ | .cnt e2 S2 => _ | .brk e2 S2 => _ | r => _) = _
    rw [h1]
    exact h3
theorem first_TI : TI P [] [("zz", .ref (tx P 1))] [("zz", .non)] [] (T2 P) := by
  refine ⟨⟨fun c d h => ?_, by simp, show 1 < 64 by decide, rfl, rfl, fun c h => (ag_mem (m := [("zz", .ref (tx P 1))])).mpr (show c ∈ [("zz" : Str)] from (ag_mem (m := [("zz", .non)])).mp h)⟩, by simp, by simp, fun c h => ?_, fun c h => ?_, fun c hc => ?_, fun c d h => ?_, fun p h => ?_⟩
  · have h' := List.mem_singleton.mp h
    cases h'
    exact ⟨1, true, 2, rfl, rfl, rfl⟩
  · have := ag_mem.mp h
    simp at this
    subst this
    exact List.mem_cons_self
  · cases h
  · show (if _ then _ else _) = _
    rw [if_neg (fun e => hc e.symm)]
  · cases h
  · cases h
/-- one cell's house -/
theorem cell_ok (ns : List Int) (k : Nat) (S : Sto) (x2 x3 x4 x5 x6 x7 x8 x9 x10 x11 x12 x13 x14 x15 x16 x17 : Option D) :
    ∃ (S' : Sto) (y : List (Option D)), bK [some (.frl (ns.map .int)), some (.int k), x2, x3, x4, x5, x6, x7, x8, x9, x10, x11, x12, x13, x14, x15, x16, x17] S = .nx (some (.frl (ns.map .int)) :: y) S' ∧ y.length = 17 := by
  obtain ⟨i, j, h1⟩ := box_ok ns k S
  have hb : IsBox (.lst [.int i, .int j]) := ⟨i, j, rfl⟩
  have e0 : S.length = hx S 0 := rfl
  have s1 : (dSet 2 (dArg (gcall 2 D__law_box) (dCons (dVar 0) (dCons (dVar 1) dNil)))) [some (.frl (ns.map .int)), some (.int k), x2, x3, x4, x5, x6, x7, x8, x9, x10, x11, x12, x13, x14, x15, x16, x17] S = .nx [some (.frl (ns.map .int)), some (.int k), some (.ref (hx S 0)), x3, x4, x5, x6, x7, x8, x9, x10, x11, x12, x13, x14, x15, x16, x17] (S ++ [.lst [.int i, .int j]]) := by
    simp [h1]
    exact e0
  have s2 : (dAsg (dArg mkTup (dCons (dMake "House" 0 1 gD_House___init___1_window (gcall 2 D_House___init__) dNil (dCons (dC (.int 3)) dNil)) (dCons (dArg mkLstM dNil) (dCons dNewD (dCons (dArg mkLstM dNil) dNil))))) (gT [(gN 4), (gN 5), (gN 6), (gN 7)])) [some (.frl (ns.map .int)), some (.int k), some (.ref (hx S 0)), x3, x4, x5, x6, x7, x8, x9, x10, x11, x12, x13, x14, x15, x16, x17] (S ++ [.lst [.int i, .int j]]) = .nx (eL S (some (.frl (ns.map .int))) (some (.int k)) x3 x8 x9 x10 x11 x12 x13 x14 x15 x16 x17) (sto S (.lst [.int i, .int j]) (.lst []) (dO []) (dO []) (dO []) (.lst []) (dO []) []) := by
    have m1 := fun env => make_house (P := S) (b := .lst [.int i, .int j]) (env := env) rfl
    simp [dAsg, m1, mkLstM, LIM, dNewD, mkTup, gT, unpk, gN, onlyG, eL]
    refine ⟨⟨?_, ?_, ?_⟩, ?_⟩ <;> simp [hx, sto, dO]
  have s3 : (dDrop (dMeth "House" "come" 1 0 gD_House_come_2_ (gcall 4 D_House_come) (dVar 4) (dCons (dC (.str "zz")) dNil) dNil)) (eL S (some (.frl (ns.map .int))) (some (.int k)) x3 x8 x9 x10 x11 x12 x13 x14 x15 x16 x17) (sto S (.lst [.int i, .int j]) (.lst []) (dO []) (dO []) (dO []) (.lst []) (dO []) []) = .nx (eL S (some (.frl (ns.map .int))) (some (.int k)) x3 x8 x9 x10 x11 x12 x13 x14 x15 x16 x17) (sto S (.lst [.int i, .int j]) (.lst []) (dO [("zz", .ref (tx S 1))]) (dO [("zz", .non)]) (dO []) (.lst []) (dO []) (T1 S)) := by
    simp [eL, e_meth, gD_House_come_2_, gcall_eq, come_zz]
  have s4 : (dDrop (dMeth "House" "wants" 2 1 gD_House_wants_3_quality (gcall 4 D_House_wants) (dVar 4) (dCons (dC (.str "zz")) (dCons (dC (.str "#")) dNil)) (dCons (dC (.int 2)) dNil))) (eL S (some (.frl (ns.map .int))) (some (.int k)) x3 x8 x9 x10 x11 x12 x13 x14 x15 x16 x17) (sto S (.lst [.int i, .int j]) (.lst []) (dO [("zz", .ref (tx S 1))]) (dO [("zz", .non)]) (dO []) (.lst []) (dO []) (T1 S)) = .nx (eL S (some (.frl (ns.map .int))) (some (.int k)) x3 x8 x9 x10 x11 x12 x13 x14 x15 x16 x17) (St S (.lst [.int i, .int j]) [] [("zz", .ref (tx S 1))] [("zz", .non)] [] (T2 S)) := by
    simp [eL, e_meth, gD_House_wants_3_quality, gcall_eq, wants_zz]
    rfl
  obtain ⟨q, b', t1, t2, t3, t4⟩ := take_b (S := St S (.lst [.int i, .int j]) [] [("zz", .ref (tx S 1))] [("zz", .non)] [] (T2 S)) (m := hx S 0) (c := 21) St_get0 hb (by omega)
  rw [St_box] at t1
  obtain ⟨_, S', y, g1, g2⟩ := turns_ok (P := S) (sc := some (.frl (ns.map .int))) (kk := some (.int k)) (rngD 0 q.toNat) [] _ _ _ _ b' x3 x8 x9 x10 x11 x12 x13 x14 x15 x16 x17 first_TI (by simp [rngD]; omega) t2
  refine ⟨S', y, ?_, g2⟩
  have r1 := rng_ok (n := q) (S := St S b' [] [("zz", .ref (tx S 1))] [("zz", .non)] [] (T2 S)) (by omega)
  have s5 : (dFor (dArg rng1 (dCons (dArg (bcall 2 0 D__law_take) (dCons (dVar 2) (dCons (dC (.int 21)) dNil))) dNil)) (gN 3) bT) (eL S (some (.frl (ns.map .int))) (some (.int k)) x3 x8 x9 x10 x11 x12 x13 x14 x15 x16 x17) (St S (.lst [.int i, .int j]) [] [("zz", .ref (tx S 1))] [("zz", .non)] [] (T2 S)) = .nx (some (.frl (ns.map .int)) :: y) S' := by
    unfold dFor
    have z : (dArg rng1 (dCons (dArg (bcall 2 0 D__law_take) (dCons (dVar 2) (dCons (dC (.int 21)) dNil))) dNil)) (eL S (some (.frl (ns.map .int))) (some (.int k)) x3 x8 x9 x10 x11 x12 x13 x14 x15 x16 x17) (St S (.lst [.int i, .int j]) [] [("zz", .ref (tx S 1))] [("zz", .non)] [] (T2 S)) = .ok (rngD 0 q.toNat, any_) (St S b' [] [("zz", .ref (tx S 1))] [("zz", .non)] [] (T2 S)) := by
      simp [eL, t1, r1]
    rw [z]
    exact g1
  unfold bK
  rw [s_seq, s1]
  show dSeq _ _ _ _ = _
  rw [s_seq, s2]
  show dSeq _ _ _ _ = _
  rw [s_seq, s3]
  show dSeq _ _ _ _ = _
  rw [s_seq, s4]
  exact s5
theorem cells_ok (ns : List Int) : ∀ (ks : List Nat) (y : List (Option D)) (S : Sto), y.length = 17 → ∃ (y' : List (Option D)) (S' : Sto), forGo any_ (gN 1) bK (ks.map fun (k : Nat) => D.int k) (some (.frl (ns.map .int)) :: y) S = .nx (some (.frl (ns.map .int)) :: y') S'
  | [], y, S, _ => ⟨y, S, rfl⟩
  | k :: ks, y, S, hy => by
    match y, hy with
    | [x1, x2, x3, x4, x5, x6, x7, x8, x9, x10, x11, x12, x13, x14, x15, x16, x17], _ =>
      obtain ⟨S1, y1, h1, h2⟩ := cell_ok ns k S x2 x3 x4 x5 x6 x7 x8 x9 x10 x11 x12 x13 x14 x15 x16 x17
      obtain ⟨y2, S2, h3⟩ := cells_ok ns ks y1 S1 h2
      refine ⟨y2, S2, ?_⟩
      rw [List.map_cons]
      unfold forGo
      rw [if_pos rfl]
      show (match bK [some (.frl (ns.map .int)), some (.int k), x2, x3, x4, x5, x6, x7, x8, x9, x10, x11, x12, x13, x14, x15, x16, x17] S with | .nx e2 S2 => _ | .cnt e2 S2 => _ | .brk e2 S2 => _ | r => _) = _
      rw [h1]
      exact h3
/-- the law at every script -/
theorem law_true (ns : List Int) (S : Sto) : ∃ S', D_law [.frl (ns.map .int)] S = .ok (.bl true) S' := by
  have hn : ∃ n : Nat, n ≤ 3 ∧ (dArg rng1 (dCons (dArg maxV (dCons (dC (.int 1)) (dCons (dArg minV (dCons (dArg lenV2 (dCons (dVar 0) dNil)) (dCons (dC (.int 3)) dNil))) dNil))) dNil)) (some (.frl (ns.map .int)) :: List.replicate 17 none) S = .ok ((List.range n).map fun (k : Nat) => D.int k, any_) S := by
    have a1 : lenV2 [.frl (ns.map .int)] S = .ok (.int ns.length) S := by simp [lenV2, lenV, seqS]
    have a2 : minV [.int ns.length, .int 3] S = .ok (.int (if 3 < (ns.length : Int) then 3 else ns.length)) S := rfl
    generalize hm : (if 3 < (ns.length : Int) then 3 else (ns.length : Int)) = m at a2
    have a3 : maxV [.int 1, .int m] S = .ok (.int (if m > 1 then m else 1)) S := rfl
    generalize hm2 : (if m > 1 then m else 1) = m2 at a3
    have hb : 0 ≤ m2 ∧ m2 ≤ 3 := by
      rw [← hm2]
      split at hm <;> split <;> omega
    have a4 := rng_ok (n := m2) (S := S) (by omega)
    refine ⟨m2.toNat, by omega, ?_⟩
    have e : rngD 0 m2.toNat = (List.range m2.toNat).map fun (k : Nat) => D.int k := by simp [rngD]
    rw [← e]
    simp [a1, a2, a3, a4]
  obtain ⟨n, hn3, h1⟩ := hn
  obtain ⟨y', S', h2⟩ := cells_ok ns (List.range n) (List.replicate 17 none) S rfl
  refine ⟨S', ?_⟩
  show outD (dSeq (dFor _ (gN 1) bK) (dRet (dC (.bl true))) (some (.frl (ns.map .int)) :: List.replicate 17 none) S) = _
  rw [s_seq]
  have h3 : dFor (dArg rng1 (dCons (dArg maxV (dCons (dC (.int 1)) (dCons (dArg minV (dCons (dArg lenV2 (dCons (dVar 0) dNil)) (dCons (dC (.int 3)) dNil))) dNil))) dNil)) (gN 1) bK (some (.frl (ns.map .int)) :: List.replicate 17 none) S = .nx (some (.frl (ns.map .int)) :: y') S' := by
    unfold dFor
    rw [h1]
    exact h2
  rw [h3]
  rfl
end
end T55

set_option Elab.async false
set_option linter.all false
set_option maxRecDepth 100000
set_option maxHeartbeats 0
namespace T55
open PySem PySem.Spec PyProof.Rows L2 Dn
def dp__law_box : He.DefD := ⟨("_law_box", none), "_law_box", "_law_box", defArgs s__law_box, defBody s__law_box, defScope s__law_box, [], []⟩
def dp_is_among : He.DefD := ⟨("is_among", none), "is_among", "is_among", defArgs s_is_among, defBody s_is_among, defScope s_is_among, [], []⟩
def dp_is_number : He.DefD := ⟨("is_number", none), "is_number", "is_number", defArgs s_is_number, defBody s_is_number, defScope s_is_number, [], []⟩
def dp_need_window : He.DefD := ⟨("need_window", none), "need_window", "need_window", defArgs s_need_window, defBody s_need_window, defScope s_need_window, [], []⟩
def dp_is_lettered : He.DefD := ⟨("is_lettered", none), "is_lettered", "is_lettered", defArgs s_is_lettered, defBody s_is_lettered, defScope s_is_lettered, [], []⟩
def dp_is_caller : He.DefD := ⟨("is_caller", none), "is_caller", "is_caller", defArgs s_is_caller, defBody s_is_caller, defScope s_is_caller, [], []⟩
def dp_need_caller : He.DefD := ⟨("need_caller", none), "need_caller", "need_caller", defArgs s_need_caller, defBody s_need_caller, defScope s_need_caller, [], []⟩
def dp_is_level : He.DefD := ⟨("is_level", none), "is_level", "is_level", defArgs s_is_level, defBody s_is_level, defScope s_is_level, [], []⟩
def dp_is_name : He.DefD := ⟨("is_name", none), "is_name", "is_name", defArgs s_is_name, defBody s_is_name, defScope s_is_name, [], []⟩
def dp_is_word : He.DefD := ⟨("is_word", none), "is_word", "is_word", defArgs s_is_word, defBody s_is_word, defScope s_is_word, [], []⟩
def dp_is_quality : He.DefD := ⟨("is_quality", none), "is_quality", "is_quality", defArgs s_is_quality, defBody s_is_quality, defScope s_is_quality, [], []⟩
def dp_is_truth : He.DefD := ⟨("is_truth", none), "is_truth", "is_truth", defArgs s_is_truth, defBody s_is_truth, defScope s_is_truth, [], []⟩
def dp_is_will : He.DefD := ⟨("is_will", none), "is_will", "is_will", defArgs s_is_will, defBody s_is_will, defScope s_is_will, [], []⟩
def dp_need_will : He.DefD := ⟨("need_will", none), "need_will", "need_will", defArgs s_need_will, defBody s_need_will, defScope s_need_will, [], []⟩
def dp_does_match : He.DefD := ⟨("does_match", none), "does_match", "does_match", defArgs s_does_match, defBody s_does_match, defScope s_does_match, [], []⟩
def dp_best_by : He.DefD := ⟨("best_by", none), "best_by", "best_by", defArgs s_best_by, defBody s_best_by, defScope s_best_by, [], []⟩
def dp_free_of : He.DefD := ⟨("free_of", none), "free_of", "free_of", defArgs s_free_of, defBody s_free_of, defScope s_free_of, [], []⟩
def dp_offer : He.DefD := ⟨("offer", none), "offer", "offer", defArgs s_offer, defBody s_offer, defScope s_offer, [], []⟩
def dp_sent_again : He.DefD := ⟨("sent_again", none), "sent_again", "sent_again", defArgs s_sent_again, defBody s_sent_again, defScope s_sent_again, [], []⟩
def dp_is_filter : He.DefD := ⟨("is_filter", none), "is_filter", "is_filter", defArgs s_is_filter, defBody s_is_filter, defScope s_is_filter, [], []⟩
def dp_need_filter : He.DefD := ⟨("need_filter", none), "need_filter", "need_filter", defArgs s_need_filter, defBody s_need_filter, defScope s_need_filter, [], []⟩
def dp_need_quality : He.DefD := ⟨("need_quality", none), "need_quality", "need_quality", defArgs s_need_quality, defBody s_need_quality, defScope s_need_quality, [], []⟩
def dp_order_of : He.DefD := ⟨("order_of", none), "order_of", "order_of", defArgs s_order_of, defBody s_order_of, defScope s_order_of, [], []⟩
def dp__law_more : He.DefD := ⟨("_law_more", none), "_law_more", "_law_more", defArgs s__law_more, defBody s__law_more, defScope s__law_more, [], []⟩
def dp__law_take : He.DefD := ⟨("_law_take", none), "_law_take", "_law_take", defArgs s__law_take, defBody s__law_take, defScope s__law_take, [], []⟩
def dp__law_level : He.DefD := ⟨("_law_level", none), "_law_level", "_law_level", defArgs s__law_level, defBody s__law_level, defScope s__law_level, [], []⟩
def dp__law_topic : He.DefD := ⟨("_law_topic", none), "_law_topic", "_law_topic", defArgs s__law_topic, defBody s__law_topic, defScope s__law_topic, [], []⟩
def dp__law_text : He.DefD := ⟨("_law_text", none), "_law_text", "_law_text", defArgs s__law_text, defBody s__law_text, defScope s__law_text, [], []⟩
def dp__law_will : He.DefD := ⟨("_law_will", none), "_law_will", "_law_will", defArgs s__law_will, defBody s__law_will, defScope s__law_will, [], []⟩
def dp__law_words_to : He.DefD := ⟨("_law_words_to", none), "_law_words_to", "_law_words_to", defArgs s__law_words_to, defBody s__law_words_to, defScope s__law_words_to, [], []⟩
def dp_law : He.DefD := ⟨("law", none), "law", "law", defArgs s_law, defBody s_law, defScope s_law, [], []⟩
def fn : List He.DefD := [dp__law_box, dp_is_among, dp_is_number, dp_need_window, dd_House___init__, dp_is_lettered, dp_is_caller, dp_need_caller, dp_is_level, dp_is_name, dp_is_word, dp_is_quality, dp_is_truth, dp_is_will, dp_need_will, dd_House_need_on, dd_House_off, dp_does_match, dp_best_by, dd_House_worded, dp_free_of, dp_offer, dd_House_drained, dd_House_given_to, dd_House_accept, dd_House_cut, dd_Session___init__, dp_sent_again, dd_House_come, dp_is_filter, dp_need_filter, dp_need_quality, dp_order_of, dd_House_kept_names, dd_House_wants, dp__law_more, dp__law_take, dp__law_level, dp__law_topic, dp__law_text, dp__law_will, dd_House_goes, dd_House_accepted, dd_House_on, dp__law_words_to, dd_House_kept, dp_law]
def fa0 : List He.Fa := [.free "len", .free "abs", .free "range", .free "int", .free "isinstance", .free "bool", .int "MOST_WINDOW" 3, .glo "House", .cls "House", .noat "House" "own_window", .noat "House" "own_words", .noat "House" "own_sessions", .noat "House" "own_wills", .noat "House" "own_kept", .free "str", .str "LETTERS" "abcdefghijklmnopqrstuvwxyz", .free "all", .int "MOST_CALLER" 3, .int "MOST_LETTERS" 3, .int "MOST_LEVELS" 4, .int "MOST_WORD" 12, .free "tuple", .glo "Session", .cls "Session", .noat "Session" "clean", .free "enumerate", .str "REST" "#", .str "ANY" "+", .free "max", .noat "Session" "queue"]
def fa1 : List He.Fa := [.noat "Session" "out", .free "sorted", .noat "Session" "liked", .free "min", .noat "Session" "notes", .glo "RIGHT", .free "list", .int "MOST_WANTS" 8, .free "divmod", .free "repr", .glo "_law_box", .glo "is_among", .glo "is_number", .glo "need_window", .mkr "House", .glo "is_lettered", .glo "is_caller", .glo "need_caller", .glo "is_level", .glo "is_name", .glo "is_word", .glo "is_quality", .glo "is_truth", .glo "is_will", .glo "need_will", .meth "House" "need_on", .meth "House" "off", .glo "does_match", .glo "best_by", .meth "House" "worded"]
def fa2 : List He.Fa := [.glo "free_of", .glo "offer", .meth "House" "drained", .meth "House" "given_to", .meth "House" "accept", .meth "House" "cut", .mkr "Session", .glo "sent_again", .meth "House" "come", .glo "is_filter", .glo "need_filter", .glo "need_quality", .glo "order_of", .meth "House" "kept_names", .meth "House" "wants", .glo "_law_more", .glo "_law_take", .glo "_law_level", .glo "_law_topic", .glo "_law_text", .glo "_law_will", .meth "House" "goes", .meth "House" "accepted", .meth "House" "on", .glo "_law_words_to", .meth "House" "kept", .glo "law"]
def fa : List He.Fa := fa0 ++ fa1 ++ fa2
def ev_RIGHT : List He.Dv := [.bl true, .bl true, .bl false, .bl false, .bl false, .bl true]
def ex (K : PySem.W.Frag) : Bool := He.tupB K "RIGHT" ev_RIGHT
theorem rep_RIGHT {P : Program} {w : World} {K : PySem.W.Frag} {mg : Str → Option Value} {g : Gh} (cx : ex K = true) : Rep K ⟨mg, P, w⟩ g c_RIGHT (.ref (He.ga K "RIGHT")) := .tup (He.tupB_ok (vs := ev_RIGHT) cx g.im) (.cons (.bl true) (.cons (.bl true) (.cons (.bl false) (.cons (.bl false) (.cons (.bl false) (.cons (.bl true) (.nil)))))))
abbrev R : PySem.W.OpenRow := PySem.W.OpenLaw.row PySem.Challenge.rw_wordferry_k55_whole_wills
abbrev hk : PySem.W.Hook := hookE 4 fa fn ex
def ob (s : PySem.W.SharedT) : AlE := obsEG 4 fa fn ex (HandSHeadRun.getT s)
theorem ob_eq (s : PySem.W.SharedT) : ob s = hk.obs s.abs := obsEG_eq (HandSHeadRun.getT_eq s)
def nm0 : List PySem.Str := ["_wall", "__name__", "FerryError", "NoThing", "NotNow", "NoFilter", "NoQuality", "NoCaller", "NoWindow", "NoWill", "Busy", "Off", "TooMany", "LETTERS", "MOST_CALLER", "MOST_WORD", "is_among", "is_truth", "is_lettered", "is_caller", "is_word", "is_quality", "need_caller", "need_quality", "RIGHT", "MOST_WINDOW", "is_number", "need_window", "free_of", "offer"]
def nm1 : List PySem.Str := ["sent_again", "MOST_LETTERS", "MOST_LEVELS", "ANY", "REST", "is_level", "is_name", "is_filter", "need_filter", "order_of", "does_match", "best_by", "is_will", "need_will", "MOST_WANTS", "Session", "House", "_law_box", "_law_more", "_law_take", "_law_level", "_law_topic", "_law_text", "_law_will", "_law_words_to"]
def nms : List PySem.Str := nm0 ++ nm1
theorem run (w : World) : HandSHeadRun.RunEq R (PySem.W.view R.prog [61]) hk ob 20000 nms w := by
  intro os
  kernel_rfl
theorem facts {P : Program} {w : World} {K : PySem.W.Frag} {h : Heap} {mg : Str → Option Value} {f : Addr} (X : K.In h) (Gn : h.Ns mainGlobals mg) (hfa : mg ("law" : Str) = some (.ref f)) (c : He.SaysD fa fn K) (cx : ex K = true) :
    ∃ fd : FuncData, (∀ (s : Shared) (v : Value), BindsTo s fd ⟨[v], []⟩ [("_law_script", v)]) ∧ ∀ base : Heap, K.In base → base.Ns mainGlobals mg → FnG P w K mg base (L2.CX P w) 8 f fd ["_law_script"] (SpD K ⟨mg, P, w⟩ 1 D_law) := by
  have GG : Gf P w K mg := ⟨He.free_ok X Gn (c.fact 0 rfl),
    He.free_ok X Gn (c.fact 1 rfl),
    He.free_ok X Gn (c.fact 2 rfl),
    He.free_ok X Gn (c.fact 3 rfl),
    He.free_ok X Gn (c.fact 4 rfl),
    He.free_ok X Gn (c.fact 5 rfl),
    (He.int_ok X Gn (c.fact 6 rfl)).elim fun t h => ⟨_, h, t, rfl⟩,
    ⟨_, He.glo_ok X Gn (c.fact 7 rfl), He.cls_ok (c.fact 8 rfl)⟩,
    ⟨fun C e => by cases e.symm.trans (He.glo_ok X Gn (c.fact 7 rfl)); exact He.noat_ok (c.fact 9 rfl)⟩,
    ⟨fun C e => by cases e.symm.trans (He.glo_ok X Gn (c.fact 7 rfl)); exact He.noat_ok (c.fact 10 rfl)⟩,
    ⟨fun C e => by cases e.symm.trans (He.glo_ok X Gn (c.fact 7 rfl)); exact He.noat_ok (c.fact 11 rfl)⟩,
    ⟨fun C e => by cases e.symm.trans (He.glo_ok X Gn (c.fact 7 rfl)); exact He.noat_ok (c.fact 12 rfl)⟩,
    ⟨fun C e => by cases e.symm.trans (He.glo_ok X Gn (c.fact 7 rfl)); exact He.noat_ok (c.fact 13 rfl)⟩,
    He.free_ok X Gn (c.fact 14 rfl),
    (He.str_ok X Gn (c.fact 15 rfl)).elim fun t h => ⟨_, h, t, rfl⟩,
    He.free_ok X Gn (c.fact 16 rfl),
    (He.int_ok X Gn (c.fact 17 rfl)).elim fun t h => ⟨_, h, t, rfl⟩,
    (He.int_ok X Gn (c.fact 18 rfl)).elim fun t h => ⟨_, h, t, rfl⟩,
    (He.int_ok X Gn (c.fact 19 rfl)).elim fun t h => ⟨_, h, t, rfl⟩,
    (He.int_ok X Gn (c.fact 20 rfl)).elim fun t h => ⟨_, h, t, rfl⟩,
    He.free_ok X Gn (c.fact 21 rfl),
    ⟨_, He.glo_ok X Gn (c.fact 22 rfl), He.cls_ok (c.fact 23 rfl)⟩,
    ⟨fun C e => by cases e.symm.trans (He.glo_ok X Gn (c.fact 22 rfl)); exact He.noat_ok (c.fact 24 rfl)⟩,
    He.free_ok X Gn (c.fact 25 rfl),
    (He.str_ok X Gn (c.fact 26 rfl)).elim fun t h => ⟨_, h, t, rfl⟩,
    (He.str_ok X Gn (c.fact 27 rfl)).elim fun t h => ⟨_, h, t, rfl⟩,
    He.free_ok X Gn (c.fact 28 rfl),
    ⟨fun C e => by cases e.symm.trans (He.glo_ok X Gn (c.fact 22 rfl)); exact He.noat_ok (c.fact 29 rfl)⟩,
    ⟨fun C e => by cases e.symm.trans (He.glo_ok X Gn (c.fact 22 rfl)); exact He.noat_ok (c.fact 30 rfl)⟩,
    He.free_ok X Gn (c.fact 31 rfl),
    ⟨fun C e => by cases e.symm.trans (He.glo_ok X Gn (c.fact 22 rfl)); exact He.noat_ok (c.fact 32 rfl)⟩,
    He.free_ok X Gn (c.fact 33 rfl),
    ⟨fun C e => by cases e.symm.trans (He.glo_ok X Gn (c.fact 22 rfl)); exact He.noat_ok (c.fact 34 rfl)⟩,
    ⟨.ref (He.ga K "RIGHT"), .ref (He.ga K "RIGHT"), He.glo_ok X Gn (c.fact 35 rfl), rfl, fun g => rep_RIGHT cx⟩,
    He.free_ok X Gn (c.fact 36 rfl),
    (He.int_ok X Gn (c.fact 37 rfl)).elim fun t h => ⟨_, h, t, rfl⟩,
    He.free_ok X Gn (c.fact 38 rfl),
    He.free_ok X Gn (c.fact 39 rfl)⟩
  obtain ⟨fd__law_box, F__law_box⟩ := c.def_ 0 (d := dp__law_box) rfl
  obtain ⟨fd_is_among, F_is_among⟩ := c.def_ 1 (d := dp_is_among) rfl
  obtain ⟨fd_is_number, F_is_number⟩ := c.def_ 2 (d := dp_is_number) rfl
  obtain ⟨fd_need_window, F_need_window⟩ := c.def_ 3 (d := dp_need_window) rfl
  obtain ⟨fd_House___init__, F_House___init__⟩ := c.def_ 4 (d := dd_House___init__) rfl
  obtain ⟨fd_is_lettered, F_is_lettered⟩ := c.def_ 5 (d := dp_is_lettered) rfl
  obtain ⟨fd_is_caller, F_is_caller⟩ := c.def_ 6 (d := dp_is_caller) rfl
  obtain ⟨fd_need_caller, F_need_caller⟩ := c.def_ 7 (d := dp_need_caller) rfl
  obtain ⟨fd_is_level, F_is_level⟩ := c.def_ 8 (d := dp_is_level) rfl
  obtain ⟨fd_is_name, F_is_name⟩ := c.def_ 9 (d := dp_is_name) rfl
  obtain ⟨fd_is_word, F_is_word⟩ := c.def_ 10 (d := dp_is_word) rfl
  obtain ⟨fd_is_quality, F_is_quality⟩ := c.def_ 11 (d := dp_is_quality) rfl
  obtain ⟨fd_is_truth, F_is_truth⟩ := c.def_ 12 (d := dp_is_truth) rfl
  obtain ⟨fd_is_will, F_is_will⟩ := c.def_ 13 (d := dp_is_will) rfl
  obtain ⟨fd_need_will, F_need_will⟩ := c.def_ 14 (d := dp_need_will) rfl
  obtain ⟨fd_House_need_on, F_House_need_on⟩ := c.def_ 15 (d := dd_House_need_on) rfl
  obtain ⟨fd_House_off, F_House_off⟩ := c.def_ 16 (d := dd_House_off) rfl
  obtain ⟨fd_does_match, F_does_match⟩ := c.def_ 17 (d := dp_does_match) rfl
  obtain ⟨fd_best_by, F_best_by⟩ := c.def_ 18 (d := dp_best_by) rfl
  obtain ⟨fd_House_worded, F_House_worded⟩ := c.def_ 19 (d := dd_House_worded) rfl
  obtain ⟨fd_free_of, F_free_of⟩ := c.def_ 20 (d := dp_free_of) rfl
  obtain ⟨fd_offer, F_offer⟩ := c.def_ 21 (d := dp_offer) rfl
  obtain ⟨fd_House_drained, F_House_drained⟩ := c.def_ 22 (d := dd_House_drained) rfl
  obtain ⟨fd_House_given_to, F_House_given_to⟩ := c.def_ 23 (d := dd_House_given_to) rfl
  obtain ⟨fd_House_accept, F_House_accept⟩ := c.def_ 24 (d := dd_House_accept) rfl
  obtain ⟨fd_House_cut, F_House_cut⟩ := c.def_ 25 (d := dd_House_cut) rfl
  obtain ⟨fd_Session___init__, F_Session___init__⟩ := c.def_ 26 (d := dd_Session___init__) rfl
  obtain ⟨fd_sent_again, F_sent_again⟩ := c.def_ 27 (d := dp_sent_again) rfl
  obtain ⟨fd_House_come, F_House_come⟩ := c.def_ 28 (d := dd_House_come) rfl
  obtain ⟨fd_is_filter, F_is_filter⟩ := c.def_ 29 (d := dp_is_filter) rfl
  obtain ⟨fd_need_filter, F_need_filter⟩ := c.def_ 30 (d := dp_need_filter) rfl
  obtain ⟨fd_need_quality, F_need_quality⟩ := c.def_ 31 (d := dp_need_quality) rfl
  obtain ⟨fd_order_of, F_order_of⟩ := c.def_ 32 (d := dp_order_of) rfl
  obtain ⟨fd_House_kept_names, F_House_kept_names⟩ := c.def_ 33 (d := dd_House_kept_names) rfl
  obtain ⟨fd_House_wants, F_House_wants⟩ := c.def_ 34 (d := dd_House_wants) rfl
  obtain ⟨fd__law_more, F__law_more⟩ := c.def_ 35 (d := dp__law_more) rfl
  obtain ⟨fd__law_take, F__law_take⟩ := c.def_ 36 (d := dp__law_take) rfl
  obtain ⟨fd__law_level, F__law_level⟩ := c.def_ 37 (d := dp__law_level) rfl
  obtain ⟨fd__law_topic, F__law_topic⟩ := c.def_ 38 (d := dp__law_topic) rfl
  obtain ⟨fd__law_text, F__law_text⟩ := c.def_ 39 (d := dp__law_text) rfl
  obtain ⟨fd__law_will, F__law_will⟩ := c.def_ 40 (d := dp__law_will) rfl
  obtain ⟨fd_House_goes, F_House_goes⟩ := c.def_ 41 (d := dd_House_goes) rfl
  obtain ⟨fd_House_accepted, F_House_accepted⟩ := c.def_ 42 (d := dd_House_accepted) rfl
  obtain ⟨fd_House_on, F_House_on⟩ := c.def_ 43 (d := dd_House_on) rfl
  obtain ⟨fd__law_words_to, F__law_words_to⟩ := c.def_ 44 (d := dp__law_words_to) rfl
  obtain ⟨fd_House_kept, F_House_kept⟩ := c.def_ 45 (d := dd_House_kept) rfl
  obtain ⟨fd_law, F_law⟩ := c.def_ 46 (d := dp_law) rfl
  have e := hfa.symm.trans (He.glo_ok X Gn (c.fact 86 (f := .glo "law") rfl))
  cases e
  have b := FunD.bindsA (ps := ["_law_script"]) F_law fun _ _ _ _ _ _ us hl => match us, hl with | [_], _ => rfl
  refine ⟨fd_law, fun s v => b s [v] rfl, fun base _ _ => ?_⟩
  have o__law_box := ok__law_box (base := base) GG F__law_box
  have h__law_box : Fn1 P w K mg base "_law_box" ["_law_script", "_law_k"] 1 D__law_box := ⟨_, fd__law_box, He.glo_ok X Gn (c.fact 40 rfl), F__law_box.kp, F__law_box.bindsN fun _ _ _ _ _ _ us hl => match us, hl with | [_, _], _ => rfl, o__law_box⟩
  have o_is_among := ok_is_among (base := base) GG F_is_among
  have h_is_among : Fn1 P w K mg base "is_among" ["thing", "least", "most"] 1 D_is_among := ⟨_, fd_is_among, He.glo_ok X Gn (c.fact 41 rfl), F_is_among.kp, F_is_among.bindsN fun _ _ _ _ _ _ us hl => match us, hl with | [_, _, _], _ => rfl, o_is_among⟩
  have o_is_number := ok_is_number (base := base) GG F_is_number h_is_among
  have h_is_number : Fn1 P w K mg base "is_number" ["thing"] 2 D_is_number := ⟨_, fd_is_number, He.glo_ok X Gn (c.fact 42 rfl), F_is_number.kp, F_is_number.bindsN fun _ _ _ _ _ _ us hl => match us, hl with | [_], _ => rfl, o_is_number⟩
  have o_need_window := ok_need_window (base := base) GG F_need_window h_is_number
  have h_need_window : Fn1 P w K mg base "need_window" ["thing"] 3 D_need_window := ⟨_, fd_need_window, He.glo_ok X Gn (c.fact 43 rfl), F_need_window.kp, F_need_window.bindsN fun _ _ _ _ _ _ us hl => match us, hl with | [_], _ => rfl, o_need_window⟩
  have o_House___init__ := ok_House___init__ (base := base) GG F_House___init__ h_need_window
  have i_House___init__ : Fi1 P w K mg base "House" dd_House___init__ ["self", "window"] 4 D_House___init__ := ⟨_, _, _, He.glo_ok X Gn (c.fact 7 rfl), He.mkr_ok (c.fact 44 rfl), F_House___init__, o_House___init__⟩
  have o_is_lettered := ok_is_lettered (base := base) GG F_is_lettered
  have h_is_lettered : Fn1 P w K mg base "is_lettered" ["thing", "least", "most"] 1 D_is_lettered := ⟨_, fd_is_lettered, He.glo_ok X Gn (c.fact 45 rfl), F_is_lettered.kp, F_is_lettered.bindsN fun _ _ _ _ _ _ us hl => match us, hl with | [_, _, _], _ => rfl, o_is_lettered⟩
  have o_is_caller := ok_is_caller (base := base) GG F_is_caller h_is_lettered
  have h_is_caller : Fn1 P w K mg base "is_caller" ["thing"] 2 D_is_caller := ⟨_, fd_is_caller, He.glo_ok X Gn (c.fact 46 rfl), F_is_caller.kp, F_is_caller.bindsN fun _ _ _ _ _ _ us hl => match us, hl with | [_], _ => rfl, o_is_caller⟩
  have o_need_caller := ok_need_caller (base := base) GG F_need_caller h_is_caller
  have h_need_caller : Fn1 P w K mg base "need_caller" ["thing"] 3 D_need_caller := ⟨_, fd_need_caller, He.glo_ok X Gn (c.fact 47 rfl), F_need_caller.kp, F_need_caller.bindsN fun _ _ _ _ _ _ us hl => match us, hl with | [_], _ => rfl, o_need_caller⟩
  have o_is_level := ok_is_level (base := base) GG F_is_level h_is_lettered
  have h_is_level : Fn1 P w K mg base "is_level" ["thing"] 2 D_is_level := ⟨_, fd_is_level, He.glo_ok X Gn (c.fact 48 rfl), F_is_level.kp, F_is_level.bindsN fun _ _ _ _ _ _ us hl => match us, hl with | [_], _ => rfl, o_is_level⟩
  have o_is_name := ok_is_name (base := base) GG F_is_name h_is_level
  have h_is_name : Fn1 P w K mg base "is_name" ["thing"] 3 D_is_name := ⟨_, fd_is_name, He.glo_ok X Gn (c.fact 49 rfl), F_is_name.kp, F_is_name.bindsN fun _ _ _ _ _ _ us hl => match us, hl with | [_], _ => rfl, o_is_name⟩
  have o_is_word := ok_is_word (base := base) GG F_is_word h_is_lettered
  have h_is_word : Fn1 P w K mg base "is_word" ["thing"] 2 D_is_word := ⟨_, fd_is_word, He.glo_ok X Gn (c.fact 50 rfl), F_is_word.kp, F_is_word.bindsN fun _ _ _ _ _ _ us hl => match us, hl with | [_], _ => rfl, o_is_word⟩
  have o_is_quality := ok_is_quality (base := base) GG F_is_quality h_is_among
  have h_is_quality : Fn1 P w K mg base "is_quality" ["thing"] 2 D_is_quality := ⟨_, fd_is_quality, He.glo_ok X Gn (c.fact 51 rfl), F_is_quality.kp, F_is_quality.bindsN fun _ _ _ _ _ _ us hl => match us, hl with | [_], _ => rfl, o_is_quality⟩
  have o_is_truth := ok_is_truth (base := base) GG F_is_truth
  have h_is_truth : Fn1 P w K mg base "is_truth" ["thing"] 1 D_is_truth := ⟨_, fd_is_truth, He.glo_ok X Gn (c.fact 52 rfl), F_is_truth.kp, F_is_truth.bindsN fun _ _ _ _ _ _ us hl => match us, hl with | [_], _ => rfl, o_is_truth⟩
  have o_is_will := ok_is_will (base := base) GG F_is_will h_is_name h_is_word h_is_quality h_is_truth
  have h_is_will : Fn1 P w K mg base "is_will" ["thing"] 4 D_is_will := ⟨_, fd_is_will, He.glo_ok X Gn (c.fact 53 rfl), F_is_will.kp, F_is_will.bindsN fun _ _ _ _ _ _ us hl => match us, hl with | [_], _ => rfl, o_is_will⟩
  have o_need_will := ok_need_will (base := base) GG F_need_will h_is_will
  have h_need_will : Fn1 P w K mg base "need_will" ["thing"] 5 D_need_will := ⟨_, fd_need_will, He.glo_ok X Gn (c.fact 54 rfl), F_need_will.kp, F_need_will.bindsN fun _ _ _ _ _ _ us hl => match us, hl with | [_], _ => rfl, o_need_will⟩
  have o_House_need_on := ok_House_need_on (base := base) GG F_House_need_on
  have h_House_need_on : Fm1 P w K mg base "House" "need_on" dd_House_need_on ["self", "caller"] 1 D_House_need_on := ⟨_, _, _, He.glo_ok X Gn (c.fact 7 rfl), He.cls_ok (c.fact 8 rfl), He.meth_ok (c.fact 55 rfl), F_House_need_on, o_House_need_on⟩
  have o_House_off := ok_House_off (base := base) GG F_House_off
  have h_House_off : Fm1 P w K mg base "House" "off" dd_House_off ["self", "caller"] 1 D_House_off := ⟨_, _, _, He.glo_ok X Gn (c.fact 7 rfl), He.cls_ok (c.fact 8 rfl), He.meth_ok (c.fact 56 rfl), F_House_off, o_House_off⟩
  have o_does_match := ok_does_match (base := base) GG F_does_match
  have h_does_match : Fn1 P w K mg base "does_match" ["pattern", "name"] 1 D_does_match := ⟨_, fd_does_match, He.glo_ok X Gn (c.fact 57 rfl), F_does_match.kp, F_does_match.bindsN fun _ _ _ _ _ _ us hl => match us, hl with | [_, _], _ => rfl, o_does_match⟩
  have o_best_by := ok_best_by (base := base) GG F_best_by h_does_match
  have h_best_by : Fn1 P w K mg base "best_by" ["wants", "name"] 2 D_best_by := ⟨_, fd_best_by, He.glo_ok X Gn (c.fact 58 rfl), F_best_by.kp, F_best_by.bindsN fun _ _ _ _ _ _ us hl => match us, hl with | [_, _], _ => rfl, o_best_by⟩
  have o_House_worded := ok_House_worded (base := base) GG F_House_worded
  have h_House_worded : Fm1 P w K mg base "House" "worded" dd_House_worded ["self", "caller", "packets"] 1 D_House_worded := ⟨_, _, _, He.glo_ok X Gn (c.fact 7 rfl), He.cls_ok (c.fact 8 rfl), He.meth_ok (c.fact 59 rfl), F_House_worded, o_House_worded⟩
  have o_free_of := ok_free_of (base := base) GG F_free_of
  have h_free_of : Fn1 P w K mg base "free_of" ["sender", "window"] 1 D_free_of := ⟨_, fd_free_of, He.glo_ok X Gn (c.fact 60 rfl), F_free_of.kp, F_free_of.bindsN fun _ _ _ _ _ _ us hl => match us, hl with | [_, _], _ => rfl, o_free_of⟩
  have o_offer := ok_offer (base := base) GG F_offer h_free_of
  have h_offer : Fn1 P w K mg base "offer" ["sender", "word", "quality", "window"] 2 D_offer := ⟨_, fd_offer, He.glo_ok X Gn (c.fact 61 rfl), F_offer.kp, F_offer.bindsN fun _ _ _ _ _ _ us hl => match us, hl with | [_, _, _, _], _ => rfl, o_offer⟩
  have o_House_drained := ok_House_drained (base := base) GG F_House_drained h_free_of h_offer h_House_worded
  have h_House_drained : Fm1 P w K mg base "House" "drained" dd_House_drained ["self", "caller"] 3 D_House_drained := ⟨_, _, _, He.glo_ok X Gn (c.fact 7 rfl), He.cls_ok (c.fact 8 rfl), He.meth_ok (c.fact 62 rfl), F_House_drained, o_House_drained⟩
  have o_House_given_to := ok_House_given_to (base := base) GG F_House_given_to h_House_worded h_House_drained
  have h_House_given_to : Fm1 P w K mg base "House" "given_to" dd_House_given_to ["self", "caller", "number", "quality"] 4 D_House_given_to := ⟨_, _, _, He.glo_ok X Gn (c.fact 7 rfl), He.cls_ok (c.fact 8 rfl), He.meth_ok (c.fact 63 rfl), F_House_given_to, o_House_given_to⟩
  have o_House_accept := ok_House_accept (base := base) GG F_House_accept h_best_by h_House_given_to
  have h_House_accept : Fm1 P w K mg base "House" "accept" dd_House_accept ["self", "row"] 5 D_House_accept := ⟨_, _, _, He.glo_ok X Gn (c.fact 7 rfl), He.cls_ok (c.fact 8 rfl), He.meth_ok (c.fact 64 rfl), F_House_accept, o_House_accept⟩
  have o_House_cut := ok_House_cut (base := base) GG F_House_cut h_need_caller h_House_need_on h_House_off h_House_accept
  have h_House_cut : Fm1 P w K mg base "House" "cut" dd_House_cut ["self", "caller"] 6 D_House_cut := ⟨_, _, _, He.glo_ok X Gn (c.fact 7 rfl), He.cls_ok (c.fact 8 rfl), He.meth_ok (c.fact 65 rfl), F_House_cut, o_House_cut⟩
  have o_Session___init__ := ok_Session___init__ (base := base) GG F_Session___init__
  have i_Session___init__ : Fi1 P w K mg base "Session" dd_Session___init__ ["self", "clean"] 1 D_Session___init__ := ⟨_, _, _, He.glo_ok X Gn (c.fact 22 rfl), He.mkr_ok (c.fact 66 rfl), F_Session___init__, o_Session___init__⟩
  have o_sent_again := ok_sent_again (base := base) GG F_sent_again
  have h_sent_again : Fn1 P w K mg base "sent_again" ["rules", "sender"] 1 D_sent_again := ⟨_, fd_sent_again, He.glo_ok X Gn (c.fact 67 rfl), F_sent_again.kp, F_sent_again.bindsN fun _ _ _ _ _ _ us hl => match us, hl with | [_, _], _ => rfl, o_sent_again⟩
  have o_House_come := ok_House_come (base := base) GG F_House_come h_need_caller h_need_will h_House_cut i_Session___init__ h_House_worded h_sent_again h_House_drained
  have h_House_come : Fm1 P w K mg base "House" "come" dd_House_come ["self", "caller", "clean", "will"] 7 D_House_come := ⟨_, _, _, He.glo_ok X Gn (c.fact 7 rfl), He.cls_ok (c.fact 8 rfl), He.meth_ok (c.fact 68 rfl), F_House_come, o_House_come⟩
  have o_is_filter := ok_is_filter (base := base) GG F_is_filter h_is_level
  have h_is_filter : Fn1 P w K mg base "is_filter" ["thing"] 3 D_is_filter := ⟨_, fd_is_filter, He.glo_ok X Gn (c.fact 69 rfl), F_is_filter.kp, F_is_filter.bindsN fun _ _ _ _ _ _ us hl => match us, hl with | [_], _ => rfl, o_is_filter⟩
  have o_need_filter := ok_need_filter (base := base) GG F_need_filter h_is_filter
  have h_need_filter : Fn1 P w K mg base "need_filter" ["thing"] 4 D_need_filter := ⟨_, fd_need_filter, He.glo_ok X Gn (c.fact 70 rfl), F_need_filter.kp, F_need_filter.bindsN fun _ _ _ _ _ _ us hl => match us, hl with | [_], _ => rfl, o_need_filter⟩
  have o_need_quality := ok_need_quality (base := base) GG F_need_quality h_is_quality
  have h_need_quality : Fn1 P w K mg base "need_quality" ["thing"] 3 D_need_quality := ⟨_, fd_need_quality, He.glo_ok X Gn (c.fact 71 rfl), F_need_quality.kp, F_need_quality.bindsN fun _ _ _ _ _ _ us hl => match us, hl with | [_], _ => rfl, o_need_quality⟩
  have o_order_of := ok_order_of (base := base) GG F_order_of
  have h_order_of : Fn1 P w K mg base "order_of" ["name"] 1 D_order_of := ⟨_, fd_order_of, He.glo_ok X Gn (c.fact 72 rfl), F_order_of.kp, F_order_of.bindsN fun _ _ _ _ _ _ us hl => match us, hl with | [_], _ => rfl, o_order_of⟩
  have o_House_kept_names := ok_House_kept_names (base := base) GG F_House_kept_names h_order_of
  have h_House_kept_names : Fm1 P w K mg base "House" "kept_names" dd_House_kept_names ["self"] 4 D_House_kept_names := ⟨_, _, _, He.glo_ok X Gn (c.fact 7 rfl), He.cls_ok (c.fact 8 rfl), He.meth_ok (c.fact 73 rfl), F_House_kept_names, o_House_kept_names⟩
  have o_House_wants := ok_House_wants (base := base) GG F_House_wants h_need_caller h_need_filter h_need_quality h_House_need_on h_House_kept_names h_does_match h_House_given_to
  have h_House_wants : Fm1 P w K mg base "House" "wants" dd_House_wants ["self", "caller", "pattern", "quality"] 5 D_House_wants := ⟨_, _, _, He.glo_ok X Gn (c.fact 7 rfl), He.cls_ok (c.fact 8 rfl), He.meth_ok (c.fact 74 rfl), F_House_wants, o_House_wants⟩
  have o__law_more := ok__law_more (base := base) GG F__law_more
  have h__law_more : Fn1 P w K mg base "_law_more" ["_law_box_here"] 1 D__law_more := ⟨_, fd__law_more, He.glo_ok X Gn (c.fact 75 rfl), F__law_more.kp, F__law_more.bindsN fun _ _ _ _ _ _ us hl => match us, hl with | [_], _ => rfl, o__law_more⟩
  have o__law_take := ok__law_take (base := base) GG F__law_take h__law_more
  have h__law_take : Fn1 P w K mg base "_law_take" ["_law_box_here", "_law_count"] 2 D__law_take := ⟨_, fd__law_take, He.glo_ok X Gn (c.fact 76 rfl), F__law_take.kp, F__law_take.bindsN fun _ _ _ _ _ _ us hl => match us, hl with | [_, _], _ => rfl, o__law_take⟩
  have o__law_level := ok__law_level (base := base) GG F__law_level h__law_take
  have h__law_level : Fn1 P w K mg base "_law_level" ["_law_box_here"] 3 D__law_level := ⟨_, fd__law_level, He.glo_ok X Gn (c.fact 77 rfl), F__law_level.kp, F__law_level.bindsN fun _ _ _ _ _ _ us hl => match us, hl with | [_], _ => rfl, o__law_level⟩
  have o__law_topic := ok__law_topic (base := base) GG F__law_topic h__law_take h__law_level
  have h__law_topic : Fn1 P w K mg base "_law_topic" ["_law_box_here"] 4 D__law_topic := ⟨_, fd__law_topic, He.glo_ok X Gn (c.fact 78 rfl), F__law_topic.kp, F__law_topic.bindsN fun _ _ _ _ _ _ us hl => match us, hl with | [_], _ => rfl, o__law_topic⟩
  have o__law_text := ok__law_text (base := base) GG F__law_text h__law_take
  have h__law_text : Fn1 P w K mg base "_law_text" ["_law_box_here"] 3 D__law_text := ⟨_, fd__law_text, He.glo_ok X Gn (c.fact 79 rfl), F__law_text.kp, F__law_text.bindsN fun _ _ _ _ _ _ us hl => match us, hl with | [_], _ => rfl, o__law_text⟩
  have o__law_will := ok__law_will (base := base) GG F__law_will h__law_take h__law_topic h__law_text
  have h__law_will : Fn1 P w K mg base "_law_will" ["_law_box_here"] 5 D__law_will := ⟨_, fd__law_will, He.glo_ok X Gn (c.fact 80 rfl), F__law_will.kp, F__law_will.bindsN fun _ _ _ _ _ _ us hl => match us, hl with | [_], _ => rfl, o__law_will⟩
  have o_House_goes := ok_House_goes (base := base) GG F_House_goes h_need_caller h_House_need_on h_House_off
  have h_House_goes : Fm1 P w K mg base "House" "goes" dd_House_goes ["self", "caller"] 4 D_House_goes := ⟨_, _, _, He.glo_ok X Gn (c.fact 7 rfl), He.cls_ok (c.fact 8 rfl), He.meth_ok (c.fact 81 rfl), F_House_goes, o_House_goes⟩
  have o_House_accepted := ok_House_accepted (base := base) GG F_House_accepted
  have h_House_accepted : Fm1 P w K mg base "House" "accepted" dd_House_accepted ["self"] 1 D_House_accepted := ⟨_, _, _, He.glo_ok X Gn (c.fact 7 rfl), He.cls_ok (c.fact 8 rfl), He.meth_ok (c.fact 82 rfl), F_House_accepted, o_House_accepted⟩
  have o_House_on := ok_House_on (base := base) GG F_House_on
  have h_House_on : Fm1 P w K mg base "House" "on" dd_House_on ["self"] 1 D_House_on := ⟨_, _, _, He.glo_ok X Gn (c.fact 7 rfl), He.cls_ok (c.fact 8 rfl), He.meth_ok (c.fact 83 rfl), F_House_on, o_House_on⟩
  have o__law_words_to := ok__law_words_to (base := base) GG F__law_words_to
  have h__law_words_to : Fn1 P w K mg base "_law_words_to" ["_law_rows", "_law_caller"] 1 D__law_words_to := ⟨_, fd__law_words_to, He.glo_ok X Gn (c.fact 84 rfl), F__law_words_to.kp, F__law_words_to.bindsN fun _ _ _ _ _ _ us hl => match us, hl with | [_, _], _ => rfl, o__law_words_to⟩
  have o_House_kept := ok_House_kept (base := base) GG F_House_kept h_House_kept_names
  have h_House_kept : Fm1 P w K mg base "House" "kept" dd_House_kept ["self"] 5 D_House_kept := ⟨_, _, _, He.glo_ok X Gn (c.fact 7 rfl), He.cls_ok (c.fact 8 rfl), He.meth_ok (c.fact 85 rfl), F_House_kept, o_House_kept⟩
  exact ok_law (base := base) GG F_law h__law_box i_House___init__ h_House_come h_House_wants h__law_take h__law_will h_House_cut h_House_goes h_House_accepted h_House_on h__law_words_to h_House_kept
end T55
open PySem PySem.W PySem.Calls PyProof.Rows
theorem PySem.Challenge.cw_wordferry_k55_whole_wills_holds : PySem.Challenge.rw_wordferry_k55_whole_wills.Holds := by
  w_on; o_law
  refine HandSHeadRun.head_any (r := OpenLaw.row PySem.Challenge.rw_wordferry_k55_whole_wills) (q := view (OpenLaw.row PySem.Challenge.rw_wordferry_k55_whole_wills).prog [61]) (H := T55.hk) (ob := T55.ob) (M := 20000) (loose := T55.nms) (d := HandSHeadRun.topDef (OpenLaw.row PySem.Challenge.rw_wordferry_k55_whole_wills).prog 61) (kwd := []) T55.ob_eq
    (by kernel_rfl) (fun s => by kernel_rfl) T55.run (by kernel_rfl) (by kernel_rfl) (by kernel_rfl) (by rfl) (by first | assumption | decide +kernel) (by decide +kernel) ⟨rfl, rfl, rfl, rfl, rfl, by decide +kernel⟩ ?hw ?hc
  case hw => w_witness2
  case hc =>
    refine L2.walk_ofGW (l := PySem.Challenge.rw_wordferry_k55_whole_wills) (n := 63) (k := 8) (x := "_law_script") rfl (by decide) (by kernel_rfl) ⟨rfl, by decide, by decide⟩ ?F
    case F =>
      intro w mg fa h Y G hmg0
      obtain ⟨K, KX, c, cx⟩ := Y
      have hmg : mg ("law" : PySem.Str) = some (.ref fa) := by
        have e : (HandSHeadRun.topDef (OpenLaw.row PySem.Challenge.rw_wordferry_k55_whole_wills).prog 61).name = ("law" : PySem.Str) := by kernel_rfl
        rw [← e]
        exact hmg0
      obtain ⟨fd, hb, hF⟩ := T55.facts (P := (PySem.Challenge.rw_wordferry_k55_whole_wills).prog) (w := w) KX G hmg c cx
      exact ⟨K, fd, Dn.SpD K ⟨mg, (PySem.Challenge.rw_wordferry_k55_whole_wills).prog, w⟩ 1 T55.D_law, KX, hb, fun H a ns hl _ hS => Dn.sp_start hS (T55.law_true ns []), hF⟩
