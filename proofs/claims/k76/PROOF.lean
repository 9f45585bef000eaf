import PyProof.Rows.All
import Wide.All
import OpenK.AllK
import Wide.FinOn
import HandS.ForMost
import HandS.Defaults
import HandS.TupAny
import KE.GoesNew
import KE.GoesMore
import HandS.Zip
import PyProof.AutoSeq1
import HandS.Wide
import HandS.Deep
import HandS.IsInst
import HandS.SortInts
import HandS.Conv
import HandS.Strs
import HandS.Replace
import HandS.More
import PyProof.ReprRoads
import PyProof.ListStr
import KE.DatumOrd
import HandS.Style
import HandS.Dict
import HandS.Small
import HandS.SortKw
import HandS.Iter
import HandS.Ends
import HandS.HeadEnd
import PySem.Challenge.RW_tellindex_k76_any_value_as_postings_or_v
import KE.KStateDown
import Lean
import HandS.Codes
import HandS.Head0
import HandS.Head1
import HandS.Head2
import HandS.HeadHook1
import HandS.HeadHook2
set_option Elab.async false
set_option linter.all false
set_option maxRecDepth 100000
/-! Dd, part A: plain data, ghosts, canonical readings. -/
namespace Dd
open PySem PySem.Spec PyProof.Rows L2

inductive D where
  | non | bl (b : Bool) | int (i : Int) | str (s : Str)
  | tup (xs : List D) | lst (xs : List D) | frl (xs : List D) | dct (ks : List L2.Key) (xs : List D)
  | ref (n : Nat) | fn (x : Str) | ty (n : String)
  deriving Inhabited

/-- what a shared box holds -/
inductive Cell where
  | lst (xs : List D)
abbrev Sto := List (Option Cell)
structure ExcD where
  cls : Str
  flds : List (Str × D)
inductive Out (α : Type) where
  | ok (a : α) (st : Sto)
  | exc (x : ExcD) (st : Sto)
  | bad
def M (α : Type) := Sto → Out α
def Out.wp {α : Type} (o : Out α) (P : α → Sto → Prop) (E : ExcD → Sto → Prop) : Prop := match o with
  | .ok a st => P a st
  | .exc x st => E x st
  | .bad => False
def M.pure {α : Type} (a : α) : M α := fun st => .ok a st
def M.bind {α β : Type} (m : M α) (k : α → M β) : M β := fun st => match m st with
  | .ok a st' => k a st'
  | .exc x st' => .exc x st'
  | .bad => .bad
def M.bad {α : Type} : M α := fun _ => .bad
instance : Monad M where
  pure := M.pure
  bind := M.bind
theorem Out.wp_mono {α : Type} {o : Out α} {P P' : α → Sto → Prop} {E E' : ExcD → Sto → Prop} (h : o.wp P E) (p : ∀ a s, P a s → P' a s) (e : ∀ x s, E x s → E' x s) : o.wp P' E' := by
  cases o with
  | ok a s => exact p a s h
  | exc x s => exact e x s h
  | bad => exact h
theorem M.bind_wp {α β : Type} {m : M α} {k : α → M β} {st : Sto} {P : β → Sto → Prop} {E : ExcD → Sto → Prop} (h : ((m >>= k) st).wp P E) : (m st).wp (fun a st' => (k a st').wp P E) E := by
  have h : (match m st with | .ok a st' => k a st' | .exc x st' => .exc x st' | .bad => .bad : Out β).wp P E := h
  cases e : m st with
  | ok a s => rw [e] at h; exact h
  | exc x s => rw [e] at h; exact h
  | bad => rw [e] at h; exact h

/-! ### ghosts -/
/-- R: what is frozen; ι: where the shared boxes stand -/
structure G where
  R : Hp
  ι : List Addr
section
variable (K : PySem.W.Frag) (mg : Str → Option Value)
mutual
inductive Rv (g : G) : V → D → Prop
  | non : Rv g .non .non
  | bl (b : Bool) : Rv g (.bl b) (.bl b)
  | int (i : Int) : Rv g (.int i) (.int i)
  | str (s : Str) : Rv g (.str s) (.str s)
  | tup {a : Addr} {vs : List V} {ds : List D} (h : SqT K g.R a vs) (r : Rvs g vs ds) : Rv g (.ref a) (.tup ds)
  | lst {a : Addr} {vs : List V} {ds : List D} (h : g.R a = some (.lst vs)) (r : Rvs g vs ds) : Rv g (.ref a) (.lst ds)
  | frl {a : Addr} {vs : List V} {ds : List D} (h : SqL K g.R a vs) (r : Rvs g vs ds) : Rv g (.ref a) (.frl ds)
  | dct {a : Addr} {o : Obj} {kvs : List (L2.Key × V)} {ds : List D} (h : g.R a = some (.frz o (.dK kvs))) (r : Rvs g (kvs.map (·.2)) ds) : Rv g (.ref a) (.dct (kvs.map (·.1)) ds)
  | ref {a : Addr} {n : Nat} (h : g.ι[n]? = some a) : Rv g (.ref a) (.ref n)
  | fn {x : Str} {a : Addr} (h : mg x = some (.ref a)) : Rv g (.ref a) (.fn x)
  | ty (n : String) : Rv g (.ty n) (.ty n)
inductive Rvs (g : G) : List V → List D → Prop
  | nil : Rvs g [] []
  | cons {v : V} {d : D} {vs : List V} {ds : List D} (h : Rv g v d) (t : Rvs g vs ds) : Rvs g (v :: vs) (d :: ds)
end
structure Gle (g g' : G) : Prop where
  R : ∀ a o, g.R a = some o → g'.R a = some o
  ι : ∃ t, g'.ι = g.ι ++ t
theorem Gle.refl (g : G) : Gle g g := ⟨fun _ _ h => h, [], by simp⟩
variable {K mg}
theorem Gle.trans {g g1 g2 : G} (a : Gle g g1) (b : Gle g1 g2) : Gle g g2 := by
  obtain ⟨t, e⟩ := a.ι
  obtain ⟨t', e'⟩ := b.ι
  exact ⟨fun c o h => b.R c o (a.R c o h), t ++ t', by rw [e', e, List.append_assoc]⟩
theorem Gle.at {g g' : G} (a : Gle g g') {n : Nat} {p : Addr} (h : g.ι[n]? = some p) : g'.ι[n]? = some p := by
  obtain ⟨t, e⟩ := a.ι
  rw [e, List.getElem?_append_left (List.getElem?_eq_some_iff.mp h).1]
  exact h
theorem sqT_le {R R' : Hp} (h : ∀ a o, R a = some o → R' a = some o) {a : Addr} {xs : List V} (q : SqT K R a xs) : SqT K R' a xs := by
  rcases q with (q | ⟨o, q⟩) | q
  · exact .inl (.inl (h _ _ q))
  · exact .inl (.inr ⟨o, h _ _ q⟩)
  · exact .inr q
theorem sqL_le {R R' : Hp} (h : ∀ a o, R a = some o → R' a = some o) {a : Addr} {xs : List V} (q : SqL K R a xs) : SqL K R' a xs := by
  rcases q with (q | ⟨o, q⟩) | q
  · exact .inl (.inl (h _ _ q))
  · exact .inl (.inr ⟨o, h _ _ q⟩)
  · exact .inr q
mutual
theorem Rv.le {g g' : G} (l : Gle g g') : ∀ {v : V} {d : D}, Rv K mg g v d → Rv K mg g' v d
  | _, _, .non => .non
  | _, _, .bl b => .bl b
  | _, _, .int i => .int i
  | _, _, .str s => .str s
  | _, _, .tup h r => .tup (sqT_le l.R h) (Rvs.le l r)
  | _, _, .lst h r => .lst (l.R _ _ h) (Rvs.le l r)
  | _, _, .frl h r => .frl (sqL_le l.R h) (Rvs.le l r)
  | _, _, .dct h r => .dct (l.R _ _ h) (Rvs.le l r)
  | _, _, .ref h => .ref (l.at h)
  | _, _, .fn h => .fn h
  | _, _, .ty n => .ty n
theorem Rvs.le {g g' : G} (l : Gle g g') : ∀ {vs : List V} {ds : List D}, Rvs K mg g vs ds → Rvs K mg g' vs ds
  | _, _, .nil => .nil
  | _, _, .cons h t => .cons (Rv.le l h) (Rvs.le l t)
end
theorem Rvs.length {g : G} : ∀ {vs : List V} {ds : List D}, Rvs K mg g vs ds → vs.length = ds.length
  | _, _, .nil => rfl
  | _, _, .cons _ t => by rw [List.length_cons, List.length_cons, t.length]
theorem Rvs.get {g : G} : ∀ {vs : List V} {ds : List D} {i : Nat} {d : D}, Rvs K mg g vs ds → ds[i]? = some d → ∃ v, vs[i]? = some v ∧ Rv K mg g v d
  | _, _, _, _, .nil, e => by simp at e
  | _, _, 0, _, .cons r _, e => by simp at e; subst e; exact ⟨_, rfl, r⟩
  | _, _, i + 1, _, .cons _ t, e => by
    obtain ⟨v, h, r⟩ := t.get (i := i) (by simpa using e)
    exact ⟨v, by simpa using h, r⟩
theorem Rvs.getV {g : G} : ∀ {vs : List V} {ds : List D} {i : Nat} {v : V}, Rvs K mg g vs ds → vs[i]? = some v → ∃ d, ds[i]? = some d ∧ Rv K mg g v d
  | _, _, _, _, .nil, e => by simp at e
  | _, _, 0, _, .cons r _, e => by simp at e; subst e; exact ⟨_, rfl, r⟩
  | _, _, i + 1, _, .cons _ t, e => by
    obtain ⟨v, h, r⟩ := t.getV (i := i) (by simpa using e)
    exact ⟨v, by simpa using h, r⟩
theorem Rvs.app {g : G} : ∀ {vs ws : List V} {ds es : List D}, Rvs K mg g vs ds → Rvs K mg g ws es → Rvs K mg g (vs ++ ws) (ds ++ es)
  | _, _, _, _, .nil, s => s
  | _, _, _, _, .cons h t, s => .cons h (t.app s)
theorem Rvs.take {g : G} : ∀ {vs : List V} {ds : List D} (n : Nat), Rvs K mg g vs ds → Rvs K mg g (vs.take n) (ds.take n)
  | _, _, 0, _ => by simp only [List.take_zero]; exact .nil
  | _, _, _ + 1, .nil => .nil
  | _, _, n + 1, .cons h t => .cons h (t.take n)
theorem Rvs.drop {g : G} : ∀ {vs : List V} {ds : List D} (n : Nat), Rvs K mg g vs ds → Rvs K mg g (vs.drop n) (ds.drop n)
  | _, _, 0, r => by simpa using r
  | _, _, _ + 1, .nil => .nil
  | _, _, n + 1, .cons h t => by simpa using t.drop n
theorem Rvs.set {g : G} {v : V} {d : D} (r : Rv K mg g v d) : ∀ {vs : List V} {ds : List D} (i : Nat), Rvs K mg g vs ds → Rvs K mg g (vs.set i v) (ds.set i d)
  | _, _, _, .nil => .nil
  | _, _, 0, .cons _ t => .cons r t
  | _, _, i + 1, .cons h t => .cons h (Rvs.set r i t)
theorem Rvs.rev {g : G} : ∀ {vs : List V} {ds : List D}, Rvs K mg g vs ds → Rvs K mg g vs.reverse ds.reverse
  | _, _, .nil => .nil
  | _, _, .cons h t => by rw [List.reverse_cons, List.reverse_cons]; exact t.rev.app (.cons h .nil)
variable (K mg)
def CellR (g : G) : Option HO → Cell → Prop
  | some (.lst vs), .lst xs => Rvs K mg g vs xs
  | _, _ => False
/-- the ghosts and the store stand for the heap -/
structure Rep (g : G) (st : Sto) (H : Hp) : Prop where
  sub : ∀ a o, g.R a = some o → H a = some o
  len : g.ι.length = st.length
  live : ∀ a, a ∈ g.ι → H a ≠ none
  inj : ∀ (n m : Nat) (a : Addr), g.ι[n]? = some a → g.ι[m]? = some a → n = m
  cell : ∀ (n : Nat) (a : Addr) (c : Cell), g.ι[n]? = some a → st[n]? = some (some c) → g.R a = none ∧ CellR K mg g (H a) c
/-- what a piece of code does to ghosts, store and heap; O: what it may freeze and change besides the boxes -/
structure Stq (O : Addr → Prop) (g : G) (st : Sto) (H : Hp) (g' : G) (st' : Sto) (H' : Hp) : Prop where
  le : Gle g g'
  rep : Rep K mg g' st' H'
  frame : ∀ a o, H a = some o → a ∉ g.ι → ¬ O a → H' a = some o
  newR : ∀ a, g.R a = none → H a ≠ none → a ∉ g.ι → ¬ O a → g'.R a = none
  newI : ∀ a, a ∈ g'.ι → a ∈ g.ι ∨ H a = none
  stay : ∀ a, H a ≠ none → H' a ≠ none
abbrev Stp := Stq K mg (fun _ => False)
variable {K mg}
theorem CellR.le {g g' : G} (l : Gle g g') {o : Option HO} {c : Cell} (h : CellR K mg g o c) : CellR K mg g' o c := by
  unfold CellR at h ⊢
  split at h
  · exact Rvs.le l h
  · exact h.elim
theorem Stq.refl {O : Addr → Prop} {g : G} {st : Sto} {H : Hp} (r : Rep K mg g st H) : Stq K mg O g st H g st H :=
  ⟨.refl g, r, fun _ _ h _ _ => h, fun _ h _ _ _ => h, fun _ h => .inl h, fun _ h => h⟩
theorem Stq.trans {O O' : Addr → Prop} {g g1 g2 : G} {st st1 st2 : Sto} {H H1 H2 : Hp} (a : Stq K mg O g st H g1 st1 H1) (b : Stq K mg O' g1 st1 H1 g2 st2 H2) (o : ∀ p, O' p → O p ∨ H p = none) : Stq K mg O g st H g2 st2 H2 := by
  have nI : ∀ p, H p ≠ none → p ∉ g.ι → p ∉ g1.ι := fun p h n m => (a.newI p m).elim n h
  refine ⟨a.le.trans b.le, b.rep, fun p u h n no => ?_, fun p h h1 n no => ?_, fun p h => ?_, fun p h => ?_⟩
  · have hp : H p ≠ none := by rw [h]; simp
    exact b.frame p u (a.frame p u h n no) (nI p hp n) fun z => (o p z).elim no hp
  · have h2 : H1 p ≠ none := by
      cases e : H p with
      | none => exact absurd e h1
      | some u => rw [a.frame p u e n no]; simp
    exact b.newR p (a.newR p h h1 n no) h2 (nI p h1 n) fun z => (o p z).elim no h1
  · rcases b.newI p h with z | z
    · exact a.newI p z
    · cases e : H p with
      | none => exact .inr rfl
      | some u => exact absurd z (a.stay p (by rw [e]; simp))
  · exact b.stay p (a.stay p h)
theorem Stq.weak {O O' : Addr → Prop} {g g1 : G} {st st1 : Sto} {H H1 : Hp} (a : Stq K mg O g st H g1 st1 H1) (o : ∀ p, O p → O' p) : Stq K mg O' g st H g1 st1 H1 :=
  ⟨a.le, a.rep, fun p u h n no => a.frame p u h n fun z => no (o p z), fun p h h1 n no => a.newR p h h1 n fun z => no (o p z), a.newI, a.stay⟩
theorem Stq.nxt {g g1 g2 : G} {st st1 st2 : Sto} {H H1 H2 : Hp} (a : Stp K mg g st H g1 st1 H1) (b : Stp K mg g1 st1 H1 g2 st2 H2) : Stp K mg g st H g2 st2 H2 := a.trans b fun _ z => z.elim

/-! ### the names' values -/
inductive EV where
  /-- data -/
  | d (x : D)
  /-- a list of one's own, changed in place -/
  | own (xs : List D)
  /-- a dict of one's own -/
  | dic (ks : List L2.Key) (xs : List D)
abbrev EnvD := List (Option EV)
variable (K mg)
def OwR (g : G) : HO → EV → Prop
  | .lst vs, .own xs => Rvs K mg g vs xs
  | .dK kvs, .dic ks xs => kvs.map (·.1) = ks ∧ Rvs K mg g (kvs.map (·.2)) xs
  | _, _ => False
def isOwn : EV → Bool
  | .d _ => false
  | _ => true
def EvR (g : G) (H : Hp) (v : V) (e : EV) : Prop := match e with
  | .d x => Rv K mg g v x
  | e => ∃ a o, v = .ref a ∧ H a = some o ∧ g.R a = none ∧ a ∉ g.ι ∧ OwR K mg g o e
/-- the address a is a name's own list -/
def Owns (σ : L2.St) (env : EnvD) (a : Addr) : Prop := ∃ (i : Nat) (e : EV), env[i]? = some (some e) ∧ isOwn e = true ∧ σ[i]? = some (some (V.ref a))
structure EnvR (g : G) (H : Hp) (σ : L2.St) (env : EnvD) : Prop where
  len : σ.length = env.length
  val : ∀ (i : Nat) (e : EV), env[i]? = some (some e) → ∃ v, σ[i]? = some (some v) ∧ EvR K mg g H v e
  one : ∀ (i j : Nat) (e e' : EV) (a : Addr), env[i]? = some (some e) → isOwn e = true → σ[i]? = some (some (V.ref a)) → env[j]? = some (some e') → isOwn e' = true → σ[j]? = some (some (V.ref a)) → i = j
variable {K mg}
theorem EvR.own {g : G} {H : Hp} {v : V} {e : EV} (h : EvR K mg g H v e) (o : isOwn e = true) : ∃ a o, v = .ref a ∧ H a = some o ∧ g.R a = none ∧ a ∉ g.ι ∧ OwR K mg g o e := by
  cases e with
  | d x => cases o
  | own xs => exact h
  | dic ks xs => exact h
theorem EvR.of {g : G} {H : Hp} {v : V} {e : EV} (o : isOwn e = true) (h : ∃ a o, v = .ref a ∧ H a = some o ∧ g.R a = none ∧ a ∉ g.ι ∧ OwR K mg g o e) : EvR K mg g H v e := by
  cases e with
  | d x => cases o
  | own xs => exact h
  | dic ks xs => exact h
theorem OwR.le {g g' : G} (l : Gle g g') {o : HO} {e : EV} (h : OwR K mg g o e) : OwR K mg g' o e := by
  unfold OwR at h ⊢
  split at h
  · exact Rvs.le l h
  · exact ⟨h.1, Rvs.le l h.2⟩
  · exact h.elim
theorem Owns.there {g : G} {H : Hp} {σ : L2.St} {env : EnvD} {a : Addr} (r : EnvR K mg g H σ env) (o : Owns σ env a) : ∃ u, H a = some u ∧ g.R a = none ∧ a ∉ g.ι := by
  obtain ⟨i, e, h1, h2, h3⟩ := o
  obtain ⟨v, h4, h5⟩ := r.val i e h1
  rw [h3] at h4
  cases h4
  obtain ⟨b, u, e1, e2, e3, e4, _⟩ := h5.own h2
  cases e1
  exact ⟨u, e2, e3, e4⟩
theorem EvR.step {g g' : G} {st st' : Sto} {H H' : Hp} {O : Addr → Prop} (s : Stq K mg O g st H g' st' H') {v : V} {e : EV} (h : EvR K mg g H v e) (no : ∀ a, v = .ref a → isOwn e = true → ¬ O a) : EvR K mg g' H' v e := by
  by_cases ho : isOwn e = true
  · obtain ⟨a, vs, e1, e2, e3, e4, e5⟩ := h.own ho
    have hn : H a ≠ none := by rw [e2]; simp
    have n := no a e1 ho
    exact .of ho ⟨a, vs, e1, s.frame a _ e2 e4 n, s.newR a e3 hn e4 n, fun m => (s.newI a m).elim e4 hn, e5.le s.le⟩
  · cases e with
    | d x => exact Rv.le s.le h
    | own xs => exact absurd rfl ho
    | dic ks xs => exact absurd rfl ho
theorem EnvR.step {g g' : G} {st st' : Sto} {H H' : Hp} {σ : L2.St} {env : EnvD} (r : EnvR K mg g H σ env) (s : Stp K mg g st H g' st' H') : EnvR K mg g' H' σ env :=
  ⟨r.len, fun i e h => by
    obtain ⟨v, h1, h2⟩ := r.val i e h
    exact ⟨v, h1, h2.step s fun _ _ _ z => z⟩, r.one⟩

/-! ### canonical readings -/
variable (K mg)
/-- behind m, P -/
def At {α : Type} (g : G) (st : Sto) (H : Hp) (m : M α) (P : α → G → Sto → Hp → Prop) : Prop := (m st).wp (fun a st' => ∀ g' H', Stp K mg g st H g' st' H' → P a g' st' H') (fun _ _ => False)
variable {K mg}
theorem At.mono {α : Type} {g : G} {st : Sto} {H : Hp} {m : M α} {P P' : α → G → Sto → Hp → Prop} (h : At K mg g st H m P) (i : ∀ a g' st' H', Stp K mg g st H g' st' H' → P a g' st' H' → P' a g' st' H') : At K mg g st H m P' :=
  Out.wp_mono h (fun a s q g' H' z => i a g' s H' z (q g' H' z)) fun _ _ z => z
theorem At.bind {α β : Type} {g : G} {st : Sto} {H : Hp} {m : M α} {k : α → M β} {P : β → G → Sto → Hp → Prop} (h : At K mg g st H (m >>= k) P) : At K mg g st H m fun a g1 st1 H1 => At K mg g1 st1 H1 (k a) P :=
  Out.wp_mono (M.bind_wp h) (fun a s q g1 H1 z => Out.wp_mono q (fun b s2 q2 g2 H2 z2 => q2 g2 H2 (z.nxt z2)) fun _ _ z => z) fun _ _ z => z
theorem At.pure {α : Type} {g : G} {st : Sto} {H : Hp} {a : α} {P : α → G → Sto → Hp → Prop} (r : Rep K mg g st H) (h : At K mg g st H (Pure.pure a : M α) P) : P a g st H := by
  have h : ∀ g' H', Stp K mg g st H g' st H' → P a g' st H' := h
  exact h g H (.refl r)
variable (K mg)
def cE (f : EnvD → M D) : TE := fun σ H Q => ∃ g env st, Rep K mg g st H ∧ EnvR K mg g H σ env ∧ At K mg g st H (f env) fun d g' _ H' => ∀ v, Rv K mg g' v d → Q v H'
def cT (f : EnvD → M Bool) : TT := fun σ H Q => ∃ g env st, Rep K mg g st H ∧ EnvR K mg g H σ env ∧ At K mg g st H (f env) fun b _ _ H' => Q b H'
def cA (f : EnvD → M (List D)) : TA := fun σ H Q => ∃ g env st, Rep K mg g st H ∧ EnvR K mg g H σ env ∧ At K mg g st H (f env) fun ds g' _ H' => ∀ vs, Rvs K mg g' vs ds → Q vs H'
def r2 (f : D → D → M D) : R2 := fun x y H Q => ∃ g st a b, Rep K mg g st H ∧ Rv K mg g x a ∧ Rv K mg g y b ∧ At K mg g st H (f a b) fun d g' _ H' => ∀ v, Rv K mg g' v d → Q v H'
def r1 (f : D → M D) : V → Hp → VK → Prop := fun x H Q => ∃ g st a, Rep K mg g st H ∧ Rv K mg g x a ∧ At K mg g st H (f a) fun d g' _ H' => ∀ v, Rv K mg g' v d → Q v H'
def rA (f : List D → M D) : List V → Hp → VK → Prop := fun xs H Q => ∃ g st ds, Rep K mg g st H ∧ Rvs K mg g xs ds ∧ At K mg g st H (f ds) fun d g' _ H' => ∀ v, Rv K mg g' v d → Q v H'
inductive Fl where
  | nx (env : EnvD) | rt (d : D) | bk (env : EnvD) | ct (env : EnvD)
/-- the names' values behind: what is owned was owned, or is new -/
structure EnvN (g' : G) (H' : Hp) (σ : L2.St) (env : EnvD) (H : Hp) (σ' : L2.St) (env' : EnvD) : Prop where
  r : EnvR K mg g' H' σ' env'
  o : ∀ a, Owns σ' env' a → Owns σ env a ∨ H a = none
def flP (De : Ends) (σ : L2.St) (env : EnvD) (H : Hp) (fl : Fl) (g' : G) (H' : Hp) : Prop := match fl with
  | .nx env' => ∀ σ', EnvN K mg g' H' σ env H σ' env' → De.nx σ' H'
  | .rt d => ∀ v, Rv K mg g' v d → De.rt v H'
  | .bk env' => ∀ σ', EnvN K mg g' H' σ env H σ' env' → De.bk σ' H'
  | .ct env' => ∀ σ', EnvN K mg g' H' σ env H σ' env' → De.ct σ' H'
def cS (f : EnvD → M Fl) : TS := fun De σ H => ∃ g env st, Rep K mg g st H ∧ EnvR K mg g H σ env ∧ (f env st).wp (fun fl st' => ∀ g' H', Stq K mg (Owns σ env) g st H g' st' H' → flP K mg De σ env H fl g' H') (fun _ _ => False)
variable {K mg}
/-! ### weaker readings -/
theorem pe_imp {X : Cx} {e : Expr} {t t' : TE} (h : PE X e t') (i : ∀ σ H Q, t σ H Q → t' σ H Q) : PE X e t := ⟨fun pins s σ H Q I q => h.run pins s σ H Q I (i _ _ _ q)⟩
theorem pt_imp {X : Cx} {e : Expr} {t t' : TT} (h : PT X e t') (i : ∀ σ H Q, t σ H Q → t' σ H Q) : PT X e t := ⟨fun pins s σ H Q I q => h.run pins s σ H Q I (i _ _ _ q)⟩
theorem pw_imp {X : Cx} {e : Expr} {t t' : TT} (h : PW X e t') (i : ∀ σ H Q, t σ H Q → t' σ H Q) : PW X e t := ⟨fun wh pins s σ H Q I q => h.run wh pins s σ H Q I (i _ _ _ q)⟩
theorem pa_imp {X : Cx} {e : List Expr} {t t' : TA} (h : PA X e t') (i : ∀ σ H Q, t σ H Q → t' σ H Q) : PA X e t := ⟨fun pos pins s σ H Q I q => h.run pos pins s σ H Q I (i _ _ _ q)⟩
theorem ps_imp {X : Cx} {e : Stmt} {t t' : TS} (h : PS X e t') (i : ∀ De σ H, t De σ H → t' De σ H) : PS X e t := ⟨fun pins s σ H De I q => h.run pins s σ H De I (i _ _ _ q)⟩
theorem pss_imp {X : Cx} {e : List Stmt} {t t' : TS} (h : PSs X e t') (i : ∀ De σ H, t De σ H → t' De σ H) : PSs X e t := ⟨fun pins s σ H De I q => h.run pins s σ H De I (i _ _ _ q)⟩
theorem opR_imp {X : Cx} {f : Value → Value → Sem Value} {r r' : R2} (h : OpR X f r') (i : ∀ x y H Q, r x y H Q → r' x y H Q) : OpR X f r := fun pins s σ H x y v u Q I a b q => h pins s σ H x y v u Q I a b (i _ _ _ _ q)
theorem callR_imp {X : Cx} {f : Value} {r r' : List V → Hp → VK → Prop} (h : CallR X f r') (i : ∀ xs H Q, r xs H Q → r' xs H Q) : CallR X f r := fun pins s σ H xs us Q I a q => h pins s σ H xs us Q I a (i _ _ _ q)

/-! ### expressions -/
section
variable {X : Cx} {e a b c : Expr} {pos : Pos} {f fa fb : EnvD → M D}
def cstE (d : D) : EnvD → M D := fun _ => pure d
def varE (i : Nat) : EnvD → M D := fun env => match env[i]? with
  | some (some (.d x)) => pure x
  | _ => M.bad
theorem dE_var (i : Nat) {x : Str} (hN : X.N[i]? = some x := by rfl) (hv : Vis X.env.scope x := by first | exact Or.inl rfl | exact Or.inr (Or.inl rfl) | exact Or.inr (Or.inr rfl)) (hd : (x == ("__debug__" : Str)) = false := by decide)
    (hcd : (x == ("__classdict__" : Str)) = false := by decide) : PE X (.Name x pos) (cE X.K X.mg (varE i)) := by
  refine pe_imp (pe_var hN hv hd hcd) fun σ H Q ⟨g, env, st, r, er, h⟩ => ?_
  unfold varE at h
  split at h
  · rename_i x e
    obtain ⟨v, h1, h2⟩ := er.val i _ e
    exact ⟨v, h1, At.pure r h v h2⟩
  · exact h.elim
theorem cst_of {v : V} {d : D} (hv : ∀ g : G, Rv X.K X.mg g v d) (h : PE X e (tC v)) : PE X e (cE X.K X.mg (cstE d)) :=
  pe_imp h fun σ H Q ⟨g, env, st, r, er, h⟩ => At.pure r h v (hv g)
theorem dE_int {i j} : PE X (.Constant (.int i) j pos) (cE X.K X.mg (cstE (.int i))) := cst_of (fun _ => .int i) pe_int
theorem dE_bl {b j} : PE X (.Constant (.bool b) j pos) (cE X.K X.mg (cstE (.bl b))) := cst_of (fun _ => .bl b) pe_bl
theorem dE_non {j} : PE X (.Constant .none j pos) (cE X.K X.mg (cstE .non)) := cst_of (fun _ => .non) pe_non
theorem dE_str {x : Str} {j} : PE X (.Constant (.str x) j pos) (cE X.K X.mg (cstE (.str x))) := cst_of (fun _ => .str x) pe_str
theorem dE_glob {x : Str} {d : D} {v : V} {u : Value} (hv : ∀ g : G, Rv X.K X.mg g v d) (hg : Gl X x) (hm : X.mg x = some u) (r : RelV v u) (hd : (x == ("__debug__" : Str)) = false := by decide) : PE X (.Name x pos) (cE X.K X.mg (cstE d)) := cst_of hv (pe_glob hg hm r hd)
/-- two values in a row -/
def binE (op : D → D → M D) (fa fb : EnvD → M D) : EnvD → M D := fun env => fa env >>= fun x => fb env >>= fun y => op x y
theorem bin_tOp {op : D → D → M D} {σ : L2.St} {H : Hp} {Q : VK} (h : cE K mg (binE op fa fb) σ H Q) : tOp (r2 K mg op) (cE K mg fa) (cE K mg fb) σ H Q := by
  obtain ⟨g, env, st, r, er, h⟩ := h
  refine ⟨g, env, st, r, er, h.bind.mono fun x g1 st1 H1 s1 q v rv => ?_⟩
  refine ⟨g1, env, st1, s1.rep, er.step s1, (At.bind q).mono fun y g2 st2 H2 s2 q2 u ru => ?_⟩
  exact ⟨g2, st2, x, y, s2.rep, Rv.le s2.le rv, ru, q2⟩
theorem dE_bin {op : Operator} {fo : D → D → M D} (ho : OpR X (binaryOp op) (r2 X.K X.mg fo)) (ha : PE X a (cE X.K X.mg fa)) (hb : PE X b (cE X.K X.mg fb)) : PE X (.BinOp a op b pos) (cE X.K X.mg (binE fo fa fb)) :=
  pe_imp (pe_op ho ha hb) fun _ _ _ h => bin_tOp h
theorem dE_cmp {op : CmpOp} {fo : D → D → M D} (ho : OpR X (compareOp op) (r2 X.K X.mg fo)) (ha : PE X a (cE X.K X.mg fa)) (hb : PE X b (cE X.K X.mg fb)) (hm : behindInMarks op b = false) : PE X (.Compare a [op] [b] pos) (cE X.K X.mg (binE fo fa fb)) :=
  pe_imp (pe_cmpR ho ha hb hm) fun _ _ _ h => bin_tOp h
/-- a bool -/
def boolD : D → M Bool
  | .bl b => pure b
  | _ => M.bad
def tstE (f : EnvD → M D) : EnvD → M Bool := fun env => f env >>= boolD
theorem tst_of {f : EnvD → M D} {σ : L2.St} {H : Hp} {Q : Bool → Hp → Prop} (h : cT K mg (tstE f) σ H Q) : cE K mg f σ H fun x H1 => ∃ c, x = .bl c ∧ Q c H1 := by
  obtain ⟨g, env, st, r, er, h⟩ := h
  refine ⟨g, env, st, r, er, h.bind.mono fun x g1 st1 H1 s1 q v rv => ?_⟩
  cases rv with
  | bl b => exact ⟨b, rfl, At.pure s1.rep q⟩
  | _ => exact (show False from q).elim
theorem dT_cmp {op : CmpOp} {fo : D → D → M D} (ho : OpR X (compareOp op) (r2 X.K X.mg fo)) (ha : PE X a (cE X.K X.mg fa)) (hb : PE X b (cE X.K X.mg fb)) (hm : behindInMarks op b = false) : PT X (.Compare a [op] [b] pos) (cT X.K X.mg (tstE (binE fo fa fb))) :=
  pt_imp (pt_cmpR ho ha hb hm) fun σ H Q h => bin_tOp (tst_of h)
theorem dT_val (h : PE X e (cE X.K X.mg f)) (he : ∀ whole, isTrue e X.env whole = (do let v ← whole; standAt e.pos; holding [v] (truthy v)) := by intro _; rfl) : PT X e (cT X.K X.mg (tstE f)) :=
  pt_imp (pt_val h he) fun _ _ _ h => tst_of h
/-- and, or, not as tests -/
def andT (fa fb : EnvD → M Bool) : EnvD → M Bool := fun env => fa env >>= fun x => if x = true then fb env else pure false
def orT (fa fb : EnvD → M Bool) : EnvD → M Bool := fun env => fa env >>= fun x => if x = true then pure true else fb env
def notT (fa : EnvD → M Bool) : EnvD → M Bool := fun env => fa env >>= fun x => pure (!x)
variable {ta tb : EnvD → M Bool} {rest : List Expr}
theorem dW_and1 (ha : PT X a (cT X.K X.mg ta)) : PW X (.BoolOp .And [a] pos) (cT X.K X.mg ta) := pw_and1 ha
theorem dW_or1 (ha : PT X a (cT X.K X.mg ta)) : PW X (.BoolOp .Or [a] pos) (cT X.K X.mg ta) := pw_or1 ha
theorem dW_and (ha : PT X a (cT X.K X.mg ta)) (hb : PW X (.BoolOp .And (b :: rest) pos) (cT X.K X.mg tb)) : PW X (.BoolOp .And (a :: b :: rest) pos) (cT X.K X.mg (andT ta tb)) := by
  refine pw_imp (pw_and ha hb) fun σ H Q ⟨g, env, st, r, er, h⟩ => ?_
  refine ⟨g, env, st, r, er, h.bind.mono fun x g1 st1 H1 s1 q => ?_⟩
  cases x with
  | true => rw [if_pos rfl] at q ⊢; exact ⟨g1, env, st1, s1.rep, er.step s1, q⟩
  | false => rw [if_neg (by decide)] at q ⊢; exact At.pure s1.rep q
theorem dW_or (ha : PT X a (cT X.K X.mg ta)) (hb : PW X (.BoolOp .Or (b :: rest) pos) (cT X.K X.mg tb)) : PW X (.BoolOp .Or (a :: b :: rest) pos) (cT X.K X.mg (orT ta tb)) := by
  refine pw_imp (pw_or ha hb) fun σ H Q ⟨g, env, st, r, er, h⟩ => ?_
  refine ⟨g, env, st, r, er, h.bind.mono fun x g1 st1 H1 s1 q => ?_⟩
  cases x with
  | true => rw [if_pos rfl] at q ⊢; exact At.pure s1.rep q
  | false => rw [if_neg (by decide)] at q ⊢; exact ⟨g1, env, st1, s1.rep, er.step s1, q⟩
theorem dT_not (ha : PT X a (cT X.K X.mg ta)) : PT X (.UnaryOp .Not a pos) (cT X.K X.mg (notT ta)) := by
  refine pt_imp (pt_not ha) fun σ H Q ⟨g, env, st, r, er, h⟩ => ?_
  exact ⟨g, env, st, r, er, h.bind.mono fun x g1 st1 H1 s1 q => At.pure s1.rep q⟩
/-- .. as values -/
def andE (fa fb : EnvD → M D) : EnvD → M D := fun env => fa env >>= fun x => boolD x >>= fun x => if x = true then fb env else pure (.bl false)
def orE (fa fb : EnvD → M D) : EnvD → M D := fun env => fa env >>= fun x => boolD x >>= fun x => if x = true then pure (.bl true) else fb env
def notE (fa : EnvD → M D) : EnvD → M D := fun env => fa env >>= fun x => boolD x >>= fun x => pure (.bl (!x))
theorem dE_one {op} (h : PE X a (cE X.K X.mg f)) : PE X (.BoolOp op [a] pos) (cE X.K X.mg f) := pe_one h
theorem dE_and (ha : PE X a (cE X.K X.mg fa)) (hb : PE X (.BoolOp .And (b :: rest) pos) (cE X.K X.mg fb)) : PE X (.BoolOp .And (a :: b :: rest) pos) (cE X.K X.mg (andE fa fb)) := by
  refine pe_imp (pe_and ha hb) fun σ H Q ⟨g, env, st, r, er, h⟩ => ?_
  refine ⟨g, env, st, r, er, h.bind.mono fun x g1 st1 H1 s1 q v rv => ?_⟩
  cases rv with
  | bl c =>
    refine ⟨c, rfl, ?_⟩
    have q := At.pure s1.rep (At.bind q)
    cases c with
    | true => rw [if_pos rfl] at q ⊢; exact ⟨g1, env, st1, s1.rep, er.step s1, q⟩
    | false => rw [if_neg (by decide)] at q ⊢; exact At.pure s1.rep q _ (.bl false)
  | _ => exact (show False from q).elim
theorem dE_or (ha : PE X a (cE X.K X.mg fa)) (hb : PE X (.BoolOp .Or (b :: rest) pos) (cE X.K X.mg fb)) : PE X (.BoolOp .Or (a :: b :: rest) pos) (cE X.K X.mg (orE fa fb)) := by
  refine pe_imp (pe_or ha hb) fun σ H Q ⟨g, env, st, r, er, h⟩ => ?_
  refine ⟨g, env, st, r, er, h.bind.mono fun x g1 st1 H1 s1 q v rv => ?_⟩
  cases rv with
  | bl c =>
    refine ⟨c, rfl, ?_⟩
    have q := At.pure s1.rep (At.bind q)
    cases c with
    | true => rw [if_pos rfl] at q ⊢; exact At.pure s1.rep q _ (.bl true)
    | false => rw [if_neg (by decide)] at q ⊢; exact ⟨g1, env, st1, s1.rep, er.step s1, q⟩
  | _ => exact (show False from q).elim
theorem dE_not (ha : PE X a (cE X.K X.mg fa)) : PE X (.UnaryOp .Not a pos) (cE X.K X.mg (notE fa)) := by
  refine pe_imp (pe_not ha) fun σ H Q ⟨g, env, st, r, er, h⟩ => ?_
  refine ⟨g, env, st, r, er, h.bind.mono fun x g1 st1 H1 s1 q v rv => ?_⟩
  cases rv with
  | bl c =>
    have q := At.pure s1.rep (At.bind q)
    exact ⟨c, rfl, At.pure s1.rep q _ (.bl _)⟩
  | _ => exact (show False from q).elim
def iteE (t : EnvD → M Bool) (fa fb : EnvD → M D) : EnvD → M D := fun env => t env >>= fun x => if x = true then fa env else fb env
theorem dE_ite (hc : PT X c (cT X.K X.mg ta)) (ha : PE X a (cE X.K X.mg fa)) (hb : PE X b (cE X.K X.mg fb)) : PE X (.IfExp c a b pos) (cE X.K X.mg (iteE ta fa fb)) := by
  refine pe_imp (pe_ifExp hc ha hb) fun σ H Q ⟨g, env, st, r, er, h⟩ => ?_
  refine ⟨g, env, st, r, er, h.bind.mono fun x g1 st1 H1 s1 q => ?_⟩
  cases x with
  | true => rw [if_pos rfl] at q ⊢; exact ⟨g1, env, st1, s1.rep, er.step s1, q⟩
  | false => rw [if_neg (by decide)] at q ⊢; exact ⟨g1, env, st1, s1.rep, er.step s1, q⟩
/-- a <= b <= c -/
def chnE (o o' : D → D → M D) (fa fb fc : EnvD → M D) : EnvD → M D := fun env => fa env >>= fun x => fb env >>= fun y => o x y >>= fun z => boolD z >>= fun z => if z = true then fc env >>= fun w => o' y w else pure (.bl false)
variable {fc : EnvD → M D}
theorem chn_t {o o' : D → D → M D} {σ : L2.St} {H : Hp} {Q : VK} (h : cE K mg (chnE o o' fa fb fc) σ H Q) : tChain (r2 K mg o) (r2 K mg o') (cE K mg fa) (cE K mg fb) (cE K mg fc) σ H Q := by
  obtain ⟨g, env, st, r, er, h⟩ := h
  refine ⟨g, env, st, r, er, h.bind.mono fun x g1 st1 H1 s1 q v rv => ?_⟩
  refine ⟨g1, env, st1, s1.rep, er.step s1, (At.bind q).mono fun y g2 st2 H2 s2 q2 u ru => ?_⟩
  refine ⟨g2, st2, x, y, s2.rep, Rv.le s2.le rv, ru, (At.bind q2).mono fun z g3 st3 H3 s3 q3 w rw' => ?_⟩
  cases rw' with
  | bl k =>
    refine ⟨k, rfl, ?_⟩
    have q3 := At.pure s3.rep (At.bind q3)
    cases k with
    | true =>
      rw [if_pos rfl] at q3 ⊢
      refine ⟨g3, env, st3, s3.rep, ((er.step s1).step s2).step s3, (At.bind q3).mono fun z g4 st4 H4 s4 q4 w' rw2 => ?_⟩
      exact ⟨g4, st4, y, z, s4.rep, Rv.le s4.le (Rv.le s3.le ru), rw2, q4⟩
    | false => rw [if_neg (by decide)] at q3 ⊢; exact At.pure s3.rep q3 _ (.bl false)
  | _ => exact (show False from q3).elim
theorem dE_chn {op op' : CmpOp} {o o' : D → D → M D} (ho : OpR X (compareOp op) (r2 X.K X.mg o)) (ho' : OpR X (compareOp op') (r2 X.K X.mg o')) (ha : PE X a (cE X.K X.mg fa)) (hb : PE X b (cE X.K X.mg fb)) (hc : PE X c (cE X.K X.mg fc))
    (hm : lastMarks [op, op'] [b, c] = false := by with_unfolding_all rfl) : PE X (.Compare a [op, op'] [b, c] pos) (cE X.K X.mg (chnE o o' fa fb fc)) :=
  pe_imp (pe_chain ho ho' ha hb hc hm) fun _ _ _ h => chn_t h
theorem dT_chn {op op' : CmpOp} {o o' : D → D → M D} (ho : OpR X (compareOp op) (r2 X.K X.mg o)) (ho' : OpR X (compareOp op') (r2 X.K X.mg o')) (ha : PE X a (cE X.K X.mg fa)) (hb : PE X b (cE X.K X.mg fb)) (hc : PE X c (cE X.K X.mg fc))
    (hm : lastMarks [op, op'] [b, c] = false := by with_unfolding_all rfl) : PT X (.Compare a [op, op'] [b, c] pos) (cT X.K X.mg (tstE (chnE o o' fa fb fc))) :=
  pt_imp (pt_chain ho ho' ha hb hc hm) fun _ _ _ h => chn_t (tst_of h)

/-! ### argument lists, displays -/
def nilA : EnvD → M (List D) := fun _ => pure []
def consA (f : EnvD → M D) (r : EnvD → M (List D)) : EnvD → M (List D) := fun env => f env >>= fun x => r env >>= fun xs => pure (x :: xs)
variable {fr : EnvD → M (List D)} {es : List Expr}
theorem dA_nil : PA X [] (cA X.K X.mg nilA) := pa_imp pa_nil fun σ H Q ⟨g, env, st, r, er, h⟩ => At.pure r h [] .nil
theorem dA_cons (ha : PE X e (cE X.K X.mg f)) (hr : PA X es (cA X.K X.mg fr)) (hs : starEach (e :: es) X.env = (false, eval e X.env) :: starEach es X.env := by rfl) : PA X (e :: es) (cA X.K X.mg (consA f fr)) := by
  refine pa_imp (pa_cons ha hr hs) fun σ H Q ⟨g, env, st, r, er, h⟩ => ?_
  refine ⟨g, env, st, r, er, h.bind.mono fun x g1 st1 H1 s1 q v rv => ?_⟩
  refine ⟨g1, env, st1, s1.rep, er.step s1, (At.bind q).mono fun y g2 st2 H2 s2 q2 u ru => ?_⟩
  exact At.pure s2.rep q2 _ (.cons (Rv.le s2.le rv) ru)
end
/-! ### a new frozen object -/
theorem Rep.lay {g : G} {st : Sto} {H : Hp} {p : Addr} {o : HO} (r : Rep K mg g st H) (n : H p = none) : Stp K mg g st H { g with R := upd g.R p o } st (upd H p o) := by
  have nR : g.R p = none := by
    cases e : g.R p with
    | none => rfl
    | some u => rw [r.sub p u e] at n; cases n
  have nι : p ∉ g.ι := fun m => r.live p m n
  have le : Gle g { g with R := upd g.R p o } := ⟨fun a u h => by
    show upd g.R p o a = some u
    rw [upd_ne (ne_of_none h nR)]
    exact h, [], by simp⟩
  refine ⟨le, ⟨fun a u h => ?_, r.len, fun a m => ?_, r.inj, fun k a c h1 h2 => ?_⟩, fun a u h _ _ => by rw [upd_ne (ne_of_none h n)]; exact h, fun a h h1 _ _ => ?_, fun a m => .inl m, fun a h => ?_⟩
  · have h : upd g.R p o a = some u := h
    by_cases e : a = p
    · subst e; rw [upd_same] at h ⊢; exact h
    · rw [upd_ne e] at h ⊢; exact r.sub a u h
  · have hp : a ≠ p := fun z => nι (z ▸ m)
    rw [upd_ne hp]
    exact r.live a m
  · obtain ⟨h3, h4⟩ := r.cell k a c h1 h2
    have hp : a ≠ p := fun z => nι (z ▸ List.mem_of_getElem? h1)
    refine ⟨?_, ?_⟩
    · show upd g.R p o a = none
      rw [upd_ne hp]; exact h3
    · rw [upd_ne hp]; exact h4.le le
  · show upd g.R p o a = none
    rw [upd_ne (fun z => h1 (by rw [z]; exact n))]; exact h
  · by_cases e : a = p
    · subst e; rw [upd_same]; simp
    · rw [upd_ne e]; exact h
def tupE (f : EnvD → M (List D)) : EnvD → M D := fun env => f env >>= fun ds => if ds.length ≤ sizeLine then pure (.tup ds) else M.bad
def lstE (f : EnvD → M (List D)) : EnvD → M D := fun env => f env >>= fun ds => if ds.length ≤ sizeLine then pure (.lst ds) else M.bad
section
variable {X : Cx} {pos : Pos} {fr : EnvD → M (List D)} {es : List Expr}
theorem At.ite {α : Type} {g : G} {st : Sto} {H : Hp} {c : Prop} [Decidable c] {m : M α} {P : α → G → Sto → Hp → Prop} (h : At K mg g st H (if c then m else M.bad) P) : c ∧ At K mg g st H m P := by
  by_cases e : c
  · rw [if_pos e] at h; exact ⟨e, h⟩
  · rw [if_neg e] at h; exact (show False from h).elim
theorem dE_tup {x1} (h : PA X es (cA X.K X.mg fr)) : PE X (.Tuple es x1 pos) (cE X.K X.mg (tupE fr)) := by
  refine pe_imp (pe_tup h) fun σ H Q ⟨g, env, st, r, er, h⟩ => ?_
  refine ⟨g, env, st, r, er, h.bind.mono fun ds g1 st1 H1 s1 q vs rs => ?_⟩
  obtain ⟨hz, q⟩ := q.ite
  refine ⟨rs.length ▸ hz, fun p n => ?_⟩
  have s2 := s1.rep.lay (o := .tup vs) n
  exact (show ∀ g' H', Stp X.K X.mg g1 st1 H1 g' st1 H' → _ from q) _ _ s2 _ (.tup (.inl (.inl upd_same)) (Rvs.le s2.le rs))
theorem dE_lst (h : PA X es (cA X.K X.mg fr)) : PE X (.List es pos) (cE X.K X.mg (lstE fr)) := by
  refine pe_imp (pe_lst h) fun σ H Q ⟨g, env, st, r, er, h⟩ => ?_
  refine ⟨g, env, st, r, er, h.bind.mono fun ds g1 st1 H1 s1 q vs rs => ?_⟩
  obtain ⟨hz, q⟩ := q.ite
  refine ⟨rs.length ▸ hz, fun p n => ?_⟩
  have s2 := s1.rep.lay (o := .lst vs) n
  exact (show ∀ g' H', Stp X.K X.mg g1 st1 H1 g' st1 H' → _ from q) _ _ s2 _ (.lst upd_same (Rvs.le s2.le rs))
end
end
end Dd

set_option Elab.async false
set_option linter.all false
set_option maxRecDepth 100000
/-! Dd, part B: statements. -/
namespace Dd
open PySem PySem.Spec PyProof.Rows L2
section
variable {K : PySem.W.Frag} {mg : Str → Option Value}
/-! ### the names' values, changed -/
theorem EnvN.refl {g : G} {H : Hp} {σ : L2.St} {env : EnvD} (er : EnvR K mg g H σ env) : EnvN K mg g H σ env H σ env := ⟨er, fun _ h => .inl h⟩
theorem EnvN.step {g g' : G} {st st' : Sto} {H H' : Hp} {σ : L2.St} {env : EnvD} (er : EnvR K mg g H σ env) (s : Stp K mg g st H g' st' H') : EnvN K mg g' H' σ env H σ env := ⟨er.step s, fun _ h => .inl h⟩
theorem EnvN.trans {g1 g2 : G} {H H1 H2 : Hp} {σ σ1 σ2 : L2.St} {env env1 env2 : EnvD} (a : EnvN K mg g1 H1 σ env H σ1 env1) (st : ∀ p, H p ≠ none → H1 p ≠ none) (b : EnvN K mg g2 H2 σ1 env1 H1 σ2 env2) : EnvN K mg g2 H2 σ env H σ2 env2 :=
  ⟨b.r, fun p h => (b.o p h).elim (a.o p) fun z => by
    cases e : H p with
    | none => exact .inr rfl
    | some u => exact absurd z (st p (by rw [e]; simp))⟩
theorem flP_trans {De : Ends} {g1 g2 : G} {H H1 H2 : Hp} {σ σ1 : L2.St} {env env1 : EnvD} {fl : Fl} (a : EnvN K mg g1 H1 σ env H σ1 env1) (st : ∀ p, H p ≠ none → H1 p ≠ none) (h : flP K mg De σ env H fl g2 H2) : flP K mg De σ1 env1 H1 fl g2 H2 := by
  cases fl with
  | nx e => exact fun σ' n => h σ' (a.trans st n)
  | rt d => exact h
  | bk e => exact fun σ' n => h σ' (a.trans st n)
  | ct e => exact fun σ' n => h σ' (a.trans st n)
/-- data stored in a slot -/
theorem EnvR.setD {g : G} {H : Hp} {σ : L2.St} {env : EnvD} (er : EnvR K mg g H σ env) (i : Nat) {v : V} {d : D} (r : Rv K mg g v d) : EnvR K mg g H (σ.set i (some v)) (env.set i (some (.d d))) := by
  have hl := er.len
  refine ⟨by simp [er.len], fun j e h => ?_, fun j k e e' a h1 h2 h3 h4 h5 h6 => ?_⟩
  · by_cases hj : j = i
    · subst hj
      have lt : j < env.length := by
        have := (List.getElem?_eq_some_iff.mp h).1
        simpa using this
      rw [List.getElem?_set_self lt] at h
      cases h
      exact ⟨v, by rw [List.getElem?_set_self (by omega)], r⟩
    · rw [List.getElem?_set_ne (Ne.symm hj)] at h ⊢
      exact er.val j e h
  · have nj : j ≠ i := fun z => by
      subst z
      have lt : j < env.length := by
        have := (List.getElem?_eq_some_iff.mp h1).1
        simpa using this
      rw [List.getElem?_set_self lt] at h1
      cases h1; cases h2
    have nk : k ≠ i := fun z => by
      subst z
      have lt : k < env.length := by
        have := (List.getElem?_eq_some_iff.mp h4).1
        simpa using this
      rw [List.getElem?_set_self lt] at h4
      cases h4; cases h5
    rw [List.getElem?_set_ne (Ne.symm nj)] at h1 h3
    rw [List.getElem?_set_ne (Ne.symm nk)] at h4 h6
    exact er.one j k e e' a h1 h2 h3 h4 h5 h6
theorem owns_set {σ : L2.St} {env : EnvD} {i : Nat} {v : V} {d : D} {a : Addr} (hl : σ.length = env.length) (h : Owns (σ.set i (some v)) (env.set i (some (.d d))) a) : Owns σ env a := by
  obtain ⟨j, e, h1, h2, h3⟩ := h
  have nj : j ≠ i := fun z => by
    subst z
    have lt : j < env.length := by
      have := (List.getElem?_eq_some_iff.mp h1).1
      simpa using this
    rw [List.getElem?_set_self lt] at h1
    cases h1; cases h2
  rw [List.getElem?_set_ne (Ne.symm nj)] at h1 h3
  exact ⟨j, e, h1, h2, h3⟩
/-- a fresh list of one's own in a slot -/
theorem EnvR.setO {g : G} {H : Hp} {σ : L2.St} {env : EnvD} (er : EnvR K mg g H σ env) (i : Nat) {p : Addr} {u : HO} {e0 : EV} (h0 : isOwn e0 = true) (hp : H p = some u) (hR : g.R p = none) (hι : p ∉ g.ι) (rs : OwR K mg g u e0)
    (hn : ∀ (j : Nat) (e : EV), j ≠ i → env[j]? = some (some e) → isOwn e = true → σ[j]? ≠ some (some (V.ref p))) : EnvR K mg g H (σ.set i (some (V.ref p))) (env.set i (some e0)) := by
  have hl := er.len
  refine ⟨by simp [er.len], fun j e h => ?_, fun j k e e' a h1 h2 h3 h4 h5 h6 => ?_⟩
  · by_cases hj : j = i
    · subst hj
      have lt : j < env.length := by
        have := (List.getElem?_eq_some_iff.mp h).1
        simpa using this
      rw [List.getElem?_set_self lt] at h
      cases h
      exact ⟨V.ref p, by rw [List.getElem?_set_self (by omega)], .of h0 ⟨p, u, rfl, hp, hR, hι, rs⟩⟩
    · rw [List.getElem?_set_ne (Ne.symm hj)] at h ⊢
      exact er.val j e h
  · have at_ : ∀ {j : Nat} {e : EV}, (env.set i (some e0))[j]? = some (some e) → (σ.set i (some (V.ref p)))[j]? = some (some (V.ref a)) → isOwn e = true → (j = i ∧ a = p) ∨ (j ≠ i ∧ a ≠ p ∧ env[j]? = some (some e) ∧ σ[j]? = some (some (V.ref a))) := fun {j e} z1 z2 z3 => by
      by_cases hj : j = i
      · subst hj
        have lt : j < env.length := by
          have := (List.getElem?_eq_some_iff.mp z1).1
          simpa using this
        rw [List.getElem?_set_self (by omega)] at z2
        cases z2
        exact .inl ⟨rfl, rfl⟩
      · rw [List.getElem?_set_ne (Ne.symm hj)] at z1 z2
        exact .inr ⟨hj, fun z => hn j e hj z1 z3 (by rw [← z]; exact z2), z1, z2⟩
    rcases at_ h1 h3 h2 with ⟨q1, q2⟩ | ⟨q1, q2, q3, q4⟩
    · rcases at_ h4 h6 h5 with ⟨z1, _⟩ | ⟨_, z2, _⟩
      · rw [q1, z1]
      · exact absurd q2 z2
    · rcases at_ h4 h6 h5 with ⟨_, z2⟩ | ⟨_, _, z3, z4⟩
      · exact absurd z2 q2
      · exact er.one j k e e' a q3 h2 q4 z3 h5 z4
theorem owns_setO {σ : L2.St} {env : EnvD} {i : Nat} {p : Addr} {e0 : EV} {a : Addr} (hl : σ.length = env.length) (h : Owns (σ.set i (some (V.ref p))) (env.set i (some e0)) a) : Owns σ env a ∨ a = p := by
  obtain ⟨j, e, h1, h2, h3⟩ := h
  by_cases hj : j = i
  · subst hj
    have lt : j < env.length := by
      have := (List.getElem?_eq_some_iff.mp h1).1
      simpa using this
    rw [List.getElem?_set_self (by omega)] at h3
    cases h3
    exact .inr rfl
  · rw [List.getElem?_set_ne (Ne.symm hj)] at h1 h3
    exact .inl ⟨j, e, h1, h2, h3⟩
/-- a new object, not frozen -/
theorem Rep.new {g : G} {st : Sto} {H : Hp} {p : Addr} {o : HO} (r : Rep K mg g st H) (n : H p = none) : Stp K mg g st H g st (upd H p o) := by
  have nι : p ∉ g.ι := fun m => r.live p m n
  refine ⟨.refl g, ⟨fun a u h => by rw [upd_ne (ne_of_none (r.sub a u h) n)]; exact r.sub a u h, r.len, fun a m => ?_, r.inj, fun k a c h1 h2 => ?_⟩, fun a u h _ _ => by rw [upd_ne (ne_of_none h n)]; exact h, fun a h _ _ _ => h, fun a m => .inl m, fun a h => ?_⟩
  · rw [upd_ne (show a ≠ p from fun z => nι (z ▸ m))]; exact r.live a m
  · obtain ⟨h3, h4⟩ := r.cell k a c h1 h2
    rw [upd_ne (show a ≠ p from fun z => nι (z ▸ List.mem_of_getElem? h1))]
    exact ⟨h3, h4⟩
  · by_cases e : a = p
    · subst e; rw [upd_same]; simp
    · rw [upd_ne e]; exact h
/-- a list of one's own is changed -/
theorem Rep.chg {g : G} {st : Sto} {H : Hp} {p : Addr} {o u : HO} {O : Addr → Prop} (r : Rep K mg g st H) (hp : H p = some u) (hR : g.R p = none) (hι : p ∉ g.ι) (ho : O p) : Stq K mg O g st H g st (upd H p o) := by
  refine ⟨.refl g, ⟨fun a u h => ?_, r.len, fun a m => ?_, r.inj, fun k a c h1 h2 => ?_⟩, fun a u h _ no => ?_, fun a h _ _ _ => h, fun a m => .inl m, fun a h => ?_⟩
  · rw [upd_ne (show a ≠ p from fun z => by rw [z, hR] at h; cases h)]; exact r.sub a u h
  · rw [upd_ne (show a ≠ p from fun z => hι (z ▸ m))]; exact r.live a m
  · obtain ⟨h3, h4⟩ := r.cell k a c h1 h2
    rw [upd_ne (show a ≠ p from fun z => hι (z ▸ List.mem_of_getElem? h1))]
    exact ⟨h3, h4⟩
  · rw [upd_ne (show a ≠ p from fun z => no (z ▸ ho))]; exact h
  · by_cases e : a = p
    · subst e; rw [upd_same]; simp
    · rw [upd_ne e]; exact h
/-- .. and its slot follows -/
theorem EnvR.chg {g : G} {H : Hp} {σ : L2.St} {env : EnvD} (er : EnvR K mg g H σ env) {i : Nat} {p : Addr} {e0 e1 : EV} {u : HO} (o0 : isOwn e0 = true) (o1 : isOwn e1 = true) (hi : env[i]? = some (some e0)) (hσ : σ[i]? = some (some (V.ref p))) (rs : OwR K mg g u e1) :
    EnvN K mg g (upd H p u) σ env H σ (env.set i (some e1)) := by
  obtain ⟨v, hv, h0⟩ := er.val i _ hi
  obtain ⟨a, vs, q1, e2, e3, e4, e5⟩ := h0.own o0
  rw [hσ] at hv
  cases hv
  cases q1
  have li : i < env.length := (List.getElem?_eq_some_iff.mp hi).1
  refine ⟨⟨by simp [er.len], fun j e h => ?_, fun j k e e' a h1 h2 h3 h4 h5 h6 => ?_⟩, fun a ⟨j, e, h1, h2, h3⟩ => ?_⟩
  · by_cases hj : j = i
    · subst hj
      rw [List.getElem?_set_self li] at h
      cases h
      exact ⟨V.ref p, hσ, .of o1 ⟨p, u, rfl, upd_same, e3, e4, rs⟩⟩
    · rw [List.getElem?_set_ne (Ne.symm hj)] at h
      obtain ⟨v, h1, h2⟩ := er.val j e h
      refine ⟨v, h1, ?_⟩
      by_cases ho : isOwn e = true
      · obtain ⟨b, ws, q1, q2, q3, q4, q5⟩ := h2.own ho
        subst q1
        have hb : b ≠ p := fun z => hj (er.one j i _ _ p h ho (by rw [← z]; exact h1) hi o0 hσ)
        exact .of ho ⟨b, ws, rfl, by rw [upd_ne hb]; exact q2, q3, q4, q5⟩
      · cases e with
        | d x => exact h2
        | own ys => exact absurd rfl ho
        | dic ks ys => exact absurd rfl ho
  · have back : ∀ {j : Nat} {e : EV}, (env.set i (some e1))[j]? = some (some e) → isOwn e = true → ∃ e', env[j]? = some (some e') ∧ isOwn e' = true := fun {j e} z1 z2 => by
      by_cases hj : j = i
      · subst hj; exact ⟨_, hi, o0⟩
      · rw [List.getElem?_set_ne (Ne.symm hj)] at z1; exact ⟨e, z1, z2⟩
    obtain ⟨f, q1, q2⟩ := back h1 h2
    obtain ⟨f', q1', q2'⟩ := back h4 h5
    exact er.one j k f f' a q1 q2 h3 q1' q2' h6
  · by_cases hj : j = i
    · subst hj; exact .inl ⟨j, _, hi, o0, h3⟩
    · rw [List.getElem?_set_ne (Ne.symm hj)] at h1; exact .inl ⟨j, e, h1, h2, h3⟩
/-- a list of one's own becomes frozen -/
def frz (i : Nat) (env : EnvD) : EnvD := match env[i]? with
  | some (some (.own xs)) => env.set i (some (.d (.lst xs)))
  | _ => env
/-- the thing at p, a name's own, is frozen as u -/
theorem freezeAt {g : G} {st : Sto} {H : Hp} {σ : L2.St} {env : EnvD} (r : Rep K mg g st H) (er : EnvR K mg g H σ env) {i : Nat} {e0 : EV} {p : Addr} {u u0 : HO} {d : D} (hi : env[i]? = some (some e0)) (o0 : isOwn e0 = true) (hv : σ[i]? = some (some (V.ref p))) (hp : H p = some u0) (e3 : g.R p = none) (e4 : p ∉ g.ι)
    (hd : Rv K mg { g with R := upd g.R p u } (.ref p) d) : Stq K mg (Owns σ env) g st H { g with R := upd g.R p u } st (upd H p u) ∧ EnvN K mg { g with R := upd g.R p u } (upd H p u) σ env H σ (env.set i (some (.d d))) := by
  have own : Owns σ env p := ⟨i, _, hi, o0, hv⟩
  have le : Gle g { g with R := upd g.R p u } := ⟨fun a o h => by
    show upd g.R p u a = some o
    rw [upd_ne fun z => by rw [z, e3] at h; cases h]
    exact h, [], by simp⟩
  have li : i < env.length := (List.getElem?_eq_some_iff.mp hi).1
  refine ⟨⟨le, ⟨fun a o h => ?_, r.len, fun a m => ?_, r.inj, fun k a c h1 h2 => ?_⟩, fun a o h _ no => ?_, fun a h _ _ no => ?_, fun a m => .inl m, fun a h => ?_⟩, ⟨⟨by simp [er.len], fun j e h => ?_, fun j k e e' a h1 h2 h3 h4 h5 h6 => ?_⟩, fun a ⟨j, e, h1, h2, h3⟩ => ?_⟩⟩
  · have h : upd g.R p u a = some o := h
    by_cases z : a = p
    · subst z; rw [upd_same] at h ⊢; exact h
    · rw [upd_ne z] at h ⊢; exact r.sub a o h
  · rw [upd_ne (show a ≠ p from fun z => e4 (z ▸ m))]; exact r.live a m
  · obtain ⟨h3, h4⟩ := r.cell k a c h1 h2
    have ne : a ≠ p := fun z => e4 (z ▸ List.mem_of_getElem? h1)
    refine ⟨?_, ?_⟩
    · show upd g.R p u a = none
      rw [upd_ne ne]; exact h3
    · rw [upd_ne ne]; exact h4.le le
  · rw [upd_ne (show a ≠ p from fun z => no (z ▸ own))]; exact h
  · show upd g.R p u a = none
    rw [upd_ne (show a ≠ p from fun z => no (z ▸ own))]; exact h
  · by_cases z : a = p
    · subst z; rw [upd_same]; simp
    · rw [upd_ne z]; exact h
  · by_cases hj : j = i
    · subst hj
      rw [List.getElem?_set_self li] at h
      cases h
      exact ⟨_, hv, hd⟩
    · rw [List.getElem?_set_ne (Ne.symm hj)] at h
      obtain ⟨v, h1, h2⟩ := er.val j e h
      refine ⟨v, h1, ?_⟩
      by_cases ho : isOwn e = true
      · obtain ⟨b, ws, q1, q2, q3, q4, q5⟩ := h2.own ho
        subst q1
        have hb : b ≠ p := fun z => hj (er.one j i _ _ p h ho (by rw [← z]; exact h1) hi o0 hv)
        refine .of ho ⟨b, ws, rfl, by rw [upd_ne hb]; exact q2, ?_, q4, q5.le le⟩
        show upd g.R p u b = none
        rw [upd_ne hb]; exact q3
      · cases e with
        | d x => exact Rv.le le h2
        | own ys => exact absurd rfl ho
        | dic ks ys => exact absurd rfl ho
  · have back : ∀ {j : Nat} {e : EV}, (env.set i (some (.d d)))[j]? = some (some e) → isOwn e = true → env[j]? = some (some e) := fun {j e} z1 z2 => by
      by_cases hj : j = i
      · subst hj; rw [List.getElem?_set_self li] at z1; cases z1; cases z2
      · rw [List.getElem?_set_ne (Ne.symm hj)] at z1; exact z1
    exact er.one j k e e' a (back h1 h2) h2 h3 (back h4 h5) h5 h6
  · by_cases hj : j = i
    · subst hj; rw [List.getElem?_set_self li] at h1; cases h1; cases h2
    · rw [List.getElem?_set_ne (Ne.symm hj)] at h1; exact .inl ⟨j, e, h1, h2, h3⟩
theorem upd_id {H : Hp} {p : Addr} {u : HO} (h : H p = some u) : upd H p u = H := by
  funext b
  by_cases z : b = p
  · subst z; rw [upd_same, h]
  · rw [upd_ne z]
theorem freeze {g : G} {st : Sto} {H : Hp} {σ : L2.St} {env : EnvD} (r : Rep K mg g st H) (er : EnvR K mg g H σ env) (i : Nat) : ∃ g', Stq K mg (Owns σ env) g st H g' st H ∧ EnvN K mg g' H σ env H σ (frz i env) := by
  unfold frz
  split
  · rename_i xs hi
    obtain ⟨v, hv, p, o, e1, e2, e3, e4, e5⟩ := er.val i _ hi
    subst e1
    cases o with
    | lst vs =>
      have le : Gle g { g with R := upd g.R p (.lst vs) } := ⟨fun a u h => by
        show upd g.R p _ a = some u
        rw [upd_ne fun z => by rw [z, e3] at h; cases h]
        exact h, [], by simp⟩
      have q := freezeAt (u := .lst vs) (d := .lst xs) r er hi rfl hv e2 e3 e4 (.lst upd_same (Rvs.le le e5))
      rw [upd_id e2] at q
      exact ⟨_, q⟩
    | _ => exact (show False from e5).elim
  · exact ⟨g, .refl r, .refl er⟩

/-! ### what stands behind a statement -/
variable {De : Ends}
theorem cS_of {f : EnvD → M Fl} {De : Ends} {σ : L2.St} {H : Hp} {g : G} {env : EnvD} {st : Sto} (r : Rep K mg g st H) (er : EnvR K mg g H σ env)
    (h : (f env st).wp (fun fl st' => ∀ g' H', Stq K mg (Owns σ env) g st H g' st' H' → flP K mg De σ env H fl g' H') (fun _ _ => False)) : cS K mg f De σ H := ⟨g, env, st, r, er, h⟩
/-- behind a value, inside a statement -/
theorem St1 {α : Type} {m : M α} {k : α → M Fl} {σ : L2.St} {H : Hp} {g : G} {env : EnvD} {st : Sto}
    (h : ((m >>= k) st).wp (fun fl st' => ∀ g' H', Stq K mg (Owns σ env) g st H g' st' H' → flP K mg De σ env H fl g' H') (fun _ _ => False)) :
    At K mg g st H m fun a g1 st1 H1 => (k a st1).wp (fun fl st' => ∀ g' H', Stq K mg (Owns σ env) g1 st1 H1 g' st' H' → flP K mg De σ env H fl g' H') (fun _ _ => False) :=
  Out.wp_mono (M.bind_wp h) (fun a s q g1 H1 z => Out.wp_mono q (fun fl s2 q2 g2 H2 z2 => q2 g2 H2 ((z.weak (fun _ f => f.elim)).trans z2 fun _ o => .inl o)) fun _ _ z => z) fun _ _ z => z
end
section
variable {X : Cx} {st : Stmt} {rest : List Stmt} {pos : Pos} {e c : Expr} {f f2 : EnvD → M Fl} {fe : EnvD → M D} {ft : EnvD → M Bool}
def nxtS : EnvD → M Fl := fun env => pure (.nx env)
def seqS (f f2 : EnvD → M Fl) : EnvD → M Fl := fun env => f env >>= fun fl => match fl with
  | .nx env' => f2 env'
  | fl => pure fl
theorem dSs_nil : PSs X [] (cS X.K X.mg nxtS) := pss_imp pss_nil fun De σ H ⟨g, env, s, r, er, h⟩ => by
  have h : ∀ g' H', Stq X.K X.mg (Owns σ env) g s H g' s H' → flP X.K X.mg De σ env H (.nx env) g' H' := h
  exact h g H (.refl r) σ (.refl er)
theorem dSs_cons (h1 : PS X st (cS X.K X.mg f)) (h2 : PSs X rest (cS X.K X.mg f2)) : PSs X (st :: rest) (cS X.K X.mg (seqS f f2)) := by
  refine pss_imp (pss_cons h1 h2) fun De σ H ⟨g, env, s, r, er, h⟩ => ⟨g, env, s, r, er, Out.wp_mono (M.bind_wp h) (fun fl s1 q g1 H1 z => ?_) fun _ _ z => z⟩
  cases fl with
  | nx env1 =>
    refine fun σ1 n => ⟨g1, env1, s1, z.rep, n.r, Out.wp_mono q (fun fl2 s2 q2 g2 H2 z2 => flP_trans n z.stay (q2 g2 H2 (z.trans z2 n.o))) fun _ _ z => z⟩
  | rt d => exact (show ∀ g' H', _ → _ from q) g1 H1 z
  | bk env1 => exact (show ∀ g' H', _ → _ from q) g1 H1 z
  | ct env1 => exact (show ∀ g' H', _ → _ from q) g1 H1 z
theorem dSs_one (h1 : PS X st (cS X.K X.mg f)) : PSs X [st] (cS X.K X.mg f) := pss_one h1
theorem dS_pass : PS X (.Pass pos) (cS X.K X.mg nxtS) := ps_imp ps_pass fun De σ H ⟨g, env, s, r, er, h⟩ => by
  have h : ∀ g' H', Stq X.K X.mg (Owns σ env) g s H g' s H' → flP X.K X.mg De σ env H (.nx env) g' H' := h
  exact h g H (.refl r) σ (.refl er)
def badS : EnvD → M Fl := fun _ => M.bad
/-- what the proof never comes to -/
theorem dS_never : PS X st (cS X.K X.mg badS) := ps_imp ps_never fun De σ H ⟨g, env, s, r, er, h⟩ => h
def retS (fe : EnvD → M D) : EnvD → M Fl := fun env => fe env >>= fun d => pure (.rt d)
theorem dS_ret (he : PE X e (cE X.K X.mg fe)) : PS X (.Return (some e) pos) (cS X.K X.mg (retS fe)) := by
  refine ps_imp (ps_ret he) fun De σ H ⟨g, env, s, r, er, h⟩ => ⟨g, env, s, r, er, (St1 h).mono fun d g1 s1 H1 z q v rv => ?_⟩
  exact (show ∀ g' H', _ → _ from q) g1 H1 (.refl z.rep) v rv
def retN : EnvD → M Fl := fun _ => pure (.rt .non)
theorem dS_retN : PS X (.Return none pos) (cS X.K X.mg retN) := by
  refine ps_imp ps_retN fun De σ H ⟨g, env, s, r, er, h⟩ => ?_
  exact (show ∀ g' H', Stq X.K X.mg (Owns σ env) g s H g' s H' → flP X.K X.mg De σ env H (.rt .non) g' H' from h) g H (.refl r) _ .non
def brkS : EnvD → M Fl := fun env => pure (.bk env)
def cntS : EnvD → M Fl := fun env => pure (.ct env)
theorem dS_brk : PS X (.Break pos) (cS X.K X.mg brkS) := ps_imp ps_break fun De σ H ⟨g, env, s, r, er, h⟩ =>
  (show ∀ g' H', Stq X.K X.mg (Owns σ env) g s H g' s H' → flP X.K X.mg De σ env H (.bk env) g' H' from h) g H (.refl r) σ (.refl er)
theorem dS_cnt : PS X (.Continue pos) (cS X.K X.mg cntS) := ps_imp ps_continue fun De σ H ⟨g, env, s, r, er, h⟩ =>
  (show ∀ g' H', Stq X.K X.mg (Owns σ env) g s H g' s H' → flP X.K X.mg De σ env H (.ct env) g' H' from h) g H (.refl r) σ (.refl er)
def ifS (t : EnvD → M Bool) (f f2 : EnvD → M Fl) : EnvD → M Fl := fun env => t env >>= fun b => if b = true then f env else f2 env
theorem dS_if {a b : List Stmt} (hc : PT X c (cT X.K X.mg ft)) (ha : PSs X a (cS X.K X.mg f)) (hb : PSs X b (cS X.K X.mg f2)) : PS X (.If c a b pos) (cS X.K X.mg (ifS ft f f2)) := by
  refine ps_imp (ps_if hc ha hb) fun De σ H ⟨g, env, s, r, er, h⟩ => ⟨g, env, s, r, er, (St1 h).mono fun b g1 s1 H1 z q => ?_⟩
  have n := EnvN.step er z
  cases b with
  | true =>
    rw [if_pos rfl] at q
    show cS X.K X.mg f De σ H1
    exact ⟨g1, env, s1, z.rep, n.r, Out.wp_mono q (fun fl s2 q2 g2 H2 z2 => flP_trans n z.stay (q2 g2 H2 z2)) fun _ _ z => z⟩
  | false =>
    rw [if_neg (by decide)] at q
    show cS X.K X.mg f2 De σ H1
    exact ⟨g1, env, s1, z.rep, n.r, Out.wp_mono q (fun fl s2 q2 g2 H2 z2 => flP_trans n z.stay (q2 g2 H2 z2)) fun _ _ z => z⟩
def setS (i : Nat) (fe : EnvD → M D) : EnvD → M Fl := fun env => fe env >>= fun d => pure (.nx (env.set i (some (.d d))))
theorem set_t {i : Nat} {De : Ends} {σ : L2.St} {H : Hp} {fe : EnvD → M D} {K : PySem.W.Frag} {mg : Str → Option Value} (h : cS K mg (setS i fe) De σ H) : tAsg (cE K mg fe) (gName i) De σ H := by
  obtain ⟨g, env, s, r, er, h⟩ := h
  refine ⟨g, env, s, r, er, (St1 h).mono fun d g1 s1 H1 z q v rv => ?_⟩
  exact (show ∀ g' H', _ → _ from q) g1 H1 (.refl z.rep) _ ⟨(er.step z).setD i rv, fun a o => .inl (owns_set er.len o)⟩
/-- name = e -/
theorem dS_set (i : Nat) {x : Str} {pos' : Pos} (hN : X.N.Nodup) (he : PE X e (cE X.K X.mg fe)) (hi : X.N[i]? = some x := by rfl) (hx : Loc X.env.scope x := by first | exact .inl rfl | exact .inr rfl) (hs : swapsWith e (some (.Name x pos')) pos.line X.env = pure false := by rfl)
    (hf : X.fn x = true ∨ X.env.scope.names.lookup x = some .local := by first | exact .inl rfl | exact .inr rfl | assumption) : PS X (.Assign [.Name x pos'] e pos) (cS X.K X.mg (setS i fe)) :=
  ps_imp (ps_set hN hi hx he hs hf) fun _ _ _ h => set_t h
/-- an expression whose value is dropped -/
def drpS (fe : EnvD → M D) : EnvD → M Fl := fun env => fe env >>= fun _ => pure (.nx env)
theorem dS_expr (he : PE X e (cE X.K X.mg fe)) (hs : swapsWith e none pos.line X.env = pure false := by rfl) : PS X (.Expr e pos) (cS X.K X.mg (drpS fe)) := by
  refine ps_imp (ps_expr he hs) fun De σ H ⟨g, env, s, r, er, h⟩ => ⟨g, env, s, r, er, (St1 h).mono fun d g1 s1 H1 z q v rv => ?_⟩
  exact (show ∀ g' H', _ → _ from q) g1 H1 (.refl z.rep) _ (.step er z)
/-- ghosts ahead of a statement: the name's own list is frozen -/
def frzS (i : Nat) (f : EnvD → M Fl) : EnvD → M Fl := fun env => f (frz i env)
theorem frz_t {i : Nat} {K : PySem.W.Frag} {mg : Str → Option Value} {De : Ends} {σ : L2.St} {H : Hp} (h : cS K mg (frzS i f) De σ H) : cS K mg f De σ H := by
  obtain ⟨g, env, s, r, er, h⟩ := h
  obtain ⟨g1, z, n⟩ := freeze r er i
  exact ⟨g1, frz i env, s, z.rep, n.r, Out.wp_mono h (fun fl s2 q2 g2 H2 z2 => flP_trans n z.stay (q2 g2 H2 (z.trans z2 n.o))) fun _ _ z => z⟩
theorem dS_frz (i : Nat) (h : PS X st (cS X.K X.mg f)) : PS X st (cS X.K X.mg (frzS i f)) := ps_imp h fun _ _ _ h => frz_t h
/-- name = [..], a list of its own -/
def ownS (i : Nat) (fr : EnvD → M (List D)) : EnvD → M Fl := fun env => fr env >>= fun ds => if ds.length ≤ sizeLine then pure (.nx (env.set i (some (.own ds)))) else M.bad
theorem dS_own (i : Nat) {x : Str} {pos' p2 : Pos} {es : List Expr} {fr : EnvD → M (List D)} (hN : X.N.Nodup) (he : PA X es (cA X.K X.mg fr)) (hi : X.N[i]? = some x := by rfl) (hx : Loc X.env.scope x := by first | exact .inl rfl | exact .inr rfl) (hs : swapsWith (.List es p2) (some (.Name x pos')) pos.line X.env = pure false := by rfl)
    (hf : X.fn x = true ∨ X.env.scope.names.lookup x = some .local := by first | exact .inl rfl | exact .inr rfl | assumption) : PS X (.Assign [.Name x pos'] (.List es p2) pos) (cS X.K X.mg (ownS i fr)) := by
  refine ps_imp (ps_set hN hi hx (pe_lst he) hs hf) fun De σ H ⟨g, env, s, r, er, h⟩ => ⟨g, env, s, r, er, (St1 h).mono fun ds g1 s1 H1 z q vs rs => ?_⟩
  by_cases hz : ds.length ≤ sizeLine
  · rw [if_pos hz] at q
    refine ⟨rs.length ▸ hz, fun p n => ?_⟩
    have er1 := er.step z
    have z2 := z.rep.new (o := .lst vs) n
    have nR : g1.R p = none := by
      cases e : g1.R p with
      | none => rfl
      | some u => rw [z.rep.sub p u e] at n; cases n
    have nι : p ∉ g1.ι := fun m => z.rep.live p m n
    refine (show ∀ g' H', _ → _ from q) g1 _ (z2.weak fun _ f => f.elim) _ ⟨(er1.step z2).setO i (e0 := .own ds) rfl upd_same nR nι (show Rvs X.K X.mg g1 vs ds from rs) fun j e _ h1 h2 h3 => ?_, fun a o => ?_⟩
    · obtain ⟨ws, q1, _⟩ := Owns.there er1 ⟨j, e, h1, h2, h3⟩
      rw [n] at q1; cases q1
    · rcases owns_setO er.len o with o | rfl
      · exact .inl o
      · refine .inr ?_
        cases e : H a with
        | none => rfl
        | some u => exact absurd n (z.stay a (by rw [e]; simp))
  · rw [if_neg hz] at q; exact q.elim
end
end Dd

set_option Elab.async false
set_option linter.all false
set_option maxRecDepth 100000
/-! Dd, part I: what loops walk: lists, tuples, texts; enumerate and zip of any of them. -/
namespace Dd
open PySem PySem.Spec PyProof.Rows L2
open Sem (wp)
inductive Src where
  | lst (a : Addr) | tup (a : Addr) | str (x : Str)
def chars (x : Str) : List V := x.cps.toList.map fun c => V.str ⟨#[c]⟩
def Src.vals (K : PySem.W.Frag) (H : Hp) : Src → List V → Prop
  | .lst a, xs => SqL K H a xs
  | .tup a, xs => SqT K H a xs
  | .str x, xs => xs = chars x
def Src.v : Src → V
  | .lst a => .ref a
  | .tup a => .ref a
  | .str x => .str x
def SrcIt : Src → Addr → Nat → Heap → Prop
  | .lst a, it, i, h => h.IsListIter it a i
  | .tup a, it, i, h => h.IsTupleIter it a i
  | .str x, it, i, h => ∃ t, h.IsStrIter it (strIterType x) x t i
def Src.ne : Src → Addr → Prop
  | .lst a, b => a ≠ b
  | .tup a, b => a ≠ b
  | .str _, _ => True
section
variable {X : Cx} {pins : List (Addr × Obj)} {σ : L2.St} {H : Hp} {s : Shared}
theorem Src.inj (I : Inv X pins σ H s) {src : Src} {xs ys : List V} (h : src.vals X.K H xs) (h' : src.vals X.K H ys) : xs = ys := by
  cases src with
  | lst a => exact I.list_inj h h'
  | tup a => exact I.tuple_inj h h'
  | str x => exact h.trans h'.symm
theorem srcIt_at {src : Src} {it : Addr} {i : Nat} {h h' : Heap} (k : ∀ o, h.get? it = some o → h'.get? it = some o) (st : SrcIt src it i h) : SrcIt src it i h' := by
  cases src with
  | lst a => exact Heap.IsListIter.at st fun o e => k o e
  | tup a => exact Heap.IsTupleIter.at st fun o e => k o e
  | str x => obtain ⟨t, o, e, c, d⟩ := st; exact ⟨t, o, k o e, c, d⟩
theorem srcIt_live {src : Src} {it : Addr} {i : Nat} {h : Heap} (st : SrcIt src it i h) : ∃ o, h.get? it = some o ∧ ∀ v, o.data ≠ .cell v := by
  cases src with
  | lst a => obtain ⟨o, e, c, d⟩ := st; exact ⟨o, e, fun v z => by rw [d] at z; cases z⟩
  | tup a => obtain ⟨o, e, c, d⟩ := st; exact ⟨o, e, fun v z => by rw [d] at z; cases z⟩
  | str x => obtain ⟨t, o, e, c, d⟩ := st; exact ⟨o, e, fun v z => by rw [d] at z; cases z⟩
theorem src_draws (I : Inv X pins σ H s) (hc : X.calm = true) {src : Src} {it : Addr} {i : Nat} {xs : List V} (hv : src.vals X.K H xs) (hit : SrcIt src it i s.heap) (hne : src.ne it) :
    ∃ (fp : List Addr) (P : Nat → Value → Prop) (St : Nat → Heap → Prop), Draws X.prog X.w X.A.in1 it fp xs.length P St ∧ it ∈ fp ∧ (∀ b ∈ fp, b = it ∨ ¬ src.ne b) ∧ St i s.heap ∧ (∀ j h, St j h → SrcIt src it j h) ∧ (∀ j u, P j u → ∃ x, xs[j]? = some x ∧ RelV x u) := by
  have hh : X.A.in1.handled = none := I.ok.hd hc
  cases src with
  | lst a =>
    obtain ⟨its, rv, p, hz⟩ := I.list hv
    have hn : its.toArray.size = xs.length := by simpa using rv.length.symm
    refine ⟨_, _, _, hn ▸ Draws.list hh it a hne its.toArray, by simp, fun b hb => ?_, ⟨hit, p.isList⟩, fun j h st => st.1, fun j u hu => ?_⟩
    · have e : b = it ∨ b = a := by simpa using hb
      exact e.imp id fun e => by rw [e]; exact fun z => z rfl
    · have hu : its[j]? = some u := by simpa using hu
      have hj : j < xs.length := by rw [rv.length]; exact (List.getElem?_eq_some_iff.mp hu).1
      obtain ⟨u', h1, h2⟩ := rv.get (List.getElem?_eq_getElem hj)
      rw [hu] at h1; cases h1
      exact ⟨_, List.getElem?_eq_getElem hj, h2⟩
  | tup a =>
    obtain ⟨its, rv, p, hz⟩ := I.tuple hv
    have hn : its.toArray.size = xs.length := by simpa using rv.length.symm
    refine ⟨_, _, _, hn ▸ Draws.tuple hh it a hne its.toArray, by simp, fun b hb => ?_, ⟨hit, p⟩, fun j h st => st.1, fun j u hu => ?_⟩
    · have e : b = it ∨ b = a := by simpa using hb
      exact e.imp id fun e => by rw [e]; exact fun z => z rfl
    · have hu : its[j]? = some u := by simpa using hu
      have hj : j < xs.length := by rw [rv.length]; exact (List.getElem?_eq_some_iff.mp hu).1
      obtain ⟨u', h1, h2⟩ := rv.get (List.getElem?_eq_getElem hj)
      rw [hu] at h1; cases h1
      exact ⟨_, List.getElem?_eq_getElem hj, h2⟩
  | str x =>
    obtain ⟨t, hit⟩ := hit
    have hn : x.cps.size = xs.length := by rw [show xs = chars x from hv]; simp [chars]
    refine ⟨_, _, _, hn ▸ Draws.text hh it x t, by simp, fun b hb => .inl (by simpa using hb), hit, fun j h st => ⟨t, st⟩, fun j u hu => ?_⟩
    obtain ⟨c, k, h1, h2⟩ := hu
    refine ⟨.str ⟨#[c]⟩, ?_, ⟨k, h2⟩⟩
    rw [show xs = chars x from hv]
    simp [chars, h1]
theorem src_begins (I : Inv X pins σ H s) {src : Src} {xs : List V} {u : Value} (hv : src.vals X.K H xs) (ru : RelV src.v u) :
    ∃ (o : Obj) (P : Heap → Prop), Begins u o P ∧ P s.heap ∧ (∀ (h : Heap) (it : Addr), h.get? it = some o → SrcIt src it 0 h) ∧ ∀ b, s.heap.objs.size ≤ b → src.ne b := by
  cases src with
  | lst a =>
    cases ru
    obtain ⟨its, rv, p, hz⟩ := I.list hv
    exact ⟨_, _, begins_list a its.toArray, p.isList, fun h it e => ⟨_, e, rfl, rfl⟩, fun b hb => Nat.ne_of_lt (Nat.lt_of_lt_of_le p.lt hb)⟩
  | tup a =>
    cases ru
    obtain ⟨its, rv, p, hz⟩ := I.tuple hv
    obtain ⟨o1, ho1, _⟩ := id p
    exact ⟨_, _, begins_tuple a its.toArray, p, fun h it e => ⟨_, e, rfl, rfl⟩, fun b hb => Nat.ne_of_lt (Nat.lt_of_lt_of_le (Heap.lt_size ho1) hb)⟩
  | str x =>
    obtain ⟨t, rfl⟩ := ru
    exact ⟨_, _, begins_text x t, trivial, fun h it e => ⟨t, _, e, rfl, rfl⟩, fun b _ => trivial⟩
end
/-! ### enumerate -/
def IteD (K : PySem.W.Frag) (src : Src) : It :=
  ⟨fun i H => ∃ (xs : List V) (x : V), src.vals K H xs ∧ xs[i]? = some x, fun i H v H' => ∃ T x, v = .ref T ∧ H T = none ∧ H' = upd H T (.tup [.int (i : Nat), x]) ∧ ∀ xs, src.vals K H xs → xs[i]? = some x, fun i H => ∃ xs : List V, src.vals K H xs ∧ xs.length = i⟩
theorem turn_enumD {P : Program} {w : World} {K : PySem.W.Frag} {elts : List Expr} {kk : Nat} {tpos : Pos} (src : Src) (e it : Addr) (hne : e ≠ it) (he1 : src.ne e) (he2 : src.ne it) :
    Turn P w K (.Tuple elts kk tpos) (IteD K src) [e, it] e (fun i h => (∃ old, IsEnum h e it (0 + (i : Int)) old) ∧ SrcIt src it i h) where
  mem := by simp
  obj := fun i h st b hb => by
    obtain ⟨⟨old, he⟩, hi⟩ := st
    have e' : b = e ∨ b = it := by simpa using hb
    rcases e' with z | z
    · rw [z]; exact ⟨_, he, fun v q => nomatch q⟩
    · rw [z]; exact srcIt_live hi
  keep := fun i h h' st k => let ⟨⟨old, he⟩, hi⟩ := st; ⟨⟨old, k e (by simp) _ he⟩, srcIt_at (fun o q => k it (by simp) o q) hi⟩
  item := by
    intro X hP hw hK hc i pins s σ H E I hf st hg
    subst hP hw hK
    obtain ⟨⟨old, he⟩, hit⟩ := st
    obtain ⟨xs, x, hq, hx⟩ := hg
    obtain ⟨fp, Pd, St, D, hm, hfp, st0, back, val⟩ := src_draws I hc hq hit he2
    have hef : e ∉ fp := fun z => (hfp e z).elim hne fun z => z he1
    have hlt : i < xs.length := (List.getElem?_eq_some_iff.mp hx).1
    have hel : e < s.heap.objs.size := Heap.lt_size he
    have hil : it < s.heap.objs.size := by obtain ⟨_, q, _⟩ := srcIt_live hit; exact Heap.lt_size q
    refine (GoesN.enumFrom 0 D e hne hef hm).goes i s (fun u s2 => ∃ x H', Inv X pins σ H' s2 ∧ RelV x u ∧ (IteD X.K src).yld i H x H' ∧ ((∃ old, IsEnum s2.heap e it (0 + ((i + 1 : Nat) : Int)) old) ∧ SrcIt src it (i + 1) s2.heap) ∧ ∀ b ∈ [e, it], H' b = none) E hlt ⟨⟨old, he⟩, st0⟩ fun v h' tk hY st' hk htk => ?_
    obtain ⟨T, t, u, ev, hT, hp, htup⟩ := hY
    subst ev
    obtain ⟨x', hx', rx⟩ := val i u hp
    obtain ⟨st1, st2⟩ := st'
    have new : ObjOk X.prog X.w (upd H T (.tup [.int (i : Nat), x'])) h' T (.tup [.int (i : Nat), x']) :=
      ⟨by show 2 ≤ sizeLine; decide, [.int (0 + (i : Int)) t, u], .cons ⟨t, by rw [Int.zero_add]⟩ (.cons rx .nil), htup⟩
    have I1 : Inv X pins σ (upd H T (.tup [.int (i : Nat), x'])) { s with heap := h', toks := tk } := I.turnedNew (ch := [e, it]) hk hf hT new
    refine ⟨.ref T, _, I1, rfl, ⟨T, x', rfl, I.hok.fresh hT, rfl, fun ys hy => by rw [Src.inj I hy hq]; exact hx'⟩, ⟨st1, back _ _ st2⟩, fun b hb => ?_⟩
    have hb' : b < s.heap.objs.size := by
      have e' : b = e ∨ b = it := by simpa using hb
      rcases e' with z | z
      · rw [z]; exact hel
      · rw [z]; exact hil
    rw [upd_ne (Nat.ne_of_lt (Nat.lt_of_lt_of_le hb' hT))]
    exact (hf b hb).1
  done := by
    intro X hP hw hK hc i pins s σ H E I hf st hg
    subst hP hw hK
    obtain ⟨⟨old, he⟩, hit⟩ := st
    obtain ⟨xs, hq, hx⟩ := hg
    subst hx
    obtain ⟨fp, Pd, St, D, hm, hfp, st0, back, val⟩ := src_draws I hc hq hit he2
    have hef : e ∉ fp := fun z => (hfp e z).elim hne fun z => z he1
    exact (GoesN.enumFrom 0 D e hne hef hm (elts := elts) (x1 := kk) (pos := tpos)).stops s (fun s1 => Inv X pins σ H s1) E ⟨⟨old, he⟩, st0⟩ fun h' tk hk htk => I.turnedL (ch := [e, it]) hk hf
  self := fun A i s Q E st h => let ⟨⟨_, he⟩, _⟩ := st; wpAny_pyIter_enum he h

set_option maxHeartbeats 1000000 in
theorem meets_enum1 {v : Value} {o : Obj} {H : Heap → Prop} (B : Begins v o H) :
    Meets (Builtin.«enumerate.__new__» ⟨[.type "enumerate", v], []⟩) (fun _ R s => H s.heap ∧
      R (.ok (.ret (.ref (s.heap.push o).objs.size))) { s with heap := (s.heap.push o).push { cls := .type "enumerate", data := .fields #[.none, .bool false, .ref s.heap.objs.size, rawInt 0, .none, .none] } }) :=
  .of_wp fun prog w A R s h => by
    obtain ⟨hp, g, d, tk, os⟩ := s; obtain ⟨h1, h⟩ := h
    have hsub := sub_enumerate
    have q1 : ∀ {A' : Around} {E : Value → Shared → Prop} {Q : Value → Shared → Prop}, Q (.ref hp.objs.size) ⟨hp.push o, g, d, tk, os⟩ → wpAny (model prog w) A' (pyIter v) Q E ⟨hp, g, d, tk, os⟩ :=
      fun q => B.iter prog w _ _ ⟨hp, g, d, tk, os⟩ _ h1 q
    wp_walk using q1
    refine wpAny_stack_any fun st => wpAny_pure ?_
    split
    · rename_i c _ _ _ _ _
      cases (c == Value.type "enumerate")
      · wp_walk using q1
        exact ⟨_, rfl, h⟩
      · wp_walk using q1
        exact ⟨_, rfl, h⟩
    · wp_walk using q1
      exact ⟨_, rfl, h⟩
theorem enum1_begins {prog : Program} {w : World} {A : Around} {E : Value → Shared → Prop} {s : Shared} {v : Value} {o : Obj} {H : Heap → Prop} {Q : Value → Shared → Prop} (B : Begins v o H) (h1 : H s.heap)
    (h : ∀ h', IsEnum h' (s.heap.objs.size + 1) s.heap.objs.size 0 .none → h'.get? s.heap.objs.size = some o → h'.objs.size = s.heap.objs.size + 2 →
      (∀ b o, s.heap.get? b = some o → h'.get? b = some o) → Q (.ref (s.heap.objs.size + 1)) { s with heap := h' }) :
    wpAny (model prog w) A (call (.type "enumerate") [v]) Q E s := by
  refine callType_new F.called_enumerate (by decide) (F.typeCall_enumerate_1 _) (F.newCall_enumerate_1 _) (fun obj => F.args_object_init_2 obj _) F.entry_enumerate_new
    (meets_enum1 B) ⟨h1, ?_⟩
  have hz : (s.heap.push o).objs.size = s.heap.objs.size + 1 := Heap.size_push ..
  show _ ∧ _
  rw [hz]
  have he : IsEnum ((s.heap.push o).push { cls := .type "enumerate", data := .fields #[.none, .bool false, .ref s.heap.objs.size, rawInt 0, .none, .none] }) (s.heap.objs.size + 1) s.heap.objs.size 0 .none := by
    have := Heap.get?_push_size (s.heap.push o) (o := { cls := .type "enumerate", data := .fields #[.none, .bool false, .ref s.heap.objs.size, rawInt 0, .none, .none] }) rfl
    rw [hz] at this; exact this
  refine ⟨⟨_, he, rfl⟩, h _ he (Heap.get?_push_of_some _ (Heap.get?_push_size _ B.free)) (by rw [Heap.size_push, hz]) fun b o x => Heap.get?_push_of_some _ (Heap.get?_push_of_some _ x)⟩
def iEnumD (K : PySem.W.Frag) (ta : TA) : TI := fun σ H R => ta σ H fun vs H1 => ∃ (src : Src) (xs : List V), vs = [src.v] ∧ src.vals K H1 xs ∧ R (IteD K src) H1
theorem pi_enumD {X : Cx} {e : Expr} {ta : TA} {p pos tpos : Pos} {elts : List Expr} {kk : Nat} (hg : Gl X "enumerate") (hm : X.mg "enumerate" = none) (ha : PA X [e] ta) (hs : starEach [e] X.env = [(false, eval e X.env)] := by rfl) :
    PI X (.Tuple elts kk tpos) (.Call (.Name "enumerate" p) [e] [] pos) (iEnumD X.K ta) := by
  refine ⟨fun pins s σ H R I h => ?_⟩
  refine Call_ (ld_blt I hg hm boot_enumerate (PyProof.Rows.callWith_type1 (thn (ha.run pos pins s σ H _ I h) fun us s1 ⟨vs, H1, I1, r1, q1⟩ => ?_) hs rfl))
  obtain ⟨src, xs, ex, hq, q⟩ := q1
  subst ex
  cases r1 with
  | cons r rr =>
    cases rr
    obtain ⟨o, Pb, B, hP, hI, ne⟩ := src_begins I1 hq r
    refine enum1_begins B hP fun h' he hit hsz hk => wpAny_pyIter_enum he ?_
    have I2 : Inv X pins σ H1 { s1 with heap := h' } := I1.kept (t' := s1.toks) hk
    refine ⟨s1.heap.objs.size + 1, [s1.heap.objs.size + 1, s1.heap.objs.size], _, _, H1, rfl, I2, turn_enumD src (s1.heap.objs.size + 1) s1.heap.objs.size (Nat.succ_ne_self _) (ne _ (Nat.le_succ _)) (ne _ (Nat.le_refl _)), ⟨⟨.none, he⟩, hI _ _ hit⟩, fun b hb => ?_, q⟩
    have e' : b = s1.heap.objs.size + 1 ∨ b = s1.heap.objs.size := by simpa using hb
    have hle : s1.heap.objs.size ≤ b := by
      rcases e' with z | z
      · rw [z]; exact Nat.le_add_right _ _
      · rw [z]; exact Nat.le_refl _
    exact I1.fpOk hle (I1.hok.fresh hle)
/-! ### zip -/
structure ZA (a b : Src) (z TI TO i1 i2 : Addr) : Prop where
  TIz : TI ≠ z
  TOz : TO ≠ z
  TITO : TI ≠ TO
  TIi1 : TI ≠ i1
  TIi2 : TI ≠ i2
  zi1 : z ≠ i1
  zi2 : z ≠ i2
  TOi1 : TO ≠ i1
  TOi2 : TO ≠ i2
  i12 : i1 ≠ i2
  az : a.ne z
  aT : a.ne TO
  a1 : a.ne i1
  a2 : a.ne i2
  bz : b.ne z
  bT : b.ne TO
  b1 : b.ne i1
  b2 : b.ne i2
theorem ZA.sep {a b : Src} {z TI TO i1 i2 : Addr} (A : ZA a b z TI TO i1 i2) {f1 f2 : List Addr} (m1 : i1 ∈ f1) (m2 : i2 ∈ f2) (h1 : ∀ c ∈ f1, c = i1 ∨ ¬ a.ne c) (h2 : ∀ c ∈ f2, c = i2 ∨ ¬ b.ne c) : ZipSep2 z TI TO i1 i2 f1 f2 :=
  ⟨A.TIz, A.TOz, A.TITO, A.TIi1, m1, fun q => (h1 _ q).elim A.zi1 fun q => q A.az, fun q => (h1 _ q).elim A.TOi1 fun q => q A.aT,
    A.TIi2, m2, fun q => (h2 _ q).elim A.zi2 fun q => q A.bz, fun q => (h2 _ q).elim A.TOi2 fun q => q A.bT, fun q => (h2 _ q).elim A.i12 fun q => q A.b1, fun q => (h1 _ q).elim (Ne.symm A.i12) fun q => q A.a2⟩
def ItzD (K : PySem.W.Frag) (a b : Src) : It :=
  ⟨fun i H => ∃ (xs ys : List V) (x y : V), a.vals K H xs ∧ b.vals K H ys ∧ xs[i]? = some x ∧ ys[i]? = some y,
    fun i H v H' => ∃ T x y, v = .ref T ∧ H T = none ∧ H' = upd H T (.tup [x, y]) ∧ (∀ xs, a.vals K H xs → xs[i]? = some x) ∧ ∀ ys, b.vals K H ys → ys[i]? = some y,
    fun i H => ∃ xs ys : List V, a.vals K H xs ∧ b.vals K H ys ∧ i = min xs.length ys.length⟩
theorem turn_zipD {P : Program} {w : World} {K : PySem.W.Frag} {elts : List Expr} {kk : Nat} {tpos : Pos} (a b : Src) {z TI TO i1 i2 : Addr} (A : ZA a b z TI TO i1 i2) :
    Turn P w K (.Tuple elts kk tpos) (ItzD K a b) [z, TI, TO, i1, i2] z (fun i h => IsZip h z TI TO .none ∧ IsTupOf2 h TI (.ref i1) (.ref i2) ∧ (∃ x y, IsTupOf2 h TO x y) ∧ SrcIt a i1 i h ∧ SrcIt b i2 i h) where
  mem := by simp
  obj := fun i h st c hcm => by
    obtain ⟨hz, hTI, ⟨x, y, hTO⟩, s1, s2⟩ := st
    have e' : c = z ∨ c = TI ∨ c = TO ∨ c = i1 ∨ c = i2 := by simpa using hcm
    rcases e' with q | q | q | q | q
    · rw [q]; exact ⟨_, hz, fun v q => nomatch q⟩
    · rw [q]; exact ⟨_, hTI, fun v q => nomatch q⟩
    · rw [q]; exact ⟨_, hTO, fun v q => nomatch q⟩
    · rw [q]; exact srcIt_live s1
    · rw [q]; exact srcIt_live s2
  keep := fun i h h' st k => by
    obtain ⟨hz, hTI, ⟨x, y, hTO⟩, h1, h2⟩ := st
    exact ⟨k z (by simp) _ hz, k TI (by simp) _ hTI, ⟨x, y, k TO (by simp) _ hTO⟩, srcIt_at (fun o q => k i1 (by simp) o q) h1, srcIt_at (fun o q => k i2 (by simp) o q) h2⟩
  item := by
    intro X hP hw hK hc i pins s σ H E I hf st hg
    subst hP hw hK
    obtain ⟨hz, hTI, ⟨x0, y0, hTO⟩, h1, h2⟩ := st
    obtain ⟨xs, ys, x, y, hqx, hqy, hx, hy⟩ := hg
    obtain ⟨f1, P1, S1, D1, m1, a1, st1, back1, val1⟩ := src_draws I hc hqx h1 A.a1
    obtain ⟨f2, P2, S2, D2, m2, a2, st2, back2, val2⟩ := src_draws I hc hqy h2 A.b2
    have l1 : i < xs.length := (List.getElem?_eq_some_iff.mp hx).1
    have l2 : i < ys.length := (List.getElem?_eq_some_iff.mp hy).1
    have live : ∀ b ∈ [z, TI, TO, i1, i2], b < s.heap.objs.size := fun c hcm => by
      have e' : c = z ∨ c = TI ∨ c = TO ∨ c = i1 ∨ c = i2 := by simpa using hcm
      rcases e' with q | q | q | q | q
      · rw [q]; exact Heap.lt_size hz
      · rw [q]; exact Heap.lt_size hTI
      · rw [q]; exact Heap.lt_size hTO
      · rw [q]; obtain ⟨_, q, _⟩ := srcIt_live h1; exact Heap.lt_size q
      · rw [q]; obtain ⟨_, q, _⟩ := srcIt_live h2; exact Heap.lt_size q
    refine (GoesN.zip2 (A.sep m1 m2 a1 a2) D1 D2).goes i s (fun u s2 => ∃ x H', Inv X pins σ H' s2 ∧ RelV x u ∧ (ItzD X.K a b).yld i H x H' ∧ (IsZip s2.heap z TI TO .none ∧ IsTupOf2 s2.heap TI (.ref i1) (.ref i2) ∧ (∃ x y, IsTupOf2 s2.heap TO x y) ∧ SrcIt a i1 (i + 1) s2.heap ∧ SrcIt b i2 (i + 1) s2.heap) ∧ ∀ b ∈ [z, TI, TO, i1, i2], H' b = none) E (by omega) ⟨hz, hTI, ⟨_, _, hTO⟩, st1, st2⟩ fun v h' tk hY st' hk htk => ?_
    obtain ⟨T, u, u', ev, hT, hp, hp', htup⟩ := hY
    subst ev
    obtain ⟨x', hx', rx⟩ := val1 i u hp
    obtain ⟨y', hy', ry⟩ := val2 i u' hp'
    obtain ⟨q1, q2, q3, q4, q5⟩ := st'
    have new : ObjOk X.prog X.w (upd H T (.tup [x', y'])) h' T (.tup [x', y']) :=
      ⟨by show 2 ≤ sizeLine; decide, [u, u'], .cons rx (.cons ry .nil), htup⟩
    have I1 : Inv X pins σ (upd H T (.tup [x', y'])) { s with heap := h', toks := tk } := I.turnedNew (ch := [z, TI, TO, i1, i2]) (fun c o hc' q => hk c o (fun m => hc' (by
      have e' : c = z ∨ c = TO ∨ c = i1 ∨ c = i2 := by simpa using m
      rcases e' with q | q | q | q <;> simp [q])) q) hf hT new
    refine ⟨.ref T, _, I1, rfl, ⟨T, x', y', rfl, I.hok.fresh hT, rfl, fun l hl => by rw [Src.inj I hl hqx]; exact hx', fun l hl => by rw [Src.inj I hl hqy]; exact hy'⟩, ⟨q1, q2, q3, back1 _ _ q4, back2 _ _ q5⟩, fun c hcm => ?_⟩
    rw [upd_ne (Nat.ne_of_lt (Nat.lt_of_lt_of_le (live c hcm) hT))]
    exact (hf c hcm).1
  done := by
    intro X hP hw hK hc i pins s σ H E I hf st hg
    subst hP hw hK
    obtain ⟨hz, hTI, ⟨x0, y0, hTO⟩, h1, h2⟩ := st
    obtain ⟨xs, ys, hqx, hqy, hi⟩ := hg
    subst hi
    obtain ⟨f1, P1, S1, D1, m1, a1, st1, back1, val1⟩ := src_draws I hc hqx h1 A.a1
    obtain ⟨f2, P2, S2, D2, m2, a2, st2, back2, val2⟩ := src_draws I hc hqy h2 A.b2
    exact (GoesN.zip2 (A.sep m1 m2 a1 a2) D1 D2 (elts := elts) (x1 := kk) (pos := tpos)).stops s (fun s1 => Inv X pins σ H s1) E ⟨hz, hTI, ⟨_, _, hTO⟩, st1, st2⟩ fun h' tk hk htk => I.turnedL (ch := [z, TI, TO, i1, i2]) (fun c o hc' q => hk c o (fun m => hc' (by
      have e' : c = z ∨ c = TO ∨ c = i1 ∨ c = i2 := by simpa using m
      rcases e' with q | q | q | q <;> simp [q])) q) hf
  self := fun A i s Q E st h => wpAny_pyIter_zip st.1 h
def iZipD (K : PySem.W.Frag) (ta : TA) : TI := fun σ H R => ta σ H fun vs H1 => ∃ (a b : Src) (xs ys : List V), vs = [a.v, b.v] ∧ a.vals K H1 xs ∧ b.vals K H1 ys ∧ R (ItzD K a b) H1
theorem pi_zipD {X : Cx} {e e2 : Expr} {ta : TA} {p pos tpos : Pos} {elts : List Expr} {kk : Nat} (hg : Gl X "zip") (hm : X.mg "zip" = none) (ha : PA X [e, e2] ta)
    (hs : starEach [e, e2] X.env = (false, eval e X.env) :: starEach [e2] X.env := by rfl) (hpl : (backTo pos (starEach [e2] X.env)).any (·.1) = false := by rfl) :
    PI X (.Tuple elts kk tpos) (.Call (.Name "zip" p) [e, e2] [] pos) (iZipD X.K ta) := by
  refine ⟨fun pins s σ H R I h => ?_⟩
  refine Call_ (ld_blt I hg hm PyProof.Rows.boot_zip (PyProof.Rows.callWith_type1 (thn (ha.run pos pins s σ H _ I h) fun us s1 ⟨vs, H1, I1, r1, q1⟩ => ?_) hs hpl))
  obtain ⟨a, b, xs, ys, ex, hqx, hqy, q⟩ := q1
  subst ex
  cases r1 with
  | cons r rr =>
    cases rr with
    | cons r' rr =>
      cases rr
      obtain ⟨o1, P1, B1, hP1, hI1, ne1⟩ := src_begins I1 hqx r
      obtain ⟨o2, P2, B2, hP2, hI2, ne2⟩ := src_begins I1 hqy r'
      refine zip_begins2 B1 B2 hP1 hP2 fun h' hz hTI hTO h1 h2 hsz hk => wpAny_pyIter_zip hz ?_
      have I2 : Inv X pins σ H1 { s1 with heap := h' } := I1.kept (t' := s1.toks) hk
      refine ⟨s1.heap.objs.size + 4, [s1.heap.objs.size + 4, s1.heap.objs.size + 2, s1.heap.objs.size + 3, s1.heap.objs.size, s1.heap.objs.size + 1], _, _, H1, rfl, I2, turn_zipD a b (TI := s1.heap.objs.size + 2) (TO := s1.heap.objs.size + 3) (i1 := s1.heap.objs.size) (i2 := s1.heap.objs.size + 1) ?_, ⟨hz, hTI, ⟨_, _, hTO⟩, hI1 _ _ h1, hI2 _ _ h2⟩, fun c hcm => ?_, q⟩
      · have na : ∀ k : Nat, a.ne (s1.heap.objs.size + k : Nat) := fun k => ne1 _ (Nat.le_add_right _ _)
        have nb : ∀ k : Nat, b.ne (s1.heap.objs.size + k : Nat) := fun k => ne2 _ (Nat.le_add_right _ _)
        have nn : ∀ (m j k : Nat), j ≠ k → m + j ≠ m + k := fun m j k h => by omega
        exact ⟨nn _ 2 4 (by decide), nn _ 3 4 (by decide), nn _ 2 3 (by decide), nn _ 2 0 (by decide), nn _ 2 1 (by decide), nn _ 4 0 (by decide), nn _ 4 1 (by decide), nn _ 3 0 (by decide), nn _ 3 1 (by decide), nn _ 0 1 (by decide), na 4, na 3, na 0, na 1, nb 4, nb 3, nb 0, nb 1⟩
      · have e' : c = s1.heap.objs.size + 4 ∨ c = s1.heap.objs.size + 2 ∨ c = s1.heap.objs.size + 3 ∨ c = s1.heap.objs.size ∨ c = s1.heap.objs.size + 1 := by simpa using hcm
        have hle : s1.heap.objs.size ≤ c := by
          rcases e' with z | z | z | z | z
          · rw [z]; exact Nat.le_add_right _ _
          · rw [z]; exact Nat.le_add_right _ _
          · rw [z]; exact Nat.le_add_right _ _
          · rw [z]; exact Nat.le_refl _
          · rw [z]; exact Nat.le_add_right _ _
        exact I1.fpOk hle (I1.hok.fresh hle)
/-! ### a list, a tuple, a text itself -/
def Src.it (K : PySem.W.Frag) : Src → It
  | .lst a => Itl K a
  | .tup a => Itt K a
  | .str x => Its x
def iAny (K : PySem.W.Frag) (te : TE) : TI := fun σ H R => te σ H fun x H1 => ∃ (src : Src) (xs : List V), x = src.v ∧ src.vals K H1 xs ∧ R (src.it K) H1
theorem pi_any {X : Cx} {tg e : Expr} {te : TE} (he : PE X e te) : PI X tg e (iAny X.K te) := by
  refine ⟨fun pins s σ H R I h => ?_⟩
  refine thn (he.run pins s σ H _ I h) fun v s1 ⟨y, H1, I1, r1, src, xs, ex, hv, q⟩ => ?_
  subst ex
  cases src with
  | lst a =>
    cases r1
    obtain ⟨its, rv, p, hz⟩ := I1.list hv
    refine wpAny_pyIter_list p.isList ?_
    refine ⟨s1.heap.objs.size, [s1.heap.objs.size], _, _, H1, rfl, I1.kept (t' := s1.toks) fun b o e => Heap.get?_push_of_some _ e, turn_list a _, ⟨_, Heap.get?_push_size _ rfl, rfl, rfl⟩, fun b hb => ?_, q⟩
    have e : b = s1.heap.objs.size := by simpa using hb
    subst e
    exact I1.fpOk (Nat.le_refl _) (I1.hok.fresh (Nat.le_refl _))
  | tup a =>
    cases r1
    obtain ⟨its, rv, p, hz⟩ := I1.tuple hv
    refine wpAny_pyIter_tuple (show s1.heap.IsTuple a its.toArray from p) ?_
    refine ⟨s1.heap.objs.size, [s1.heap.objs.size], _, _, H1, rfl, I1.kept (t' := s1.toks) fun b o e => Heap.get?_push_of_some _ e, turn_tuple a _, ⟨_, Heap.get?_push_size _ rfl, rfl, rfl⟩, fun b hb => ?_, q⟩
    have e : b = s1.heap.objs.size := by simpa using hb
    subst e
    exact I1.fpOk (Nat.le_refl _) (I1.hok.fresh (Nat.le_refl _))
  | str x =>
    obtain ⟨t, rfl⟩ := r1
    cases ha : x.cps.all (· < 128)
    · exact wpAny_pyIter_wide ha (pi_one (tk := s1.toks) I1 _ (turn_str _ x t "str_iterator" (.inr rfl)) ⟨_, Heap.get?_push_size _ rfl, rfl, rfl⟩ q)
    · exact wpAny_pyIter_ascii ha (pi_one (tk := s1.toks) I1 _ (turn_str _ x t "str_ascii_iterator" (.inl rfl)) ⟨_, Heap.get?_push_size _ rfl, rfl, rfl⟩ q)
end Dd

set_option Elab.async false
set_option linter.all false
set_option maxRecDepth 100000
/-! Dd, part C: loops, comprehensions. -/
namespace Dd
open PySem PySem.Spec PyProof.Rows L2
section
variable {K : PySem.W.Frag} {mg : Str → Option Value}
/-! ### what is walked, as data -/
structure Wlk (K : PySem.W.Frag) (mg : Str → Option Value) (J : It) (xs : List D) (g0 : G) : Prop where
  go : ∀ i g st H, Gle g0 g → Rep K mg g st H → i < xs.length → J.go i H
  stop : ∀ g st H, Gle g0 g → Rep K mg g st H → J.stop xs.length H
  yld : ∀ i g st H d x H', Gle g0 g → Rep K mg g st H → xs[i]? = some d → J.yld i H x H' → ∃ g', Stp K mg g st H g' st H' ∧ Rv K mg g' x d
variable (K mg)
def cI (f : EnvD → M (List D)) : TI := fun σ H R => ∃ g env st, Rep K mg g st H ∧ EnvR K mg g H σ env ∧ At K mg g st H (f env) fun xs g' _ H' => ∀ J, Wlk K mg J xs g' → R J H'
variable {K mg}
theorem pi_imp {X : Cx} {tg e : Expr} {t t' : TI} (h : PI X tg e t') (i : ∀ σ H R, t σ H R → t' σ H R) : PI X tg e t := ⟨fun pins s σ H R I q => h.run pins s σ H R I (i _ _ _ q)⟩
theorem pg_imp {X : Cx} {e : Expr} {t t' : TG} (h : PG X e t') (i : ∀ v σ H Q, t v σ H Q → t' v σ H Q) : PG X e t := ⟨fun pins s σ H v u Q I r q => h.run pins s σ H v u Q I r (i _ _ _ _ q)⟩
theorem pgs_imp {X : Cx} {e : List Expr} {t t' : TGs} (h : PGs X e t') (i : ∀ v σ H Q, t v σ H Q → t' v σ H Q) : PGs X e t := ⟨fun pins s σ H v u Q I r q => h.run pins s σ H v u Q I r (i _ _ _ _ q)⟩
/-- the items of a list, a tuple, a text -/
def itD : D → Option (List D)
  | .tup xs => some xs
  | .lst xs => some xs
  | .frl xs => some xs
  | .str x => some (x.cps.toList.map fun c => .str ⟨#[c]⟩)
  | _ => none
theorem chars_r {g : G} : ∀ l : List Nat, Rvs K mg g (l.map fun c => V.str ⟨#[c]⟩) (l.map fun c => D.str ⟨#[c]⟩)
  | [] => .nil
  | c :: l => .cons (.str _) (chars_r l)
theorem src_of {g : G} {v : V} {d : D} {xs : List D} (r : Rv K mg g v d) (e : itD d = some xs) : ∃ (src : Src) (vs : List V), v = src.v ∧ (∀ g' st H, Gle g g' → Rep K mg g' st H → src.vals K H vs) ∧ Rvs K mg g vs xs := by
  cases r with
  | tup h r =>
    cases e
    exact ⟨.tup _, _, rfl, fun g' st H l p => sqT_le (fun a o z => p.sub a o (l.R a o z)) h, r⟩
  | lst h r =>
    cases e
    exact ⟨.lst _, _, rfl, fun g' st H l p => .inl (.inl (p.sub _ _ (l.R _ _ h))), r⟩
  | frl h r =>
    cases e
    exact ⟨.lst _, _, rfl, fun g' st H l p => sqL_le (fun a o z => p.sub a o (l.R a o z)) h, r⟩
  | str s =>
    cases e
    exact ⟨.str s, chars s, rfl, fun _ _ _ _ _ => rfl, chars_r _⟩
  | _ => cases e
theorem wlk_src {g : G} {src : Src} {vs : List V} {xs : List D} (hs : ∀ g' st H, Gle g g' → Rep K mg g' st H → src.vals K H vs) (r : Rvs K mg g vs xs) : Wlk K mg (src.it K) xs g := by
  have hl := r.length
  cases src with
  | lst a =>
    refine ⟨fun i g1 st H l p hi => ?_, fun g1 st H l p => ⟨vs, hs g1 st H l p, by omega⟩, fun i g1 st H d x H' l p e y => ?_⟩
    · exact ⟨vs, _, hs g1 st H l p, List.getElem?_eq_getElem (by omega)⟩
    · obtain ⟨v, h1, h2⟩ := r.get e
      obtain ⟨rfl, h3⟩ := y
      have h3 := h3 vs (hs g1 st _ l p)
      rw [h1] at h3; cases h3
      exact ⟨g1, .refl p, h2.le l⟩
  | tup a =>
    refine ⟨fun i g1 st H l p hi => ?_, fun g1 st H l p => ⟨vs, hs g1 st H l p, by omega⟩, fun i g1 st H d x H' l p e y => ?_⟩
    · exact ⟨vs, _, hs g1 st H l p, List.getElem?_eq_getElem (by omega)⟩
    · obtain ⟨v, h1, h2⟩ := r.get e
      obtain ⟨rfl, h3⟩ := y
      have h3 := h3 vs (hs g1 st _ l p)
      rw [h1] at h3; cases h3
      exact ⟨g1, .refl p, h2.le l⟩
  | str s =>
    refine ⟨fun i g1 st H l p hi => ?_, fun g1 st H l p => ?_, fun i g1 st H d x H' l p e y => ?_⟩
    · have q : vs = chars s := hs g1 st H l p
      have : vs.length = s.cps.size := by rw [q]; simp [chars]
      show i < s.cps.size
      omega
    · have q : vs = chars s := hs g1 st H l p
      have : vs.length = s.cps.size := by rw [q]; simp [chars]
      show s.cps.size ≤ xs.length
      omega
    · have q : vs = chars s := hs g1 st H l p
      obtain ⟨v, h1, h2⟩ := r.get e
      obtain ⟨e1, c, h3, h4⟩ := y
      rw [q] at h1
      have : v = x := by
        rw [h4]
        simp [chars, h3] at h1
        exact h1.symm
      subst this
      rw [e1]
      exact ⟨g1, .refl p, h2.le l⟩
/-- (0, x), (1, y), .. -/
def enumD : Nat → List D → List D
  | _, [] => []
  | n, x :: xs => .tup [.int (n : Nat), x] :: enumD (n + 1) xs
theorem enumD_length : ∀ (n : Nat) (xs : List D), (enumD n xs).length = xs.length
  | _, [] => rfl
  | n, _ :: xs => congrArg Nat.succ (enumD_length (n + 1) xs)
theorem enumD_get : ∀ (n : Nat) (xs : List D) (i : Nat) (d : D), (enumD n xs)[i]? = some d → ∃ x, xs[i]? = some x ∧ d = .tup [.int ((n + i : Nat) : Int), x]
  | _, [], i, d, h => by simp [enumD] at h
  | n, x :: xs, 0, d, h => by simp [enumD] at h; exact ⟨x, rfl, h.symm⟩
  | n, x :: xs, i + 1, d, h => by
    obtain ⟨y, h1, h2⟩ := enumD_get (n + 1) xs i d (by simpa [enumD] using h)
    exact ⟨y, by simpa using h1, by rw [h2, show n + 1 + i = n + (i + 1) by omega]⟩
theorem wlk_enum {g : G} {src : Src} {vs : List V} {xs : List D} (hs : ∀ g' st H, Gle g g' → Rep K mg g' st H → src.vals K H vs) (r : Rvs K mg g vs xs) : Wlk K mg (IteD K src) (enumD 0 xs) g := by
  have hl := r.length
  refine ⟨fun i g1 st H l p hi => ?_, fun g1 st H l p => ⟨vs, hs g1 st H l p, by rw [enumD_length]; omega⟩, fun i g1 st H d x H' l p e y => ?_⟩
  · rw [enumD_length] at hi
    exact ⟨vs, _, hs g1 st H l p, List.getElem?_eq_getElem (by omega)⟩
  · obtain ⟨x', h1, h2⟩ := enumD_get _ _ _ _ e
    obtain ⟨v, h3, h4⟩ := r.get h1
    obtain ⟨T, u, rfl, hT, rfl, h5⟩ := y
    have h5 := h5 vs (hs g1 st H l p)
    rw [h3] at h5; cases h5
    have z := p.lay (o := .tup [.int (i : Nat), v]) hT
    refine ⟨_, z, ?_⟩
    rw [h2, Nat.zero_add]
    exact .tup (.inl (.inl upd_same)) (.cons (.int _) (.cons ((h4.le l).le z.le) .nil))
def zipD : List D → List D → List D
  | x :: xs, y :: ys => .tup [x, y] :: zipD xs ys
  | _, _ => []
theorem zipD_length : ∀ xs ys : List D, (zipD xs ys).length = min xs.length ys.length
  | [], _ => by simp [zipD]
  | _ :: _, [] => by simp [zipD]
  | _ :: xs, _ :: ys => by simp [zipD, zipD_length xs ys]
theorem zipD_get : ∀ (xs ys : List D) (i : Nat) (d : D), (zipD xs ys)[i]? = some d → ∃ x y, xs[i]? = some x ∧ ys[i]? = some y ∧ d = .tup [x, y]
  | [], _, i, d, h => by simp [zipD] at h
  | _ :: _, [], i, d, h => by simp [zipD] at h
  | x :: xs, y :: ys, 0, d, h => by simp [zipD] at h; exact ⟨x, y, rfl, rfl, h.symm⟩
  | x :: xs, y :: ys, i + 1, d, h => by
    obtain ⟨a, b, h1, h2, h3⟩ := zipD_get xs ys i d (by simpa [zipD] using h)
    exact ⟨a, b, by simpa using h1, by simpa using h2, h3⟩
theorem wlk_zip {g : G} {s1 s2 : Src} {vs ws : List V} {xs ys : List D} (h1 : ∀ g' st H, Gle g g' → Rep K mg g' st H → s1.vals K H vs) (r1 : Rvs K mg g vs xs) (h2 : ∀ g' st H, Gle g g' → Rep K mg g' st H → s2.vals K H ws) (r2 : Rvs K mg g ws ys) : Wlk K mg (ItzD K s1 s2) (zipD xs ys) g := by
  have l1 := r1.length
  have l2 := r2.length
  refine ⟨fun i g1 st H l p hi => ?_, fun g1 st H l p => ⟨vs, ws, h1 g1 st H l p, h2 g1 st H l p, by rw [zipD_length]; omega⟩, fun i g1 st H d x H' l p e y => ?_⟩
  · rw [zipD_length] at hi
    exact ⟨vs, ws, _, _, h1 g1 st H l p, h2 g1 st H l p, List.getElem?_eq_getElem (by omega), List.getElem?_eq_getElem (by omega)⟩
  · obtain ⟨a, b, e1, e2, e3⟩ := zipD_get _ _ _ _ e
    obtain ⟨v, q1, q2⟩ := r1.get e1
    obtain ⟨w, q3, q4⟩ := r2.get e2
    obtain ⟨T, u, u', rfl, hT, rfl, h5, h6⟩ := y
    have h5 := h5 vs (h1 g1 st H l p)
    have h6 := h6 ws (h2 g1 st H l p)
    rw [q1] at h5; cases h5
    rw [q3] at h6; cases h6
    have z := p.lay (o := .tup [v, w]) hT
    refine ⟨_, z, ?_⟩
    rw [e3]
    exact .tup (.inl (.inl upd_same)) (.cons ((q2.le l).le z.le) (.cons ((q4.le l).le z.le) .nil))
def rngD (lo : Int) (n : Nat) : List D := (List.range n).map fun (i : Nat) => .int (lo + i)
theorem wlk_rng {g : G} (lo : Int) (n : Nat) : Wlk K mg (Itr lo n) (rngD lo n) g := by
  have hl : (rngD lo n).length = n := by simp [rngD]
  refine ⟨fun i g1 st H l p hi => by rw [hl] at hi; exact hi, fun g1 st H l p => by rw [hl]; exact Nat.le_refl n, fun i g1 st H d x H' l p e y => ?_⟩
  obtain ⟨rfl, rfl⟩ := y
  have hi : i < n := by rw [← hl]; exact (List.getElem?_eq_some_iff.mp e).1
  have : d = .int (lo + i) := by
    simp [rngD, hi] at e
    exact e.symm
  subst this
  exact ⟨g1, .refl p, .int _⟩

/-! ### targets -/
def Agree (vs : List Nat) (σ σ' : L2.St) : Prop := σ'.length = σ.length ∧ ∀ j, j ∉ vs → σ'[j]? = σ[j]?
variable (K mg)
def cG (vs : List Nat) (f : D → EnvD → Option EnvD) : TG := fun x σ H Q => ∃ g env st d env', Rep K mg g st H ∧ EnvR K mg g H σ env ∧ Rv K mg g x d ∧ f d env = some env' ∧ ∀ σ', EnvN K mg g H σ env H σ' env' → Agree vs σ σ' → Q σ' H
def cGs (vs : List Nat) (f : List D → EnvD → Option EnvD) : TGs := fun xs σ H Q => ∃ g env st ds env', Rep K mg g st H ∧ EnvR K mg g H σ env ∧ Rvs K mg g xs ds ∧ f ds env = some env' ∧ ∀ σ', EnvN K mg g H σ env H σ' env' → Agree vs σ σ' → Q σ' H
variable {K mg}
def nameG (i : Nat) : D → EnvD → Option EnvD := fun d env => some (env.set i (some (.d d)))
def nilG : List D → EnvD → Option EnvD
  | [], env => some env
  | _, _ => none
def consG (f : D → EnvD → Option EnvD) (fs : List D → EnvD → Option EnvD) : List D → EnvD → Option EnvD
  | d :: ds, env => match f d env with
    | some e => fs ds e
    | none => none
  | [], _ => none
def tupG (n : Nat) (fs : List D → EnvD → Option EnvD) : D → EnvD → Option EnvD
  | .tup ds, env => if ds.length = n then fs ds env else none
  | _, _ => none
end
section
variable {X : Cx} {pos : Pos}
theorem dG_name (i : Nat) {x : Str} (hN : X.N.Nodup) (hi : X.N[i]? = some x := by rfl) (hx : Loc X.env.scope x := by first | exact .inl rfl | exact .inr rfl) (hf : X.fn x = true ∨ X.env.scope.names.lookup x = some .local := by first | exact .inl rfl | exact .inr rfl | assumption) :
    PG X (.Name x pos) (cG X.K X.mg [i] (nameG i)) := by
  refine pg_imp (pg_name hN hi hx hf) fun v σ H Q ⟨g, env, st, d, env', r, er, rv, e, h⟩ => ?_
  cases e
  exact h _ ⟨er.setD i rv, fun a o => .inl (owns_set er.len o)⟩ ⟨List.length_set, fun j hj => List.getElem?_set_ne (fun z => hj (by simp [z]))⟩
theorem dGs_nil : PGs X [] (cGs X.K X.mg [] nilG) := by
  refine pgs_imp pgs_nil fun vs σ H Q ⟨g, env, st, ds, env', r, er, rv, e, h⟩ => ?_
  cases ds with
  | nil =>
    cases rv
    cases e
    exact ⟨rfl, h σ (.refl er) ⟨rfl, fun _ _ => rfl⟩⟩
  | cons => cases e
theorem dGs_cons {e : Expr} {es : List Expr} {vs ws : List Nat} {f : D → EnvD → Option EnvD} {fs : List D → EnvD → Option EnvD} (h1 : PG X e (cG X.K X.mg vs f)) (h2 : PGs X es (cGs X.K X.mg ws fs))
    (hs : (assignEach (e :: es) X.env).map (·.2) = assign e X.env :: (assignEach es X.env).map (·.2) := by rfl) : PGs X (e :: es) (cGs X.K X.mg (vs ++ ws) (consG f fs)) := by
  refine pgs_imp (pgs_cons h1 h2 hs) fun xs σ H Q ⟨g, env, st, ds, env', r, er, rv, e, h⟩ => ?_
  cases ds with
  | nil => cases e
  | cons d ds =>
    cases rv with
    | cons rx rxs =>
      have e : (match f d env with
        | some e => fs ds e
        | none => none) = some env' := e
      cases e1 : f d env with
      | none => rw [e1] at e; cases e
      | some env1 =>
        rw [e1] at e
        refine ⟨_, _, rfl, g, env, st, d, env1, r, er, rx, e1, fun σ1 n1 a1 => ?_⟩
        refine ⟨g, env1, st, ds, env', r, n1.r, rxs, e, fun σ2 n2 a2 => h σ2 ⟨n2.r, fun a o => (n2.o a o).elim (n1.o a) .inr⟩ ⟨a2.1.trans a1.1, fun j hj => ?_⟩⟩
        rw [a2.2 j fun z => hj (List.mem_append_right _ z), a1.2 j fun z => hj (List.mem_append_left _ z)]
theorem dG_tup {es : List Expr} {k n : Nat} {vs : List Nat} {fs : List D → EnvD → Option EnvD} (hc : X.calm = true) (h : PGs X es (cGs X.K X.mg vs fs))
    (hn : (assignEach es X.env).length = n := by rfl) (hst : (assignEach es X.env).findIdx? (·.1) = none := by rfl) : PG X (.Tuple es k pos) (cG X.K X.mg vs (tupG n fs)) := by
  refine pg_imp (pg_tup hc h hn hst) fun v σ H Q ⟨g, env, st, d, env', r, er, rv, e, h⟩ => ?_
  cases rv with
  | @tup a xs ds hq rs =>
    unfold tupG at e
    by_cases hl : ds.length = n
    · simp only [if_pos hl] at e
      exact ⟨a, xs, rfl, sqT_le r.sub hq, rs.length.trans hl, g, env, st, ds, env', r, er, rs, e, h⟩
    · simp only [if_neg hl] at e; cases e
  | _ => cases e
/-! ### for -/
def forL (tg : D → EnvD → Option EnvD) (body : EnvD → M Fl) : List D → EnvD → M Fl
  | [], env => pure (.nx env)
  | d :: ds, env => match tg d env with
    | none => M.bad
    | some e1 => body e1 >>= fun fl => match fl with
      | .nx e => forL tg body ds e
      | .ct e => forL tg body ds e
      | .bk e => pure (.nx e)
      | .rt v => pure (.rt v)
def forS (it : EnvD → M (List D)) (tg : D → EnvD → Option EnvD) (body : EnvD → M Fl) : EnvD → M Fl := fun env => it env >>= fun xs => forL tg body xs env
/-- a statement's promise, further on -/
theorem wpS_shift {K : PySem.W.Frag} {mg : Str → Option Value} {De : Ends} {m : M Fl} {σ σ1 : L2.St} {env env1 : EnvD} {g g1 : G} {st st1 : Sto} {H H1 : Hp} (z : Stq K mg (Owns σ env) g st H g1 st1 H1) (n : EnvN K mg g1 H1 σ env H σ1 env1)
    (h : (m st1).wp (fun fl s2 => ∀ g2 H2, Stq K mg (Owns σ env) g st H g2 s2 H2 → flP K mg De σ env H fl g2 H2) (fun _ _ => False)) :
    (m st1).wp (fun fl s2 => ∀ g2 H2, Stq K mg (Owns σ1 env1) g1 st1 H1 g2 s2 H2 → flP K mg De σ1 env1 H1 fl g2 H2) (fun _ _ => False) :=
  Out.wp_mono h (fun fl s2 q g2 H2 z2 => flP_trans n z.stay (q g2 H2 (z.trans z2 n.o))) fun _ _ z => z
theorem dS_for {iter tge : Expr} {body : List Stmt} {it : EnvD → M (List D)} {vs : List Nat} {tg : D → EnvD → Option EnvD} {fb : EnvD → M Fl} (hp : PassesOwn (model X.prog X.w) X.A X.env X.xe) (hc : X.calm = true) (hi : PI X tge iter (cI X.K X.mg it)) (hg : PG X tge (cG X.K X.mg vs tg)) (hb : PSs X body (cS X.K X.mg fb))
    (hs : ∀ x, foldedSetIterable iter X.env x = pure x := by intro _; rfl) : PS X (.For tge iter body [] pos) (cS X.K X.mg (forS it tg fb)) := by
  refine ps_imp (ps_for hp hc hi hg hb hs) fun De σ H ⟨g, env, s, r, er, h⟩ => ⟨g, env, s, r, er, (St1 h).mono fun xs g1 s1 H1 z q J w => ?_⟩
  refine ⟨fun i m σ' H' => m = xs.length - i ∧ i ≤ xs.length ∧ ∃ g' env' st', Gle g1 g' ∧ Rep X.K X.mg g' st' H' ∧ EnvR X.K X.mg g' H' σ' env' ∧ (forL tg fb (xs.drop i) env' st').wp (fun fl s2 => ∀ g2 H2, Stq X.K X.mg (Owns σ' env') g' st' H' g2 s2 H2 → flP X.K X.mg De σ' env' H' fl g2 H2) (fun _ _ => False), ⟨xs.length, rfl, Nat.zero_le _, g1, env, s1, .refl g1, z.rep, er.step z, ?_⟩, ?_⟩
  · rw [List.drop_zero]
    exact Out.wp_mono q (fun fl s2 q2 g2 H2 z2 => flP_trans (.step er z) z.stay (q2 g2 H2 z2)) fun _ _ z => z
  · rintro i m σ' H' ⟨rfl, hi, g', env', st', l, r', er', q'⟩
    by_cases hlt : i < xs.length
    · refine .inr ⟨w.go i g' st' H' l r' hlt, fun σ2 H2 => (xs.length - (i + 1) : Nat) = xs.length - (i + 1) ∧ i + 1 ≤ xs.length ∧ ∃ g2 env2 st2, Gle g1 g2 ∧ Rep X.K X.mg g2 st2 H2 ∧ EnvR X.K X.mg g2 H2 σ2 env2 ∧ (forL tg fb (xs.drop (i + 1)) env2 st2).wp (fun fl s2 => ∀ g3 H3, Stq X.K X.mg (Owns σ2 env2) g2 st2 H2 g3 s2 H3 → flP X.K X.mg De σ2 env2 H2 fl g3 H3) (fun _ _ => False), fun σ2 H2 h2 => ⟨xs.length - (i + 1), by omega, h2⟩, fun x H2 y => ?_⟩
      have hd : xs[i]? = some xs[i] := List.getElem?_eq_getElem hlt
      obtain ⟨g2, z2, rv⟩ := w.yld i g' st' H' _ x H2 l r' hd y
      rw [List.drop_eq_getElem_cons hlt] at q'
      have n2 := EnvN.step er' z2
      have q2 : (forL tg fb (xs[i] :: xs.drop (i + 1)) env' st').wp (fun fl s2 => ∀ g3 H3, Stq X.K X.mg (Owns σ' env') g2 st' H2 g3 s2 H3 → flP X.K X.mg De σ' env' H2 fl g3 H3) (fun _ _ => False) :=
        wpS_shift (z2.weak fun _ f => f.elim) n2 q'
      unfold forL at q2
      cases e1 : tg xs[i] env' with
      | none => rw [e1] at q2; exact q2.elim
      | some env1 =>
        rw [e1] at q2
        refine ⟨g2, env', st', xs[i], env1, z2.rep, n2.r, rv, e1, fun σ2 n3 _ => ⟨g2, env1, st', z2.rep, n3.r, Out.wp_mono (M.bind_wp q2) (fun fl s3 q3 g3 H3 z3 => ?_) fun _ _ z => z⟩⟩
        have more : ∀ e, (forL tg fb (xs.drop (i + 1)) e s3).wp (fun fl s2 => ∀ g3 H3, Stq X.K X.mg (Owns σ' env') g2 st' H2 g3 s2 H3 → flP X.K X.mg De σ' env' H2 fl g3 H3) (fun _ _ => False) → ∀ σ3, EnvN X.K X.mg g3 H3 σ2 env1 H2 σ3 e →
            ((xs.length - (i + 1) : Nat) = xs.length - (i + 1) ∧ i + 1 ≤ xs.length ∧ ∃ g2 env2 st2, Gle g1 g2 ∧ Rep X.K X.mg g2 st2 H3 ∧ EnvR X.K X.mg g2 H3 σ3 env2 ∧ (forL tg fb (xs.drop (i + 1)) env2 st2).wp (fun fl s2 => ∀ g4 H4, Stq X.K X.mg (Owns σ3 env2) g2 st2 H3 g4 s2 H4 → flP X.K X.mg De σ3 env2 H3 fl g4 H4) (fun _ _ => False)) := fun e q4 σ3 n4 => by
          have n5 : EnvN X.K X.mg g3 H3 σ' env' H2 σ3 e := ⟨n4.r, fun a o => (n4.o a o).elim (n3.o a) .inr⟩
          have z4 : Stq X.K X.mg (Owns σ' env') g2 st' H2 g3 s3 H3 := (Stq.refl z2.rep).trans z3 n3.o
          exact ⟨rfl, hlt, g3, e, s3, (l.trans z2.le).trans z3.le, z3.rep, n4.r, wpS_shift z4 n5 q4⟩
        have z4 : Stq X.K X.mg (Owns σ' env') g2 st' H2 g3 s3 H3 := (Stq.refl z2.rep).trans z3 n3.o
        cases fl with
        | nx e => exact fun σ3 n4 => more e q3 σ3 n4
        | ct e => exact fun σ3 n4 => more e q3 σ3 n4
        | bk e => exact fun σ3 n4 => (show ∀ g4 H4, Stq X.K X.mg (Owns σ' env') g2 st' H2 g4 s3 H4 → flP X.K X.mg De σ' env' H2 (.nx e) g4 H4 from q3) g3 H3 z4 σ3 ⟨n4.r, fun a o => (n4.o a o).elim (n3.o a) .inr⟩
        | rt v => exact (show ∀ g4 H4, Stq X.K X.mg (Owns σ' env') g2 st' H2 g4 s3 H4 → flP X.K X.mg De σ' env' H2 (.rt v) g4 H4 from q3) g3 H3 z4
    · have hi' : i = xs.length := by omega
      subst hi'
      rw [List.drop_length] at q'
      have q' : ∀ g2 H2, Stq X.K X.mg (Owns σ' env') g' st' H' g2 st' H2 → flP X.K X.mg De σ' env' H' (.nx env') g2 H2 := q'
      exact .inl ⟨w.stop g' st' H' l r', q' g' H' (.refl r') σ' (.refl er')⟩
end
end Dd

set_option Elab.async false
set_option linter.all false
set_option maxRecDepth 100000
/-! Dd, part E: iterables, comprehensions, lists of one's own grow. -/
namespace Dd
open PySem PySem.Spec PyProof.Rows L2
section
variable {X : Cx} {pos p tpos : Pos} {e e2 tg : Expr} {f f2 : EnvD → M D} {fa : EnvD → M (List D)}
def itM (d : D) : M (List D) := match itD d with
  | some xs => pure xs
  | none => M.bad
theorem itM_at {K : PySem.W.Frag} {mg : Str → Option Value} {g : G} {st : Sto} {H : Hp} {d : D} {P : List D → G → Sto → Hp → Prop} (r : Rep K mg g st H) (h : At K mg g st H (itM d) P) : ∃ xs, itD d = some xs ∧ P xs g st H := by
  unfold itM at h
  split at h
  · rename_i xs e
    exact ⟨xs, e, At.pure r h⟩
  · exact (show False from h).elim
/-- a list, a tuple, a text -/
def anyI (f : EnvD → M D) : EnvD → M (List D) := fun env => f env >>= itM
theorem dI_any (he : PE X e (cE X.K X.mg f)) : PI X tg e (cI X.K X.mg (anyI f)) := by
  refine pi_imp (pi_any he) fun σ H R ⟨g, env, st, r, er, h⟩ => ?_
  refine ⟨g, env, st, r, er, h.bind.mono fun d g1 st1 H1 s1 q v rv => ?_⟩
  obtain ⟨xs, e, q⟩ := itM_at s1.rep q
  obtain ⟨src, vs, e1, hs, rs⟩ := src_of rv e
  exact ⟨src, vs, e1, hs _ _ _ (.refl _) s1.rep, q _ (wlk_src hs rs)⟩
/-- enumerate(e) -/
def enumI (f : EnvD → M D) : EnvD → M (List D) := fun env => f env >>= fun d => itM d >>= fun xs => pure (enumD 0 xs)
theorem dI_enum {elts : List Expr} {kk : Nat} (hg : Gl X "enumerate") (hm : X.mg "enumerate" = none) (he : PE X e (cE X.K X.mg f)) (hs : starEach [e] X.env = [(false, eval e X.env)] := by rfl) :
    PI X (.Tuple elts kk tpos) (.Call (.Name "enumerate" p) [e] [] pos) (cI X.K X.mg (enumI f)) := by
  refine pi_imp (pi_enumD hg hm (pa_cons he pa_nil hs) hs) fun σ H R ⟨g, env, st, r, er, h⟩ => ?_
  refine ⟨g, env, st, r, er, h.bind.mono fun d g1 st1 H1 s1 q v rv => ?_⟩
  obtain ⟨xs, e, q⟩ := itM_at s1.rep (At.bind q)
  obtain ⟨src, vs, e1, hs, rs⟩ := src_of rv e
  exact ⟨src, vs, by rw [e1], hs _ _ _ (.refl _) s1.rep, At.pure s1.rep q _ (wlk_enum hs rs)⟩
/-- zip(e, e2) -/
def zipI (f f2 : EnvD → M D) : EnvD → M (List D) := fun env => f env >>= fun d => f2 env >>= fun d2 => itM d >>= fun xs => itM d2 >>= fun ys => pure (zipD xs ys)
theorem dI_zip {elts : List Expr} {kk : Nat} (hg : Gl X "zip") (hm : X.mg "zip" = none) (he : PE X e (cE X.K X.mg f)) (he2 : PE X e2 (cE X.K X.mg f2))
    (hs : starEach [e, e2] X.env = (false, eval e X.env) :: starEach [e2] X.env := by rfl) (hs2 : starEach [e2] X.env = (false, eval e2 X.env) :: starEach [] X.env := by rfl) (hpl : (backTo pos (starEach [e2] X.env)).any (·.1) = false := by rfl) :
    PI X (.Tuple elts kk tpos) (.Call (.Name "zip" p) [e, e2] [] pos) (cI X.K X.mg (zipI f f2)) := by
  refine pi_imp (pi_zipD hg hm (pa_cons he (pa_cons he2 pa_nil hs2) hs) hs hpl) fun σ H R ⟨g, env, st, r, er, h⟩ => ?_
  refine ⟨g, env, st, r, er, h.bind.mono fun d g1 st1 H1 s1 q v rv => ?_⟩
  refine ⟨g1, env, st1, s1.rep, er.step s1, (At.bind q).mono fun d2 g2 st2 H2 s2 q2 v2 rv2 => ?_⟩
  obtain ⟨xs, e, q2⟩ := itM_at s2.rep (At.bind q2)
  obtain ⟨ys, e2, q2⟩ := itM_at s2.rep (At.bind q2)
  obtain ⟨src, vs, e1, hs, rs⟩ := src_of (rv.le s2.le) e
  obtain ⟨src2, ws, e3, hs2, rs2⟩ := src_of rv2 e2
  exact ⟨src, src2, vs, ws, by rw [e1, e3], hs _ _ _ (.refl _) s2.rep, hs2 _ _ _ (.refl _) s2.rep, At.pure s2.rep q2 _ (wlk_zip hs rs hs2 rs2)⟩
/-- range(n), range(a, b) -/
def small (n : Int) : Prop := -(2 ^ 62) ≤ n ∧ n < 2 ^ 62
instance (n : Int) : Decidable (small n) := by unfold small; infer_instance
def rngM1 : List D → M (List D)
  | [.int j] => if small j then pure (rngD 0 j.toNat) else M.bad
  | _ => M.bad
def rngM2 : List D → M (List D)
  | [.int i, .int j] => if small i ∧ small j then pure (rngD i (j - i).toNat) else M.bad
  | _ => M.bad
def rngI1 (fa : EnvD → M (List D)) : EnvD → M (List D) := fun env => fa env >>= rngM1
def rngI2 (fa : EnvD → M (List D)) : EnvD → M (List D) := fun env => fa env >>= rngM2
theorem dI_rng1 (hg : Gl X "range") (hm : X.mg "range" = none) (ha : PA X [e] (cA X.K X.mg fa)) (hs : starEach [e] X.env = [(false, eval e X.env)] := by rfl) : PI X tg (.Call (.Name "range" p) [e] [] pos) (cI X.K X.mg (rngI1 fa)) := by
  refine pi_imp (pi_range1 hg hm ha hs) fun σ H R ⟨g, env, st, r, er, h⟩ => ?_
  refine ⟨g, env, st, r, er, h.bind.mono fun ds g1 st1 H1 s1 q vs rs => ?_⟩
  unfold rngM1 at q
  split at q
  · rename_i j
    obtain ⟨c, q⟩ := q.ite
    cases rs with
    | cons r1 rr =>
      cases rr
      cases r1
      exact ⟨j, rfl, c.1, c.2, At.pure s1.rep q _ (wlk_rng 0 _)⟩
  · exact (show False from q).elim
theorem dI_rng2 (hg : Gl X "range") (hm : X.mg "range" = none) (ha : PA X [e, e2] (cA X.K X.mg fa)) (hs : starEach [e, e2] X.env = [(false, eval e X.env), (false, eval e2 X.env)] := by rfl) (hs2 : starEach [e2] X.env = [(false, eval e2 X.env)] := by rfl) :
    PI X tg (.Call (.Name "range" p) [e, e2] [] pos) (cI X.K X.mg (rngI2 fa)) := by
  refine pi_imp (pi_range2 hg hm ha hs hs2) fun σ H R ⟨g, env, st, r, er, h⟩ => ?_
  refine ⟨g, env, st, r, er, h.bind.mono fun ds g1 st1 H1 s1 q vs rs => ?_⟩
  unfold rngM2 at q
  split at q
  · rename_i i j
    obtain ⟨⟨c1, c2⟩, q⟩ := q.ite
    cases rs with
    | cons r1 rr =>
      cases rr with
      | cons r2 rr =>
        cases rr
        cases r1
        cases r2
        exact ⟨i, j, rfl, ⟨c1.1, c1.2, c2.1, c2.2⟩, At.pure s1.rep q _ (wlk_rng _ _)⟩
  · exact (show False from q).elim
end
/-! ### comprehensions -/
def wipeE (env : EnvD) : List Nat → EnvD
  | [] => env
  | v :: vs => (wipeE env vs).set v none
theorem wipeE_length (env : EnvD) : ∀ vs, (wipeE env vs).length = env.length
  | [] => rfl
  | v :: vs => by unfold wipeE; rw [List.length_set, wipeE_length env vs]
theorem wipeE_some {env : EnvD} {i : Nat} {e : EV} : ∀ {vs : List Nat}, (wipeE env vs)[i]? = some (some e) → env[i]? = some (some e) ∧ i ∉ vs
  | [], h => ⟨h, by simp⟩
  | v :: vs, h => by
    unfold wipeE at h
    by_cases hi : v = i
    · subst hi
      rw [List.getElem?_set] at h
      simp only [if_true] at h
      split at h <;> cases h
    · rw [List.getElem?_set_ne hi] at h
      obtain ⟨h1, h2⟩ := wipeE_some h
      exact ⟨h1, by simp [h2]; exact fun z => hi z.symm⟩
theorem EnvR.wipe {K : PySem.W.Frag} {mg : Str → Option Value} {g : G} {H : Hp} {σ : L2.St} {env : EnvD} (er : EnvR K mg g H σ env) (vs : List Nat) : EnvR K mg g H (L2.wipe σ vs) (wipeE env vs) := by
  have hs : ∀ {i : Nat} {v : V}, i ∉ vs → ((L2.wipe σ vs)[i]? = some (some v) ↔ σ[i]? = some (some v)) := fun {i v} h => by rw [L2.wipe_out h]
  refine ⟨by rw [wipe_length, wipeE_length]; exact er.len, fun i e h => ?_, fun i j e e' a h1 h2 h3 h4 h5 h6 => ?_⟩
  · obtain ⟨h1, h2⟩ := wipeE_some h
    obtain ⟨v, h3, h4⟩ := er.val i e h1
    exact ⟨v, (hs h2).mpr h3, h4⟩
  · obtain ⟨q1, q2⟩ := wipeE_some h1
    obtain ⟨q3, q4⟩ := wipeE_some h4
    exact er.one i j e e' a q1 h2 ((hs q2).mp h3) q3 h5 ((hs q4).mp h6)
theorem wipe_get (σ : L2.St) (j : Nat) : ∀ vs : List Nat, j ∈ vs → (L2.wipe σ vs)[j]? = if j < σ.length then some none else none
  | [], h => by simp at h
  | v :: vs, h => by
    unfold L2.wipe
    by_cases hv : v = j
    · subst hv
      rw [List.getElem?_set]
      simp [wipe_length]
    · rw [List.getElem?_set_ne hv]
      exact wipe_get σ j vs (by rcases List.mem_cons.mp h with z | z; exact absurd z.symm hv; exact z)
theorem wipe_same {σ σ' : L2.St} {vs ws : List Nat} (a : Agree ws (L2.wipe σ vs) σ') (sub : ∀ j ∈ ws, j ∈ vs) : L2.wipe σ' vs = L2.wipe σ vs := by
  have hl : σ'.length = σ.length := a.1.trans (wipe_length σ vs)
  refine List.ext_getElem? fun j => ?_
  by_cases h : j ∈ vs
  · rw [wipe_get _ _ _ h, wipe_get _ _ _ h, hl]
  · rw [L2.wipe_out h, a.2 j fun z => h (sub j z)]
/-- a list that was being made is frozen -/
theorem Rep.fix {K : PySem.W.Frag} {mg : Str → Option Value} {g : G} {st : Sto} {H : Hp} {p : Addr} {o : HO} (r : Rep K mg g st H) (hp : H p = some o) (hR : g.R p = none) (hι : p ∉ g.ι) : Stq K mg (fun a => a = p) g st H { g with R := upd g.R p o } st H := by
  have le : Gle g { g with R := upd g.R p o } := ⟨fun a u h => by
    show upd g.R p o a = some u
    rw [upd_ne fun z => by rw [z, hR] at h; cases h]
    exact h, [], by simp⟩
  refine ⟨le, ⟨fun a u h => ?_, r.len, r.live, r.inj, fun k a c h1 h2 => ?_⟩, fun a u h _ _ => h, fun a h _ _ no => ?_, fun a m => .inl m, fun a h => h⟩
  · have h : upd g.R p o a = some u := h
    by_cases z : a = p
    · subst z; rw [upd_same] at h; cases h; exact hp
    · rw [upd_ne z] at h; exact r.sub a u h
  · obtain ⟨h3, h4⟩ := r.cell k a c h1 h2
    refine ⟨?_, h4.le le⟩
    show upd g.R p o a = none
    rw [upd_ne (show a ≠ p from fun z => hι (z ▸ List.mem_of_getElem? h1))]; exact h3
  · show upd g.R p o a = none
    rw [upd_ne (show a ≠ p from fun z => no z)]; exact h
def lcL (tg : D → EnvD → Option EnvD) (ft : EnvD → M Bool) (fe : EnvD → M D) (env : EnvD) : List D → M (List D)
  | [] => pure []
  | d :: ds => match tg d env with
    | none => M.bad
    | some e1 => ft e1 >>= fun b => if b = true then fe e1 >>= fun y => lcL tg ft fe env ds >>= fun ys => pure (y :: ys) else lcL tg ft fe env ds
def lcE (it : EnvD → M (List D)) (tg : D → EnvD → Option EnvD) (ft : EnvD → M Bool) (fe : EnvD → M D) (vs : List Nat) : EnvD → M D :=
  fun env => it env >>= fun xs => if xs.length ≤ sizeLine then lcL tg ft fe (wipeE env vs) xs >>= fun ys => pure (.lst ys) else M.bad
def yesT : EnvD → M Bool := fun _ => pure true
section
variable {X : Cx} {pos : Pos} {c : Expr} {ft : EnvD → M Bool}
theorem pts_imp {X : Cx} {e : List Expr} {t t' : TT} (h : PTs X e t') (i : ∀ σ H Q, t σ H Q → t' σ H Q) : PTs X e t := ⟨fun pins s σ H Q I q => h.run pins s σ H Q I (i _ _ _ q)⟩
theorem dTs_nil : PTs X [] (cT X.K X.mg yesT) := pts_imp pts_nil fun σ H Q ⟨g, env, st, r, er, h⟩ => At.pure r h
theorem dTs_one (h : PT X c (cT X.K X.mg ft)) : PTs X [c] (cT X.K X.mg ft) := pts_one h
/-- the loop of a comprehension, in readings -/
theorem lc_t {K : PySem.W.Frag} {mg : Str → Option Value} {it : EnvD → M (List D)} {tg : D → EnvD → Option EnvD} {ft : EnvD → M Bool} {fe : EnvD → M D} {vs ws : List Nat} (sub : ∀ j ∈ ws, j ∈ vs) {σ : L2.St} {H : Hp} {Q : VK}
    (h : cE K mg (lcE it tg ft fe vs) σ H Q) : tLc (cI K mg it) (cG K mg ws tg) (cT K mg ft) (cE K mg fe) vs σ H Q := by
  obtain ⟨g, env, st, r, er, h⟩ := h
  refine ⟨g, env, st, r, er, h.bind.mono fun xs g1 st1 H1 s1 q J w D hD => ?_⟩
  obtain ⟨hz, q⟩ := q.ite
  have er1 := er.step s1
  have nR1 : g1.R D = none := by
    cases e : g1.R D with
    | none => rfl
    | some u => rw [s1.rep.sub D u e] at hD; cases hD
  have nι1 : D ∉ g1.ι := fun m => s1.rep.live D m hD
  refine ⟨fun i m H' => m = xs.length - i ∧ i ≤ xs.length ∧ ∃ g' st' acc ds, Stp K mg g1 st1 H1 g' st' H' ∧ H' D = some (.lst acc) ∧ g'.R D = none ∧ D ∉ g'.ι ∧ Rvs K mg g' acc ds ∧ ds.length ≤ i ∧
    (lcL tg ft fe (wipeE env vs) (xs.drop i) st').wp (fun ys st2 => ∀ g2 H2, Stp K mg g1 st1 H1 g2 st2 H2 → ∀ v, Rv K mg g2 v (.lst (ds ++ ys)) → Q v H2) (fun _ _ => False), ⟨xs.length, rfl, Nat.zero_le _, g1, st1, [], [], s1.rep.new hD, upd_same, nR1, nι1, .nil, Nat.zero_le _, ?_⟩, ?_⟩
  · rw [List.drop_zero]
    exact Out.wp_mono (M.bind_wp q) (fun ys s2 q2 g2 H2 z v rv => (show ∀ g2 H2, Stp K mg g1 st1 H1 g2 s2 H2 → ∀ v, Rv K mg g2 v (.lst ys) → Q v H2 from q2) g2 H2 z v rv) fun _ _ z => z
  · rintro i m H' ⟨rfl, hi, g', st', acc, ds, z, hDa, hR, hι, ra, hlen, q'⟩
    by_cases hlt : i < xs.length
    · refine .inr ⟨w.go i g' st' H' z.le z.rep hlt, fun H2 => i + 1 ≤ xs.length ∧ ∃ g2 st2 acc ds, Stp K mg g1 st1 H1 g2 st2 H2 ∧ H2 D = some (.lst acc) ∧ g2.R D = none ∧ D ∉ g2.ι ∧ Rvs K mg g2 acc ds ∧ ds.length ≤ i + 1 ∧
        (lcL tg ft fe (wipeE env vs) (xs.drop (i + 1)) st2).wp (fun ys st2 => ∀ g2 H2, Stp K mg g1 st1 H1 g2 st2 H2 → ∀ v, Rv K mg g2 v (.lst (ds ++ ys)) → Q v H2) (fun _ _ => False), fun H2 h2 => ⟨xs.length - (i + 1), by omega, rfl, h2⟩, fun x H2 y => ?_⟩
      have hd : xs[i]? = some xs[i] := List.getElem?_eq_getElem hlt
      obtain ⟨g2, z2, rv⟩ := w.yld i g' st' H' _ x H2 z.le z.rep hd y
      rw [List.drop_eq_getElem_cons hlt] at q'
      unfold lcL at q'
      cases e1 : tg xs[i] (wipeE env vs) with
      | none => rw [e1] at q'; exact q'.elim
      | some env1 =>
        rw [e1] at q'
        have zz := z.nxt z2
        have erw := (er1.step zz).wipe vs
        -- D through a step
        have keep : ∀ {g3 g4 : G} {s3 s4 : Sto} {H3 H4 : Hp} {ac : List V}, Stp K mg g3 s3 H3 g4 s4 H4 → H3 D = some (.lst ac) ∧ g3.R D = none ∧ D ∉ g3.ι → H4 D = some (.lst ac) ∧ g4.R D = none ∧ D ∉ g4.ι := fun {g3 g4 s3 s4 H3 H4 ac} z ⟨h1, h2, h3⟩ =>
          ⟨z.frame _ _ h1 h3 (fun f => f), z.newR _ h2 (by rw [h1]; simp) h3 (fun f => f), fun m => (z.newI _ m).elim h3 (by rw [h1]; simp)⟩
        obtain ⟨hDa2, hR2, hι2⟩ := keep z2 ⟨hDa, hR, hι⟩
        refine ⟨g2, wipeE env vs, st', xs[i], env1, z2.rep, erw, rv, e1, fun σ2 n3 ag => ⟨?_, g2, env1, st', z2.rep, n3.r, ?_⟩⟩
        · exact wipe_same ag sub
        · refine Out.wp_mono (M.bind_wp q') (fun b s3 q3 g3 H3 z3 => ?_) fun _ _ z => z
          obtain ⟨hDa3, hR3, hι3⟩ := keep z3 ⟨hDa2, hR2, hι2⟩
          cases b with
          | false =>
            rw [if_neg (by decide)] at q3 ⊢
            exact ⟨hlt, g3, s3, acc, ds, zz.nxt z3, hDa3, hR3, hι3, (ra.le z2.le).le z3.le, Nat.le_succ_of_le hlen, q3⟩
          | true =>
            rw [if_pos rfl] at q3 ⊢
            refine ⟨g3, env1, s3, z3.rep, n3.r.step z3, Out.wp_mono (M.bind_wp q3) (fun yd s4 q4 g4 H4 z4 v rvv => ?_) fun _ _ z => z⟩
            obtain ⟨hDa4, hR4, hι4⟩ := keep z4 ⟨hDa3, hR3, hι3⟩
            have la : acc.length = ds.length := ra.length
            have z5 : Stq K mg (fun a => a = D) g4 s4 H4 g4 s4 (upd H4 D (.lst (acc ++ [v]))) := z4.rep.chg hDa4 hR4 hι4 rfl
            have z6 : Stp K mg g1 st1 H1 g4 s4 (upd H4 D (.lst (acc ++ [v]))) := ((zz.nxt z3).nxt z4).trans z5 fun a e => .inr (by rw [e]; exact hD)
            refine ⟨acc, hDa4, by omega, hlt, g4, s4, acc ++ [v], ds ++ [yd], z6, upd_same, hR4, hι4, (((ra.le z2.le).le z3.le).le z4.le).app (.cons rvv .nil), by rw [List.length_append]; exact Nat.add_le_add_right hlen 1, ?_⟩
            refine Out.wp_mono (M.bind_wp q4) (fun ys s5 q5 g5 H5 z7 v' rv' => ?_) fun _ _ z => z
            refine (show ∀ g2 H2, Stp K mg g1 st1 H1 g2 s5 H2 → ∀ v, Rv K mg g2 v (.lst (ds ++ yd :: ys)) → Q v H2 from q5) g5 H5 z7 v' ?_
            rw [List.append_assoc] at rv'
            exact rv'
    · have hi' : i = xs.length := by omega
      subst hi'
      rw [List.drop_length] at q'
      have q' : ∀ g2 H2, Stp K mg g1 st1 H1 g2 st' H2 → ∀ v, Rv K mg g2 v (.lst (ds ++ [])) → Q v H2 := q'
      refine .inl ⟨w.stop g' st' H' z.le z.rep, q' _ _ (z.trans (z.rep.fix hDa hR hι) fun a e => .inr (by rw [e]; exact hD)) _ ?_⟩
      rw [List.append_nil]
      exact .lst upd_same (Rvs.le (z.rep.fix hDa hR hι).le ra)
theorem dE_lc {elt tg iter : Expr} {ifs : List Expr} {scope : Scope} {own : List (Str × Nat)} {it : EnvD → M (List D)} {tgf : D → EnvD → Option EnvD} {fe : EnvD → M D} {ws : List Nat} (hc : X.calm = true) (hN : X.N.Nodup) (hi : PI X tg iter (cI X.K X.mg it)) (ok : BlkOk X.N X.env.scope scope own)
    (hg : ∀ (s : Shared) (H : Hp) (C : Addr) (cl : List (Str × Addr)) (fp : List Addr), PG (X.blk s H scope (compEnvC scope cl C X.env) fp) tg (cG X.K X.mg ws tgf)) (ht : ∀ (s : Shared) (H : Hp) (C : Addr) (cl : List (Str × Addr)) (fp : List Addr), PTs (X.blk s H scope (compEnvC scope cl C X.env) fp) ifs (cT X.K X.mg ft))
    (he : ∀ (s : Shared) (H : Hp) (C : Addr) (cl : List (Str × Addr)) (fp : List Addr), PE (X.blk s H scope (compEnvC scope cl C X.env) fp) elt (cE X.K X.mg fe)) (sub : ∀ j ∈ ws, j ∈ own.map (·.2)) (hs : ∀ x, foldedSetIterable iter X.env x = pure x := by intro _; rfl) :
    PE X (.ListComp elt [⟨tg, iter, ifs, 0⟩] scope pos) (cE X.K X.mg (lcE it tgf ft fe (own.map (·.2)))) :=
  pe_imp (pe_lc hc hN hi ok hg ht he hs) fun _ _ _ h => lc_t sub h
/-- name = [..] on one line -/
theorem dS_setLc (i : Nat) {y : Str} {py : Pos} {elt tg iter : Expr} {ifs : List Expr} {scope : Scope} {own : List (Str × Nat)} {spos : Pos} {it : EnvD → M (List D)} {tgf : D → EnvD → Option EnvD} {fe : EnvD → M D} {ws : List Nat} (hc : X.calm = true) (hN : X.N.Nodup) (hi : PI X tg iter (cI X.K X.mg it)) (ok : BlkOk X.N X.env.scope scope own)
    (hg : ∀ (s : Shared) (H : Hp) (C : Addr) (cl : List (Str × Addr)) (fp : List Addr), PG (X.blk s H scope (compEnvC scope cl C X.env) fp) tg (cG X.K X.mg ws tgf)) (ht : ∀ (s : Shared) (H : Hp) (C : Addr) (cl : List (Str × Addr)) (fp : List Addr), PTs (X.blk s H scope (compEnvC scope cl C X.env) fp) ifs (cT X.K X.mg ft))
    (he : ∀ (s : Shared) (H : Hp) (C : Addr) (cl : List (Str × Addr)) (fp : List Addr), PE (X.blk s H scope (compEnvC scope cl C X.env) fp) elt (cE X.K X.mg fe)) (sub : ∀ j ∈ ws, j ∈ own.map (·.2)) (hy : X.N[i]? = some y := by rfl) (hyl : X.env.scope.names.lookup y = some .local := by rfl)
    (hsw : swapsWith (.ListComp elt [⟨tg, iter, ifs, 0⟩] scope pos) (some (.Name y py)) spos.line X.env = pure true := by rfl) (hs : ∀ x, foldedSetIterable iter X.env x = pure x := by intro _; rfl) :
    PS X (.Assign [.Name y py] (.ListComp elt [⟨tg, iter, ifs, 0⟩] scope pos) spos) (cS X.K X.mg (setS i (lcE it tgf ft fe (own.map (·.2))))) :=
  ps_imp (ps_setLc hc hN hy hyl hsw hi ok hg ht he hs) fun De σ H h => by
    obtain ⟨g, env, s, r, er, h⟩ := set_t h
    exact lc_t sub ⟨g, env, s, r, er, h⟩
end
end Dd

set_option Elab.async false
set_option linter.all false
set_option maxRecDepth 100000
/-! Dd, part F: lists of one's own grow; calls; a def's promise. -/
namespace Dd
open PySem PySem.Spec PyProof.Rows L2
open PySem.AutoSeq1 (wpAny_loadPart')
theorem meets_extend_tup (l : Addr) (items : Array Value) (n : Nat) (b : Addr) (dct : Option Addr) (items2 : Array Value) (n2 : Nat) (sl : Array (Option Value)) (hs0 : ¬(!items.isEmpty && Builtin.List.listTooLong (items.size + items2.size)) = true) (hs1 : items.size ≤ sizeLine) (hs2 : items.size + items2.size ≤ sizeLine + 1) :
    Meets (Builtin.«list.extend» ⟨[.ref l, .ref b], []⟩) (fun _ R s => s.heap.get? l = some { cls := .type "list", dict := none, data := .seq items n, slots := #[] } ∧ s.heap.get? b = some { cls := .type "tuple", dict := dct, data := .seq items2 n2, slots := sl } ∧ R (.ok (.ret Value.none)) { s with heap := s.heap.update l (Obj.mapSeq fun x => x ++ items2), toks := s.toks }) :=
  .of_wp fun prog w A R s h => by
    obtain ⟨hp, g, d, tk, os⟩ := s; obtain ⟨hl, hb, h⟩ := h; have f1 := PySem.AutoSeq1.idx_int; have f2 := PySem.AutoSeq1.sub_tuple_tuple; have f3 := PySem.AutoSeq1.sub_list_list; have f4 := PySem.AutoSeq1.sub_tuple_list; have f5 := PySem.AutoSeq1.sub_list_tuple;
    have hz' : (items ++ items2).size ≤ sizeLine + 1 := by rw [Array.size_append]; exact hs2
    wp_walk using (wpAny_updateSeq hl rfl (hz := hs1) (_hz' := hz')), wpAny_loadPart' hl, wpAny_loadPart' hb; exact ⟨_, rfl, h⟩
section
variable {X : Cx}
def rExtendD (K : PySem.W.Frag) : V → List V → Hp → VK → Prop := fun x vs H Q => ∃ l b xs zs, x = .ref l ∧ vs = [.ref b] ∧ H l = some (.lst xs) ∧ (H b = some (.lst zs) ∨ SqT K H b zs) ∧ xs.length + zs.length ≤ sizeLine ∧ Q .non (upd H l (.lst (xs ++ zs)))
theorem mt_extendD : MtM X "list.extend" (rExtendD X.K) := by
  intro pins s σ H x vs v us Q I rx rv h
  obtain ⟨l, b, xs, zs, rfl, rfl, hH, hB, hz, q⟩ := h
  rcases hB with hB | hB
  · exact mt_extend pins s σ H _ _ v us Q I rx rv ⟨l, b, xs, zs, rfl, rfl, hH, hB, hz, q⟩
  cases rx
  obtain ⟨u, rfl, ru⟩ := rv.one
  cases ru
  obtain ⟨z, its, n, r, hl, e⟩ := I.lstM hH
  obtain ⟨its2, r2, ⟨ob, e2, c2, n2, d2⟩, z2⟩ := I.tuple hB
  have hl2 := r2.length
  obtain ⟨oc, od, odt, osl⟩ := ob
  cases (show oc = .type "tuple" from c2)
  cases (show odt = .seq its2.toArray n2 from d2)
  have hsz : its.toArray.size + its2.toArray.size ≤ sizeLine := by rw [List.size_toArray, List.size_toArray]; omega
  have hlong : ¬ (!its.toArray.isEmpty && Builtin.List.listTooLong (its.toArray.size + its2.toArray.size)) = true := by
    rw [notLongL hsz, Bool.and_false]
    exact Bool.false_ne_true
  refine call_meets F.slot_list_extend ⟨_, e, rfl⟩ F.entry_list_extend (F.args_list_extend_2 _ _)
    (meets_extend_tup l its.toArray n b od its2.toArray n2 osl hlong (by rw [List.size_toArray]; omega) (by omega)) ⟨e, e2, ?_⟩
  refine ⟨.non, _, I.lset (its' := its ++ its2) hH e (by simp) (r.append r2) ?_, rfl, q⟩
  rw [List.length_append]
  omega
variable {pos p ap cp : Pos} {e : Expr} {fe : EnvD → M D}
def oneD (d : D) : Option (List D) := some [d]
def manyD : D → Option (List D)
  | .lst xs => some xs
  | .tup xs => some xs
  | _ => none
def growS (k : D → Option (List D)) (i : Nat) (fe : EnvD → M D) : EnvD → M Fl := fun env => match env[i]? with
  | some (some (.own xs)) => fe env >>= fun d => match k d with
    | some ys => if xs.length + ys.length ≤ sizeLine then pure (.nx (env.set i (some (.own (xs ++ ys))))) else M.bad
    | none => M.bad
  | _ => M.bad
/-- what both have in common -/
theorem grow_t {K : PySem.W.Frag} {mg : Str → Option Value} {k : D → Option (List D)} {i : Nat} {De : Ends} {σ : L2.St} {H : Hp} (h : cS K mg (growS k i fe) De σ H) :
    ∃ l, σ[i]? = some (some (V.ref l)) ∧ (∃ ws, H l = some (.lst ws)) ∧ cE K mg fe σ H fun v H1 => ∃ g d vs ys, Rv K mg g v d ∧ k d = some ys ∧ (∀ a o, g.R a = some o → H1 a = some o) ∧ H1 l = some (.lst vs) ∧ vs.length + ys.length ≤ sizeLine ∧ ∀ us, Rvs K mg g us ys → De.nx σ (upd H1 l (.lst (vs ++ us))) := by
  obtain ⟨g, env, s, r, er, h⟩ := h
  unfold growS at h
  rcases hi : env[i]? with _ | (_ | (d | xs | ⟨ks, xs⟩))
  rotate_right
  · rw [hi] at h; exact h.elim
  · rw [hi] at h; exact h.elim
  · rw [hi] at h; exact h.elim
  · rw [hi] at h; exact h.elim
  rw [hi] at h
  obtain ⟨v, hv, l, o, rfl, h1, h2, h3, h4⟩ := er.val i _ hi
  have isl : ∀ {g : G} {o : HO}, OwR K mg g o (.own xs) → ∃ ws, o = .lst ws ∧ Rvs K mg g ws xs := fun {g o} h => by
    cases o with
    | lst ws => exact ⟨ws, rfl, h⟩
    | _ => exact (show False from h).elim
  obtain ⟨ws, rfl, h4⟩ := isl h4
  refine ⟨l, hv, ⟨ws, h1⟩, g, env, s, r, er, (St1 h).mono fun d g1 s1 H1 z q v rv => ?_⟩
  rcases hk : k d with _ | ys
  · rw [hk] at q; exact q.elim
  rw [hk] at q
  by_cases hz : xs.length + ys.length ≤ sizeLine
  · simp only [if_pos hz] at q
    have er1 := er.step z
    obtain ⟨v', hv', l', o', e1, q1, q2, q3, q4⟩ := er1.val i _ hi
    rw [hv] at hv'; cases hv'; cases e1
    obtain ⟨ws', rfl, q4⟩ := isl q4
    refine ⟨g1, d, ws', ys, rv, hk, z.rep.sub, q1, by rw [q4.length]; exact hz, fun us ru => ?_⟩
    have n := er1.chg (e1 := .own (xs ++ ys)) (u := .lst (ws' ++ us)) rfl rfl hi hv (show Rvs K mg g1 (ws' ++ us) (xs ++ ys) from q4.app ru)
    have z2 : Stq K mg (Owns σ env) g1 s1 H1 g1 s1 (upd H1 l (.lst (ws' ++ us))) := z.rep.chg q1 q2 q3 ⟨i, _, hi, rfl, hv⟩
    refine (show ∀ g' H', Stq K mg (Owns σ env) g1 s1 H1 g' s1 H' → flP K mg De σ env H (.nx (env.set i (some (.own (xs ++ ys))))) g' H' from q) g1 _ z2 σ ⟨n.r, fun a o => (n.o a o).elim .inl fun e => .inr ?_⟩
    cases e2 : H a with
    | none => rfl
    | some u => exact absurd e (z.stay a (by rw [e2]; simp))
  · simp only [if_neg hz] at q; exact q.elim
theorem dS_append (i : Nat) {x : Str} (he : PE X e (cE X.K X.mg fe)) (hN : X.N[i]? = some x := by rfl) (hv : Vis X.env.scope x := by first | exact Or.inl rfl | exact Or.inr (Or.inl rfl) | exact Or.inr (Or.inr rfl)) (hd : (x == ("__debug__" : Str)) = false := by decide) (hcd : (x == ("__classdict__" : Str)) = false := by decide)
    (hbase : attributeBase (.Name x p) "append" X.env (eval (.Name x p) X.env) = eval (.Name x p) X.env := by rfl) (hs1 : starEach [e] X.env = (false, eval e X.env) :: starEach [] X.env := by rfl)
    (hfew : ((backTo cp (starEach [e] X.env)).all (fun x => !x.1) && (backToKw cp (keywordEach [] X.env)).all (fun x => x.1.isSome)
      && decide ([e].length + ([] : List Keyword).length + (if ([] : List Keyword).isEmpty then 0 else 1) < 30)) = true := by rfl)
    (hline : (ap.endLine == cp.line) = true := by rfl) (hs : swapsWith (.Call (.Attribute (.Name x p) "append" ap) [e] [] cp) none pos.line X.env = pure false := by rfl) : PS X (.Expr (.Call (.Attribute (.Name x p) "append" ap) [e] [] cp) pos) (cS X.K X.mg (growS oneD i fe)) := by
  refine ps_imp (ps_expr (pe_bm PySem.F.plainAttrs_list PySem.F.slot_list_append PySem.F.type_list_append mt_append (pe_var hN hv hd hcd) (pa_cons he pa_nil hs1) hbase hfew hline hs1) hs) fun De σ H h => ?_
  obtain ⟨l, h1, ⟨ws, h2⟩, h3⟩ := grow_t h
  refine ⟨_, h1, .inl ⟨rfl, ws, .inl (.inl h2)⟩, ?_⟩
  obtain ⟨g, env, st, r, er, h3⟩ := h3
  refine ⟨g, env, st, r, er, h3.mono fun d g1 s1 H1 z q v rv => ?_⟩
  obtain ⟨g2, d2, vs, ys, rv2, hk, sub, hl, hz, q⟩ := q v rv
  cases hk
  exact ⟨l, vs, v, rfl, rfl, hl, hz, q [v] (.cons rv2 .nil)⟩
theorem dS_extend (i : Nat) {x : Str} (he : PE X e (cE X.K X.mg fe)) (hN : X.N[i]? = some x := by rfl) (hv : Vis X.env.scope x := by first | exact Or.inl rfl | exact Or.inr (Or.inl rfl) | exact Or.inr (Or.inr rfl)) (hd : (x == ("__debug__" : Str)) = false := by decide) (hcd : (x == ("__classdict__" : Str)) = false := by decide)
    (hbase : attributeBase (.Name x p) "extend" X.env (eval (.Name x p) X.env) = eval (.Name x p) X.env := by rfl) (hs1 : starEach [e] X.env = (false, eval e X.env) :: starEach [] X.env := by rfl)
    (hfew : ((backTo cp (starEach [e] X.env)).all (fun x => !x.1) && (backToKw cp (keywordEach [] X.env)).all (fun x => x.1.isSome)
      && decide ([e].length + ([] : List Keyword).length + (if ([] : List Keyword).isEmpty then 0 else 1) < 30)) = true := by rfl)
    (hline : (ap.endLine == cp.line) = true := by rfl) (hs : swapsWith (.Call (.Attribute (.Name x p) "extend" ap) [e] [] cp) none pos.line X.env = pure false := by rfl) : PS X (.Expr (.Call (.Attribute (.Name x p) "extend" ap) [e] [] cp) pos) (cS X.K X.mg (growS manyD i fe)) := by
  refine ps_imp (ps_expr (pe_bm PySem.F.plainAttrs_list PySem.F.slot_list_extend PySem.F.type_list_extend mt_extendD (pe_var hN hv hd hcd) (pa_cons he pa_nil hs1) hbase hfew hline hs1) hs) fun De σ H h => ?_
  obtain ⟨l, h1, ⟨ws, h2⟩, h3⟩ := grow_t h
  refine ⟨_, h1, .inl ⟨rfl, ws, .inl (.inl h2)⟩, ?_⟩
  obtain ⟨g, env, st, r, er, h3⟩ := h3
  refine ⟨g, env, st, r, er, h3.mono fun d g1 s1 H1 z q v rv => ?_⟩
  obtain ⟨g2, d2, vs, ys, rv2, hk, sub, hl, hz, q⟩ := q v rv
  cases rv2 with
  | lst hR rs =>
    cases hk
    exact ⟨l, _, vs, _, rfl, rfl, hl, .inl (sub _ _ hR), by rw [rs.length]; exact hz, q _ rs⟩
  | tup hR rs =>
    cases hk
    exact ⟨l, _, vs, _, rfl, rfl, hl, .inr (sqT_le sub hR), by rw [rs.length]; exact hz, q _ rs⟩
  | _ => cases hk
end
/-! ### a def's promise -/
def runF (n N : Nat) (b : EnvD → M Fl) (ds : List D) : M D := if ds.length = n then b (ds.map (fun d => some (.d d)) ++ List.replicate (N - n) none) >>= fun fl => match fl with
  | .nx _ => pure .non
  | .rt d => pure d
  | _ => M.bad
  else M.bad
section
variable (K : PySem.W.Frag) (mg : Str → Option Value)
def spD (F : List D → M D) : Sp := fun vs H Q _ => rA K mg F vs H Q
variable {K mg}
theorem envR_start {g : G} {H : Hp} {N : List Str} {vs : List V} {ds : List D} {n : Nat} (rs : Rvs K mg g vs ds) (hl : ds.length = n) : EnvR K mg g H (L2.start N vs) (ds.map (fun d => some (.d d)) ++ List.replicate (N.length - n) none) := by
  have lv := rs.length
  have no : ∀ (i : Nat) (e : EV), (ds.map (fun d => some (EV.d d)) ++ List.replicate (N.length - n) none)[i]? = some (some e) → ∃ d, ds[i]? = some d ∧ e = .d d := fun i e h => by
    by_cases hi : i < ds.length
    · rw [List.getElem?_append_left (by simpa using hi), List.getElem?_map] at h
      cases e1 : ds[i]? with
      | none => rw [e1] at h; cases h
      | some d => rw [e1] at h; cases h; exact ⟨d, rfl, rfl⟩
    · rw [List.getElem?_append_right (by simpa using hi), List.getElem?_replicate] at h
      split at h <;> cases h
  refine ⟨?_, fun i e h => ?_, fun i j e e' a h1 h2 h3 h4 h5 h6 => ?_⟩
  · unfold L2.start
    simp only [List.length_append, List.length_map, List.length_replicate]
    omega
  · obtain ⟨d, h1, rfl⟩ := no i e h
    obtain ⟨v, h2, h3⟩ := rs.get h1
    have hi := (List.getElem?_eq_some_iff.mp h2).1
    refine ⟨v, ?_, h3⟩
    unfold L2.start
    rw [List.getElem?_append_left (by simpa using hi), List.getElem?_map, h2]
    rfl
  · obtain ⟨d, _, rfl⟩ := no i e h1
    cases h2
/-- a def's promise, where no repr is under way -/
structure FnG (P : Program) (w : World) (K : PySem.W.Frag) (mg : Str → Option Value) (base : Heap) (k : Nat) (f : Addr) (fd : FuncData) (ps : List Str) (sp : Sp) : Prop where
  len : ∀ vs H Q E, sp vs H Q E → vs.length = ps.length
  run : ∀ (A : Around) (outer : List Env) (s : Shared) (H : Hp) (args : Args) (us : List Value) (vs : List V) (Q : VK), Room k A → A.guards = some [] → Env0 P w K mg base A outer s H → BindsTo s fd args (ps.zip us) → Vals vs us → sp vs H Q E0 →
    codeAny (model P w) A (.call (.ref f) args) (CR CX0 outer P w H s Q E0) s
theorem fnG_of {P : Program} {w : World} {base : Heap} {x qual : Str} {params : Arguments} {body : List Stmt} {scope : Scope} {dvs : List V} {kws : List (Str × V)} {f : Addr} {fd : FuncData} {N ps : List Str} {k : Nat} {sp : Sp} (F : FunD K x qual params body scope dvs kws f fd) (S : FnScope N ps scope)
    (len : ∀ vs H Q E, sp vs H Q E → vs.length = ps.length)
    (hbody : ∀ (cdv : Value) (A : Around) (outer : List Env) (s : Shared) (H : Hp) (vs : List V) (Q : VK), Room k (A.deeper (envOfC qual scope s.heap.objs.size f cdv)) → A.guards = some [] → sp vs H Q E0 →
      ∃ t, PSs (cxOf CX0 P w K mg base N qual scope f cdv A outer s H E0) body t ∧ t { nx := fun _ H' => Q .non H', rt := Q } (L2.start N vs) H) : FnG P w K mg base (k + 1) f fd ps sp := by
  obtain ⟨oc, od, dV, kV, doc, pm, an, cdv, ct, osl, rfl, lk, hcd, _, _⟩ := F.ex
  refine ⟨len, fun A outer s H args us vs Q hr hgd e0 hb r hsp => ?_⟩
  have hl := len _ _ _ _ hsp
  have KX : K.In s.heap := e0.mod.kin.keeps fun b o e => (e0.bs b o e).1
  have lim : s.heap.NoLimit := e0.mod.nolimit.keeps fun b o e => (e0.bs b o e).1
  have hkind : ∀ y ∈ ps.zip us, scope.names.lookup y.1 = some .local ∨ (scope.names.lookup y.1 = some .cell ∧ ((cellsFrom (s.heap.objs.size + 1) scope.names []).lookup y.1).isSome = true) := fun ⟨n, v⟩ hy =>
    (S.par n (List.of_mem_zip hy).1).imp id fun q => ⟨q, PySem.W.cellsFrom_some _ _ _ (.inl q)⟩
  refine codeAny_call_function hr.depth (KX _ _ lk) rfl S.co S.gen rfl (PySem.W.codeRec_of KX hcd) (hb _ _ _ _ ?_)
  refine wpAny_newFunctionEnv_cells S.kind hkind fun env he s1 x => ?_
  subst he
  refine ⟨lim.keeps x.toInCall.keep, codeAny_func ?_⟩
  obtain ⟨t, ht, hq⟩ := hbody cdv A outer s H vs Q (hr.deeper _) hgd hsp
  refine wpAny_mono (ht.run [] s1 (L2.start N vs) H _ (inv_start S hr.hd e0 hl r x) hq) (fun fl s' hs => ?_) fun e s' hs => hs
  cases fl with
  | ret u =>
    obtain ⟨v, σ', H', J, rv, q⟩ := hs
    exact ⟨v, H', J.os, J.bare, J.base, J.hok, rv, q⟩
  | next =>
    obtain ⟨σ', H', J, q⟩ := hs
    exact ⟨V.non, H', J.os, J.bare, J.base, J.hok, rfl, q⟩
  | brk => obtain ⟨_, _, _, q⟩ := hs; exact False.elim q
  | cont => obtain ⟨_, _, _, q⟩ := hs; exact False.elim q
theorem def_ok {P : Program} {w : World} {base : Heap} {x qual : Str} {params : Arguments} {body : List Stmt} {scope : Scope} {dvs : List V} {kws : List (Str × V)} {f : Addr} {fd : FuncData} {N ps : List Str} {k : Nat} {b : EnvD → M Fl} (F : FunD K x qual params body scope dvs kws f fd) (S : FnScope N ps scope)
    (hbody : ∀ (cdv : Value) (A : Around) (outer : List Env) (s : Shared) (H : Hp), Room k (A.deeper (envOfC qual scope s.heap.objs.size f cdv)) → A.guards = some [] → PSs (cxOf CX0 P w K mg base N qual scope f cdv A outer s H E0).nox body (cS K mg b)) :
    FnG P w K mg base (k + 1) f fd ps (spD K mg (runF ps.length N.length b)) := by
  refine fnG_of F S (fun vs H Q E h => ?_) (fun cdv A outer s H vs Q hr hgd h => ⟨cS K mg b, PSs.nox (hbody cdv A outer s H hr hgd), ?_⟩)
  · obtain ⟨g, st, ds, r, rs, h⟩ := h
    unfold runF at h
    obtain ⟨c, _⟩ := At.ite h
    exact rs.length.trans c
  · obtain ⟨g, st, ds, r, rs, h⟩ := h
    unfold runF at h
    obtain ⟨c, h⟩ := At.ite h
    refine ⟨g, _, st, r, envR_start rs c, Out.wp_mono (M.bind_wp h) (fun fl s1 q g1 H1 z => ?_) fun _ _ z => z⟩
    have z0 : Stp K mg g st H g1 s1 H1 := ⟨z.le, z.rep, fun a o h1 h2 _ => z.frame a o h1 h2 (fun ⟨i, e, h3, h4, _⟩ => by
      by_cases hi : i < ds.length
      · rw [List.getElem?_append_left (by simpa using hi), List.getElem?_map] at h3
        cases e1 : ds[i]? with
        | none => rw [e1] at h3; cases h3
        | some d => rw [e1] at h3; cases h3; cases h4
      · rw [List.getElem?_append_right (by simpa using hi), List.getElem?_replicate] at h3
        split at h3 <;> cases h3), fun a h1 h2 h5 _ => z.newR a h1 h2 h5 (fun ⟨i, e, h3, h4, _⟩ => by
      by_cases hi : i < ds.length
      · rw [List.getElem?_append_left (by simpa using hi), List.getElem?_map] at h3
        cases e1 : ds[i]? with
        | none => rw [e1] at h3; cases h3
        | some d => rw [e1] at h3; cases h3; cases h4
      · rw [List.getElem?_append_right (by simpa using hi), List.getElem?_replicate] at h3
        split at h3 <;> cases h3), z.newI, z.stay⟩
    cases fl with
    | nx e => exact fun σ' _ => (show ∀ g2 H2, Stp K mg g st H g2 s1 H2 → ∀ v, Rv K mg g2 v .non → Q v H2 from q) g1 H1 z0 .non .non
    | rt d => exact fun v rv => (show ∀ g2 H2, Stp K mg g st H g2 s1 H2 → ∀ v, Rv K mg g2 v d → Q v H2 from q) g1 H1 z0 v rv
    | bk e => exact (show False from q).elim
    | ct e => exact (show False from q).elim
end
/-! ### calls -/
section
variable {X : Cx} {k n : Nat} {f : Addr} {fd : FuncData} {ps ks : List Str} {F : List D → M D} {sp : Sp} {ds : List Value} {g : List Value → List Value → List Value} {gV : List V → List V → List V} {x : Str} {p pos : Pos} {e : Expr} {es : List Expr} {kws : List Keyword} {fa fk : EnvD → M (List D)} {dvs : List V} {dds : List D}
theorem run_G {pins : List (Addr × Obj)} {σ : L2.St} {H : Hp} {s : Shared} {Q : VK} {args : Args} {us : List Value} {vs : List V} (F : FnG X.prog X.w X.K X.mg X.base k f fd ps sp) (hr : Room k X.A) (hgd : X.A.guards = some [])
    (I : Inv X pins σ H s) (hb : BindsTo s fd args (ps.zip us)) (r : Vals vs us) (h : sp vs H Q E0) : codeAny (model X.prog X.w) X.A (.call (.ref f) args) (fun r s' => match r with | .ok (.ret u) => EP X pins σ Q u s' | _ => False) s := by
  refine codeAny_mono (F.run X.A X.stack s H args us vs Q hr hgd I.env0 hb r h) fun r s' hq => ?_
  cases r with
  | error e => exact (show False from hq).elim
  | ok fl =>
    cases fl with
    | ret u => exact I.after hq
    | next => exact False.elim hq
    | brk => exact False.elim hq
    | cont => exact False.elim hq
theorem call_G {pins : List (Addr × Obj)} {σ : L2.St} {H : Hp} {s : Shared} {Q : VK} {us vs' : List Value} {kw : List (Str × Value)} {vs : List V} (F : FnG X.prog X.w X.K X.mg X.base k f fd ps sp) (hr : Room k X.A) (hgd : X.A.guards = some [])
    (I : Inv X pins σ H s) (hb : BindsTo s fd ⟨us, kw⟩ (ps.zip vs')) (r : Vals vs vs') (h : sp vs H Q E0) : wpAny (model X.prog X.w) X.A (call (.ref f) us kw) (EP X pins σ Q) X.xe s := by
  refine wpAny_call (codeAny_mono (run_G F hr hgd I hb r h) fun r s' hq => ?_)
  cases r with
  | error e => exact (show False from hq).elim
  | ok fl =>
    cases fl with
    | ret u => exact hq
    | next => exact False.elim hq
    | brk => exact False.elim hq
    | cont => exact False.elim hq
def callE (F : List D → M D) (dds : List D) (fa : EnvD → M (List D)) : EnvD → M D := fun env => fa env >>= fun ds => F (ds ++ dds)
theorem dE_call (fo : FnG X.prog X.w X.K X.mg X.base k f fd ps (spD X.K X.mg F)) (hr : Room k X.A) (hgd : X.A.guards = some []) (hm : X.mg x = some (.ref f)) (hk : PySem.W.keepIn X.K (.ref f) = true) (hb : ∃ ds, Vals dvs ds ∧ Binds X.K fd ps ds) (hdd : ∀ g : G, Rvs X.K X.mg g dvs dds)
    (ha : PA X (e :: es) (cA X.K X.mg fa)) (hg : Gl X x := by rfl) (hdb : (x == ("__debug__" : Str)) = false := by decide) (he : starEach (e :: es) X.env = (false, eval e X.env) :: starEach es X.env := by rfl) (hpl : (backTo pos (starEach es X.env)).any (·.1) = false := by rfl) :
    PE X (.Call (.Name x p) (e :: es) [] pos) (cE X.K X.mg (callE F dds fa)) := by
  obtain ⟨ds, hd, hb⟩ := hb
  have H0 : PE X (.Call (.Name x p) (e :: es) [] pos) (tCall (spD X.K X.mg F) dvs E0 (cA X.K X.mg fa)) := by
    refine ⟨fun pins s σ H Q I h => ?_⟩
    refine wpAny_Call_Name_kw (ld_glob I hg hm ?_ hdb)
    refine PySem.W.callWith_K (h₀ := X.base) I.ok.mod.kin hk (thn (ha.run pos pins s σ H _ I h) fun us s1 ⟨vs, H1, I1, r, q⟩ => ⟨I1.kIn, ?_⟩) he hpl
    have r2 : Vals (vs ++ dvs) (us ++ ds) := r.append hd
    exact call_G fo hr hgd I1 (hb s1 us I1.kIn (by rw [← r2.length]; exact fo.len _ _ _ _ q)) r2 q
  refine pe_imp H0 fun σ H Q ⟨g, env, st, r, er, h⟩ => ?_
  refine ⟨g, env, st, r, er, h.bind.mono fun ds g1 st1 H1 s1 q vs rs => ?_⟩
  exact ⟨g1, st1, ds ++ dds, s1.rep, rs.app (hdd g1), q⟩
theorem dE_call0 (fo : FnG X.prog X.w X.K X.mg X.base k f fd ps (spD X.K X.mg F)) (hr : Room k X.A) (hgd : X.A.guards = some []) (hm : X.mg x = some (.ref f)) (hk : PySem.W.keepIn X.K (.ref f) = true) (hb : ∃ ds, Vals dvs ds ∧ Binds X.K fd ps ds) (hdd : ∀ g : G, Rvs X.K X.mg g dvs dds)
    (hg : Gl X x := by rfl) (hdb : (x == ("__debug__" : Str)) = false := by decide) : PE X (.Call (.Name x p) [] [] pos) (cE X.K X.mg (callE F dds nilA)) := by
  obtain ⟨ds, hd, hb⟩ := hb
  have H0 : PE X (.Call (.Name x p) [] [] pos) (tCall (spD X.K X.mg F) dvs E0 tNil) := by
    refine ⟨fun pins s σ H Q I h => ?_⟩
    refine wpAny_Call_Name_kw (ld_glob I hg hm ?_ hdb)
    have h : spD X.K X.mg F ([] ++ dvs) H Q E0 := h
    exact PySem.W.callWith_K0 I.kIn hk (call_G (us := []) fo hr hgd I (hb s [] I.kIn (by rw [List.nil_append, ← hd.length]; exact fo.len _ _ _ _ h)) hd h)
  refine pe_imp H0 fun σ H Q ⟨g, env, st, r, er, h⟩ => ?_
  have h : At X.K X.mg g st H (F ([] ++ dds)) fun d g' _ H' => ∀ v, Rv X.K X.mg g' v d → Q v H' := h
  exact ⟨g, st, dds, r, hdd g, h⟩
/-- positional values, then the keywords' values, put in order -/
def permL {α : Type} (pm : List Nat) (xs : List α) : List α := pm.filterMap fun i => xs[i]?
theorem permL_rel (pm : List Nat) {vs : List V} {us : List Value} (r : Vals vs us) : Vals (permL pm vs) (permL pm us) := by
  induction pm with
  | nil => exact .nil
  | cons i pm ih =>
    unfold permL at ih ⊢
    rw [List.filterMap_cons, List.filterMap_cons]
    cases e : vs[i]? with
    | none =>
      have : us[i]? = none := by
        rw [List.getElem?_eq_none_iff] at e ⊢
        rw [← r.length]; exact e
      rw [this]; exact ih
    | some v =>
      obtain ⟨u, h1, h2⟩ := r.get e
      rw [h1]; exact .cons h2 ih
theorem permL_rvs {K : PySem.W.Frag} {mg : Str → Option Value} {g : G} (pm : List Nat) {vs : List V} {ds : List D} (r : Rvs K mg g vs ds) : Rvs K mg g (permL pm vs) (permL pm ds) := by
  induction pm with
  | nil => exact .nil
  | cons i pm ih =>
    unfold permL at ih ⊢
    rw [List.filterMap_cons, List.filterMap_cons]
    cases e : ds[i]? with
    | none =>
      have : vs[i]? = none := by
        rw [List.getElem?_eq_none_iff] at e ⊢
        rw [r.length]; exact e
      rw [this]; exact ih
    | some v =>
      obtain ⟨u, h1, h2⟩ := r.get e
      rw [h1]; exact .cons h2 ih
def callK (F : List D → M D) (pm : List Nat) (n m : Nat) (fa fk : EnvD → M (List D)) : EnvD → M D := fun env => fa env >>= fun ds => fk env >>= fun es => if ds.length = n ∧ es.length = m then F (permL pm (ds ++ es)) else M.bad
theorem pk_imp {X : Cx} {e : List Keyword} {t t' : TA} (h : PK X e t') (i : ∀ σ H Q, t σ H Q → t' σ H Q) : PK X e t := ⟨fun pos pins s σ H Q I q => h.run pos pins s σ H Q I (i _ _ _ q)⟩
theorem dK_nil : PK X [] (cA X.K X.mg nilA) := pk_imp pk_nil fun σ H Q ⟨g, env, st, r, er, h⟩ => At.pure r h [] .nil
theorem dK_cons {nm : Option Str} {kpos : Pos} {fe : EnvD → M D} (ha : PE X e (cE X.K X.mg fe)) (hr : PK X kws (cA X.K X.mg fk)) : PK X (⟨nm, e, kpos⟩ :: kws) (cA X.K X.mg (consA fe fk)) := by
  refine pk_imp (pk_cons ha hr) fun σ H Q ⟨g, env, st, r, er, h⟩ => ?_
  refine ⟨g, env, st, r, er, h.bind.mono fun x g1 st1 H1 s1 q v rv => ?_⟩
  refine ⟨g1, env, st1, s1.rep, er.step s1, (At.bind q).mono fun y g2 st2 H2 s2 q2 u ru => ?_⟩
  exact At.pure s2.rep q2 _ (.cons (Rv.le s2.le rv) ru)
/-- f(e, .., k = v, ..) and f(k = v, ..) -/
theorem dE_callK (fo : FnG X.prog X.w X.K X.mg X.base k f fd ps (spD X.K X.mg F)) (pm : List Nat) (n : Nat) (hr : Room k X.A) (hgd : X.A.guards = some []) (hm : X.mg x = some (.ref f)) (hk : PySem.W.keepIn X.K (.ref f) = true) (hb : ∀ (s : Shared) (us ws : List Value), X.K.In s.heap → us.length = n → ws.length = ks.length → BindsTo s fd ⟨us, ks.zip ws⟩ (ps.zip (permL pm (us ++ ws))))
    (ha : PA X (e :: es) (cA X.K X.mg fa)) (hkw : PK X kws (cA X.K X.mg fk)) (hg : Gl X x := by rfl) (hall : (backToKw pos (keywordEach kws X.env)).all (·.1.isSome) = true := by rfl) (hks : (backToKw pos (keywordEach kws X.env)).filterMap (·.1) = ks := by rfl)
    (hdb : (x == ("__debug__" : Str)) = false := by decide) (he : starEach (e :: es) X.env = (false, eval e X.env) :: starEach es X.env := by rfl)
    (hpl : ((backTo pos (starEach (e :: es) X.env)).any (·.1) || (backToKw pos (keywordEach kws X.env)).any (·.1.isNone)) = false := by rfl) :
    PE X (.Call (.Name x p) (e :: es) kws pos) (cE X.K X.mg (callK F pm n ks.length fa fk)) := by
  have KB : KBn X.K fd ps n ks (fun us ws => permL pm (us ++ ws)) (fun vs zs => permL pm (vs ++ zs)) := ⟨hb, fun r1 r2 => permL_rel pm (r1.append r2)⟩
  have H0 : PE X (.Call (.Name x p) (e :: es) kws pos) (tCallN n ks.length (spD X.K X.mg F) (fun vs zs => permL pm (vs ++ zs)) E0 (cA X.K X.mg fa) (cA X.K X.mg fk)) := by
    refine ⟨fun pins s σ H Q I h => ?_⟩
    refine wpAny_Call_Name_kw (ld_glob I hg hm ?_ hdb)
    refine PySem.W.callWith_KW (h₀ := X.base) I.ok.mod.kin hk hall (thn (ha.run pos pins s σ H _ I h) fun us s1 ⟨vs, H1, I1, r, q⟩ => ?_) hpl he
    refine thn (hkw.run pos pins s1 σ H1 _ I1 q) fun ws s2 ⟨zs, H2, I2, rz, l1, l2, q2⟩ => ⟨I2.kIn, ?_⟩
    rw [hks]
    exact call_G fo hr hgd I2 (hb s2 us ws I2.kIn (r.length.symm.trans l1) (rz.length.symm.trans l2)) (KB.rel r rz) q2
  refine pe_imp H0 fun σ H Q ⟨g, env, st, r, er, h⟩ => ?_
  refine ⟨g, env, st, r, er, h.bind.mono fun ds g1 st1 H1 s1 q vs rs => ?_⟩
  refine ⟨g1, env, st1, s1.rep, er.step s1, (At.bind q).mono fun zs g2 st2 H2 s2 q2 us ru => ?_⟩
  obtain ⟨⟨c1, c2⟩, q2⟩ := q2.ite
  exact ⟨rs.length.trans c1, ru.length.trans c2, g2, st2, _, s2.rep, permL_rvs pm ((Rvs.le s2.le rs).app ru), q2⟩
theorem dE_callK0 (fo : FnG X.prog X.w X.K X.mg X.base k f fd ps (spD X.K X.mg F)) (pm : List Nat) (hr : Room k X.A) (hgd : X.A.guards = some []) (hm : X.mg x = some (.ref f)) (hk : PySem.W.keepIn X.K (.ref f) = true) (hb : ∀ (s : Shared) (us ws : List Value), X.K.In s.heap → us.length = 0 → ws.length = ks.length → BindsTo s fd ⟨us, ks.zip ws⟩ (ps.zip (permL pm (us ++ ws))))
    (hkw : PK X kws (cA X.K X.mg fk)) (hg : Gl X x := by rfl) (hall : (backToKw pos (keywordEach kws X.env)).all (·.1.isSome) = true := by rfl) (hks : (backToKw pos (keywordEach kws X.env)).filterMap (·.1) = ks := by rfl)
    (hdb : (x == ("__debug__" : Str)) = false := by decide)
    (hpl : ((backTo pos (starEach [] X.env)).any (·.1) || (backToKw pos (keywordEach kws X.env)).any (·.1.isNone)) = false := by rfl) :
    PE X (.Call (.Name x p) [] kws pos) (cE X.K X.mg (callK F pm 0 ks.length nilA fk)) := by
  have KB : KBn X.K fd ps 0 ks (fun us ws => permL pm (us ++ ws)) (fun vs zs => permL pm (vs ++ zs)) := ⟨hb, fun r1 r2 => permL_rel pm (r1.append r2)⟩
  have H0 : PE X (.Call (.Name x p) [] kws pos) (tCallN 0 ks.length (spD X.K X.mg F) (fun vs zs => permL pm (vs ++ zs)) E0 tNil (cA X.K X.mg fk)) := by
    refine ⟨fun pins s σ H Q I h => ?_⟩
    refine wpAny_Call_Name_kw (ld_glob I hg hm ?_ hdb)
    refine PySem.W.callWith_KW0 (h₀ := X.base) I.ok.mod.kin hk hall ?_ hpl
    refine thn (hkw.run pos pins s σ H _ I h) fun ws s2 ⟨zs, H2, I2, rz, l1, l2, q2⟩ => ⟨I2.kIn, ?_⟩
    rw [hks]
    exact call_G (us := []) fo hr hgd I2 (hb s2 [] ws I2.kIn rfl (rz.length.symm.trans l2)) (KB.rel .nil rz) q2
  refine pe_imp H0 fun σ H Q ⟨g, env, st, r, er, h⟩ => ?_
  have h : At X.K X.mg g st H (fk env >>= fun es => if ([] : List D).length = 0 ∧ es.length = ks.length then F (permL pm ([] ++ es)) else M.bad) fun d g' _ H' => ∀ v, Rv X.K X.mg g' v d → Q v H' := h
  refine ⟨g, env, st, r, er, h.bind.mono fun zs g2 st2 H2 s2 q2 us ru => ?_⟩
  obtain ⟨⟨c1, c2⟩, q2⟩ := q2.ite
  exact ⟨rfl, ru.length.trans c2, g2, st2, _, s2.rep, permL_rvs pm ru, q2⟩
end
end Dd

set_option Elab.async false
set_option linter.all false
set_option maxRecDepth 100000
/-! Dd, part G: operations on data, I. -/
namespace Dd
open PySem PySem.Spec PyProof.Rows L2
section
variable {K : PySem.W.Frag} {mg : Str → Option Value} {g : G} {st : Sto} {H : Hp} {Q : VK}
/-- where a value comes, or a new object -/
def Res (K : PySem.W.Frag) (mg : Str → Option Value) (g : G) (st : Sto) (H : Hp) (Q : VK) (d : D) : Prop := ∀ g' H', Stp K mg g st H g' st H' → ∀ v, Rv K mg g' v d → Q v H'
theorem res_of {d : D} (h : At K mg g st H (pure d) fun d g' _ H' => ∀ v, Rv K mg g' v d → Q v H') : Res K mg g st H Q d := h
theorem Res.here {d : D} (h : Res K mg g st H Q d) (r : Rep K mg g st H) {v : V} (rv : Rv K mg g v d) : Q v H := h g H (.refl r) v rv
theorem Res.lst {xs : List D} (h : Res K mg g st H Q (.lst xs)) (r : Rep K mg g st H) {vs : List V} (rv : Rvs K mg g vs xs) (p : Addr) (n : H p = none) : Q (.ref p) (upd H p (.lst vs)) :=
  h _ _ (r.lay n) _ (.lst upd_same (rv.le (r.lay (o := .lst vs) n).le))
theorem Res.tup {xs : List D} (h : Res K mg g st H Q (.tup xs)) (r : Rep K mg g st H) {vs : List V} (rv : Rvs K mg g vs xs) (p : Addr) (n : H p = none) : Q (.ref p) (upd H p (.tup vs)) :=
  h _ _ (r.lay n) _ (.tup (.inl (.inl upd_same)) (rv.le (r.lay (o := .tup vs) n).le))
theorem Rep.sqT {a : Addr} {xs : List V} (r : Rep K mg g st H) (h : SqT K g.R a xs) : SqT K H a xs := sqT_le r.sub h
theorem Rep.sqL {a : Addr} {xs : List V} (r : Rep K mg g st H) (h : SqL K g.R a xs) : SqL K H a xs := sqL_le r.sub h
end
section
variable {X : Cx}
/-! ### arithmetic, + of texts, tuples, lists -/
def addM : D → D → M D
  | .int i, .int j => pure (.int (i + j))
  | .str a, .str b => if a.length + b.length ≤ sizeLine then pure (.str (a ++ b)) else M.bad
  | .tup xs, .tup ys => if xs.length + ys.length ≤ sizeLine then pure (.tup (xs ++ ys)) else M.bad
  | .lst xs, .lst ys => if xs.length + ys.length ≤ sizeLine then pure (.lst (xs ++ ys)) else M.bad
  | _, _ => M.bad
theorem oAdd : OpR X (binaryOp .Add) (r2 X.K X.mg addM) := by
  refine opR_imp (op_add.or (op_add_str.or (op_catA.or op_cat))) fun x y H Q ⟨g, st, a, b, r, ra, rb, h⟩ => ?_
  unfold addM at h
  split at h
  · cases ra; cases rb
    exact .inl ⟨_, _, rfl, rfl, (res_of h).here r (.int _)⟩
  · cases ra; cases rb
    obtain ⟨c, h⟩ := h.ite
    exact .inr (.inl ⟨_, _, rfl, rfl, c, (res_of h).here r (.str _)⟩)
  · cases ra with
    | tup qa sa =>
      cases rb with
      | tup qb sb =>
        obtain ⟨c, h⟩ := h.ite
        have la := sa.length
        have lb := sb.length
        refine .inr (.inr (.inl ⟨_, _, _, _, rfl, rfl, r.sqT qa, r.sqT qb, by omega, fun e => ?_, fun _ e => ?_, fun _ _ p n => (res_of h).tup r (sa.app sb) p n⟩))
        · subst e; cases sa
          exact (res_of h).here r (.tup qb sb)
        · subst e; cases sb
          rw [List.append_nil] at h
          exact (res_of h).here r (.tup qa sa)
  · cases ra with
    | lst qa sa =>
      cases rb with
      | lst qb sb =>
        obtain ⟨c, h⟩ := h.ite
        have la := sa.length
        have lb := sb.length
        exact .inr (.inr (.inr ⟨_, _, _, _, rfl, rfl, r.sub _ _ qa, r.sub _ _ qb, by omega, fun p n => (res_of h).lst r (sa.app sb) p n⟩))
  · exact (show False from h).elim
def subM : D → D → M D
  | .int i, .int j => pure (.int (i - j))
  | _, _ => M.bad
theorem oSub : OpR X (binaryOp .Sub) (r2 X.K X.mg subM) := by
  refine opR_imp op_sub fun x y H Q ⟨g, st, a, b, r, ra, rb, h⟩ => ?_
  unfold subM at h
  split at h
  · cases ra; cases rb
    exact ⟨_, _, rfl, rfl, (res_of h).here r (.int _)⟩
  · exact (show False from h).elim
instance (i j : Int) : Decidable (CMul i j) := by unfold CMul; infer_instance
def repOk (n : Nat) (k : Int) : Prop := -(2 ^ 63) ≤ k ∧ k < 2 ^ 63 ∧ n * k.toNat ≤ sizeLine
instance (n : Nat) (k : Int) : Decidable (repOk n k) := by unfold repOk; infer_instance
def repS (z : Str) (k : Nat) : Str := ⟨(List.replicate k z.cps.toList).flatten.toArray⟩
def mulM : D → D → M D
  | .int i, .int j => if CMul i j then pure (.int (i * j)) else M.bad
  | .lst xs, .int k => if repOk xs.length k then pure (.lst (List.replicate k.toNat xs).flatten) else M.bad
  | _, _ => M.bad
theorem rvs_rep {K : PySem.W.Frag} {mg : Str → Option Value} {g : G} {vs : List V} {ds : List D} (r : Rvs K mg g vs ds) : ∀ k : Nat, Rvs K mg g (List.replicate k vs).flatten (List.replicate k ds).flatten
  | 0 => .nil
  | k + 1 => by
    rw [List.replicate_succ, List.replicate_succ, List.flatten_cons, List.flatten_cons]
    exact r.app (rvs_rep r k)
theorem oMul : OpR X (binaryOp .Mult) (r2 X.K X.mg mulM) := by
  refine opR_imp (op_mul.or op_rep) fun x y H Q ⟨g, st, a, b, r, ra, rb, h⟩ => ?_
  unfold mulM at h
  split at h
  · cases ra; cases rb
    obtain ⟨c, h⟩ := h.ite
    exact .inl ⟨_, _, rfl, rfl, c, (res_of h).here r (.int _)⟩
  · cases rb
    cases ra with
    | lst qa sa =>
      obtain ⟨⟨c1, c2, c3⟩, h⟩ := h.ite
      exact .inr ⟨_, _, _, rfl, rfl, r.sub _ _ qa, c1, c2, by rw [sa.length]; exact c3, fun p n => (res_of h).lst r (rvs_rep sa _) p n⟩
  · exact (show False from h).elim
def modM : D → D → M D
  | .int i, .int j => if 0 < j then pure (.int (i % j)) else M.bad
  | _, _ => M.bad
theorem oMod : OpR X (binaryOp .Mod) (r2 X.K X.mg modM) := by
  refine opR_imp op_mod fun x y H Q ⟨g, st, a, b, r, ra, rb, h⟩ => ?_
  unfold modM at h
  split at h
  · cases ra; cases rb
    obtain ⟨c, h⟩ := h.ite
    exact ⟨_, _, rfl, rfl, c, (res_of h).here r (.int _)⟩
  · exact (show False from h).elim
instance (i j : Int) : Decidable (CDiv i j) := by unfold CDiv; infer_instance
def fdivM : D → D → M D
  | .int i, .int j => if CDiv i j then pure (.int (i / j)) else M.bad
  | _, _ => M.bad
theorem oFdiv : OpR X (binaryOp .FloorDiv) (r2 X.K X.mg fdivM) := by
  refine opR_imp op_fdiv fun x y H Q ⟨g, st, a, b, r, ra, rb, h⟩ => ?_
  unfold fdivM at h
  split at h
  · cases ra; cases rb
    obtain ⟨c, h⟩ := h.ite
    exact ⟨_, _, rfl, rfl, c, (res_of h).here r (.int _)⟩
  · exact (show False from h).elim
instance (i j : Int) : Decidable (CPow i j) := by unfold CPow; infer_instance
def powM : D → D → M D
  | .int i, .int j => if CPow i j then pure (.int (i ^ j.toNat)) else M.bad
  | _, _ => M.bad
theorem oPow : OpR X (binaryOp .Pow) (r2 X.K X.mg powM) := by
  refine opR_imp op_pow fun x y H Q ⟨g, st, a, b, r, ra, rb, h⟩ => ?_
  unfold powM at h
  split at h
  · cases ra; cases rb
    obtain ⟨c, h⟩ := h.ite
    exact ⟨_, _, rfl, rfl, c, (res_of h).here r (.int _)⟩
  · exact (show False from h).elim
variable {pos : Pos} {a : Expr} {fa : EnvD → M D}
def negM : D → M D
  | .int i => pure (.int (-i))
  | _ => M.bad
def unE (fo : D → M D) (fa : EnvD → M D) : EnvD → M D := fun env => fa env >>= fo
theorem dE_neg (ha : PE X a (cE X.K X.mg fa)) : PE X (.UnaryOp .USub a pos) (cE X.K X.mg (unE negM fa)) := by
  refine pe_imp (pe_un un_neg ha) fun σ H Q ⟨g, env, st, r, er, h⟩ => ⟨g, env, st, r, er, h.bind.mono fun x g1 st1 H1 s1 q v rv => ?_⟩
  unfold negM at q
  split at q
  · cases rv
    exact ⟨_, rfl, (res_of q).here s1.rep (.int _)⟩
  · exact (show False from q).elim
/-! ### order -/
def ltM : D → D → M D
  | .int i, .int j => pure (.bl (decide (i < j)))
  | .str a, .str b => pure (.bl (decide (a.cps.toList < b.cps.toList)))
  | _, _ => M.bad
theorem oLt : OpR X (compareOp .Lt) (r2 X.K X.mg ltM) := by
  refine opR_imp (op_lt.or op_lt_str) fun x y H Q ⟨g, st, a, b, r, ra, rb, h⟩ => ?_
  unfold ltM at h
  split at h
  · cases ra; cases rb
    exact .inl ⟨_, _, rfl, rfl, (res_of h).here r (.bl _)⟩
  · cases ra; cases rb
    exact .inr ⟨_, _, rfl, rfl, (res_of h).here r (.bl _)⟩
  · exact (show False from h).elim
def leM : D → D → M D
  | .int i, .int j => pure (.bl (decide (i ≤ j)))
  | _, _ => M.bad
theorem oLe : OpR X (compareOp .LtE) (r2 X.K X.mg leM) := by
  refine opR_imp op_le fun x y H Q ⟨g, st, a, b, r, ra, rb, h⟩ => ?_
  unfold leM at h
  split at h
  · cases ra; cases rb
    exact ⟨_, _, rfl, rfl, (res_of h).here r (.bl _)⟩
  · exact (show False from h).elim
def gtM : D → D → M D
  | .int i, .int j => pure (.bl (decide (j < i)))
  | _, _ => M.bad
theorem oGt : OpR X (compareOp .Gt) (r2 X.K X.mg gtM) := by
  refine opR_imp op_gt fun x y H Q ⟨g, st, a, b, r, ra, rb, h⟩ => ?_
  unfold gtM at h
  split at h
  · cases ra; cases rb
    exact ⟨_, _, rfl, rfl, (res_of h).here r (.bl _)⟩
  · exact (show False from h).elim
def geM : D → D → M D
  | .int i, .int j => pure (.bl (decide (j ≤ i)))
  | _, _ => M.bad
theorem oGe : OpR X (compareOp .GtE) (r2 X.K X.mg geM) := by
  refine opR_imp op_ge fun x y H Q ⟨g, st, a, b, r, ra, rb, h⟩ => ?_
  unfold geM at h
  split at h
  · cases ra; cases rb
    exact ⟨_, _, rfl, rfl, (res_of h).here r (.bl _)⟩
  · exact (show False from h).elim
/-! ### is None -/
def isNonD : D → Bool
  | .non => true
  | _ => false
theorem isNon_r {K : PySem.W.Frag} {mg : Str → Option Value} {g : G} {v : V} {d : D} (r : Rv K mg g v d) : decide (v = .non) = isNonD d := by
  cases r <;> simp [isNonD]
def isM (x y : D) : M D := match y with
  | .non => pure (.bl (isNonD x))
  | _ => M.bad
def isntM (x y : D) : M D := match y with
  | .non => pure (.bl (!isNonD x))
  | _ => M.bad
theorem oIs : OpR X (compareOp .Is) (r2 X.K X.mg isM) := by
  refine opR_imp op_isN fun x y H Q ⟨g, st, a, b, r, ra, rb, h⟩ => ?_
  unfold isM at h
  split at h
  · cases rb
    refine ⟨rfl, ?_⟩
    rw [isNon_r ra]
    exact (res_of h).here r (.bl _)
  · exact (show False from h).elim
theorem oIsnt : OpR X (compareOp .IsNot) (r2 X.K X.mg isntM) := by
  refine opR_imp op_notN fun x y H Q ⟨g, st, a, b, r, ra, rb, h⟩ => ?_
  unfold isntM at h
  split at h
  · cases rb
    refine ⟨rfl, ?_⟩
    rw [isNon_r ra]
    exact (res_of h).here r (.bl _)
  · exact (show False from h).elim
/-! ### as PyData -/
mutual
def toP : D → Option PyData
  | .non => some .none
  | .bl b => some (.bool b)
  | .int i => some (.int i)
  | .str s => some (.str s)
  | .tup xs => match toPs xs with
    | some ps => some (.tuple ps)
    | none => none
  | .lst xs => match toPs xs with
    | some ps => some (.list ps)
    | none => none
  | .frl xs => match toPs xs with
    | some ps => some (.list ps)
    | none => none
  | _ => none
def toPs : List D → Option (List PyData)
  | [] => some []
  | x :: xs => match toP x, toPs xs with
    | some p, some ps => some (p :: ps)
    | _, _ => none
end
mutual
theorem toP_dp {K : PySem.W.Frag} {mg : Str → Option Value} {g : G} {st : Sto} {H : Hp} (r : Rep K mg g st H) : ∀ {v : V} {d : D} {p : PyData}, Rv K mg g v d → toP d = some p → Dp K H v p
  | _, _, _, .non, e => by simp [toP] at e; subst e; exact .non
  | _, _, _, .bl b, e => by simp [toP] at e; subst e; exact .bl b
  | _, _, _, .int i, e => by simp [toP] at e; subst e; exact .int i
  | _, _, _, .str s, e => by simp [toP] at e; subst e; exact .str s
  | _, _, _, .tup (ds := ds) h rs, e => by
    unfold toP at e
    split at e
    · rename_i ps e1
      cases e
      exact .tup (r.sqT h) (toPs_dp r rs e1)
    · cases e
  | _, _, _, .lst (ds := ds) h rs, e => by
    unfold toP at e
    split at e
    · rename_i ps e1
      cases e
      exact .lst (.inl (.inl (r.sub _ _ h))) (toPs_dp r rs e1)
    · cases e
  | _, _, _, .frl (ds := ds) h rs, e => by
    unfold toP at e
    split at e
    · rename_i ps e1
      cases e
      exact .lst (r.sqL h) (toPs_dp r rs e1)
    · cases e
  | _, _, _, .dct h rs, e => by simp [toP] at e
  | _, _, _, .ref h, e => by simp [toP] at e
  | _, _, _, .fn h, e => by simp [toP] at e
  | _, _, _, .ty n, e => by simp [toP] at e
theorem toPs_dp {K : PySem.W.Frag} {mg : Str → Option Value} {g : G} {st : Sto} {H : Hp} (r : Rep K mg g st H) : ∀ {vs : List V} {ds : List D} {ps : List PyData}, Rvs K mg g vs ds → toPs ds = some ps → DpAll K H vs ps
  | _, _, _, .nil, e => by simp [toPs] at e; subst e; exact .nil
  | _, _, _, .cons h t, e => by
    unfold toPs at e
    split at e
    · rename_i p ps e1 e2
      cases e
      exact .cons (toP_dp r h e1) (toPs_dp r t e2)
    · cases e
end
/-! ### == -/
def shp (d : D) : Option PyData := match toP d with
  | some p => if SeqAt.shaped p = true then some p else none
  | none => none
theorem shp_some {d : D} {p : PyData} (h : shp d = some p) : toP d = some p ∧ SeqAt.shaped p = true := by
  unfold shp at h
  split at h
  · rename_i q e
    split at h
    · rename_i c
      cases h
      exact ⟨e, c⟩
    · cases h
  · cases h
def eqP (x y : D) : M D := match shp x, shp y with
  | some p, some q => pure (.bl (PyData.eqv p q))
  | _, _ => M.bad
def neP (x y : D) : M D := match shp x, shp y with
  | some p, some q => pure (.bl (!PyData.eqv p q))
  | _, _ => M.bad
def eqM : D → D → M D
  | .str a, .str b => pure (.bl (decide (a = b)))
  | x, y => eqP x y
def neM : D → D → M D
  | .str a, .str b => pure (.bl (!decide (a = b)))
  | x, y => neP x y
theorem dec_strV {a b : Str} : decide (V.str a = V.str b) = decide (a = b) := by
  by_cases h : a = b
  · rw [decide_eq_true h, h]; simp
  · rw [decide_eq_false h, decide_eq_false fun z => h (by cases z; rfl)]
theorem oEq (hu : X.A.units + 64 < cLine) : OpR X (compareOp .Eq) (r2 X.K X.mg eqM) := by
  refine opR_imp (op_eq.or (op_eqD hu)) fun x y H Q ⟨g, st, a, b, r, ra, rb, h⟩ => ?_
  unfold eqM at h
  split at h
  · cases ra; cases rb
    refine .inl ⟨rfl, ?_⟩
    rw [dec_strV]
    exact (res_of h).here r (.bl _)
  · unfold eqP at h
    split at h
    · rename_i p q e1 e2
      obtain ⟨h1, h2⟩ := shp_some e1
      obtain ⟨h3, h4⟩ := shp_some e2
      exact .inr ⟨p, q, toP_dp r ra h1, toP_dp r rb h3, h2, h4, (res_of h).here r (.bl _)⟩
    · exact (show False from h).elim
theorem oNe (hu : X.A.units + 64 < cLine) : OpR X (compareOp .NotEq) (r2 X.K X.mg neM) := by
  refine opR_imp (op_ne.or (op_neD hu)) fun x y H Q ⟨g, st, a, b, r, ra, rb, h⟩ => ?_
  unfold neM at h
  split at h
  · cases ra; cases rb
    refine .inl ⟨rfl, ?_⟩
    rw [dec_strV]
    exact (res_of h).here r (.bl _)
  · unfold neP at h
    split at h
    · rename_i p q e1 e2
      obtain ⟨h1, h2⟩ := shp_some e1
      obtain ⟨h3, h4⟩ := shp_some e2
      exact .inr ⟨p, q, toP_dp r ra h1, toP_dp r rb h3, h2, h4, (res_of h).here r (.bl _)⟩
    · exact (show False from h).elim
/-! ### indices -/
theorem rvs_at {K : PySem.W.Frag} {mg : Str → Option Value} {g : G} {vs : List V} {ds : List D} {i : Int} {d : D} (r : Rvs K mg g vs ds) (e : atI ds i = some d) : ∃ v, atI vs i = some v ∧ Rv K mg g v d := by
  unfold atI at e ⊢
  rw [r.length]
  cases h : ixN ds.length i with
  | none => rw [h] at e; cases e
  | some j =>
    rw [h] at e
    obtain ⟨v, h1, h2⟩ := r.get (show ds[j]? = some d from e)
    exact ⟨v, h1, h2⟩
def ixM (x y : D) : M D := match y with
  | .int i => match x with
    | .tup xs => match atI xs i with
      | some d => pure d
      | none => M.bad
    | .lst xs => match atI xs i with
      | some d => pure d
      | none => M.bad
    | .frl xs => match atI xs i with
      | some d => pure d
      | none => M.bad
    | .str z => if z.length ≤ sizeLine then match atI z.cps.toList i with
      | some c => pure (.str ⟨#[c]⟩)
      | none => M.bad
      else M.bad
    | _ => M.bad
  | _ => M.bad
variable {b : Expr} {fb : EnvD → M D}
theorem ix_r {K : PySem.W.Frag} {mg : Str → Option Value} {x y : V} {H : Hp} {Q : VK} (h : r2 K mg ixM x y H Q) : rIx K x y H Q := by
  obtain ⟨g, st, a, b, r, ra, rb, h⟩ := h
  unfold ixM at h
  split at h
  · cases rb
    split at h
    · cases ra with
      | tup hq rs =>
        split at h
        · rename_i d e
          obtain ⟨v, h1, h2⟩ := rvs_at rs e
          exact .inr (.inl ⟨_, _, _, v, rfl, rfl, r.sqT hq, h1, (res_of h).here r h2⟩)
        · exact (show False from h).elim
    · cases ra with
      | lst hq rs =>
        split at h
        · rename_i d e
          obtain ⟨v, h1, h2⟩ := rvs_at rs e
          exact .inl ⟨_, _, _, v, rfl, rfl, .inl (.inl (r.sub _ _ hq)), h1, (res_of h).here r h2⟩
        · exact (show False from h).elim
    · cases ra with
      | frl hq rs =>
        split at h
        · rename_i d e
          obtain ⟨v, h1, h2⟩ := rvs_at rs e
          exact .inl ⟨_, _, _, v, rfl, rfl, r.sqL hq, h1, (res_of h).here r h2⟩
        · exact (show False from h).elim
    · cases ra
      obtain ⟨c, h⟩ := h.ite
      split at h
      · rename_i d e
        exact .inr (.inr ⟨_, _, _, rfl, rfl, c, e, (res_of h).here r (.str _)⟩)
      · exact (show False from h).elim
    · exact (show False from h).elim
  · exact (show False from h).elim
theorem dE_ix (ha : PE X a (cE X.K X.mg fa)) (hb : PE X b (cE X.K X.mg fb)) (hs : PlainIx b := by intro _ _; rfl) : PE X (.Subscript a b pos) (cE X.K X.mg (binE ixM fa fb)) :=
  pe_imp (pe_ix ix_seq ha hb hs) fun σ H Q h => by
    obtain ⟨g, env, st, r, er, h⟩ := h
    refine ⟨g, env, st, r, er, h.bind.mono fun x g1 st1 H1 s1 q v rv => ?_⟩
    refine ⟨g1, env, st1, s1.rep, er.step s1, (At.bind q).mono fun y g2 st2 H2 s2 q2 u ru => ?_⟩
    exact ix_r ⟨g2, st2, x, y, s2.rep, Rv.le s2.le rv, ru, q2⟩
/-! ### slices -/
def cutD (xs : List D) (lo hi : Option Int) : List D := (xs.drop (HT.sIx xs.length 0 lo)).take (HT.sIx xs.length xs.length hi - HT.sIx xs.length 0 lo)
theorem rvs_cut {K : PySem.W.Frag} {mg : Str → Option Value} {g : G} {vs : List V} {ds : List D} (lo hi : Option Int) (r : Rvs K mg g vs ds) : Rvs K mg g (cutV vs lo hi) (cutD ds lo hi) := by
  unfold cutV cutD
  rw [r.length]
  exact (r.drop _).take _
theorem cutD_whole {xs : List D} {lo hi : Option Int} (h : HT.sIx xs.length 0 lo = 0 ∧ HT.sIx xs.length xs.length hi = xs.length) : cutD xs lo hi = xs := by
  unfold cutD
  rw [h.1, h.2, List.drop_zero, Nat.sub_zero, List.take_length]
def slM (x : D) (lo hi : Option Int) : M D := match x with
  | .tup xs => pure (.tup (cutD xs lo hi))
  | .lst xs => pure (.lst (cutD xs lo hi))
  | .frl xs => pure (.lst (cutD xs lo hi))
  | .str z => if z.length ≤ sizeLine then pure (.str (cutS z lo hi)) else M.bad
  | _ => M.bad
def partE (f : EnvD → M D) : EnvD → M (Option Int) := fun env => f env >>= fun d => match d with
  | .int i => pure (some i)
  | _ => M.bad
def noE : EnvD → M (Option Int) := fun _ => pure none
def cO (K : PySem.W.Frag) (mg : Str → Option Value) (f : EnvD → M (Option Int)) : TO := fun σ H Q => ∃ g env st, Rep K mg g st H ∧ EnvR K mg g H σ env ∧ At K mg g st H (f env) fun o _ _ H' => Q o H'
theorem po_imp {X : Cx} {e : Option Expr} {t t' : TO} (h : PO X e t') (i : ∀ σ H Q, t σ H Q → t' σ H Q) : PO X e t := ⟨fun pins s σ H Q I q => h.run pins s σ H Q I (i _ _ _ q)⟩
theorem dO_none : PO X none (cO X.K X.mg noE) := po_imp po_none fun σ H Q ⟨g, env, st, r, er, h⟩ => At.pure r h
theorem dO_some (ha : PE X a (cE X.K X.mg fa)) : PO X (some a) (cO X.K X.mg (partE fa)) := po_imp (po_some ha) fun σ H Q ⟨g, env, st, r, er, h⟩ => by
  refine ⟨g, env, st, r, er, h.bind.mono fun x g1 st1 H1 s1 q v rv => ?_⟩
  split at q
  · cases rv
    exact ⟨_, rfl, At.pure s1.rep q⟩
  · exact (show False from q).elim
def slE (fa : EnvD → M D) (fl fu : EnvD → M (Option Int)) : EnvD → M D := fun env => fa env >>= fun x => fl env >>= fun l => fu env >>= fun u => slM x l u
variable {lo hi : Option Expr} {p2 : Pos} {fl fu : EnvD → M (Option Int)}
theorem dE_sl (ha : PE X a (cE X.K X.mg fa)) (hl : PO X lo (cO X.K X.mg fl)) (hu : PO X hi (cO X.K X.mg fu)) : PE X (.Subscript a (.Slice lo hi none p2) pos) (cE X.K X.mg (slE fa fl fu)) := by
  refine pe_imp (pe_slice (sl_tupA.or (sl_list.or sl_str)) ha hl hu) fun σ H Q ⟨g, env, st, r, er, h⟩ => ?_
  refine ⟨g, env, st, r, er, h.bind.mono fun x g1 st1 H1 s1 q v rv => ?_⟩
  refine ⟨g1, env, st1, s1.rep, er.step s1, (At.bind q).mono fun l g2 st2 H2 s2 q2 => ?_⟩
  refine ⟨g2, env, st2, s2.rep, (er.step s1).step s2, (At.bind q2).mono fun u g3 st3 H3 s3 q3 => ?_⟩
  have rv := (rv.le s2.le).le s3.le
  have r := s3.rep
  unfold slM at q3
  split at q3
  · cases rv with
    | tup hq rs =>
      have hl := rs.length
      refine .inl ⟨_, _, rfl, r.sqT hq, fun e => ?_, fun _ p n => (res_of q3).tup r (rvs_cut l u rs) p n⟩
      rw [hl] at e
      rw [cutD_whole e] at q3
      exact (res_of q3).here r (.tup hq rs)
  · cases rv with
    | lst hq rs => exact .inr (.inl ⟨_, _, rfl, .inl (.inl (r.sub _ _ hq)), fun p n => (res_of q3).lst r (rvs_cut l u rs) p n⟩)
  · cases rv with
    | frl hq rs => exact .inr (.inl ⟨_, _, rfl, r.sqL hq, fun p n => (res_of q3).lst r (rvs_cut l u rs) p n⟩)
  · cases rv
    obtain ⟨c, q3⟩ := q3.ite
    exact .inr (.inr ⟨_, rfl, c, (res_of q3).here r (.str _)⟩)
  · exact (show False from q3).elim
end
end Dd

set_option Elab.async false
set_option linter.all false
set_option maxRecDepth 100000
/-! Dd, part H: operations on data, II: builtins. -/
namespace Dd
open PySem PySem.Spec PyProof.Rows L2
section
variable {X : Cx} {x : Str} {p pos apos cpos : Pos} {e a : Expr} {es : List Expr} {fa : EnvD → M (List D)} {fe : EnvD → M D} {fid T : String}
def biE (fo : List D → M D) (fa : EnvD → M (List D)) : EnvD → M D := fun env => fa env >>= fo
theorem bi_t {K : PySem.W.Frag} {mg : Str → Option Value} {fo : List D → M D} {σ : L2.St} {H : Hp} {Q : VK} (h : cE K mg (biE fo fa) σ H Q) : tCB (rA K mg fo) (cA K mg fa) σ H Q := by
  obtain ⟨g, env, st, r, er, h⟩ := h
  exact ⟨g, env, st, r, er, h.bind.mono fun ds g1 st1 H1 s1 q vs rs => ⟨g1, st1, ds, s1.rep, rs, q⟩⟩
/-- f(e, ..), f a builtin function; T(e, ..) -/
theorem dE_bi {fo : List D → M D} (hc : CallR X (.builtin fid) (rA X.K X.mg fo)) (hv : bootBuiltins x = some (.builtin fid)) (hm : X.mg x = none) (ha : PA X (e :: es) (cA X.K X.mg fa)) (hg : Gl X x := by rfl) (hn : x ≠ "__name__" := by decide) (hdb : (x == ("__debug__" : Str)) = false := by decide)
    (he : starEach (e :: es) X.env = (false, eval e X.env) :: starEach es X.env := by rfl) (hpl : (backTo pos (starEach es X.env)).any (·.1) = false := by rfl) : PE X (.Call (.Name x p) (e :: es) [] pos) (cE X.K X.mg (biE fo fa)) :=
  pe_imp (pe_callB hc hg hm hv ha hn hdb he hpl) fun _ _ _ h => bi_t h
theorem dE_ty {fo : List D → M D} (hc : CallR X (.type T) (rA X.K X.mg fo)) (hv : bootBuiltins x = some (.type T)) (hm : X.mg x = none) (ha : PA X (e :: es) (cA X.K X.mg fa)) (hg : Gl X x := by rfl) (hn : x ≠ "__name__" := by decide) (hdb : (x == ("__debug__" : Str)) = false := by decide)
    (he : starEach (e :: es) X.env = (false, eval e X.env) :: starEach es X.env := by rfl) (hpl : (backTo pos (starEach es X.env)).any (·.1) = false := by rfl) : PE X (.Call (.Name x p) (e :: es) [] pos) (cE X.K X.mg (biE fo fa)) :=
  pe_imp (pe_callTy hc hg hm hv ha hn hdb he hpl) fun _ _ _ h => bi_t h
/-- the name of a builtin type, as a value -/
theorem dE_tyc {T : String} (hv : bootBuiltins x = some (.type T)) (hm : X.mg x = none) (hg : Gl X x := by rfl) (hn : x ≠ "__name__" := by decide) (hdb : (x == ("__debug__" : Str)) = false := by decide) : PE X (.Name x pos) (cE X.K X.mg (cstE (.ty T))) :=
  cst_of (fun _ => .ty T) (pe_bltn hg hm hv (show RelV (.ty T) (.type T) from rfl) hn hdb)
/-! ### len -/
def lenM : List D → M D
  | [.tup xs] => pure (.int xs.length)
  | [.lst xs] => pure (.int xs.length)
  | [.frl xs] => pure (.int xs.length)
  | [.dct ks xs] => pure (.int ks.length)
  | [.str z] => if z.length ≤ sizeLine then pure (.int z.length) else M.bad
  | _ => M.bad
theorem call_lenR : CallR X (.builtin "len") (fun xs H Q => ∃ a kvs, xs = [V.ref a] ∧ Rd H a (.dK kvs) ∧ Q (.int kvs.length) H) := by
  intro pins s σ H xs us Q I r q
  obtain ⟨a, kvs, ex, hd, q⟩ := q
  subst ex
  obtain ⟨u, eu, rx⟩ := vals1 r
  subst eu
  cases rx
  exact d_len I hd fun t s' I' => ⟨.int kvs.length, H, I', ⟨t, rfl⟩, q⟩
theorem cLen : CallR X (.builtin "len") (rA X.K X.mg lenM) := by
  refine callR_imp (call_len_seq.or (call_len_str.or call_lenR)) fun xs H Q ⟨g, st, ds, r, rs, h⟩ => ?_
  unfold lenM at h
  split at h
  · cases rs with
    | cons r1 rr =>
      cases rr
      cases r1 with
      | tup hq rs => exact .inl ⟨_, _, rfl, .inr (r.sqT hq), by rw [rs.length]; exact (res_of h).here r (.int _)⟩
  · cases rs with
    | cons r1 rr =>
      cases rr
      cases r1 with
      | lst hq rs => exact .inl ⟨_, _, rfl, .inl (.inl (.inl (r.sub _ _ hq))), by rw [rs.length]; exact (res_of h).here r (.int _)⟩
  · cases rs with
    | cons r1 rr =>
      cases rr
      cases r1 with
      | frl hq rs => exact .inl ⟨_, _, rfl, .inl (r.sqL hq), by rw [rs.length]; exact (res_of h).here r (.int _)⟩
  · cases rs with
    | cons r1 rr =>
      cases rr
      cases r1 with
      | dct hq rs => exact .inr (.inr ⟨_, _, rfl, .inr ⟨_, r.sub _ _ hq⟩, by rw [List.length_map] at h; exact (res_of h).here r (.int _)⟩)
  · cases rs with
    | cons r1 rr =>
      cases rr
      cases r1
      obtain ⟨c, h⟩ := h.ite
      exact .inr (.inl ⟨_, rfl, c, (res_of h).here r (.int _)⟩)
  · exact (show False from h).elim
/-! ### isinstance -/
def tyD : D → Option String
  | .non => some "NoneType"
  | .bl _ => some "bool"
  | .int _ => some "int"
  | .str _ => some "str"
  | .tup _ => some "tuple"
  | .lst _ => some "list"
  | .frl _ => some "list"
  | .dct _ _ => some "dict"
  | _ => none
theorem tyD_x {K : PySem.W.Frag} {mg : Str → Option Value} {g : G} {st : Sto} {H : Hp} {v : V} {d : D} {t : String} (r : Rep K mg g st H) (rv : Rv K mg g v d) (e : tyD d = some t) : TyX K H v (.type t) := by
  cases rv with
  | non => cases e; exact .base .non
  | bl b => cases e; exact .base (.bl b)
  | int i => cases e; exact .base (.int i)
  | str s => cases e; exact .base (.str s)
  | tup h rs =>
    cases e
    rcases r.sqT h with (q | ⟨o, q⟩) | ⟨o, its, n, h1, h2, _⟩
    · exact .base (.tup q)
    · exact .fTuple q
    · exact .kTuple h1 h2
  | lst h rs => cases e; exact .base (.lst (r.sub _ _ h))
  | frl h rs =>
    cases e
    rcases r.sqL h with (q | ⟨o, q⟩) | ⟨o, its, n, h1, h2, _⟩
    · exact .base (.lst q)
    · exact .base (.frz q)
    · exact .kList h1 h2
  | dct h rs => cases e; exact .fDict (r.sub _ _ h)
  | _ => cases e
def isiB (t T : String) : Option Bool := if t = T then some true else if t = "bool" ∧ T = "int" then some true else if t ∈ ["NoneType", "bool", "int", "str", "tuple", "list", "dict"] ∧ T ∈ ["bool", "int", "str", "tuple", "list", "dict"] then some false else none
theorem isiB_ok {K : PySem.W.Frag} {t T : String} {b : Bool} (h : isiB t T = some b) : PySem.W.kitOne K (.type t) (.type T) = some b := by
  refine kit_ty ?_
  unfold isiB at h
  split at h
  · rename_i e
    subst e
    cases h
    unfold kitB
    rw [if_pos (by simp)]
  · split at h
    · rename_i e
      obtain ⟨rfl, rfl⟩ := e
      cases h
      decide +kernel
    · split at h
      · rename_i n1 n2 e
        cases h
        obtain ⟨e1, e2⟩ := e
        simp only [List.mem_cons, List.not_mem_nil, or_false] at e1 e2
        rcases e1 with rfl | rfl | rfl | rfl | rfl | rfl | rfl <;> rcases e2 with rfl | rfl | rfl | rfl | rfl | rfl <;> first | exact absurd rfl n1 | exact absurd ⟨rfl, rfl⟩ n2 | decide +kernel
      · cases h
def isiM : List D → M D
  | [x, .ty T] => match tyD x with
    | some t => match isiB t T with
      | some b => pure (.bl b)
      | none => M.bad
    | none => M.bad
  | _ => M.bad
theorem cIsi : CallR X (.builtin "isinstance") (rA X.K X.mg isiM) := by
  refine callR_imp call_isi fun xs H Q ⟨g, st, ds, r, rs, h⟩ => ?_
  unfold isiM at h
  split at h
  · split at h
    · rename_i t e1
      split at h
      · rename_i b e2
        cases rs with
        | cons r1 rr =>
          cases rr with
          | cons r2 rr =>
            cases rr
            cases r2
            exact ⟨_, _, _, _, b, rfl, .ty _, tyD_x r r1 e1, isiB_ok e2, (res_of h).here r (.bl _)⟩
      · exact (show False from h).elim
    · exact (show False from h).elim
  · exact (show False from h).elim
/-! ### list(x), tuple(x) -/
def listM : List D → M D
  | [.tup xs] => pure (.lst xs)
  | [.lst xs] => pure (.lst xs)
  | [.frl xs] => pure (.lst xs)
  | [.dct ks xs] => pure (.lst (ks.map fun k => match k with
    | .inl i => .int i
    | .inr z => .str z))
  | [.str z] => if z.length ≤ sizeLine then pure (.lst (z.cps.toList.map fun c => .str ⟨#[c]⟩)) else M.bad
  | _ => M.bad
theorem call_listS (hc : X.calm = true) : CallR X (.type "list") (fun xs H Q => ∃ z, xs = [V.str z] ∧ z.length ≤ sizeLine ∧ ∀ p, H p = none → Q (.ref p) (upd H p (.lst (chars z)))) := by
  intro pins s σ H xs us Q I r q
  obtain ⟨z, ex, hz, q⟩ := q
  subst ex
  obtain ⟨u, eu, rx⟩ := vals1 r
  subst eu
  obtain ⟨t, rfl⟩ := rx
  refine call_list_str (I.ok.hd hc) z t (fun h' tk acc c' hk hD hacc => ?_) hz
  have hl : acc.toList.length = z.cps.size := by rw [Array.length_toList]; exact hacc.1
  have hv : Vals (chars z) acc.toList := vals_of_at (by rw [hl]; simp [chars]) fun j y w h1 h2 => by
    obtain ⟨c, k, h3, h4⟩ := hacc.2 j w (by rw [← Array.getElem?_toList]; exact h2)
    subst h4
    have : y = .str ⟨#[c]⟩ := by simp [chars, h3] at h1; exact h1.symm
    subst this
    exact ⟨k, rfl⟩
  refine ⟨.ref s.heap.objs.size, upd H s.heap.objs.size (.lst (chars z)), I.laid (t' := tk) hk (Nat.le_refl _)
    (show ObjOk X.prog X.w _ _ _ (.lst (chars z)) from ⟨by rw [hv.length, hl]; exact hz, acc.toList, c', hv, by rw [Array.toArray_toList]; exact hD⟩), rfl, q _ (I.hok.fresh (Nat.le_refl _))⟩
theorem keys_r {K : PySem.W.Frag} {mg : Str → Option Value} {g : G} : ∀ ks : List Key, Rvs K mg g (ks.map kV) (ks.map fun k => match k with
    | .inl i => D.int i
    | .inr z => D.str z)
  | [] => .nil
  | .inl i :: ks => .cons (.int i) (keys_r ks)
  | .inr z :: ks => .cons (.str z) (keys_r ks)
theorem cList (hc : X.calm = true) : CallR X (.type "list") (rA X.K X.mg listM) := by
  refine callR_imp (call_list_of.or ((call_listS hc).or (call_listD hc))) fun xs H Q ⟨g, st, ds, r, rs, h⟩ => ?_
  unfold listM at h
  split at h
  · cases rs with
    | cons r1 rr =>
      cases rr
      cases r1 with
      | tup hq rs => exact .inl ⟨_, _, rfl, .inr (r.sqT hq), fun p n => (res_of h).lst r rs p n⟩
  · cases rs with
    | cons r1 rr =>
      cases rr
      cases r1 with
      | lst hq rs => exact .inl ⟨_, _, rfl, .inl (.inl (.inl (r.sub _ _ hq))), fun p n => (res_of h).lst r rs p n⟩
  · cases rs with
    | cons r1 rr =>
      cases rr
      cases r1 with
      | frl hq rs => exact .inl ⟨_, _, rfl, .inl (r.sqL hq), fun p n => (res_of h).lst r rs p n⟩
  · cases rs with
    | cons r1 rr =>
      cases rr
      cases r1 with
      | dct hq rs =>
        refine .inr (.inr ⟨_, _, rfl, .inr ⟨_, r.sub _ _ hq⟩, fun p n => (res_of h).lst r ?_ p n⟩)
        have := keys_r (K := X.K) (mg := X.mg) (g := g) (List.map (·.1) ‹List (Key × V)›)
        rw [List.map_map] at this
        exact this
  · cases rs with
    | cons r1 rr =>
      cases rr
      cases r1
      obtain ⟨c, h⟩ := h.ite
      exact .inr (.inl ⟨_, rfl, c, fun p n => (res_of h).lst r (chars_r _) p n⟩)
  · exact (show False from h).elim
def tupleM : List D → M D
  | [.tup xs] => pure (.tup xs)
  | [.lst xs] => pure (.tup xs)
  | [.frl xs] => pure (.tup xs)
  | _ => M.bad
theorem cTuple : CallR X (.type "tuple") (rA X.K X.mg tupleM) := by
  refine callR_imp call_tuple_of fun xs H Q ⟨g, st, ds, r, rs, h⟩ => ?_
  unfold tupleM at h
  split at h
  · cases rs with
    | cons r1 rr =>
      cases rr
      cases r1 with
      | tup hq rs => exact ⟨_, _, rfl, .inr ⟨r.sqT hq, (res_of h).here r (.tup hq rs)⟩⟩
  · cases rs with
    | cons r1 rr =>
      cases rr
      cases r1 with
      | lst hq rs => exact ⟨_, _, rfl, .inl ⟨.inl (.inl (r.sub _ _ hq)), fun p n => (res_of h).tup r rs p n⟩⟩
  · cases rs with
    | cons r1 rr =>
      cases rr
      cases r1 with
      | frl hq rs => exact ⟨_, _, rfl, .inl ⟨r.sqL hq, fun p n => (res_of h).tup r rs p n⟩⟩
  · exact (show False from h).elim
/-! ### all, any, sorted -/
def blsD : List D → Option (List Bool)
  | [] => some []
  | .bl b :: xs => match blsD xs with
    | some bs => some (b :: bs)
    | none => none
  | _ => none
def intsD : List D → Option (List Int)
  | [] => some []
  | .int b :: xs => match intsD xs with
    | some bs => some (b :: bs)
    | none => none
  | _ => none
theorem bls_r {K : PySem.W.Frag} {mg : Str → Option Value} {g : G} : ∀ {vs : List V} {ds : List D} {bs : List Bool}, Rvs K mg g vs ds → blsD ds = some bs → vs = bs.map V.bl
  | _, _, _, .nil, e => by cases e; rfl
  | _, _, _, .cons (d := d) h t, e => by
    cases h with
    | bl b =>
      unfold blsD at e
      split at e
      · rename_i bs e1
        cases e
        rw [bls_r t e1]; rfl
      · cases e
    | _ => cases e
theorem ints_r {K : PySem.W.Frag} {mg : Str → Option Value} {g : G} : ∀ {vs : List V} {ds : List D} {bs : List Int}, Rvs K mg g vs ds → intsD ds = some bs → vs = bs.map V.int
  | _, _, _, .nil, e => by cases e; rfl
  | _, _, _, .cons (d := d) h t, e => by
    cases h with
    | int b =>
      unfold intsD at e
      split at e
      · rename_i bs e1
        cases e
        rw [ints_r t e1]; rfl
      · cases e
    | _ => cases e
theorem ints_rvs {K : PySem.W.Frag} {mg : Str → Option Value} {g : G} : ∀ ns : List Int, Rvs K mg g (ns.map V.int) (ns.map D.int)
  | [] => .nil
  | n :: ns => .cons (.int n) (ints_rvs ns)
def allM : List D → M D
  | [.lst xs] => match blsD xs with
    | some bs => pure (.bl (bs.all id))
    | none => M.bad
  | _ => M.bad
def anyM : List D → M D
  | [.lst xs] => match blsD xs with
    | some bs => pure (.bl (bs.any id))
    | none => M.bad
  | _ => M.bad
theorem cAll (hc : X.calm = true) : CallR X (.builtin "all") (rA X.K X.mg allM) := by
  refine callR_imp (cr_all hc) fun xs H Q ⟨g, st, ds, r, rs, h⟩ => ?_
  unfold allM at h
  split at h
  · split at h
    · rename_i bs e
      cases rs with
      | cons r1 rr =>
        cases rr
        cases r1 with
        | lst hq rs =>
          rw [bls_r rs e] at hq
          exact ⟨_, bs, rfl, .inl (.inl (r.sub _ _ hq)), (res_of h).here r (.bl _)⟩
    · exact (show False from h).elim
  · exact (show False from h).elim
theorem cAny (hc : X.calm = true) : CallR X (.builtin "any") (rA X.K X.mg anyM) := by
  refine callR_imp (cr_any hc) fun xs H Q ⟨g, st, ds, r, rs, h⟩ => ?_
  unfold anyM at h
  split at h
  · split at h
    · rename_i bs e
      cases rs with
      | cons r1 rr =>
        cases rr
        cases r1 with
        | lst hq rs =>
          rw [bls_r rs e] at hq
          exact ⟨_, bs, rfl, .inl (.inl (r.sub _ _ hq)), (res_of h).here r (.bl _)⟩
    · exact (show False from h).elim
  · exact (show False from h).elim
def sortI (ns : List Int) : List Int := ns.mergeSort (fun a b => decide (a ≤ b))
def sortedM : List D → M D
  | [.lst xs] => match intsD xs with
    | some ns => pure (.lst ((sortI ns).map D.int))
    | none => M.bad
  | _ => M.bad
theorem sortI_uniq {ns ns' : List Int} (p : ns'.Perm ns) (s : ns'.Pairwise (· ≤ ·)) : ns' = sortI ns := by
  refine List.Perm.eq_of_pairwise (le := (· ≤ ·)) (fun a b _ _ h1 h2 => Int.le_antisymm h1 h2) s ?_ (p.trans (List.mergeSort_perm ns _).symm)
  have := List.pairwise_mergeSort (le := fun a b : Int => decide (a ≤ b)) (fun a b c h1 h2 => by simp at *; omega) (fun a b => by simp; omega) ns
  exact this.imp fun h => by simpa using h
theorem cSorted : CallR X (.builtin "sorted") (rA X.K X.mg sortedM) := by
  refine callR_imp cr_sortedI fun xs H Q ⟨g, st, ds, r, rs, h⟩ => ?_
  unfold sortedM at h
  split at h
  · split at h
    · rename_i ns e
      cases rs with
      | cons r1 rr =>
        cases rr
        cases r1 with
        | lst hq rs =>
          rw [ints_r rs e] at hq
          refine ⟨_, ns, rfl, .inl (.inl (r.sub _ _ hq)), fun ns' p p1 p2 n => ?_⟩
          rw [sortI_uniq p1 p2]
          exact (res_of h).lst r (ints_rvs _) p n
    · exact (show False from h).elim
  · exact (show False from h).elim
/-! ### numbers -/
def minM : List D → M D
  | [.int i, .int j] => pure (.int (if j < i then j else i))
  | _ => M.bad
def maxM : List D → M D
  | [.int i, .int j] => pure (.int (if j > i then j else i))
  | _ => M.bad
def absM : List D → M D
  | [.int i] => pure (.int (if i < 0 then -i else i))
  | _ => M.bad
def intM : List D → M D
  | [.int i] => pure (.int i)
  | _ => M.bad
def divmodM : List D → M D
  | [.int i, .int j] => if CDiv i j then pure (.tup [.int (i / j), .int (i % j)]) else M.bad
  | _ => M.bad
theorem cMin (hc : X.calm = true) : CallR X (.builtin "min") (rA X.K X.mg minM) := by
  refine callR_imp (call_min2 hc) fun xs H Q ⟨g, st, ds, r, rs, h⟩ => ?_
  unfold minM at h
  split at h
  · cases rs with
    | cons r1 rr =>
      cases rr with
      | cons r2 rr =>
        cases rr; cases r1; cases r2
        exact ⟨_, _, rfl, (res_of h).here r (.int _)⟩
  · exact (show False from h).elim
theorem cMax (hc : X.calm = true) : CallR X (.builtin "max") (rA X.K X.mg maxM) := by
  refine callR_imp (call_max2 hc) fun xs H Q ⟨g, st, ds, r, rs, h⟩ => ?_
  unfold maxM at h
  split at h
  · cases rs with
    | cons r1 rr =>
      cases rr with
      | cons r2 rr =>
        cases rr; cases r1; cases r2
        exact ⟨_, _, rfl, (res_of h).here r (.int _)⟩
  · exact (show False from h).elim
theorem cAbs : CallR X (.builtin "abs") (rA X.K X.mg absM) := by
  refine callR_imp call_abs fun xs H Q ⟨g, st, ds, r, rs, h⟩ => ?_
  unfold absM at h
  split at h
  · cases rs with
    | cons r1 rr =>
      cases rr; cases r1
      exact ⟨_, rfl, (res_of h).here r (.int _)⟩
  · exact (show False from h).elim
theorem cInt : CallR X (.type "int") (rA X.K X.mg intM) := by
  refine callR_imp call_int1 fun xs H Q ⟨g, st, ds, r, rs, h⟩ => ?_
  unfold intM at h
  split at h
  · cases rs with
    | cons r1 rr =>
      cases rr; cases r1
      exact .inl ⟨_, rfl, (res_of h).here r (.int _)⟩
  · exact (show False from h).elim
theorem cDivmod : CallR X (.builtin "divmod") (rA X.K X.mg divmodM) := by
  refine callR_imp call_divmod fun xs H Q ⟨g, st, ds, r, rs, h⟩ => ?_
  unfold divmodM at h
  split at h
  · obtain ⟨c, h⟩ := h.ite
    cases rs with
    | cons r1 rr =>
      cases rr with
      | cons r2 rr =>
        cases rr; cases r1; cases r2
        exact ⟨_, _, rfl, c, fun p n => (res_of h).tup r (.cons (.int _) (.cons (.int _) .nil)) p n⟩
  · exact (show False from h).elim
/-! ### in -/
def inM (x y : D) : M D := match y with
  | .str z => match x with
    | .str c => if c.cps.size = 1 then pure (.bl (decide (c.cps.getD 0 0 ∈ z.cps.toList))) else M.bad
    | _ => M.bad
  | y => match shp x, shp y with
    | some p, some (.list qs) => pure (.bl (qs.any fun q => PyData.eqv q p))
    | some p, some (.tuple qs) => pure (.bl (qs.any fun q => PyData.eqv q p))
    | _, _ => M.bad
def rInT (K : PySem.W.Frag) : R2 := fun x y H Q => ∃ d ds, Dp K H x d ∧ Dp K H y (.tuple ds) ∧ SeqAt.shaped d = true ∧ SeqAt.shaped (.tuple ds) = true ∧ Q (.bl (ds.any fun z => PyData.eqv z d)) H
theorem op_inT (hu : X.A.units + 65 < cLine) : OpR X (compareOp .In) (rInT X.K) := by
  intro pins s σ H x y v u Q I rx ry h
  obtain ⟨d, ds, hd, he, sd, se, q⟩ := h
  obtain ⟨as, r1⟩ := Dp.reads I d x v hd rx
  obtain ⟨bs, r2⟩ := Dp.reads I (.tuple ds) y u he ry
  exact SeqAt.in_tuple_reads r2 r1 (SeqAt.canLay_of_shaped se) (SeqAt.canLay_of_shaped sd) (room_in_shaped sd hu) ⟨.bl _, H, I, rfl, q⟩
theorem one_sign {c : Str} (h : c.cps.size = 1) : c = ⟨#[c.cps.getD 0 0]⟩ := by
  obtain ⟨⟨l⟩⟩ := c
  match l, h with
  | [x], _ => rfl
theorem oIn (hu : X.A.units + 65 < cLine) : OpR X (compareOp .In) (r2 X.K X.mg inM) := by
  refine opR_imp (op_in_sign.or ((op_inD hu).or (op_inT hu))) fun x y H Q ⟨g, st, a, b, r, ra, rb, h⟩ => ?_
  unfold inM at h
  split at h
  · split at h
    · obtain ⟨c, h⟩ := h.ite
      cases ra; cases rb
      exact .inl ⟨_, _, congrArg V.str (one_sign c), rfl, (res_of h).here r (.bl _)⟩
    · exact (show False from h).elim
  · split at h
    · rename_i p qs e1 e2
      obtain ⟨h1, h2⟩ := shp_some e1
      obtain ⟨h3, h4⟩ := shp_some e2
      exact .inr (.inl ⟨p, qs, toP_dp r ra h1, toP_dp r rb h3, h2, h4, (res_of h).here r (.bl _)⟩)
    · rename_i p qs e1 e2
      obtain ⟨h1, h2⟩ := shp_some e1
      obtain ⟨h3, h4⟩ := shp_some e2
      exact .inr (.inr ⟨p, qs, toP_dp r ra h1, toP_dp r rb h3, h2, h4, (res_of h).here r (.bl _)⟩)
    · exact (show False from h).elim
end
end Dd

set_option Elab.async false
set_option linter.all false
set_option maxRecDepth 100000
/-! Dd, part J: repr, texts, reversed slices, ranges, sets, dicts, boxes. -/
namespace Dd
open PySem PySem.Spec PyProof.Rows L2
section
variable {X : Cx}
/-! ### repr -/
def showM : List D → M D
  | [.dct [] []] => pure (.str "{}")
  | [d] => match toP d with
    | some p => if p.showable = true ∧ p.hasDict = false ∧ p.depth ≤ 64 ∧ p.shown.length ≤ sizeLine then pure (.str p.shown) else M.bad
    | none => M.bad
  | _ => M.bad
theorem call_reprD (hgd : X.A.guards = some []) (hu : X.A.units + 66 < cLine) : CallR X (.builtin "repr") (fun xs H Q => ∃ v p, xs = [v] ∧ Dp X.K H v p ∧ p.showable = true ∧ p.hasDict = false ∧ p.depth ≤ 64 ∧ p.shown.length ≤ sizeLine ∧ Q (.str p.shown) H) := by
  intro pins s σ H xs us Q I r h
  obtain ⟨v, p, rfl, hd, h1, h2, h3, h4, q⟩ := h
  obtain ⟨u, rfl, rx⟩ := vals1 r
  cases hd with
  | non => cases rx; exact P.repr_of_none ⟨.str "None", H, I.tok _, ⟨_, rfl⟩, by simpa [PyData.shown] using q⟩
  | bl b => cases rx; exact P.repr_of_bool ⟨.str (if b then "True" else "False"), H, I.tok _, ⟨_, rfl⟩, by simpa [PyData.shown] using q⟩
  | int i =>
    obtain ⟨t, rfl⟩ := rx
    exact P.repr_of_int (by simpa [PyData.showable] using h1) ⟨.str (toString i), H, I.tok _, ⟨_, rfl⟩, by simpa [PyData.shown] using q⟩
  | str z =>
    obtain ⟨t, rfl⟩ := rx
    exact P.repr_of_str ⟨.str (reprText z), H, I.tok _, ⟨_, rfl⟩, by simpa [PyData.shown] using q⟩ (by simpa [PyData.shown] using h4)
  | lst hq ha =>
    cases rx
    obtain ⟨as, hr⟩ := Dp.reads I _ _ _ (.lst hq ha) rfl
    exact repr_of_reads' hr h1 (fun z => by rw [h2] at z; cases z) hgd (by omega) (fun b o e => e) (fun h' u tk hk => ⟨.str (PyData.shown _), H, I.kept hk, ⟨u, rfl⟩, q⟩) h4
  | tup hq ha =>
    cases rx
    obtain ⟨as, hr⟩ := Dp.reads I _ _ _ (.tup hq ha) rfl
    exact repr_of_reads' hr h1 (fun z => by rw [h2] at z; cases z) hgd (by omega) (fun b o e => e) (fun h' u tk hk => ⟨.str (PyData.shown _), H, I.kept hk, ⟨u, rfl⟩, q⟩) h4
theorem call_repr0 (hgd : X.A.guards = some []) (hu : X.A.units + 66 < cLine) : CallR X (.builtin "repr") (fun xs H Q => ∃ a o, xs = [V.ref a] ∧ H a = some (.frz o (.dK [])) ∧ Q (.str "{}") H) := by
  intro pins s σ H xs us Q I r h
  obtain ⟨a, o, rfl, hd, q⟩ := h
  obtain ⟨u, rfl, rx⟩ := vals1 r
  cases rx
  obtain ⟨e1, z, lo, vs, rel, o', es, ep, h1, h2, h3, h4, h5, h6⟩ := I.hok a _ hd
  cases rel
  have e0 : es.toList = [] := by
    generalize es.toList = l at h5
    cases h5; rfl
  have es0 : es = #[] := by rw [← Array.toList_inj]; exact e0
  subst es0
  have hr : Reads s.heap (.ref a) (.dict []) (a :: [] ++ []) := Reads.dict h1 h2.1 h3 (by simpa using ReadsAll.nil) (by simpa using ReadsAll.nil)
  have hs : (PyData.dict []).shown = "{}" := by decide
  have hdp : (PyData.dict []).depth ≤ 1 := by decide
  refine repr_of_reads' hr (by decide) (fun _ m => ?_) hgd (by omega) (fun b o e => e) (fun h' u tk hk => ⟨.str (PyData.dict []).shown, H, I.kept hk, ⟨u, rfl⟩, by rw [hs]; exact q⟩) (by rw [hs]; decide)
  have : sysModules = a := by simpa using m
  rw [← this] at lo
  simp at lo
theorem cRepr (hgd : X.A.guards = some []) (hu : X.A.units + 66 < cLine) : CallR X (.builtin "repr") (rA X.K X.mg showM) := by
  refine callR_imp ((call_reprD hgd hu).or (call_repr0 hgd hu)) fun xs H Q ⟨g, st, ds, r, rs, h⟩ => ?_
  unfold showM at h
  split at h
  · cases rs with
    | cons r1 rr =>
      cases rr
      generalize hd : D.dct [] [] = d at r1
      cases r1 with
      | @dct a o kvs es hq rs =>
        simp only [D.dct.injEq] at hd
        obtain ⟨e1, e2⟩ := hd
        have : kvs = [] := by simpa using e1.symm
        subst this
        exact .inr ⟨_, _, rfl, r.sub _ _ hq, (res_of h).here r (.str _)⟩
      | _ => cases hd
  · split at h
    · rename_i p e
      obtain ⟨⟨c1, c2, c3, c4⟩, h⟩ := h.ite
      cases rs with
      | cons r1 rr =>
        cases rr
        exact .inl ⟨_, p, rfl, toP_dp r r1 e, c1, c2, c3, c4, (res_of h).here r (.str _)⟩
    · exact (show False from h).elim
  · exact (show False from h).elim
/-! ### text methods -/
variable {x : Str} {p p2 p3 pos apos cpos tpos : Pos} {e e2 o : Expr} {es : List Expr} {fa : EnvD → M (List D)} {fe fo f2 : EnvD → M D}
def strsD : List D → Option (List Str)
  | [] => some []
  | .str b :: xs => match strsD xs with
    | some bs => some (b :: bs)
    | none => none
  | _ => none
theorem strs_r {K : PySem.W.Frag} {mg : Str → Option Value} {g : G} : ∀ {vs : List V} {ds : List D} {bs : List Str}, Rvs K mg g vs ds → strsD ds = some bs → vs = bs.map V.str
  | _, _, _, .nil, e => by cases e; rfl
  | _, _, _, .cons (d := d) h t, e => by
    cases h with
    | str b =>
      unfold strsD at e
      split at e
      · rename_i bs e1
        cases e
        rw [strs_r t e1]; rfl
      · cases e
    | _ => cases e
/-- o.m(e), o a text -/
def m1E (k : Str → D → M D) (fo fe : EnvD → M D) : EnvD → M D := fun env => fo env >>= fun x => match x with
  | .str a => fe env >>= fun y => k a y
  | _ => M.bad
theorem dE_m1 {id : String} {name : Str} {r : V → List V → Hp → VK → Prop} {k : Str → D → M D} (slot : Slot "str" name id) (ty : typeOf (.builtin id) = pure (.type "method_descriptor")) (rule : MtR X id r)
    (imp : ∀ g st H a v d Q, Rep X.K X.mg g st H → Rv X.K X.mg g v d → (At X.K X.mg g st H (k a d) fun d g' _ H' => ∀ v, Rv X.K X.mg g' v d → Q v H') → r (.str a) [v] H Q) (ho : PE X o (cE X.K X.mg fo)) (he : PE X e (cE X.K X.mg fe))
    (hs : starEach [e] X.env = [(false, eval e X.env)] := by rfl) (hbase : attributeBase o name X.env (eval o X.env) = eval o X.env := by rfl) (hline : (apos.endLine == pos.line) = true := by rfl) :
    PE X (.Call (.Attribute o name apos) [e] [] pos) (cE X.K X.mg (m1E k fo fe)) := by
  refine pe_imp (pe_m1 slot ty rule ho he hs hbase hline) fun σ H Q ⟨g, env, st, r, er, h⟩ => ?_
  refine ⟨g, env, st, r, er, h.bind.mono fun x g1 st1 H1 s1 q v rv => ?_⟩
  cases rv with
  | str a => exact ⟨⟨a, rfl⟩, g1, env, st1, s1.rep, er.step s1, (At.bind q).mono fun y g2 st2 H2 s2 q2 v2 rv2 => imp g2 st2 H2 a v2 y Q s2.rep rv2 q2⟩
  | _ => exact (show False from q).elim
def joinM (a : Str) : D → M D
  | .lst xs => match strsD xs with
    | some ys => if (ys.map (·.length)).sum + ys.length * a.length ≤ 16777216 then pure (.str (Txt.join a ys)) else M.bad
    | none => M.bad
  | _ => M.bad
theorem dE_join (ho : PE X o (cE X.K X.mg fo)) (he : PE X e (cE X.K X.mg fe)) (hs : starEach [e] X.env = [(false, eval e X.env)] := by rfl) (hbase : attributeBase o "join" X.env (eval o X.env) = eval o X.env := by rfl) (hline : (apos.endLine == pos.line) = true := by rfl) :
    PE X (.Call (.Attribute o "join" apos) [e] [] pos) (cE X.K X.mg (m1E joinM fo fe)) := by
  refine dE_m1 F.slot_str_join F.type_str_join mt_join (fun g st H a v d Q r rv h => ?_) ho he hs hbase hline
  unfold joinM at h
  split at h
  · split at h
    · rename_i ys e1
      obtain ⟨c, h⟩ := h.ite
      cases rv with
      | lst hq rs =>
        rw [strs_r rs e1] at hq
        exact ⟨a, _, ys, rfl, rfl, .inl (.inl (.inl (r.sub _ _ hq))), c, (res_of h).here r (.str _)⟩
    · exact (show False from h).elim
  · exact (show False from h).elim
def indexM (a : Str) : D → M D
  | .str b => match Builtin.Str.occurrences a b 0 a.length 1 with
    | i :: _ => pure (.int (i : Nat))
    | [] => M.bad
  | _ => M.bad
theorem dE_sindex (ho : PE X o (cE X.K X.mg fo)) (he : PE X e (cE X.K X.mg fe)) (hs : starEach [e] X.env = [(false, eval e X.env)] := by rfl) (hbase : attributeBase o "index" X.env (eval o X.env) = eval o X.env := by rfl) (hline : (apos.endLine == pos.line) = true := by rfl) :
    PE X (.Call (.Attribute o "index" apos) [e] [] pos) (cE X.K X.mg (m1E indexM fo fe)) := by
  refine dE_m1 F.slot_str_index F.type_str_index mt_sindex (fun g st H a v d Q r rv h => ?_) ho he hs hbase hline
  unfold indexM at h
  split at h
  · split at h
    · rename_i i rest e1
      cases rv
      exact ⟨a, _, i, rest, rfl, rfl, e1, (res_of h).here r (.int _)⟩
    · exact (show False from h).elim
  · exact (show False from h).elim
/-! ### text * int -/
def mulsOk (n : Nat) (k : Int) : Prop := 0 ≤ k ∧ k ≤ 1000 ∧ n ≤ 1000
instance (n : Nat) (k : Int) : Decidable (mulsOk n k) := by unfold mulsOk; infer_instance
def mulsM (x y : D) : M D := match x, y with
  | .str z, .int k => if mulsOk z.length k then pure (.str (repS z k.toNat)) else M.bad
  | _, _ => M.bad
theorem foldl_app (z : Str) : ∀ (k : Nat) (acc : Array Nat), (List.replicate k z.cps).foldl (· ++ ·) acc = acc ++ (List.replicate k z.cps.toList).flatten.toArray
  | 0, acc => by simp
  | k + 1, acc => by
    rw [List.replicate_succ, List.foldl_cons, foldl_app z k, List.replicate_succ, List.flatten_cons]
    apply Array.ext'
    simp
theorem op_muls : OpR X (binaryOp .Mult) (fun x y H Q => ∃ z k, x = .str z ∧ y = .int k ∧ mulsOk z.length k ∧ Q (.str (repS z k.toNat)) H) := by
  intro pins s σ H x y v u Q I rx ry h
  obtain ⟨z, k, rfl, rfl, ⟨c1, c2, c3⟩, q⟩ := h
  obtain ⟨t, rfl⟩ := rx
  obtain ⟨t', rfl⟩ := ry
  refine P.mul_str ?_ (fun h1 h2 => ?_) (fun h1 h2 => ?_) ?_
  · rw [decide_eq_false (by omega), decide_eq_false (by omega)]; rfl
  · have hk : 0 < k := by omega
    have : (2 ^ 63 - 1 : Int) / k ≥ 1000 := by
      refine Int.le_ediv_of_mul_le hk ?_
      omega
    omega
  · have : z.length * k.toNat ≤ 1000 * 1000 := Nat.mul_le_mul c3 (by omega)
    have e : sizeLine = 16777216 := by decide
    exact decide_eq_false (by omega)
  · by_cases h1 : k < 1
    · rw [if_pos h1]
      have : k = 0 := by omega
      subst this
      exact ⟨by decide, .str (repS z 0), H, I.tok _, ⟨_, rfl⟩, q⟩
    · rw [if_neg h1]
      by_cases h2 : (k == 1 || z.length == 0) = true
      · rw [if_pos h2]
        have e : repS z k.toNat = z := by
          simp only [Bool.or_eq_true, beq_iff_eq] at h2
          rcases h2 with rfl | h2
          · obtain ⟨⟨l⟩⟩ := z; simp [repS]
          · obtain ⟨⟨l⟩⟩ := z
            have : l = [] := by simpa [Str.length] using h2
            subst this
            simp [repS]
        rw [e] at q
        exact ⟨.str z, H, I, ⟨t, rfl⟩, q⟩
      · rw [if_neg h2]
        have e : (⟨(List.replicate k.toNat z.cps).foldl (· ++ ·) #[]⟩ : Str) = repS z k.toNat := by
          rw [foldl_app]; simp [repS]
        rw [e]
        refine ⟨?_, .str (repS z k.toNat), H, I.tok _, ⟨_, rfl⟩, q⟩
        have : z.length * k.toNat ≤ 1000 * 1000 := Nat.mul_le_mul c3 (by omega)
        have e2 : (repS z k.toNat).length = k.toNat * z.length := by
          simp [repS, Str.length]
        have e : sizeLine = 16777216 := by decide
        rw [e2, Nat.mul_comm]
        omega
theorem oMuls : OpR X (binaryOp .Mult) (r2 X.K X.mg mulsM) := by
  refine opR_imp op_muls fun x y H Q ⟨g, st, a, b, r, ra, rb, h⟩ => ?_
  unfold mulsM at h
  split at h
  · cases ra; cases rb
    obtain ⟨c, h⟩ := h.ite
    exact ⟨_, _, rfl, rfl, c, (res_of h).here r (.str _)⟩
  · exact (show False from h).elim
def mulA (x y : D) : M D := match x with
  | .str _ => mulsM x y
  | _ => mulM x y
theorem oMulA : OpR X (binaryOp .Mult) (r2 X.K X.mg mulA) := by
  refine opR_imp (oMul.or oMuls) fun x y H Q ⟨g, st, a, b, r, ra, rb, h⟩ => ?_
  unfold mulA at h
  split at h
  · exact .inr ⟨g, st, _, b, r, ra, rb, h⟩
  · exact .inl ⟨g, st, _, b, r, ra, rb, h⟩
/-! ### x[::-1] -/
theorem rev_pick (xs : Array Value) : ((List.range xs.size).filterMap fun (m : Nat) => xs[(((xs.size : Int) - 1) + (m : Int) * -1).toNat]?).toArray = xs.toList.reverse.toArray := by
  have h := PySem.W.krv_pick xs
  unfold slicePick at h
  rw [PySem.W.krv_bounds] at h
  rw [← h]
  show _ = ((sliceRange ((xs.size : Int) - 1) (-1) (-1)).filterMap (xs[·]?)).toArray
  rw [PySem.W.krv_sliceRange, List.filterMap_map]
  have key : ∀ l : List Nat, (∀ m ∈ l, m < xs.size) → l.filterMap (fun (m : Nat) => xs[(((xs.size : Int) - 1) + (m : Int) * -1).toNat]?) = l.filterMap ((xs[·]?) ∘ fun k => xs.size - 1 - k) := by
    intro l
    induction l with
    | nil => intro _; rfl
    | cons m l ih =>
      intro hl
      have h1 := hl m (by simp)
      have e : (((xs.size : Int) - 1) + (m : Int) * -1).toNat = xs.size - 1 - m := by omega
      rw [List.filterMap_cons, List.filterMap_cons, ih fun k hk => hl k (by simp [hk]), e]
      rfl
  rw [key _ fun m hm => List.mem_range.mp hm]
theorem getItem_tuple_rev {prog : Program} {w : World} {A : Around} {E : Value → Shared → Prop} {s : Shared} {t sl : Addr} {items : Array Value} {vs : Value} {Q : Value → Shared → Prop} (ht : IsTup s.heap t items) (hs : s.heap.IsSliceOf sl .none .none vs) (ps : IsPart vs (some (-1)))
    (h : Q (.ref s.heap.objs.size) { s with heap := s.heap.push { cls := .type "tuple", data := .seq items.toList.reverse.toArray } })
    (hsz : items.size ≤ sizeLine) : wpAny (model prog w) A (getItem (.ref t) (.ref sl)) Q E s := by
  have htake : sizeOk (.seq items.toList.reverse.toArray) := by
    show items.toList.reverse.toArray.size ≤ sizeLine
    rw [List.size_toArray, List.length_reverse, Array.length_toList]
    exact hsz
  obtain ⟨os, hos, hcs, hds⟩ := id hs
  have hTs : s.TypeIs (.ref sl) "slice" := ⟨os, hos, hcs⟩
  cases ps with
  | int _ tk =>
  unfold getItem
  try with_reducible refine wpAny_holding ?_
  first | refine wpAny_bind (wpAny_pure ?_) | skip
  refine wpAny_bind (wpAny_sequenceKey ht.typeIs (by decide) ?_)
  refine wpAny_bind (wpAny_callSpecial?_slot (name := Str.ofString "__getitem__") ht.typeIs PyProof.Rows.slot_tuple_getitem
    (wpAny_call_entry PyProof.Rows.slot_tuple_getitem ht.typeIs entry_tuple_getitem ?_ (args_tuple_getitem _ _)))
  show wpAny _ _ (Builtin.Tuple.tupleItemsOf (.ref t) >>= _) _ _ s
  refine wpAny_bind (tupleItemsOf_ ht ?_)
  refine wpAny_bind (wpAny_typeOf hTs ?_)
  rw [if_pos (by decide)]
  have ap : ∀ {Q' : Int × Int × Nat → Shared → Prop}, Q' ((items.size : Int) - 1, -1, items.size) s → wpAny (model prog w) A.in1 (Builtin.Slice.sliceApplied (.ref sl) (pure (items.size : Int))) Q' E s := fun {Q'} q => by
    unfold Builtin.Slice.sliceApplied Builtin.Slice.sliceFields
    refine wpAny_bind (wpAny_bind (wpAny_field hos hds (x := .none) rfl (wpAny_bind (wpAny_field hos hds (x := .none) rfl (wpAny_bind (wpAny_field hos hds (x := .int (-1) tk) rfl (wpAny_pure ?_)))))))
    refine wpAny_bind (HT.slicePart_ (.int (-1) tk) ?_)
    show wpAny _ _ (if ((-1 : Int) == 0) = true then _ else _) _ _ s
    rw [if_neg (by decide)]
    refine wpAny_bind (slicePart_none (wpAny_bind (slicePart_none (wpAny_bind (wpAny_pure ?_)))))
    have e1 : Builtin.Slice.sliceAdjust none none (-1) (items.size : Int) = ((items.size : Int) - 1, -1) := rfl
    show wpAny _ _ (match Builtin.Slice.sliceAdjust none none (-1) (items.size : Int) with | (lo, hi) => pure (lo, (-1 : Int), Builtin.Slice.slicePlaces lo hi (-1))) _ _ s
    rw [e1]
    have e2 : Builtin.Slice.slicePlaces ((items.size : Int) - 1) (-1) (-1) = items.size := by
      unfold Builtin.Slice.slicePlaces
      have h1 : ¬ ((-1 : Int) > 0) := by omega
      simp only [h1, if_false, show (- -1 : Int) = 1 by decide, Int.ediv_one]
      split <;> omega
    show wpAny _ _ (pure ((items.size : Int) - 1, (-1 : Int), Builtin.Slice.slicePlaces ((items.size : Int) - 1) (-1) (-1))) _ _ s
    rw [e2]
    exact wpAny_pure q
  refine wpAny_bind (ap ?_)
  have hno : ¬ ((((items.size : Int) - 1) == 0 && (-1 : Int) == 1 && items.size == items.size) = true) := by simp
  show wpAny _ _ (if (((items.size : Int) - 1) == 0 && (-1 : Int) == 1 && items.size == items.size) = true then _ else _) _ _ s
  rw [if_neg hno, rev_pick]
  first
    | exact wpAny_bind (m := Builtin.Tuple.tupleExact _) (wpAny_newObj_type (wpAny_pure ⟨_, rfl, wpAny_pure h⟩) htake)
    | exact wpAny_bind (m := Builtin.Tuple.tupleExact _) (wpAny_newObj_type (wpAny_bind (wpAny_pure (wpAny_pure ⟨_, rfl, wpAny_pure h⟩))) htake)
    | exact wpAny_bind (wpAny_bind (m := Builtin.Tuple.tupleExact _) (wpAny_newObj_type (wpAny_pure (wpAny_pure ⟨_, rfl, wpAny_pure h⟩)) htake))
    | exact wpAny_bind (wpAny_bind (m := Builtin.Tuple.tupleExact _) (wpAny_newObj_type (wpAny_pure ⟨_, rfl, wpAny_pure h⟩) htake))
def revS (z : Str) : Str := ⟨z.cps.toList.reverse.toArray⟩
theorem rev_str (z : Str) : ((Builtin.Str.strSliceIndices none none (-1) z.length).filterMap (z.cps[·]?)).toArray = (revS z).cps := by
  have h := step_rev_list z 0
  unfold Txt.sliceBy slicePicked at h
  have h1 : ¬ (((((some ((-1 : Int), (0 : Tok))).map (·.1)).getD 1 == 1) && ((Builtin.Str.strSliceIndices ((none : Option (Int × Tok)).map (·.1)) ((none : Option (Int × Tok)).map (·.1)) (((some ((-1 : Int), (0 : Tok))).map (·.1)).getD 1) z.length).length == z.length)) = true) := by
    have : ((((some ((-1 : Int), (0 : Tok))).map (·.1)).getD 1 == 1)) = false := rfl
    rw [this]; simp
  rw [if_neg h1] at h
  have h : ((Builtin.Str.strSliceIndices none none (-1) z.length).filterMap (z.cps[·]?)).toArray.toList = (List.range z.length).map fun k => z.cps.getD (z.length - 1 - k) 0 := h
  apply Array.ext'
  rw [h]
  obtain ⟨⟨l⟩⟩ := z
  show _ = l.reverse
  apply List.ext_getElem
  · simp [Str.length]
  · intro i h1 h2
    have h3 : i < l.length := by simpa [Str.length] using h1
    have h4 : l.length - 1 - i < l.length := by omega
    simp [Str.length, Array.getD, h4, List.getElem_reverse]
/-- x[::-1] -/
def revM : D → M D
  | .tup xs => pure (.tup xs.reverse)
  | .lst xs => pure (.lst xs.reverse)
  | .frl xs => pure (.lst xs.reverse)
  | .str z => if z.length ≤ sizeLine then pure (.str (revS z)) else M.bad
  | _ => M.bad
theorem dE_rev {k : Nat} {p1 p2 p3 pos : Pos} (he : PE X e (cE X.K X.mg fe)) : PE X (.Subscript e (.Slice none none (some (.UnaryOp .USub (.Constant (.int 1) k p1) p2)) p3) pos) (cE X.K X.mg (unE revM fe)) := by
  refine pe_imp (t' := fun σ H Q => cE X.K X.mg fe σ H fun x H1 => (∃ a xs, x = .ref a ∧ SqL X.K H1 a xs ∧ ∀ p, H1 p = none → Q (.ref p) (upd H1 p (.lst xs.reverse))) ∨ (∃ a xs, x = .ref a ∧ SqT X.K H1 a xs ∧ ∀ p, H1 p = none → Q (.ref p) (upd H1 p (.tup xs.reverse))) ∨ ∃ z, x = .str z ∧ z.length ≤ sizeLine ∧ Q (.str (revS z)) H1) ?_ ?_
  · refine ⟨fun pins s σ H Q I h => ?_⟩
    refine Subscript_ (thn (he.run pins s σ H _ I h) fun v s1 ⟨x, H1, I1, r1, q1⟩ => ?_)
    have hst : PO X (some (.UnaryOp .USub (.Constant (.int 1) k p1) p2)) (tPart (tUn (rU fun i => .int (-i)) (tC (.int 1)))) := po_some (pe_un un_neg pe_int)
    refine wpAny_Slice ?_
    rw [evalPart_none]
    refine wpAny_pure ?_
    refine wpAny_pure ?_
    refine thn (hst.run pins s1 σ H1 (fun o H4 => o = some (-1) ∧ H4 = H1) I1 ⟨1, rfl, -1, rfl, rfl, rfl⟩) fun vs s4 ⟨o, H4, I4, ps, eo, e4⟩ => ?_
    subst eo
    rw [e4] at I4
    have I5 : Inv X pins σ H1 { s4 with heap := s4.heap.push { cls := .type "slice", data := .fields #[.none, .none, vs] } } := I4.kept (t' := s4.toks) fun b ob q => Heap.get?_push_of_some _ q
    show wpAny (model X.prog X.w) X.A (subscriptTail e (.Slice none none (some (.UnaryOp .USub (.Constant (.int 1) k p1) p2)) p3) v (.ref s4.heap.objs.size)) (EP X pins σ Q) X.xe { s4 with heap := s4.heap.push { cls := .type "slice", data := .fields #[.none, .none, vs] } }
    rcases q1 with ⟨a, xs, ex, hx, q⟩ | ⟨a, xs, ex, hx, q⟩ | ⟨z, ex, hz, q⟩
    · subst ex
      cases r1
      obtain ⟨its, r, ht, hz⟩ := I5.list hx
      have hlen := r.length
      refine tail_any (ops := [.ref a, .ref s4.heap.objs.size]) ht.isList.typeIs (PySem.slot_list_getitem.lookup) ?_ (by with_unfolding_all rfl)
      refine wpAny_getItem_list_slice ht.isList (Heap.IsSliceOf.new _ .none .none vs) .none .none ps (by decide) ?_ (by rw [List.size_toArray]; omega)
      rw [PySem.W.krv_pick]
      refine ⟨.ref _, _, I5.laid (t' := s4.toks) (o := .lst xs.reverse) (fun b ob q => Heap.get?_push_of_some _ q) (Nat.le_refl _) ?_, rfl, q _ (I5.hok.fresh (Nat.le_refl _))⟩
      exact ⟨by rw [List.length_reverse]; exact hz, _, 0, r.reverse, Heap.get?_push_size _ rfl⟩
    · subst ex
      cases r1
      obtain ⟨its, r, ht, hz⟩ := I5.tuple hx
      have hlen := r.length
      refine tail_any (ops := [.ref a, .ref s4.heap.objs.size]) ht.typeIs (PyProof.Rows.slot_tuple_getitem.lookup) ?_ (by with_unfolding_all rfl)
      refine getItem_tuple_rev ht (Heap.IsSliceOf.new _ .none .none vs) ps ?_ (by rw [List.size_toArray]; omega)
      refine ⟨.ref _, _, I5.laid (t' := s4.toks) (o := .tup xs.reverse) (fun b ob q => Heap.get?_push_of_some _ q) (Nat.le_refl _) ?_, rfl, q _ (I5.hok.fresh (Nat.le_refl _))⟩
      exact ⟨by rw [List.length_reverse]; exact hz, _, r.reverse, IsTup.new _ _⟩
    · subst ex
      obtain ⟨t, rfl⟩ := r1
      refine tail_any (ops := [.str z t, .ref s4.heap.objs.size]) (typeIs_str _ _ _) (F.slot_str_getitem.lookup) ?_ (by with_unfolding_all rfl)
      cases ps with
      | int _ tk =>
      refine wpAny_getItem_str_slice (l := none) (u := none) (st := some (-1, tk)) ⟨_, Heap.get?_push_size _ rfl, rfl, rfl⟩ rfl ?_
      show Made.post (if ((-1 : Int) == 1 && (Builtin.Str.strSliceIndices none none (-1) z.length).length == z.length) = true then Made.val (.str z t)
        else Made.str ⟨((Builtin.Str.strSliceIndices none none (-1) z.length).filterMap (z.cps[·]?)).toArray⟩) (EP X pins σ Q) _
      rw [if_neg (by simp), rev_str]
      exact ⟨by show (revS z).cps.size ≤ sizeLine; simpa [revS, Str.length] using hz, .str (revS z), H1, I5.tok _, ⟨_, rfl⟩, q⟩
  · intro σ H Q ⟨g, env, st, r, er, h⟩
    refine ⟨g, env, st, r, er, h.bind.mono fun x g1 st1 H1 s1 q v rv => ?_⟩
    unfold revM at q
    split at q
    · cases rv with
      | tup hq rs => exact .inr (.inl ⟨_, _, rfl, s1.rep.sqT hq, fun p n => (res_of q).tup s1.rep rs.rev p n⟩)
    · cases rv with
      | lst hq rs => exact .inl ⟨_, _, rfl, .inl (.inl (s1.rep.sub _ _ hq)), fun p n => (res_of q).lst s1.rep rs.rev p n⟩
    · cases rv with
      | frl hq rs => exact .inl ⟨_, _, rfl, s1.rep.sqL hq, fun p n => (res_of q).lst s1.rep rs.rev p n⟩
    · cases rv
      obtain ⟨c, q⟩ := q.ite
      exact .inr (.inr ⟨_, rfl, c, (res_of q).here s1.rep (.str _)⟩)
    · exact (show False from q).elim
end
end Dd

set_option Elab.async false
set_option linter.all false
set_option maxRecDepth 100000
/-! Dd, part L: ranges as lists, sets, dicts, boxes, pairs. -/
namespace Dd
open PySem PySem.Spec PyProof.Rows L2
section
variable {X : Cx} {x : Str} {p p2 p3 q pos apos cpos tpos : Pos} {e e2 a o : Expr} {es : List Expr} {fa : EnvD → M (List D)} {fe fo f2 : EnvD → M D}
/-! ### list(range(n)), tuple(range(n)) -/
instance (i j : Int) : Decidable (RgOk i j) := by unfold RgOk; infer_instance
def lrgM (d : D) : M D := match d with
  | .int n => if RgOk 0 n then pure (.lst (rngD 0 n.toNat)) else M.bad
  | _ => M.bad
def trgM (d : D) : M D := match d with
  | .int n => if RgOk 0 n then pure (.tup (rngD 0 n.toNat)) else M.bad
  | _ => M.bad
theorem rg_rvs {K : PySem.W.Frag} {mg : Str → Option Value} {g : G} (n : Int) : Rvs K mg g (rgV 0 n) (rngD 0 n.toNat) := by
  unfold rgV rngD
  rw [show n - 0 = n by omega]
  generalize List.range n.toNat = l
  induction l with
  | nil => exact .nil
  | cons i l ih => exact .cons (.int _) ih
theorem dE_lrg (hc : X.calm = true) (hm : X.mg "list" = none) (hm2 : X.mg "range" = none) (he : PE X e (cE X.K X.mg fe)) (hg : Gl X "list" := by rfl) (hg2 : Gl X "range" := by rfl) (na : starEach [e] X.env = (false, eval e X.env) :: starEach [] X.env := by rfl)
    (nb : starEach [.Call (.Name "range" p2) [e] [] q] X.env = (false, eval (.Call (.Name "range" p2) [e] [] q) X.env) :: starEach [] X.env := by rfl) : PE X (.Call (.Name "list" p) [.Call (.Name "range" p2) [e] [] q] [] pos) (cE X.K X.mg (unE lrgM fe)) := by
  refine pe_imp (pe_listRg hc hg hm (prg_1 hg2 hm2 he na) nb) fun σ H Q ⟨g, env, st, r, er, h⟩ => ?_
  refine ⟨g, env, st, r, er, h.bind.mono fun x g1 st1 H1 s1 q v rv => ?_⟩
  unfold lrgM at q
  split at q
  · cases rv
    obtain ⟨c, q⟩ := q.ite
    exact ⟨_, rfl, c, fun p n => (res_of q).lst s1.rep (rg_rvs _) p n⟩
  · exact (show False from q).elim
theorem dE_trg (hc : X.calm = true) (hm : X.mg "tuple" = none) (hm2 : X.mg "range" = none) (he : PE X e (cE X.K X.mg fe)) (hg : Gl X "tuple" := by rfl) (hg2 : Gl X "range" := by rfl) (na : starEach [e] X.env = (false, eval e X.env) :: starEach [] X.env := by rfl)
    (nb : starEach [.Call (.Name "range" p2) [e] [] q] X.env = (false, eval (.Call (.Name "range" p2) [e] [] q) X.env) :: starEach [] X.env := by rfl) : PE X (.Call (.Name "tuple" p) [.Call (.Name "range" p2) [e] [] q] [] pos) (cE X.K X.mg (unE trgM fe)) := by
  refine pe_imp (pe_tupRg hc hg hm (prg_1 hg2 hm2 he na) nb) fun σ H Q ⟨g, env, st, r, er, h⟩ => ?_
  refine ⟨g, env, st, r, er, h.bind.mono fun x g1 st1 H1 s1 q v rv => ?_⟩
  unfold trgM at q
  split at q
  · cases rv
    obtain ⟨c, q⟩ := q.ite
    exact ⟨_, rfl, c, fun p n => (res_of q).tup s1.rep (rg_rvs _) p n⟩
  · exact (show False from q).elim
/-! ### len(set(xs)), ints -/
def firstI (ns : List Int) : List Int := ns.foldl (fun acc n => if acc.any (· == n) then acc else acc ++ [n]) []
theorem firstMet_fold (ns : List Int) : ∀ i, i ≤ ns.length → PyProof.Rows.firstMet (fun i => ns.getD i 0) i = firstI (ns.take i)
  | 0, _ => rfl
  | i + 1, hi => by
    have hlt : i < ns.length := hi
    have e1 : ns.getD i 0 = ns[i] := by
      rw [List.getD_eq_getElem?_getD, List.getElem?_eq_getElem hlt] <;> rfl
    have e2 : ns.take (i + 1) = ns.take i ++ [ns[i]] := by
      rw [List.take_add_one, List.getElem?_eq_getElem hlt] <;> rfl
    rw [PyProof.Rows.firstMet_succ, firstMet_fold ns i (Nat.le_of_lt hlt), e2]
    show (if (firstI (ns.take i)).any (· == ns.getD i 0) then firstI (ns.take i) else firstI (ns.take i) ++ [ns.getD i 0]) = _
    rw [e1]
    unfold firstI
    rw [List.foldl_append]
    rfl
theorem firstI_len (ns : List Int) : (firstI ns).length ≤ ns.length := by
  have key : ∀ (ns acc : List Int), (ns.foldl (fun acc n => if acc.any (· == n) then acc else acc ++ [n]) acc).length ≤ acc.length + ns.length := by
    intro ns
    induction ns with
    | nil => intro acc; simp
    | cons n ns ih =>
      intro acc
      rw [List.foldl_cons]
      refine Nat.le_trans (ih _) ?_
      split <;> simp <;> omega
  have := key ns []
  rw [List.length_nil, Nat.zero_add] at this
  exact this
def lsetM (d : D) : M D := match d with
  | .lst xs => match intsD xs with
    | some ns => if ns.length ≤ 4000 then pure (.int (firstI ns).length) else M.bad
    | none => M.bad
  | _ => M.bad
theorem dE_lset (hm : X.mg "len" = none) (hm2 : X.mg "set" = none) (ha : PE X a (cE X.K X.mg fe)) (hc : X.calm = true := by rfl) (hg : Gl X "len" := by rfl) (hg2 : Gl X "set" := by rfl)
    (na : starEach [a] X.env = (false, eval a X.env) :: starEach [] X.env := by rfl) : PE X (.Call (.Name "len" p) [.Call (.Name "set" p2) [a] [] q] [] pos) (cE X.K X.mg (unE lsetM fe)) := by
  refine pe_imp (t' := fun σ H Q => cE X.K X.mg fe σ H fun x H1 => ∃ (l : Addr) (ns : List Int), x = .ref l ∧ SqL X.K H1 l (ns.map V.int) ∧ ns.length ≤ 4000 ∧ Q (.int ((firstI ns).length : Nat)) H1) ?_ ?_
  · refine ⟨fun pins s σ H Q I h => ?_⟩
    refine Call_ (ld_blt I hg hm boot_len ?_)
    refine PyProof.Rows.callWith_builtin1 (PyProof.Rows.args_cons ?_ rfl) rfl rfl
    refine Call_ (ld_blt I hg2 hm2 boot_set ?_)
    refine PyProof.Rows.callWith_type1 (PyProof.Rows.args_cons (thn (ha.run pins s σ H _ I h) fun v s1 ⟨x, H1, I1, r1, q1⟩ => PyProof.Rows.args_nil ?_) na) na rfl
    obtain ⟨l, ns, rfl, hq, hl, q1⟩ := q1
    cases r1
    obtain ⟨its, r, pl, hz⟩ := I1.list hq
    have hlen : its.toArray.size = ns.length := by rw [List.size_toArray, ← r.length, List.length_map]
    refine call_set_list (I1.ok.hd hc) pl.isList (by simpa using RZ.intsAre_vals r) (by rw [hlen]; unfold scanBound; omega) fun h' tk hS hk => ?_
    refine PyProof.Rows.args_nil ?_
    rw [hlen, firstMet_fold ns ns.length (Nat.le_refl _), List.take_length] at hS
    obtain ⟨o, es, ep, t, ho, hex, hd, _, _, _, hf, hn⟩ := hS
    have I2 : Inv X pins σ H1 { s1 with heap := h', toks := tk } := I1.kept fun b o e => hk b o (Heap.lt_size e) e
    have hfl := firstI_len ns
    exact call_len_set ho hex hd hf (by rw [hn]; omega) ⟨.int (firstI ns).length, H1, I2.tok _, ⟨_, by rw [hn]⟩, q1⟩
  · intro σ H Q ⟨g, env, st, r, er, h⟩
    refine ⟨g, env, st, r, er, h.bind.mono fun x g1 st1 H1 s1 q v rv => ?_⟩
    unfold lsetM at q
    split at q
    · split at q
      · rename_i ns e
        obtain ⟨c, q⟩ := q.ite
        cases rv with
        | lst hq rs =>
          rw [ints_r rs e] at hq
          exact ⟨_, ns, rfl, .inl (.inl (s1.rep.sub _ _ hq)), c, (res_of q).here s1.rep (.int _)⟩
      · exact (show False from q).elim
    · exact (show False from q).elim
/-! ### boxes: a list that several defs write -/
def mkB (f : List D) : M D := fun st => .ok (.ref st.length) (st ++ [some (.lst f)])
def boxE (fa : EnvD → M (List D)) : EnvD → M D := fun env => fa env >>= fun ds => if ds.length ≤ sizeLine then mkB ds else M.bad
theorem Rep.box {K : PySem.W.Frag} {mg : Str → Option Value} {g : G} {st : Sto} {H : Hp} {p : Addr} {vs : List V} {xs : List D} (r : Rep K mg g st H) (n : H p = none) (rv : Rvs K mg g vs xs) : Stp K mg g st H { g with ι := g.ι ++ [p] } (st ++ [some (.lst xs)]) (upd H p (.lst vs)) := by
  have nι : p ∉ g.ι := fun m => r.live p m n
  have nR : g.R p = none := by
    cases e : g.R p with
    | none => rfl
    | some u => rw [r.sub p u e] at n; cases n
  have le : Gle g { g with ι := g.ι ++ [p] } := ⟨fun a u h => h, [p], rfl⟩
  have at_ : ∀ {k : Nat} {a : Addr}, (g.ι ++ [p])[k]? = some a → (g.ι[k]? = some a) ∨ (k = g.ι.length ∧ a = p) := fun {k a} h => by
    by_cases hk : k < g.ι.length
    · rw [List.getElem?_append_left hk] at h; exact .inl h
    · rw [List.getElem?_append_right (by omega)] at h
      have : k - g.ι.length = 0 := by
        have := (List.getElem?_eq_some_iff.mp h).1
        simp at this; omega
      rw [this] at h
      simp at h
      exact .inr ⟨by omega, h.symm⟩
  refine ⟨le, ⟨fun a u h => ?_, by simp [r.len], fun a m => ?_, fun k m a h1 h2 => ?_, fun k a c h1 h2 => ?_⟩, fun a u h _ _ => by rw [upd_ne (ne_of_none h n)]; exact h, fun a h _ _ _ => h, fun a m => ?_, fun a h => ?_⟩
  · rw [upd_ne (ne_of_none (r.sub a u h) n)]; exact r.sub a u h
  · rcases List.mem_append.mp m with m | m
    · rw [upd_ne (show a ≠ p from fun z => nι (z ▸ m))]; exact r.live a m
    · rw [List.mem_singleton.mp m, upd_same]; simp
  · rcases at_ h1 with h1 | ⟨h1, e1⟩
    · rcases at_ h2 with h2 | ⟨h2, e2⟩
      · exact r.inj k m a h1 h2
      · exact absurd (List.mem_of_getElem? h1) (by rw [e2]; exact nι)
    · rcases at_ h2 with h2 | ⟨h2, e2⟩
      · exact absurd (List.mem_of_getElem? h2) (by rw [e1]; exact nι)
      · rw [h1, h2]
  · rcases at_ h1 with h1 | ⟨h1, e1⟩
    · have hk : k < st.length := by rw [← r.len]; exact (List.getElem?_eq_some_iff.mp h1).1
      rw [List.getElem?_append_left hk] at h2
      obtain ⟨h3, h4⟩ := r.cell k a c h1 h2
      refine ⟨h3, ?_⟩
      rw [upd_ne (show a ≠ p from fun z => nι (z ▸ List.mem_of_getElem? h1))]
      exact h4.le le
    · subst h1 e1
      rw [r.len, List.getElem?_append_right (Nat.le_refl _)] at h2
      simp at h2
      subst h2
      refine ⟨nR, ?_⟩
      rw [upd_same]
      exact rv.le le
  · rcases List.mem_append.mp m with m | m
    · exact .inl m
    · rw [List.mem_singleton.mp m]; exact .inr n
  · by_cases z : a = p
    · rw [z, upd_same]; simp
    · rw [upd_ne z]; exact h
theorem dE_box (h : PA X es (cA X.K X.mg fa)) : PE X (.List es pos) (cE X.K X.mg (boxE fa)) := by
  refine pe_imp (pe_lst h) fun σ H Q ⟨g, env, st, r, er, h⟩ => ?_
  refine ⟨g, env, st, r, er, h.bind.mono fun ds g1 st1 H1 s1 q vs rs => ?_⟩
  obtain ⟨hz, q⟩ := q.ite
  refine ⟨rs.length ▸ hz, fun p n => ?_⟩
  have q : ∀ g' H', Stp X.K X.mg g1 st1 H1 g' (st1 ++ [some (.lst ds)]) H' → ∀ v, Rv X.K X.mg g' v (.ref st1.length) → Q v H' := q
  refine q _ _ (s1.rep.box n rs) _ (.ref ?_)
  show (g1.ι ++ [p])[st1.length]? = some p
  rw [← s1.rep.len, List.getElem?_append_right (Nat.le_refl _)]
  simp
/-- a box is read -/
def ixB (x y : D) : M D := fun st => match x, y with
  | .ref n, .int i => match st[n]? with
    | some (some (.lst xs)) => match atI xs i with
      | some d => .ok d st
      | none => .bad
    | _ => .bad
  | _, _ => .bad
theorem Rep.get {K : PySem.W.Frag} {mg : Str → Option Value} {g : G} {st : Sto} {H : Hp} {n : Nat} {a : Addr} {xs : List D} (r : Rep K mg g st H) (h : g.ι[n]? = some a) (e : st[n]? = some (some (.lst xs))) : g.R a = none ∧ ∃ vs, H a = some (.lst vs) ∧ Rvs K mg g vs xs := by
  obtain ⟨h1, h2⟩ := r.cell n a _ h e
  refine ⟨h1, ?_⟩
  unfold CellR at h2
  split at h2
  · rename_i vs ys e1 e2
    cases e2
    exact ⟨vs, e1, h2⟩
  · exact h2.elim
theorem ixB_r {K : PySem.W.Frag} {mg : Str → Option Value} {x y : V} {H : Hp} {Q : VK} (h : r2 K mg ixB x y H Q) : rIx K x y H Q := by
  obtain ⟨g, st, a, b, r, ra, rb, h⟩ := h
  unfold ixB At at h
  split at h
  · cases rb
    cases ra with
    | ref hn =>
      dsimp only at h
      split at h
      · rename_i xs e
        split at h
        · rename_i d e2
          obtain ⟨_, vs, h1, h2⟩ := r.get hn e
          obtain ⟨v, h3, h4⟩ := rvs_at h2 e2
          exact .inl ⟨_, _, _, v, rfl, rfl, .inl (.inl h1), h3, (show ∀ g' H', Stp K mg g st H g' st H' → ∀ v, Rv K mg g' v d → Q v H' from h) g H (.refl r) v h4⟩
        · exact (show False from h).elim
      · exact (show False from h).elim
  · exact (show False from h).elim
theorem dE_ixB {b : Expr} {fb : EnvD → M D} (ha : PE X a (cE X.K X.mg fe)) (hb : PE X b (cE X.K X.mg fb)) (hs : PlainIx b := by intro _ _; rfl) : PE X (.Subscript a b pos) (cE X.K X.mg (binE ixB fe fb)) :=
  pe_imp (pe_ix ix_seq ha hb hs) fun σ H Q h => by
    obtain ⟨g, env, st, r, er, h⟩ := h
    refine ⟨g, env, st, r, er, h.bind.mono fun x g1 st1 H1 s1 q v rv => ?_⟩
    refine ⟨g1, env, st1, s1.rep, er.step s1, (At.bind q).mono fun y g2 st2 H2 s2 q2 u ru => ?_⟩
    exact ixB_r ⟨g2, st2, x, y, s2.rep, Rv.le s2.le rv, ru, q2⟩
/-! ### targets that write -/
def cGm (K : PySem.W.Frag) (mg : Str → Option Value) (f : D → EnvD → M EnvD) : TG := fun x σ H Q => ∃ g env st d, Rep K mg g st H ∧ EnvR K mg g H σ env ∧ Rv K mg g x d ∧ (f d env st).wp (fun env' st' => ∀ g' H' σ', Stp K mg g st H g' st' H' → EnvN K mg g' H' σ env H σ' env' → Q σ' H') fun _ _ => False
def cGsm (K : PySem.W.Frag) (mg : Str → Option Value) (f : List D → EnvD → M EnvD) : TGs := fun xs σ H Q => ∃ g env st ds, Rep K mg g st H ∧ EnvR K mg g H σ env ∧ Rvs K mg g xs ds ∧ (f ds env st).wp (fun env' st' => ∀ g' H' σ', Stp K mg g st H g' st' H' → EnvN K mg g' H' σ env H σ' env' → Q σ' H') fun _ _ => False
def pureG (f : D → EnvD → Option EnvD) : D → EnvD → M EnvD := fun d env => match f d env with
  | some e => pure e
  | none => M.bad
theorem dG_pure {tg : Expr} {vs : List Nat} {f : D → EnvD → Option EnvD} (h : PG X tg (cG X.K X.mg vs f)) : PG X tg (cGm X.K X.mg (pureG f)) := pg_imp h fun x σ H Q ⟨g, env, st, d, r, er, rv, h⟩ => by
  unfold pureG at h
  cases e : f d env with
  | none => rw [e] at h; exact (show False from h).elim
  | some env' =>
    rw [e] at h
    have h : ∀ g' H' σ', Stp X.K X.mg g st H g' st H' → EnvN X.K X.mg g' H' σ env H σ' env' → Q σ' H' := h
    exact ⟨g, env, st, d, env', r, er, rv, e, fun σ' n _ => h g H σ' (.refl r) n⟩
def bsetG (fo fi : EnvD → M D) : D → EnvD → M EnvD := fun d env => fo env >>= fun o => fi env >>= fun i => fun st => match o, i with
  | .ref n, .int k => match st[n]? with
    | some (some (.lst xs)) => match ixN xs.length k with
      | some j => .ok env (st.set n (some (.lst (xs.set j d))))
      | none => .bad
    | _ => .bad
  | _, _ => .bad
theorem Rep.bput {K : PySem.W.Frag} {mg : Str → Option Value} {g : G} {st : Sto} {H : Hp} {n : Nat} {a : Addr} {vs : List V} {xs : List D} (r : Rep K mg g st H) (h : g.ι[n]? = some a) (hR : g.R a = none) (rv : Rvs K mg g vs xs) : Stp K mg g st H g (st.set n (some (.lst xs))) (upd H a (.lst vs)) := by
  have ma : a ∈ g.ι := List.mem_of_getElem? h
  refine ⟨.refl g, ⟨fun b u q => ?_, by rw [List.length_set]; exact r.len, fun b m => ?_, r.inj, fun k b c h1 h2 => ?_⟩, fun b u q ni _ => ?_, fun b q _ _ _ => q, fun b m => .inl m, fun b q => ?_⟩
  · rw [upd_ne (show b ≠ a from fun z => by rw [z, hR] at q; cases q)]; exact r.sub b u q
  · by_cases z : b = a
    · rw [z, upd_same]; simp
    · rw [upd_ne z]; exact r.live b m
  · by_cases z : b = a
    · subst z
      have e := r.inj n k b h h1
      subst e
      rw [List.getElem?_set] at h2
      simp only [if_true] at h2
      split at h2
      · cases h2
        exact ⟨hR, by rw [upd_same]; exact rv⟩
      · cases h2
    · have nk : n ≠ k := fun e => z (by rw [← e, h] at h1; cases h1; rfl)
      rw [List.getElem?_set_ne nk] at h2
      obtain ⟨h3, h4⟩ := r.cell k b c h1 h2
      exact ⟨h3, by rw [upd_ne z]; exact h4⟩
  · rw [upd_ne (show b ≠ a from fun z => ni (z ▸ ma))]; exact q
  · by_cases z : b = a
    · rw [z, upd_same]; simp
    · rw [upd_ne z]; exact q
theorem dG_bset {i : Expr} {fi : EnvD → M D} (ho : PE X o (cE X.K X.mg fo)) (hi : PE X i (cE X.K X.mg fi)) (ha : ∀ v, assign (.Subscript o i pos) X.env v = (do
      let ov ← holding [v] (eval o X.env)
      let iv ← holding [v, ov] (eval i X.env)
      standAt pos
      holding [v, ov, iv] (setItem ov iv v)
      release [v, ov, iv] []) := by intro _; rfl) : PG X (.Subscript o i pos) (cGm X.K X.mg (bsetG fo fi)) := by
  refine pg_imp (pg_sub ho hi set_list ha) fun x σ H Q ⟨g, env, st, d, r, er, rv, h⟩ => ?_
  refine ⟨g, env, st, r, er, Out.wp_mono (M.bind_wp h) (fun od s1 q g1 H1 z1 ov ro => ?_) fun _ _ z => z⟩
  refine ⟨g1, env, s1, z1.rep, er.step z1, Out.wp_mono (M.bind_wp q) (fun idd s2 q2 g2 H2 z2 iv ri => ?_) fun _ _ z => z⟩
  have rv2 := (rv.le z1.le).le z2.le
  have ro := ro.le z2.le
  split at q2
  · cases ri
    cases ro with
    | ref hn =>
      split at q2
      · rename_i xs e
        split at q2
        · rename_i j e2
          obtain ⟨hR, vs, h1, h2⟩ := z2.rep.get hn e
          have z3 := z2.rep.bput (n := _) hn hR (h2.set rv2 j)
          refine ⟨_, vs, _, j, rfl, rfl, h1, by rw [h2.length]; exact e2, ?_⟩
          have q2 : ∀ g' H' σ', Stp X.K X.mg g st H g' _ H' → EnvN X.K X.mg g' H' σ env H σ' env → Q σ' H' := q2
          exact q2 g2 _ σ ((z1.nxt z2).nxt z3) (.step er ((z1.nxt z2).nxt z3))
        · exact (show False from q2).elim
      · exact (show False from q2).elim
  · exact (show False from q2).elim
def nilGm : List D → EnvD → M EnvD
  | [], env => pure env
  | _, _ => M.bad
def consGm (f : D → EnvD → M EnvD) (fs : List D → EnvD → M EnvD) : List D → EnvD → M EnvD
  | d :: ds, env => f d env >>= fun e => fs ds e
  | [], _ => M.bad
def tupGm (n : Nat) (fs : List D → EnvD → M EnvD) : D → EnvD → M EnvD
  | .tup ds, env => if ds.length = n then fs ds env else M.bad
  | _, _ => M.bad
theorem dGsm_nil : PGs X [] (cGsm X.K X.mg nilGm) := by
  refine pgs_imp pgs_nil fun vs σ H Q ⟨g, env, st, ds, r, er, rv, h⟩ => ?_
  cases ds with
  | nil =>
    cases rv
    exact ⟨rfl, (show ∀ g' H' σ', Stp X.K X.mg g st H g' st H' → EnvN X.K X.mg g' H' σ env H σ' env → Q σ' H' from h) g H σ (.refl r) (.refl er)⟩
  | cons => exact (show False from h).elim
theorem dGsm_cons {f : D → EnvD → M EnvD} {fs : List D → EnvD → M EnvD} (h1 : PG X e (cGm X.K X.mg f)) (h2 : PGs X es (cGsm X.K X.mg fs))
    (hs : (assignEach (e :: es) X.env).map (·.2) = assign e X.env :: (assignEach es X.env).map (·.2) := by rfl) : PGs X (e :: es) (cGsm X.K X.mg (consGm f fs)) := by
  refine pgs_imp (pgs_cons h1 h2 hs) fun xs σ H Q ⟨g, env, st, ds, r, er, rv, h⟩ => ?_
  cases ds with
  | nil => exact (show False from h).elim
  | cons d ds =>
    cases rv with
    | cons rx rxs =>
      have h : ((f d env >>= fun e => fs ds e) st).wp (fun env' st' => ∀ g' H' σ', Stp X.K X.mg g st H g' st' H' → EnvN X.K X.mg g' H' σ env H σ' env' → Q σ' H') (fun _ _ => False) := h
      refine ⟨_, _, rfl, g, env, st, d, r, er, rx, Out.wp_mono (M.bind_wp h) (fun env1 s1 q g1 H1 σ1 z1 n1 => ?_) fun _ _ z => z⟩
      refine ⟨g1, env1, s1, ds, z1.rep, n1.r, rxs.le z1.le, Out.wp_mono q (fun env2 s2 q2 g2 H2 σ2 z2 n2 => q2 g2 H2 σ2 (z1.nxt z2) (n1.trans z1.stay n2)) fun _ _ z => z⟩
theorem dGm_tup {k n : Nat} {fs : List D → EnvD → M EnvD} (hc : X.calm = true) (h : PGs X es (cGsm X.K X.mg fs))
    (hn : (assignEach es X.env).length = n := by rfl) (hst : (assignEach es X.env).findIdx? (·.1) = none := by rfl) : PG X (.Tuple es k pos) (cGm X.K X.mg (tupGm n fs)) := by
  refine pg_imp (pg_tup hc h hn hst) fun v σ H Q ⟨g, env, st, d, r, er, rv, h⟩ => ?_
  cases rv with
  | @tup a xs ds hq rs =>
    unfold tupGm at h
    by_cases hl : ds.length = n
    · simp only [if_pos hl] at h
      exact ⟨a, xs, rfl, r.sqT hq, rs.length.trans hl, g, env, st, ds, r, er, rs, h⟩
    · simp only [if_neg hl] at h; exact (show False from h).elim
  | _ => exact (show False from h).elim
/-- target = e -/
def asgS (fe : EnvD → M D) (tg : D → EnvD → M EnvD) : EnvD → M Fl := fun env => fe env >>= fun d => tg d env >>= fun env' => pure (.nx env')
theorem dS_asg {tg : Expr} {f : D → EnvD → M EnvD} (he : PE X e (cE X.K X.mg fe)) (hg : PG X tg (cGm X.K X.mg f)) (hs : swapsWithSole [tg] e pos.line X.env = pure false := by rfl) (hw : swappedStores [tg] e X.env = pure none := by rfl)
    (h1 : (assignEach [tg] X.env).map (·.2) = [assign tg X.env] := by rfl) : PS X (.Assign [tg] e pos) (cS X.K X.mg (asgS fe f)) := by
  refine ps_imp (ps_asg he hg hs hw h1) fun De σ H ⟨g, env, s, r, er, h⟩ => ⟨g, env, s, r, er, (St1 h).mono fun d g1 s1 H1 z q v rv => ?_⟩
  refine ⟨g1, env, s1, d, z.rep, er.step z, rv, Out.wp_mono (M.bind_wp q) (fun env' s2 q2 g2 H2 σ2 z2 n2 => ?_) fun _ _ z => z⟩
  exact (show ∀ g' H', Stq X.K X.mg (Owns σ env) g1 s1 H1 g' s2 H' → flP X.K X.mg De σ env H (.nx env') g' H' from q2) g2 H2 (z2.weak fun _ f => f.elim) σ2 ((EnvN.step er z).trans z.stay n2)
/-- a, b = x, y -/
def parS (i j : Nat) (fa : EnvD → M (List D)) : EnvD → M Fl := fun env => fa env >>= fun ds => match ds with
  | [c, d] => pure (.nx ((env.set i (some (.d c))).set j (some (.d d))))
  | _ => M.bad
theorem dS_par (i j : Nat) {x y : Str} {a b : Expr} {px py pt : Pos} {kt k2 pt2} (hc : X.calm = true) (hN : X.N.Nodup) (ha : PA X [a, b] (cA X.K X.mg fa)) (hi : X.N[i]? = some x := by rfl) (hj : X.N[j]? = some y := by rfl) (hij : i ≠ j := by decide)
    (hx : X.env.scope.names.lookup x = some .local := by rfl) (hy : X.env.scope.names.lookup y = some .local := by rfl)
    (hw : swappedStores [.Tuple [.Name x px, .Name y py] kt pt] (.Tuple [a, b] k2 pt2) X.env = pure (some [x, y]) := by rfl)
    (hs : swapsWithSole [.Tuple [.Name x px, .Name y py] kt pt] (.Tuple [a, b] k2 pt2) pos.line X.env = pure false := by rfl) :
    PS X (.Assign [.Tuple [.Name x px, .Name y py] kt pt] (.Tuple [a, b] k2 pt2) pos) (cS X.K X.mg (parS i j fa)) := by
  refine ps_imp (ps_par hc hN hi hj hij hx hy ha hw hs) fun De σ H ⟨g, env, s, r, er, h⟩ => ⟨g, env, s, r, er, (St1 h).mono fun ds g1 s1 H1 z q vs rs => ?_⟩
  split at q
  · cases rs with
    | cons r1 rr =>
      cases rr with
      | cons r2 rr =>
        cases rr
        refine ⟨_, _, rfl, ?_⟩
        have e1 := (er.step z).setD i r1
        refine (show ∀ g' H', Stq X.K X.mg (Owns σ env) g1 s1 H1 g' s1 H' → flP X.K X.mg De σ env H _ g' H' from q) g1 H1 (.refl z.rep) _ ⟨e1.setD j r2, fun a o => .inl (owns_set er.len (owns_set e1.len o))⟩
  · exact (show False from q).elim
end
end Dd

set_option Elab.async false
set_option linter.all false
set_option maxRecDepth 100000
/-! Dd, part N: dicts; max with a default. -/
namespace Dd
open PySem PySem.Spec PyProof.Rows L2
section
variable {X : Cx} {x : Str} {p p2 p3 q pos pos' apos cpos tpos : Pos} {e e2 a o tg : Expr} {es : List Expr} {kws : List Keyword} {fa fk : EnvD → M (List D)} {fe fo f2 : EnvD → M D}
/-! ### max(xs, default=d) -/
def maxdM : List D → List D → M D
  | [.lst xs], [d] => match intsD xs with
    | some [] => pure d
    | some (n :: ns) => pure (.int (ns.foldl max n))
    | none => M.bad
  | _, _ => M.bad
def biK (fo : List D → List D → M D) (fa fk : EnvD → M (List D)) : EnvD → M D := fun env => fa env >>= fun ds => fk env >>= fun es => fo ds es
def rAK (K : PySem.W.Frag) (mg : Str → Option Value) (f : List D → List D → M D) : List V → List V → Hp → VK → Prop := fun xs zs H Q => ∃ g st ds es, Rep K mg g st H ∧ Rvs K mg g xs ds ∧ Rvs K mg g zs es ∧ At K mg g st H (f ds es) fun d g' _ H' => ∀ v, Rv K mg g' v d → Q v H'
theorem cMaxd (hc : X.calm = true) (hu : X.A.units + 66 < cLine) : CallRK X (.builtin "max") [Str.ofString "default"] (rAK X.K X.mg maxdM) := by
  intro pins s σ H xs zs us ws Q I r rz ⟨g, st, ds, es, rp, rs, rse, h⟩
  unfold maxdM at h
  split at h
  · cases rs with
    | cons r1 rr =>
      cases rr
      cases rse with
      | cons r2 rr =>
        cases rr
        cases r1 with
        | lst hq rs =>
          cases rz with
          | cons rz1 rzr =>
            cases rzr
            cases r with
            | cons ra rar =>
              cases rar
              cases ra
              have key : ∀ ns : List Int, intsD _ = some ns → (ns = [] → Q _ H) → (∀ n r, ns = n :: r → Q (.int (r.foldl max n)) H) → wpAny (model X.prog X.w) X.A (call (.builtin "max") [Value.ref _] ([Str.ofString "default"].zip [_])) (EP X pins σ Q) X.xe s := fun ns e h0 h1 => by
                rw [ints_r rs e] at hq
                obtain ⟨its, rv, pl, hz⟩ := I.list (.inl (.inl (rp.sub _ _ hq)))
                have hr : ∃ as, ReadsAll s.heap its (ns.map PyData.int) as := by
                  clear h1 h0 e hq pl
                  have : ∀ (ns : List Int) (its : List Value), Vals (ns.map V.int) its → ∃ as, ReadsAll s.heap its (ns.map PyData.int) as := by
                    intro ns
                    induction ns with
                    | nil => intro its r; cases r; exact ⟨_, .nil⟩
                    | cons n ns ih =>
                      intro its r
                      cases r with
                      | cons r1 r2 =>
                        obtain ⟨t, rfl⟩ := r1
                        obtain ⟨as, h⟩ := ih _ r2
                        exact ⟨_, .cons (.int n t) h⟩
                  exact this ns its rv
                obtain ⟨as, hr⟩ := hr
                have hd : PyData.depthAll (ns.map PyData.int) = 0 := by
                  clear hr rv h1 h0 e hq hz
                  induction ns with
                  | nil => rfl
                  | cons n ns ih => simp [PyData.depthAll, PyData.depth, ih]
                refine PySem.W.max_list_default (I.ok.hd hc) pl.isList (by simpa using hr) ⟨fun x hx y hy => ?_, fun x hx => ?_⟩ (by rw [hd]; omega) (fun e0 h' tk hk => ?_) fun y ys i v h' tk bs e0 hi r hk => ?_
                · obtain ⟨n, _, rfl⟩ := List.mem_map.mp hx
                  obtain ⟨m, _, rfl⟩ := List.mem_map.mp hy
                  simp only [PySem.W.alike]
                · obtain ⟨n, _, rfl⟩ := List.mem_map.mp hx
                  intro z; cases z
                · exact ⟨_, H, I.kept hk, rz1, h0 (List.map_eq_nil_iff.mp e0)⟩
                · cases ns with
                  | nil => cases e0
                  | cons n ns =>
                    rw [List.map_cons] at e0
                    injection e0 with e1 e2
                    subst e1 e2
                    rw [PySem.W.maxD_ints] at r
                    cases r
                    exact ⟨.int _, H, I.kept hk, ⟨_, rfl⟩, h1 n ns rfl⟩
              split at h
              · rename_i e
                exact key [] e (fun _ => (res_of h).here rp r2) fun n r z => by cases z
              · rename_i n ns e
                exact key _ e (fun z => by cases z) fun n' r z => by cases z; exact (res_of h).here rp (.int _)
              · exact (show False from h).elim
  · exact (show False from h).elim
theorem dE_biK {id : String} {ks : List Str} {fo : List D → List D → M D} (hc : CallRK X (.builtin id) ks (rAK X.K X.mg fo)) (hv : bootBuiltins x = some (.builtin id)) (hm : X.mg x = none) (ha : PA X (e :: es) (cA X.K X.mg fa)) (hk : PK X kws (cA X.K X.mg fk)) (hg : Gl X x := by rfl) (hn : x ≠ "__name__" := by decide) (hdb : (x == ("__debug__" : Str)) = false := by decide)
    (he : backTo pos (starEach (e :: es) X.env) = (false, eval e X.env) :: backTo pos (starEach es X.env) := by rfl) (hpl : (backTo pos (starEach (e :: es) X.env)).any (·.1) = false := by rfl)
    (hall : (backToKw pos (keywordEach kws X.env)).all (·.1.isSome) = true := by rfl) (hnone : (backToKw pos (keywordEach kws X.env)).any (·.1.isNone) = false := by rfl) (hks : (backToKw pos (keywordEach kws X.env)).filterMap (·.1) = ks := by rfl) :
    PE X (.Call (.Name x p) (e :: es) kws pos) (cE X.K X.mg (biK fo fa fk)) := by
  refine pe_imp (pe_callBK hc hg hm hv ha hk hn hdb he hpl hall hnone hks) fun σ H Q ⟨g, env, st, r, er, h⟩ => ?_
  refine ⟨g, env, st, r, er, h.bind.mono fun ds g1 st1 H1 s1 q vs rs => ?_⟩
  exact ⟨g1, env, st1, s1.rep, er.step s1, (At.bind q).mono fun ws g2 st2 H2 s2 q2 us ru => ⟨g2, st2, ds, ws, s2.rep, rs.le s2.le, ru, q2⟩⟩
/-! ### {} as a value -/
theorem dE_dict0 : PE X (.Dict [] [] pos) (cE X.K X.mg (cstE (.dct [] []))) := by
  refine ⟨fun pins s σ H Q I ⟨g, env, st, r, er, h⟩ => ?_⟩
  have h : Res X.K X.mg g st H Q (.dct [] []) := h
  refine thn (pe_dnewK.run pins s σ H (fun v H1 => ∃ p, v = .ref p ∧ H p = none ∧ H1 = upd H p (.dK [])) I fun p n => ⟨p, rfl, n, rfl⟩) fun u s1 ⟨v, H1, I1, rv, p, ev, n, e1⟩ => ?_
  subst ev e1
  obtain ⟨od, I2⟩ := I1.lock upd_same trivial
  rw [upd_upd] at I2
  refine ⟨.ref p, _, I2, rv, h _ _ (r.lay (o := .frz od (.dK [])) n) _ ?_⟩
  exact Rv.dct (kvs := []) (o := od) upd_same .nil
/-! ### a dict of one's own -/
def newdS (i : Nat) : EnvD → M Fl := fun env => pure (.nx (env.set i (some (.dic [] []))))
theorem dS_newd (i : Nat) {x : Str} (hN : X.N.Nodup) (hi : X.N[i]? = some x := by rfl) (hx : Loc X.env.scope x := by first | exact .inl rfl | exact .inr rfl) (hs : swapsWith (.Dict [] [] p2) (some (.Name x pos')) pos.line X.env = pure false := by rfl)
    (hf : X.fn x = true ∨ X.env.scope.names.lookup x = some .local := by first | exact .inl rfl | exact .inr rfl | assumption) : PS X (.Assign [.Name x pos'] (.Dict [] [] p2) pos) (cS X.K X.mg (newdS i)) := by
  refine ps_imp (ps_set hN hi hx pe_dnewK hs hf) fun De σ H ⟨g, env, s, r, er, h⟩ => fun p n => ?_
  have z2 := r.new (o := .dK []) n
  have nR : g.R p = none := by
    cases e : g.R p with
    | none => rfl
    | some u => rw [r.sub p u e] at n; cases n
  have nι : p ∉ g.ι := fun m => r.live p m n
  refine (show ∀ g' H', Stq X.K X.mg (Owns σ env) g s H g' s H' → flP X.K X.mg De σ env H (.nx (env.set i (some (.dic [] [])))) g' H' from h) g _ (z2.weak fun _ f => f.elim) _ ⟨(er.step z2).setO i (e0 := .dic [] []) rfl upd_same nR nι (show OwR X.K X.mg g (.dK []) (.dic [] []) from ⟨rfl, .nil⟩) fun j e _ h1 h2 h3 => ?_, fun a o => ?_⟩
  · obtain ⟨ws, q1, _⟩ := Owns.there er ⟨j, e, h1, h2, h3⟩
    rw [n] at q1; cases q1
  · rcases owns_setO er.len o with o | rfl
    · exact .inl o
    · exact .inr n
def keyD : D → Option Key
  | .int i => some (.inl i)
  | .str z => some (.inr z)
  | _ => none
theorem keyD_r {K : PySem.W.Frag} {mg : Str → Option Value} {g : G} {v : V} {d : D} {k : Key} (r : Rv K mg g v d) (e : keyD d = some k) : v = kV k := by
  cases r <;> cases e <;> rfl
def putD (ks : List Key) (xs : List D) (k : Key) (d : D) : List Key × List D :=
  if (ks.any fun k' => decide (k' = k)) = true then (ks, List.zipWith (fun k' x => if k' = k then d else x) ks xs) else (ks ++ [k], xs ++ [d])
theorem putK_any {kvs : List (Key × V)} {k : Key} : ((kvs.any fun kv => decide (kv.1 = k)) = true) ↔ ((kvs.map (·.1)).any fun k' => decide (k' = k)) = true := by
  rw [List.any_map]; exact Iff.rfl
theorem putD_r {K : PySem.W.Frag} {mg : Str → Option Value} {g : G} {v : V} {d : D} {k : Key} (rv : Rv K mg g v d) {kvs : List (Key × V)} {xs : List D} (rs : Rvs K mg g (kvs.map (·.2)) xs) :
    (putK kvs k v).map (·.1) = (putD (kvs.map (·.1)) xs k d).1 ∧ Rvs K mg g ((putK kvs k v).map (·.2)) (putD (kvs.map (·.1)) xs k d).2 := by
  unfold putK putD
  by_cases h : (kvs.any fun kv => decide (kv.1 = k)) = true
  · rw [if_pos h, if_pos (putK_any.mp h)]
    clear h
    refine ⟨?_, ?_⟩
    · rw [List.map_map]
      apply List.map_congr_left
      intro a _
      show (if a.1 = k then (a.1, v) else a).1 = a.1
      split <;> rfl
    · induction kvs generalizing xs with
      | nil => cases rs; exact .nil
      | cons a kvs ih =>
        cases rs with
        | cons r1 rr =>
          rw [List.map_cons, List.map_cons, List.map_cons, List.zipWith_cons_cons]
          refine .cons ?_ (ih rr)
          show Rv K mg g (if a.1 = k then (a.1, v) else a).2 (if a.1 = k then d else _)
          split
          · exact rv
          · exact r1
  · rw [if_neg h, if_neg fun z => h (putK_any.mpr z)]
    refine ⟨by rw [List.map_append]; rfl, ?_⟩
    rw [List.map_append]
    exact rs.app (.cons rv .nil)
def putR (i : Nat) (env : EnvD) (ks : List Key) (xs : List D) (d kd : D) : M Fl := match keyD kd with
  | some k => if ks.length < sizeLine then pure (.nx (env.set i (some (.dic (putD ks xs k d).1 (putD ks xs k d).2)))) else M.bad
  | none => M.bad
def putS (i : Nat) (fe fi : EnvD → M D) : EnvD → M Fl := fun env => fe env >>= fun d => match env[i]? with
  | some (some (.dic ks xs)) => fi env >>= putR i env ks xs d
  | _ => M.bad
theorem St2 {K : PySem.W.Frag} {mg : Str → Option Value} {De : Ends} {α : Type} {m : M α} {k : α → M Fl} {σ : L2.St} {H H0 : Hp} {g : G} {env : EnvD} {st : Sto}
    (h : ((m >>= k) st).wp (fun fl st' => ∀ g' H', Stq K mg (Owns σ env) g st H g' st' H' → flP K mg De σ env H0 fl g' H') (fun _ _ => False)) :
    At K mg g st H m fun a g1 st1 H1 => (k a st1).wp (fun fl st' => ∀ g' H', Stq K mg (Owns σ env) g1 st1 H1 g' st' H' → flP K mg De σ env H0 fl g' H') (fun _ _ => False) :=
  Out.wp_mono (M.bind_wp h) (fun a s q g1 H1 z => Out.wp_mono q (fun fl s2 q2 g2 H2 z2 => q2 g2 H2 ((z.weak (fun _ f => f.elim)).trans z2 fun _ o => .inl o)) fun _ _ z => z) fun _ _ z => z
/-- name[k] = e, the dict one's own -/
theorem dS_put (i : Nat) {x : Str} {ix : Expr} {fi : EnvD → M D} {xp : Pos} (hu : X.A.units + 1 < cLine) (he : PE X e (cE X.K X.mg fe)) (hi : PE X ix (cE X.K X.mg fi)) (hN : X.N[i]? = some x := by rfl) (hv : Vis X.env.scope x := by first | exact Or.inl rfl | exact Or.inr (Or.inl rfl) | exact Or.inr (Or.inr rfl)) (hd : (x == ("__debug__" : Str)) = false := by decide) (hcd : (x == ("__classdict__" : Str)) = false := by decide)
    (ha : ∀ v, assign (.Subscript (.Name x xp) ix tpos) X.env v = (do
      let ov ← holding [v] (eval (.Name x xp) X.env)
      let iv ← holding [v, ov] (eval ix X.env)
      standAt tpos
      holding [v, ov, iv] (setItem ov iv v)
      release [v, ov, iv] []) := by intro _; rfl)
    (hs : swapsWithSole [.Subscript (.Name x xp) ix tpos] e pos.line X.env = pure false := by rfl) (hw : swappedStores [.Subscript (.Name x xp) ix tpos] e X.env = pure none := by rfl)
    (h1 : (assignEach [.Subscript (.Name x xp) ix tpos] X.env).map (·.2) = [assign (.Subscript (.Name x xp) ix tpos) X.env] := by rfl) : PS X (.Assign [.Subscript (.Name x xp) ix tpos] e pos) (cS X.K X.mg (putS i fe fi)) := by
  refine ps_imp (ps_asg he (pg_sub (pe_var hN hv hd hcd) hi (set_dict hu) ha) hs hw h1) fun De σ H ⟨g, env, s, r, er, h⟩ => ⟨g, env, s, r, er, (St1 h).mono fun d g1 s1 H1 z q v rv => ?_⟩
  rcases hi : env[i]? with _ | (_ | (dd | xs | ⟨ks, xs⟩))
  · rw [hi] at q; exact q.elim
  · rw [hi] at q; exact q.elim
  · rw [hi] at q; exact q.elim
  · rw [hi] at q; exact q.elim
  rw [hi] at q
  have er1 := er.step z
  obtain ⟨w, hw, l, u, rfl, h1, h2, h3, h4⟩ := er1.val i _ hi
  have q : ((fi env >>= putR i env ks xs d) s1).wp (fun fl st' => ∀ g' H', Stq X.K X.mg (Owns σ env) g1 s1 H1 g' st' H' → flP X.K X.mg De σ env H fl g' H') (fun _ _ => False) := q
  refine ⟨_, hw, g1, env, s1, z.rep, er1, (St2 q).mono fun kd g2 s2 H2 z2 q2 kv rk => ?_⟩
  unfold putR at q2
  rcases hk : keyD kd with _ | k
  · rw [hk] at q2; exact q2.elim
  rw [hk] at q2
  dsimp only at q2
  by_cases hz : ks.length < sizeLine
  · rw [if_pos hz] at q2
    have er2 := er1.step z2
    obtain ⟨w', hw', l', u', e1, q1, q3, q4, q5⟩ := er2.val i _ hi
    rw [hw] at hw'; cases hw'; cases e1
    have isd : ∃ kvs, u' = .dK kvs ∧ kvs.map (·.1) = ks ∧ Rvs X.K X.mg g2 (kvs.map (·.2)) xs := by
      cases u' with
      | dK kvs => exact ⟨kvs, rfl, q5⟩
      | _ => exact (show False from q5).elim
    obtain ⟨kvs, rfl, ek, rs⟩ := isd
    have e2 := keyD_r rk hk
    subst e2
    have lk : kvs.length < sizeLine := by rw [← ek, List.length_map] at hz; exact hz
    obtain ⟨p1, p2⟩ := putD_r (k := k) (rv.le z2.le) rs
    rw [ek] at p1 p2
    refine ⟨l, _, rfl, DPut.k q1 lk, ?_⟩
    have n := er2.chg (e1 := .dic (putD ks xs k d).1 (putD ks xs k d).2) (u := .dK (putK kvs k v)) rfl rfl hi hw ⟨p1, p2⟩
    have z3 : Stq X.K X.mg (Owns σ env) g2 s2 H2 g2 s2 (upd H2 l (.dK (putK kvs k v))) := z2.rep.chg q1 q3 q4 ⟨i, _, hi, rfl, hw⟩
    refine (show ∀ g' H', Stq X.K X.mg (Owns σ env) g2 s2 H2 g' s2 H' → flP X.K X.mg De σ env H (.nx (env.set i (some (.dic (putD ks xs k d).1 (putD ks xs k d).2)))) g' H' from q2) g2 _ z3 σ ⟨n.r, fun a o => (n.o a o).elim .inl fun e => .inr ?_⟩
    cases e3 : H a with
    | none => rfl
    | some u => exact absurd e (z2.stay a (z.stay a (by rw [e3]; simp)))
  · rw [if_neg hz] at q2; exact q2.elim
/-- .. is frozen, ahead of a statement -/
def frzD (i : Nat) (env : EnvD) : EnvD := match env[i]? with
  | some (some (.dic ks xs)) => env.set i (some (.d (.dct ks xs)))
  | _ => env
def frzDS (i : Nat) (f : EnvD → M Fl) : EnvD → M Fl := fun env => f (frzD i env)
theorem dS_frzD (i : Nat) {st : Stmt} {f : EnvD → M Fl} (h : PS X st (cS X.K X.mg f)) : PS X st (cS X.K X.mg (frzDS i f)) := by
  refine ⟨fun pins s σ H De I hw => ?_⟩
  obtain ⟨g, env, st', r, er, hw⟩ := hw
  unfold frzDS frzD at hw
  rcases hi : env[i]? with _ | (_ | (dd | xs | ⟨ks, xs⟩))
  · rw [hi] at hw; exact h.run pins s σ H De I ⟨g, env, st', r, er, hw⟩
  · rw [hi] at hw; exact h.run pins s σ H De I ⟨g, env, st', r, er, hw⟩
  · rw [hi] at hw; exact h.run pins s σ H De I ⟨g, env, st', r, er, hw⟩
  · rw [hi] at hw; exact h.run pins s σ H De I ⟨g, env, st', r, er, hw⟩
  rw [hi] at hw
  obtain ⟨v, hv, l, u, rfl, h1, h2, h3, h4⟩ := er.val i _ hi
  have isd : ∃ kvs, u = .dK kvs ∧ kvs.map (·.1) = ks ∧ Rvs X.K X.mg g (kvs.map (·.2)) xs := by
    cases u with
    | dK kvs => exact ⟨kvs, rfl, h4⟩
    | _ => exact (show False from h4).elim
  obtain ⟨kvs, rfl, ek, rs⟩ := isd
  subst ek
  obtain ⟨od, I2⟩ := I.lock h1 trivial
  have le : Gle g { g with R := upd g.R l (.frz od (.dK kvs)) } := ⟨fun a o h => by
    show upd g.R l _ a = some o
    rw [upd_ne fun z => by rw [z, h2] at h; cases h]
    exact h, [], by simp⟩
  obtain ⟨z, n⟩ := freezeAt (u := .frz od (.dK kvs)) (d := .dct (kvs.map (·.1)) xs) r er hi rfl hv h1 h2 h3 (Rv.dct upd_same (rs.le le))
  refine h.run pins s σ _ De I2 ⟨_, _, st', z.rep, n.r, Out.wp_mono hw (fun fl s2 q2 g2 H2 z2 => flP_trans n z.stay (q2 g2 H2 (z.trans z2 n.o))) fun _ _ z => z⟩
/-! ### for k in a dict -/
def keyV : Key → D
  | .inl i => .int i
  | .inr z => .str z
def keysI (f : EnvD → M D) : EnvD → M (List D) := fun env => f env >>= fun d => match d with
  | .dct ks xs => pure (ks.map keyV)
  | _ => M.bad
theorem dI_keys (he : PE X e (cE X.K X.mg fe)) : PI X tg e (cI X.K X.mg (keysI fe)) := by
  refine pi_imp (pi_keys he) fun σ H R ⟨g, env, st, r, er, h⟩ => ?_
  refine ⟨g, env, st, r, er, h.bind.mono fun d g1 st1 H1 s1 q v rv => ?_⟩
  split at q
  · cases rv with
    | @dct a o kvs ds hq rs =>
      refine ⟨a, o, rfl, .inl ⟨kvs, s1.rep.sub _ _ hq, At.pure s1.rep q _ ?_⟩⟩
      refine ⟨fun i g2 st2 H2 l p hi => ⟨p.sub _ _ (l.R _ _ hq), by simpa using hi⟩, fun g2 st2 H2 l p => ⟨p.sub _ _ (l.R _ _ hq), by simp⟩, fun i g2 st2 H2 d y H3 l p e h => ?_⟩
      obtain ⟨e1, k, v, hk, rfl⟩ := h
      rw [e1]
      refine ⟨g2, .refl p, ?_⟩
      simp [hk] at e
      subst e
      cases k with
      | inl i => exact .int i
      | inr z => exact .str z
  · exact (show False from q).elim
end
end Dd

set_option Elab.async false
set_option linter.all false
set_option maxRecDepth 100000
/-! Dd, part R: how the printed walks name the rules. -/
namespace Dd
open PySem PySem.Spec PyProof.Rows L2
theorem u66 {k : Nat} {A : Around} (r : Room k A) : A.units + 66 < cLine := by have := r.un; omega
theorem u65 {k : Nat} {A : Around} (r : Room k A) : A.units + 65 < cLine := by have := r.un; omega
theorem u64 {k : Nat} {A : Around} (r : Room k A) : A.units + 64 < cLine := by have := r.un; omega
theorem u1 {k : Nat} {A : Around} (r : Room k A) : A.units + 1 < cLine := by have := r.un; omega
/-- a def of the top, walked: its promise, its name, how its values bind -/
structure Wk (P : Program) (w : World) (K : PySem.W.Frag) (mg : Str → Option Value) (base : Heap) (st : Stmt) (x : Str) (dvs : List V) (k : Nat) (ps : List Str) (F : List D → M D) : Prop where
  ex : ∃ (f : Addr) (fd : FuncData), FunD K x x (defArgs st) (defBody st) (defScope st) dvs [] f fd ∧ FnG P w K mg base k f fd ps (spD K mg F) ∧ mg x = some (.ref f) ∧ ∃ ds, Vals [] ds ∧ Binds K fd ps ds
section
variable {P : Program} {w : World} {K : PySem.W.Frag} {mg : Str → Option Value} {base : Heap} {st : Stmt} {x : Str} {k : Nat} {ps : List Str} {F : List D → M D} {f : Addr} {fd : FuncData} {dvs : List V}
theorem Wk.ofN (D : FunD K x x (defArgs st) (defBody st) (defScope st) [] [] f fd) (G : FnG P w K mg base k f fd ps (spD K mg F)) (hm : mg x = some (.ref f))
    (h : ∀ (kV doc pm : Value) (an : Option Addr) (cdv ct : Value) (us : List Value), us.length = ps.length → bindArgs (PySem.W.fnOf x x (defArgs st) (defBody st) (defScope st) .none kV doc pm an cdv ct) ⟨us, []⟩ = pure (ps.zip us)) : Wk P w K mg base st x [] k ps F :=
  ⟨f, fd, D, G, hm, [], .nil, D.bindsN h⟩
theorem Wk.ofD (D : FunD K x x (defArgs st) (defBody st) (defScope st) dvs [] f fd) (hd : dvs ≠ []) (G : FnG P w K mg base k f fd ps (spD K mg F)) (hm : mg x = some (.ref f))
    (h : ∀ (T : Addr) (kV doc pm : Value) (an : Option Addr) (cdv ct : Value) (us its : List Value), us.length = ps.length → its.length = dvs.length →
      ∃ k, bindArgs (PySem.W.fnOf x x (defArgs st) (defBody st) (defScope st) (.ref T) kV doc pm an cdv ct) ⟨us, []⟩ = seqItems? (.ref T) >>= k ∧ k (some its.toArray) = pure (ps.zip us)) : Wk P w K mg base st x dvs k ps F := by
  obtain ⟨ds, h1, h2⟩ := D.binds1 (ps := ps) ps.length dvs.length hd (by omega) fun T kV doc pm an cdv ct us its l1 l2 => by
    obtain ⟨k, e1, e2⟩ := h T kV doc pm an cdv ct us its l1 l2
    refine ⟨k, e1, ?_⟩
    rw [← l2, List.drop_length, List.append_nil]
    exact e2
  refine ⟨f, fd, D, G, hm, ds, ?_, h2⟩
  rw [List.drop_length] at h1
  exact h1
end
section
variable {X : Cx} {k k' : Nat} {st : Stmt} {x : Str} {dvs : List V} {ps ks : List Str} {F : List D → M D} {p pos : Pos} {e : Expr} {es : List Expr} {kws : List Keyword} {fa fk : EnvD → M (List D)}
def callW (F : List D → M D) (fa : EnvD → M (List D)) : EnvD → M D := fun env => fa env >>= F
theorem dE_cw (W : Wk X.prog X.w X.K X.mg X.base st x dvs k ps F) (hr : Room k' X.A) (hgd : X.A.guards = some []) (hk : k ≤ k') (ha : PA X (e :: es) (cA X.K X.mg fa)) (hg : Gl X x := by rfl) (hdb : (x == ("__debug__" : Str)) = false := by decide)
    (he : starEach (e :: es) X.env = (false, eval e X.env) :: starEach es X.env := by rfl) (hpl : (backTo pos (starEach es X.env)).any (·.1) = false := by rfl) : PE X (.Call (.Name x p) (e :: es) [] pos) (cE X.K X.mg (callW F fa)) := by
  obtain ⟨f, fd, D, G, hm, hb⟩ := W.ex
  have h := dE_call (p := p) (pos := pos) (dds := []) G (hr.mono hk) hgd hm D.kp hb (fun _ => .nil) ha hg hdb he hpl
  have e : callE F [] fa = callW F fa := by
    funext env
    show (fa env >>= fun ds => F (ds ++ [])) = fa env >>= F
    congr 1
    funext ds
    rw [List.append_nil]
  rw [e] at h
  exact h
/-- the keywords' order -/
theorem Wk.kw {P : Program} {w : World} {K : PySem.W.Frag} {mg : Str → Option Value} {base : Heap} (W : Wk P w K mg base st x [] k ps F) (n : Nat) (ks : List Str) (pm : List Nat)
    (h : ∀ (kV doc pm' : Value) (an : Option Addr) (cdv ct : Value) (us ws : List Value), us.length = n → ws.length = ks.length → bindArgs (PySem.W.fnOf x x (defArgs st) (defBody st) (defScope st) .none kV doc pm' an cdv ct) ⟨us, ks.zip ws⟩ = pure (ps.zip (permL pm (us ++ ws)))) :
    ∃ f fd, FunD K x x (defArgs st) (defBody st) (defScope st) [] [] f fd ∧ FnG P w K mg base k f fd ps (spD K mg F) ∧ mg x = some (.ref f) ∧ ∀ (s : Shared) (us ws : List Value), K.In s.heap → us.length = n → ws.length = ks.length → BindsTo s fd ⟨us, ks.zip ws⟩ (ps.zip (permL pm (us ++ ws))) := by
  obtain ⟨f, fd, D, G, hm, hb⟩ := W.ex
  refine ⟨f, fd, D, G, hm, fun s us ws _ l1 l2 => ?_⟩
  obtain ⟨oc, od, dV, kV, doc, pm', an, cdv, ct, osl, rfl, lk, hcd, hD, hK⟩ := D.ex
  rcases hD with ⟨_, rfl⟩ | ⟨e, _⟩
  · exact .of_eq (h kV doc pm' an cdv ct us ws l1 l2)
  · exact absurd rfl e
theorem dE_ckw (W : ∃ f fd, FunD X.K x x (defArgs st) (defBody st) (defScope st) [] [] f fd ∧ FnG X.prog X.w X.K X.mg X.base k f fd ps (spD X.K X.mg F) ∧ X.mg x = some (.ref f) ∧ ∀ (s : Shared) (us ws : List Value), X.K.In s.heap → us.length = 0 → ws.length = ks.length → BindsTo s fd ⟨us, ks.zip ws⟩ (ps.zip (permL pm (us ++ ws)))) (hr : Room k' X.A) (hgd : X.A.guards = some []) (hk : k ≤ k') {m : Nat} (hml : ks.length = m)
    (hkw : PK X kws (cA X.K X.mg fk)) (hg : Gl X x := by rfl) (hall : (backToKw pos (keywordEach kws X.env)).all (·.1.isSome) = true := by rfl) (hks : (backToKw pos (keywordEach kws X.env)).filterMap (·.1) = ks := by rfl)
    (hdb : (x == ("__debug__" : Str)) = false := by decide)
    (hpl : ((backTo pos (starEach [] X.env)).any (·.1) || (backToKw pos (keywordEach kws X.env)).any (·.1.isNone)) = false := by rfl) :
    PE X (.Call (.Name x p) [] kws pos) (cE X.K X.mg (callK F pm 0 m nilA fk)) := by
  subst hml
  obtain ⟨f, fd, D, G, hm, hb⟩ := W
  exact dE_callK0 G pm (hr.mono hk) hgd hm D.kp hb hkw hg hall hks hdb hpl
theorem dE_gs {z : Str} (hm : ∃ t, X.mg x = some (.str z t)) (hg : Gl X x := by rfl) (hd : (x == ("__debug__" : Str)) = false := by decide) : PE X (.Name x pos) (cE X.K X.mg (cstE (.str z))) := by
  obtain ⟨t, hm⟩ := hm
  exact dE_glob (v := .str z) (fun _ => .str z) hg hm ⟨t, rfl⟩ hd
theorem dE_gi {i : Int} (hm : ∃ t, X.mg x = some (.int i t)) (hg : Gl X x := by rfl) (hd : (x == ("__debug__" : Str)) = false := by decide) : PE X (.Name x pos) (cE X.K X.mg (cstE (.int i))) := by
  obtain ⟨t, hm⟩ := hm
  exact dE_glob (v := .int i) (fun _ => .int i) hg hm ⟨t, rfl⟩ hd
theorem bm (b : Expr) {op : CmpOp} (h : op ≠ .In := by decide) (h2 : op ≠ .NotIn := by decide) : behindInMarks op b = false := nomark b h h2
end
end Dd

set_option Elab.async false
set_option linter.all false
set_option maxRecDepth 100000
/-! Dd, part Z: a law's end. -/
namespace Dd
open PySem PySem.Spec PyProof.Rows L2
/-- what the law's def is asked: of the script's list, True -/
def spLaw (K : PySem.W.Frag) : Sp := fun vs H Q _ => ∃ (a : Addr) (ns : List Int), vs = [.ref a] ∧ ns.length ≤ 63 ∧ SqL K H a (ns.map V.int) ∧ ∀ H', Q (.bl true) H'
theorem spLaw_of {K : PySem.W.Frag} {mg : Str → Option Value} {F : List D → M D} (plain : ∀ ns : List Int, ns.length ≤ 63 → (F [.frl (ns.map D.int)] []).wp (fun d _ => d = .bl true) fun _ _ => False) {vs : List V} {H : Hp} {Q : VK} {E : XK} (h : spLaw K vs H Q E) : spD K mg F vs H Q E := by
  obtain ⟨a, ns, rfl, hl, hS, q⟩ := h
  refine ⟨⟨H, []⟩, [], [.frl (ns.map D.int)], ⟨fun _ _ h => h, rfl, fun a m => (by cases m), fun n m a h => (by simp at h), fun n a c h => (by simp at h)⟩, .cons (.frl hS (ints_rvs ns)) .nil, Out.wp_mono (plain ns hl) (fun d s e g' H' z v rv => ?_) fun _ _ z => z⟩
  subst e
  cases rv
  exact q H'
/-- the call of the law's def, behind the top -/
theorem call_law {P : Program} {w : World} {K : PySem.W.Frag} {mg mb : Str → Option Value} {k : Nat} {fa a : Addr} {fd : FuncData} {x : Str} {s : Shared} {vs : List Value} {ns : List Int}
    (KX : K.In s.heap) (hns : s.heap.Ns mainGlobals mg) (hb : s.heap.Ns builtinsNs mb) (hbb : ∀ x : Str, x ≠ "__name__" → mb x = bootBuiltins x) (hlim : s.heap.NoLimit) (hg : s.gens = #[])
    (ha : s.heap.get? a = some { cls := .type "list", data := .seq vs.toArray }) (hi : IntsAre vs ns) (hl : ns.length ≤ 63) (hr : Room k callerA)
    (F : ∀ base : Heap, K.In base → base.Ns mainGlobals mg → FnG P w K mg base k fa fd [x] (spLaw K)) (hbind : ∀ (s : Shared) (u : Value), BindsTo s fd ⟨[u], []⟩ [(x, u)]) :
    codeAny (model P w) callerA (.call (.ref fa) ⟨[.ref a], []⟩) (fun r s' => r = .ok (.ret (.bool true)) ∧ OldK s.heap s'.heap ∧ s'.os = s.os ∧ AllBare s'.gens) s := by
  have rv : Vals (ns.map V.int) vs := vals_ints hi
  have hz : ns.length ≤ sizeLine := Nat.le_trans hl (by decide)
  have main : ∀ H : Hp, (∀ b, H b = none ∨ (b = a ∧ K.lookup a = none ∧ H b = some (.frz { cls := .type "list", data := .seq vs.toArray } (.lst (ns.map V.int))))) → SqL K H a (ns.map V.int) →
      codeAny (model P w) callerA (.call (.ref fa) ⟨[.ref a], []⟩) (fun r s' => r = .ok (.ret (.bool true)) ∧ OldK s.heap s'.heap ∧ s'.os = s.os ∧ AllBare s'.gens) s := fun H hH hS => by
    have hok : HOk P w H s.heap := fun b u e => by
      rcases hH b with z | ⟨rfl, _, z⟩
      · rw [z] at e; cases e
      · rw [z] at e; cases e
        exact ⟨ha, by rw [List.length_map]; exact hz, vs, _, rv, ha⟩
    have dictN : ∀ {b : Addr} {o : Obj} {es : Array DictEntry} {ep : Nat}, s.heap.get? b = some o → o.data = .dict es ep → H b = none := fun {b o es ep} e d => by
      rcases hH b with z | ⟨rfl, _, _⟩
      · exact z
      · rw [ha] at e; cases e
        have d' : Data.seq vs.toArray _ = Data.dict es ep := d
        cases d'
    have nsK : ∀ {b : Addr} {m : Str → Option Value}, s.heap.Ns b m → (hidT s.heap H).Ns b m := fun {b m} ⟨o, es, ep, e, d, r⟩ => ⟨o, es, ep, hidT_get e (dictN e d), d, r⟩
    have hKb : K.In (hidT s.heap H) := fun b o e => hidT_get (KX b o e) (by
      rcases hH b with z | ⟨rfl, z, _⟩
      · exact z
      · rw [z] at e; cases e)
    have hM : Mod K mg (hidT s.heap H) := ⟨hKb, nsK hns, ⟨mb, nsK hb, hbb⟩, let ⟨mc, h1, h2⟩ := hlim; ⟨mc, nsK h1, h2⟩⟩
    have e0 : Env0 P w K mg (hidT s.heap H) callerA [] s H := ⟨rfl, hM, fun b o e => of_hidT e, Nat.le_of_eq (hidT_size _ _), trivial, fun b hb => absurd (show b ∈ ([] : List Addr) from hb) (by simp), hok, .of_eq hg⟩
    refine codeAny_mono ((F _ hKb (nsK hns)).run callerA [] s H ⟨[.ref a], []⟩ [.ref a] [.ref a] (fun v _ => v = .bl true) hr rfl e0 (hbind s (.ref a)) (.cons rfl .nil) ⟨a, ns, rfl, hl, hS, fun _ => rfl⟩) fun r s' h => ?_
    cases r with
    | error e => exact (show False from h).elim
    | ok fl =>
      cases fl with
      | next => exact False.elim h
      | brk => exact False.elim h
      | cont => exact False.elim h
      | ret u =>
        obtain ⟨v, H', os, bare, un, hok', r', q⟩ := h
        have q' : v = .bl true := q
        subst q'
        obtain rfl : u = Value.bool true := r'
        refine ⟨rfl, OldK.of_keep fun b o e => ?_, os, bare⟩
        rcases hH b with z | ⟨rfl, _, z⟩
        · exact un.keep b o e z (fun z => absurd (show b ∈ ([] : List Addr) from z) (by simp)) (by simp)
        · obtain ⟨e2, _⟩ := hok' b _ (un.frzs b _ _ z)
          rw [e] at ha
          rw [e2, ha]
  cases hk : K.lookup a with
  | some o =>
    have e := KX a o hk
    rw [ha] at e
    cases e
    exact main (fun _ => none) (fun _ => .inl rfl) (.inr ⟨_, vs.toArray, _, hk, rfl, rfl, rfl, by rw [List.size_toArray, hi.length]; exact hz, by simpa using rv⟩)
  | none =>
    refine main (upd (fun _ => none) a (.frz { cls := .type "list", data := .seq vs.toArray } (.lst (ns.map V.int)))) (fun b => ?_) (.inl (.inr ⟨_, upd_same⟩))
    by_cases hb : b = a
    · subst hb; exact .inr ⟨rfl, hk, upd_same⟩
    · exact .inl (upd_ne hb)
theorem walk_ofG {l : PySem.W.OpenLaw} {k : Nat} {q : Program} {loose : List Str} {XP : (Str → Option Value) → Heap → Prop} {YP : World → Heap → Prop} {d : DefRec} {x : Str}
    (hn : l.most = some 63) (hdf : d.params.defaults = []) (hr : Room k callerA)
    (F : ∀ (w : World) (mg : Str → Option Value) (fa : Addr) (h : Heap), YP w h → h.Ns mainGlobals mg → mg d.name = some (.ref fa) →
      ∃ (K : PySem.W.Frag) (fd : FuncData), K.In h ∧ (∀ (s : Shared) (u : Value), BindsTo s fd ⟨[u], []⟩ [(x, u)]) ∧ ∀ base : Heap, K.In base → base.Ns mainGlobals mg → FnG l.prog w K mg base k fa fd [x] (spLaw K)) :
    PySem.W.WalkO q loose XP YP l.row.toRowW d [] (fun f vs => PySem.call f vs) := by
  refine Att.attach_call hn hdf fun w s₀ s₁ mg mb fa o pm cd doc a vs ns G Y ho hd hcd hmg hobj hints hlen hg => ?_
  obtain ⟨K, fd, KX, hb, hF⟩ := F w mg fa _ Y G.T.g hmg
  exact call_law KX G.T.g G.T.b G.T.builtins G.T.nolimit hg hobj hints hlen hr hF hb
theorem FnG.imp {P : Program} {w : World} {K : PySem.W.Frag} {mg : Str → Option Value} {base : Heap} {k : Nat} {f : Addr} {fd : FuncData} {ps : List Str} {sp sp' : Sp} (F : FnG P w K mg base k f fd ps sp) (h : ∀ vs H Q E, sp' vs H Q E → sp vs H Q E) : FnG P w K mg base k f fd ps sp' :=
  ⟨fun vs H Q E q => F.len vs H Q E (h _ _ _ _ q), fun A outer s H args us vs Q hr hg he hb hv hs => F.run A outer s H args us vs Q hr hg he hb hv (h _ _ _ _ hs)⟩
end Dd

set_option Elab.async false
set_option linter.all false
set_option maxRecDepth 100000
namespace Dd
open PySem PySem.Spec PyProof.Rows L2
def b__law_pot : EnvD → M Fl := seqS (setS 2 (iteE (tstE (binE ltM (varE 1) (biE lenM (consA (varE 0) (nilA))))) (biE absM (consA (binE ixM (varE 0) (varE 1)) (nilA))) (binE addM (binE mulA (cstE (.int 2239)) (varE 1)) (cstE (.int 1579)))))
    (retS (boxE (consA (biE maxM (consA (cstE (.int 0)) (consA (binE subM (varE 2) (binE powM (cstE (.int 10)) (cstE (.int 18)))) (nilA)))) (consA (binE addM (binE modM (biE intM (consA (binE addM (binE addM (binE mulA (binE modM (biE intM (consA (varE 2) (nilA))) (cstE (.int 2147483549))) (cstE (.int 40014))) (binE mulA (cstE (.int 16007)) (varE 1))) (cstE (.int 937))) (nilA))) (cstE (.int 2147483563))) (cstE (.int 1))) (nilA)))))
def F__law_pot : List D → M D := runF 2 3 b__law_pot
def b__law_is_count : EnvD → M Fl := retS (andE (biE isiM (consA (varE 0) (consA (cstE (.ty "int")) (nilA)))) (andE (notE (biE isiM (consA (varE 0) (consA (cstE (.ty "bool")) (nilA))))) (binE geM (varE 0) (cstE (.int 0)))))
def F__law_is_count : List D → M D := runF 1 1 b__law_is_count
def b__law_are_places : EnvD → M Fl := seqS (ifS (orT (notT (tstE (biE isiM (consA (varE 0) (consA (cstE (.ty "tuple")) (nilA)))))) (notT (tstE (biE allM (consA (lcE (anyI (varE 0)) (nameG 4) (yesT) (andE (callW F__law_is_count (consA (varE 4) (nilA))) (binE ltM (varE 4) (varE 1))) [4]) (nilA)))))) (retS (cstE (.bl false))) (nxtS))
    (retS (biE allM (consA (lcE (zipI (varE 0) (slE (varE 0) (partE (cstE (.int 1))) noE)) (tupG 2 (consG (nameG 2) (consG (nameG 3) (nilG)))) (yesT) (binE ltM (varE 2) (varE 3)) [2, 3]) (nilA))))
def F__law_are_places : List D → M D := runF 2 5 b__law_are_places
def b__law_is_list : EnvD → M Fl := seqS (ifS (orT (notT (tstE (biE isiM (consA (varE 3) (consA (cstE (.ty "tuple")) (nilA)))))) (notT (tstE (biE allM (consA (lcE (anyI (varE 3)) (nameG 7) (yesT) (andE (biE isiM (consA (varE 7) (consA (cstE (.ty "tuple")) (nilA)))) (binE eqM (biE lenM (consA (varE 7) (nilA))) (cstE (.int 2)))) [7]) (nilA)))))) (retS (cstE (.bl false))) (nxtS))
    (seqS (setS 4 (unE negM (cstE (.int 1))))
    (seqS (forS (anyI (varE 3)) (tupG 2 (consG (nameG 5) (consG (nameG 6) (nilG)))) (seqS (ifS (orT (notT (tstE (callW F__law_is_count (consA (varE 5) (nilA))))) (orT (tstE (binE geM (varE 5) (biE lenM (consA (varE 2) (nilA))))) (orT (tstE (binE leM (varE 5) (varE 4))) (tstE (binE isM (binE ixM (varE 2) (varE 5)) (cstE .non)))))) (retS (cstE (.bl false))) (nxtS))
    (seqS (ifS (orT (notT (tstE (callW F__law_are_places (consA (varE 6) (consA (binE ixM (varE 2) (varE 5)) (nilA)))))) (tstE (binE eqM (varE 6) (tupE (nilA))))) (retS (cstE (.bl false))) (nxtS))
    (setS 4 (varE 5)))))
    (retS (cstE (.bl true)))))
def F__law_is_list : List D → M D := runF 4 8 b__law_is_list
def b__law_are_postings : EnvD → M Fl := seqS (ifS (orT (notT (tstE (biE isiM (consA (varE 0) (consA (cstE (.ty "tuple")) (nilA)))))) (orT (tstE (binE neM (biE lenM (consA (varE 0) (nilA))) (cstE (.int 3)))) (orT (notT (tstE (callW F__law_is_count (consA (binE ixM (varE 0) (cstE (.int 0))) (nilA))))) (notT (tstE (chnE leM leM (cstE (.int 1)) (binE ixM (varE 0) (cstE (.int 0))) (cstE (.int 4)))))))) (retS (cstE (.bl false))) (nxtS))
    (seqS (asgS (varE 0) (tupGm 3 (consGm (pureG (nameG 1)) (consGm (pureG (nameG 2)) (consGm (pureG (nameG 3)) (nilGm))))))
    (seqS (ifS (orT (notT (tstE (biE isiM (consA (varE 2) (consA (cstE (.ty "tuple")) (nilA)))))) (orT (tstE (binE gtM (biE lenM (consA (varE 2) (nilA))) (cstE (.int 8)))) (orT (notT (tstE (biE isiM (consA (varE 3) (consA (cstE (.ty "tuple")) (nilA)))))) (tstE (binE neM (biE lenM (consA (varE 3) (nilA))) (varE 1)))))) (retS (cstE (.bl false))) (nxtS))
    (seqS (ifS (notT (tstE (biE allM (consA (lcE (anyI (varE 2)) (nameG 10) (yesT) (orE (binE isM (varE 10) (cstE .non)) (andE (callW F__law_is_count (consA (varE 10) (nilA))) (binE ltM (varE 10) (cstE (.int 61))))) [10]) (nilA))))) (retS (cstE (.bl false))) (nxtS))
    (seqS (ifS (notT (tstE (biE allM (consA (lcE (enumI (varE 3)) (tupG 2 (consG (nameG 11) (consG (nameG 10) (nilG)))) (yesT) (callW F__law_is_list (consA (varE 1) (consA (varE 11) (consA (varE 2) (consA (varE 10) (nilA)))))) [11, 10]) (nilA))))) (retS (cstE (.bl false))) (nxtS))
    (seqS (forS (enumI (varE 2)) (tupG 2 (consG (nameG 4) (consG (nameG 5) (nilG)))) (seqS (ownS 6 (nilA))
    (seqS (forS (anyI (varE 3)) (nameG 7) (forS (anyI (varE 7)) (tupG 2 (consG (nameG 8) (consG (nameG 9) (nilG)))) (growS manyD 6 (iteE (tstE (binE eqM (varE 8) (varE 4))) (varE 9) (tupE (nilA))))))
    (frzS 6 (ifS (tstE (binE neM (biE sortedM (consA (varE 6) (nilA))) (unE lrgM (iteE (tstE (binE isntM (varE 5) (cstE .non))) (varE 5) (cstE (.int 0)))))) (retS (cstE (.bl false))) (nxtS))))))
    (retS (cstE (.bl true))))))))
def F__law_are_postings : List D → M D := runF 1 12 b__law_are_postings
def b__law_draw : EnvD → M Fl := seqS (ifS (tstE (binE gtM (binE ixB (varE 0) (cstE (.int 0))) (cstE (.int 0)))) (seqS (asgS (biE divmodM (consA (binE ixB (varE 0) (cstE (.int 0))) (consA (varE 1) (nilA)))) (tupGm 2 (consGm (bsetG (varE 0) (cstE (.int 0))) (consGm (pureG (nameG 2)) (nilGm)))))
    (retS (varE 2))) (nxtS))
    (seqS (asgS (binE modM (biE intM (consA (binE addM (binE mulA (binE ixB (varE 0) (cstE (.int 1))) (cstE (.int 40692))) (cstE (.int 9901))) (nilA))) (cstE (.int 2147483563))) (bsetG (varE 0) (cstE (.int 1))))
    (retS (binE modM (biE intM (consA (binE fdivM (binE modM (biE intM (consA (binE mulA (binE ixB (varE 0) (cstE (.int 1))) (binE ixB (varE 0) (cstE (.int 1)))) (nilA))) (cstE (.int 2147483549))) (cstE (.int 19))) (nilA))) (varE 1))))
def F__law_draw : List D → M D := runF 2 3 b__law_draw
def b__law_other : EnvD → M Fl := retS (binE addM (binE addM (slE (varE 0) noE (partE (varE 1))) (tupE (consA (varE 2) (nilA)))) (slE (varE 0) (partE (binE addM (varE 1) (cstE (.int 1)))) noE))
def F__law_other : List D → M D := runF 3 3 b__law_other
def b__law_bent : EnvD → M Fl := seqS (asgS (varE 1) (tupGm 3 (consGm (pureG (nameG 6)) (consGm (pureG (nameG 7)) (consGm (pureG (nameG 8)) (nilGm))))))
    (seqS (ownS 2 (consA (varE 1) (consA (biE listM (consA (varE 1) (nilA))) (consA (slE (varE 1) noE (partE (cstE (.int 2)))) (consA (binE addM (varE 1) (tupE (consA (cstE (.int 0)) (nilA)))) (consA (tupE (consA (varE 6) (consA (biE listM (consA (varE 7) (nilA))) (consA (varE 8) (nilA))))) (consA (tupE (consA (varE 6) (consA (varE 7) (consA (biE listM (consA (varE 8) (nilA))) (nilA))))) (nilA))))))))
    (seqS (growS manyD 2 (lcE (anyI (tupE (consA (binE addM (varE 6) (cstE (.int 1))) (consA (cstE (.int 0)) (consA (cstE (.int 5)) (consA (cstE (.bl true)) (consA (cstE .non) (consA (cstE (.str "2")) (nilA))))))))) (nameG 12) (yesT) (tupE (consA (varE 12) (consA (varE 7) (consA (varE 8) (nilA))))) [12]))
    (seqS (growS manyD 2 (lcE (anyI (tupE (consA (cstE .non) (consA (cstE (.int 0)) (consA (cstE (.int 1)) (consA (cstE (.int 61)) (consA (cstE (.bl true)) (consA (cstE (.str "0")) (consA (unE negM (cstE (.int 1))) (nilA)))))))))) (nameG 12) (yesT) (tupE (consA (varE 6) (consA (binE addM (varE 7) (tupE (consA (varE 12) (nilA)))) (consA (varE 8) (nilA))))) [12]))
    (seqS (growS oneD 2 (tupE (consA (varE 6) (consA (slE (varE 7) (partE (cstE (.int 1))) noE) (consA (varE 8) (nilA))))))
    (seqS (ifS (tstE (binE neM (varE 7) (tupE (nilA)))) (seqS (setS 9 (callW F__law_draw (consA (varE 0) (consA (biE lenM (consA (varE 7) (nilA))) (nilA)))))
    (seqS (setS 10 (iteE (tstE (binE isntM (binE ixM (varE 7) (varE 9)) (cstE .non))) (binE ixM (varE 7) (varE 9)) (cstE (.int 1))))
    (growS manyD 2 (lcE (anyI (tupE (consA (binE addM (varE 10) (cstE (.int 1))) (consA (binE subM (varE 10) (cstE (.int 1))) (consA (cstE .non) (consA (cstE (.int 0)) (consA (cstE (.bl true)) (consA (cstE (.int 61)) (nilA))))))))) (nameG 12) (yesT) (tupE (consA (varE 6) (consA (callW F__law_other (consA (varE 7) (consA (varE 9) (consA (varE 12) (nilA))))) (consA (varE 8) (nilA))))) [12])))) (nxtS))
    (seqS (setS 3 (callW F__law_draw (consA (varE 0) (consA (varE 6) (nilA)))))
    (seqS (setS 4 (binE ixM (varE 8) (varE 3)))
    (seqS (setS 5 (lstE (consA (biE listM (consA (varE 4) (nilA))) (consA (binE addM (varE 4) (tupE (consA (tupE (consA (cstE (.int 0)) (consA (tupE (consA (cstE (.int 0)) (nilA))) (nilA)))) (nilA)))) (consA (unE revM (varE 4)) (consA (binE addM (varE 4) (tupE (consA (tupE (consA (cstE (.int 9)) (consA (tupE (consA (cstE (.int 0)) (nilA))) (nilA)))) (nilA)))) (consA (binE addM (varE 4) (tupE (consA (cstE .non) (nilA)))) (consA (slE (varE 4) (partE (cstE (.int 1))) noE) (consA (cstE .non) (nilA))))))))))
    (seqS (ifS (tstE (binE neM (varE 4) (tupE (nilA)))) (seqS (setS 11 (callW F__law_draw (consA (varE 0) (consA (biE lenM (consA (varE 4) (nilA))) (nilA)))))
    (seqS (asgS (binE ixM (varE 4) (varE 11)) (tupGm 2 (consGm (pureG (nameG 13)) (consGm (pureG (nameG 14)) (nilGm)))))
    (seqS (setS 12 (lstE (consA (tupE (consA (varE 13) (consA (tupE (nilA)) (nilA)))) (consA (tupE (consA (varE 13) (consA (unE revM (varE 14)) (nilA)))) (consA (tupE (consA (varE 13) (consA (binE addM (varE 14) (tupE (consA (cstE (.int 60)) (nilA)))) (nilA)))) (consA (tupE (consA (varE 13) (consA (slE (varE 14) (partE (cstE (.int 1))) noE) (nilA)))) (consA (tupE (consA (varE 13) (consA (biE listM (consA (varE 14) (nilA))) (nilA)))) (consA (tupE (consA (varE 13) (nilA))) (nilA)))))))))
    (seqS (setS 12 (binE addM (varE 12) (lstE (consA (tupE (consA (binE addM (varE 13) (cstE (.int 1))) (consA (varE 14) (nilA)))) (consA (tupE (consA (cstE (.bl true)) (consA (varE 14) (nilA)))) (consA (lstE (consA (varE 13) (consA (varE 14) (nilA)))) (consA (tupE (consA (varE 13) (consA (binE addM (varE 14) (varE 14)) (nilA)))) (consA (tupE (consA (varE 13) (consA (tupE (consA (cstE (.bl true)) (nilA))) (nilA)))) (consA (tupE (consA (varE 13) (consA (cstE .non) (nilA)))) (nilA))))))))))
    (setS 5 (binE addM (varE 5) (lcE (anyI (varE 12)) (nameG 15) (yesT) (callW F__law_other (consA (varE 4) (consA (varE 11) (consA (varE 15) (nilA))))) [15]))))))) (nxtS))
    (seqS (growS manyD 2 (lcE (anyI (varE 5)) (nameG 15) (yesT) (tupE (consA (varE 6) (consA (varE 7) (consA (callW F__law_other (consA (varE 8) (consA (varE 3) (consA (varE 15) (nilA))))) (nilA))))) [15]))
    (seqS (growS oneD 2 (tupE (consA (varE 6) (consA (varE 7) (consA (unE revM (varE 8)) (nilA))))))
    (frzS 2 (retS (binE addM (varE 2) (lstE (consA (cstE .non) (consA (cstE (.int 0)) (consA (cstE (.bl true)) (consA (cstE (.str "")) (consA (tupE (nilA)) (consA (lstE (nilA)) (consA (cstE (.dct [] [])) (consA (tupE (consA (cstE (.int 1)) (consA (tupE (nilA)) (consA (tupE (consA (tupE (nilA)) (nilA))) (nilA))))) (consA (tupE (consA (cstE (.int 2)) (consA (tupE (nilA)) (consA (tupE (consA (tupE (nilA)) (nilA))) (nilA))))) (consA (tupE (consA (cstE (.int 1)) (consA (tupE (consA (cstE (.int 2)) (nilA))) (consA (tupE (consA (tupE (consA (tupE (consA (cstE (.int 0)) (consA (tupE (consA (cstE (.int 0)) (consA (cstE (.int 1)) (nilA)))) (nilA)))) (nilA))) (nilA))) (nilA))))) (consA (tupE (consA (cstE (.int 1)) (consA (tupE (consA (cstE (.int 61)) (nilA))) (consA (tupE (consA (tupE (consA (tupE (consA (cstE (.int 0)) (consA (unE trgM (cstE (.int 61))) (nilA)))) (nilA))) (nilA))) (nilA))))) (nilA)))))))))))))))))))))))))))
def F__law_bent : List D → M D := runF 2 16 b__law_bent
def b__law_bent_view : EnvD → M Fl := seqS (asgS (varE 1) (tupGm 2 (consGm (pureG (nameG 6)) (consGm (pureG (nameG 7)) (nilGm)))))
    (seqS (ownS 2 (consA (varE 1) (consA (biE listM (consA (varE 1) (nilA))) (consA (tupE (consA (varE 6) (nilA))) (consA (binE addM (varE 1) (tupE (consA (cstE (.int 0)) (nilA)))) (consA (tupE (consA (varE 6) (consA (biE listM (consA (varE 7) (nilA))) (nilA)))) (consA (tupE (consA (varE 6) (consA (binE addM (varE 7) (tupE (consA (tupE (nilA)) (nilA)))) (nilA)))) (consA (tupE (consA (varE 6) (consA (slE (varE 7) (partE (cstE (.int 1))) noE) (nilA)))) (consA (tupE (consA (varE 6) (consA (unE revM (varE 7)) (nilA)))) (nilA))))))))))
    (seqS (growS manyD 2 (lcE (anyI (tupE (consA (cstE .non) (consA (cstE (.int 0)) (consA (cstE (.int 1)) (consA (cstE (.int 2)) (consA (cstE (.int 60)) (consA (cstE (.int 61)) (consA (cstE (.bl true)) (consA (cstE (.str "1")) (consA (unE negM (cstE (.int 1))) (nilA)))))))))))) (nameG 5) (yesT) (tupE (consA (varE 5) (consA (varE 7) (nilA)))) [5]))
    (seqS (setS 3 (callW F__law_draw (consA (varE 0) (consA (biE lenM (consA (varE 7) (nilA))) (nilA)))))
    (seqS (setS 4 (iteE (tstE (binE isntM (binE ixM (varE 7) (varE 3)) (cstE .non))) (binE ixM (varE 7) (varE 3)) (tupE (nilA))))
    (seqS (forS (anyI (lstE (consA (cstE .non) (consA (tupE (nilA)) (consA (binE addM (varE 4) (tupE (consA (cstE (.int 59)) (nilA)))) (consA (binE addM (varE 4) (tupE (consA (cstE (.int 60)) (nilA)))) (consA (slE (varE 4) (partE (cstE (.int 1))) noE) (consA (unE revM (varE 4)) (consA (biE listM (consA (varE 4) (nilA))) (consA (tupE (consA (cstE (.bl true)) (nilA))) (consA (tupE (consA (unE negM (cstE (.int 1))) (nilA))) (consA (cstE (.str "")) (consA (binE addM (varE 4) (varE 4)) (consA (tupE (consA (cstE (.int 0)) (nilA))) (consA (tupE (consA (cstE (.int 0)) (consA (cstE (.int 1)) (nilA)))) (consA (tupE (consA (cstE (.int 1)) (nilA))) (nilA))))))))))))))))) (nameG 5) (growS oneD 2 (tupE (consA (varE 6) (consA (callW F__law_other (consA (varE 7) (consA (varE 3) (consA (varE 5) (nilA))))) (nilA))))))
    (frzS 2 (retS (binE addM (varE 2) (lstE (consA (cstE .non) (consA (cstE (.int 0)) (consA (cstE (.bl true)) (consA (cstE (.str "")) (consA (tupE (nilA)) (consA (lstE (nilA)) (consA (cstE (.dct [] [])) (consA (tupE (consA (cstE .non) (consA (cstE .non) (nilA)))) (nilA))))))))))))))))))
def F__law_bent_view : List D → M D := runF 2 8 b__law_bent_view
def b__law_pick : EnvD → M Fl := retS (binE ixM (varE 1) (callW F__law_draw (consA (varE 0) (consA (biE lenM (consA (varE 1) (nilA))) (nilA)))))
def F__law_pick : List D → M D := runF 2 2 b__law_pick
def b__law_fillings : EnvD → M Fl := seqS (setS 3 (callW F__law_draw (consA (varE 0) (consA (binE addM (biE lenM (consA (varE 2) (nilA))) (cstE (.int 1))) (nilA)))))
    (seqS (setS 4 (callW F__law_pick (consA (varE 0) (consA (slE (cstE (.str "abcd")) noE (partE (varE 1))) (nilA)))))
    (seqS (setS 5 (lstE (consA (varE 2) (consA (binE addM (varE 2) (varE 4)) (consA (binE addM (binE addM (slE (varE 2) noE (partE (varE 3))) (varE 4)) (slE (varE 2) (partE (varE 3)) noE)) (consA (binE addM (slE (varE 2) noE (partE (varE 3))) (slE (varE 2) (partE (binE addM (varE 3) (cstE (.int 1)))) noE)) (consA (binE addM (binE addM (slE (varE 2) noE (partE (varE 3))) (varE 4)) (slE (varE 2) (partE (binE addM (varE 3) (cstE (.int 1)))) noE)) (consA (unE revM (varE 2)) (consA (cstE (.str "")) (nilA))))))))))
    (retS (binE addM (varE 5) (lstE (consA (binE addM (varE 2) (binE mulA (varE 4) (cstE (.int 70)))) (consA (cstE .non) (consA (cstE (.int 0)) (consA (lstE (nilA)) (consA (cstE (.str "e")) (consA (cstE (.str "A")) (consA (tupE (consA (cstE (.str "a")) (nilA))) (consA (binE addM (varE 2) (cstE (.str " "))) (nilA))))))))))))))
def F__law_fillings : List D → M D := runF 3 6 b__law_fillings
def b__law_fills : EnvD → M Fl := seqS (ifS (orT (notT (tstE (biE isiM (consA (varE 2) (consA (cstE (.ty "str")) (nilA)))))) (notT (tstE (biE allM (consA (lcE (anyI (varE 2)) (nameG 3) (yesT) (binE inM (varE 3) (slE (cstE (.str "abcd")) noE (partE (varE 0)))) [3]) (nilA)))))) (retS (cstE (.bl false))) (nxtS))
    (seqS (ifS (andT (tstE (binE isntM (binE ixM (varE 1) (cstE (.int 0))) (cstE .non))) (tstE (binE neM (biE lenM (consA (varE 2) (nilA))) (binE ixM (varE 1) (cstE (.int 0)))))) (retS (cstE (.bl false))) (nxtS))
    (seqS (forS (zipI (cstE (.str "abcd")) (binE ixM (varE 1) (cstE (.int 1)))) (tupG 2 (consG (nameG 3) (consG (nameG 4) (nilG)))) (ifS (andT (tstE (binE isntM (varE 4) (cstE .non))) (tstE (binE neM (biE listM (consA (varE 4) (nilA))) (lcE (enumI (varE 2)) (tupG 2 (consG (nameG 5) (consG (nameG 6) (nilG)))) (tstE (binE eqM (varE 6) (varE 3))) (varE 5) [5, 6])))) (retS (cstE (.bl false))) (nxtS)))
    (retS (cstE (.bl true)))))
def F__law_fills : List D → M D := runF 3 7 b__law_fills
def b__law_is_view : EnvD → M Fl := seqS (ifS (orT (notT (tstE (biE isiM (consA (varE 1) (consA (cstE (.ty "tuple")) (nilA)))))) (orT (tstE (binE neM (biE lenM (consA (varE 1) (nilA))) (cstE (.int 2)))) (andT (tstE (binE isntM (binE ixM (varE 1) (cstE (.int 0))) (cstE .non))) (notT (andT (tstE (callW F__law_is_count (consA (binE ixM (varE 1) (cstE (.int 0))) (nilA)))) (tstE (binE ltM (binE ixM (varE 1) (cstE (.int 0))) (cstE (.int 61))))))))) (retS (cstE (.bl false))) (nxtS))
    (seqS (ifS (orT (notT (tstE (biE isiM (consA (binE ixM (varE 1) (cstE (.int 1))) (consA (cstE (.ty "tuple")) (nilA)))))) (tstE (binE neM (biE lenM (consA (binE ixM (varE 1) (cstE (.int 1))) (nilA))) (varE 0)))) (retS (cstE (.bl false))) (nxtS))
    (seqS (ifS (notT (tstE (biE allM (consA (lcE (anyI (binE ixM (varE 1) (cstE (.int 1)))) (nameG 3) (yesT) (orE (binE isM (varE 3) (cstE .non)) (callW F__law_are_places (consA (varE 3) (consA (cstE (.int 60)) (nilA))))) [3]) (nilA))))) (retS (cstE (.bl false))) (nxtS))
    (seqS (ownS 2 (nilA))
    (seqS (forS (anyI (binE ixM (varE 1) (cstE (.int 1)))) (nameG 3) (growS manyD 2 (iteE (tstE (binE isntM (varE 3) (cstE .non))) (varE 3) (tupE (nilA)))))
    (seqS (frzS 2 (ifS (orT (tstE (binE neM (unE lsetM (varE 2)) (biE lenM (consA (varE 2) (nilA))))) (andT (tstE (binE isntM (binE ixM (varE 1) (cstE (.int 0))) (cstE .non))) (tstE (biE anyM (consA (lcE (anyI (varE 2)) (nameG 4) (yesT) (binE geM (varE 4) (binE ixM (varE 1) (cstE (.int 0)))) [4]) (nilA)))))) (retS (cstE (.bl false))) (nxtS)))
    (seqS (ifS (tstE (binE inM (cstE .non) (binE ixM (varE 1) (cstE (.int 1))))) (retS (cstE (.bl true))) (nxtS))
    (frzS 2 (retS (binE eqM (biE sortedM (consA (varE 2) (nilA))) (unE lrgM (iteE (tstE (binE isntM (binE ixM (varE 1) (cstE (.int 0))) (cstE .non))) (binE ixM (varE 1) (cstE (.int 0))) (biE lenM (consA (varE 2) (nilA))))))))))))))
def F__law_is_view : List D → M D := runF 2 5 b__law_is_view
def b__law_postings : EnvD → M Fl := seqS (ownS 2 (nilA))
    (seqS (forS (anyI (slE (cstE (.str "abcd")) noE (partE (varE 0)))) (nameG 3) (seqS (ownS 4 (nilA))
    (seqS (forS (enumI (varE 1)) (tupG 2 (consG (nameG 5) (consG (nameG 6) (nilG)))) (seqS (setS 7 (iteE (tstE (binE isntM (varE 6) (cstE .non))) (biE tupleM (consA (lcE (enumI (varE 6)) (tupG 2 (consG (nameG 8) (consG (nameG 9) (nilG)))) (tstE (binE eqM (varE 9) (varE 3))) (varE 8) [8, 9]) (nilA))) (tupE (nilA))))
    (ifS (tstE (binE neM (varE 7) (tupE (nilA)))) (growS oneD 4 (tupE (consA (varE 5) (consA (varE 7) (nilA))))) (nxtS))))
    (frzS 4 (growS oneD 2 (biE tupleM (consA (varE 4) (nilA))))))))
    (frzS 2 (retS (tupE (consA (varE 0) (consA (biE tupleM (consA (lcE (anyI (varE 1)) (nameG 6) (yesT) (iteE (tstE (binE isntM (varE 6) (cstE .non))) (biE lenM (consA (varE 6) (nilA))) (cstE .non)) [6]) (nilA))) (consA (biE tupleM (consA (varE 2) (nilA))) (nilA))))))))
def F__law_postings : List D → M D := runF 2 10 b__law_postings
def b__law_text : EnvD → M Fl := retS (m1E joinM (cstE (.str "")) (lcE (rngI1 (consA (callW F__law_draw (consA (varE 0) (consA (binE addM (varE 2) (cstE (.int 1))) (nilA)))) (nilA))) (nameG 3) (yesT) (callW F__law_pick (consA (varE 0) (consA (slE (cstE (.str "abcd")) noE (partE (varE 1))) (nilA)))) [3]))
def F__law_text : List D → M D := runF 3 4 b__law_text
def b__law_texts_drawn : EnvD → M Fl := retS (lcE (rngI1 (consA (callW F__law_draw (consA (varE 0) (consA (binE addM (varE 2) (cstE (.int 1))) (nilA)))) (nilA))) (nameG 4) (yesT) (iteE (tstE (binE eqM (callW F__law_draw (consA (varE 0) (consA (cstE (.int 6)) (nilA)))) (cstE (.int 0)))) (cstE .non) (callW F__law_text (consA (varE 0) (consA (varE 1) (consA (varE 3) (nilA)))))) [4])
def F__law_texts_drawn : List D → M D := runF 4 5 b__law_texts_drawn
def b__law_view : EnvD → M Fl := seqS (ownS 3 (nilA))
    (seqS (forS (anyI (slE (cstE (.str "abcd")) noE (partE (varE 0)))) (nameG 4) (growS oneD 3 (iteE (tstE (binE inM (varE 4) (varE 2))) (biE tupleM (consA (lcE (enumI (varE 1)) (tupG 2 (consG (nameG 5) (consG (nameG 6) (nilG)))) (tstE (binE eqM (varE 6) (varE 4))) (varE 5) [5, 6]) (nilA))) (cstE .non))))
    (frzS 3 (retS (tupE (consA (iteE (tstE (binE inM (cstE (.str "long")) (varE 2))) (biE lenM (consA (varE 1) (nilA))) (cstE .non)) (consA (biE tupleM (consA (varE 3) (nilA))) (nilA)))))))
def F__law_view : List D → M D := runF 3 7 b__law_view
def b_is_integer : EnvD → M Fl := retS (andE (biE isiM (consA (varE 0) (consA (cstE (.ty "int")) (nilA)))) (notE (biE isiM (consA (varE 0) (consA (cstE (.ty "bool")) (nilA))))))
def F_is_integer : List D → M D := runF 1 1 b_is_integer
def b_is_within : EnvD → M Fl := retS (andE (callW F_is_integer (consA (varE 0) (nilA))) (chnE leM leM (varE 1) (varE 0) (varE 2)))
def F_is_within : List D → M D := runF 3 3 b_is_within
def b_check_letters : EnvD → M Fl := ifS (notT (tstE (callW F_is_within (consA (varE 0) (consA (cstE (.int 1)) (consA (biE lenM (consA (cstE (.str "abcd")) (nilA))) (nilA))))))) (badS) (nxtS)
def F_check_letters : List D → M D := runF 1 1 b_check_letters
def b_is_filling : EnvD → M Fl := seqS (ifS (andT (tstE (binE isntM (binE ixM (varE 0) (cstE (.int 0))) (cstE .non))) (tstE (binE neM (biE lenM (consA (varE 1) (nilA))) (binE ixM (varE 0) (cstE (.int 0)))))) (retS (cstE (.bl false))) (nxtS))
    (seqS (forS (enumI (binE ixM (varE 0) (cstE (.int 1)))) (tupG 2 (consG (nameG 2) (consG (nameG 3) (nilG)))) (ifS (andT (tstE (binE isntM (varE 3) (cstE .non))) (tstE (binE neM (varE 3) (biE tupleM (consA (lcE (enumI (varE 1)) (tupG 2 (consG (nameG 4) (consG (nameG 5) (nilG)))) (tstE (binE eqM (varE 5) (varE 2))) (varE 4) [4, 5]) (nilA)))))) (retS (cstE (.bl false))) (nxtS)))
    (retS (cstE (.bl true))))
def F_is_filling : List D → M D := runF 2 6 b_is_filling
def b_letter_list : EnvD → M Fl := retS (biE listM (consA (slE (cstE (.str "abcd")) noE (partE (varE 0))) (nilA)))
def F_letter_list : List D → M D := runF 1 1 b_letter_list
def b_is_text_of : EnvD → M Fl := seqS (ifS (orT (notT (tstE (biE isiM (consA (varE 1) (consA (cstE (.ty "str")) (nilA)))))) (tstE (binE gtM (biE lenM (consA (varE 1) (nilA))) (varE 2)))) (retS (cstE (.bl false))) (nxtS))
    (seqS (setS 3 (callW F_letter_list (consA (varE 0) (nilA))))
    (retS (biE allM (consA (lcE (anyI (varE 1)) (nameG 4) (yesT) (binE inM (varE 4) (varE 3)) [4]) (nilA)))))
def F_is_text_of : List D → M D := runF 3 5 b_is_text_of
def b_spots : EnvD → M Fl := retS (lcE (anyI (varE 0)) (nameG 1) (yesT) (m1E indexM (cstE (.str "abcd")) (varE 1)) [1])
def F_spots : List D → M D := runF 1 2 b_spots
def b_are_places : EnvD → M Fl := seqS (ifS (orT (notT (tstE (biE isiM (consA (varE 0) (consA (cstE (.ty "tuple")) (nilA)))))) (notT (tstE (biE allM (consA (lcE (anyI (varE 0)) (nameG 4) (yesT) (callW F_is_within (consA (varE 4) (consA (cstE (.int 0)) (consA (binE subM (varE 1) (cstE (.int 1))) (nilA))))) [4]) (nilA)))))) (retS (cstE (.bl false))) (nxtS))
    (retS (biE allM (consA (lcE (zipI (varE 0) (slE (varE 0) (partE (cstE (.int 1))) noE)) (tupG 2 (consG (nameG 2) (consG (nameG 3) (nilG)))) (yesT) (binE ltM (varE 2) (varE 3)) [2, 3]) (nilA))))
def F_are_places : List D → M D := runF 2 5 b_are_places
def b_are_looked_lists : EnvD → M Fl := seqS (ifS (orT (notT (tstE (biE isiM (consA (varE 1) (consA (cstE (.ty "tuple")) (nilA)))))) (tstE (binE neM (biE lenM (consA (varE 1) (nilA))) (varE 0)))) (retS (cstE (.bl false))) (nxtS))
    (seqS (ifS (notT (tstE (biE allM (consA (lcE (anyI (varE 1)) (nameG 3) (yesT) (orE (binE isM (varE 3) (cstE .non)) (callW F_are_places (consA (varE 3) (consA (cstE (.int 60)) (nilA))))) [3]) (nilA))))) (retS (cstE (.bl false))) (nxtS))
    (seqS (ownS 2 (nilA))
    (seqS (forS (anyI (varE 1)) (nameG 3) (growS manyD 2 (iteE (tstE (binE isntM (varE 3) (cstE .non))) (varE 3) (tupE (nilA)))))
    (frzS 2 (retS (binE eqM (unE lsetM (varE 2)) (biE lenM (consA (varE 2) (nilA)))))))))
def F_are_looked_lists : List D → M D := runF 2 4 b_are_looked_lists
def b_free_numbers : EnvD → M Fl := retS (lcE (enumI (binE ixM (varE 0) (cstE (.int 1)))) (tupG 2 (consG (nameG 1) (consG (nameG 2) (nilG)))) (tstE (binE isM (varE 2) (cstE .non))) (varE 1) [1, 2])
def F_free_numbers : List D → M D := runF 1 3 b_free_numbers
def b_told_places : EnvD → M Fl := seqS (newdS 1)
    (seqS (forS (enumI (binE ixM (varE 0) (cstE (.int 1)))) (tupG 2 (consG (nameG 2) (consG (nameG 3) (nilG)))) (forS (anyI (iteE (tstE (binE isntM (varE 3) (cstE .non))) (varE 3) (tupE (nilA)))) (nameG 4) (putS 1 (varE 2) (varE 4))))
    (frzDS 1 (retS (varE 1))))
def F_told_places : List D → M D := runF 1 5 b_told_places
def b_least_length : EnvD → M Fl := retS (iteE (tstE (binE isntM (binE ixM (varE 0) (cstE (.int 0))) (cstE .non))) (binE ixM (varE 0) (cstE (.int 0))) (binE addM (biK maxdM (consA (biE listM (consA (callW F_told_places (consA (varE 0) (nilA))) (nilA))) (nilA)) (consA (unE negM (cstE (.int 1))) (nilA))) (cstE (.int 1))))
def F_least_length : List D → M D := runF 1 1 b_least_length
def b_is_view_of : EnvD → M Fl := seqS (ifS (orT (notT (tstE (biE isiM (consA (varE 1) (consA (cstE (.ty "tuple")) (nilA)))))) (orT (tstE (binE neM (biE lenM (consA (varE 1) (nilA))) (cstE (.int 2)))) (notT (tstE (callW F_are_looked_lists (consA (varE 0) (consA (binE ixM (varE 1) (cstE (.int 1))) (nilA)))))))) (retS (cstE (.bl false))) (nxtS))
    (seqS (ifS (andT (tstE (binE isntM (binE ixM (varE 1) (cstE (.int 0))) (cstE .non))) (notT (tstE (callW F_is_within (consA (binE ixM (varE 1) (cstE (.int 0))) (consA (cstE (.int 0)) (consA (cstE (.int 60)) (nilA)))))))) (retS (cstE (.bl false))) (nxtS))
    (seqS (asgS (tupE (consA (callW F_told_places (consA (varE 1) (nilA))) (consA (callW F_least_length (consA (varE 1) (nilA))) (nilA)))) (tupGm 2 (consGm (pureG (nameG 2)) (consGm (pureG (nameG 3)) (nilGm)))))
    (seqS (ifS (tstE (biE anyM (consA (lcE (keysI (varE 2)) (nameG 4) (yesT) (binE geM (varE 4) (varE 3)) [4]) (nilA)))) (retS (cstE (.bl false))) (nxtS))
    (retS (orE (binE neM (callW F_free_numbers (consA (varE 1) (nilA))) (lstE (nilA))) (binE eqM (biE lenM (consA (varE 2) (nilA))) (varE 3)))))))
def F_is_view_of : List D → M D := runF 2 5 b_is_view_of
def b_want_view : EnvD → M Fl := ifS (notT (tstE (callW F_is_view_of (consA (varE 0) (consA (varE 1) (nilA)))))) (badS) (nxtS)
def F_want_view : List D → M D := runF 2 2 b_want_view
def b_fills : EnvD → M Fl := seqS (drpS (callW F_check_letters (consA (varE 0) (nilA))))
    (seqS (drpS (callW F_want_view (consA (varE 0) (consA (varE 1) (nilA)))))
    (retS (andE (callW F_is_text_of (consA (varE 0) (consA (varE 2) (consA (cstE (.int 20000)) (nilA))))) (callW F_is_filling (consA (varE 1) (consA (callW F_spots (consA (varE 2) (nilA))) (nilA)))))))
def F_fills : List D → M D := runF 3 3 b_fills
def b_are_lengths : EnvD → M Fl := seqS (ifS (orT (notT (tstE (biE isiM (consA (varE 0) (consA (cstE (.ty "tuple")) (nilA)))))) (tstE (binE gtM (biE lenM (consA (varE 0) (nilA))) (cstE (.int 8))))) (retS (cstE (.bl false))) (nxtS))
    (retS (biE allM (consA (lcE (anyI (varE 0)) (nameG 1) (yesT) (orE (binE isM (varE 1) (cstE .non)) (callW F_is_within (consA (varE 1) (consA (cstE (.int 0)) (consA (cstE (.int 60)) (nilA)))))) [1]) (nilA))))
def F_are_lengths : List D → M D := runF 1 2 b_are_lengths
def b_is_letter_list : EnvD → M Fl := seqS (ifS (orT (notT (tstE (biE isiM (consA (varE 1) (consA (cstE (.ty "tuple")) (nilA)))))) (notT (tstE (biE allM (consA (lcE (anyI (varE 1)) (nameG 6) (yesT) (andE (biE isiM (consA (varE 6) (consA (cstE (.ty "tuple")) (nilA)))) (binE eqM (biE lenM (consA (varE 6) (nilA))) (cstE (.int 2)))) [6]) (nilA)))))) (retS (cstE (.bl false))) (nxtS))
    (seqS (forS (anyI (varE 1)) (tupG 2 (consG (nameG 2) (consG (nameG 3) (nilG)))) (seqS (ifS (orT (notT (tstE (callW F_is_within (consA (varE 2) (consA (cstE (.int 0)) (consA (binE subM (biE lenM (consA (varE 0) (nilA))) (cstE (.int 1))) (nilA))))))) (tstE (binE isM (binE ixM (varE 0) (varE 2)) (cstE .non)))) (retS (cstE (.bl false))) (nxtS))
    (ifS (orT (tstE (binE eqM (varE 3) (tupE (nilA)))) (notT (tstE (callW F_are_places (consA (varE 3) (consA (binE ixM (varE 0) (varE 2)) (nilA))))))) (retS (cstE (.bl false))) (nxtS))))
    (retS (biE allM (consA (lcE (zipI (varE 1) (slE (varE 1) (partE (cstE (.int 1))) noE)) (tupG 2 (consG (nameG 4) (consG (nameG 5) (nilG)))) (yesT) (binE ltM (binE ixM (varE 4) (cstE (.int 0))) (binE ixM (varE 5) (cstE (.int 0)))) [4, 5]) (nilA)))))
def F_is_letter_list : List D → M D := runF 2 7 b_is_letter_list
def b_places_at : EnvD → M Fl := seqS (ownS 2 (nilA))
    (seqS (forS (anyI (varE 0)) (nameG 3) (forS (anyI (varE 3)) (tupG 2 (consG (nameG 4) (consG (nameG 5) (nilG)))) (ifS (tstE (binE eqM (varE 4) (varE 1))) (growS manyD 2 (varE 5)) (nxtS))))
    (frzS 2 (retS (biE sortedM (consA (varE 2) (nilA))))))
def F_places_at : List D → M D := runF 2 6 b_places_at
def b_are_postings : EnvD → M Fl := seqS (ifS (orT (notT (tstE (biE isiM (consA (varE 0) (consA (cstE (.ty "tuple")) (nilA)))))) (orT (tstE (binE neM (biE lenM (consA (varE 0) (nilA))) (cstE (.int 3)))) (notT (tstE (callW F_is_within (consA (binE ixM (varE 0) (cstE (.int 0))) (consA (cstE (.int 1)) (consA (biE lenM (consA (cstE (.str "abcd")) (nilA))) (nilA))))))))) (retS (cstE (.bl false))) (nxtS))
    (seqS (asgS (varE 0) (tupGm 3 (consGm (pureG (nameG 1)) (consGm (pureG (nameG 2)) (consGm (pureG (nameG 3)) (nilGm))))))
    (seqS (ifS (orT (notT (tstE (callW F_are_lengths (consA (varE 2) (nilA))))) (orT (notT (tstE (biE isiM (consA (varE 3) (consA (cstE (.ty "tuple")) (nilA)))))) (tstE (binE neM (biE lenM (consA (varE 3) (nilA))) (varE 1))))) (retS (cstE (.bl false))) (nxtS))
    (seqS (ifS (notT (tstE (biE allM (consA (lcE (anyI (varE 3)) (nameG 6) (yesT) (callW F_is_letter_list (consA (varE 2) (consA (varE 6) (nilA)))) [6]) (nilA))))) (retS (cstE (.bl false))) (nxtS))
    (seqS (forS (enumI (varE 2)) (tupG 2 (consG (nameG 4) (consG (nameG 5) (nilG)))) (ifS (andT (tstE (binE isntM (varE 5) (cstE .non))) (tstE (binE neM (callW F_places_at (consA (varE 3) (consA (varE 4) (nilA)))) (unE lrgM (varE 5))))) (retS (cstE (.bl false))) (nxtS)))
    (retS (cstE (.bl true)))))))
def F_are_postings : List D → M D := runF 1 7 b_are_postings
def b_is_postings : EnvD → M Fl := retS (callW F_are_postings (consA (varE 0) (nilA)))
def F_is_postings : List D → M D := runF 1 1 b_is_postings
def b_is_view : EnvD → M Fl := seqS (drpS (callW F_check_letters (consA (varE 0) (nilA))))
    (retS (callW F_is_view_of (consA (varE 0) (consA (varE 1) (nilA)))))
def F_is_view : List D → M D := runF 2 2 b_is_view
def b__law_right : EnvD → M Fl := seqS (setS 1 (binE addM (cstE (.int 1)) (callW F__law_draw (consA (varE 0) (consA (cstE (.int 4)) (nilA))))))
    (seqS (setS 2 (callW F__law_postings (consA (varE 1) (consA (callW F__law_texts_drawn (consA (varE 0) (consA (varE 1) (consA (cstE (.int 5)) (consA (cstE (.int 6)) (nilA)))))) (nilA)))))
    (seqS (forS (anyI (callW F__law_bent (consA (varE 0) (consA (varE 2) (nilA))))) (nameG 3) (seqS (parS 9 10 (consA (callW F__law_are_postings (consA (varE 3) (nilA))) (consA (biE showM (consA (varE 3) (nilA))) (nilA))))
    (ifS (orT (tstE (binE neM (biE showM (consA (lstE (consA (callW F_is_postings (consA (varE 3) (nilA))) (consA (callK F_is_postings [0] 0 1 nilA (consA (varE 3) (nilA))) (nilA)))) (nilA))) (biE showM (consA (lstE (consA (varE 9) (consA (varE 9) (nilA)))) (nilA))))) (tstE (binE neM (biE showM (consA (varE 3) (nilA))) (varE 10)))) (retS (cstE (.bl false))) (nxtS))))
    (seqS (setS 4 (callW F__law_postings (consA (varE 1) (consA (binE mulA (lstE (consA (cstE (.str "a")) (nilA))) (cstE (.int 9))) (nilA)))))
    (seqS (ifS (tstE (binE neM (lstE (consA (callW F_is_postings (consA (varE 4) (nilA))) (consA (callW F_is_postings (consA (callW F__law_postings (consA (varE 1) (consA (binE mulA (lstE (consA (cstE (.str "a")) (nilA))) (cstE (.int 8))) (nilA)))) (nilA))) (nilA)))) (lstE (consA (cstE (.bl false)) (consA (cstE (.bl true)) (nilA)))))) (retS (cstE (.bl false))) (nxtS))
    (seqS (forS (rngI1 (consA (cstE (.int 3)) (nilA))) (nameG 5) (seqS (setS 6 (callW F__law_text (consA (varE 0) (consA (varE 1) (consA (cstE (.int 6)) (nilA))))))
    (seqS (setS 7 (lcE (anyI (binE addM (biE listM (consA (slE (cstE (.str "abcd")) noE (partE (varE 1))) (nilA))) (lstE (consA (cstE (.str "long")) (nilA))))) (nameG 11) (tstE (binE eqM (callW F__law_draw (consA (varE 0) (consA (cstE (.int 2)) (nilA)))) (cstE (.int 0)))) (varE 11) [11]))
    (seqS (setS 8 (callW F__law_view (consA (varE 1) (consA (varE 6) (consA (varE 7) (nilA))))))
    (seqS (forS (anyI (callW F__law_bent_view (consA (varE 0) (consA (varE 8) (nilA))))) (nameG 3) (seqS (parS 9 10 (consA (callW F__law_is_view (consA (varE 1) (consA (varE 3) (nilA)))) (consA (biE showM (consA (varE 3) (nilA))) (nilA))))
    (ifS (orT (tstE (binE neM (biE showM (consA (lstE (consA (callW F_is_view (consA (varE 1) (consA (varE 3) (nilA)))) (consA (callK F_is_view [1, 0] 0 2 nilA (consA (varE 3) (consA (varE 1) (nilA)))) (nilA)))) (nilA))) (biE showM (consA (lstE (consA (varE 9) (consA (varE 9) (nilA)))) (nilA))))) (tstE (binE neM (biE showM (consA (varE 3) (nilA))) (varE 10)))) (retS (cstE (.bl false))) (nxtS))))
    (forS (anyI (callW F__law_fillings (consA (varE 0) (consA (varE 1) (consA (varE 6) (nilA)))))) (nameG 3) (seqS (setS 9 (callW F__law_fills (consA (varE 1) (consA (varE 8) (consA (varE 3) (nilA))))))
    (ifS (tstE (binE neM (biE showM (consA (lstE (consA (callW F_fills (consA (varE 1) (consA (varE 8) (consA (varE 3) (nilA))))) (consA (callK F_fills [2, 1, 0] 0 3 nilA (consA (varE 3) (consA (varE 8) (consA (varE 1) (nilA))))) (nilA)))) (nilA))) (biE showM (consA (lstE (consA (varE 9) (consA (varE 9) (nilA)))) (nilA))))) (retS (cstE (.bl false))) (nxtS)))))))))
    (retS (cstE (.bl true))))))))
def F__law_right : List D → M D := runF 1 12 b__law_right
def b_law : EnvD → M Fl := retS (biE allM (consA (lcE (rngI1 (consA (biE maxM (consA (cstE (.int 1)) (consA (biE minM (consA (cstE (.int 2)) (consA (biE lenM (consA (varE 0) (nilA))) (nilA)))) (nilA)))) (nilA))) (nameG 1) (yesT) (callW F__law_right (consA (callW F__law_pot (consA (varE 0) (consA (varE 1) (nilA)))) (nilA))) [1]) (nilA)))
def F_law : List D → M D := runF 1 2 b_law
end Dd

set_option Elab.async false
set_option linter.all false
set_option maxRecDepth 100000
set_option maxHeartbeats 0
namespace Dd
open PySem PySem.Spec PyProof.Rows L2
def top (i : Nat) : Stmt := PySem.Challenge.pw_tellindex_k76_any_value_as_postings_or_v.main.body.getD i (.Pass ⟨0, 0, 0, 0⟩)
structure Gls (mg : Str → Option Value) : Prop where
  n_abs : mg ("abs" : Str) = none
  n_all : mg ("all" : Str) = none
  n_any : mg ("any" : Str) = none
  n_bool : mg ("bool" : Str) = none
  n_divmod : mg ("divmod" : Str) = none
  n_enumerate : mg ("enumerate" : Str) = none
  n_int : mg ("int" : Str) = none
  n_isinstance : mg ("isinstance" : Str) = none
  n_len : mg ("len" : Str) = none
  n_list : mg ("list" : Str) = none
  n_max : mg ("max" : Str) = none
  n_min : mg ("min" : Str) = none
  n_range : mg ("range" : Str) = none
  n_repr : mg ("repr" : Str) = none
  n_set : mg ("set" : Str) = none
  n_sorted : mg ("sorted" : Str) = none
  n_str : mg ("str" : Str) = none
  n_tuple : mg ("tuple" : Str) = none
  n_zip : mg ("zip" : Str) = none
  g_MOST_DOCUMENTS : ∃ t, mg ("MOST_DOCUMENTS" : Str) = some (.int 8 t)
  g_MOST_FILLING : ∃ t, mg ("MOST_FILLING" : Str) = some (.int 20000 t)
  g_MOST_LENGTH : ∃ t, mg ("MOST_LENGTH" : Str) = some (.int 60 t)
  g_SIGNS : ∃ t, mg ("SIGNS" : Str) = some (.str "abcd" t)
section
variable {P : Program} {w : World} {K : PySem.W.Frag} {mg : Str → Option Value} {base : Heap} {f : Addr} {fd : FuncData}
abbrev st__law_pot : Stmt := top 34
theorem sc__law_pot : FnScope ["script", "k", "cell"] ["script", "k"] (defScope st__law_pot) := ⟨rfl, rfl, rfl, by decide +kernel, rfl, by decide +kernel, by decide +kernel⟩
theorem w__law_pot (E : Gls mg)  (D : FunD K "_law_pot" "_law_pot" (defArgs st__law_pot) (defBody st__law_pot) (defScope st__law_pot) [] [] f fd) (hm : mg ("_law_pot" : Str) = some (.ref f)) : Wk P w K mg base st__law_pot "_law_pot" [] 1 ["script", "k"] F__law_pot := by
  have h := def_ok (P := P) (w := w) (mg := mg) (base := base) (k := 0) D sc__law_pot (b := b__law_pot) fun cdv A outer s H hr hgd =>
    (dSs_cons (dS_set 2 sc__law_pot.nd (dE_ite (dT_cmp oLt (dE_var 1) (dE_bi cLen boot_len E.n_len (dA_cons (dE_var 0) dA_nil)) (bm _)) (dE_bi cAbs boot_abs E.n_abs (dA_cons (dE_ix (dE_var 0) (dE_var 1)) dA_nil)) (dE_bin oAdd (dE_bin oMulA dE_int (dE_var 1)) dE_int)))
    (dSs_one (dS_ret (dE_box (dA_cons (dE_bi (cMax rfl) boot_max E.n_max (dA_cons dE_int (dA_cons (dE_bin oSub (dE_var 2) (dE_bin oPow dE_int dE_int)) dA_nil))) (dA_cons (dE_bin oAdd (dE_bin oMod (dE_ty cInt boot_int E.n_int (dA_cons (dE_bin oAdd (dE_bin oAdd (dE_bin oMulA (dE_bin oMod (dE_ty cInt boot_int E.n_int (dA_cons (dE_var 2) dA_nil)) dE_int) dE_int) (dE_bin oMulA dE_int (dE_var 1))) dE_int) dA_nil)) dE_int) dE_int) dA_nil))))))
  exact Wk.ofN D h hm (fun _ _ _ _ _ _ us hl => match us, hl with | [_, _], _ => rfl)
abbrev st__law_is_count : Stmt := top 40
theorem sc__law_is_count : FnScope ["value"] ["value"] (defScope st__law_is_count) := ⟨rfl, rfl, rfl, by decide +kernel, rfl, by decide +kernel, by decide +kernel⟩
theorem w__law_is_count (E : Gls mg)  (D : FunD K "_law_is_count" "_law_is_count" (defArgs st__law_is_count) (defBody st__law_is_count) (defScope st__law_is_count) [] [] f fd) (hm : mg ("_law_is_count" : Str) = some (.ref f)) : Wk P w K mg base st__law_is_count "_law_is_count" [] 1 ["value"] F__law_is_count := by
  have h := def_ok (P := P) (w := w) (mg := mg) (base := base) (k := 0) D sc__law_is_count (b := b__law_is_count) fun cdv A outer s H hr hgd =>
    (dSs_one (dS_ret (dE_and (dE_bi cIsi boot_isinstance E.n_isinstance (dA_cons (dE_var 0) (dA_cons (dE_tyc boot_int E.n_int) dA_nil))) (dE_and (dE_not (dE_bi cIsi boot_isinstance E.n_isinstance (dA_cons (dE_var 0) (dA_cons (dE_tyc boot_bool E.n_bool) dA_nil)))) (dE_one (dE_cmp oGe (dE_var 0) dE_int (bm _)))))))
  exact Wk.ofN D h hm (fun _ _ _ _ _ _ us hl => match us, hl with | [_], _ => rfl)
abbrev st__law_are_places : Stmt := top 41
theorem sc__law_are_places : FnScope ["value", "below", "near", "far", "place"] ["value", "below"] (defScope st__law_are_places) := ⟨rfl, rfl, rfl, by decide +kernel, rfl, by decide +kernel, by decide +kernel⟩
theorem w__law_are_places (E : Gls mg) (C__law_is_count : Wk P w K mg base st__law_is_count "_law_is_count" [] 1 ["value"] F__law_is_count) (D : FunD K "_law_are_places" "_law_are_places" (defArgs st__law_are_places) (defBody st__law_are_places) (defScope st__law_are_places) [] [] f fd) (hm : mg ("_law_are_places" : Str) = some (.ref f)) : Wk P w K mg base st__law_are_places "_law_are_places" [] 2 ["value", "below"] F__law_are_places := by
  have h := def_ok (P := P) (w := w) (mg := mg) (base := base) (k := 1) D sc__law_are_places (b := b__law_are_places) fun cdv A outer s H hr hgd =>
    (dSs_cons (dS_if (PW.pt (dW_or (dT_not (dT_val (dE_bi cIsi boot_isinstance E.n_isinstance (dA_cons (dE_var 0) (dA_cons (dE_tyc boot_tuple E.n_tuple) dA_nil))))) (dW_or1 (dT_not (dT_val (dE_bi (cAll rfl) boot_all E.n_all (dA_cons (dE_lc rfl sc__law_are_places.nd (dI_any (dE_var 0)) (own := [("place", 4)]) (blkOk_by (N := ["value", "below", "near", "far", "place"]) (sc := defScope st__law_are_places) (by decide +kernel)) (fun _ _ _ _ _ => (dG_name 4 sc__law_are_places.nd)) (fun _ _ _ _ _ => dTs_nil) (fun _ _ _ _ _ => (dE_and (dE_cw C__law_is_count hr hgd (by decide) (dA_cons (dE_var 4) dA_nil)) (dE_one (dE_cmp oLt (dE_var 4) (dE_var 1) (bm _))))) (by decide)) dA_nil))))))) (dSs_one (dS_ret dE_bl)) dSs_nil)
    (dSs_one (dS_ret (dE_bi (cAll rfl) boot_all E.n_all (dA_cons (dE_lc rfl sc__law_are_places.nd (dI_zip rfl E.n_zip (dE_var 0) (dE_sl (dE_var 0) (dO_some dE_int) dO_none)) (own := [("near", 2), ("far", 3)]) (blkOk_by (N := ["value", "below", "near", "far", "place"]) (sc := defScope st__law_are_places) (by decide +kernel)) (fun _ _ _ _ _ => (dG_tup rfl (dGs_cons (dG_name 2 sc__law_are_places.nd) (dGs_cons (dG_name 3 sc__law_are_places.nd) dGs_nil)))) (fun _ _ _ _ _ => dTs_nil) (fun _ _ _ _ _ => (dE_cmp oLt (dE_var 2) (dE_var 3) (bm _))) (by decide)) dA_nil)))))
  exact Wk.ofN D h hm (fun _ _ _ _ _ _ us hl => match us, hl with | [_, _], _ => rfl)
abbrev st__law_is_list : Stmt := top 45
theorem sc__law_is_list : FnScope ["letters", "number", "lengths", "value", "last", "document", "places", "row"] ["letters", "number", "lengths", "value"] (defScope st__law_is_list) := ⟨rfl, rfl, rfl, by decide +kernel, rfl, by decide +kernel, by decide +kernel⟩
theorem w__law_is_list (E : Gls mg) (C__law_are_places : Wk P w K mg base st__law_are_places "_law_are_places" [] 2 ["value", "below"] F__law_are_places) (C__law_is_count : Wk P w K mg base st__law_is_count "_law_is_count" [] 1 ["value"] F__law_is_count) (D : FunD K "_law_is_list" "_law_is_list" (defArgs st__law_is_list) (defBody st__law_is_list) (defScope st__law_is_list) [] [] f fd) (hm : mg ("_law_is_list" : Str) = some (.ref f)) : Wk P w K mg base st__law_is_list "_law_is_list" [] 3 ["letters", "number", "lengths", "value"] F__law_is_list := by
  have h := def_ok (P := P) (w := w) (mg := mg) (base := base) (k := 2) D sc__law_is_list (b := b__law_is_list) fun cdv A outer s H hr hgd =>
    (dSs_cons (dS_if (PW.pt (dW_or (dT_not (dT_val (dE_bi cIsi boot_isinstance E.n_isinstance (dA_cons (dE_var 3) (dA_cons (dE_tyc boot_tuple E.n_tuple) dA_nil))))) (dW_or1 (dT_not (dT_val (dE_bi (cAll rfl) boot_all E.n_all (dA_cons (dE_lc rfl sc__law_is_list.nd (dI_any (dE_var 3)) (own := [("row", 7)]) (blkOk_by (N := ["letters", "number", "lengths", "value", "last", "document", "places", "row"]) (sc := defScope st__law_is_list) (by decide +kernel)) (fun _ _ _ _ _ => (dG_name 7 sc__law_is_list.nd)) (fun _ _ _ _ _ => dTs_nil) (fun _ _ _ _ _ => (dE_and (dE_bi cIsi boot_isinstance E.n_isinstance (dA_cons (dE_var 7) (dA_cons (dE_tyc boot_tuple E.n_tuple) dA_nil))) (dE_one (dE_cmp (oEq (u64 hr)) (dE_bi cLen boot_len E.n_len (dA_cons (dE_var 7) dA_nil)) dE_int (bm _))))) (by decide)) dA_nil))))))) (dSs_one (dS_ret dE_bl)) dSs_nil)
    (dSs_cons (dS_set 4 sc__law_is_list.nd (dE_neg dE_int))
    (dSs_cons (dS_for PassesOwn.never rfl (dI_any (dE_var 3)) (dG_tup rfl (dGs_cons (dG_name 5 sc__law_is_list.nd) (dGs_cons (dG_name 6 sc__law_is_list.nd) dGs_nil))) (dSs_cons (dS_if (PW.pt (dW_or (dT_not (dT_val (dE_cw C__law_is_count hr hgd (by decide) (dA_cons (dE_var 5) dA_nil)))) (dW_or (dT_cmp oGe (dE_var 5) (dE_bi cLen boot_len E.n_len (dA_cons (dE_var 2) dA_nil)) (bm _)) (dW_or (dT_cmp oLe (dE_var 5) (dE_var 4) (bm _)) (dW_or1 (dT_cmp oIs (dE_ix (dE_var 2) (dE_var 5)) dE_non (bm _))))))) (dSs_one (dS_ret dE_bl)) dSs_nil)
    (dSs_cons (dS_if (PW.pt (dW_or (dT_not (dT_val (dE_cw C__law_are_places hr hgd (by decide) (dA_cons (dE_var 6) (dA_cons (dE_ix (dE_var 2) (dE_var 5)) dA_nil))))) (dW_or1 (dT_cmp (oEq (u64 hr)) (dE_var 6) (dE_tup dA_nil) (bm _))))) (dSs_one (dS_ret dE_bl)) dSs_nil)
    (dSs_one (dS_set 4 sc__law_is_list.nd (dE_var 5))))))
    (dSs_one (dS_ret dE_bl)))))
  exact Wk.ofN D h hm (fun _ _ _ _ _ _ us hl => match us, hl with | [_, _, _, _], _ => rfl)
abbrev st__law_are_postings : Stmt := top 46
theorem sc__law_are_postings : FnScope ["value", "letters", "lengths", "lists", "document", "length", "places", "rows", "late", "some", "one", "number"] ["value"] (defScope st__law_are_postings) := ⟨rfl, rfl, rfl, by decide +kernel, rfl, by decide +kernel, by decide +kernel⟩
theorem w__law_are_postings (E : Gls mg) (C__law_is_count : Wk P w K mg base st__law_is_count "_law_is_count" [] 1 ["value"] F__law_is_count) (C__law_is_list : Wk P w K mg base st__law_is_list "_law_is_list" [] 3 ["letters", "number", "lengths", "value"] F__law_is_list) (D : FunD K "_law_are_postings" "_law_are_postings" (defArgs st__law_are_postings) (defBody st__law_are_postings) (defScope st__law_are_postings) [] [] f fd) (hm : mg ("_law_are_postings" : Str) = some (.ref f)) : Wk P w K mg base st__law_are_postings "_law_are_postings" [] 4 ["value"] F__law_are_postings := by
  have h := def_ok (P := P) (w := w) (mg := mg) (base := base) (k := 3) D sc__law_are_postings (b := b__law_are_postings) fun cdv A outer s H hr hgd =>
    (dSs_cons (dS_if (PW.pt (dW_or (dT_not (dT_val (dE_bi cIsi boot_isinstance E.n_isinstance (dA_cons (dE_var 0) (dA_cons (dE_tyc boot_tuple E.n_tuple) dA_nil))))) (dW_or (dT_cmp (oNe (u64 hr)) (dE_bi cLen boot_len E.n_len (dA_cons (dE_var 0) dA_nil)) dE_int (bm _)) (dW_or (dT_not (dT_val (dE_cw C__law_is_count hr hgd (by decide) (dA_cons (dE_ix (dE_var 0) dE_int) dA_nil)))) (dW_or1 (dT_not (dT_chn oLe oLe dE_int (dE_ix (dE_var 0) dE_int) dE_int))))))) (dSs_one (dS_ret dE_bl)) dSs_nil)
    (dSs_cons (dS_asg (dE_var 0) (dGm_tup rfl (dGsm_cons (dG_pure (dG_name 1 sc__law_are_postings.nd)) (dGsm_cons (dG_pure (dG_name 2 sc__law_are_postings.nd)) (dGsm_cons (dG_pure (dG_name 3 sc__law_are_postings.nd)) dGsm_nil)))))
    (dSs_cons (dS_if (PW.pt (dW_or (dT_not (dT_val (dE_bi cIsi boot_isinstance E.n_isinstance (dA_cons (dE_var 2) (dA_cons (dE_tyc boot_tuple E.n_tuple) dA_nil))))) (dW_or (dT_cmp oGt (dE_bi cLen boot_len E.n_len (dA_cons (dE_var 2) dA_nil)) dE_int (bm _)) (dW_or (dT_not (dT_val (dE_bi cIsi boot_isinstance E.n_isinstance (dA_cons (dE_var 3) (dA_cons (dE_tyc boot_tuple E.n_tuple) dA_nil))))) (dW_or1 (dT_cmp (oNe (u64 hr)) (dE_bi cLen boot_len E.n_len (dA_cons (dE_var 3) dA_nil)) (dE_var 1) (bm _))))))) (dSs_one (dS_ret dE_bl)) dSs_nil)
    (dSs_cons (dS_if (dT_not (dT_val (dE_bi (cAll rfl) boot_all E.n_all (dA_cons (dE_lc rfl sc__law_are_postings.nd (dI_any (dE_var 2)) (own := [("one", 10)]) (blkOk_by (N := ["value", "letters", "lengths", "lists", "document", "length", "places", "rows", "late", "some", "one", "number"]) (sc := defScope st__law_are_postings) (by decide +kernel)) (fun _ _ _ _ _ => (dG_name 10 sc__law_are_postings.nd)) (fun _ _ _ _ _ => dTs_nil) (fun _ _ _ _ _ => (dE_or (dE_cmp oIs (dE_var 10) dE_non (bm _)) (dE_one (dE_and (dE_cw C__law_is_count hr hgd (by decide) (dA_cons (dE_var 10) dA_nil)) (dE_one (dE_cmp oLt (dE_var 10) dE_int (bm _))))))) (by decide)) dA_nil)))) (dSs_one (dS_ret dE_bl)) dSs_nil)
    (dSs_cons (dS_if (dT_not (dT_val (dE_bi (cAll rfl) boot_all E.n_all (dA_cons (dE_lc rfl sc__law_are_postings.nd (dI_enum rfl E.n_enumerate (dE_var 3)) (own := [("number", 11), ("one", 10)]) (blkOk_by (N := ["value", "letters", "lengths", "lists", "document", "length", "places", "rows", "late", "some", "one", "number"]) (sc := defScope st__law_are_postings) (by decide +kernel)) (fun _ _ _ _ _ => (dG_tup rfl (dGs_cons (dG_name 11 sc__law_are_postings.nd) (dGs_cons (dG_name 10 sc__law_are_postings.nd) dGs_nil)))) (fun _ _ _ _ _ => dTs_nil) (fun _ _ _ _ _ => (dE_cw C__law_is_list hr hgd (by decide) (dA_cons (dE_var 1) (dA_cons (dE_var 11) (dA_cons (dE_var 2) (dA_cons (dE_var 10) dA_nil)))))) (by decide)) dA_nil)))) (dSs_one (dS_ret dE_bl)) dSs_nil)
    (dSs_cons (dS_for PassesOwn.never rfl (dI_enum rfl E.n_enumerate (dE_var 2)) (dG_tup rfl (dGs_cons (dG_name 4 sc__law_are_postings.nd) (dGs_cons (dG_name 5 sc__law_are_postings.nd) dGs_nil))) (dSs_cons (dS_own 6 sc__law_are_postings.nd dA_nil)
    (dSs_cons (dS_for PassesOwn.never rfl (dI_any (dE_var 3)) (dG_name 7 sc__law_are_postings.nd) (dSs_one (dS_for PassesOwn.never rfl (dI_any (dE_var 7)) (dG_tup rfl (dGs_cons (dG_name 8 sc__law_are_postings.nd) (dGs_cons (dG_name 9 sc__law_are_postings.nd) dGs_nil))) (dSs_one (dS_extend 6 (dE_ite (dT_cmp (oEq (u64 hr)) (dE_var 8) (dE_var 4) (bm _)) (dE_var 9) (dE_tup dA_nil)))))))
    (dSs_one (dS_frz 6 (dS_if (dT_cmp (oNe (u64 hr)) (dE_bi cSorted boot_sorted E.n_sorted (dA_cons (dE_var 6) dA_nil)) (dE_lrg rfl E.n_list E.n_range (dE_ite (dT_cmp oIsnt (dE_var 5) dE_non (bm _)) (dE_var 5) dE_int)) (bm _)) (dSs_one (dS_ret dE_bl)) dSs_nil))))))
    (dSs_one (dS_ret dE_bl))))))))
  exact Wk.ofN D h hm (fun _ _ _ _ _ _ us hl => match us, hl with | [_], _ => rfl)
abbrev st__law_draw : Stmt := top 35
theorem sc__law_draw : FnScope ["pot", "many", "digit"] ["pot", "many"] (defScope st__law_draw) := ⟨rfl, rfl, rfl, by decide +kernel, rfl, by decide +kernel, by decide +kernel⟩
theorem w__law_draw (E : Gls mg)  (D : FunD K "_law_draw" "_law_draw" (defArgs st__law_draw) (defBody st__law_draw) (defScope st__law_draw) [] [] f fd) (hm : mg ("_law_draw" : Str) = some (.ref f)) : Wk P w K mg base st__law_draw "_law_draw" [] 1 ["pot", "many"] F__law_draw := by
  have h := def_ok (P := P) (w := w) (mg := mg) (base := base) (k := 0) D sc__law_draw (b := b__law_draw) fun cdv A outer s H hr hgd =>
    (dSs_cons (dS_if (dT_cmp oGt (dE_ixB (dE_var 0) dE_int) dE_int (bm _)) (dSs_cons (dS_asg (dE_bi cDivmod boot_divmod E.n_divmod (dA_cons (dE_ixB (dE_var 0) dE_int) (dA_cons (dE_var 1) dA_nil))) (dGm_tup rfl (dGsm_cons (dG_bset (dE_var 0) dE_int) (dGsm_cons (dG_pure (dG_name 2 sc__law_draw.nd)) dGsm_nil))))
    (dSs_one (dS_ret (dE_var 2)))) dSs_nil)
    (dSs_cons (dS_asg (dE_bin oMod (dE_ty cInt boot_int E.n_int (dA_cons (dE_bin oAdd (dE_bin oMulA (dE_ixB (dE_var 0) dE_int) dE_int) dE_int) dA_nil)) dE_int) (dG_bset (dE_var 0) dE_int))
    (dSs_one (dS_ret (dE_bin oMod (dE_ty cInt boot_int E.n_int (dA_cons (dE_bin oFdiv (dE_bin oMod (dE_ty cInt boot_int E.n_int (dA_cons (dE_bin oMulA (dE_ixB (dE_var 0) dE_int) (dE_ixB (dE_var 0) dE_int)) dA_nil)) dE_int) dE_int) dA_nil)) (dE_var 1))))))
  exact Wk.ofN D h hm (fun _ _ _ _ _ _ us hl => match us, hl with | [_, _], _ => rfl)
abbrev st__law_other : Stmt := top 47
theorem sc__law_other : FnScope ["row", "at", "thing"] ["row", "at", "thing"] (defScope st__law_other) := ⟨rfl, rfl, rfl, by decide +kernel, rfl, by decide +kernel, by decide +kernel⟩
theorem w__law_other (E : Gls mg)  (D : FunD K "_law_other" "_law_other" (defArgs st__law_other) (defBody st__law_other) (defScope st__law_other) [] [] f fd) (hm : mg ("_law_other" : Str) = some (.ref f)) : Wk P w K mg base st__law_other "_law_other" [] 1 ["row", "at", "thing"] F__law_other := by
  have h := def_ok (P := P) (w := w) (mg := mg) (base := base) (k := 0) D sc__law_other (b := b__law_other) fun cdv A outer s H hr hgd =>
    (dSs_one (dS_ret (dE_bin oAdd (dE_bin oAdd (dE_sl (dE_var 0) dO_none (dO_some (dE_var 1))) (dE_tup (dA_cons (dE_var 2) dA_nil))) (dE_sl (dE_var 0) (dO_some (dE_bin oAdd (dE_var 1) dE_int)) dO_none))))
  exact Wk.ofN D h hm (fun _ _ _ _ _ _ us hl => match us, hl with | [_, _, _], _ => rfl)
abbrev st__law_bent : Stmt := top 48
theorem sc__law_bent : FnScope ["pot", "value", "found", "number", "rows", "some", "letters", "lengths", "lists", "at", "own", "spot", "odd", "document", "places", "one"] ["pot", "value"] (defScope st__law_bent) := ⟨rfl, rfl, rfl, by decide +kernel, rfl, by decide +kernel, by decide +kernel⟩
theorem w__law_bent (E : Gls mg) (C__law_draw : Wk P w K mg base st__law_draw "_law_draw" [] 1 ["pot", "many"] F__law_draw) (C__law_other : Wk P w K mg base st__law_other "_law_other" [] 1 ["row", "at", "thing"] F__law_other) (D : FunD K "_law_bent" "_law_bent" (defArgs st__law_bent) (defBody st__law_bent) (defScope st__law_bent) [] [] f fd) (hm : mg ("_law_bent" : Str) = some (.ref f)) : Wk P w K mg base st__law_bent "_law_bent" [] 2 ["pot", "value"] F__law_bent := by
  have h := def_ok (P := P) (w := w) (mg := mg) (base := base) (k := 1) D sc__law_bent (b := b__law_bent) fun cdv A outer s H hr hgd =>
    (dSs_cons (dS_asg (dE_var 1) (dGm_tup rfl (dGsm_cons (dG_pure (dG_name 6 sc__law_bent.nd)) (dGsm_cons (dG_pure (dG_name 7 sc__law_bent.nd)) (dGsm_cons (dG_pure (dG_name 8 sc__law_bent.nd)) dGsm_nil)))))
    (dSs_cons (dS_own 2 sc__law_bent.nd (dA_cons (dE_var 1) (dA_cons (dE_ty (cList rfl) boot_list E.n_list (dA_cons (dE_var 1) dA_nil)) (dA_cons (dE_sl (dE_var 1) dO_none (dO_some dE_int)) (dA_cons (dE_bin oAdd (dE_var 1) (dE_tup (dA_cons dE_int dA_nil))) (dA_cons (dE_tup (dA_cons (dE_var 6) (dA_cons (dE_ty (cList rfl) boot_list E.n_list (dA_cons (dE_var 7) dA_nil)) (dA_cons (dE_var 8) dA_nil)))) (dA_cons (dE_tup (dA_cons (dE_var 6) (dA_cons (dE_var 7) (dA_cons (dE_ty (cList rfl) boot_list E.n_list (dA_cons (dE_var 8) dA_nil)) dA_nil)))) dA_nil)))))))
    (dSs_cons (dS_extend 2 (dE_lc rfl sc__law_bent.nd (dI_any (dE_tup (dA_cons (dE_bin oAdd (dE_var 6) dE_int) (dA_cons dE_int (dA_cons dE_int (dA_cons dE_bl (dA_cons dE_non (dA_cons dE_str dA_nil)))))))) (own := [("odd", 12)]) (blkOk_by (N := ["pot", "value", "found", "number", "rows", "some", "letters", "lengths", "lists", "at", "own", "spot", "odd", "document", "places", "one"]) (sc := defScope st__law_bent) (by decide +kernel)) (fun _ _ _ _ _ => (dG_name 12 sc__law_bent.nd)) (fun _ _ _ _ _ => dTs_nil) (fun _ _ _ _ _ => (dE_tup (dA_cons (dE_var 12) (dA_cons (dE_var 7) (dA_cons (dE_var 8) dA_nil))))) (by decide)))
    (dSs_cons (dS_extend 2 (dE_lc rfl sc__law_bent.nd (dI_any (dE_tup (dA_cons dE_non (dA_cons dE_int (dA_cons dE_int (dA_cons dE_int (dA_cons dE_bl (dA_cons dE_str (dA_cons (dE_neg dE_int) dA_nil))))))))) (own := [("odd", 12)]) (blkOk_by (N := ["pot", "value", "found", "number", "rows", "some", "letters", "lengths", "lists", "at", "own", "spot", "odd", "document", "places", "one"]) (sc := defScope st__law_bent) (by decide +kernel)) (fun _ _ _ _ _ => (dG_name 12 sc__law_bent.nd)) (fun _ _ _ _ _ => dTs_nil) (fun _ _ _ _ _ => (dE_tup (dA_cons (dE_var 6) (dA_cons (dE_bin oAdd (dE_var 7) (dE_tup (dA_cons (dE_var 12) dA_nil))) (dA_cons (dE_var 8) dA_nil))))) (by decide)))
    (dSs_cons (dS_append 2 (dE_tup (dA_cons (dE_var 6) (dA_cons (dE_sl (dE_var 7) (dO_some dE_int) dO_none) (dA_cons (dE_var 8) dA_nil)))))
    (dSs_cons (dS_if (dT_cmp (oNe (u64 hr)) (dE_var 7) (dE_tup dA_nil) (bm _)) (dSs_cons (dS_set 9 sc__law_bent.nd (dE_cw C__law_draw hr hgd (by decide) (dA_cons (dE_var 0) (dA_cons (dE_bi cLen boot_len E.n_len (dA_cons (dE_var 7) dA_nil)) dA_nil))))
    (dSs_cons (dS_set 10 sc__law_bent.nd (dE_ite (dT_cmp oIsnt (dE_ix (dE_var 7) (dE_var 9)) dE_non (bm _)) (dE_ix (dE_var 7) (dE_var 9)) dE_int))
    (dSs_one (dS_extend 2 (dE_lc rfl sc__law_bent.nd (dI_any (dE_tup (dA_cons (dE_bin oAdd (dE_var 10) dE_int) (dA_cons (dE_bin oSub (dE_var 10) dE_int) (dA_cons dE_non (dA_cons dE_int (dA_cons dE_bl (dA_cons dE_int dA_nil)))))))) (own := [("odd", 12)]) (blkOk_by (N := ["pot", "value", "found", "number", "rows", "some", "letters", "lengths", "lists", "at", "own", "spot", "odd", "document", "places", "one"]) (sc := defScope st__law_bent) (by decide +kernel)) (fun _ _ _ _ _ => (dG_name 12 sc__law_bent.nd)) (fun _ _ _ _ _ => dTs_nil) (fun _ _ _ _ _ => (dE_tup (dA_cons (dE_var 6) (dA_cons (dE_cw C__law_other hr hgd (by decide) (dA_cons (dE_var 7) (dA_cons (dE_var 9) (dA_cons (dE_var 12) dA_nil)))) (dA_cons (dE_var 8) dA_nil))))) (by decide)))))) dSs_nil)
    (dSs_cons (dS_set 3 sc__law_bent.nd (dE_cw C__law_draw hr hgd (by decide) (dA_cons (dE_var 0) (dA_cons (dE_var 6) dA_nil))))
    (dSs_cons (dS_set 4 sc__law_bent.nd (dE_ix (dE_var 8) (dE_var 3)))
    (dSs_cons (dS_set 5 sc__law_bent.nd (dE_lst (dA_cons (dE_ty (cList rfl) boot_list E.n_list (dA_cons (dE_var 4) dA_nil)) (dA_cons (dE_bin oAdd (dE_var 4) (dE_tup (dA_cons (dE_tup (dA_cons dE_int (dA_cons (dE_tup (dA_cons dE_int dA_nil)) dA_nil))) dA_nil))) (dA_cons (dE_rev (dE_var 4)) (dA_cons (dE_bin oAdd (dE_var 4) (dE_tup (dA_cons (dE_tup (dA_cons dE_int (dA_cons (dE_tup (dA_cons dE_int dA_nil)) dA_nil))) dA_nil))) (dA_cons (dE_bin oAdd (dE_var 4) (dE_tup (dA_cons dE_non dA_nil))) (dA_cons (dE_sl (dE_var 4) (dO_some dE_int) dO_none) (dA_cons dE_non dA_nil)))))))))
    (dSs_cons (dS_if (dT_cmp (oNe (u64 hr)) (dE_var 4) (dE_tup dA_nil) (bm _)) (dSs_cons (dS_set 11 sc__law_bent.nd (dE_cw C__law_draw hr hgd (by decide) (dA_cons (dE_var 0) (dA_cons (dE_bi cLen boot_len E.n_len (dA_cons (dE_var 4) dA_nil)) dA_nil))))
    (dSs_cons (dS_asg (dE_ix (dE_var 4) (dE_var 11)) (dGm_tup rfl (dGsm_cons (dG_pure (dG_name 13 sc__law_bent.nd)) (dGsm_cons (dG_pure (dG_name 14 sc__law_bent.nd)) dGsm_nil))))
    (dSs_cons (dS_set 12 sc__law_bent.nd (dE_lst (dA_cons (dE_tup (dA_cons (dE_var 13) (dA_cons (dE_tup dA_nil) dA_nil))) (dA_cons (dE_tup (dA_cons (dE_var 13) (dA_cons (dE_rev (dE_var 14)) dA_nil))) (dA_cons (dE_tup (dA_cons (dE_var 13) (dA_cons (dE_bin oAdd (dE_var 14) (dE_tup (dA_cons dE_int dA_nil))) dA_nil))) (dA_cons (dE_tup (dA_cons (dE_var 13) (dA_cons (dE_sl (dE_var 14) (dO_some dE_int) dO_none) dA_nil))) (dA_cons (dE_tup (dA_cons (dE_var 13) (dA_cons (dE_ty (cList rfl) boot_list E.n_list (dA_cons (dE_var 14) dA_nil)) dA_nil))) (dA_cons (dE_tup (dA_cons (dE_var 13) dA_nil)) dA_nil))))))))
    (dSs_cons (dS_set 12 sc__law_bent.nd (dE_bin oAdd (dE_var 12) (dE_lst (dA_cons (dE_tup (dA_cons (dE_bin oAdd (dE_var 13) dE_int) (dA_cons (dE_var 14) dA_nil))) (dA_cons (dE_tup (dA_cons dE_bl (dA_cons (dE_var 14) dA_nil))) (dA_cons (dE_lst (dA_cons (dE_var 13) (dA_cons (dE_var 14) dA_nil))) (dA_cons (dE_tup (dA_cons (dE_var 13) (dA_cons (dE_bin oAdd (dE_var 14) (dE_var 14)) dA_nil))) (dA_cons (dE_tup (dA_cons (dE_var 13) (dA_cons (dE_tup (dA_cons dE_bl dA_nil)) dA_nil))) (dA_cons (dE_tup (dA_cons (dE_var 13) (dA_cons dE_non dA_nil))) dA_nil)))))))))
    (dSs_one (dS_set 5 sc__law_bent.nd (dE_bin oAdd (dE_var 5) (dE_lc rfl sc__law_bent.nd (dI_any (dE_var 12)) (own := [("one", 15)]) (blkOk_by (N := ["pot", "value", "found", "number", "rows", "some", "letters", "lengths", "lists", "at", "own", "spot", "odd", "document", "places", "one"]) (sc := defScope st__law_bent) (by decide +kernel)) (fun _ _ _ _ _ => (dG_name 15 sc__law_bent.nd)) (fun _ _ _ _ _ => dTs_nil) (fun _ _ _ _ _ => (dE_cw C__law_other hr hgd (by decide) (dA_cons (dE_var 4) (dA_cons (dE_var 11) (dA_cons (dE_var 15) dA_nil))))) (by decide))))))))) dSs_nil)
    (dSs_cons (dS_extend 2 (dE_lc rfl sc__law_bent.nd (dI_any (dE_var 5)) (own := [("one", 15)]) (blkOk_by (N := ["pot", "value", "found", "number", "rows", "some", "letters", "lengths", "lists", "at", "own", "spot", "odd", "document", "places", "one"]) (sc := defScope st__law_bent) (by decide +kernel)) (fun _ _ _ _ _ => (dG_name 15 sc__law_bent.nd)) (fun _ _ _ _ _ => dTs_nil) (fun _ _ _ _ _ => (dE_tup (dA_cons (dE_var 6) (dA_cons (dE_var 7) (dA_cons (dE_cw C__law_other hr hgd (by decide) (dA_cons (dE_var 8) (dA_cons (dE_var 3) (dA_cons (dE_var 15) dA_nil)))) dA_nil))))) (by decide)))
    (dSs_cons (dS_append 2 (dE_tup (dA_cons (dE_var 6) (dA_cons (dE_var 7) (dA_cons (dE_rev (dE_var 8)) dA_nil)))))
    (dSs_one (dS_frz 2 (dS_ret (dE_bin oAdd (dE_var 2) (dE_lst (dA_cons dE_non (dA_cons dE_int (dA_cons dE_bl (dA_cons dE_str (dA_cons (dE_tup dA_nil) (dA_cons (dE_lst dA_nil) (dA_cons dE_dict0 (dA_cons (dE_tup (dA_cons dE_int (dA_cons (dE_tup dA_nil) (dA_cons (dE_tup (dA_cons (dE_tup dA_nil) dA_nil)) dA_nil)))) (dA_cons (dE_tup (dA_cons dE_int (dA_cons (dE_tup dA_nil) (dA_cons (dE_tup (dA_cons (dE_tup dA_nil) dA_nil)) dA_nil)))) (dA_cons (dE_tup (dA_cons dE_int (dA_cons (dE_tup (dA_cons dE_int dA_nil)) (dA_cons (dE_tup (dA_cons (dE_tup (dA_cons (dE_tup (dA_cons dE_int (dA_cons (dE_tup (dA_cons dE_int (dA_cons dE_int dA_nil))) dA_nil))) dA_nil)) dA_nil)) dA_nil)))) (dA_cons (dE_tup (dA_cons dE_int (dA_cons (dE_tup (dA_cons dE_int dA_nil)) (dA_cons (dE_tup (dA_cons (dE_tup (dA_cons (dE_tup (dA_cons dE_int (dA_cons (dE_trg rfl E.n_tuple E.n_range dE_int) dA_nil))) dA_nil)) dA_nil)) dA_nil)))) dA_nil))))))))))))))))))))))))))))
  exact Wk.ofN D h hm (fun _ _ _ _ _ _ us hl => match us, hl with | [_, _], _ => rfl)
abbrev st__law_bent_view : Stmt := top 49
theorem sc__law_bent_view : FnScope ["pot", "value", "found", "at", "places", "odd", "length", "lists"] ["pot", "value"] (defScope st__law_bent_view) := ⟨rfl, rfl, rfl, by decide +kernel, rfl, by decide +kernel, by decide +kernel⟩
theorem w__law_bent_view (E : Gls mg) (C__law_draw : Wk P w K mg base st__law_draw "_law_draw" [] 1 ["pot", "many"] F__law_draw) (C__law_other : Wk P w K mg base st__law_other "_law_other" [] 1 ["row", "at", "thing"] F__law_other) (D : FunD K "_law_bent_view" "_law_bent_view" (defArgs st__law_bent_view) (defBody st__law_bent_view) (defScope st__law_bent_view) [] [] f fd) (hm : mg ("_law_bent_view" : Str) = some (.ref f)) : Wk P w K mg base st__law_bent_view "_law_bent_view" [] 2 ["pot", "value"] F__law_bent_view := by
  have h := def_ok (P := P) (w := w) (mg := mg) (base := base) (k := 1) D sc__law_bent_view (b := b__law_bent_view) fun cdv A outer s H hr hgd =>
    (dSs_cons (dS_asg (dE_var 1) (dGm_tup rfl (dGsm_cons (dG_pure (dG_name 6 sc__law_bent_view.nd)) (dGsm_cons (dG_pure (dG_name 7 sc__law_bent_view.nd)) dGsm_nil))))
    (dSs_cons (dS_own 2 sc__law_bent_view.nd (dA_cons (dE_var 1) (dA_cons (dE_ty (cList rfl) boot_list E.n_list (dA_cons (dE_var 1) dA_nil)) (dA_cons (dE_tup (dA_cons (dE_var 6) dA_nil)) (dA_cons (dE_bin oAdd (dE_var 1) (dE_tup (dA_cons dE_int dA_nil))) (dA_cons (dE_tup (dA_cons (dE_var 6) (dA_cons (dE_ty (cList rfl) boot_list E.n_list (dA_cons (dE_var 7) dA_nil)) dA_nil))) (dA_cons (dE_tup (dA_cons (dE_var 6) (dA_cons (dE_bin oAdd (dE_var 7) (dE_tup (dA_cons (dE_tup dA_nil) dA_nil))) dA_nil))) (dA_cons (dE_tup (dA_cons (dE_var 6) (dA_cons (dE_sl (dE_var 7) (dO_some dE_int) dO_none) dA_nil))) (dA_cons (dE_tup (dA_cons (dE_var 6) (dA_cons (dE_rev (dE_var 7)) dA_nil))) dA_nil)))))))))
    (dSs_cons (dS_extend 2 (dE_lc rfl sc__law_bent_view.nd (dI_any (dE_tup (dA_cons dE_non (dA_cons dE_int (dA_cons dE_int (dA_cons dE_int (dA_cons dE_int (dA_cons dE_int (dA_cons dE_bl (dA_cons dE_str (dA_cons (dE_neg dE_int) dA_nil))))))))))) (own := [("odd", 5)]) (blkOk_by (N := ["pot", "value", "found", "at", "places", "odd", "length", "lists"]) (sc := defScope st__law_bent_view) (by decide +kernel)) (fun _ _ _ _ _ => (dG_name 5 sc__law_bent_view.nd)) (fun _ _ _ _ _ => dTs_nil) (fun _ _ _ _ _ => (dE_tup (dA_cons (dE_var 5) (dA_cons (dE_var 7) dA_nil)))) (by decide)))
    (dSs_cons (dS_set 3 sc__law_bent_view.nd (dE_cw C__law_draw hr hgd (by decide) (dA_cons (dE_var 0) (dA_cons (dE_bi cLen boot_len E.n_len (dA_cons (dE_var 7) dA_nil)) dA_nil))))
    (dSs_cons (dS_set 4 sc__law_bent_view.nd (dE_ite (dT_cmp oIsnt (dE_ix (dE_var 7) (dE_var 3)) dE_non (bm _)) (dE_ix (dE_var 7) (dE_var 3)) (dE_tup dA_nil)))
    (dSs_cons (dS_for PassesOwn.never rfl (dI_any (dE_lst (dA_cons dE_non (dA_cons (dE_tup dA_nil) (dA_cons (dE_bin oAdd (dE_var 4) (dE_tup (dA_cons dE_int dA_nil))) (dA_cons (dE_bin oAdd (dE_var 4) (dE_tup (dA_cons dE_int dA_nil))) (dA_cons (dE_sl (dE_var 4) (dO_some dE_int) dO_none) (dA_cons (dE_rev (dE_var 4)) (dA_cons (dE_ty (cList rfl) boot_list E.n_list (dA_cons (dE_var 4) dA_nil)) (dA_cons (dE_tup (dA_cons dE_bl dA_nil)) (dA_cons (dE_tup (dA_cons (dE_neg dE_int) dA_nil)) (dA_cons dE_str (dA_cons (dE_bin oAdd (dE_var 4) (dE_var 4)) (dA_cons (dE_tup (dA_cons dE_int dA_nil)) (dA_cons (dE_tup (dA_cons dE_int (dA_cons dE_int dA_nil))) (dA_cons (dE_tup (dA_cons dE_int dA_nil)) dA_nil)))))))))))))))) (dG_name 5 sc__law_bent_view.nd) (dSs_one (dS_append 2 (dE_tup (dA_cons (dE_var 6) (dA_cons (dE_cw C__law_other hr hgd (by decide) (dA_cons (dE_var 7) (dA_cons (dE_var 3) (dA_cons (dE_var 5) dA_nil)))) dA_nil))))))
    (dSs_one (dS_frz 2 (dS_ret (dE_bin oAdd (dE_var 2) (dE_lst (dA_cons dE_non (dA_cons dE_int (dA_cons dE_bl (dA_cons dE_str (dA_cons (dE_tup dA_nil) (dA_cons (dE_lst dA_nil) (dA_cons dE_dict0 (dA_cons (dE_tup (dA_cons dE_non (dA_cons dE_non dA_nil))) dA_nil)))))))))))))))))))
  exact Wk.ofN D h hm (fun _ _ _ _ _ _ us hl => match us, hl with | [_, _], _ => rfl)
abbrev st__law_pick : Stmt := top 36
theorem sc__law_pick : FnScope ["pot", "some"] ["pot", "some"] (defScope st__law_pick) := ⟨rfl, rfl, rfl, by decide +kernel, rfl, by decide +kernel, by decide +kernel⟩
theorem w__law_pick (E : Gls mg) (C__law_draw : Wk P w K mg base st__law_draw "_law_draw" [] 1 ["pot", "many"] F__law_draw) (D : FunD K "_law_pick" "_law_pick" (defArgs st__law_pick) (defBody st__law_pick) (defScope st__law_pick) [] [] f fd) (hm : mg ("_law_pick" : Str) = some (.ref f)) : Wk P w K mg base st__law_pick "_law_pick" [] 2 ["pot", "some"] F__law_pick := by
  have h := def_ok (P := P) (w := w) (mg := mg) (base := base) (k := 1) D sc__law_pick (b := b__law_pick) fun cdv A outer s H hr hgd =>
    (dSs_one (dS_ret (dE_ix (dE_var 1) (dE_cw C__law_draw hr hgd (by decide) (dA_cons (dE_var 0) (dA_cons (dE_bi cLen boot_len E.n_len (dA_cons (dE_var 1) dA_nil)) dA_nil))))))
  exact Wk.ofN D h hm (fun _ _ _ _ _ _ us hl => match us, hl with | [_, _], _ => rfl)
abbrev st__law_fillings : Stmt := top 50
theorem sc__law_fillings : FnScope ["pot", "letters", "text", "at", "sign", "found"] ["pot", "letters", "text"] (defScope st__law_fillings) := ⟨rfl, rfl, rfl, by decide +kernel, rfl, by decide +kernel, by decide +kernel⟩
theorem w__law_fillings (E : Gls mg) (C__law_draw : Wk P w K mg base st__law_draw "_law_draw" [] 1 ["pot", "many"] F__law_draw) (C__law_pick : Wk P w K mg base st__law_pick "_law_pick" [] 2 ["pot", "some"] F__law_pick) (D : FunD K "_law_fillings" "_law_fillings" (defArgs st__law_fillings) (defBody st__law_fillings) (defScope st__law_fillings) [] [] f fd) (hm : mg ("_law_fillings" : Str) = some (.ref f)) : Wk P w K mg base st__law_fillings "_law_fillings" [] 3 ["pot", "letters", "text"] F__law_fillings := by
  have h := def_ok (P := P) (w := w) (mg := mg) (base := base) (k := 2) D sc__law_fillings (b := b__law_fillings) fun cdv A outer s H hr hgd =>
    (dSs_cons (dS_set 3 sc__law_fillings.nd (dE_cw C__law_draw hr hgd (by decide) (dA_cons (dE_var 0) (dA_cons (dE_bin oAdd (dE_bi cLen boot_len E.n_len (dA_cons (dE_var 2) dA_nil)) dE_int) dA_nil))))
    (dSs_cons (dS_set 4 sc__law_fillings.nd (dE_cw C__law_pick hr hgd (by decide) (dA_cons (dE_var 0) (dA_cons (dE_sl dE_str dO_none (dO_some (dE_var 1))) dA_nil))))
    (dSs_cons (dS_set 5 sc__law_fillings.nd (dE_lst (dA_cons (dE_var 2) (dA_cons (dE_bin oAdd (dE_var 2) (dE_var 4)) (dA_cons (dE_bin oAdd (dE_bin oAdd (dE_sl (dE_var 2) dO_none (dO_some (dE_var 3))) (dE_var 4)) (dE_sl (dE_var 2) (dO_some (dE_var 3)) dO_none)) (dA_cons (dE_bin oAdd (dE_sl (dE_var 2) dO_none (dO_some (dE_var 3))) (dE_sl (dE_var 2) (dO_some (dE_bin oAdd (dE_var 3) dE_int)) dO_none)) (dA_cons (dE_bin oAdd (dE_bin oAdd (dE_sl (dE_var 2) dO_none (dO_some (dE_var 3))) (dE_var 4)) (dE_sl (dE_var 2) (dO_some (dE_bin oAdd (dE_var 3) dE_int)) dO_none)) (dA_cons (dE_rev (dE_var 2)) (dA_cons dE_str dA_nil)))))))))
    (dSs_one (dS_ret (dE_bin oAdd (dE_var 5) (dE_lst (dA_cons (dE_bin oAdd (dE_var 2) (dE_bin oMulA (dE_var 4) dE_int)) (dA_cons dE_non (dA_cons dE_int (dA_cons (dE_lst dA_nil) (dA_cons dE_str (dA_cons dE_str (dA_cons (dE_tup (dA_cons dE_str dA_nil)) (dA_cons (dE_bin oAdd (dE_var 2) dE_str) dA_nil)))))))))))))))
  exact Wk.ofN D h hm (fun _ _ _ _ _ _ us hl => match us, hl with | [_, _, _], _ => rfl)
abbrev st__law_fills : Stmt := top 43
theorem sc__law_fills : FnScope ["letters", "view", "value", "sign", "places", "place", "one"] ["letters", "view", "value"] (defScope st__law_fills) := ⟨rfl, rfl, rfl, by decide +kernel, rfl, by decide +kernel, by decide +kernel⟩
theorem w__law_fills (E : Gls mg)  (D : FunD K "_law_fills" "_law_fills" (defArgs st__law_fills) (defBody st__law_fills) (defScope st__law_fills) [] [] f fd) (hm : mg ("_law_fills" : Str) = some (.ref f)) : Wk P w K mg base st__law_fills "_law_fills" [] 1 ["letters", "view", "value"] F__law_fills := by
  have h := def_ok (P := P) (w := w) (mg := mg) (base := base) (k := 0) D sc__law_fills (b := b__law_fills) fun cdv A outer s H hr hgd =>
    (dSs_cons (dS_if (PW.pt (dW_or (dT_not (dT_val (dE_bi cIsi boot_isinstance E.n_isinstance (dA_cons (dE_var 2) (dA_cons (dE_tyc boot_str E.n_str) dA_nil))))) (dW_or1 (dT_not (dT_val (dE_bi (cAll rfl) boot_all E.n_all (dA_cons (dE_lc rfl sc__law_fills.nd (dI_any (dE_var 2)) (own := [("sign", 3)]) (blkOk_by (N := ["letters", "view", "value", "sign", "places", "place", "one"]) (sc := defScope st__law_fills) (by decide +kernel)) (fun _ _ _ _ _ => (dG_name 3 sc__law_fills.nd)) (fun _ _ _ _ _ => dTs_nil) (fun _ _ _ _ _ => (dE_cmp (oIn (u65 hr)) (dE_var 3) (dE_sl dE_str dO_none (dO_some (dE_var 0))) (by rfl))) (by decide)) dA_nil))))))) (dSs_one (dS_ret dE_bl)) dSs_nil)
    (dSs_cons (dS_if (PW.pt (dW_and (dT_cmp oIsnt (dE_ix (dE_var 1) dE_int) dE_non (bm _)) (dW_and1 (dT_cmp (oNe (u64 hr)) (dE_bi cLen boot_len E.n_len (dA_cons (dE_var 2) dA_nil)) (dE_ix (dE_var 1) dE_int) (bm _))))) (dSs_one (dS_ret dE_bl)) dSs_nil)
    (dSs_cons (dS_for PassesOwn.never rfl (dI_zip rfl E.n_zip dE_str (dE_ix (dE_var 1) dE_int)) (dG_tup rfl (dGs_cons (dG_name 3 sc__law_fills.nd) (dGs_cons (dG_name 4 sc__law_fills.nd) dGs_nil))) (dSs_one (dS_if (PW.pt (dW_and (dT_cmp oIsnt (dE_var 4) dE_non (bm _)) (dW_and1 (dT_cmp (oNe (u64 hr)) (dE_ty (cList rfl) boot_list E.n_list (dA_cons (dE_var 4) dA_nil)) (dE_lc rfl sc__law_fills.nd (dI_enum rfl E.n_enumerate (dE_var 2)) (own := [("place", 5), ("one", 6)]) (blkOk_by (N := ["letters", "view", "value", "sign", "places", "place", "one"]) (sc := defScope st__law_fills) (by decide +kernel)) (fun _ _ _ _ _ => (dG_tup rfl (dGs_cons (dG_name 5 sc__law_fills.nd) (dGs_cons (dG_name 6 sc__law_fills.nd) dGs_nil)))) (fun _ _ _ _ _ => (dTs_one (dT_cmp (oEq (u64 hr)) (dE_var 6) (dE_var 3) (bm _)))) (fun _ _ _ _ _ => (dE_var 5)) (by decide)) (bm _))))) (dSs_one (dS_ret dE_bl)) dSs_nil)))
    (dSs_one (dS_ret dE_bl)))))
  exact Wk.ofN D h hm (fun _ _ _ _ _ _ us hl => match us, hl with | [_, _, _], _ => rfl)
abbrev st__law_is_view : Stmt := top 42
theorem sc__law_is_view : FnScope ["letters", "value", "places", "one", "place"] ["letters", "value"] (defScope st__law_is_view) := ⟨rfl, rfl, rfl, by decide +kernel, rfl, by decide +kernel, by decide +kernel⟩
theorem w__law_is_view (E : Gls mg) (C__law_are_places : Wk P w K mg base st__law_are_places "_law_are_places" [] 2 ["value", "below"] F__law_are_places) (C__law_is_count : Wk P w K mg base st__law_is_count "_law_is_count" [] 1 ["value"] F__law_is_count) (D : FunD K "_law_is_view" "_law_is_view" (defArgs st__law_is_view) (defBody st__law_is_view) (defScope st__law_is_view) [] [] f fd) (hm : mg ("_law_is_view" : Str) = some (.ref f)) : Wk P w K mg base st__law_is_view "_law_is_view" [] 3 ["letters", "value"] F__law_is_view := by
  have h := def_ok (P := P) (w := w) (mg := mg) (base := base) (k := 2) D sc__law_is_view (b := b__law_is_view) fun cdv A outer s H hr hgd =>
    (dSs_cons (dS_if (PW.pt (dW_or (dT_not (dT_val (dE_bi cIsi boot_isinstance E.n_isinstance (dA_cons (dE_var 1) (dA_cons (dE_tyc boot_tuple E.n_tuple) dA_nil))))) (dW_or (dT_cmp (oNe (u64 hr)) (dE_bi cLen boot_len E.n_len (dA_cons (dE_var 1) dA_nil)) dE_int (bm _)) (dW_or1 (PW.pt (dW_and (dT_cmp oIsnt (dE_ix (dE_var 1) dE_int) dE_non (bm _)) (dW_and1 (dT_not (PW.pt (dW_and (dT_val (dE_cw C__law_is_count hr hgd (by decide) (dA_cons (dE_ix (dE_var 1) dE_int) dA_nil))) (dW_and1 (dT_cmp oLt (dE_ix (dE_var 1) dE_int) dE_int (bm _))))))))))))) (dSs_one (dS_ret dE_bl)) dSs_nil)
    (dSs_cons (dS_if (PW.pt (dW_or (dT_not (dT_val (dE_bi cIsi boot_isinstance E.n_isinstance (dA_cons (dE_ix (dE_var 1) dE_int) (dA_cons (dE_tyc boot_tuple E.n_tuple) dA_nil))))) (dW_or1 (dT_cmp (oNe (u64 hr)) (dE_bi cLen boot_len E.n_len (dA_cons (dE_ix (dE_var 1) dE_int) dA_nil)) (dE_var 0) (bm _))))) (dSs_one (dS_ret dE_bl)) dSs_nil)
    (dSs_cons (dS_if (dT_not (dT_val (dE_bi (cAll rfl) boot_all E.n_all (dA_cons (dE_lc rfl sc__law_is_view.nd (dI_any (dE_ix (dE_var 1) dE_int)) (own := [("one", 3)]) (blkOk_by (N := ["letters", "value", "places", "one", "place"]) (sc := defScope st__law_is_view) (by decide +kernel)) (fun _ _ _ _ _ => (dG_name 3 sc__law_is_view.nd)) (fun _ _ _ _ _ => dTs_nil) (fun _ _ _ _ _ => (dE_or (dE_cmp oIs (dE_var 3) dE_non (bm _)) (dE_one (dE_cw C__law_are_places hr hgd (by decide) (dA_cons (dE_var 3) (dA_cons dE_int dA_nil)))))) (by decide)) dA_nil)))) (dSs_one (dS_ret dE_bl)) dSs_nil)
    (dSs_cons (dS_own 2 sc__law_is_view.nd dA_nil)
    (dSs_cons (dS_for PassesOwn.never rfl (dI_any (dE_ix (dE_var 1) dE_int)) (dG_name 3 sc__law_is_view.nd) (dSs_one (dS_extend 2 (dE_ite (dT_cmp oIsnt (dE_var 3) dE_non (bm _)) (dE_var 3) (dE_tup dA_nil)))))
    (dSs_cons (dS_frz 2 (dS_if (PW.pt (dW_or (dT_cmp (oNe (u64 hr)) (dE_lset E.n_len E.n_set (dE_var 2)) (dE_bi cLen boot_len E.n_len (dA_cons (dE_var 2) dA_nil)) (bm _)) (dW_or1 (PW.pt (dW_and (dT_cmp oIsnt (dE_ix (dE_var 1) dE_int) dE_non (bm _)) (dW_and1 (dT_val (dE_bi (cAny rfl) boot_any E.n_any (dA_cons (dE_lc rfl sc__law_is_view.nd (dI_any (dE_var 2)) (own := [("place", 4)]) (blkOk_by (N := ["letters", "value", "places", "one", "place"]) (sc := defScope st__law_is_view) (by decide +kernel)) (fun _ _ _ _ _ => (dG_name 4 sc__law_is_view.nd)) (fun _ _ _ _ _ => dTs_nil) (fun _ _ _ _ _ => (dE_cmp oGe (dE_var 4) (dE_ix (dE_var 1) dE_int) (bm _))) (by decide)) dA_nil))))))))) (dSs_one (dS_ret dE_bl)) dSs_nil))
    (dSs_cons (dS_if (dT_cmp (oIn (u65 hr)) dE_non (dE_ix (dE_var 1) dE_int) (by rfl)) (dSs_one (dS_ret dE_bl)) dSs_nil)
    (dSs_one (dS_frz 2 (dS_ret (dE_cmp (oEq (u64 hr)) (dE_bi cSorted boot_sorted E.n_sorted (dA_cons (dE_var 2) dA_nil)) (dE_lrg rfl E.n_list E.n_range (dE_ite (dT_cmp oIsnt (dE_ix (dE_var 1) dE_int) dE_non (bm _)) (dE_ix (dE_var 1) dE_int) (dE_bi cLen boot_len E.n_len (dA_cons (dE_var 2) dA_nil)))) (bm _))))))))))))
  exact Wk.ofN D h hm (fun _ _ _ _ _ _ us hl => match us, hl with | [_, _], _ => rfl)
abbrev st__law_postings : Stmt := top 37
theorem sc__law_postings : FnScope ["letters", "texts", "lists", "sign", "rows", "number", "text", "places", "place", "one"] ["letters", "texts"] (defScope st__law_postings) := ⟨rfl, rfl, rfl, by decide +kernel, rfl, by decide +kernel, by decide +kernel⟩
theorem w__law_postings (E : Gls mg)  (D : FunD K "_law_postings" "_law_postings" (defArgs st__law_postings) (defBody st__law_postings) (defScope st__law_postings) [] [] f fd) (hm : mg ("_law_postings" : Str) = some (.ref f)) : Wk P w K mg base st__law_postings "_law_postings" [] 1 ["letters", "texts"] F__law_postings := by
  have h := def_ok (P := P) (w := w) (mg := mg) (base := base) (k := 0) D sc__law_postings (b := b__law_postings) fun cdv A outer s H hr hgd =>
    (dSs_cons (dS_own 2 sc__law_postings.nd dA_nil)
    (dSs_cons (dS_for PassesOwn.never rfl (dI_any (dE_sl dE_str dO_none (dO_some (dE_var 0)))) (dG_name 3 sc__law_postings.nd) (dSs_cons (dS_own 4 sc__law_postings.nd dA_nil)
    (dSs_cons (dS_for PassesOwn.never rfl (dI_enum rfl E.n_enumerate (dE_var 1)) (dG_tup rfl (dGs_cons (dG_name 5 sc__law_postings.nd) (dGs_cons (dG_name 6 sc__law_postings.nd) dGs_nil))) (dSs_cons (dS_set 7 sc__law_postings.nd (dE_ite (dT_cmp oIsnt (dE_var 6) dE_non (bm _)) (dE_ty cTuple boot_tuple E.n_tuple (dA_cons (dE_lc rfl sc__law_postings.nd (dI_enum rfl E.n_enumerate (dE_var 6)) (own := [("place", 8), ("one", 9)]) (blkOk_by (N := ["letters", "texts", "lists", "sign", "rows", "number", "text", "places", "place", "one"]) (sc := defScope st__law_postings) (by decide +kernel)) (fun _ _ _ _ _ => (dG_tup rfl (dGs_cons (dG_name 8 sc__law_postings.nd) (dGs_cons (dG_name 9 sc__law_postings.nd) dGs_nil)))) (fun _ _ _ _ _ => (dTs_one (dT_cmp (oEq (u64 hr)) (dE_var 9) (dE_var 3) (bm _)))) (fun _ _ _ _ _ => (dE_var 8)) (by decide)) dA_nil)) (dE_tup dA_nil)))
    (dSs_one (dS_if (dT_cmp (oNe (u64 hr)) (dE_var 7) (dE_tup dA_nil) (bm _)) (dSs_one (dS_append 4 (dE_tup (dA_cons (dE_var 5) (dA_cons (dE_var 7) dA_nil))))) dSs_nil))))
    (dSs_one (dS_frz 4 (dS_append 2 (dE_ty cTuple boot_tuple E.n_tuple (dA_cons (dE_var 4) dA_nil))))))))
    (dSs_one (dS_frz 2 (dS_ret (dE_tup (dA_cons (dE_var 0) (dA_cons (dE_ty cTuple boot_tuple E.n_tuple (dA_cons (dE_lc rfl sc__law_postings.nd (dI_any (dE_var 1)) (own := [("text", 6)]) (blkOk_by (N := ["letters", "texts", "lists", "sign", "rows", "number", "text", "places", "place", "one"]) (sc := defScope st__law_postings) (by decide +kernel)) (fun _ _ _ _ _ => (dG_name 6 sc__law_postings.nd)) (fun _ _ _ _ _ => dTs_nil) (fun _ _ _ _ _ => (dE_ite (dT_cmp oIsnt (dE_var 6) dE_non (bm _)) (dE_bi cLen boot_len E.n_len (dA_cons (dE_var 6) dA_nil)) dE_non)) (by decide)) dA_nil)) (dA_cons (dE_ty cTuple boot_tuple E.n_tuple (dA_cons (dE_var 2) dA_nil)) dA_nil)))))))))
  exact Wk.ofN D h hm (fun _ _ _ _ _ _ us hl => match us, hl with | [_, _], _ => rfl)
abbrev st__law_text : Stmt := top 38
theorem sc__law_text : FnScope ["pot", "letters", "most", "turn"] ["pot", "letters", "most"] (defScope st__law_text) := ⟨rfl, rfl, rfl, by decide +kernel, rfl, by decide +kernel, by decide +kernel⟩
theorem w__law_text (E : Gls mg) (C__law_draw : Wk P w K mg base st__law_draw "_law_draw" [] 1 ["pot", "many"] F__law_draw) (C__law_pick : Wk P w K mg base st__law_pick "_law_pick" [] 2 ["pot", "some"] F__law_pick) (D : FunD K "_law_text" "_law_text" (defArgs st__law_text) (defBody st__law_text) (defScope st__law_text) [] [] f fd) (hm : mg ("_law_text" : Str) = some (.ref f)) : Wk P w K mg base st__law_text "_law_text" [] 3 ["pot", "letters", "most"] F__law_text := by
  have h := def_ok (P := P) (w := w) (mg := mg) (base := base) (k := 2) D sc__law_text (b := b__law_text) fun cdv A outer s H hr hgd =>
    (dSs_one (dS_ret (dE_join dE_str (dE_lc rfl sc__law_text.nd (dI_rng1 rfl E.n_range (dA_cons (dE_cw C__law_draw hr hgd (by decide) (dA_cons (dE_var 0) (dA_cons (dE_bin oAdd (dE_var 2) dE_int) dA_nil))) dA_nil)) (own := [("turn", 3)]) (blkOk_by (N := ["pot", "letters", "most", "turn"]) (sc := defScope st__law_text) (by decide +kernel)) (fun _ _ _ _ _ => (dG_name 3 sc__law_text.nd)) (fun _ _ _ _ _ => dTs_nil) (fun _ _ _ _ _ => (dE_cw C__law_pick hr hgd (by decide) (dA_cons (dE_var 0) (dA_cons (dE_sl dE_str dO_none (dO_some (dE_var 1))) dA_nil)))) (by decide)))))
  exact Wk.ofN D h hm (fun _ _ _ _ _ _ us hl => match us, hl with | [_, _, _], _ => rfl)
abbrev st__law_texts_drawn : Stmt := top 39
theorem sc__law_texts_drawn : FnScope ["pot", "letters", "many", "most", "turn"] ["pot", "letters", "many", "most"] (defScope st__law_texts_drawn) := ⟨rfl, rfl, rfl, by decide +kernel, rfl, by decide +kernel, by decide +kernel⟩
theorem w__law_texts_drawn (E : Gls mg) (C__law_draw : Wk P w K mg base st__law_draw "_law_draw" [] 1 ["pot", "many"] F__law_draw) (C__law_text : Wk P w K mg base st__law_text "_law_text" [] 3 ["pot", "letters", "most"] F__law_text) (D : FunD K "_law_texts_drawn" "_law_texts_drawn" (defArgs st__law_texts_drawn) (defBody st__law_texts_drawn) (defScope st__law_texts_drawn) [] [] f fd) (hm : mg ("_law_texts_drawn" : Str) = some (.ref f)) : Wk P w K mg base st__law_texts_drawn "_law_texts_drawn" [] 4 ["pot", "letters", "many", "most"] F__law_texts_drawn := by
  have h := def_ok (P := P) (w := w) (mg := mg) (base := base) (k := 3) D sc__law_texts_drawn (b := b__law_texts_drawn) fun cdv A outer s H hr hgd =>
    (dSs_one (dS_ret (dE_lc rfl sc__law_texts_drawn.nd (dI_rng1 rfl E.n_range (dA_cons (dE_cw C__law_draw hr hgd (by decide) (dA_cons (dE_var 0) (dA_cons (dE_bin oAdd (dE_var 2) dE_int) dA_nil))) dA_nil)) (own := [("turn", 4)]) (blkOk_by (N := ["pot", "letters", "many", "most", "turn"]) (sc := defScope st__law_texts_drawn) (by decide +kernel)) (fun _ _ _ _ _ => (dG_name 4 sc__law_texts_drawn.nd)) (fun _ _ _ _ _ => dTs_nil) (fun _ _ _ _ _ => (dE_ite (dT_cmp (oEq (u64 hr)) (dE_cw C__law_draw hr hgd (by decide) (dA_cons (dE_var 0) (dA_cons dE_int dA_nil))) dE_int (bm _)) dE_non (dE_cw C__law_text hr hgd (by decide) (dA_cons (dE_var 0) (dA_cons (dE_var 1) (dA_cons (dE_var 3) dA_nil)))))) (by decide))))
  exact Wk.ofN D h hm (fun _ _ _ _ _ _ us hl => match us, hl with | [_, _, _, _], _ => rfl)
abbrev st__law_view : Stmt := top 44
theorem sc__law_view : FnScope ["letters", "text", "looks", "lists", "sign", "place", "one"] ["letters", "text", "looks"] (defScope st__law_view) := ⟨rfl, rfl, rfl, by decide +kernel, rfl, by decide +kernel, by decide +kernel⟩
theorem w__law_view (E : Gls mg)  (D : FunD K "_law_view" "_law_view" (defArgs st__law_view) (defBody st__law_view) (defScope st__law_view) [] [] f fd) (hm : mg ("_law_view" : Str) = some (.ref f)) : Wk P w K mg base st__law_view "_law_view" [] 1 ["letters", "text", "looks"] F__law_view := by
  have h := def_ok (P := P) (w := w) (mg := mg) (base := base) (k := 0) D sc__law_view (b := b__law_view) fun cdv A outer s H hr hgd =>
    (dSs_cons (dS_own 3 sc__law_view.nd dA_nil)
    (dSs_cons (dS_for PassesOwn.never rfl (dI_any (dE_sl dE_str dO_none (dO_some (dE_var 0)))) (dG_name 4 sc__law_view.nd) (dSs_one (dS_append 3 (dE_ite (dT_cmp (oIn (u65 hr)) (dE_var 4) (dE_var 2) (by rfl)) (dE_ty cTuple boot_tuple E.n_tuple (dA_cons (dE_lc rfl sc__law_view.nd (dI_enum rfl E.n_enumerate (dE_var 1)) (own := [("place", 5), ("one", 6)]) (blkOk_by (N := ["letters", "text", "looks", "lists", "sign", "place", "one"]) (sc := defScope st__law_view) (by decide +kernel)) (fun _ _ _ _ _ => (dG_tup rfl (dGs_cons (dG_name 5 sc__law_view.nd) (dGs_cons (dG_name 6 sc__law_view.nd) dGs_nil)))) (fun _ _ _ _ _ => (dTs_one (dT_cmp (oEq (u64 hr)) (dE_var 6) (dE_var 4) (bm _)))) (fun _ _ _ _ _ => (dE_var 5)) (by decide)) dA_nil)) dE_non))))
    (dSs_one (dS_frz 3 (dS_ret (dE_tup (dA_cons (dE_ite (dT_cmp (oIn (u65 hr)) dE_str (dE_var 2) (by rfl)) (dE_bi cLen boot_len E.n_len (dA_cons (dE_var 1) dA_nil)) dE_non) (dA_cons (dE_ty cTuple boot_tuple E.n_tuple (dA_cons (dE_var 3) dA_nil)) dA_nil))))))))
  exact Wk.ofN D h hm (fun _ _ _ _ _ _ us hl => match us, hl with | [_, _, _], _ => rfl)
abbrev st_is_integer : Stmt := top 6
theorem sc_is_integer : FnScope ["value"] ["value"] (defScope st_is_integer) := ⟨rfl, rfl, rfl, by decide +kernel, rfl, by decide +kernel, by decide +kernel⟩
theorem w_is_integer (E : Gls mg)  (D : FunD K "is_integer" "is_integer" (defArgs st_is_integer) (defBody st_is_integer) (defScope st_is_integer) [] [] f fd) (hm : mg ("is_integer" : Str) = some (.ref f)) : Wk P w K mg base st_is_integer "is_integer" [] 1 ["value"] F_is_integer := by
  have h := def_ok (P := P) (w := w) (mg := mg) (base := base) (k := 0) D sc_is_integer (b := b_is_integer) fun cdv A outer s H hr hgd =>
    (dSs_one (dS_ret (dE_and (dE_bi cIsi boot_isinstance E.n_isinstance (dA_cons (dE_var 0) (dA_cons (dE_tyc boot_int E.n_int) dA_nil))) (dE_one (dE_not (dE_bi cIsi boot_isinstance E.n_isinstance (dA_cons (dE_var 0) (dA_cons (dE_tyc boot_bool E.n_bool) dA_nil))))))))
  exact Wk.ofN D h hm (fun _ _ _ _ _ _ us hl => match us, hl with | [_], _ => rfl)
abbrev st_is_within : Stmt := top 7
theorem sc_is_within : FnScope ["value", "least", "most"] ["value", "least", "most"] (defScope st_is_within) := ⟨rfl, rfl, rfl, by decide +kernel, rfl, by decide +kernel, by decide +kernel⟩
theorem w_is_within (E : Gls mg) (C_is_integer : Wk P w K mg base st_is_integer "is_integer" [] 1 ["value"] F_is_integer) (D : FunD K "is_within" "is_within" (defArgs st_is_within) (defBody st_is_within) (defScope st_is_within) [] [] f fd) (hm : mg ("is_within" : Str) = some (.ref f)) : Wk P w K mg base st_is_within "is_within" [] 2 ["value", "least", "most"] F_is_within := by
  have h := def_ok (P := P) (w := w) (mg := mg) (base := base) (k := 1) D sc_is_within (b := b_is_within) fun cdv A outer s H hr hgd =>
    (dSs_one (dS_ret (dE_and (dE_cw C_is_integer hr hgd (by decide) (dA_cons (dE_var 0) dA_nil)) (dE_one (dE_chn oLe oLe (dE_var 1) (dE_var 0) (dE_var 2))))))
  exact Wk.ofN D h hm (fun _ _ _ _ _ _ us hl => match us, hl with | [_, _, _], _ => rfl)
abbrev st_check_letters : Stmt := top 8
theorem sc_check_letters : FnScope ["value"] ["value"] (defScope st_check_letters) := ⟨rfl, rfl, rfl, by decide +kernel, rfl, by decide +kernel, by decide +kernel⟩
theorem w_check_letters (E : Gls mg) (C_is_within : Wk P w K mg base st_is_within "is_within" [] 2 ["value", "least", "most"] F_is_within) (D : FunD K "check_letters" "check_letters" (defArgs st_check_letters) (defBody st_check_letters) (defScope st_check_letters) [] [] f fd) (hm : mg ("check_letters" : Str) = some (.ref f)) : Wk P w K mg base st_check_letters "check_letters" [] 3 ["value"] F_check_letters := by
  have h := def_ok (P := P) (w := w) (mg := mg) (base := base) (k := 2) D sc_check_letters (b := b_check_letters) fun cdv A outer s H hr hgd =>
    (dSs_one (dS_if (dT_not (dT_val (dE_cw C_is_within hr hgd (by decide) (dA_cons (dE_var 0) (dA_cons dE_int (dA_cons (dE_bi cLen boot_len E.n_len (dA_cons (dE_gs E.g_SIGNS) dA_nil)) dA_nil)))))) (dSs_one dS_never) dSs_nil))
  exact Wk.ofN D h hm (fun _ _ _ _ _ _ us hl => match us, hl with | [_], _ => rfl)
abbrev st_is_filling : Stmt := top 30
theorem sc_is_filling : FnScope ["view", "numbers", "number", "places", "place", "one"] ["view", "numbers"] (defScope st_is_filling) := ⟨rfl, rfl, rfl, by decide +kernel, rfl, by decide +kernel, by decide +kernel⟩
theorem w_is_filling (E : Gls mg)  (D : FunD K "is_filling" "is_filling" (defArgs st_is_filling) (defBody st_is_filling) (defScope st_is_filling) [] [] f fd) (hm : mg ("is_filling" : Str) = some (.ref f)) : Wk P w K mg base st_is_filling "is_filling" [] 1 ["view", "numbers"] F_is_filling := by
  have h := def_ok (P := P) (w := w) (mg := mg) (base := base) (k := 0) D sc_is_filling (b := b_is_filling) fun cdv A outer s H hr hgd =>
    (dSs_cons (dS_if (PW.pt (dW_and (dT_cmp oIsnt (dE_ix (dE_var 0) dE_int) dE_non (bm _)) (dW_and1 (dT_cmp (oNe (u64 hr)) (dE_bi cLen boot_len E.n_len (dA_cons (dE_var 1) dA_nil)) (dE_ix (dE_var 0) dE_int) (bm _))))) (dSs_one (dS_ret dE_bl)) dSs_nil)
    (dSs_cons (dS_for PassesOwn.never rfl (dI_enum rfl E.n_enumerate (dE_ix (dE_var 0) dE_int)) (dG_tup rfl (dGs_cons (dG_name 2 sc_is_filling.nd) (dGs_cons (dG_name 3 sc_is_filling.nd) dGs_nil))) (dSs_one (dS_if (PW.pt (dW_and (dT_cmp oIsnt (dE_var 3) dE_non (bm _)) (dW_and1 (dT_cmp (oNe (u64 hr)) (dE_var 3) (dE_ty cTuple boot_tuple E.n_tuple (dA_cons (dE_lc rfl sc_is_filling.nd (dI_enum rfl E.n_enumerate (dE_var 1)) (own := [("place", 4), ("one", 5)]) (blkOk_by (N := ["view", "numbers", "number", "places", "place", "one"]) (sc := defScope st_is_filling) (by decide +kernel)) (fun _ _ _ _ _ => (dG_tup rfl (dGs_cons (dG_name 4 sc_is_filling.nd) (dGs_cons (dG_name 5 sc_is_filling.nd) dGs_nil)))) (fun _ _ _ _ _ => (dTs_one (dT_cmp (oEq (u64 hr)) (dE_var 5) (dE_var 2) (bm _)))) (fun _ _ _ _ _ => (dE_var 4)) (by decide)) dA_nil)) (bm _))))) (dSs_one (dS_ret dE_bl)) dSs_nil)))
    (dSs_one (dS_ret dE_bl))))
  exact Wk.ofN D h hm (fun _ _ _ _ _ _ us hl => match us, hl with | [_, _], _ => rfl)
abbrev st_letter_list : Stmt := top 9
theorem sc_letter_list : FnScope ["letters"] ["letters"] (defScope st_letter_list) := ⟨rfl, rfl, rfl, by decide +kernel, rfl, by decide +kernel, by decide +kernel⟩
theorem w_letter_list (E : Gls mg)  (D : FunD K "letter_list" "letter_list" (defArgs st_letter_list) (defBody st_letter_list) (defScope st_letter_list) [] [] f fd) (hm : mg ("letter_list" : Str) = some (.ref f)) : Wk P w K mg base st_letter_list "letter_list" [] 1 ["letters"] F_letter_list := by
  have h := def_ok (P := P) (w := w) (mg := mg) (base := base) (k := 0) D sc_letter_list (b := b_letter_list) fun cdv A outer s H hr hgd =>
    (dSs_one (dS_ret (dE_ty (cList rfl) boot_list E.n_list (dA_cons (dE_sl (dE_gs E.g_SIGNS) dO_none (dO_some (dE_var 0))) dA_nil))))
  exact Wk.ofN D h hm (fun _ _ _ _ _ _ us hl => match us, hl with | [_], _ => rfl)
abbrev st_is_text_of : Stmt := top 12
theorem sc_is_text_of : FnScope ["letters", "value", "most", "some", "letter"] ["letters", "value", "most"] (defScope st_is_text_of) := ⟨rfl, rfl, rfl, by decide +kernel, rfl, by decide +kernel, by decide +kernel⟩
theorem w_is_text_of (E : Gls mg) (C_letter_list : Wk P w K mg base st_letter_list "letter_list" [] 1 ["letters"] F_letter_list) (D : FunD K "is_text_of" "is_text_of" (defArgs st_is_text_of) (defBody st_is_text_of) (defScope st_is_text_of) [V.int 60] [] f fd) (hm : mg ("is_text_of" : Str) = some (.ref f)) : Wk P w K mg base st_is_text_of "is_text_of" [V.int 60] 2 ["letters", "value", "most"] F_is_text_of := by
  have h := def_ok (P := P) (w := w) (mg := mg) (base := base) (k := 1) D sc_is_text_of (b := b_is_text_of) fun cdv A outer s H hr hgd =>
    (dSs_cons (dS_if (PW.pt (dW_or (dT_not (dT_val (dE_bi cIsi boot_isinstance E.n_isinstance (dA_cons (dE_var 1) (dA_cons (dE_tyc boot_str E.n_str) dA_nil))))) (dW_or1 (dT_cmp oGt (dE_bi cLen boot_len E.n_len (dA_cons (dE_var 1) dA_nil)) (dE_var 2) (bm _))))) (dSs_one (dS_ret dE_bl)) dSs_nil)
    (dSs_cons (dS_set 3 sc_is_text_of.nd (dE_cw C_letter_list hr hgd (by decide) (dA_cons (dE_var 0) dA_nil)))
    (dSs_one (dS_ret (dE_bi (cAll rfl) boot_all E.n_all (dA_cons (dE_lc rfl sc_is_text_of.nd (dI_any (dE_var 1)) (own := [("letter", 4)]) (blkOk_by (N := ["letters", "value", "most", "some", "letter"]) (sc := defScope st_is_text_of) (by decide +kernel)) (fun _ _ _ _ _ => (dG_name 4 sc_is_text_of.nd)) (fun _ _ _ _ _ => dTs_nil) (fun _ _ _ _ _ => (dE_cmp (oIn (u65 hr)) (dE_var 4) (dE_var 3) (by rfl))) (by decide)) dA_nil))))))
  exact Wk.ofD D (by decide) h hm fun T _ _ _ _ _ _ us its h1 h2 => match us, its, h1, h2 with | [_, _, _], [_], _, _ => ⟨_, rfl, rfl⟩
abbrev st_spots : Stmt := top 13
theorem sc_spots : FnScope ["text", "letter"] ["text"] (defScope st_spots) := ⟨rfl, rfl, rfl, by decide +kernel, rfl, by decide +kernel, by decide +kernel⟩
theorem w_spots (E : Gls mg)  (D : FunD K "spots" "spots" (defArgs st_spots) (defBody st_spots) (defScope st_spots) [] [] f fd) (hm : mg ("spots" : Str) = some (.ref f)) : Wk P w K mg base st_spots "spots" [] 1 ["text"] F_spots := by
  have h := def_ok (P := P) (w := w) (mg := mg) (base := base) (k := 0) D sc_spots (b := b_spots) fun cdv A outer s H hr hgd =>
    (dSs_one (dS_ret (dE_lc rfl sc_spots.nd (dI_any (dE_var 0)) (own := [("letter", 1)]) (blkOk_by (N := ["text", "letter"]) (sc := defScope st_spots) (by decide +kernel)) (fun _ _ _ _ _ => (dG_name 1 sc_spots.nd)) (fun _ _ _ _ _ => dTs_nil) (fun _ _ _ _ _ => (dE_sindex (dE_gs E.g_SIGNS) (dE_var 1))) (by decide))))
  exact Wk.ofN D h hm (fun _ _ _ _ _ _ us hl => match us, hl with | [_], _ => rfl)
abbrev st_are_places : Stmt := top 16
theorem sc_are_places : FnScope ["value", "most", "near", "far", "one"] ["value", "most"] (defScope st_are_places) := ⟨rfl, rfl, rfl, by decide +kernel, rfl, by decide +kernel, by decide +kernel⟩
theorem w_are_places (E : Gls mg) (C_is_within : Wk P w K mg base st_is_within "is_within" [] 2 ["value", "least", "most"] F_is_within) (D : FunD K "are_places" "are_places" (defArgs st_are_places) (defBody st_are_places) (defScope st_are_places) [] [] f fd) (hm : mg ("are_places" : Str) = some (.ref f)) : Wk P w K mg base st_are_places "are_places" [] 3 ["value", "most"] F_are_places := by
  have h := def_ok (P := P) (w := w) (mg := mg) (base := base) (k := 2) D sc_are_places (b := b_are_places) fun cdv A outer s H hr hgd =>
    (dSs_cons (dS_if (PW.pt (dW_or (dT_not (dT_val (dE_bi cIsi boot_isinstance E.n_isinstance (dA_cons (dE_var 0) (dA_cons (dE_tyc boot_tuple E.n_tuple) dA_nil))))) (dW_or1 (dT_not (dT_val (dE_bi (cAll rfl) boot_all E.n_all (dA_cons (dE_lc rfl sc_are_places.nd (dI_any (dE_var 0)) (own := [("one", 4)]) (blkOk_by (N := ["value", "most", "near", "far", "one"]) (sc := defScope st_are_places) (by decide +kernel)) (fun _ _ _ _ _ => (dG_name 4 sc_are_places.nd)) (fun _ _ _ _ _ => dTs_nil) (fun _ _ _ _ _ => (dE_cw C_is_within hr hgd (by decide) (dA_cons (dE_var 4) (dA_cons dE_int (dA_cons (dE_bin oSub (dE_var 1) dE_int) dA_nil))))) (by decide)) dA_nil))))))) (dSs_one (dS_ret dE_bl)) dSs_nil)
    (dSs_one (dS_ret (dE_bi (cAll rfl) boot_all E.n_all (dA_cons (dE_lc rfl sc_are_places.nd (dI_zip rfl E.n_zip (dE_var 0) (dE_sl (dE_var 0) (dO_some dE_int) dO_none)) (own := [("near", 2), ("far", 3)]) (blkOk_by (N := ["value", "most", "near", "far", "one"]) (sc := defScope st_are_places) (by decide +kernel)) (fun _ _ _ _ _ => (dG_tup rfl (dGs_cons (dG_name 2 sc_are_places.nd) (dGs_cons (dG_name 3 sc_are_places.nd) dGs_nil)))) (fun _ _ _ _ _ => dTs_nil) (fun _ _ _ _ _ => (dE_cmp oLt (dE_var 2) (dE_var 3) (bm _))) (by decide)) dA_nil)))))
  exact Wk.ofN D h hm (fun _ _ _ _ _ _ us hl => match us, hl with | [_, _], _ => rfl)
abbrev st_are_looked_lists : Stmt := top 27
theorem sc_are_looked_lists : FnScope ["letters", "value", "places", "one"] ["letters", "value"] (defScope st_are_looked_lists) := ⟨rfl, rfl, rfl, by decide +kernel, rfl, by decide +kernel, by decide +kernel⟩
theorem w_are_looked_lists (E : Gls mg) (C_are_places : Wk P w K mg base st_are_places "are_places" [] 3 ["value", "most"] F_are_places) (D : FunD K "are_looked_lists" "are_looked_lists" (defArgs st_are_looked_lists) (defBody st_are_looked_lists) (defScope st_are_looked_lists) [] [] f fd) (hm : mg ("are_looked_lists" : Str) = some (.ref f)) : Wk P w K mg base st_are_looked_lists "are_looked_lists" [] 4 ["letters", "value"] F_are_looked_lists := by
  have h := def_ok (P := P) (w := w) (mg := mg) (base := base) (k := 3) D sc_are_looked_lists (b := b_are_looked_lists) fun cdv A outer s H hr hgd =>
    (dSs_cons (dS_if (PW.pt (dW_or (dT_not (dT_val (dE_bi cIsi boot_isinstance E.n_isinstance (dA_cons (dE_var 1) (dA_cons (dE_tyc boot_tuple E.n_tuple) dA_nil))))) (dW_or1 (dT_cmp (oNe (u64 hr)) (dE_bi cLen boot_len E.n_len (dA_cons (dE_var 1) dA_nil)) (dE_var 0) (bm _))))) (dSs_one (dS_ret dE_bl)) dSs_nil)
    (dSs_cons (dS_if (dT_not (dT_val (dE_bi (cAll rfl) boot_all E.n_all (dA_cons (dE_lc rfl sc_are_looked_lists.nd (dI_any (dE_var 1)) (own := [("one", 3)]) (blkOk_by (N := ["letters", "value", "places", "one"]) (sc := defScope st_are_looked_lists) (by decide +kernel)) (fun _ _ _ _ _ => (dG_name 3 sc_are_looked_lists.nd)) (fun _ _ _ _ _ => dTs_nil) (fun _ _ _ _ _ => (dE_or (dE_cmp oIs (dE_var 3) dE_non (bm _)) (dE_one (dE_cw C_are_places hr hgd (by decide) (dA_cons (dE_var 3) (dA_cons (dE_gi E.g_MOST_LENGTH) dA_nil)))))) (by decide)) dA_nil)))) (dSs_one (dS_ret dE_bl)) dSs_nil)
    (dSs_cons (dS_own 2 sc_are_looked_lists.nd dA_nil)
    (dSs_cons (dS_for PassesOwn.never rfl (dI_any (dE_var 1)) (dG_name 3 sc_are_looked_lists.nd) (dSs_one (dS_extend 2 (dE_ite (dT_cmp oIsnt (dE_var 3) dE_non (bm _)) (dE_var 3) (dE_tup dA_nil)))))
    (dSs_one (dS_frz 2 (dS_ret (dE_cmp (oEq (u64 hr)) (dE_lset E.n_len E.n_set (dE_var 2)) (dE_bi cLen boot_len E.n_len (dA_cons (dE_var 2) dA_nil)) (bm _)))))))))
  exact Wk.ofN D h hm (fun _ _ _ _ _ _ us hl => match us, hl with | [_, _], _ => rfl)
abbrev st_free_numbers : Stmt := top 25
theorem sc_free_numbers : FnScope ["view", "number", "places"] ["view"] (defScope st_free_numbers) := ⟨rfl, rfl, rfl, by decide +kernel, rfl, by decide +kernel, by decide +kernel⟩
theorem w_free_numbers (E : Gls mg)  (D : FunD K "free_numbers" "free_numbers" (defArgs st_free_numbers) (defBody st_free_numbers) (defScope st_free_numbers) [] [] f fd) (hm : mg ("free_numbers" : Str) = some (.ref f)) : Wk P w K mg base st_free_numbers "free_numbers" [] 1 ["view"] F_free_numbers := by
  have h := def_ok (P := P) (w := w) (mg := mg) (base := base) (k := 0) D sc_free_numbers (b := b_free_numbers) fun cdv A outer s H hr hgd =>
    (dSs_one (dS_ret (dE_lc rfl sc_free_numbers.nd (dI_enum rfl E.n_enumerate (dE_ix (dE_var 0) dE_int)) (own := [("number", 1), ("places", 2)]) (blkOk_by (N := ["view", "number", "places"]) (sc := defScope st_free_numbers) (by decide +kernel)) (fun _ _ _ _ _ => (dG_tup rfl (dGs_cons (dG_name 1 sc_free_numbers.nd) (dGs_cons (dG_name 2 sc_free_numbers.nd) dGs_nil)))) (fun _ _ _ _ _ => (dTs_one (dT_cmp oIs (dE_var 2) dE_non (bm _)))) (fun _ _ _ _ _ => (dE_var 1)) (by decide))))
  exact Wk.ofN D h hm (fun _ _ _ _ _ _ us hl => match us, hl with | [_], _ => rfl)
abbrev st_told_places : Stmt := top 24
theorem sc_told_places : FnScope ["view", "found", "number", "places", "place"] ["view"] (defScope st_told_places) := ⟨rfl, rfl, rfl, by decide +kernel, rfl, by decide +kernel, by decide +kernel⟩
theorem w_told_places (E : Gls mg)  (D : FunD K "told_places" "told_places" (defArgs st_told_places) (defBody st_told_places) (defScope st_told_places) [] [] f fd) (hm : mg ("told_places" : Str) = some (.ref f)) : Wk P w K mg base st_told_places "told_places" [] 1 ["view"] F_told_places := by
  have h := def_ok (P := P) (w := w) (mg := mg) (base := base) (k := 0) D sc_told_places (b := b_told_places) fun cdv A outer s H hr hgd =>
    (dSs_cons (dS_newd 1 sc_told_places.nd)
    (dSs_cons (dS_for PassesOwn.never rfl (dI_enum rfl E.n_enumerate (dE_ix (dE_var 0) dE_int)) (dG_tup rfl (dGs_cons (dG_name 2 sc_told_places.nd) (dGs_cons (dG_name 3 sc_told_places.nd) dGs_nil))) (dSs_one (dS_for PassesOwn.never rfl (dI_any (dE_ite (dT_cmp oIsnt (dE_var 3) dE_non (bm _)) (dE_var 3) (dE_tup dA_nil))) (dG_name 4 sc_told_places.nd) (dSs_one (dS_put 1 (u1 hr) (dE_var 2) (dE_var 4))))))
    (dSs_one (dS_frzD 1 (dS_ret (dE_var 1))))))
  exact Wk.ofN D h hm (fun _ _ _ _ _ _ us hl => match us, hl with | [_], _ => rfl)
abbrev st_least_length : Stmt := top 26
theorem sc_least_length : FnScope ["view"] ["view"] (defScope st_least_length) := ⟨rfl, rfl, rfl, by decide +kernel, rfl, by decide +kernel, by decide +kernel⟩
theorem w_least_length (E : Gls mg) (C_told_places : Wk P w K mg base st_told_places "told_places" [] 1 ["view"] F_told_places) (D : FunD K "least_length" "least_length" (defArgs st_least_length) (defBody st_least_length) (defScope st_least_length) [] [] f fd) (hm : mg ("least_length" : Str) = some (.ref f)) : Wk P w K mg base st_least_length "least_length" [] 2 ["view"] F_least_length := by
  have h := def_ok (P := P) (w := w) (mg := mg) (base := base) (k := 1) D sc_least_length (b := b_least_length) fun cdv A outer s H hr hgd =>
    (dSs_one (dS_ret (dE_ite (dT_cmp oIsnt (dE_ix (dE_var 0) dE_int) dE_non (bm _)) (dE_ix (dE_var 0) dE_int) (dE_bin oAdd (dE_biK (cMaxd rfl (u66 hr)) boot_max E.n_max (dA_cons (dE_ty (cList rfl) boot_list E.n_list (dA_cons (dE_cw C_told_places hr hgd (by decide) (dA_cons (dE_var 0) dA_nil)) dA_nil)) dA_nil) (dK_cons (dE_neg dE_int) dK_nil)) dE_int))))
  exact Wk.ofN D h hm (fun _ _ _ _ _ _ us hl => match us, hl with | [_], _ => rfl)
abbrev st_is_view_of : Stmt := top 28
theorem sc_is_view_of : FnScope ["letters", "value", "places", "length", "place"] ["letters", "value"] (defScope st_is_view_of) := ⟨rfl, rfl, rfl, by decide +kernel, rfl, by decide +kernel, by decide +kernel⟩
theorem w_is_view_of (E : Gls mg) (C_are_looked_lists : Wk P w K mg base st_are_looked_lists "are_looked_lists" [] 4 ["letters", "value"] F_are_looked_lists) (C_free_numbers : Wk P w K mg base st_free_numbers "free_numbers" [] 1 ["view"] F_free_numbers) (C_is_within : Wk P w K mg base st_is_within "is_within" [] 2 ["value", "least", "most"] F_is_within) (C_least_length : Wk P w K mg base st_least_length "least_length" [] 2 ["view"] F_least_length) (C_told_places : Wk P w K mg base st_told_places "told_places" [] 1 ["view"] F_told_places) (D : FunD K "is_view_of" "is_view_of" (defArgs st_is_view_of) (defBody st_is_view_of) (defScope st_is_view_of) [] [] f fd) (hm : mg ("is_view_of" : Str) = some (.ref f)) : Wk P w K mg base st_is_view_of "is_view_of" [] 5 ["letters", "value"] F_is_view_of := by
  have h := def_ok (P := P) (w := w) (mg := mg) (base := base) (k := 4) D sc_is_view_of (b := b_is_view_of) fun cdv A outer s H hr hgd =>
    (dSs_cons (dS_if (PW.pt (dW_or (dT_not (dT_val (dE_bi cIsi boot_isinstance E.n_isinstance (dA_cons (dE_var 1) (dA_cons (dE_tyc boot_tuple E.n_tuple) dA_nil))))) (dW_or (dT_cmp (oNe (u64 hr)) (dE_bi cLen boot_len E.n_len (dA_cons (dE_var 1) dA_nil)) dE_int (bm _)) (dW_or1 (dT_not (dT_val (dE_cw C_are_looked_lists hr hgd (by decide) (dA_cons (dE_var 0) (dA_cons (dE_ix (dE_var 1) dE_int) dA_nil))))))))) (dSs_one (dS_ret dE_bl)) dSs_nil)
    (dSs_cons (dS_if (PW.pt (dW_and (dT_cmp oIsnt (dE_ix (dE_var 1) dE_int) dE_non (bm _)) (dW_and1 (dT_not (dT_val (dE_cw C_is_within hr hgd (by decide) (dA_cons (dE_ix (dE_var 1) dE_int) (dA_cons dE_int (dA_cons (dE_gi E.g_MOST_LENGTH) dA_nil))))))))) (dSs_one (dS_ret dE_bl)) dSs_nil)
    (dSs_cons (dS_asg (dE_tup (dA_cons (dE_cw C_told_places hr hgd (by decide) (dA_cons (dE_var 1) dA_nil)) (dA_cons (dE_cw C_least_length hr hgd (by decide) (dA_cons (dE_var 1) dA_nil)) dA_nil))) (dGm_tup rfl (dGsm_cons (dG_pure (dG_name 2 sc_is_view_of.nd)) (dGsm_cons (dG_pure (dG_name 3 sc_is_view_of.nd)) dGsm_nil))))
    (dSs_cons (dS_if (dT_val (dE_bi (cAny rfl) boot_any E.n_any (dA_cons (dE_lc rfl sc_is_view_of.nd (dI_keys (dE_var 2)) (own := [("place", 4)]) (blkOk_by (N := ["letters", "value", "places", "length", "place"]) (sc := defScope st_is_view_of) (by decide +kernel)) (fun _ _ _ _ _ => (dG_name 4 sc_is_view_of.nd)) (fun _ _ _ _ _ => dTs_nil) (fun _ _ _ _ _ => (dE_cmp oGe (dE_var 4) (dE_var 3) (bm _))) (by decide)) dA_nil))) (dSs_one (dS_ret dE_bl)) dSs_nil)
    (dSs_one (dS_ret (dE_or (dE_cmp (oNe (u64 hr)) (dE_cw C_free_numbers hr hgd (by decide) (dA_cons (dE_var 1) dA_nil)) (dE_lst dA_nil) (bm _)) (dE_one (dE_cmp (oEq (u64 hr)) (dE_bi cLen boot_len E.n_len (dA_cons (dE_var 2) dA_nil)) (dE_var 3) (bm _))))))))))
  exact Wk.ofN D h hm (fun _ _ _ _ _ _ us hl => match us, hl with | [_, _], _ => rfl)
abbrev st_want_view : Stmt := top 29
theorem sc_want_view : FnScope ["letters", "value"] ["letters", "value"] (defScope st_want_view) := ⟨rfl, rfl, rfl, by decide +kernel, rfl, by decide +kernel, by decide +kernel⟩
theorem w_want_view (E : Gls mg) (C_is_view_of : Wk P w K mg base st_is_view_of "is_view_of" [] 5 ["letters", "value"] F_is_view_of) (D : FunD K "want_view" "want_view" (defArgs st_want_view) (defBody st_want_view) (defScope st_want_view) [] [] f fd) (hm : mg ("want_view" : Str) = some (.ref f)) : Wk P w K mg base st_want_view "want_view" [] 6 ["letters", "value"] F_want_view := by
  have h := def_ok (P := P) (w := w) (mg := mg) (base := base) (k := 5) D sc_want_view (b := b_want_view) fun cdv A outer s H hr hgd =>
    (dSs_one (dS_if (dT_not (dT_val (dE_cw C_is_view_of hr hgd (by decide) (dA_cons (dE_var 0) (dA_cons (dE_var 1) dA_nil))))) (dSs_one dS_never) dSs_nil))
  exact Wk.ofN D h hm (fun _ _ _ _ _ _ us hl => match us, hl with | [_, _], _ => rfl)
abbrev st_fills : Stmt := top 32
theorem sc_fills : FnScope ["letters", "view", "value"] ["letters", "view", "value"] (defScope st_fills) := ⟨rfl, rfl, rfl, by decide +kernel, rfl, by decide +kernel, by decide +kernel⟩
theorem w_fills (E : Gls mg) (C_check_letters : Wk P w K mg base st_check_letters "check_letters" [] 3 ["value"] F_check_letters) (C_is_filling : Wk P w K mg base st_is_filling "is_filling" [] 1 ["view", "numbers"] F_is_filling) (C_is_text_of : Wk P w K mg base st_is_text_of "is_text_of" [V.int 60] 2 ["letters", "value", "most"] F_is_text_of) (C_spots : Wk P w K mg base st_spots "spots" [] 1 ["text"] F_spots) (C_want_view : Wk P w K mg base st_want_view "want_view" [] 6 ["letters", "value"] F_want_view) (D : FunD K "fills" "fills" (defArgs st_fills) (defBody st_fills) (defScope st_fills) [] [] f fd) (hm : mg ("fills" : Str) = some (.ref f)) : Wk P w K mg base st_fills "fills" [] 7 ["letters", "view", "value"] F_fills := by
  have h := def_ok (P := P) (w := w) (mg := mg) (base := base) (k := 6) D sc_fills (b := b_fills) fun cdv A outer s H hr hgd =>
    (dSs_cons (dS_expr (dE_cw C_check_letters hr hgd (by decide) (dA_cons (dE_var 0) dA_nil)))
    (dSs_cons (dS_expr (dE_cw C_want_view hr hgd (by decide) (dA_cons (dE_var 0) (dA_cons (dE_var 1) dA_nil))))
    (dSs_one (dS_ret (dE_and (dE_cw C_is_text_of hr hgd (by decide) (dA_cons (dE_var 0) (dA_cons (dE_var 2) (dA_cons (dE_gi E.g_MOST_FILLING) dA_nil)))) (dE_one (dE_cw C_is_filling hr hgd (by decide) (dA_cons (dE_var 1) (dA_cons (dE_cw C_spots hr hgd (by decide) (dA_cons (dE_var 2) dA_nil)) dA_nil)))))))))
  exact Wk.ofN D h hm (fun _ _ _ _ _ _ us hl => match us, hl with | [_, _, _], _ => rfl)
abbrev st_are_lengths : Stmt := top 17
theorem sc_are_lengths : FnScope ["value", "one"] ["value"] (defScope st_are_lengths) := ⟨rfl, rfl, rfl, by decide +kernel, rfl, by decide +kernel, by decide +kernel⟩
theorem w_are_lengths (E : Gls mg) (C_is_within : Wk P w K mg base st_is_within "is_within" [] 2 ["value", "least", "most"] F_is_within) (D : FunD K "are_lengths" "are_lengths" (defArgs st_are_lengths) (defBody st_are_lengths) (defScope st_are_lengths) [] [] f fd) (hm : mg ("are_lengths" : Str) = some (.ref f)) : Wk P w K mg base st_are_lengths "are_lengths" [] 3 ["value"] F_are_lengths := by
  have h := def_ok (P := P) (w := w) (mg := mg) (base := base) (k := 2) D sc_are_lengths (b := b_are_lengths) fun cdv A outer s H hr hgd =>
    (dSs_cons (dS_if (PW.pt (dW_or (dT_not (dT_val (dE_bi cIsi boot_isinstance E.n_isinstance (dA_cons (dE_var 0) (dA_cons (dE_tyc boot_tuple E.n_tuple) dA_nil))))) (dW_or1 (dT_cmp oGt (dE_bi cLen boot_len E.n_len (dA_cons (dE_var 0) dA_nil)) (dE_gi E.g_MOST_DOCUMENTS) (bm _))))) (dSs_one (dS_ret dE_bl)) dSs_nil)
    (dSs_one (dS_ret (dE_bi (cAll rfl) boot_all E.n_all (dA_cons (dE_lc rfl sc_are_lengths.nd (dI_any (dE_var 0)) (own := [("one", 1)]) (blkOk_by (N := ["value", "one"]) (sc := defScope st_are_lengths) (by decide +kernel)) (fun _ _ _ _ _ => (dG_name 1 sc_are_lengths.nd)) (fun _ _ _ _ _ => dTs_nil) (fun _ _ _ _ _ => (dE_or (dE_cmp oIs (dE_var 1) dE_non (bm _)) (dE_one (dE_cw C_is_within hr hgd (by decide) (dA_cons (dE_var 1) (dA_cons dE_int (dA_cons (dE_gi E.g_MOST_LENGTH) dA_nil))))))) (by decide)) dA_nil)))))
  exact Wk.ofN D h hm (fun _ _ _ _ _ _ us hl => match us, hl with | [_], _ => rfl)
abbrev st_is_letter_list : Stmt := top 18
theorem sc_is_letter_list : FnScope ["lengths", "value", "document", "places", "near", "far", "one"] ["lengths", "value"] (defScope st_is_letter_list) := ⟨rfl, rfl, rfl, by decide +kernel, rfl, by decide +kernel, by decide +kernel⟩
theorem w_is_letter_list (E : Gls mg) (C_are_places : Wk P w K mg base st_are_places "are_places" [] 3 ["value", "most"] F_are_places) (C_is_within : Wk P w K mg base st_is_within "is_within" [] 2 ["value", "least", "most"] F_is_within) (D : FunD K "is_letter_list" "is_letter_list" (defArgs st_is_letter_list) (defBody st_is_letter_list) (defScope st_is_letter_list) [] [] f fd) (hm : mg ("is_letter_list" : Str) = some (.ref f)) : Wk P w K mg base st_is_letter_list "is_letter_list" [] 4 ["lengths", "value"] F_is_letter_list := by
  have h := def_ok (P := P) (w := w) (mg := mg) (base := base) (k := 3) D sc_is_letter_list (b := b_is_letter_list) fun cdv A outer s H hr hgd =>
    (dSs_cons (dS_if (PW.pt (dW_or (dT_not (dT_val (dE_bi cIsi boot_isinstance E.n_isinstance (dA_cons (dE_var 1) (dA_cons (dE_tyc boot_tuple E.n_tuple) dA_nil))))) (dW_or1 (dT_not (dT_val (dE_bi (cAll rfl) boot_all E.n_all (dA_cons (dE_lc rfl sc_is_letter_list.nd (dI_any (dE_var 1)) (own := [("one", 6)]) (blkOk_by (N := ["lengths", "value", "document", "places", "near", "far", "one"]) (sc := defScope st_is_letter_list) (by decide +kernel)) (fun _ _ _ _ _ => (dG_name 6 sc_is_letter_list.nd)) (fun _ _ _ _ _ => dTs_nil) (fun _ _ _ _ _ => (dE_and (dE_bi cIsi boot_isinstance E.n_isinstance (dA_cons (dE_var 6) (dA_cons (dE_tyc boot_tuple E.n_tuple) dA_nil))) (dE_one (dE_cmp (oEq (u64 hr)) (dE_bi cLen boot_len E.n_len (dA_cons (dE_var 6) dA_nil)) dE_int (bm _))))) (by decide)) dA_nil))))))) (dSs_one (dS_ret dE_bl)) dSs_nil)
    (dSs_cons (dS_for PassesOwn.never rfl (dI_any (dE_var 1)) (dG_tup rfl (dGs_cons (dG_name 2 sc_is_letter_list.nd) (dGs_cons (dG_name 3 sc_is_letter_list.nd) dGs_nil))) (dSs_cons (dS_if (PW.pt (dW_or (dT_not (dT_val (dE_cw C_is_within hr hgd (by decide) (dA_cons (dE_var 2) (dA_cons dE_int (dA_cons (dE_bin oSub (dE_bi cLen boot_len E.n_len (dA_cons (dE_var 0) dA_nil)) dE_int) dA_nil)))))) (dW_or1 (dT_cmp oIs (dE_ix (dE_var 0) (dE_var 2)) dE_non (bm _))))) (dSs_one (dS_ret dE_bl)) dSs_nil)
    (dSs_one (dS_if (PW.pt (dW_or (dT_cmp (oEq (u64 hr)) (dE_var 3) (dE_tup dA_nil) (bm _)) (dW_or1 (dT_not (dT_val (dE_cw C_are_places hr hgd (by decide) (dA_cons (dE_var 3) (dA_cons (dE_ix (dE_var 0) (dE_var 2)) dA_nil)))))))) (dSs_one (dS_ret dE_bl)) dSs_nil))))
    (dSs_one (dS_ret (dE_bi (cAll rfl) boot_all E.n_all (dA_cons (dE_lc rfl sc_is_letter_list.nd (dI_zip rfl E.n_zip (dE_var 1) (dE_sl (dE_var 1) (dO_some dE_int) dO_none)) (own := [("near", 4), ("far", 5)]) (blkOk_by (N := ["lengths", "value", "document", "places", "near", "far", "one"]) (sc := defScope st_is_letter_list) (by decide +kernel)) (fun _ _ _ _ _ => (dG_tup rfl (dGs_cons (dG_name 4 sc_is_letter_list.nd) (dGs_cons (dG_name 5 sc_is_letter_list.nd) dGs_nil)))) (fun _ _ _ _ _ => dTs_nil) (fun _ _ _ _ _ => (dE_cmp oLt (dE_ix (dE_var 4) dE_int) (dE_ix (dE_var 5) dE_int) (bm _))) (by decide)) dA_nil))))))
  exact Wk.ofN D h hm (fun _ _ _ _ _ _ us hl => match us, hl with | [_, _], _ => rfl)
abbrev st_places_at : Stmt := top 19
theorem sc_places_at : FnScope ["lists", "document", "found", "one", "number", "places"] ["lists", "document"] (defScope st_places_at) := ⟨rfl, rfl, rfl, by decide +kernel, rfl, by decide +kernel, by decide +kernel⟩
theorem w_places_at (E : Gls mg)  (D : FunD K "places_at" "places_at" (defArgs st_places_at) (defBody st_places_at) (defScope st_places_at) [] [] f fd) (hm : mg ("places_at" : Str) = some (.ref f)) : Wk P w K mg base st_places_at "places_at" [] 1 ["lists", "document"] F_places_at := by
  have h := def_ok (P := P) (w := w) (mg := mg) (base := base) (k := 0) D sc_places_at (b := b_places_at) fun cdv A outer s H hr hgd =>
    (dSs_cons (dS_own 2 sc_places_at.nd dA_nil)
    (dSs_cons (dS_for PassesOwn.never rfl (dI_any (dE_var 0)) (dG_name 3 sc_places_at.nd) (dSs_one (dS_for PassesOwn.never rfl (dI_any (dE_var 3)) (dG_tup rfl (dGs_cons (dG_name 4 sc_places_at.nd) (dGs_cons (dG_name 5 sc_places_at.nd) dGs_nil))) (dSs_one (dS_if (dT_cmp (oEq (u64 hr)) (dE_var 4) (dE_var 1) (bm _)) (dSs_one (dS_extend 2 (dE_var 5))) dSs_nil)))))
    (dSs_one (dS_frz 2 (dS_ret (dE_bi cSorted boot_sorted E.n_sorted (dA_cons (dE_var 2) dA_nil)))))))
  exact Wk.ofN D h hm (fun _ _ _ _ _ _ us hl => match us, hl with | [_, _], _ => rfl)
abbrev st_are_postings : Stmt := top 20
theorem sc_are_postings : FnScope ["value", "letters", "lengths", "lists", "document", "length", "one"] ["value"] (defScope st_are_postings) := ⟨rfl, rfl, rfl, by decide +kernel, rfl, by decide +kernel, by decide +kernel⟩
theorem w_are_postings (E : Gls mg) (C_are_lengths : Wk P w K mg base st_are_lengths "are_lengths" [] 3 ["value"] F_are_lengths) (C_is_letter_list : Wk P w K mg base st_is_letter_list "is_letter_list" [] 4 ["lengths", "value"] F_is_letter_list) (C_is_within : Wk P w K mg base st_is_within "is_within" [] 2 ["value", "least", "most"] F_is_within) (C_places_at : Wk P w K mg base st_places_at "places_at" [] 1 ["lists", "document"] F_places_at) (D : FunD K "are_postings" "are_postings" (defArgs st_are_postings) (defBody st_are_postings) (defScope st_are_postings) [] [] f fd) (hm : mg ("are_postings" : Str) = some (.ref f)) : Wk P w K mg base st_are_postings "are_postings" [] 5 ["value"] F_are_postings := by
  have h := def_ok (P := P) (w := w) (mg := mg) (base := base) (k := 4) D sc_are_postings (b := b_are_postings) fun cdv A outer s H hr hgd =>
    (dSs_cons (dS_if (PW.pt (dW_or (dT_not (dT_val (dE_bi cIsi boot_isinstance E.n_isinstance (dA_cons (dE_var 0) (dA_cons (dE_tyc boot_tuple E.n_tuple) dA_nil))))) (dW_or (dT_cmp (oNe (u64 hr)) (dE_bi cLen boot_len E.n_len (dA_cons (dE_var 0) dA_nil)) dE_int (bm _)) (dW_or1 (dT_not (dT_val (dE_cw C_is_within hr hgd (by decide) (dA_cons (dE_ix (dE_var 0) dE_int) (dA_cons dE_int (dA_cons (dE_bi cLen boot_len E.n_len (dA_cons (dE_gs E.g_SIGNS) dA_nil)) dA_nil)))))))))) (dSs_one (dS_ret dE_bl)) dSs_nil)
    (dSs_cons (dS_asg (dE_var 0) (dGm_tup rfl (dGsm_cons (dG_pure (dG_name 1 sc_are_postings.nd)) (dGsm_cons (dG_pure (dG_name 2 sc_are_postings.nd)) (dGsm_cons (dG_pure (dG_name 3 sc_are_postings.nd)) dGsm_nil)))))
    (dSs_cons (dS_if (PW.pt (dW_or (dT_not (dT_val (dE_cw C_are_lengths hr hgd (by decide) (dA_cons (dE_var 2) dA_nil)))) (dW_or (dT_not (dT_val (dE_bi cIsi boot_isinstance E.n_isinstance (dA_cons (dE_var 3) (dA_cons (dE_tyc boot_tuple E.n_tuple) dA_nil))))) (dW_or1 (dT_cmp (oNe (u64 hr)) (dE_bi cLen boot_len E.n_len (dA_cons (dE_var 3) dA_nil)) (dE_var 1) (bm _)))))) (dSs_one (dS_ret dE_bl)) dSs_nil)
    (dSs_cons (dS_if (dT_not (dT_val (dE_bi (cAll rfl) boot_all E.n_all (dA_cons (dE_lc rfl sc_are_postings.nd (dI_any (dE_var 3)) (own := [("one", 6)]) (blkOk_by (N := ["value", "letters", "lengths", "lists", "document", "length", "one"]) (sc := defScope st_are_postings) (by decide +kernel)) (fun _ _ _ _ _ => (dG_name 6 sc_are_postings.nd)) (fun _ _ _ _ _ => dTs_nil) (fun _ _ _ _ _ => (dE_cw C_is_letter_list hr hgd (by decide) (dA_cons (dE_var 2) (dA_cons (dE_var 6) dA_nil)))) (by decide)) dA_nil)))) (dSs_one (dS_ret dE_bl)) dSs_nil)
    (dSs_cons (dS_for PassesOwn.never rfl (dI_enum rfl E.n_enumerate (dE_var 2)) (dG_tup rfl (dGs_cons (dG_name 4 sc_are_postings.nd) (dGs_cons (dG_name 5 sc_are_postings.nd) dGs_nil))) (dSs_one (dS_if (PW.pt (dW_and (dT_cmp oIsnt (dE_var 5) dE_non (bm _)) (dW_and1 (dT_cmp (oNe (u64 hr)) (dE_cw C_places_at hr hgd (by decide) (dA_cons (dE_var 3) (dA_cons (dE_var 4) dA_nil))) (dE_lrg rfl E.n_list E.n_range (dE_var 5)) (bm _))))) (dSs_one (dS_ret dE_bl)) dSs_nil)))
    (dSs_one (dS_ret dE_bl)))))))
  exact Wk.ofN D h hm (fun _ _ _ _ _ _ us hl => match us, hl with | [_], _ => rfl)
abbrev st_is_postings : Stmt := top 21
theorem sc_is_postings : FnScope ["value"] ["value"] (defScope st_is_postings) := ⟨rfl, rfl, rfl, by decide +kernel, rfl, by decide +kernel, by decide +kernel⟩
theorem w_is_postings (E : Gls mg) (C_are_postings : Wk P w K mg base st_are_postings "are_postings" [] 5 ["value"] F_are_postings) (D : FunD K "is_postings" "is_postings" (defArgs st_is_postings) (defBody st_is_postings) (defScope st_is_postings) [] [] f fd) (hm : mg ("is_postings" : Str) = some (.ref f)) : Wk P w K mg base st_is_postings "is_postings" [] 6 ["value"] F_is_postings := by
  have h := def_ok (P := P) (w := w) (mg := mg) (base := base) (k := 5) D sc_is_postings (b := b_is_postings) fun cdv A outer s H hr hgd =>
    (dSs_one (dS_ret (dE_cw C_are_postings hr hgd (by decide) (dA_cons (dE_var 0) dA_nil))))
  exact Wk.ofN D h hm (fun _ _ _ _ _ _ us hl => match us, hl with | [_], _ => rfl)
abbrev st_is_view : Stmt := top 31
theorem sc_is_view : FnScope ["letters", "value"] ["letters", "value"] (defScope st_is_view) := ⟨rfl, rfl, rfl, by decide +kernel, rfl, by decide +kernel, by decide +kernel⟩
theorem w_is_view (E : Gls mg) (C_check_letters : Wk P w K mg base st_check_letters "check_letters" [] 3 ["value"] F_check_letters) (C_is_view_of : Wk P w K mg base st_is_view_of "is_view_of" [] 5 ["letters", "value"] F_is_view_of) (D : FunD K "is_view" "is_view" (defArgs st_is_view) (defBody st_is_view) (defScope st_is_view) [] [] f fd) (hm : mg ("is_view" : Str) = some (.ref f)) : Wk P w K mg base st_is_view "is_view" [] 6 ["letters", "value"] F_is_view := by
  have h := def_ok (P := P) (w := w) (mg := mg) (base := base) (k := 5) D sc_is_view (b := b_is_view) fun cdv A outer s H hr hgd =>
    (dSs_cons (dS_expr (dE_cw C_check_letters hr hgd (by decide) (dA_cons (dE_var 0) dA_nil)))
    (dSs_one (dS_ret (dE_cw C_is_view_of hr hgd (by decide) (dA_cons (dE_var 0) (dA_cons (dE_var 1) dA_nil))))))
  exact Wk.ofN D h hm (fun _ _ _ _ _ _ us hl => match us, hl with | [_, _], _ => rfl)
abbrev st__law_right : Stmt := top 51
theorem sc__law_right : FnScope ["pot", "letters", "value", "one", "nine", "turn", "text", "looks", "view", "due", "shown", "look"] ["pot"] (defScope st__law_right) := ⟨rfl, rfl, rfl, by decide +kernel, rfl, by decide +kernel, by decide +kernel⟩
theorem w__law_right (E : Gls mg) (C__law_are_postings : Wk P w K mg base st__law_are_postings "_law_are_postings" [] 4 ["value"] F__law_are_postings) (C__law_bent : Wk P w K mg base st__law_bent "_law_bent" [] 2 ["pot", "value"] F__law_bent) (C__law_bent_view : Wk P w K mg base st__law_bent_view "_law_bent_view" [] 2 ["pot", "value"] F__law_bent_view) (C__law_draw : Wk P w K mg base st__law_draw "_law_draw" [] 1 ["pot", "many"] F__law_draw) (C__law_fillings : Wk P w K mg base st__law_fillings "_law_fillings" [] 3 ["pot", "letters", "text"] F__law_fillings) (C__law_fills : Wk P w K mg base st__law_fills "_law_fills" [] 1 ["letters", "view", "value"] F__law_fills) (C__law_is_view : Wk P w K mg base st__law_is_view "_law_is_view" [] 3 ["letters", "value"] F__law_is_view) (C__law_postings : Wk P w K mg base st__law_postings "_law_postings" [] 1 ["letters", "texts"] F__law_postings) (C__law_text : Wk P w K mg base st__law_text "_law_text" [] 3 ["pot", "letters", "most"] F__law_text) (C__law_texts_drawn : Wk P w K mg base st__law_texts_drawn "_law_texts_drawn" [] 4 ["pot", "letters", "many", "most"] F__law_texts_drawn) (C__law_view : Wk P w K mg base st__law_view "_law_view" [] 1 ["letters", "text", "looks"] F__law_view) (C_fills : Wk P w K mg base st_fills "fills" [] 7 ["letters", "view", "value"] F_fills) (C_is_postings : Wk P w K mg base st_is_postings "is_postings" [] 6 ["value"] F_is_postings) (C_is_view : Wk P w K mg base st_is_view "is_view" [] 6 ["letters", "value"] F_is_view) (D : FunD K "_law_right" "_law_right" (defArgs st__law_right) (defBody st__law_right) (defScope st__law_right) [] [] f fd) (hm : mg ("_law_right" : Str) = some (.ref f)) : Wk P w K mg base st__law_right "_law_right" [] 8 ["pot"] F__law_right := by
  have KW_is_postings := C_is_postings.kw 0 ["value"] [0] (fun _ _ _ _ _ _ us ws hl hl2 => match us, ws, hl, hl2 with | [], [_], _, _ => rfl)
  have KW_is_view := C_is_view.kw 0 ["value", "letters"] [1, 0] (fun _ _ _ _ _ _ us ws hl hl2 => match us, ws, hl, hl2 with | [], [_, _], _, _ => rfl)
  have KW_fills := C_fills.kw 0 ["value", "view", "letters"] [2, 1, 0] (fun _ _ _ _ _ _ us ws hl hl2 => match us, ws, hl, hl2 with | [], [_, _, _], _, _ => rfl)
  have h := def_ok (P := P) (w := w) (mg := mg) (base := base) (k := 7) D sc__law_right (b := b__law_right) fun cdv A outer s H hr hgd =>
    (dSs_cons (dS_set 1 sc__law_right.nd (dE_bin oAdd dE_int (dE_cw C__law_draw hr hgd (by decide) (dA_cons (dE_var 0) (dA_cons dE_int dA_nil)))))
    (dSs_cons (dS_set 2 sc__law_right.nd (dE_cw C__law_postings hr hgd (by decide) (dA_cons (dE_var 1) (dA_cons (dE_cw C__law_texts_drawn hr hgd (by decide) (dA_cons (dE_var 0) (dA_cons (dE_var 1) (dA_cons dE_int (dA_cons dE_int dA_nil))))) dA_nil))))
    (dSs_cons (dS_for PassesOwn.never rfl (dI_any (dE_cw C__law_bent hr hgd (by decide) (dA_cons (dE_var 0) (dA_cons (dE_var 2) dA_nil)))) (dG_name 3 sc__law_right.nd) (dSs_cons (dS_par 9 10 rfl sc__law_right.nd (dA_cons (dE_cw C__law_are_postings hr hgd (by decide) (dA_cons (dE_var 3) dA_nil)) (dA_cons (dE_bi (cRepr hgd (u66 hr)) boot_repr E.n_repr (dA_cons (dE_var 3) dA_nil)) dA_nil)))
    (dSs_one (dS_if (PW.pt (dW_or (dT_cmp (oNe (u64 hr)) (dE_bi (cRepr hgd (u66 hr)) boot_repr E.n_repr (dA_cons (dE_lst (dA_cons (dE_cw C_is_postings hr hgd (by decide) (dA_cons (dE_var 3) dA_nil)) (dA_cons (dE_ckw KW_is_postings hr hgd (by decide) rfl (dK_cons (dE_var 3) dK_nil)) dA_nil))) dA_nil)) (dE_bi (cRepr hgd (u66 hr)) boot_repr E.n_repr (dA_cons (dE_lst (dA_cons (dE_var 9) (dA_cons (dE_var 9) dA_nil))) dA_nil)) (bm _)) (dW_or1 (dT_cmp (oNe (u64 hr)) (dE_bi (cRepr hgd (u66 hr)) boot_repr E.n_repr (dA_cons (dE_var 3) dA_nil)) (dE_var 10) (bm _))))) (dSs_one (dS_ret dE_bl)) dSs_nil))))
    (dSs_cons (dS_set 4 sc__law_right.nd (dE_cw C__law_postings hr hgd (by decide) (dA_cons (dE_var 1) (dA_cons (dE_bin oMulA (dE_lst (dA_cons dE_str dA_nil)) dE_int) dA_nil))))
    (dSs_cons (dS_if (dT_cmp (oNe (u64 hr)) (dE_lst (dA_cons (dE_cw C_is_postings hr hgd (by decide) (dA_cons (dE_var 4) dA_nil)) (dA_cons (dE_cw C_is_postings hr hgd (by decide) (dA_cons (dE_cw C__law_postings hr hgd (by decide) (dA_cons (dE_var 1) (dA_cons (dE_bin oMulA (dE_lst (dA_cons dE_str dA_nil)) dE_int) dA_nil))) dA_nil)) dA_nil))) (dE_lst (dA_cons dE_bl (dA_cons dE_bl dA_nil))) (bm _)) (dSs_one (dS_ret dE_bl)) dSs_nil)
    (dSs_cons (dS_for PassesOwn.never rfl (dI_rng1 rfl E.n_range (dA_cons dE_int dA_nil)) (dG_name 5 sc__law_right.nd) (dSs_cons (dS_set 6 sc__law_right.nd (dE_cw C__law_text hr hgd (by decide) (dA_cons (dE_var 0) (dA_cons (dE_var 1) (dA_cons dE_int dA_nil)))))
    (dSs_cons (by first | exact dS_setLc 7 rfl sc__law_right.nd (dI_any (dE_bin oAdd (dE_ty (cList rfl) boot_list E.n_list (dA_cons (dE_sl dE_str dO_none (dO_some (dE_var 1))) dA_nil)) (dE_lst (dA_cons dE_str dA_nil)))) (own := [("look", 11)]) (blkOk_by (N := ["pot", "letters", "value", "one", "nine", "turn", "text", "looks", "view", "due", "shown", "look"]) (sc := defScope st__law_right) (by decide +kernel)) (fun _ _ _ _ _ => (dG_name 11 sc__law_right.nd)) (fun _ _ _ _ _ => (dTs_one (dT_cmp (oEq (u64 hr)) (dE_cw C__law_draw hr hgd (by decide) (dA_cons (dE_var 0) (dA_cons dE_int dA_nil))) dE_int (bm _)))) (fun _ _ _ _ _ => (dE_var 11)) (by decide) | exact dS_set 7 sc__law_right.nd (dE_lc rfl sc__law_right.nd (dI_any (dE_bin oAdd (dE_ty (cList rfl) boot_list E.n_list (dA_cons (dE_sl dE_str dO_none (dO_some (dE_var 1))) dA_nil)) (dE_lst (dA_cons dE_str dA_nil)))) (own := [("look", 11)]) (blkOk_by (N := ["pot", "letters", "value", "one", "nine", "turn", "text", "looks", "view", "due", "shown", "look"]) (sc := defScope st__law_right) (by decide +kernel)) (fun _ _ _ _ _ => (dG_name 11 sc__law_right.nd)) (fun _ _ _ _ _ => (dTs_one (dT_cmp (oEq (u64 hr)) (dE_cw C__law_draw hr hgd (by decide) (dA_cons (dE_var 0) (dA_cons dE_int dA_nil))) dE_int (bm _)))) (fun _ _ _ _ _ => (dE_var 11)) (by decide)))
    (dSs_cons (dS_set 8 sc__law_right.nd (dE_cw C__law_view hr hgd (by decide) (dA_cons (dE_var 1) (dA_cons (dE_var 6) (dA_cons (dE_var 7) dA_nil)))))
    (dSs_cons (dS_for PassesOwn.never rfl (dI_any (dE_cw C__law_bent_view hr hgd (by decide) (dA_cons (dE_var 0) (dA_cons (dE_var 8) dA_nil)))) (dG_name 3 sc__law_right.nd) (dSs_cons (dS_par 9 10 rfl sc__law_right.nd (dA_cons (dE_cw C__law_is_view hr hgd (by decide) (dA_cons (dE_var 1) (dA_cons (dE_var 3) dA_nil))) (dA_cons (dE_bi (cRepr hgd (u66 hr)) boot_repr E.n_repr (dA_cons (dE_var 3) dA_nil)) dA_nil)))
    (dSs_one (dS_if (PW.pt (dW_or (dT_cmp (oNe (u64 hr)) (dE_bi (cRepr hgd (u66 hr)) boot_repr E.n_repr (dA_cons (dE_lst (dA_cons (dE_cw C_is_view hr hgd (by decide) (dA_cons (dE_var 1) (dA_cons (dE_var 3) dA_nil))) (dA_cons (dE_ckw KW_is_view hr hgd (by decide) rfl (dK_cons (dE_var 3) (dK_cons (dE_var 1) dK_nil))) dA_nil))) dA_nil)) (dE_bi (cRepr hgd (u66 hr)) boot_repr E.n_repr (dA_cons (dE_lst (dA_cons (dE_var 9) (dA_cons (dE_var 9) dA_nil))) dA_nil)) (bm _)) (dW_or1 (dT_cmp (oNe (u64 hr)) (dE_bi (cRepr hgd (u66 hr)) boot_repr E.n_repr (dA_cons (dE_var 3) dA_nil)) (dE_var 10) (bm _))))) (dSs_one (dS_ret dE_bl)) dSs_nil))))
    (dSs_one (dS_for PassesOwn.never rfl (dI_any (dE_cw C__law_fillings hr hgd (by decide) (dA_cons (dE_var 0) (dA_cons (dE_var 1) (dA_cons (dE_var 6) dA_nil))))) (dG_name 3 sc__law_right.nd) (dSs_cons (dS_set 9 sc__law_right.nd (dE_cw C__law_fills hr hgd (by decide) (dA_cons (dE_var 1) (dA_cons (dE_var 8) (dA_cons (dE_var 3) dA_nil)))))
    (dSs_one (dS_if (dT_cmp (oNe (u64 hr)) (dE_bi (cRepr hgd (u66 hr)) boot_repr E.n_repr (dA_cons (dE_lst (dA_cons (dE_cw C_fills hr hgd (by decide) (dA_cons (dE_var 1) (dA_cons (dE_var 8) (dA_cons (dE_var 3) dA_nil)))) (dA_cons (dE_ckw KW_fills hr hgd (by decide) rfl (dK_cons (dE_var 3) (dK_cons (dE_var 8) (dK_cons (dE_var 1) dK_nil)))) dA_nil))) dA_nil)) (dE_bi (cRepr hgd (u66 hr)) boot_repr E.n_repr (dA_cons (dE_lst (dA_cons (dE_var 9) (dA_cons (dE_var 9) dA_nil))) dA_nil)) (bm _)) (dSs_one (dS_ret dE_bl)) dSs_nil))))))))))
    (dSs_one (dS_ret dE_bl))))))))
  exact Wk.ofN D h hm (fun _ _ _ _ _ _ us hl => match us, hl with | [_], _ => rfl)
abbrev st_law : Stmt := top 52
theorem sc_law : FnScope ["script", "k"] ["script"] (defScope st_law) := ⟨rfl, rfl, rfl, by decide +kernel, rfl, by decide +kernel, by decide +kernel⟩
theorem w_law (E : Gls mg) (C__law_pot : Wk P w K mg base st__law_pot "_law_pot" [] 1 ["script", "k"] F__law_pot) (C__law_right : Wk P w K mg base st__law_right "_law_right" [] 8 ["pot"] F__law_right) (D : FunD K "law" "law" (defArgs st_law) (defBody st_law) (defScope st_law) [] [] f fd) (hm : mg ("law" : Str) = some (.ref f)) : Wk P w K mg base st_law "law" [] 9 ["script"] F_law := by
  have h := def_ok (P := P) (w := w) (mg := mg) (base := base) (k := 8) D sc_law (b := b_law) fun cdv A outer s H hr hgd =>
    (dSs_one (dS_ret (dE_bi (cAll rfl) boot_all E.n_all (dA_cons (dE_lc rfl sc_law.nd (dI_rng1 rfl E.n_range (dA_cons (dE_bi (cMax rfl) boot_max E.n_max (dA_cons dE_int (dA_cons (dE_bi (cMin rfl) boot_min E.n_min (dA_cons dE_int (dA_cons (dE_bi cLen boot_len E.n_len (dA_cons (dE_var 0) dA_nil)) dA_nil))) dA_nil))) dA_nil)) (own := [("k", 1)]) (blkOk_by (N := ["script", "k"]) (sc := defScope st_law) (by decide +kernel)) (fun _ _ _ _ _ => (dG_name 1 sc_law.nd)) (fun _ _ _ _ _ => dTs_nil) (fun _ _ _ _ _ => (dE_cw C__law_right hr hgd (by decide) (dA_cons (dE_cw C__law_pot hr hgd (by decide) (dA_cons (dE_var 0) (dA_cons (dE_var 1) dA_nil))) dA_nil))) (by decide)) dA_nil))))
  exact Wk.ofN D h hm (fun _ _ _ _ _ _ us hl => match us, hl with | [_], _ => rfl)
theorem g_law (E : Gls mg) (C__law_pot : Wk P w K mg base st__law_pot "_law_pot" [] 1 ["script", "k"] F__law_pot) (C__law_right : Wk P w K mg base st__law_right "_law_right" [] 8 ["pot"] F__law_right) (D : FunD K "law" "law" (defArgs st_law) (defBody st_law) (defScope st_law) [] [] f fd) : FnG P w K mg base 9 f fd ["script"] (spD K mg F_law) := by
  have h := def_ok (P := P) (w := w) (mg := mg) (base := base) (k := 8) D sc_law (b := b_law) fun cdv A outer s H hr hgd =>
    (dSs_one (dS_ret (dE_bi (cAll rfl) boot_all E.n_all (dA_cons (dE_lc rfl sc_law.nd (dI_rng1 rfl E.n_range (dA_cons (dE_bi (cMax rfl) boot_max E.n_max (dA_cons dE_int (dA_cons (dE_bi (cMin rfl) boot_min E.n_min (dA_cons dE_int (dA_cons (dE_bi cLen boot_len E.n_len (dA_cons (dE_var 0) dA_nil)) dA_nil))) dA_nil))) dA_nil)) (own := [("k", 1)]) (blkOk_by (N := ["script", "k"]) (sc := defScope st_law) (by decide +kernel)) (fun _ _ _ _ _ => (dG_name 1 sc_law.nd)) (fun _ _ _ _ _ => dTs_nil) (fun _ _ _ _ _ => (dE_cw C__law_right hr hgd (by decide) (dA_cons (dE_cw C__law_pot hr hgd (by decide) (dA_cons (dE_var 0) (dA_cons (dE_var 1) dA_nil))) dA_nil))) (by decide)) dA_nil))))
  exact h
end
end Dd

set_option Elab.async false
set_option linter.all false
set_option maxRecDepth 100000
set_option maxHeartbeats 0
namespace Dd
open PySem PySem.Spec PyProof.Rows L2
def d__law_pot : He.DefD := ⟨("_law_pot", none), "_law_pot", "_law_pot", defArgs st__law_pot, defBody st__law_pot, defScope st__law_pot, [], []⟩
def d__law_is_count : He.DefD := ⟨("_law_is_count", none), "_law_is_count", "_law_is_count", defArgs st__law_is_count, defBody st__law_is_count, defScope st__law_is_count, [], []⟩
def d__law_are_places : He.DefD := ⟨("_law_are_places", none), "_law_are_places", "_law_are_places", defArgs st__law_are_places, defBody st__law_are_places, defScope st__law_are_places, [], []⟩
def d__law_is_list : He.DefD := ⟨("_law_is_list", none), "_law_is_list", "_law_is_list", defArgs st__law_is_list, defBody st__law_is_list, defScope st__law_is_list, [], []⟩
def d__law_are_postings : He.DefD := ⟨("_law_are_postings", none), "_law_are_postings", "_law_are_postings", defArgs st__law_are_postings, defBody st__law_are_postings, defScope st__law_are_postings, [], []⟩
def d__law_draw : He.DefD := ⟨("_law_draw", none), "_law_draw", "_law_draw", defArgs st__law_draw, defBody st__law_draw, defScope st__law_draw, [], []⟩
def d__law_other : He.DefD := ⟨("_law_other", none), "_law_other", "_law_other", defArgs st__law_other, defBody st__law_other, defScope st__law_other, [], []⟩
def d__law_bent : He.DefD := ⟨("_law_bent", none), "_law_bent", "_law_bent", defArgs st__law_bent, defBody st__law_bent, defScope st__law_bent, [], []⟩
def d__law_bent_view : He.DefD := ⟨("_law_bent_view", none), "_law_bent_view", "_law_bent_view", defArgs st__law_bent_view, defBody st__law_bent_view, defScope st__law_bent_view, [], []⟩
def d__law_pick : He.DefD := ⟨("_law_pick", none), "_law_pick", "_law_pick", defArgs st__law_pick, defBody st__law_pick, defScope st__law_pick, [], []⟩
def d__law_fillings : He.DefD := ⟨("_law_fillings", none), "_law_fillings", "_law_fillings", defArgs st__law_fillings, defBody st__law_fillings, defScope st__law_fillings, [], []⟩
def d__law_fills : He.DefD := ⟨("_law_fills", none), "_law_fills", "_law_fills", defArgs st__law_fills, defBody st__law_fills, defScope st__law_fills, [], []⟩
def d__law_is_view : He.DefD := ⟨("_law_is_view", none), "_law_is_view", "_law_is_view", defArgs st__law_is_view, defBody st__law_is_view, defScope st__law_is_view, [], []⟩
def d__law_postings : He.DefD := ⟨("_law_postings", none), "_law_postings", "_law_postings", defArgs st__law_postings, defBody st__law_postings, defScope st__law_postings, [], []⟩
def d__law_text : He.DefD := ⟨("_law_text", none), "_law_text", "_law_text", defArgs st__law_text, defBody st__law_text, defScope st__law_text, [], []⟩
def d__law_texts_drawn : He.DefD := ⟨("_law_texts_drawn", none), "_law_texts_drawn", "_law_texts_drawn", defArgs st__law_texts_drawn, defBody st__law_texts_drawn, defScope st__law_texts_drawn, [], []⟩
def d__law_view : He.DefD := ⟨("_law_view", none), "_law_view", "_law_view", defArgs st__law_view, defBody st__law_view, defScope st__law_view, [], []⟩
def d_is_integer : He.DefD := ⟨("is_integer", none), "is_integer", "is_integer", defArgs st_is_integer, defBody st_is_integer, defScope st_is_integer, [], []⟩
def d_is_within : He.DefD := ⟨("is_within", none), "is_within", "is_within", defArgs st_is_within, defBody st_is_within, defScope st_is_within, [], []⟩
def d_check_letters : He.DefD := ⟨("check_letters", none), "check_letters", "check_letters", defArgs st_check_letters, defBody st_check_letters, defScope st_check_letters, [], []⟩
def d_is_filling : He.DefD := ⟨("is_filling", none), "is_filling", "is_filling", defArgs st_is_filling, defBody st_is_filling, defScope st_is_filling, [], []⟩
def d_letter_list : He.DefD := ⟨("letter_list", none), "letter_list", "letter_list", defArgs st_letter_list, defBody st_letter_list, defScope st_letter_list, [], []⟩
def d_is_text_of : He.DefD := ⟨("is_text_of", none), "is_text_of", "is_text_of", defArgs st_is_text_of, defBody st_is_text_of, defScope st_is_text_of, [.int 60], []⟩
def d_spots : He.DefD := ⟨("spots", none), "spots", "spots", defArgs st_spots, defBody st_spots, defScope st_spots, [], []⟩
def d_are_places : He.DefD := ⟨("are_places", none), "are_places", "are_places", defArgs st_are_places, defBody st_are_places, defScope st_are_places, [], []⟩
def d_are_looked_lists : He.DefD := ⟨("are_looked_lists", none), "are_looked_lists", "are_looked_lists", defArgs st_are_looked_lists, defBody st_are_looked_lists, defScope st_are_looked_lists, [], []⟩
def d_free_numbers : He.DefD := ⟨("free_numbers", none), "free_numbers", "free_numbers", defArgs st_free_numbers, defBody st_free_numbers, defScope st_free_numbers, [], []⟩
def d_told_places : He.DefD := ⟨("told_places", none), "told_places", "told_places", defArgs st_told_places, defBody st_told_places, defScope st_told_places, [], []⟩
def d_least_length : He.DefD := ⟨("least_length", none), "least_length", "least_length", defArgs st_least_length, defBody st_least_length, defScope st_least_length, [], []⟩
def d_is_view_of : He.DefD := ⟨("is_view_of", none), "is_view_of", "is_view_of", defArgs st_is_view_of, defBody st_is_view_of, defScope st_is_view_of, [], []⟩
def d_want_view : He.DefD := ⟨("want_view", none), "want_view", "want_view", defArgs st_want_view, defBody st_want_view, defScope st_want_view, [], []⟩
def d_fills : He.DefD := ⟨("fills", none), "fills", "fills", defArgs st_fills, defBody st_fills, defScope st_fills, [], []⟩
def d_are_lengths : He.DefD := ⟨("are_lengths", none), "are_lengths", "are_lengths", defArgs st_are_lengths, defBody st_are_lengths, defScope st_are_lengths, [], []⟩
def d_is_letter_list : He.DefD := ⟨("is_letter_list", none), "is_letter_list", "is_letter_list", defArgs st_is_letter_list, defBody st_is_letter_list, defScope st_is_letter_list, [], []⟩
def d_places_at : He.DefD := ⟨("places_at", none), "places_at", "places_at", defArgs st_places_at, defBody st_places_at, defScope st_places_at, [], []⟩
def d_are_postings : He.DefD := ⟨("are_postings", none), "are_postings", "are_postings", defArgs st_are_postings, defBody st_are_postings, defScope st_are_postings, [], []⟩
def d_is_postings : He.DefD := ⟨("is_postings", none), "is_postings", "is_postings", defArgs st_is_postings, defBody st_is_postings, defScope st_is_postings, [], []⟩
def d_is_view : He.DefD := ⟨("is_view", none), "is_view", "is_view", defArgs st_is_view, defBody st_is_view, defScope st_is_view, [], []⟩
def d__law_right : He.DefD := ⟨("_law_right", none), "_law_right", "_law_right", defArgs st__law_right, defBody st__law_right, defScope st__law_right, [], []⟩
def d_law : He.DefD := ⟨("law", none), "law", "law", defArgs st_law, defBody st_law, defScope st_law, [], []⟩
def fn0 : List He.DefD := [d__law_pot, d__law_is_count, d__law_are_places, d__law_is_list, d__law_are_postings, d__law_draw, d__law_other, d__law_bent, d__law_bent_view, d__law_pick, d__law_fillings, d__law_fills, d__law_is_view, d__law_postings, d__law_text, d__law_texts_drawn, d__law_view, d_is_integer, d_is_within, d_check_letters, d_is_filling, d_letter_list, d_is_text_of, d_spots, d_are_places]
def fn1 : List He.DefD := [d_are_looked_lists, d_free_numbers, d_told_places, d_least_length, d_is_view_of, d_want_view, d_fills, d_are_lengths, d_is_letter_list, d_places_at, d_are_postings, d_is_postings, d_is_view, d__law_right, d_law]
def fn : List He.DefD := fn0 ++ fn1
def fa0 : List He.Fa := [.glo "_law_pot", .glo "_law_is_count", .glo "_law_are_places", .glo "_law_is_list", .glo "_law_are_postings", .glo "_law_draw", .glo "_law_other", .glo "_law_bent", .glo "_law_bent_view", .glo "_law_pick", .glo "_law_fillings", .glo "_law_fills", .glo "_law_is_view", .glo "_law_postings", .glo "_law_text", .glo "_law_texts_drawn", .glo "_law_view", .glo "is_integer", .glo "is_within", .glo "check_letters", .glo "is_filling", .glo "letter_list", .glo "is_text_of", .glo "spots", .glo "are_places"]
def fa1 : List He.Fa := [.glo "are_looked_lists", .glo "free_numbers", .glo "told_places", .glo "least_length", .glo "is_view_of", .glo "want_view", .glo "fills", .glo "are_lengths", .glo "is_letter_list", .glo "places_at", .glo "are_postings", .glo "is_postings", .glo "is_view", .glo "_law_right", .glo "law", .free "abs", .free "all", .free "any", .free "bool", .free "divmod", .free "enumerate", .free "int", .free "isinstance", .free "len", .free "list"]
def fa2 : List He.Fa := [.free "max", .free "min", .free "range", .free "repr", .free "set", .free "sorted", .free "str", .free "tuple", .free "zip", .int "MOST_DOCUMENTS" 8, .int "MOST_FILLING" 20000, .int "MOST_LENGTH" 60, .str "SIGNS" "abcd"]
def fa : List He.Fa := fa0 ++ fa1 ++ fa2
def loose0 : List Str := ["TellError", "InvalidLetters", "InvalidView", "SIGNS", "is_integer", "is_within", "check_letters", "letter_list", "MOST_LENGTH", "is_text_of", "spots", "MOST_DOCUMENTS", "are_places", "are_lengths", "is_letter_list", "places_at", "are_postings", "is_postings", "MOST_FILLING", "told_places", "free_numbers", "least_length", "are_looked_lists", "is_view_of", "want_view"]
def loose1 : List Str := ["is_filling", "is_view", "fills", "_law_pot", "_law_draw", "_law_pick", "_law_postings", "_law_text", "_law_texts_drawn", "_law_is_count", "_law_are_places", "_law_is_view", "_law_fills", "_law_view", "_law_is_list", "_law_are_postings", "_law_other", "_law_bent", "_law_bent_view", "_law_fillings", "_law_right"]
def loose : List Str := loose0 ++ loose1
abbrev R : PySem.W.OpenRow := PySem.W.OpenLaw.row PySem.Challenge.rw_tellindex_k76_any_value_as_postings_or_v
abbrev hk : PySem.W.Hook := He.hookD 4 fa fn
def ob (s : PySem.W.SharedT) : He.AlD := He.obsDG 4 fa fn (HandSHeadRun.getT s)
theorem ob_eq (s : PySem.W.SharedT) : ob s = hk.obs s.abs := He.obsDG_eq (HandSHeadRun.getT_eq s)
theorem run (w : World) : HandSHeadRun.RunEq R (PySem.W.view R.prog [52]) hk ob 2000 loose w := by
  intro os
  kernel_rfl
end Dd

set_option Elab.async false
set_option linter.all false
set_option maxRecDepth 100000
set_option maxHeartbeats 0
namespace Dd
open PySem PySem.Spec PyProof.Rows L2
theorem facts (plain : ∀ ns : List Int, ns.length ≤ 63 → (F_law [.frl (ns.map D.int)] []).wp (fun d _ => d = .bl true) fun _ _ => False) {P : Program} {w : World} {K : PySem.W.Frag} {h : Heap} {mg : Str → Option Value} {f : Addr} (X : K.In h) (G : h.Ns mainGlobals mg) (hfa : mg ("law" : Str) = some (.ref f)) (c : He.SaysD fa fn K) :
    ∃ fd : FuncData, (∀ (s : Shared) (v : Value), BindsTo s fd ⟨[v], []⟩ [("script", v)]) ∧ ∀ base : Heap, K.In base → base.Ns mainGlobals mg → FnG P w K mg base 9 f fd ["script"] (spLaw K) := by
  obtain ⟨f__law_pot, D__law_pot⟩ := c.def_ 0 (d := d__law_pot) rfl
  have m__law_pot := He.glo_ok X G (c.fact 0 (f := .glo "_law_pot") rfl)
  obtain ⟨f__law_is_count, D__law_is_count⟩ := c.def_ 1 (d := d__law_is_count) rfl
  have m__law_is_count := He.glo_ok X G (c.fact 1 (f := .glo "_law_is_count") rfl)
  obtain ⟨f__law_are_places, D__law_are_places⟩ := c.def_ 2 (d := d__law_are_places) rfl
  have m__law_are_places := He.glo_ok X G (c.fact 2 (f := .glo "_law_are_places") rfl)
  obtain ⟨f__law_is_list, D__law_is_list⟩ := c.def_ 3 (d := d__law_is_list) rfl
  have m__law_is_list := He.glo_ok X G (c.fact 3 (f := .glo "_law_is_list") rfl)
  obtain ⟨f__law_are_postings, D__law_are_postings⟩ := c.def_ 4 (d := d__law_are_postings) rfl
  have m__law_are_postings := He.glo_ok X G (c.fact 4 (f := .glo "_law_are_postings") rfl)
  obtain ⟨f__law_draw, D__law_draw⟩ := c.def_ 5 (d := d__law_draw) rfl
  have m__law_draw := He.glo_ok X G (c.fact 5 (f := .glo "_law_draw") rfl)
  obtain ⟨f__law_other, D__law_other⟩ := c.def_ 6 (d := d__law_other) rfl
  have m__law_other := He.glo_ok X G (c.fact 6 (f := .glo "_law_other") rfl)
  obtain ⟨f__law_bent, D__law_bent⟩ := c.def_ 7 (d := d__law_bent) rfl
  have m__law_bent := He.glo_ok X G (c.fact 7 (f := .glo "_law_bent") rfl)
  obtain ⟨f__law_bent_view, D__law_bent_view⟩ := c.def_ 8 (d := d__law_bent_view) rfl
  have m__law_bent_view := He.glo_ok X G (c.fact 8 (f := .glo "_law_bent_view") rfl)
  obtain ⟨f__law_pick, D__law_pick⟩ := c.def_ 9 (d := d__law_pick) rfl
  have m__law_pick := He.glo_ok X G (c.fact 9 (f := .glo "_law_pick") rfl)
  obtain ⟨f__law_fillings, D__law_fillings⟩ := c.def_ 10 (d := d__law_fillings) rfl
  have m__law_fillings := He.glo_ok X G (c.fact 10 (f := .glo "_law_fillings") rfl)
  obtain ⟨f__law_fills, D__law_fills⟩ := c.def_ 11 (d := d__law_fills) rfl
  have m__law_fills := He.glo_ok X G (c.fact 11 (f := .glo "_law_fills") rfl)
  obtain ⟨f__law_is_view, D__law_is_view⟩ := c.def_ 12 (d := d__law_is_view) rfl
  have m__law_is_view := He.glo_ok X G (c.fact 12 (f := .glo "_law_is_view") rfl)
  obtain ⟨f__law_postings, D__law_postings⟩ := c.def_ 13 (d := d__law_postings) rfl
  have m__law_postings := He.glo_ok X G (c.fact 13 (f := .glo "_law_postings") rfl)
  obtain ⟨f__law_text, D__law_text⟩ := c.def_ 14 (d := d__law_text) rfl
  have m__law_text := He.glo_ok X G (c.fact 14 (f := .glo "_law_text") rfl)
  obtain ⟨f__law_texts_drawn, D__law_texts_drawn⟩ := c.def_ 15 (d := d__law_texts_drawn) rfl
  have m__law_texts_drawn := He.glo_ok X G (c.fact 15 (f := .glo "_law_texts_drawn") rfl)
  obtain ⟨f__law_view, D__law_view⟩ := c.def_ 16 (d := d__law_view) rfl
  have m__law_view := He.glo_ok X G (c.fact 16 (f := .glo "_law_view") rfl)
  obtain ⟨f_is_integer, D_is_integer⟩ := c.def_ 17 (d := d_is_integer) rfl
  have m_is_integer := He.glo_ok X G (c.fact 17 (f := .glo "is_integer") rfl)
  obtain ⟨f_is_within, D_is_within⟩ := c.def_ 18 (d := d_is_within) rfl
  have m_is_within := He.glo_ok X G (c.fact 18 (f := .glo "is_within") rfl)
  obtain ⟨f_check_letters, D_check_letters⟩ := c.def_ 19 (d := d_check_letters) rfl
  have m_check_letters := He.glo_ok X G (c.fact 19 (f := .glo "check_letters") rfl)
  obtain ⟨f_is_filling, D_is_filling⟩ := c.def_ 20 (d := d_is_filling) rfl
  have m_is_filling := He.glo_ok X G (c.fact 20 (f := .glo "is_filling") rfl)
  obtain ⟨f_letter_list, D_letter_list⟩ := c.def_ 21 (d := d_letter_list) rfl
  have m_letter_list := He.glo_ok X G (c.fact 21 (f := .glo "letter_list") rfl)
  obtain ⟨f_is_text_of, D_is_text_of⟩ := c.def_ 22 (d := d_is_text_of) rfl
  have m_is_text_of := He.glo_ok X G (c.fact 22 (f := .glo "is_text_of") rfl)
  obtain ⟨f_spots, D_spots⟩ := c.def_ 23 (d := d_spots) rfl
  have m_spots := He.glo_ok X G (c.fact 23 (f := .glo "spots") rfl)
  obtain ⟨f_are_places, D_are_places⟩ := c.def_ 24 (d := d_are_places) rfl
  have m_are_places := He.glo_ok X G (c.fact 24 (f := .glo "are_places") rfl)
  obtain ⟨f_are_looked_lists, D_are_looked_lists⟩ := c.def_ 25 (d := d_are_looked_lists) rfl
  have m_are_looked_lists := He.glo_ok X G (c.fact 25 (f := .glo "are_looked_lists") rfl)
  obtain ⟨f_free_numbers, D_free_numbers⟩ := c.def_ 26 (d := d_free_numbers) rfl
  have m_free_numbers := He.glo_ok X G (c.fact 26 (f := .glo "free_numbers") rfl)
  obtain ⟨f_told_places, D_told_places⟩ := c.def_ 27 (d := d_told_places) rfl
  have m_told_places := He.glo_ok X G (c.fact 27 (f := .glo "told_places") rfl)
  obtain ⟨f_least_length, D_least_length⟩ := c.def_ 28 (d := d_least_length) rfl
  have m_least_length := He.glo_ok X G (c.fact 28 (f := .glo "least_length") rfl)
  obtain ⟨f_is_view_of, D_is_view_of⟩ := c.def_ 29 (d := d_is_view_of) rfl
  have m_is_view_of := He.glo_ok X G (c.fact 29 (f := .glo "is_view_of") rfl)
  obtain ⟨f_want_view, D_want_view⟩ := c.def_ 30 (d := d_want_view) rfl
  have m_want_view := He.glo_ok X G (c.fact 30 (f := .glo "want_view") rfl)
  obtain ⟨f_fills, D_fills⟩ := c.def_ 31 (d := d_fills) rfl
  have m_fills := He.glo_ok X G (c.fact 31 (f := .glo "fills") rfl)
  obtain ⟨f_are_lengths, D_are_lengths⟩ := c.def_ 32 (d := d_are_lengths) rfl
  have m_are_lengths := He.glo_ok X G (c.fact 32 (f := .glo "are_lengths") rfl)
  obtain ⟨f_is_letter_list, D_is_letter_list⟩ := c.def_ 33 (d := d_is_letter_list) rfl
  have m_is_letter_list := He.glo_ok X G (c.fact 33 (f := .glo "is_letter_list") rfl)
  obtain ⟨f_places_at, D_places_at⟩ := c.def_ 34 (d := d_places_at) rfl
  have m_places_at := He.glo_ok X G (c.fact 34 (f := .glo "places_at") rfl)
  obtain ⟨f_are_postings, D_are_postings⟩ := c.def_ 35 (d := d_are_postings) rfl
  have m_are_postings := He.glo_ok X G (c.fact 35 (f := .glo "are_postings") rfl)
  obtain ⟨f_is_postings, D_is_postings⟩ := c.def_ 36 (d := d_is_postings) rfl
  have m_is_postings := He.glo_ok X G (c.fact 36 (f := .glo "is_postings") rfl)
  obtain ⟨f_is_view, D_is_view⟩ := c.def_ 37 (d := d_is_view) rfl
  have m_is_view := He.glo_ok X G (c.fact 37 (f := .glo "is_view") rfl)
  obtain ⟨f__law_right, D__law_right⟩ := c.def_ 38 (d := d__law_right) rfl
  have m__law_right := He.glo_ok X G (c.fact 38 (f := .glo "_law_right") rfl)
  obtain ⟨f_law, D_law⟩ := c.def_ 39 (d := d_law) rfl
  have m_law := He.glo_ok X G (c.fact 39 (f := .glo "law") rfl)
  have E : Gls mg := ⟨He.free_ok X G (c.fact 40 (f := .free "abs") rfl), He.free_ok X G (c.fact 41 (f := .free "all") rfl), He.free_ok X G (c.fact 42 (f := .free "any") rfl), He.free_ok X G (c.fact 43 (f := .free "bool") rfl), He.free_ok X G (c.fact 44 (f := .free "divmod") rfl), He.free_ok X G (c.fact 45 (f := .free "enumerate") rfl), He.free_ok X G (c.fact 46 (f := .free "int") rfl), He.free_ok X G (c.fact 47 (f := .free "isinstance") rfl), He.free_ok X G (c.fact 48 (f := .free "len") rfl), He.free_ok X G (c.fact 49 (f := .free "list") rfl), He.free_ok X G (c.fact 50 (f := .free "max") rfl), He.free_ok X G (c.fact 51 (f := .free "min") rfl), He.free_ok X G (c.fact 52 (f := .free "range") rfl), He.free_ok X G (c.fact 53 (f := .free "repr") rfl), He.free_ok X G (c.fact 54 (f := .free "set") rfl), He.free_ok X G (c.fact 55 (f := .free "sorted") rfl), He.free_ok X G (c.fact 56 (f := .free "str") rfl), He.free_ok X G (c.fact 57 (f := .free "tuple") rfl), He.free_ok X G (c.fact 58 (f := .free "zip") rfl), He.int_ok X G (c.fact 59 (f := .int "MOST_DOCUMENTS" 8) rfl), He.int_ok X G (c.fact 60 (f := .int "MOST_FILLING" 20000) rfl), He.int_ok X G (c.fact 61 (f := .int "MOST_LENGTH" 60) rfl), He.str_ok X G (c.fact 62 (f := .str "SIGNS" "abcd") rfl)⟩
  have e := hfa.symm.trans m_law
  cases e
  refine ⟨f_law, fun s v => FunD.bindsA (ps := ["script"]) D_law (fun _ _ _ _ _ _ us hl => match us, hl with | [_], _ => rfl) s [v] rfl, fun base _ _ => ?_⟩
  have W__law_pot := w__law_pot (P := P) (w := w) (base := base) E  D__law_pot m__law_pot
  have W__law_is_count := w__law_is_count (P := P) (w := w) (base := base) E  D__law_is_count m__law_is_count
  have W__law_are_places := w__law_are_places (P := P) (w := w) (base := base) E W__law_is_count D__law_are_places m__law_are_places
  have W__law_is_list := w__law_is_list (P := P) (w := w) (base := base) E W__law_are_places W__law_is_count D__law_is_list m__law_is_list
  have W__law_are_postings := w__law_are_postings (P := P) (w := w) (base := base) E W__law_is_count W__law_is_list D__law_are_postings m__law_are_postings
  have W__law_draw := w__law_draw (P := P) (w := w) (base := base) E  D__law_draw m__law_draw
  have W__law_other := w__law_other (P := P) (w := w) (base := base) E  D__law_other m__law_other
  have W__law_bent := w__law_bent (P := P) (w := w) (base := base) E W__law_draw W__law_other D__law_bent m__law_bent
  have W__law_bent_view := w__law_bent_view (P := P) (w := w) (base := base) E W__law_draw W__law_other D__law_bent_view m__law_bent_view
  have W__law_pick := w__law_pick (P := P) (w := w) (base := base) E W__law_draw D__law_pick m__law_pick
  have W__law_fillings := w__law_fillings (P := P) (w := w) (base := base) E W__law_draw W__law_pick D__law_fillings m__law_fillings
  have W__law_fills := w__law_fills (P := P) (w := w) (base := base) E  D__law_fills m__law_fills
  have W__law_is_view := w__law_is_view (P := P) (w := w) (base := base) E W__law_are_places W__law_is_count D__law_is_view m__law_is_view
  have W__law_postings := w__law_postings (P := P) (w := w) (base := base) E  D__law_postings m__law_postings
  have W__law_text := w__law_text (P := P) (w := w) (base := base) E W__law_draw W__law_pick D__law_text m__law_text
  have W__law_texts_drawn := w__law_texts_drawn (P := P) (w := w) (base := base) E W__law_draw W__law_text D__law_texts_drawn m__law_texts_drawn
  have W__law_view := w__law_view (P := P) (w := w) (base := base) E  D__law_view m__law_view
  have W_is_integer := w_is_integer (P := P) (w := w) (base := base) E  D_is_integer m_is_integer
  have W_is_within := w_is_within (P := P) (w := w) (base := base) E W_is_integer D_is_within m_is_within
  have W_check_letters := w_check_letters (P := P) (w := w) (base := base) E W_is_within D_check_letters m_check_letters
  have W_is_filling := w_is_filling (P := P) (w := w) (base := base) E  D_is_filling m_is_filling
  have W_letter_list := w_letter_list (P := P) (w := w) (base := base) E  D_letter_list m_letter_list
  have W_is_text_of := w_is_text_of (P := P) (w := w) (base := base) E W_letter_list D_is_text_of m_is_text_of
  have W_spots := w_spots (P := P) (w := w) (base := base) E  D_spots m_spots
  have W_are_places := w_are_places (P := P) (w := w) (base := base) E W_is_within D_are_places m_are_places
  have W_are_looked_lists := w_are_looked_lists (P := P) (w := w) (base := base) E W_are_places D_are_looked_lists m_are_looked_lists
  have W_free_numbers := w_free_numbers (P := P) (w := w) (base := base) E  D_free_numbers m_free_numbers
  have W_told_places := w_told_places (P := P) (w := w) (base := base) E  D_told_places m_told_places
  have W_least_length := w_least_length (P := P) (w := w) (base := base) E W_told_places D_least_length m_least_length
  have W_is_view_of := w_is_view_of (P := P) (w := w) (base := base) E W_are_looked_lists W_free_numbers W_is_within W_least_length W_told_places D_is_view_of m_is_view_of
  have W_want_view := w_want_view (P := P) (w := w) (base := base) E W_is_view_of D_want_view m_want_view
  have W_fills := w_fills (P := P) (w := w) (base := base) E W_check_letters W_is_filling W_is_text_of W_spots W_want_view D_fills m_fills
  have W_are_lengths := w_are_lengths (P := P) (w := w) (base := base) E W_is_within D_are_lengths m_are_lengths
  have W_is_letter_list := w_is_letter_list (P := P) (w := w) (base := base) E W_are_places W_is_within D_is_letter_list m_is_letter_list
  have W_places_at := w_places_at (P := P) (w := w) (base := base) E  D_places_at m_places_at
  have W_are_postings := w_are_postings (P := P) (w := w) (base := base) E W_are_lengths W_is_letter_list W_is_within W_places_at D_are_postings m_are_postings
  have W_is_postings := w_is_postings (P := P) (w := w) (base := base) E W_are_postings D_is_postings m_is_postings
  have W_is_view := w_is_view (P := P) (w := w) (base := base) E W_check_letters W_is_view_of D_is_view m_is_view
  have W__law_right := w__law_right (P := P) (w := w) (base := base) E W__law_are_postings W__law_bent W__law_bent_view W__law_draw W__law_fillings W__law_fills W__law_is_view W__law_postings W__law_text W__law_texts_drawn W__law_view W_fills W_is_postings W_is_view D__law_right m__law_right
  exact FnG.imp (g_law (P := P) (w := w) (base := base) E W__law_pot W__law_right D_law) fun _ _ _ _ h => spLaw_of plain h
end Dd
open PySem PySem.W PySem.Calls PyProof.Rows
theorem holds_of (plain : ∀ ns : List Int, ns.length ≤ 63 → (Dd.F_law [.frl (ns.map Dd.D.int)] []).wp (fun d _ => d = .bl true) fun _ _ => False) : PySem.Challenge.rw_tellindex_k76_any_value_as_postings_or_v.Holds := by
  w_on; o_law
  refine HandSHeadRun.head_any (r := OpenLaw.row PySem.Challenge.rw_tellindex_k76_any_value_as_postings_or_v) (q := view (OpenLaw.row PySem.Challenge.rw_tellindex_k76_any_value_as_postings_or_v).prog [52]) (H := Dd.hk) (ob := Dd.ob) (M := 2000) (loose := Dd.loose) (d := HandSHeadRun.topDef (OpenLaw.row PySem.Challenge.rw_tellindex_k76_any_value_as_postings_or_v).prog 52) (kwd := []) Dd.ob_eq
    (by kernel_rfl) (fun s => by kernel_rfl) Dd.run (by kernel_rfl) (by kernel_rfl) (by kernel_rfl) (by rfl) (by first | assumption | decide +kernel) (by decide +kernel) ⟨rfl, rfl, rfl, rfl, rfl, by decide +kernel⟩ ?hw ?hc
  case hw => w_witness2
  case hc =>
    refine Dd.walk_ofG (l := PySem.Challenge.rw_tellindex_k76_any_value_as_postings_or_v) (k := 9) (x := "script") rfl (by kernel_rfl) ⟨rfl, by decide, by decide⟩ ?F
    intro w mg fa h Y G hmg0
    obtain ⟨K, KX, c⟩ := Y
    have hmg : mg ("law" : PySem.Str) = some (.ref fa) := by
      have e : (HandSHeadRun.topDef (OpenLaw.row PySem.Challenge.rw_tellindex_k76_any_value_as_postings_or_v).prog 52).name = ("law" : PySem.Str) := by kernel_rfl
      rw [← e]
      exact hmg0
    obtain ⟨fd, hb, hF⟩ := Dd.facts plain (P := (PySem.Challenge.rw_tellindex_k76_any_value_as_postings_or_v).prog) (w := w) KX G hmg c
    exact ⟨K, fd, KX, hb, hF⟩

set_option Elab.async false
set_option linter.all false
set_option maxRecDepth 100000
/-! the plain law, part A: how the combinators run; nice values. -/
namespace Dd
open PySem
@[simp] theorem bind_run {α β : Type} (m : M α) (k : α → M β) (st : Sto) : (m >>= k) st = match m st with
  | .ok a s => k a s
  | .exc x s => .exc x s
  | .bad => .bad := rfl
@[simp] theorem pure_run {α : Type} (a : α) (st : Sto) : (pure a : M α) st = .ok a st := rfl
@[simp] theorem bad_run {α : Type} (st : Sto) : (M.bad : M α) st = .bad := rfl
@[simp] theorem ite_run {α : Type} (c : Prop) [Decidable c] (m m' : M α) (st : Sto) : (if c then m else m') st = if c then m st else m' st := by split <;> rfl
@[simp] theorem retS_run (fe : EnvD → M D) (env : EnvD) (st : Sto) : retS fe env st = (fe env >>= fun d => (pure (.rt d) : M Fl)) st := rfl
@[simp] theorem ifS_run (t : EnvD → M Bool) (f f2 : EnvD → M Fl) (env : EnvD) (st : Sto) : ifS t f f2 env st = (t env >>= fun b => if b = true then f env else f2 env) st := rfl
@[simp] theorem seqS_run (f f2 : EnvD → M Fl) (env : EnvD) (st : Sto) : seqS f f2 env st = (f env >>= fun fl => match fl with
  | .nx env' => f2 env'
  | fl => (pure fl : M Fl)) st := rfl
@[simp] theorem nxtS_run (env : EnvD) (st : Sto) : nxtS env st = .ok (.nx env) st := rfl
@[simp] theorem badS_run (env : EnvD) (st : Sto) : badS env st = .bad := rfl
@[simp] theorem setS_run (i : Nat) (fe : EnvD → M D) (env : EnvD) (st : Sto) : setS i fe env st = (fe env >>= fun d => (pure (.nx (env.set i (some (.d d)))) : M Fl)) st := rfl
@[simp] theorem ownS_run (i : Nat) (fr : EnvD → M (List D)) (env : EnvD) (st : Sto) : ownS i fr env st = (fr env >>= fun ds => if ds.length ≤ sizeLine then (pure (.nx (env.set i (some (.own ds)))) : M Fl) else M.bad) st := rfl
@[simp] theorem frzS_run (i : Nat) (f : EnvD → M Fl) (env : EnvD) (st : Sto) : frzS i f env st = f (frz i env) st := rfl
@[simp] theorem frzDS_run (i : Nat) (f : EnvD → M Fl) (env : EnvD) (st : Sto) : frzDS i f env st = f (frzD i env) st := rfl
@[simp] theorem forS_run (it : EnvD → M (List D)) (tg : D → EnvD → Option EnvD) (b : EnvD → M Fl) (env : EnvD) (st : Sto) : forS it tg b env st = (it env >>= fun xs => forL tg b xs env) st := rfl
@[simp] theorem asgS_run (fe : EnvD → M D) (tg : D → EnvD → M EnvD) (env : EnvD) (st : Sto) : asgS fe tg env st = (fe env >>= fun d => tg d env >>= fun env' => (pure (.nx env') : M Fl)) st := rfl
@[simp] theorem parS_run (i j : Nat) (fa : EnvD → M (List D)) (env : EnvD) (st : Sto) : parS i j fa env st = (fa env >>= fun ds => match ds with
  | [c, d] => (pure (.nx ((env.set i (some (.d c))).set j (some (.d d)))) : M Fl)
  | _ => M.bad) st := rfl
@[simp] theorem drpS_run (fe : EnvD → M D) (env : EnvD) (st : Sto) : drpS fe env st = (fe env >>= fun _ => (pure (.nx env) : M Fl)) st := rfl
@[simp] theorem newdS_run (i : Nat) (env : EnvD) (st : Sto) : newdS i env st = .ok (.nx (env.set i (some (.dic [] [])))) st := rfl
@[simp] theorem andE_run (fa fb : EnvD → M D) (env : EnvD) (st : Sto) : andE fa fb env st = (fa env >>= fun x => boolD x >>= fun x => if x = true then fb env else pure (.bl false)) st := rfl
@[simp] theorem orE_run (fa fb : EnvD → M D) (env : EnvD) (st : Sto) : orE fa fb env st = (fa env >>= fun x => boolD x >>= fun x => if x = true then pure (.bl true) else fb env) st := rfl
@[simp] theorem notE_run (fa : EnvD → M D) (env : EnvD) (st : Sto) : notE fa env st = (fa env >>= fun x => boolD x >>= fun x => (pure (.bl (!x)) : M D)) st := rfl
@[simp] theorem biE_run (fo : List D → M D) (fa : EnvD → M (List D)) (env : EnvD) (st : Sto) : biE fo fa env st = (fa env >>= fo) st := rfl
@[simp] theorem biK_run (fo : List D → List D → M D) (fa fk : EnvD → M (List D)) (env : EnvD) (st : Sto) : biK fo fa fk env st = (fa env >>= fun ds => fk env >>= fun es => fo ds es) st := rfl
@[simp] theorem callW_run (fo : List D → M D) (fa : EnvD → M (List D)) (env : EnvD) (st : Sto) : callW fo fa env st = (fa env >>= fo) st := rfl
@[simp] theorem callK_run (F : List D → M D) (pm : List Nat) (n m : Nat) (fa fk : EnvD → M (List D)) (env : EnvD) (st : Sto) : callK F pm n m fa fk env st = (fa env >>= fun ds => fk env >>= fun es => if ds.length = n ∧ es.length = m then F (permL pm (ds ++ es)) else M.bad) st := rfl
@[simp] theorem binE_run (op : D → D → M D) (fa fb : EnvD → M D) (env : EnvD) (st : Sto) : binE op fa fb env st = (fa env >>= fun x => fb env >>= fun y => op x y) st := rfl
@[simp] theorem unE_run (fo : D → M D) (fa : EnvD → M D) (env : EnvD) (st : Sto) : unE fo fa env st = (fa env >>= fo) st := rfl
@[simp] theorem m1E_run (k : Str → D → M D) (fo fe : EnvD → M D) (env : EnvD) (st : Sto) : m1E k fo fe env st = (fo env >>= fun x => match x with
  | .str a => fe env >>= fun y => k a y
  | _ => M.bad) st := rfl
@[simp] theorem consA_run (f : EnvD → M D) (r : EnvD → M (List D)) (env : EnvD) (st : Sto) : consA f r env st = (f env >>= fun x => r env >>= fun xs => (pure (x :: xs) : M (List D))) st := rfl
@[simp] theorem nilA_run (env : EnvD) (st : Sto) : nilA env st = .ok [] st := rfl
@[simp] theorem varE_run (i : Nat) (env : EnvD) (st : Sto) : varE i env st = (match env[i]? with
  | some (some (.d x)) => (pure x : M D)
  | _ => M.bad) st := rfl
@[simp] theorem cstE_run (d : D) (env : EnvD) (st : Sto) : cstE d env st = .ok d st := rfl
@[simp] theorem tstE_run (f : EnvD → M D) (env : EnvD) (st : Sto) : tstE f env st = (f env >>= boolD) st := rfl
@[simp] theorem andT_run (fa fb : EnvD → M Bool) (env : EnvD) (st : Sto) : andT fa fb env st = (fa env >>= fun x => if x = true then fb env else pure false) st := rfl
@[simp] theorem orT_run (fa fb : EnvD → M Bool) (env : EnvD) (st : Sto) : orT fa fb env st = (fa env >>= fun x => if x = true then pure true else fb env) st := rfl
@[simp] theorem notT_run (fa : EnvD → M Bool) (env : EnvD) (st : Sto) : notT fa env st = (fa env >>= fun x => (pure (!x) : M Bool)) st := rfl
@[simp] theorem iteE_run (t : EnvD → M Bool) (fa fb : EnvD → M D) (env : EnvD) (st : Sto) : iteE t fa fb env st = (t env >>= fun x => if x = true then fa env else fb env) st := rfl
@[simp] theorem anyI_run (f : EnvD → M D) (env : EnvD) (st : Sto) : anyI f env st = (f env >>= itM) st := rfl
@[simp] theorem enumI_run (f : EnvD → M D) (env : EnvD) (st : Sto) : enumI f env st = (f env >>= fun d => itM d >>= fun xs => (pure (enumD 0 xs) : M (List D))) st := rfl
@[simp] theorem zipI_run (f f2 : EnvD → M D) (env : EnvD) (st : Sto) : zipI f f2 env st = (f env >>= fun d => f2 env >>= fun d2 => itM d >>= fun xs => itM d2 >>= fun ys => (pure (zipD xs ys) : M (List D))) st := rfl
@[simp] theorem rngI1_run (fa : EnvD → M (List D)) (env : EnvD) (st : Sto) : rngI1 fa env st = (fa env >>= rngM1) st := rfl
@[simp] theorem keysI_run (f : EnvD → M D) (env : EnvD) (st : Sto) : keysI f env st = (f env >>= fun d => match d with
  | .dct ks xs => (pure (ks.map keyV) : M (List D))
  | _ => M.bad) st := rfl
@[simp] theorem lcE_run (it : EnvD → M (List D)) (tg : D → EnvD → Option EnvD) (ft : EnvD → M Bool) (fe : EnvD → M D) (vs : List Nat) (env : EnvD) (st : Sto) : lcE it tg ft fe vs env st = (it env >>= fun xs => if xs.length ≤ sizeLine then lcL tg ft fe (wipeE env vs) xs >>= fun ys => (pure (.lst ys) : M D) else M.bad) st := rfl
@[simp] theorem tupE_run (f : EnvD → M (List D)) (env : EnvD) (st : Sto) : tupE f env st = (f env >>= fun ds => if ds.length ≤ sizeLine then (pure (.tup ds) : M D) else M.bad) st := rfl
@[simp] theorem lstE_run (f : EnvD → M (List D)) (env : EnvD) (st : Sto) : lstE f env st = (f env >>= fun ds => if ds.length ≤ sizeLine then (pure (.lst ds) : M D) else M.bad) st := rfl
@[simp] theorem boxE_run (f : EnvD → M (List D)) (env : EnvD) (st : Sto) : boxE f env st = (f env >>= fun ds => if ds.length ≤ sizeLine then mkB ds else M.bad) st := rfl
@[simp] theorem chnE_run (o o' : D → D → M D) (fa fb fc : EnvD → M D) (env : EnvD) (st : Sto) : chnE o o' fa fb fc env st = (fa env >>= fun x => fb env >>= fun y => o x y >>= fun z => boolD z >>= fun z => if z = true then fc env >>= fun w => o' y w else (pure (.bl false) : M D)) st := rfl
@[simp] theorem slE_run (fa : EnvD → M D) (fl fu : EnvD → M (Option Int)) (env : EnvD) (st : Sto) : slE fa fl fu env st = (fa env >>= fun x => fl env >>= fun l => fu env >>= fun u => slM x l u) st := rfl
@[simp] theorem partE_run (f : EnvD → M D) (env : EnvD) (st : Sto) : partE f env st = (f env >>= fun d => match d with
  | .int i => (pure (some i) : M (Option Int))
  | _ => M.bad) st := rfl
@[simp] theorem noE_run (env : EnvD) (st : Sto) : noE env st = .ok none st := rfl
@[simp] theorem boolD_bl (b : Bool) : boolD (.bl b) = pure b := rfl
@[simp] theorem nameG_run (i : Nat) (d : D) (env : EnvD) : nameG i d env = some (env.set i (some (.d d))) := rfl
@[simp] theorem wipeE_nil (env : EnvD) : wipeE env [] = env := rfl
@[simp] theorem wipeE_cons (env : EnvD) (v : Nat) (vs : List Nat) : wipeE env (v :: vs) = (wipeE env vs).set v none := rfl
@[simp] theorem subM_int (i j : Int) : subM (.int i) (.int j) = pure (.int (i - j)) := rfl
@[simp] theorem addM_int (i j : Int) : addM (.int i) (.int j) = pure (.int (i + j)) := rfl
@[simp] theorem leM_int (i j : Int) : leM (.int i) (.int j) = pure (.bl (decide (i ≤ j))) := rfl
@[simp] theorem ltM_int (i j : Int) : ltM (.int i) (.int j) = pure (.bl (decide (i < j))) := rfl
@[simp] theorem gtM_int (i j : Int) : gtM (.int i) (.int j) = pure (.bl (decide (j < i))) := rfl
@[simp] theorem geM_int (i j : Int) : geM (.int i) (.int j) = pure (.bl (decide (j ≤ i))) := rfl
@[simp] theorem isM_non (x : D) : isM x .non = pure (.bl (isNonD x)) := rfl
@[simp] theorem isntM_non (x : D) : isntM x .non = pure (.bl (!isNonD x)) := rfl
@[simp] theorem lenM_tup (xs : List D) : lenM [.tup xs] = pure (.int xs.length) := rfl
@[simp] theorem lenM_lst (xs : List D) : lenM [.lst xs] = pure (.int xs.length) := rfl
@[simp] theorem lenM_str (z : Str) (st : Sto) : lenM [.str z] st = if z.length ≤ sizeLine then .ok (.int z.length) st else .bad := by simp only [lenM]; split <;> rfl
@[simp] theorem itM_tup (xs : List D) : itM (.tup xs) = pure xs := rfl
@[simp] theorem itM_lst (xs : List D) : itM (.lst xs) = pure xs := rfl
@[simp] theorem itM_str (z : Str) : itM (.str z) = pure (z.cps.toList.map fun c => .str ⟨#[c]⟩) := rfl
@[simp] theorem slM_tup (xs : List D) (l u : Option Int) : slM (.tup xs) l u = pure (.tup (cutD xs l u)) := rfl
@[simp] theorem slM_lst (xs : List D) (l u : Option Int) : slM (.lst xs) l u = pure (.lst (cutD xs l u)) := rfl
@[simp] theorem runF_run (n N : Nat) (b : EnvD → M Fl) (ds : List D) (st : Sto) : runF n N b ds st = if ds.length = n then (b (ds.map (fun d => some (.d d)) ++ List.replicate (N - n) none) >>= fun fl => match fl with
  | .nx _ => (pure .non : M D)
  | .rt d => pure d
  | _ => M.bad) st else .bad := by unfold runF; split <;> rfl
def tyIs (T : String) (d : D) : Bool := match tyD d with
  | some t => decide (t = T) || (decide (t = "bool") && decide (T = "int"))
  | none => false
theorem isiM_run (d : D) (T : String) (st : Sto) (h : (tyD d).isSome = true) (hT : T ∈ ["bool", "int", "str", "tuple", "list", "dict"]) : isiM [d, .ty T] st = .ok (.bl (tyIs T d)) st := by
  simp only [List.mem_cons, List.not_mem_nil, or_false] at hT
  cases d <;> simp [tyD] at h <;> rcases hT with rfl | rfl | rfl | rfl | rfl | rfl <;> simp [isiM, tyD, isiB, tyIs]
@[simp] theorem eqM_int (a b : Int) : eqM (.int a) (.int b) = pure (.bl (a == b)) := by simp [eqM, eqP, shp, toP, SeqAt.shaped, PyData.canLay0, PyData.depth, PyData.eqv]
@[simp] theorem neM_int (a b : Int) : neM (.int a) (.int b) = pure (.bl (!(a == b))) := by simp [neM, neP, shp, toP, SeqAt.shaped, PyData.canLay0, PyData.depth, PyData.eqv]
@[simp] theorem eqM_str (a b : Str) : eqM (.str a) (.str b) = pure (.bl (decide (a = b))) := rfl
@[simp] theorem neM_str (a b : Str) : neM (.str a) (.str b) = pure (.bl (!decide (a = b))) := rfl
def isInt : D → Bool
  | .int _ => true
  | _ => false
theorem F_is_integer_run (d : D) (st : Sto) (h : (tyD d).isSome = true) : F_is_integer [d] st = .ok (.bl (isInt d)) st := by
  cases d <;> simp [tyD] at h <;> simp [F_is_integer, b_is_integer, isInt, isiM, tyD, isiB]
/-! ### comprehensions, loops -/
theorem lcL_map {tg : D → EnvD → Option EnvD} {fe : EnvD → M D} {env : EnvD} {st : Sto} (h : D → D) : ∀ xs : List D, (∀ d ∈ xs, ∃ e, tg d env = some e ∧ fe e st = .ok (h d) st) → lcL tg yesT fe env xs st = .ok (xs.map h) st
  | [], _ => rfl
  | d :: ds, H => by
    obtain ⟨e, h1, h2⟩ := H d (by simp)
    simp [lcL, h1, yesT, h2, lcL_map h ds fun x hx => H x (by simp [hx])]
theorem lcL_filter {tg : D → EnvD → Option EnvD} {ft : EnvD → M Bool} {fe : EnvD → M D} {env : EnvD} {st : Sto} (p : D → Bool) (h : D → D) : ∀ xs : List D, (∀ d ∈ xs, ∃ e, tg d env = some e ∧ ft e st = .ok (p d) st ∧ (p d = true → fe e st = .ok (h d) st)) → lcL tg ft fe env xs st = .ok ((xs.filter p).map h) st
  | [], _ => rfl
  | d :: ds, H => by
    obtain ⟨e, h1, h2, h3⟩ := H d (by simp)
    have ih := lcL_filter p h ds fun x hx => H x (by simp [hx])
    cases hp : p d with
    | true => simp [lcL, h1, h2, hp, h3 hp, ih]
    | false => simp [lcL, h1, h2, hp, ih]
@[simp] theorem blsD_map {α : Type} (p : α → Bool) : ∀ xs : List α, blsD (xs.map fun d => .bl (p d)) = some (xs.map p)
  | [] => rfl
  | x :: xs => by simp [blsD, blsD_map p xs]
theorem allM_map (p : D → Bool) (xs : List D) (st : Sto) : allM [.lst (xs.map fun d => .bl (p d))] st = .ok (.bl (xs.all p)) st := by
  simp [allM, List.all_map]
theorem anyM_map (p : D → Bool) (xs : List D) (st : Sto) : anyM [.lst (xs.map fun d => .bl (p d))] st = .ok (.bl (xs.any p)) st := by
  simp [anyM, List.any_map]
@[simp] theorem intsD_map : ∀ xs : List Int, intsD (xs.map D.int) = some xs
  | [] => rfl
  | x :: xs => by simp [intsD, intsD_map xs]
/-! ### nice values -/
def nice : List Nat → D → Bool
  | _, .non => true
  | _, .bl _ => true
  | _, .int i => decide (-100 ≤ i ∧ i ≤ 100)
  | _, .str z => decide (z.length ≤ 1) && z.cps.toList.all fun c => decide (c < 128)
  | b :: bs, .tup xs => decide (xs.length ≤ b) && xs.all (nice bs)
  | b :: bs, .lst xs => decide (xs.length ≤ b) && xs.all (nice bs)
  | _, _ => false
def bnd : List Nat → Nat
  | [] => 20
  | b :: bs => 20 + b * (bnd bs + 2)
theorem int_len : ∀ i : Int, -100 ≤ i → i ≤ 100 → (toString i : Str).length ≤ 20 := by
  have h : ∀ n : Fin 201, (toString ((n.val : Int) - 100) : Str).length ≤ 20 := by decide +kernel
  intro i h1 h2
  have := h ⟨(i + 100).toNat, by omega⟩
  have e : (((i + 100).toNat : Nat) : Int) - 100 = i := by omega
  simp only [e] at this
  exact this
end Dd

set_option Elab.async false
set_option linter.all false
set_option maxRecDepth 100000
/-! the plain law, part B: places, counts. -/
namespace Dd
open PySem
def sml (bs : List Nat) : Prop := ∀ b ∈ bs, b ≤ 200
theorem nice_ty {bs : List Nat} {d : D} (h : nice bs d = true) : (tyD d).isSome = true := by
  cases bs <;> cases d <;> simp [nice] at h <;> rfl
theorem nice_tup {bs : List Nat} {xs : List D} (hs : sml bs) (h : nice bs (.tup xs) = true) : ∃ b bs', bs = b :: bs' ∧ sml bs' ∧ xs.length ≤ 200 ∧ ∀ x ∈ xs, nice bs' x = true := by
  cases bs with
  | nil => simp [nice] at h
  | cons b bs =>
    simp only [nice, Bool.and_eq_true, decide_eq_true_eq, List.all_eq_true] at h
    have := hs b (by simp)
    exact ⟨b, bs, rfl, fun c hc => hs c (by simp [hc]), by omega, h.2⟩
theorem nice_lst {bs : List Nat} {xs : List D} (hs : sml bs) (h : nice bs (.lst xs) = true) : ∃ b bs', bs = b :: bs' ∧ sml bs' ∧ xs.length ≤ 200 ∧ ∀ x ∈ xs, nice bs' x = true := by
  cases bs with
  | nil => simp [nice] at h
  | cons b bs =>
    simp only [nice, Bool.and_eq_true, decide_eq_true_eq, List.all_eq_true] at h
    have := hs b (by simp)
    exact ⟨b, bs, rfl, fun c hc => hs c (by simp [hc]), by omega, h.2⟩
theorem szl {n : Nat} (h : n ≤ 200) : n ≤ sizeLine := Nat.le_trans h (by decide)
def withinD (d : D) (lo hi : Int) : Bool := match d with
  | .int i => decide (lo ≤ i) && decide (i ≤ hi)
  | _ => false
theorem F_is_within_run (d : D) (lo hi : Int) (st : Sto) (h : (tyD d).isSome = true) : F_is_within [d, .int lo, .int hi] st = .ok (.bl (withinD d lo hi)) st := by
  have e := F_is_integer_run d st h
  cases d <;> simp [tyD] at h <;> simp [F_is_within, b_is_within, e, isInt, withinD]
  rename_i i
  by_cases c : lo ≤ i <;> simp [c]
def countD (d : D) : Bool := match d with
  | .int i => decide (0 ≤ i)
  | _ => false
theorem F_count_run (d : D) (st : Sto) (h : (tyD d).isSome = true) : F__law_is_count [d] st = .ok (.bl (countD d)) st := by
  cases d <;> simp [tyD] at h <;> simp [F__law_is_count, b__law_is_count, isiM, tyD, isiB, countD]
/-- strictly increasing ints -/
def ltD : D → D → Bool
  | .int a, .int b => decide (a < b)
  | _, _ => false
def incr : List D → Bool
  | a :: b :: r => ltD a b && incr (b :: r)
  | _ => true
theorem cut1 (xs : List D) : cutD xs (some 1) none = xs.tail := by
  unfold cutD
  cases xs with
  | nil => simp [HT.sIx]
  | cons x xs =>
    have e : HT.sIx (x :: xs).length 0 (some 1) = 1 := by simp [HT.sIx]
    rw [e, HT.sIx_none]
    simp
def pairLt : D → Bool
  | .tup [a, b] => ltD a b
  | _ => false
theorem incr_zip : ∀ xs : List D, (zipD xs xs.tail).all pairLt = incr xs
  | [] => rfl
  | [x] => rfl
  | x :: y :: r => by
    have ih := incr_zip (y :: r)
    simp only [List.tail_cons] at ih ⊢
    simp [zipD, incr, ih, pairLt]
theorem zip_mem {xs ys : List D} {d : D} (h : d ∈ zipD xs ys) : ∃ a b, a ∈ xs ∧ b ∈ ys ∧ d = .tup [a, b] := by
  obtain ⟨i, hi⟩ := List.mem_iff_getElem?.mp h
  obtain ⟨a, b, h1, h2, h3⟩ := zipD_get _ _ _ _ hi
  exact ⟨a, b, List.mem_of_getElem? h1, List.mem_of_getElem? h2, h3⟩
theorem isInt_of {d : D} (h : isInt d = true) : ∃ i, d = .int i := by
  cases d <;> simp [isInt] at h
  exact ⟨_, rfl⟩
theorem within_int {d : D} {lo hi : Int} (h : withinD d lo hi = true) : isInt d = true := by
  cases d <;> simp [withinD] at h <;> rfl
/-- the loop near < far over zip(value, value[1:]) -/
theorem lc_near (env : EnvD) (n f : Nat) (hn : n < env.length) (hf : f < env.length) (hnf : n ≠ f) (xs : List D) (st : Sto) (h : ∀ x ∈ xs, isInt x = true) :
    lcL (tupG 2 (consG (nameG n) (consG (nameG f) nilG))) yesT (binE ltM (varE n) (varE f)) env (zipD xs xs.tail) st = .ok ((zipD xs xs.tail).map fun d => .bl (pairLt d)) st := by
  refine lcL_map _ _ fun d hd => ?_
  obtain ⟨a, b, h1, h2, rfl⟩ := zip_mem hd
  obtain ⟨i, rfl⟩ := isInt_of (h a h1)
  obtain ⟨j, rfl⟩ := isInt_of (h b (List.mem_of_mem_tail h2))
  refine ⟨(env.set n (some (.d (.int i)))).set f (some (.d (.int j))), rfl, ?_⟩
  simp [hn, hf, hnf, List.getElem?_set, Ne.symm hnf, ltD, pairLt]
def placesOk (most : Int) (d : D) : Bool := match d with
  | .tup xs => xs.all (fun x => withinD x 0 (most - 1)) && incr xs
  | _ => false
theorem F_are_places_run {bs : List Nat} (d : D) (most : Int) (st : Sto) (hs : sml bs) (h : nice bs d = true) : F_are_places [d, .int most] st = .ok (.bl (placesOk most d)) st := by
  have hi := isiM_run d "tuple" st (nice_ty h) (by simp)
  cases d with
  | tup xs =>
    obtain ⟨b, bs', rfl, hs', hl, hx⟩ := nice_tup hs h
    have e1 := lcL_map (tg := nameG 4) (fe := callW F_is_within (consA (varE 4) (consA (cstE (.int 0)) (consA (binE subM (varE 1) (cstE (.int 1))) nilA)))) (env := [some (.d (.tup xs)), some (.d (.int most)), none, none, none]) (st := st) (fun d => .bl (withinD d 0 (most - 1))) xs
      fun x hx' => ⟨_, rfl, by simp [F_is_within_run x 0 (most - 1) st (nice_ty (hx x hx'))]⟩
    have ha := allM_map (fun x => withinD x 0 (most - 1)) xs st
    simp only [tyIs, tyD] at hi
    cases hw : xs.all (fun x => withinD x 0 (most - 1)) with
    | false =>
      rw [hw] at ha
      simp only [placesOk, hw, Bool.false_and]
      simp [F_are_places, b_are_places, hi, szl hl, e1, ha]
    | true =>
      rw [hw] at ha
      simp only [placesOk, hw, Bool.true_and]
      have hint : ∀ x ∈ xs, isInt x = true := fun x hx => within_int (List.all_eq_true.mp hw x hx)
      have e2 := lc_near [some (.d (.tup xs)), some (.d (.int most)), none, none, none] 2 3 (by simp) (by simp) (by decide) xs st hint
      have hz : (zipD xs xs.tail).length ≤ sizeLine := by rw [zipD_length]; have := szl hl; omega
      have hb := allM_map pairLt (zipD xs xs.tail) st
      rw [incr_zip] at hb
      simp [F_are_places, b_are_places, hi, szl hl, e1, ha, cut1, hz, e2, hb]
  | _ => first | (simp [tyIs, tyD] at hi; simp [F_are_places, b_are_places, hi, placesOk]) | (simp [nice] at h)
end Dd

set_option Elab.async false
set_option linter.all false
set_option maxRecDepth 100000
/-! the plain law, part C: nice values compare and show. -/
namespace Dd
open PySem
structure Good (n B : Nat) (p : PyData) : Prop where
  lay : p.canLay0 = true
  dep : p.depth ≤ n
  shw : p.showable = true
  nod : p.hasDict = false
  len : p.shown.length ≤ B
theorem goods {bs : List Nat} {n B : Nat} (f : ∀ d : D, nice bs d = true → ∃ p, toP d = some p ∧ Good n B p) : ∀ xs : List D, (∀ x ∈ xs, nice bs x = true) → ∃ ps, toPs xs = some ps ∧ ps.length = xs.length ∧ PyData.canLayAll0 ps = true ∧ PyData.depthAll ps ≤ n ∧ PyData.showableAll ps = true ∧ PyData.hasDictAll ps = false ∧ ∀ t ∈ PyData.shownAll ps, t.length ≤ B
  | [], _ => ⟨[], rfl, rfl, rfl, Nat.zero_le _, rfl, rfl, by simp [PyData.shownAll]⟩
  | x :: xs, h => by
    obtain ⟨p, e, g⟩ := f x (h x (by simp))
    obtain ⟨ps, e2, g2, g3, g4, g5, g6, g7⟩ := goods f xs fun y hy => h y (by simp [hy])
    refine ⟨p :: ps, by simp [toPs, e, e2], by simp [g2], by simp [PyData.canLayAll0, g.lay, g3], ?_, by simp [PyData.showableAll, g.shw, g5], by simp [PyData.hasDictAll, g.nod, g6], ?_⟩
    · show max p.depth (PyData.depthAll ps) ≤ n
      have := g.dep
      omega
    · intro t ht
      simp only [PyData.shownAll, List.mem_cons] at ht
      rcases ht with rfl | ht
      · exact g.len
      · exact g7 t ht
theorem join_len (B : Nat) : ∀ ts : List Str, (∀ t ∈ ts, t.length ≤ B) → (Str.join ", " ts).length ≤ ts.length * (B + 2)
  | [], _ => by
    show (Str.join ", " []).length ≤ 0 * (B + 2)
    rw [Nat.zero_mul]; decide
  | [x], h => by
    show x.length ≤ _
    have := h x (by simp)
    simp only [List.length_singleton]
    omega
  | x :: y :: r, h => by
    have ih := join_len B (y :: r) fun t ht => h t (by simp at ht ⊢; exact .inr ht)
    have hx := h x (by simp)
    have e2 : ((", " : String) : Str).length = 2 := rfl
    have e : (Str.join ", " (x :: y :: r)).length = x.length + 2 + (Str.join ", " (y :: r)).length := by
      show (x ++ ", " ++ Str.join ", " (y :: r)).length = _
      rw [strLen_append, strLen_append, e2]
    rw [e, List.length_cons]
    have : (r.length + 1 + 1) * (B + 2) = (r.length + 1) * (B + 2) + (B + 2) := by rw [Nat.add_mul (r.length + 1)]; omega
    rw [List.length_cons, this]
    rw [List.length_cons] at ih
    omega
theorem text_len (B : Nat) : ∀ (ts : List Str) (k : Nat) (acc : Str), (∀ t ∈ ts, t.length ≤ B) → (textFrom k acc ts).length ≤ acc.length + ts.length * (B + 2)
  | [], k, acc, _ => by show acc.length ≤ _; omega
  | t :: r, k, acc, h => by
    have ih := text_len B r (k + 1) (acc ++ (if k > 0 then ", " else "" : String) ++ t) fun x hx => h x (by simp [hx])
    have ht := h t (by simp)
    have e : (acc ++ (if k > 0 then ", " else "" : String) ++ t : Str).length ≤ acc.length + 2 + t.length := by
      rw [strLen_append, strLen_append]
      have : (((if k > 0 then ", " else "" : String) : Str)).length ≤ 2 := by split <;> decide
      omega
    show (textFrom (k + 1) (acc ++ (if k > 0 then ", " else "" : String) ++ t) r).length ≤ _
    rw [List.length_cons, Nat.add_mul]
    omega
theorem shown_len : ∀ ps : List PyData, (PyData.shownAll ps).length = ps.length
  | [] => rfl
  | p :: ps => by simp [PyData.shownAll, shown_len ps]
theorem nice_good : ∀ (bs : List Nat) (d : D), nice bs d = true → ∃ p, toP d = some p ∧ Good bs.length (bnd bs) p
  | bs, .non, _ => ⟨.none, rfl, rfl, Nat.zero_le _, rfl, rfl, by cases bs <;> simp only [bnd] <;> (have : PyData.none.shown.length = 4 := by decide) <;> omega⟩
  | bs, .bl b, _ => ⟨.bool b, rfl, rfl, Nat.zero_le _, rfl, rfl, by cases bs <;> simp only [bnd] <;> (have : (PyData.bool b).shown.length ≤ 5 := by cases b <;> decide) <;> omega⟩
  | bs, .int i, h => by
    have h : -100 ≤ i ∧ i ≤ 100 := by cases bs <;> simpa [nice] using h
    refine ⟨.int i, rfl, rfl, Nat.zero_le _, ?_, rfl, ?_⟩
    · have : i.natAbs ≤ 100 := by omega
      have h2 : i.natAbs.log2 ≤ (100 : Nat).log2 := by
        by_cases z : i.natAbs = 0
        · rw [z]; decide
        · exact (Nat.le_log2 (by decide)).mpr (Nat.le_trans ((Nat.le_log2 z).mp (Nat.le_refl _)) this)
      have h3 : (100 : Nat).log2 = 6 := by decide
      simp [PyData.showable]
      omega
    · have := int_len i h.1 h.2
      show (PyData.int i).shown.length ≤ _
      simp only [PyData.shown]
      cases bs <;> simp only [bnd] <;> omega
  | bs, .str z, h => by
    have h : z.length ≤ 1 ∧ ∀ c ∈ z.cps.toList, c < 128 := by
      cases bs <;> (simp only [nice, Bool.and_eq_true, decide_eq_true_eq, List.all_eq_true] at h; exact h)
    refine ⟨.str z, rfl, ?_, Nat.zero_le _, rfl, rfl, ?_⟩
    · simp only [PyData.canLay0, PyData.strOk]
      rw [← Array.all_toList, List.all_eq_true]
      intro c hc
      have := h.2 c hc
      exact decide_eq_true (by omega)
    · have := StrLaws.reprText_len z fun c hc => by
        have := h.2 c hc
        omega
      show (PyData.str z).shown.length ≤ _
      simp only [PyData.shown]
      cases bs <;> simp only [bnd] <;> omega
  | b :: bs, .tup xs, h => by
    simp only [nice, Bool.and_eq_true, decide_eq_true_eq, List.all_eq_true] at h
    obtain ⟨ps, e, g2, g3, g4, g5, g6, g7⟩ := goods (fun d hd => nice_good bs d hd) xs h.2
    refine ⟨.tuple ps, by simp [toP, e], by simpa [PyData.canLay0] using g3, ?_, by simpa [PyData.showable] using g5, by simpa [PyData.hasDict] using g6, ?_⟩
    · show PyData.depthAll ps + 1 ≤ bs.length + 1
      omega
    · simp only [PyData.shown, tupleText, bnd]
      have hl : (PyData.shownAll ps).length = xs.length := by rw [shown_len, g2]
      have h1 := join_len (bnd bs) _ g7
      rw [strLen_append, strLen_append]
      have e1 : ((("(" : String) : Str)).length = 1 := rfl
      have e3 : (((if (PyData.shownAll ps).length == 1 then ",)" else ")" : String) : Str)).length ≤ 2 := by split <;> decide
      have h2 : (PyData.shownAll ps).length * (bnd bs + 2) ≤ b * (bnd bs + 2) := Nat.mul_le_mul_right _ (by omega)
      omega
  | b :: bs, .lst xs, h => by
    simp only [nice, Bool.and_eq_true, decide_eq_true_eq, List.all_eq_true] at h
    obtain ⟨ps, e, g2, g3, g4, g5, g6, g7⟩ := goods (fun d hd => nice_good bs d hd) xs h.2
    refine ⟨.list ps, by simp [toP, e], by simpa [PyData.canLay0] using g3, ?_, by simpa [PyData.showable] using g5, by simpa [PyData.hasDict] using g6, ?_⟩
    · show PyData.depthAll ps + 1 ≤ bs.length + 1
      omega
    · simp only [PyData.shown, listText, bnd]
      have hl : (PyData.shownAll ps).length = xs.length := by rw [shown_len, g2]
      have h1 := text_len (bnd bs) _ 0 "[" g7
      rw [strLen_append]
      have e1 : ((("[" : String) : Str)).length = 1 := rfl
      have e3 : ((("]" : String) : Str)).length = 1 := rfl
      have h2 : (PyData.shownAll ps).length * (bnd bs + 2) ≤ b * (bnd bs + 2) := Nat.mul_le_mul_right _ (by omega)
      omega
  | [], .tup xs, h => by simp [nice] at h
  | [], .lst xs, h => by simp [nice] at h
  | bs, .frl xs, h => by cases bs <;> simp [nice] at h
  | bs, .dct ks xs, h => by cases bs <;> simp [nice] at h
  | bs, .ref n, h => by cases bs <;> simp [nice] at h
  | bs, .fn x, h => by cases bs <;> simp [nice] at h
  | bs, .ty n, h => by cases bs <;> simp [nice] at h
end Dd

set_option Elab.async false
set_option linter.all false
set_option maxRecDepth 100000
/-! the plain law, part D: the judges of postings. -/
namespace Dd
open PySem
def isNil : D → Bool
  | .tup [] => true
  | _ => false
theorem nice_shp {bs : List Nat} {d : D} (h : nice bs d = true) (hb : bs.length ≤ 60) : ∃ p, shp d = some p ∧ toP d = some p := by
  obtain ⟨p, e, g⟩ := nice_good bs d h
  refine ⟨p, ?_, e⟩
  have hd := g.dep
  have : SeqAt.shaped p = true := by simp [SeqAt.shaped, g.lay]; omega
  simp [shp, e, this]
theorem shp_nil : shp (.tup []) = some (.tuple []) := by simp [shp, toP, toPs, SeqAt.shaped, PyData.canLay0, PyData.canLayAll0, PyData.depth, PyData.depthAll]
theorem eqM_nil {bs : List Nat} {d : D} (st : Sto) (h : nice bs d = true) (hb : bs.length ≤ 60) : eqM d (.tup []) st = .ok (.bl (isNil d)) st := by
  obtain ⟨p, e1, e2⟩ := nice_shp h hb
  have e : eqM d (.tup []) = eqP d (.tup []) := by cases d <;> rfl
  rw [e]
  simp only [eqP, e1, shp_nil]
  show Out.ok (D.bl (PyData.eqv p (.tuple []))) st = _
  congr 2
  cases d with
  | tup xs =>
    cases xs with
    | nil => simp [toP, toPs] at e2; subst e2; rfl
    | cons x xs =>
      simp only [toP, toPs] at e2
      split at e2
      · rename_i ps e3
        split at e3
        · cases e3; cases e2; rfl
        · cases e3
      · cases e2
  | lst xs =>
    simp only [toP] at e2
    split at e2 <;> cases e2
    rfl
  | non => cases e2; rfl
  | bl b => cases e2; rfl
  | int i => cases e2; rfl
  | str z => cases e2; rfl
  | _ => cases bs <;> simp [nice] at h
def shownD (d : D) : Str := match toP d with
  | some p => p.shown
  | none => ""
theorem show_nice {bs : List Nat} {d : D} (st : Sto) (h : nice bs d = true) (hb : bs.length ≤ 60) (hz : bnd bs ≤ sizeLine) : showM [d] st = .ok (.str (shownD d)) st := by
  obtain ⟨p, e, g⟩ := nice_good bs d h
  have hd := g.dep
  have hl := g.len
  have c : p.showable = true ∧ p.hasDict = false ∧ p.depth ≤ 64 ∧ p.shown.length ≤ sizeLine := ⟨g.shw, g.nod, by omega, by omega⟩
  have e1 : showM [d] = match toP d with
    | some p => if p.showable = true ∧ p.hasDict = false ∧ p.depth ≤ 64 ∧ p.shown.length ≤ sizeLine then pure (.str p.shown) else M.bad
    | none => M.bad := by
    cases d with
    | dct ks xs => cases bs <;> simp [nice] at h
    | _ => rfl
  rw [e1, e]
  simp only [c, and_self, if_true, shownD, e]
  rfl
/-! ### the law's judge of places -/
theorem F_lplaces_run {bs : List Nat} (d : D) (most : Int) (st : Sto) (hs : sml bs) (h : nice bs d = true) : F__law_are_places [d, .int most] st = .ok (.bl (placesOk most d)) st := by
  have hi := isiM_run d "tuple" st (nice_ty h) (by simp)
  cases d with
  | tup xs =>
    obtain ⟨b, bs', rfl, hs', hl, hx⟩ := nice_tup hs h
    have e1 := lcL_map (tg := nameG 4) (fe := andE (callW F__law_is_count (consA (varE 4) (nilA))) (binE ltM (varE 4) (varE 1))) (env := [some (.d (.tup xs)), some (.d (.int most)), none, none, none]) (st := st) (fun d => .bl (withinD d 0 (most - 1))) xs
      fun x hx' => ⟨_, rfl, by
        have e := F_count_run x st (nice_ty (hx x hx'))
        cases hx2 : x <;> rw [hx2] at e <;> simp [e, countD, withinD]
        rename_i i
        by_cases c : 0 ≤ i <;> simp [c]
        omega⟩
    have ha := allM_map (fun x => withinD x 0 (most - 1)) xs st
    simp only [tyIs, tyD] at hi
    cases hw : xs.all (fun x => withinD x 0 (most - 1)) with
    | false =>
      rw [hw] at ha
      simp only [placesOk, hw, Bool.false_and]
      simp [F__law_are_places, b__law_are_places, hi, szl hl, e1, ha]
    | true =>
      rw [hw] at ha
      simp only [placesOk, hw, Bool.true_and]
      have hint : ∀ x ∈ xs, isInt x = true := fun x hx => within_int (List.all_eq_true.mp hw x hx)
      have e2 := lc_near [some (.d (.tup xs)), some (.d (.int most)), none, none, none] 2 3 (by simp) (by simp) (by decide) xs st hint
      have hz : (zipD xs xs.tail).length ≤ sizeLine := by rw [zipD_length]; have := szl hl; omega
      have hb := allM_map pairLt (zipD xs xs.tail) st
      rw [incr_zip] at hb
      simp [F__law_are_places, b__law_are_places, hi, szl hl, e1, ha, cut1, hz, e2, hb]
  | _ => first | (simp [tyIs, tyD] at hi; simp [F__law_are_places, b__law_are_places, hi, placesOk]) | (simp [nice] at h)
/-! ### lengths -/
def lensOk (d : D) : Bool := match d with
  | .tup xs => decide (xs.length ≤ 8) && xs.all fun x => isNonD x || withinD x 0 60
  | _ => false
theorem F_lengths_run {bs : List Nat} (d : D) (st : Sto) (hs : sml bs) (h : nice bs d = true) : F_are_lengths [d] st = .ok (.bl (lensOk d)) st := by
  have hi := isiM_run d "tuple" st (nice_ty h) (by simp)
  cases d with
  | tup xs =>
    obtain ⟨b, bs', rfl, hs', hl, hx⟩ := nice_tup hs h
    have e1 := lcL_map (tg := nameG 1) (fe := orE (binE isM (varE 1) (cstE .non)) (callW F_is_within (consA (varE 1) (consA (cstE (.int 0)) (consA (cstE (.int 60)) (nilA)))))) (env := [some (.d (.tup xs)), none]) (st := st) (fun d => .bl (isNonD d || withinD d 0 60)) xs
      fun x hx' => ⟨_, rfl, by
        have e := F_is_within_run x 0 60 st (nice_ty (hx x hx'))
        cases hn : isNonD x <;> simp [e, hn]⟩
    have ha := allM_map (fun x => isNonD x || withinD x 0 60) xs st
    simp only [tyIs, tyD] at hi
    by_cases c : xs.length ≤ 8
    · have c' : ¬ ((8 : Int) < (xs.length : Int)) := by omega
      simp only [lensOk, c, decide_true, Bool.true_and]
      generalize xs.all (fun x => isNonD x || withinD x 0 60) = bb at ha ⊢
      simp [F_are_lengths, b_are_lengths, hi, szl hl, e1, ha, c']
    · have c' : (8 : Int) < (xs.length : Int) := by omega
      simp [F_are_lengths, b_are_lengths, hi, lensOk, c, c']
  | _ => first | (simp [tyIs, tyD] at hi; simp [F_are_lengths, b_are_lengths, hi, lensOk]) | (simp [nice] at h)
end Dd

set_option Elab.async false
set_option linter.all false
set_option maxRecDepth 100000
/-! the plain law, part E: the lists of one letter. -/
namespace Dd
open PySem
open L2 (atI ixN)
def is2 : D → Bool
  | .tup [_, _] => true
  | _ => false
theorem is2_of {d : D} (h : is2 d = true) : ∃ a b, d = .tup [a, b] := by
  unfold is2 at h
  split at h
  · exact ⟨_, _, rfl⟩
  · cases h
theorem is2_tup (xs : List D) : is2 (.tup xs) = decide (xs.length = 2) := by
  match xs with
  | [] => rfl
  | [_] => rfl
  | [_, _] => rfl
  | _ :: _ :: _ :: _ => simp [is2]
theorem at_in {xs : List D} {i : Int} (h0 : 0 ≤ i) (h1 : i < xs.length) : ∃ d, atI xs i = some d ∧ d ∈ xs := by
  have hl : i.toNat < xs.length := by omega
  refine ⟨xs[i.toNat], ?_, List.getElem_mem hl⟩
  simp [atI, ixN, h0, h1, hl]
def lenOne (d : D) : Bool := isNonD d || withinD d 0 60
theorem lenOne_of {d : D} (h : lenOne d = true) : d = .non ∨ ∃ m, d = .int m ∧ 0 ≤ m ∧ m ≤ 60 := by
  cases d <;> simp [lenOne, isNonD, withinD] at h
  · exact .inl rfl
  · exact .inr ⟨_, rfl, h.1, h.2⟩
def rowOk (ls : List D) : D → Bool
  | .tup [.int i, pl] => decide (0 ≤ i) && decide (i < ls.length) && (match atI ls i with
    | some (.int m) => !isNil pl && placesOk m pl
    | _ => false)
  | _ => false
def docD : D → D
  | .tup [a, _] => a
  | _ => .non
def pairDoc : D → Bool
  | .tup [a, b] => ltD (docD a) (docD b)
  | _ => false
theorem incr_doc : ∀ xs : List D, (zipD xs xs.tail).all pairDoc = incr (xs.map docD)
  | [] => rfl
  | [x] => rfl
  | x :: y :: r => by
    have ih := incr_doc (y :: r)
    simp only [List.tail_cons] at ih ⊢
    simp [zipD, incr, ih, pairDoc]
def listOk (ls : List D) (d : D) : Bool := match d with
  | .tup rows => rows.all is2 && (rows.all (rowOk ls) && incr (rows.map docD))
  | _ => false
@[simp] theorem tupG2 (i j : Nat) (a b : D) (env : EnvD) : tupG 2 (consG (nameG i) (consG (nameG j) nilG)) (.tup [a, b]) env = some ((env.set i (some (.d a))).set j (some (.d b))) := rfl
theorem lc_is2 {bs : List Nat} (env : EnvD) (n : Nat) (hn : n < env.length) (rows : List D) (st : Sto) (h : ∀ x ∈ rows, nice bs x = true) :
    lcL (nameG n) yesT (andE (biE isiM (consA (varE n) (consA (cstE (.ty "tuple")) (nilA)))) (binE eqM (biE lenM (consA (varE n) (nilA))) (cstE (.int 2)))) env rows st = .ok (rows.map fun d => .bl (is2 d)) st := by
  refine lcL_map _ _ fun x hx => ⟨_, rfl, ?_⟩
  have hi := isiM_run x "tuple" st (nice_ty (h x hx)) (by simp)
  cases x with
  | tup xs =>
    simp only [tyIs, tyD] at hi
    simp [hn, hi, is2_tup]
    by_cases c : xs.length = 2 <;> simp [c]
    omega
  | _ => first | (simp [tyIs, tyD] at hi; simp [hn, hi, is2]) | (have := h _ hx; cases bs <;> simp [nice] at this)
theorem forL_cons (tg : D → EnvD → Option EnvD) (b : EnvD → M Fl) (d : D) (ds : List D) (env e1 : EnvD) (st : Sto) (h : tg d env = some e1) : forL tg b (d :: ds) env st = (b e1 >>= fun fl => match fl with
      | .nx e => forL tg b ds e
      | .ct e => forL tg b ds e
      | .bk e => (pure (.nx e) : M Fl)
      | .rt v => pure (.rt v)) st := by
  show (match tg d env with
    | none => M.bad
    | some e1 => _) st = _
  rw [h] <;> rfl
@[simp] theorem forL_nil (tg : D → EnvD → Option EnvD) (b : EnvD → M Fl) (env : EnvD) (st : Sto) : forL tg b [] env st = .ok (.nx env) st := rfl
@[simp] theorem ixM_tup (xs : List D) (i : Int) (st : Sto) : ixM (.tup xs) (.int i) st = match atI xs i with
  | some d => .ok d st
  | none => .bad := by
  show (match atI xs i with
    | some d => pure d
    | none => M.bad : M D) st = _
  cases atI xs i <;> rfl
abbrev bodyL : EnvD → M Fl := (seqS (ifS (orT (notT (tstE (callW F_is_within (consA (varE 2) (consA (cstE (.int 0)) (consA (binE subM (biE lenM (consA (varE 0) (nilA))) (cstE (.int 1))) (nilA))))))) (tstE (binE isM (binE ixM (varE 0) (varE 2)) (cstE .non)))) (retS (cstE (.bl false))) (nxtS))
    (ifS (orT (tstE (binE eqM (varE 3) (tupE (nilA)))) (notT (tstE (callW F_are_places (consA (varE 3) (consA (binE ixM (varE 0) (varE 2)) (nilA))))))) (retS (cstE (.bl false))) (nxtS)))
theorem body_row {bs : List Nat} (hs : sml bs) (hb : bs.length ≤ 60) (ls : List D) (hls : ∀ x ∈ ls, lenOne x = true) (V : Option EV) (a b : D) (st : Sto) (ha : nice bs a = true) (hb2 : nice bs b = true) :
    bodyL [some (.d (.tup ls)), V, some (.d a), some (.d b), none, none, none] st = if rowOk ls (.tup [a, b]) = true then .ok (.nx [some (.d (.tup ls)), V, some (.d a), some (.d b), none, none, none]) st else .ok (.rt (.bl false)) st := by
  have hw := F_is_within_run a 0 ((ls.length : Int) - 1) st (nice_ty ha)
  cases hc : withinD a 0 ((ls.length : Int) - 1) with
  | false =>
    rw [hc] at hw
    have : rowOk ls (.tup [a, b]) = false := by
      cases a <;> simp [rowOk]
      intro h1 h2
      simp [withinD] at hc
      omega
    rw [this]
    simp [hw]
  | true =>
    rw [hc] at hw
    obtain ⟨i, rfl⟩ := isInt_of (within_int hc)
    simp [withinD] at hc
    obtain ⟨d, e1, e2⟩ := at_in (xs := ls) hc.1 (by omega)
    have en := eqM_nil st hb2 hb
    rcases lenOne_of (hls d e2) with rfl | ⟨m, rfl, m0, m1⟩
    · have : rowOk ls (.tup [.int i, b]) = false := by simp [rowOk, e1]
      rw [this]
      simp [hw, e1, isNonD]
    · have ep := F_are_places_run b m st hs hb2
      have e3 : rowOk ls (.tup [.int i, b]) = (!isNil b && placesOk m b) := by
        have : i < (ls.length : Int) := by omega
        simp [rowOk, e1, hc.1, this]
      rw [e3]
      cases hn : isNil b <;> cases hp : placesOk m b <;> rw [hn] at en <;> rw [hp] at ep <;> simp [hw, e1, isNonD, en, ep]
theorem loop_rows {bs : List Nat} (hs : sml bs) (hb : bs.length ≤ 60) (ls : List D) (hls : ∀ x ∈ ls, lenOne x = true) (V : Option EV) (st : Sto) : ∀ (rows : List D), (∀ x ∈ rows, is2 x = true) → (∀ x ∈ rows, nice bs x = true) → ∀ a b : Option EV, ∃ a' b',
    forL (tupG 2 (consG (nameG 2) (consG (nameG 3) nilG))) bodyL rows [some (.d (.tup ls)), V, a, b, none, none, none] st = if rows.all (rowOk ls) = true then .ok (.nx [some (.d (.tup ls)), V, a', b', none, none, none]) st else .ok (.rt (.bl false)) st
  | [], _, _, a, b => ⟨a, b, by simp⟩
  | row :: rows, h2, hn, a, b => by
    obtain ⟨x, y, rfl⟩ := is2_of (h2 row (by simp))
    obtain ⟨c, bs', rfl, hs', _, hx⟩ := nice_tup hs (hn (.tup [x, y]) (by simp))
    have hb' : bs'.length ≤ 60 := by simp at hb; omega
    obtain ⟨a', b', ih⟩ := loop_rows hs hb ls hls V st rows (fun z hz => h2 z (by simp [hz])) (fun z hz => hn z (by simp [hz])) (some (.d x)) (some (.d y))
    refine ⟨a', b', ?_⟩
    rw [forL_cons _ _ _ _ _ _ _ rfl]
    show (bodyL [some (.d (.tup ls)), V, some (.d x), some (.d y), none, none, none] >>= _) st = _
    rw [bind_run, body_row hs' hb' ls hls V x y st (hx x (by simp)) (hx y (by simp))]
    cases hr : rowOk ls (.tup [x, y]) with
    | false => simp [hr]
    | true => simp only [if_true, List.all_cons, hr, Bool.true_and]; exact ih
end Dd

set_option Elab.async false
set_option linter.all false
set_option maxRecDepth 100000
/-! the plain law, part F: the lists of one letter, judged by both. -/
namespace Dd
open PySem
open L2 (atI ixN)
theorem rowOk_doc {ls : List D} {d : D} (h : rowOk ls d = true) : ∃ i pl, d = .tup [.int i, pl] ∧ 0 ≤ i ∧ i < ls.length := by
  unfold rowOk at h
  split at h
  · simp at h
    exact ⟨_, _, rfl, h.1.1, h.1.2⟩
  · cases h
theorem lc_docs (env : EnvD) (n f : Nat) (hn : n < env.length) (hf : f < env.length) (hnf : n ≠ f) (ls rows : List D) (st : Sto) (h : ∀ x ∈ rows, rowOk ls x = true) :
    lcL (tupG 2 (consG (nameG n) (consG (nameG f) nilG))) yesT (binE ltM (binE ixM (varE n) (cstE (.int 0))) (binE ixM (varE f) (cstE (.int 0)))) env (zipD rows rows.tail) st = .ok ((zipD rows rows.tail).map fun d => .bl (pairDoc d)) st := by
  refine lcL_map _ _ fun d hd => ?_
  obtain ⟨a, b, h1, h2, rfl⟩ := zip_mem hd
  obtain ⟨i, pa, rfl, _⟩ := rowOk_doc (h a h1)
  obtain ⟨j, pb, rfl, _⟩ := rowOk_doc (h b (List.mem_of_mem_tail h2))
  refine ⟨_, rfl, ?_⟩
  simp [hn, hf, hnf, List.getElem?_set, Ne.symm hnf, atI, ixN, pairDoc, docD, ltD]
theorem F_letter_list_run {bs : List Nat} (hs : sml bs) (hb : bs.length ≤ 60) (ls : List D) (hls : ∀ x ∈ ls, lenOne x = true) (d : D) (st : Sto) (h : nice bs d = true) : F_is_letter_list [.tup ls, d] st = .ok (.bl (listOk ls d)) st := by
  have hi := isiM_run d "tuple" st (nice_ty h) (by simp)
  cases d with
  | tup rows =>
    obtain ⟨b, bs', rfl, hs', hl, hx⟩ := nice_tup hs h
    have hb' : bs'.length ≤ 60 := by simp at hb; omega
    have e1 := lc_is2 [some (.d (.tup ls)), some (.d (.tup rows)), none, none, none, none, none] 6 (by simp) rows st hx
    have ha := allM_map is2 rows st
    simp only [tyIs, tyD] at hi
    cases hw : rows.all is2 with
    | false =>
      rw [hw] at ha
      simp only [listOk, hw, Bool.false_and]
      simp [F_is_letter_list, b_is_letter_list, hi, szl hl, e1, ha]
    | true =>
      rw [hw] at ha
      simp only [listOk, hw, Bool.true_and]
      obtain ⟨a', b', e2⟩ := loop_rows hs' hb' ls hls (some (.d (.tup rows))) st rows (fun x hx => List.all_eq_true.mp hw x hx) hx none none
      cases hr : rows.all (rowOk ls) with
      | false =>
        rw [hr] at e2
        simp only [Bool.false_and]
        simp [F_is_letter_list, b_is_letter_list, hi, szl hl, e1, ha]
        rw [e2]
        simp
      | true =>
        rw [hr] at e2
        simp only [Bool.true_and]
        have hz : (zipD rows rows.tail).length ≤ sizeLine := by rw [zipD_length]; have := szl hl; omega
        have e3 := lc_docs [some (.d (.tup ls)), some (.d (.tup rows)), a', b', none, none, none] 4 5 (by simp) (by simp) (by decide) ls rows st fun x hx => List.all_eq_true.mp hr x hx
        have hb := allM_map pairDoc (zipD rows rows.tail) st
        rw [incr_doc] at hb
        simp [F_is_letter_list, b_is_letter_list, hi, szl hl, e1, ha]
        rw [e2]
        simp [cut1, szl hl, hz, e3, hb]
  | _ => first | (simp [tyIs, tyD] at hi; simp [F_is_letter_list, b_is_letter_list, hi, listOk]) | (cases bs <;> simp [nice] at h)
/-! ### the law's -/
def listLaw (ls : List D) : Int → List D → Bool
  | _, [] => true
  | last, .tup [.int i, pl] :: r => rowOk ls (.tup [.int i, pl]) && (decide (last < i) && listLaw ls i r)
  | _, _ :: _ => false
abbrev bodyW : EnvD → M Fl := (seqS (ifS (orT (notT (tstE (callW F__law_is_count (consA (varE 5) (nilA))))) (orT (tstE (binE geM (varE 5) (biE lenM (consA (varE 2) (nilA))))) (orT (tstE (binE leM (varE 5) (varE 4))) (tstE (binE isM (binE ixM (varE 2) (varE 5)) (cstE .non)))))) (retS (cstE (.bl false))) (nxtS))
    (seqS (ifS (orT (notT (tstE (callW F__law_are_places (consA (varE 6) (consA (binE ixM (varE 2) (varE 5)) (nilA)))))) (tstE (binE eqM (varE 6) (tupE (nilA))))) (retS (cstE (.bl false))) (nxtS))
    (setS 4 (varE 5))))
theorem body_law {bs : List Nat} (hs : sml bs) (hb : bs.length ≤ 60) (ls : List D) (hls : ∀ x ∈ ls, lenOne x = true) (E0 E1 V : Option EV) (last : Int) (a b : D) (st : Sto) (ha : nice bs a = true) (hb2 : nice bs b = true) :
    (∃ i, a = .int i ∧ rowOk ls (.tup [a, b]) = true ∧ last < i ∧ bodyW [E0, E1, some (.d (.tup ls)), V, some (.d (.int last)), some (.d a), some (.d b), none] st = .ok (.nx [E0, E1, some (.d (.tup ls)), V, some (.d (.int i)), some (.d a), some (.d b), none]) st) ∨
    ((∀ i, a = .int i → rowOk ls (.tup [a, b]) = true → ¬ last < i) ∧ bodyW [E0, E1, some (.d (.tup ls)), V, some (.d (.int last)), some (.d a), some (.d b), none] st = .ok (.rt (.bl false)) st) := by
  have hw := F_count_run a st (nice_ty ha)
  cases hc : countD a with
  | false =>
    rw [hc] at hw
    refine .inr ⟨fun i e h => ?_, by simp [hw]⟩
    subst e
    simp [rowOk] at h
    simp [countD] at hc
    omega
  | true =>
    rw [hc] at hw
    obtain ⟨i, rfl⟩ : ∃ i, a = .int i := by cases a <;> simp [countD] at hc; exact ⟨_, rfl⟩
    have hc : 0 ≤ i := by simpa [countD] using hc
    by_cases h1 : i < (ls.length : Int)
    · have h1' : ¬ ((ls.length : Int) ≤ i) := by omega
      by_cases h2 : last < i
      · have h2' : ¬ i ≤ last := by omega
        obtain ⟨d, e1, e2⟩ := at_in (xs := ls) hc h1
        have en := eqM_nil st hb2 hb
        rcases lenOne_of (hls d e2) with rfl | ⟨m, rfl, m0, m1⟩
        · refine .inr ⟨fun j e h => ?_, by simp [hw, h1', h2', e1, isNonD]⟩
          simp [rowOk, e1] at h
        · have ep := F_lplaces_run b m st hs hb2
          have e3 : rowOk ls (.tup [.int i, b]) = (!isNil b && placesOk m b) := by simp [rowOk, e1, hc, h1]
          cases hn : isNil b <;> cases hp : placesOk m b <;> rw [hn] at en <;> rw [hp] at ep <;> rw [hn, hp] at e3
          · exact .inr ⟨fun j e h => (by rw [e3] at h; cases h), by simp [hw, h1', h2', e1, isNonD, ep]⟩
          · exact .inl ⟨i, rfl, e3, h2, by simp [hw, h1', h2', e1, isNonD, ep, en]⟩
          · exact .inr ⟨fun j e h => (by rw [e3] at h; cases h), by simp [hw, h1', h2', e1, isNonD, ep]⟩
          · exact .inr ⟨fun j e h => (by rw [e3] at h; cases h), by simp [hw, h1', h2', e1, isNonD, ep, en]⟩
      · have h2' : i ≤ last := by omega
        exact .inr ⟨fun j e _ => by cases e; exact h2, by simp [hw, h1', h2']⟩
    · have h1' : (ls.length : Int) ≤ i := by omega
      refine .inr ⟨fun j e h => ?_, by simp [hw, h1']⟩
      simp [rowOk, h1] at h
theorem loop_law {bs : List Nat} (hs : sml bs) (hb : bs.length ≤ 60) (ls : List D) (hls : ∀ x ∈ ls, lenOne x = true) (E0 E1 V : Option EV) (st : Sto) : ∀ (rows : List D), (∀ x ∈ rows, is2 x = true) → (∀ x ∈ rows, nice bs x = true) → ∀ (last : Int) (a b : Option EV), ∃ l' a' b',
    forL (tupG 2 (consG (nameG 5) (consG (nameG 6) nilG))) bodyW rows [E0, E1, some (.d (.tup ls)), V, some (.d (.int last)), a, b, none] st = if listLaw ls last rows = true then .ok (.nx [E0, E1, some (.d (.tup ls)), V, l', a', b', none]) st else .ok (.rt (.bl false)) st
  | [], _, _, last, a, b => ⟨some (.d (.int last)), a, b, by simp [listLaw]⟩
  | row :: rows, h2, hn, last, a, b => by
    obtain ⟨x, y, rfl⟩ := is2_of (h2 row (by simp))
    obtain ⟨c, bs', rfl, hs', _, hx⟩ := nice_tup hs (hn (.tup [x, y]) (by simp))
    have hb' : bs'.length ≤ 60 := by simp at hb; omega
    rcases body_law hs' hb' ls hls E0 E1 V last x y st (hx x (by simp)) (hx y (by simp)) with ⟨i, rfl, h3, h4, e⟩ | ⟨h3, e⟩
    · obtain ⟨l', a', b', ih⟩ := loop_law hs hb ls hls E0 E1 V st rows (fun z hz => h2 z (by simp [hz])) (fun z hz => hn z (by simp [hz])) i (some (.d (.int i))) (some (.d y))
      refine ⟨l', a', b', ?_⟩
      rw [forL_cons _ _ _ _ _ _ _ rfl]
      show (bodyW [E0, E1, some (.d (.tup ls)), V, some (.d (.int last)), some (.d (.int i)), some (.d y), none] >>= _) st = _
      rw [bind_run, e]
      simp only [listLaw, h3, h4, decide_true, Bool.true_and]
      exact ih
    · refine ⟨none, none, none, ?_⟩
      rw [forL_cons _ _ _ _ _ _ _ rfl]
      show (bodyW [E0, E1, some (.d (.tup ls)), V, some (.d (.int last)), some (.d x), some (.d y), none] >>= _) st = _
      rw [bind_run, e]
      have : listLaw ls last (.tup [x, y] :: rows) = false := by
        cases x with
        | int i =>
          simp only [listLaw]
          cases hr : rowOk ls (.tup [.int i, y]) with
          | false => rfl
          | true =>
            have := h3 i rfl hr
            simp [this]
        | _ => rfl
      rw [this]
      simp
def lawList (ls : List D) (d : D) : Bool := match d with
  | .tup rows => rows.all is2 && listLaw ls (-1) rows
  | _ => false
theorem F_law_list_run {bs : List Nat} (hs : sml bs) (hb : bs.length ≤ 60) (e0 e1 : D) (ls : List D) (hls : ∀ x ∈ ls, lenOne x = true) (d : D) (st : Sto) (h : nice bs d = true) : F__law_is_list [e0, e1, .tup ls, d] st = .ok (.bl (lawList ls d)) st := by
  have hi := isiM_run d "tuple" st (nice_ty h) (by simp)
  cases d with
  | tup rows =>
    obtain ⟨b, bs', rfl, hs', hl, hx⟩ := nice_tup hs h
    have hb' : bs'.length ≤ 60 := by simp at hb; omega
    have l1 := lc_is2 [some (.d e0), some (.d e1), some (.d (.tup ls)), some (.d (.tup rows)), none, none, none, none] 7 (by simp) rows st hx
    have ha := allM_map is2 rows st
    simp only [tyIs, tyD] at hi
    cases hw : rows.all is2 with
    | false =>
      rw [hw] at ha
      simp only [lawList, hw, Bool.false_and]
      simp [F__law_is_list, b__law_is_list, hi, szl hl, l1, ha]
    | true =>
      rw [hw] at ha
      simp only [lawList, hw, Bool.true_and]
      obtain ⟨l', a', b', e2⟩ := loop_law hs' hb' ls hls (some (.d e0)) (some (.d e1)) (some (.d (.tup rows))) st rows (fun x hx => List.all_eq_true.mp hw x hx) hx (-1) none none
      simp [F__law_is_list, b__law_is_list, hi, szl hl, l1, ha, negM]
      rw [e2]
      cases listLaw ls (-1) rows <;> simp
  | _ => first | (simp [tyIs, tyD] at hi; simp [F__law_is_list, b__law_is_list, hi, lawList]) | (cases bs <;> simp [nice] at h)
theorem listLaw_eq (ls : List D) : ∀ (rows : List D), (∀ x ∈ rows, is2 x = true) → ∀ last : Int, listLaw ls last rows = (rows.all (rowOk ls) && incr (.int last :: rows.map docD))
  | [], _, _ => rfl
  | row :: rows, h, last => by
    obtain ⟨x, y, rfl⟩ := is2_of (h row (by simp))
    cases hr : rowOk ls (.tup [x, y]) with
    | false =>
      simp only [List.all_cons, hr, Bool.false_and]
      cases x <;> simp [listLaw, hr]
    | true =>
      obtain ⟨i, pl, e, _⟩ := rowOk_doc hr
      cases e
      have ih := listLaw_eq ls rows (fun z hz => h z (by simp [hz])) i
      simp only [listLaw, hr, Bool.true_and, ih, List.all_cons, List.map_cons, docD, incr, ltD]
      cases rows.all (rowOk ls) <;> simp
theorem lawList_eq (ls : List D) (d : D) : lawList ls d = listOk ls d := by
  cases d with
  | tup rows =>
    simp only [lawList, listOk]
    cases hw : rows.all is2 with
    | false => rfl
    | true =>
      rw [listLaw_eq ls rows (fun x hx => List.all_eq_true.mp hw x hx)]
      cases hr : rows.all (rowOk ls) with
      | false => rfl
      | true =>
        cases rows with
        | nil => rfl
        | cons row rows =>
          have := List.all_eq_true.mp hr row (by simp)
          obtain ⟨i, pl, rfl, h0, _⟩ := rowOk_doc this
          have : (-1 : Int) < i := by omega
          simp [incr, docD, ltD, this]
  | _ => rfl
end Dd

set_option Elab.async false
set_option linter.all false
set_option maxRecDepth 100000
/-! the plain law, part G: the places of one document. -/
namespace Dd
open PySem
open L2 (atI ixN)
/-- a row as it is judged right -/
structure RowIs (r : D) (i : Int) (ps : List D) : Prop where
  eq : r = .tup [.int i, .tup ps]
  len : ps.length ≤ 200
  int : ∀ x ∈ ps, isInt x = true
def rowPs (doc : Int) : D → List D
  | .tup [.int i, .tup ps] => if i = doc then ps else []
  | _ => []
def coll (doc : Int) : List D → List D
  | [] => []
  | r :: rows => rowPs doc r ++ coll doc rows
def collL (doc : Int) : List D → List D
  | [] => []
  | .tup rows :: ls => coll doc rows ++ collL doc ls
  | _ :: ls => collL doc ls
theorem coll_len (doc : Int) : ∀ rows : List D, (∀ r ∈ rows, ∃ i ps, RowIs r i ps) → (coll doc rows).length ≤ rows.length * 200
  | [], _ => by simp [coll]
  | r :: rows, h => by
    have ih := coll_len doc rows fun x hx => h x (by simp [hx])
    obtain ⟨i, ps, e, hl, _⟩ := h r (by simp)
    subst e
    have : (rowPs doc (.tup [.int i, .tup ps])).length ≤ 200 := by
      simp only [rowPs]
      split
      · exact hl
      · simp
    simp only [coll, List.length_append, List.length_cons]
    omega
theorem coll_int (doc : Int) : ∀ rows : List D, (∀ r ∈ rows, ∃ i ps, RowIs r i ps) → ∀ x ∈ coll doc rows, isInt x = true
  | [], _, x, hx => by simp [coll] at hx
  | r :: rows, h, x, hx => by
    obtain ⟨i, ps, e, hl, hi⟩ := h r (by simp)
    subst e
    simp only [coll, List.mem_append] at hx
    rcases hx with hx | hx
    · simp only [rowPs] at hx
      split at hx
      · exact hi x hx
      · cases hx
    · exact coll_int doc rows (fun x hx => h x (by simp [hx])) x hx
abbrev bodyP : EnvD → M Fl := ifS (tstE (binE eqM (varE 4) (varE 1))) (growS manyD 2 (varE 5)) (nxtS)
theorem inner_p (L : Option EV) (doc : Int) (x : Option EV) (st : Sto) : ∀ (rows : List D), (∀ r ∈ rows, ∃ i ps, RowIs r i ps) → ∀ (acc : List D) (a b : Option EV), acc.length + rows.length * 200 ≤ sizeLine → ∃ a' b',
    forL (tupG 2 (consG (nameG 4) (consG (nameG 5) nilG))) bodyP rows [L, some (.d (.int doc)), some (.own acc), x, a, b] st = .ok (.nx [L, some (.d (.int doc)), some (.own (acc ++ coll doc rows)), x, a', b']) st
  | [], _, acc, a, b, _ => ⟨a, b, by simp [coll]⟩
  | r :: rows, h, acc, a, b, hz => by
    obtain ⟨i, ps, e, hl, hi⟩ := h r (by simp)
    subst e
    simp only [List.length_cons] at hz
    have hr : ∀ r ∈ rows, ∃ i ps, RowIs r i ps := fun z hz => h z (by simp [hz])
    rw [forL_cons _ _ _ _ _ _ _ rfl]
    by_cases c : i = doc
    · obtain ⟨a', b', ih⟩ := inner_p L doc x st rows hr (acc ++ ps) (some (.d (.int i))) (some (.d (.tup ps))) (by rw [List.length_append]; omega)
      refine ⟨a', b', ?_⟩
      have e1 : bodyP [L, some (.d (.int doc)), some (.own acc), x, some (.d (.int i)), some (.d (.tup ps))] st = .ok (.nx [L, some (.d (.int doc)), some (.own (acc ++ ps)), x, some (.d (.int i)), some (.d (.tup ps))]) st := by
        have : acc.length + ps.length ≤ sizeLine := by omega
        simp [c, growS, manyD, this]
      show (bodyP [L, some (.d (.int doc)), some (.own acc), x, some (.d (.int i)), some (.d (.tup ps))] >>= _) st = _
      rw [bind_run, e1]
      simp only [coll, rowPs, c, if_true]
      rw [List.append_assoc] at ih
      rw [c] at ih
      exact ih
    · obtain ⟨a', b', ih⟩ := inner_p L doc x st rows hr acc (some (.d (.int i))) (some (.d (.tup ps))) (by omega)
      refine ⟨a', b', ?_⟩
      have e1 : bodyP [L, some (.d (.int doc)), some (.own acc), x, some (.d (.int i)), some (.d (.tup ps))] st = .ok (.nx [L, some (.d (.int doc)), some (.own acc), x, some (.d (.int i)), some (.d (.tup ps))]) st := by
        simp [c]
      show (bodyP [L, some (.d (.int doc)), some (.own acc), x, some (.d (.int i)), some (.d (.tup ps))] >>= _) st = _
      rw [bind_run, e1]
      simp only [coll, rowPs, c, if_false, List.nil_append]
      exact ih
/-- the lists as they are judged right -/
def ListsOk (lists : List D) : Prop := ∀ l ∈ lists, ∃ rows, l = .tup rows ∧ rows.length ≤ 200 ∧ ∀ r ∈ rows, ∃ i ps, RowIs r i ps
theorem collL_int (doc : Int) : ∀ lists : List D, ListsOk lists → ∀ x ∈ collL doc lists, isInt x = true
  | [], _, x, hx => by simp [collL] at hx
  | l :: ls, h, x, hx => by
    obtain ⟨rows, e, hl, hr⟩ := h l (by simp)
    subst e
    simp only [collL, List.mem_append] at hx
    rcases hx with hx | hx
    · exact coll_int doc rows hr x hx
    · exact collL_int doc ls (fun z hz => h z (by simp [hz])) x hx
theorem outer_p (L : Option EV) (doc : Int) (st : Sto) : ∀ (lists : List D), ListsOk lists → ∀ (acc : List D) (x a b : Option EV), acc.length + lists.length * 40000 ≤ sizeLine → ∃ x' a' b',
    forL (nameG 3) (forS (anyI (varE 3)) (tupG 2 (consG (nameG 4) (consG (nameG 5) nilG))) bodyP) lists [L, some (.d (.int doc)), some (.own acc), x, a, b] st = .ok (.nx [L, some (.d (.int doc)), some (.own (acc ++ collL doc lists)), x', a', b']) st
  | [], _, acc, x, a, b, _ => ⟨x, a, b, by simp [collL]⟩
  | l :: ls, h, acc, x, a, b, hz => by
    obtain ⟨rows, e, hl, hr⟩ := h l (by simp)
    subst e
    simp only [List.length_cons] at hz
    have hc := coll_len doc rows hr
    obtain ⟨a1, b1, e1⟩ := inner_p L doc (some (.d (.tup rows))) st rows hr acc a b (by omega)
    obtain ⟨x', a', b', ih⟩ := outer_p L doc st ls (fun z hz => h z (by simp [hz])) (acc ++ coll doc rows) (some (.d (.tup rows))) a1 b1 (by rw [List.length_append]; omega)
    refine ⟨x', a', b', ?_⟩
    rw [forL_cons _ _ _ _ _ _ _ rfl]
    have e2 : forS (anyI (varE 3)) (tupG 2 (consG (nameG 4) (consG (nameG 5) nilG))) bodyP [L, some (.d (.int doc)), some (.own acc), some (.d (.tup rows)), a, b] st = .ok (.nx [L, some (.d (.int doc)), some (.own (acc ++ coll doc rows)), some (.d (.tup rows)), a1, b1]) st := by
      simp only [forS_run, anyI_run, bind_run, varE_run, List.getElem?_cons_succ, List.getElem?_cons_zero, pure_run, itM_tup]
      exact e1
    show (forS (anyI (varE 3)) (tupG 2 (consG (nameG 4) (consG (nameG 5) nilG))) bodyP [L, some (.d (.int doc)), some (.own acc), some (.d (.tup rows)), a, b] >>= _) st = _
    rw [bind_run, e2]
    simp only [collL]
    rw [← List.append_assoc]
    exact ih
def toI : D → Int
  | .int i => i
  | _ => 0
theorem intsD_all : ∀ xs : List D, (∀ x ∈ xs, isInt x = true) → intsD xs = some (xs.map toI)
  | [], _ => rfl
  | x :: xs, h => by
    obtain ⟨i, rfl⟩ := isInt_of (h x (by simp))
    simp [intsD, intsD_all xs fun z hz => h z (by simp [hz]), toI]
def nsL (doc : Int) (lists : List D) : List Int := (collL doc lists).map toI
theorem F_places_at_run (lists : List D) (doc : Int) (st : Sto) (h : ListsOk lists) (hl : lists.length ≤ 200) : F_places_at [.tup lists, .int doc] st = .ok (.lst ((sortI (nsL doc lists)).map D.int)) st := by
  obtain ⟨x, a, b, e⟩ := outer_p (some (.d (.tup lists))) doc st lists h [] none none none (by
    have : sizeLine = 16777216 := by decide
    simp; omega)
  have hi := intsD_all _ (collL_int doc lists h)
  simp [F_places_at, b_places_at]
  rw [e]
  simp [frz, sortedM, hi, nsL]
end Dd

set_option Elab.async false
set_option linter.all false
set_option maxRecDepth 100000
/-! the plain law, part H: the lengths against the places. -/
namespace Dd
open PySem
open L2 (atI ixN)
def rngI (m : Int) : List Int := (List.range m.toNat).map fun (i : Nat) => (i : Int)
theorem rngD_int (m : Int) : rngD 0 m.toNat = (rngI m).map D.int := by simp [rngD, rngI]
theorem toPs_ints : ∀ xs : List Int, toPs (xs.map D.int) = some (xs.map PyData.int)
  | [] => rfl
  | x :: xs => by simp [toPs, toP, toPs_ints xs]
theorem lay_ints : ∀ xs : List Int, PyData.canLayAll0 (xs.map PyData.int) = true
  | [] => rfl
  | x :: xs => by simp [PyData.canLayAll0, PyData.canLay0, lay_ints xs]
theorem dep_ints : ∀ xs : List Int, PyData.depthAll (xs.map PyData.int) = 0
  | [] => rfl
  | x :: xs => by simp [PyData.depthAll, PyData.depth, dep_ints xs]
theorem shp_ints (xs : List Int) : shp (.lst (xs.map D.int)) = some (.list (xs.map PyData.int)) := by
  simp [shp, toP, toPs_ints, SeqAt.shaped, PyData.canLay0, lay_ints, PyData.depth, dep_ints]
theorem eqv_ints : ∀ xs ys : List Int, PyData.eqvAll (xs.map PyData.int) (ys.map PyData.int) = decide (xs = ys)
  | [], [] => by decide
  | [], _ :: _ => by simp [PyData.eqvAll]
  | _ :: _, [] => by simp [PyData.eqvAll]
  | x :: xs, y :: ys => by
    simp [PyData.eqvAll, PyData.eqv, eqv_ints xs ys]
    by_cases c : x = y <;> simp [c]
theorem neM_ints (xs ys : List Int) (st : Sto) : neM (.lst (xs.map D.int)) (.lst (ys.map D.int)) st = .ok (.bl (!decide (xs = ys))) st := by
  show neP (.lst (xs.map D.int)) (.lst (ys.map D.int)) st = _
  simp only [neP, shp_ints, PyData.eqv, eqv_ints]
  rfl
theorem eqM_ints (xs ys : List Int) (st : Sto) : eqM (.lst (xs.map D.int)) (.lst (ys.map D.int)) st = .ok (.bl (decide (xs = ys))) st := by
  show eqP (.lst (xs.map D.int)) (.lst (ys.map D.int)) st = _
  simp only [eqP, shp_ints, PyData.eqv, eqv_ints]
  rfl
theorem lrg_run (m : Int) (st : Sto) (h0 : 0 ≤ m) (h1 : m ≤ 100000) : lrgM (.int m) st = .ok (.lst ((rngI m).map D.int)) st := by
  have : L2.RgOk 0 m := L2.RgOk.of_le (by omega) (by omega) (by omega) h0
  simp [lrgM, this, rngD_int]
theorem ixM_ok (xs : List D) (i : Int) (d : D) (st : Sto) (h : atI xs i = some d) : ixM (.tup xs) (.int i) st = .ok d st := by simp [h]
/-! ### the program's loop -/
def docOk (lists : List D) (k : Nat) (len : D) : Bool := match len with
  | .int m => decide (sortI (nsL k lists) = rngI m)
  | _ => true
def docsOk (lists : List D) : Nat → List D → Bool
  | _, [] => true
  | k, l :: r => docOk lists k l && docsOk lists (k + 1) r
abbrev bodyQ : EnvD → M Fl := (ifS (andT (tstE (binE isntM (varE 5) (cstE .non))) (tstE (binE neM (callW F_places_at (consA (varE 3) (consA (varE 4) (nilA)))) (unE lrgM (varE 5))))) (retS (cstE (.bl false))) (nxtS))
theorem loop_q (V L S : Option EV) (lists : List D) (hL : ListsOk lists) (hl : lists.length ≤ 200) (st : Sto) : ∀ (ls : List D), (∀ x ∈ ls, lenOne x = true) → ∀ (k : Nat) (a b : Option EV), ∃ a' b',
    forL (tupG 2 (consG (nameG 4) (consG (nameG 5) nilG))) bodyQ (enumD k ls) [V, L, S, some (.d (.tup lists)), a, b, none] st = if docsOk lists k ls = true then .ok (.nx [V, L, S, some (.d (.tup lists)), a', b', none]) st else .ok (.rt (.bl false)) st
  | [], _, k, a, b => ⟨a, b, by simp [enumD, docsOk]⟩
  | l :: ls, h, k, a, b => by
    obtain ⟨a', b', ih⟩ := loop_q V L S lists hL hl st ls (fun z hz => h z (by simp [hz])) (k + 1) (some (.d (.int (k : Nat)))) (some (.d l))
    refine ⟨a', b', ?_⟩
    simp only [enumD]
    rw [forL_cons _ _ _ _ _ _ _ rfl]
    have e1 : bodyQ [V, L, S, some (.d (.tup lists)), some (.d (.int (k : Nat))), some (.d l), none] st = if docOk lists k l = true then .ok (.nx [V, L, S, some (.d (.tup lists)), some (.d (.int (k : Nat))), some (.d l), none]) st else .ok (.rt (.bl false)) st := by
      rcases lenOne_of (h l (by simp)) with rfl | ⟨m, rfl, m0, m1⟩
      · simp [docOk, isNonD]
      · have e2 := F_places_at_run lists (k : Nat) st hL hl
        have e3 := lrg_run m st m0 (by omega)
        have e4 := neM_ints (sortI (nsL k lists)) (rngI m) st
        by_cases c : sortI (nsL k lists) = rngI m
        · rw [decide_eq_true c, c] at e4
          simp [docOk, isNonD, e2, e3, e4, c]
        · rw [decide_eq_false c] at e4
          simp [docOk, isNonD, e2, e3, e4, c]
    show (bodyQ [V, L, S, some (.d (.tup lists)), some (.d (.int (k : Nat))), some (.d l), none] >>= _) st = _
    rw [bind_run, e1]
    cases hd : docOk lists k l with
    | false => simp [docsOk, hd]
    | true => simp only [docsOk, hd, if_true, Bool.true_and]; exact ih
/-! ### the law's loop -/
abbrev bodyI : EnvD → M Fl := growS manyD 6 (iteE (tstE (binE eqM (varE 8) (varE 4))) (varE 9) (tupE (nilA)))
theorem inner_i (V L S T B u1 u2 : Option EV) (doc : Int) (x : Option EV) (st : Sto) : ∀ (rows : List D), (∀ r ∈ rows, ∃ i ps, RowIs r i ps) → ∀ (acc : List D) (a b : Option EV), acc.length + rows.length * 200 ≤ sizeLine → ∃ a' b',
    forL (tupG 2 (consG (nameG 8) (consG (nameG 9) nilG))) bodyI rows [V, L, S, T, some (.d (.int doc)), B, some (.own acc), x, a, b, u1, u2] st = .ok (.nx [V, L, S, T, some (.d (.int doc)), B, some (.own (acc ++ coll doc rows)), x, a', b', u1, u2]) st
  | [], _, acc, a, b, _ => ⟨a, b, by simp [coll]⟩
  | r :: rows, h, acc, a, b, hz => by
    obtain ⟨i, ps, e, hl, hi⟩ := h r (by simp)
    subst e
    simp only [List.length_cons] at hz
    have hr : ∀ r ∈ rows, ∃ i ps, RowIs r i ps := fun z hz => h z (by simp [hz])
    rw [forL_cons _ _ _ _ _ _ _ rfl]
    have hp : (rowPs doc (.tup [.int i, .tup ps])).length ≤ 200 := by
      simp only [rowPs]
      split
      · exact hl
      · simp
    obtain ⟨a', b', ih⟩ := inner_i V L S T B u1 u2 doc x st rows hr (acc ++ rowPs doc (.tup [.int i, .tup ps])) (some (.d (.int i))) (some (.d (.tup ps))) (by rw [List.length_append]; omega)
    refine ⟨a', b', ?_⟩
    have e1 : bodyI [V, L, S, T, some (.d (.int doc)), B, some (.own acc), x, some (.d (.int i)), some (.d (.tup ps)), u1, u2] st = .ok (.nx [V, L, S, T, some (.d (.int doc)), B, some (.own (acc ++ rowPs doc (.tup [.int i, .tup ps]))), x, some (.d (.int i)), some (.d (.tup ps)), u1, u2]) st := by
      have h1 : acc.length + ps.length ≤ sizeLine := by omega
      have h2 : acc.length ≤ sizeLine := by omega
      by_cases c : i = doc
      · simp [growS, manyD, rowPs, c, h1]
      · simp [growS, manyD, rowPs, c, h2]
    show (bodyI [V, L, S, T, some (.d (.int doc)), B, some (.own acc), x, some (.d (.int i)), some (.d (.tup ps)), u1, u2] >>= _) st = _
    rw [bind_run, e1]
    simp only [coll]
    rw [← List.append_assoc]
    exact ih
theorem outer_i (V L S T B u1 u2 : Option EV) (doc : Int) (st : Sto) : ∀ (lists : List D), ListsOk lists → ∀ (acc : List D) (x a b : Option EV), acc.length + lists.length * 40000 ≤ sizeLine → ∃ x' a' b',
    forL (nameG 7) (forS (anyI (varE 7)) (tupG 2 (consG (nameG 8) (consG (nameG 9) nilG))) bodyI) lists [V, L, S, T, some (.d (.int doc)), B, some (.own acc), x, a, b, u1, u2] st = .ok (.nx [V, L, S, T, some (.d (.int doc)), B, some (.own (acc ++ collL doc lists)), x', a', b', u1, u2]) st
  | [], _, acc, x, a, b, _ => ⟨x, a, b, by simp [collL]⟩
  | l :: ls, h, acc, x, a, b, hz => by
    obtain ⟨rows, e, hl, hr⟩ := h l (by simp)
    subst e
    simp only [List.length_cons] at hz
    have hc := coll_len doc rows hr
    obtain ⟨a1, b1, e1⟩ := inner_i V L S T B u1 u2 doc (some (.d (.tup rows))) st rows hr acc a b (by omega)
    obtain ⟨x', a', b', ih⟩ := outer_i V L S T B u1 u2 doc st ls (fun z hz => h z (by simp [hz])) (acc ++ coll doc rows) (some (.d (.tup rows))) a1 b1 (by rw [List.length_append]; omega)
    refine ⟨x', a', b', ?_⟩
    rw [forL_cons _ _ _ _ _ _ _ rfl]
    have e2 : forS (anyI (varE 7)) (tupG 2 (consG (nameG 8) (consG (nameG 9) nilG))) bodyI [V, L, S, T, some (.d (.int doc)), B, some (.own acc), some (.d (.tup rows)), a, b, u1, u2] st = .ok (.nx [V, L, S, T, some (.d (.int doc)), B, some (.own (acc ++ coll doc rows)), some (.d (.tup rows)), a1, b1, u1, u2]) st := by
      simp only [forS_run, anyI_run, bind_run, varE_run, List.getElem?_cons_succ, List.getElem?_cons_zero, pure_run, itM_tup]
      exact e1
    show (forS (anyI (varE 7)) (tupG 2 (consG (nameG 8) (consG (nameG 9) nilG))) bodyI [V, L, S, T, some (.d (.int doc)), B, some (.own acc), some (.d (.tup rows)), a, b, u1, u2] >>= _) st = _
    rw [bind_run, e2]
    simp only [collL]
    rw [← List.append_assoc]
    exact ih
def docLaw (lists : List D) (k : Nat) (len : D) : Bool := match len with
  | .int m => decide (sortI (nsL k lists) = rngI m)
  | _ => decide (sortI (nsL k lists) = rngI 0)
def docsLaw (lists : List D) : Nat → List D → Bool
  | _, [] => true
  | k, l :: r => docLaw lists k l && docsLaw lists (k + 1) r
abbrev bodyJ : EnvD → M Fl := (seqS (ownS 6 (nilA))
    (seqS (forS (anyI (varE 3)) (nameG 7) (forS (anyI (varE 7)) (tupG 2 (consG (nameG 8) (consG (nameG 9) (nilG)))) bodyI))
    (frzS 6 (ifS (tstE (binE neM (biE sortedM (consA (varE 6) (nilA))) (unE lrgM (iteE (tstE (binE isntM (varE 5) (cstE .non))) (varE 5) (cstE (.int 0)))))) (retS (cstE (.bl false))) (nxtS)))))
theorem loop_j (V L S u1 u2 : Option EV) (lists : List D) (hL : ListsOk lists) (hl : lists.length ≤ 200) (st : Sto) : ∀ (ls : List D), (∀ x ∈ ls, lenOne x = true) → ∀ (k : Nat) (a b c x y z : Option EV), ∃ a' b' c' x' y' z',
    forL (tupG 2 (consG (nameG 4) (consG (nameG 5) nilG))) bodyJ (enumD k ls) [V, L, S, some (.d (.tup lists)), a, b, c, x, y, z, u1, u2] st = if docsLaw lists k ls = true then .ok (.nx [V, L, S, some (.d (.tup lists)), a', b', c', x', y', z', u1, u2]) st else .ok (.rt (.bl false)) st
  | [], _, k, a, b, c, x, y, z => ⟨a, b, c, x, y, z, by simp [enumD, docsLaw]⟩
  | l :: ls, h, k, a, b, c, x, y, z => by
    obtain ⟨x1, y1, z1, e1⟩ := outer_i V L S (some (.d (.tup lists))) (some (.d l)) u1 u2 (k : Nat) st lists hL [] x y z (by
      have : sizeLine = 16777216 := by decide
      simp; omega)
    have hi := intsD_all _ (collL_int (k : Nat) lists hL)
    have e2 : ∃ c1, bodyJ [V, L, S, some (.d (.tup lists)), some (.d (.int (k : Nat))), some (.d l), c, x, y, z, u1, u2] st = if docLaw lists k l = true then .ok (.nx [V, L, S, some (.d (.tup lists)), some (.d (.int (k : Nat))), some (.d l), c1, x1, y1, z1, u1, u2]) st else .ok (.rt (.bl false)) st := by
      refine ⟨some (.d (.lst (collL (k : Nat) lists))), ?_⟩
      have s1 : sortedM [.lst (collL (k : Nat) lists)] st = .ok (.lst ((sortI (nsL k lists)).map D.int)) st := by simp [sortedM, hi, nsL]
      simp only [List.nil_append] at e1
      simp only [bodyJ, seqS_run, ownS_run, nilA_run, bind_run, forS_run, anyI_run, varE_run, List.length_nil, Nat.zero_le, if_true, pure_run, List.set_cons_succ, List.set_cons_zero, List.getElem?_cons_succ, List.getElem?_cons_zero, itM_tup]
      rw [e1]
      rcases lenOne_of (h l (by simp)) with rfl | ⟨m, rfl, m0, m1⟩
      · have e3 := lrg_run 0 st (by omega) (by omega)
        have e4 := neM_ints (sortI (nsL k lists)) (rngI 0) st
        by_cases q : sortI (nsL k lists) = rngI 0
        · rw [decide_eq_true q, q] at e4
          simp [frz, s1, docLaw, isNonD, e3, e4, q]
        · rw [decide_eq_false q] at e4
          simp [frz, s1, docLaw, isNonD, e3, e4, q]
      · have e3 := lrg_run m st m0 (by omega)
        have e4 := neM_ints (sortI (nsL k lists)) (rngI m) st
        by_cases q : sortI (nsL k lists) = rngI m
        · rw [decide_eq_true q, q] at e4
          simp [frz, s1, docLaw, isNonD, e3, e4, q]
        · rw [decide_eq_false q] at e4
          simp [frz, s1, docLaw, isNonD, e3, e4, q]
    obtain ⟨c1, e2⟩ := e2
    obtain ⟨a', b', c', x', y', z', ih⟩ := loop_j V L S u1 u2 lists hL hl st ls (fun z hz => h z (by simp [hz])) (k + 1) (some (.d (.int (k : Nat)))) (some (.d l)) c1 x1 y1 z1
    refine ⟨a', b', c', x', y', z', ?_⟩
    simp only [enumD]
    rw [forL_cons _ _ _ _ _ _ _ rfl]
    show (bodyJ [V, L, S, some (.d (.tup lists)), some (.d (.int (k : Nat))), some (.d l), c, x, y, z, u1, u2] >>= _) st = _
    rw [bind_run, e2]
    cases hd : docLaw lists k l with
    | false => simp [docsLaw, hd]
    | true => simp only [docsLaw, hd, if_true, Bool.true_and]; exact ih
end Dd

set_option Elab.async false
set_option linter.all false
set_option maxRecDepth 100000
/-! the plain law, part I: are_postings, by both. -/
namespace Dd
open PySem
open L2 (atI ixN)
@[simp] theorem abcd_len : (Str.ofString "abcd").length = 4 := by decide
@[simp] theorem four_sz : (4 : Nat) ≤ sizeLine := by decide
@[simp] theorem tupGm3 (i j k : Nat) (a b c : D) (env : EnvD) (st : Sto) : tupGm 3 (consGm (pureG (nameG i)) (consGm (pureG (nameG j)) (consGm (pureG (nameG k)) nilGm))) (.tup [a, b, c]) env st = .ok (((env.set i (some (.d a))).set j (some (.d b))).set k (some (.d c))) st := rfl
@[simp] theorem tupGm2 (i j : Nat) (a b : D) (env : EnvD) (st : Sto) : tupGm 2 (consGm (pureG (nameG i)) (consGm (pureG (nameG j)) nilGm)) (.tup [a, b]) env st = .ok ((env.set i (some (.d a))).set j (some (.d b))) st := rfl
def lenIs (a : D) (n : Nat) : Bool := match a with
  | .int i => decide ((n : Int) = i)
  | _ => false
def postOk (d : D) : Bool := match d with
  | .tup [a, b, c] => withinD a 1 4 && (lensOk b && (match b, c with
    | .tup ls, .tup lists => lenIs a lists.length && (lists.all (listOk ls) && docsOk lists 0 ls)
    | _, _ => false))
  | _ => false
theorem listsOk_of {bs : List Nat} (hs : sml bs) {ls lists : List D} (hn : ∀ x ∈ lists, nice bs x = true) (h : lists.all (listOk ls) = true) : ListsOk lists := fun l hl => by
  have h1 := List.all_eq_true.mp h l hl
  have h2 := hn l hl
  cases l with
  | tup rows =>
    obtain ⟨b, bs', rfl, hs', hlen, hx⟩ := nice_tup hs h2
    simp only [listOk, Bool.and_eq_true] at h1
    refine ⟨rows, rfl, hlen, fun r hr => ?_⟩
    have h3 := List.all_eq_true.mp h1.2.1 r hr
    obtain ⟨i, pl, rfl, h4, h5⟩ := rowOk_doc h3
    obtain ⟨c, bs2, rfl, hs2, _, hy⟩ := nice_tup hs' (hx _ hr)
    simp only [rowOk, h4, h5, decide_true, Bool.true_and] at h3
    split at h3
    · rename_i m _
      simp only [Bool.and_eq_true] at h3
      have hp := h3.2
      have hpn := hy pl (by simp)
      cases pl with
      | tup ps =>
        obtain ⟨_, _, _, _, hpl, _⟩ := nice_tup hs2 hpn
        simp only [placesOk, Bool.and_eq_true] at hp
        exact ⟨i, ps, rfl, hpl, fun x hx => within_int (List.all_eq_true.mp hp.1 x hx)⟩
      | _ => simp [placesOk] at hp
    · cases h3
  | _ => simp [listOk] at h1
theorem lensOk_tup {b : D} (h : lensOk b = true) : ∃ ls, b = .tup ls ∧ ls.length ≤ 8 ∧ ∀ x ∈ ls, lenOne x = true := by
  cases b with
  | tup ls =>
    simp only [lensOk, Bool.and_eq_true, decide_eq_true_eq, List.all_eq_true] at h
    exact ⟨ls, rfl, h.1, h.2⟩
  | _ => simp [lensOk] at h
theorem lc_lists {bs : List Nat} (hs : sml bs) (hb : bs.length ≤ 60) (ls : List D) (hls : ∀ x ∈ ls, lenOne x = true) (V L T a b : Option EV) (lists : List D) (hn : ∀ x ∈ lists, nice bs x = true) (st : Sto) :
    lcL (nameG 6) yesT (callW F_is_letter_list (consA (varE 2) (consA (varE 6) (nilA)))) [V, L, some (.d (.tup ls)), T, a, b, none] lists st = .ok (lists.map fun d => .bl (listOk ls d)) st :=
  lcL_map _ _ fun x hx => ⟨_, rfl, by simp [F_letter_list_run hs hb ls hls x st (hn x hx)]⟩
theorem F_are_postings_run {bs : List Nat} (hs : sml bs) (hb : bs.length ≤ 60) (d : D) (st : Sto) (h : nice bs d = true) : F_are_postings [d] st = .ok (.bl (postOk d)) st := by
  have hi := isiM_run d "tuple" st (nice_ty h) (by simp)
  cases d with
  | tup xs =>
    obtain ⟨b0, bs', rfl, hs', hl, hx⟩ := nice_tup hs h
    have hb' : bs'.length ≤ 60 := by simp at hb; omega
    simp only [tyIs, tyD] at hi
    match xs, hx with
    | [], _ => simp [F_are_postings, b_are_postings, hi, postOk]
    | [_], _ => simp [F_are_postings, b_are_postings, hi, postOk]
    | [_, _], _ => simp [F_are_postings, b_are_postings, hi, postOk]
    | x :: y :: z :: w :: r, _ =>
      have : ¬ ((r.length : Int) + 1 + 1 + 1 + 1 = 3) := by omega
      simp [F_are_postings, b_are_postings, hi, postOk, this]
    | [x, y, z], hx =>
      have hw := F_is_within_run x 1 4 st (nice_ty (hx x (by simp)))
      have hy := F_lengths_run y st hs' (hx y (by simp))
      have hz := isiM_run z "tuple" st (nice_ty (hx z (by simp))) (by simp)
      have ix0 : atI [x, y, z] 0 = some x := rfl
      cases cw : withinD x 1 4 with
      | false =>
        rw [cw] at hw
        simp [F_are_postings, b_are_postings, hi, postOk, ix0, hw, cw]
      | true =>
        rw [cw] at hw
        obtain ⟨n, rfl⟩ := isInt_of (within_int cw)
        cases cl : lensOk y with
        | false =>
          rw [cl] at hy
          simp [F_are_postings, b_are_postings, hi, postOk, ix0, hw, cw, hy, cl]
        | true =>
          rw [cl] at hy
          obtain ⟨ls, rfl, l8, hls⟩ := lensOk_tup cl
          have hzn := hx z (by simp)
          cases z with
          | tup lists =>
            obtain ⟨b1, bs2, rfl, hs2, hlen, hln⟩ := nice_tup hs' hzn
            have hb2 : bs2.length ≤ 60 := by simp at hb'; omega
            simp only [tyIs, tyD] at hz
            by_cases cn : (lists.length : Int) = n
            · have e1 := lc_lists hs2 hb2 ls hls (some (.d (.tup [.int n, .tup ls, .tup lists]))) (some (.d (.int n))) (some (.d (.tup lists))) none none lists hln st
              have ha := allM_map (listOk ls) lists st
              cases cq : lists.all (listOk ls) with
              | false =>
                rw [cq] at ha
                simp only [postOk, cw, cl, lenIs, cn, decide_true, cq, Bool.true_and, Bool.false_and]
                simp [F_are_postings, b_are_postings, hi, ix0, hw, hy, hz, cn, szl hlen, e1, ha]
              | true =>
                rw [cq] at ha
                obtain ⟨a', b', e2⟩ := loop_q (some (.d (.tup [.int n, .tup ls, .tup lists]))) (some (.d (.int n))) (some (.d (.tup ls))) lists (listsOk_of hs2 hln cq) hlen st ls hls 0 none none
                simp only [postOk, cw, cl, lenIs, cn, decide_true, cq, Bool.true_and]
                simp [F_are_postings, b_are_postings, hi, ix0, hw, hy, hz, cn, szl hlen, e1, ha]
                rw [e2]
                cases docsOk lists 0 ls <;> simp
            · simp [F_are_postings, b_are_postings, hi, postOk, ix0, hw, cw, hy, cl, hz, cn, lenIs]
          | _ => first | (simp [tyIs, tyD] at hz; simp [F_are_postings, b_are_postings, hi, postOk, ix0, hw, cw, hy, cl, hz]) | (cases bs' <;> simp [nice] at hzn)
  | _ => first | (simp [tyIs, tyD] at hi; simp [F_are_postings, b_are_postings, hi, postOk]) | (cases bs <;> simp [nice] at h)
theorem F_is_postings_run {bs : List Nat} (hs : sml bs) (hb : bs.length ≤ 60) (d : D) (st : Sto) (h : nice bs d = true) : F_is_postings [d] st = .ok (.bl (postOk d)) st := by
  simp [F_is_postings, b_is_postings, F_are_postings_run hs hb d st h]
end Dd

set_option Elab.async false
set_option linter.all false
set_option maxRecDepth 100000
/-! the plain law, part J: the law's judge of postings. -/
namespace Dd
open PySem
open L2 (atI ixN)
theorem enumD_mem : ∀ (xs : List D) (n : Nat) (d : D), d ∈ enumD n xs → ∃ (k : Int) (x : D), x ∈ xs ∧ d = .tup [.int k, x]
  | [], _, d, h => by simp [enumD] at h
  | x :: xs, n, d, h => by
    simp only [enumD, List.mem_cons] at h
    rcases h with rfl | h
    · exact ⟨_, x, by simp, rfl⟩
    · obtain ⟨k, y, h1, h2⟩ := enumD_mem xs (n + 1) d h
      exact ⟨k, y, by simp [h1], h2⟩
def sndD : D → D
  | .tup [_, b] => b
  | _ => .non
theorem enumD_snd : ∀ (xs : List D) (n : Nat), (enumD n xs).map sndD = xs
  | [], _ => rfl
  | x :: xs, n => by simp [enumD, sndD, enumD_snd xs (n + 1)]
theorem enumD_all (p : D → Bool) (xs : List D) (n : Nat) : (enumD n xs).all (fun d => p (sndD d)) = xs.all p := by
  have := congrArg (fun l => List.all l p) (enumD_snd xs n)
  simpa [List.all_map, Function.comp_def] using this
theorem lc_lens {bs : List Nat} (V L S T a b c x y z u : Option EV) (ls : List D) (hn : ∀ x ∈ ls, nice bs x = true) (st : Sto) :
    lcL (nameG 10) yesT (orE (binE isM (varE 10) (cstE .non)) (andE (callW F__law_is_count (consA (varE 10) (nilA))) (binE ltM (varE 10) (cstE (.int 61))))) [V, L, S, T, a, b, c, x, y, z, none, u] ls st = .ok (ls.map fun d => .bl (lenOne d)) st :=
  lcL_map _ _ fun x hx => ⟨_, rfl, by
    have e := F_count_run x st (nice_ty (hn x hx))
    cases x with
    | int i =>
      cases hc : countD (.int i) with
      | false =>
        rw [hc] at e
        simp [countD] at hc
        simp [e, isNonD, lenOne, withinD]
        omega
      | true =>
        rw [hc] at e
        simp [countD] at hc
        simp [e, isNonD, lenOne, withinD, hc]
        omega
    | _ => simp [e, isNonD, lenOne, withinD, countD]⟩
theorem lc_laws {bs : List Nat} (hs : sml bs) (hb : bs.length ≤ 60) (ls : List D) (hls : ∀ x ∈ ls, lenOne x = true) (V T a b c x y z : Option EV) (n : D) (lists : List D) (hn : ∀ x ∈ lists, nice bs x = true) (st : Sto) :
    lcL (tupG 2 (consG (nameG 11) (consG (nameG 10) nilG))) yesT (callW F__law_is_list (consA (varE 1) (consA (varE 11) (consA (varE 2) (consA (varE 10) (nilA)))))) [V, some (.d n), some (.d (.tup ls)), T, a, b, c, x, y, z, none, none] (enumD 0 lists) st = .ok ((enumD 0 lists).map fun d => .bl (listOk ls (sndD d))) st :=
  lcL_map _ _ fun d hd => by
    obtain ⟨k, x, h1, rfl⟩ := enumD_mem _ _ _ hd
    refine ⟨_, rfl, ?_⟩
    have e := F_law_list_run hs hb n (.int k) ls hls x st (hn x h1)
    rw [lawList_eq] at e
    simp [e, sndD]
theorem coll_none (ls : List D) (k : Nat) (hk : atI ls (k : Int) = some .non) : ∀ rows : List D, rows.all (rowOk ls) = true → coll (k : Nat) rows = []
  | [], _ => rfl
  | r :: rows, h => by
    simp only [List.all_cons, Bool.and_eq_true] at h
    obtain ⟨i, pl, rfl, h4, h5⟩ := rowOk_doc h.1
    have : i ≠ (k : Int) := fun e => by
      subst e
      have := h.1
      simp [rowOk, hk] at this
    have e : rowPs (k : Nat) (.tup [.int i, pl]) = [] := by
      cases pl <;> simp [rowPs, this]
    simp [coll, e, coll_none ls k hk rows h.2]
theorem collL_none (ls : List D) (k : Nat) (hk : atI ls (k : Int) = some .non) : ∀ lists : List D, lists.all (listOk ls) = true → collL (k : Nat) lists = []
  | [], _ => rfl
  | l :: lists, h => by
    simp only [List.all_cons, Bool.and_eq_true] at h
    cases l with
    | tup rows =>
      have h1 := h.1
      simp only [listOk, Bool.and_eq_true] at h1
      simp [collL, coll_none ls k hk rows h1.2.1, collL_none ls k hk lists h.2]
    | _ => simp [listOk] at h
theorem sortI_nil : sortI [] = [] := by simp [sortI]
theorem rngI_0 : rngI 0 = [] := rfl
theorem docs_eq (ls lists : List D) (h : lists.all (listOk ls) = true) (hls : ∀ x ∈ ls, lenOne x = true) : ∀ (r : List D) (pre : List D), ls = pre ++ r → docsLaw lists pre.length r = docsOk lists pre.length r
  | [], _, _ => rfl
  | x :: r, pre, e => by
    have ih := docs_eq ls lists h hls r (pre ++ [x]) (by simp [e])
    simp only [List.length_append, List.length_singleton] at ih
    have : docLaw lists pre.length x = docOk lists pre.length x := by
      rcases lenOne_of (hls x (by simp [e])) with rfl | ⟨m, rfl, _⟩
      · have hk : atI ls (pre.length : Nat) = some .non := by
          have hl : pre.length < ls.length := by simp [e]
          have h1 : ls[pre.length]? = some .non := by simp [e]
          have h2 : (pre.length : Int) < (ls.length : Int) := by omega
          simp [atI, ixN, h1, h2]
        simp [docLaw, docOk, nsL, collL_none ls pre.length hk lists h, sortI_nil, rngI_0]
      · rfl
    simp only [docsLaw, docsOk, this, ih]
theorem F_law_postings_run {bs : List Nat} (hs : sml bs) (hb : bs.length ≤ 60) (d : D) (st : Sto) (h : nice bs d = true) : F__law_are_postings [d] st = .ok (.bl (postOk d)) st := by
  have hi := isiM_run d "tuple" st (nice_ty h) (by simp)
  cases d with
  | tup xs =>
    obtain ⟨b0, bs', rfl, hs', hl, hx⟩ := nice_tup hs h
    have hb' : bs'.length ≤ 60 := by simp at hb; omega
    simp only [tyIs, tyD] at hi
    match xs, hx with
    | [], _ => simp [F__law_are_postings, b__law_are_postings, hi, postOk]
    | [_], _ => simp [F__law_are_postings, b__law_are_postings, hi, postOk]
    | [_, _], _ => simp [F__law_are_postings, b__law_are_postings, hi, postOk]
    | x :: y :: z :: w :: r, _ =>
      have : ¬ ((r.length : Int) + 1 + 1 + 1 + 1 = 3) := by omega
      simp [F__law_are_postings, b__law_are_postings, hi, postOk, this]
    | [x, y, z], hx =>
      have hw := F_count_run x st (nice_ty (hx x (by simp)))
      have hy := isiM_run y "tuple" st (nice_ty (hx y (by simp))) (by simp)
      have hz := isiM_run z "tuple" st (nice_ty (hx z (by simp))) (by simp)
      have ix0 : atI [x, y, z] 0 = some x := rfl
      cases cw : countD x with
      | false =>
        rw [cw] at hw
        have : withinD x 1 4 = false := by
          cases x <;> simp [withinD]
          simp [countD] at cw
          omega
        simp [F__law_are_postings, b__law_are_postings, hi, postOk, ix0, hw, this]
      | true =>
        rw [cw] at hw
        obtain ⟨n, rfl⟩ : ∃ i, x = .int i := by cases x <;> simp [countD] at cw; exact ⟨_, rfl⟩
        by_cases c1 : 1 ≤ n
        · by_cases c4 : n ≤ 4
          · have hyn := hx y (by simp)
            have hzn := hx z (by simp)
            cases y with
            | tup ls =>
              obtain ⟨b1, bs1, rfl, hs1, hlen1, hln1⟩ := nice_tup hs' hyn
              have hb1 : bs1.length ≤ 60 := by simp at hb'; omega
              simp only [tyIs, tyD] at hy
              by_cases c8 : ls.length ≤ 8
              · have c8' : ¬ ((8 : Int) < (ls.length : Int)) := by omega
                cases z with
                | tup lists =>
                  obtain ⟨b2, bs2, e2, hs2, hlen, hln⟩ := nice_tup hs' hzn
                  cases e2
                  simp only [tyIs, tyD] at hz
                  by_cases cn : (lists.length : Int) = n
                  · have l1 := lc_lens (some (.d (.tup [.int n, .tup ls, .tup lists]))) (some (.d (.int n))) (some (.d (.tup ls))) (some (.d (.tup lists))) none none none none none none none ls hln1 st
                    have a1 := allM_map lenOne ls st
                    cases cl : ls.all lenOne with
                    | false =>
                      rw [cl] at a1
                      have : lensOk (.tup ls) = false := by
                        have : ls.all (fun x => isNonD x || withinD x 0 60) = false := cl
                        simp only [lensOk, this, Bool.and_false]
                      simp only [postOk, this, Bool.false_and, Bool.and_false]
                      simp [F__law_are_postings, b__law_are_postings, hi, ix0, hw, hy, hz, c1, c4, c8', cn, szl hlen1, l1, a1]
                    | true =>
                      rw [cl] at a1
                      have hls : ∀ x ∈ ls, lenOne x = true := fun x hx => List.all_eq_true.mp cl x hx
                      have ok : lensOk (.tup ls) = true := by
                        have : ls.all (fun x => isNonD x || withinD x 0 60) = true := cl
                        simp only [lensOk, this, c8, decide_true, Bool.and_true]
                      have wi : withinD (.int n) 1 4 = true := by simp [withinD, c1, c4]
                      have l2 := lc_laws hs1 hb1 ls hls (some (.d (.tup [.int n, .tup ls, .tup lists]))) (some (.d (.tup lists))) none none none none none none (.int n) lists hln st
                      have a2 := allM_map (fun d => listOk ls (sndD d)) (enumD 0 lists) st
                      rw [enumD_all] at a2
                      have le : (enumD 0 lists).length ≤ sizeLine := by rw [enumD_length]; exact szl hlen
                      cases cq : lists.all (listOk ls) with
                      | false =>
                        rw [cq] at a2
                        simp only [postOk, wi, ok, lenIs, cn, decide_true, cq, Bool.true_and, Bool.false_and]
                        simp [F__law_are_postings, b__law_are_postings, hi, ix0, hw, hy, hz, c1, c4, c8', cn, szl hlen1, l1, a1, le, l2, a2]
                      | true =>
                        rw [cq] at a2
                        obtain ⟨a', b', c', x', y', z', e2⟩ := loop_j (some (.d (.tup [.int n, .tup ls, .tup lists]))) (some (.d (.int n))) (some (.d (.tup ls))) none none lists (listsOk_of hs1 hln cq) hlen st ls hls 0 none none none none none none
                        have de := docs_eq ls lists cq hls ls [] rfl
                        rw [List.length_nil] at de
                        rw [de] at e2
                        simp only [postOk, wi, ok, lenIs, cn, decide_true, cq, Bool.true_and]
                        simp [F__law_are_postings, b__law_are_postings, hi, ix0, hw, hy, hz, c1, c4, c8', cn, szl hlen1, l1, a1, le, l2, a2]
                        rw [e2]
                        cases docsOk lists 0 ls <;> simp
                  · have : lenIs (.int n) lists.length = false := by simp [lenIs, cn]
                    simp only [postOk, this, Bool.false_and, Bool.and_false]
                    simp [F__law_are_postings, b__law_are_postings, hi, ix0, hw, hy, hz, c1, c4, c8', cn]
                | _ => first | (simp [tyIs, tyD] at hz; simp [F__law_are_postings, b__law_are_postings, hi, postOk, ix0, hw, hy, hz, c1, c4, c8']) | (simp [nice] at hzn)
              · have c8' : (8 : Int) < (ls.length : Int) := by omega
                simp [F__law_are_postings, b__law_are_postings, hi, postOk, ix0, hw, hy, c1, c4, c8', lensOk, c8]
            | _ => first | (simp [tyIs, tyD] at hy; simp [F__law_are_postings, b__law_are_postings, hi, postOk, ix0, hw, hy, c1, c4, lensOk]) | (cases bs' <;> simp [nice] at hyn)
          · simp [F__law_are_postings, b__law_are_postings, hi, postOk, ix0, hw, c1, c4, withinD]
        · simp [F__law_are_postings, b__law_are_postings, hi, postOk, ix0, hw, c1, withinD]
  | _ => first | (simp [tyIs, tyD] at hi; simp [F__law_are_postings, b__law_are_postings, hi, postOk]) | (cases bs <;> simp [nice] at h)
end Dd

set_option Elab.async false
set_option linter.all false
set_option maxRecDepth 100000
/-! the plain law, part K: distinct ints, sorted. -/
namespace Dd
open PySem
open L2 (atI ixN)
theorem first_nodup : ∀ (ns acc : List Int), acc.Nodup → (ns.foldl (fun acc n => if acc.any (· == n) then acc else acc ++ [n]) acc).length = acc.length + ns.length → (acc ++ ns).Nodup
  | [], acc, h, _ => by simpa using h
  | n :: ns, acc, h, e => by
    rw [List.foldl_cons] at e
    have key : ∀ (ns acc : List Int), (ns.foldl (fun acc n => if acc.any (· == n) then acc else acc ++ [n]) acc).length ≤ acc.length + ns.length := by
      intro ns
      induction ns with
      | nil => intro acc; simp
      | cons n ns ih =>
        intro acc
        rw [List.foldl_cons]
        refine Nat.le_trans (ih _) ?_
        split <;> simp <;> omega
    by_cases c : acc.any (· == n) = true
    · rw [if_pos c] at e
      have := key ns acc
      simp only [List.length_cons] at e
      omega
    · rw [if_neg c] at e
      have nm : n ∉ acc := fun m => c (List.any_eq_true.mpr ⟨n, m, by simp⟩)
      have := first_nodup ns (acc ++ [n]) (by
        rw [List.nodup_append]
        exact ⟨h, by simp, fun a ha b hb => by
          rw [List.mem_singleton.mp hb]
          exact fun e => nm (e ▸ ha)⟩) (by rw [e]; simp; omega)
      simpa using this
theorem firstI_nodup {ns : List Int} (h : (firstI ns).length = ns.length) : ns.Nodup := by
  have := first_nodup ns [] List.nodup_nil (by rw [show ns.foldl _ [] = firstI ns from rfl, h]; simp)
  simpa using this
theorem strict_len : ∀ (xs : List Int) (a b : Int), xs.Pairwise (· < ·) → (∀ x ∈ xs, a ≤ x ∧ x < b) → (xs.length : Int) ≤ b - a ∨ xs = []
  | [], _, _, _, _ => .inr rfl
  | x :: xs, a, b, h, hb => by
    left
    have h1 := List.pairwise_cons.mp h
    have hx := hb x (by simp)
    rcases strict_len xs (x + 1) b h1.2 (fun y hy => by have := h1.1 y hy; have := hb y (by simp [hy]); omega) with q | q
    · simp only [List.length_cons]; omega
    · subst q; simp; omega
theorem strict_range : ∀ (xs : List Int) (lo : Int), xs.Pairwise (· < ·) → (∀ x ∈ xs, lo ≤ x ∧ x < lo + xs.length) → xs = (List.range xs.length).map fun (i : Nat) => lo + (i : Int)
  | [], _, _, _ => rfl
  | x :: xs, lo, h, hb => by
    have h1 := List.pairwise_cons.mp h
    have hx := hb x (by simp)
    have e : x = lo := by
      rcases strict_len xs (x + 1) (lo + (xs.length + 1)) h1.2 (fun y hy => by have := h1.1 y hy; have := hb y (by simp [hy]); simp only [List.length_cons] at this; omega) with q | q
      · omega
      · subst q; simp at hx; omega
    subst e
    have ih := strict_range xs (x + 1) h1.2 (fun y hy => by have := h1.1 y hy; have := hb y (by simp [hy]); simp only [List.length_cons] at this; omega)
    rw [List.length_cons, List.range_succ_eq_map, List.map_cons, List.map_map]
    congr 1
    · simp
    · refine ih.trans ?_
      apply List.map_congr_left
      intro i _
      show x + 1 + (i : Int) = x + ((i + 1 : Nat) : Int)
      omega
theorem sortI_perm (ns : List Int) : (sortI ns).Perm ns := List.mergeSort_perm ns _
theorem sortI_sorted (ns : List Int) : (sortI ns).Pairwise (· ≤ ·) := by
  have := List.pairwise_mergeSort (le := fun a b : Int => decide (a ≤ b)) (fun a b c h1 h2 => by simp at *; omega) (fun a b => by simp; omega) ns
  exact this.imp fun h => by simpa using h
theorem sortI_strict {ns : List Int} (h : ns.Nodup) : (sortI ns).Pairwise (· < ·) := by
  have h1 := sortI_sorted ns
  have h2 : (sortI ns).Nodup := (sortI_perm ns).nodup_iff.mpr h
  exact (h1.and h2).imp fun {a b} ⟨h3, h4⟩ => by have : a ≠ b := h4; omega
theorem rngI_len (m : Int) : (rngI m).length = m.toNat := by simp [rngI]
/-- distinct ints below m: m of them are all of them -/
theorem full_iff {ns : List Int} (h : ns.Nodup) (m : Int) (hb : ∀ x ∈ ns, 0 ≤ x ∧ x < m) (m0 : 0 ≤ m) : sortI ns = rngI m ↔ (ns.length : Int) = m := by
  constructor
  · intro e
    have := congrArg List.length e
    rw [rngI_len, (sortI_perm ns).length_eq] at this
    omega
  · intro e
    have hl := (sortI_perm ns).length_eq
    have := strict_range (sortI ns) 0 (sortI_strict h) fun x hx => by
      have := hb x ((sortI_perm ns).mem_iff.mp hx)
      rw [hl]
      omega
    rw [this, hl, rngI]
    have : m.toNat = ns.length := by omega
    rw [this]
    apply List.map_congr_left
    intro i _
    omega
def maxI : List Int → Int
  | [] => -1
  | n :: r => r.foldl max n
theorem foldl_max : ∀ (r : List Int) (n : Int), n ≤ r.foldl max n ∧ (∀ x ∈ r, x ≤ r.foldl max n) ∧ (r.foldl max n = n ∨ r.foldl max n ∈ r)
  | [], n => by simp
  | y :: r, n => by
    obtain ⟨h1, h2, h3⟩ := foldl_max r (max n y)
    rw [List.foldl_cons]
    refine ⟨by omega, fun x hx => ?_, ?_⟩
    · rcases List.mem_cons.mp hx with rfl | hx
      · omega
      · exact h2 x hx
    · rcases h3 with h3 | h3
      · rw [h3]
        by_cases c : n ≤ y
        · right; simp; left; omega
        · left; omega
      · right; simp [h3]
theorem maxI_ub {ns : List Int} : ∀ x ∈ ns, x ≤ maxI ns := fun x hx => by
  cases ns with
  | nil => cases hx
  | cons n r =>
    obtain ⟨h1, h2, _⟩ := foldl_max r n
    rcases List.mem_cons.mp hx with rfl | hx
    · exact h1
    · exact h2 x hx
theorem maxI_mem {ns : List Int} (h : ns ≠ []) : maxI ns ∈ ns := by
  cases ns with
  | nil => exact absurd rfl h
  | cons n r =>
    obtain ⟨_, _, h3⟩ := foldl_max r n
    rcases h3 with h3 | h3
    · show r.foldl max n ∈ _; rw [h3]; simp
    · show r.foldl max n ∈ _; simp [h3]
/-- .. and where the most is not told: one more than the greatest -/
theorem full_max {ns : List Int} (h : ns.Nodup) (hb : ∀ x ∈ ns, 0 ≤ x) : sortI ns = rngI ns.length ↔ (ns.length : Int) = maxI ns + 1 := by
  by_cases hn : ns = []
  · subst hn; simp [maxI, sortI, rngI]
  · have hm := maxI_mem hn
    have hm0 := hb _ hm
    constructor
    · intro e
      have h1 : (maxI ns) ∈ rngI ns.length := by rw [← e]; exact (sortI_perm ns).mem_iff.mpr hm
      have h2 : maxI ns < ns.length := by
        simp [rngI] at h1
        obtain ⟨i, hi, e⟩ := h1
        omega
      have hpos : 0 < ns.length := List.length_pos_iff.mpr hn
      have h3 : ((ns.length : Int) - 1) ∈ sortI ns := by
        rw [e]
        simp [rngI]
        exact ⟨ns.length - 1, by omega, by omega⟩
      have := maxI_ub _ ((sortI_perm ns).mem_iff.mp h3)
      omega
    · intro e
      refine (full_iff h ns.length (fun x hx => ⟨hb x hx, ?_⟩) (by omega)).mpr rfl
      have := maxI_ub x hx
      omega
end Dd

set_option Elab.async false
set_option linter.all false
set_option maxRecDepth 100000
/-! the plain law, part L: the pieces of views. -/
namespace Dd
open PySem
open L2 (atI ixN)
def vOk (d : D) : Bool := isNonD d || placesOk 60 d
structure Vone (l : D) (xs : List D) : Prop where
  eq : l = .tup xs
  len : xs.length ≤ 200
  int : ∀ x ∈ xs, ∃ i : Int, x = .int i ∧ 0 ≤ i ∧ i < 60
def VOk (lists : List D) : Prop := ∀ l ∈ lists, l = .non ∨ ∃ xs, Vone l xs
def vPl : List D → List D
  | [] => []
  | .tup xs :: r => xs ++ vPl r
  | _ :: r => vPl r
def vNs (lists : List D) : List Int := (vPl lists).map toI
theorem VOk_of {bs : List Nat} (hs : sml bs) {lists : List D} (hn : ∀ x ∈ lists, nice bs x = true) (h : lists.all vOk = true) : VOk lists := fun l hl => by
  have h1 := List.all_eq_true.mp h l hl
  have h2 := hn l hl
  cases l with
  | non => exact .inl rfl
  | tup xs =>
    right
    obtain ⟨b, bs', rfl, hs', hlen, hx⟩ := nice_tup hs h2
    simp [vOk, isNonD, placesOk] at h1
    refine ⟨xs, rfl, hlen, fun x hx => ?_⟩
    have := h1.1 x hx
    obtain ⟨i, rfl⟩ := isInt_of (within_int this)
    simp [withinD] at this
    exact ⟨i, rfl, this.1, by omega⟩
  | _ => simp [vOk, isNonD, placesOk] at h1
theorem vPl_len : ∀ lists : List D, VOk lists → (vPl lists).length ≤ lists.length * 200
  | [], _ => by simp [vPl]
  | l :: ls, h => by
    have ih := vPl_len ls fun x hx => h x (by simp [hx])
    rcases h l (by simp) with rfl | ⟨xs, rfl, hl, _⟩
    · simp only [vPl, List.length_cons]; omega
    · simp only [vPl, List.length_append, List.length_cons]; omega
theorem vPl_mem : ∀ lists : List D, VOk lists → ∀ x ∈ vPl lists, ∃ i : Int, x = .int i ∧ 0 ≤ i ∧ i < 60
  | [], _, x, hx => by simp [vPl] at hx
  | l :: ls, h, x, hx => by
    have ih := vPl_mem ls fun x hx => h x (by simp [hx])
    rcases h l (by simp) with rfl | ⟨xs, rfl, _, hi⟩
    · exact ih x hx
    · simp only [vPl, List.mem_append] at hx
      rcases hx with hx | hx
      · exact hi x hx
      · exact ih x hx
theorem vPl_int {lists : List D} (h : VOk lists) : ∀ x ∈ vPl lists, isInt x = true := fun x hx => by
  obtain ⟨i, rfl, _⟩ := vPl_mem lists h x hx
  rfl
theorem vNs_mem {lists : List D} (h : VOk lists) : ∀ i ∈ vNs lists, 0 ≤ i ∧ i < 60 := fun i hi => by
  obtain ⟨x, hx, rfl⟩ := List.mem_map.mp hi
  obtain ⟨i, rfl, h1, h2⟩ := vPl_mem lists h x hx
  exact ⟨h1, h2⟩
theorem map_toI : ∀ xs : List D, (∀ x ∈ xs, isInt x = true) → (xs.map toI).map D.int = xs
  | [], _ => rfl
  | x :: xs, h => by
    obtain ⟨i, rfl⟩ := isInt_of (h x (by simp))
    have := map_toI xs fun z hz => h z (by simp [hz])
    simp only [List.map_cons, toI, this]
theorem vPl_map {lists : List D} (h : VOk lists) : vPl lists = (vNs lists).map D.int := (map_toI _ (vPl_int h)).symm
abbrev bodyV : EnvD → M Fl := growS manyD 2 (iteE (tstE (binE isntM (varE 3) (cstE .non))) (varE 3) (tupE (nilA)))
theorem loop_v (A B : Option EV) (t : List (Option EV)) (st : Sto) : ∀ (lists : List D), VOk lists → ∀ (acc : List D) (x : Option EV), acc.length + lists.length * 200 ≤ sizeLine → ∃ x',
    forL (nameG 3) bodyV lists (A :: B :: some (.own acc) :: x :: t) st = .ok (.nx (A :: B :: some (.own (acc ++ vPl lists)) :: x' :: t)) st
  | [], _, acc, x, _ => ⟨x, by simp [vPl]⟩
  | l :: ls, h, acc, x, hz => by
    simp only [List.length_cons] at hz
    have hr : VOk ls := fun z hz => h z (by simp [hz])
    rw [forL_cons _ _ _ _ _ _ _ rfl]
    rcases h l (by simp) with rfl | ⟨xs, rfl, hl, hi⟩
    · obtain ⟨x', ih⟩ := loop_v A B t st ls hr acc (some (.d .non)) (by omega)
      refine ⟨x', ?_⟩
      have e1 : bodyV (A :: B :: some (.own acc) :: some (.d .non) :: t) st = .ok (.nx (A :: B :: some (.own acc) :: some (.d .non) :: t)) st := by
        have : acc.length ≤ sizeLine := by omega
        simp [growS, manyD, isNonD, this]
      show (bodyV (A :: B :: some (.own acc) :: some (.d .non) :: t) >>= _) st = _
      rw [bind_run, e1]
      exact ih
    · obtain ⟨x', ih⟩ := loop_v A B t st ls hr (acc ++ xs) (some (.d (.tup xs))) (by rw [List.length_append]; omega)
      refine ⟨x', ?_⟩
      have e1 : bodyV (A :: B :: some (.own acc) :: some (.d (.tup xs)) :: t) st = .ok (.nx (A :: B :: some (.own (acc ++ xs)) :: some (.d (.tup xs)) :: t)) st := by
        have : acc.length + xs.length ≤ sizeLine := by omega
        simp [growS, manyD, isNonD, this]
      show (bodyV (A :: B :: some (.own acc) :: some (.d (.tup xs)) :: t) >>= _) st = _
      rw [bind_run, e1]
      simp only [vPl]
      rw [← List.append_assoc]
      exact ih
theorem lset_run {lists : List D} (h : VOk lists) (hl : lists.length ≤ 20) (st : Sto) : lsetM (.lst (vPl lists)) st = .ok (.int (firstI (vNs lists)).length) st := by
  have h1 := vPl_len lists h
  have h2 := intsD_all _ (vPl_int h)
  have h3 : (vPl lists).length ≤ 4000 := by omega
  simp [lsetM, h2, h3, vNs]
def lookOk (L : Int) (d : D) : Bool := match d with
  | .tup lists => decide ((lists.length : Int) = L) && (lists.all vOk && decide ((firstI (vNs lists)).length = (vNs lists).length))
  | _ => false
theorem F_looked_run {bs : List Nat} (hs : sml bs) (L : Int) (hL : L ≤ 4) (d : D) (st : Sto) (h : nice bs d = true) : F_are_looked_lists [.int L, d] st = .ok (.bl (lookOk L d)) st := by
  have hi := isiM_run d "tuple" st (nice_ty h) (by simp)
  cases d with
  | tup lists =>
    obtain ⟨b, bs', rfl, hs', hlen, hx⟩ := nice_tup hs h
    simp only [tyIs, tyD] at hi
    by_cases cn : (lists.length : Int) = L
    · have e1 := lcL_map (tg := nameG 3) (fe := orE (binE isM (varE 3) (cstE .non)) (callW F_are_places (consA (varE 3) (consA (cstE (.int 60)) (nilA))))) (env := [some (.d (.int L)), some (.d (.tup lists)), none, none]) (st := st) (fun d => .bl (vOk d)) lists
        fun x hx' => ⟨_, rfl, by
          have e := F_are_places_run x 60 st hs' (hx x hx')
          cases hn : isNonD x <;> simp [hn, e, vOk]⟩
      have ha := allM_map vOk lists st
      cases cq : lists.all vOk with
      | false =>
        rw [cq] at ha
        simp only [lookOk, cn, decide_true, cq, Bool.true_and, Bool.false_and]
        simp [F_are_looked_lists, b_are_looked_lists, hi, cn, szl hlen, e1, ha]
      | true =>
        rw [cq] at ha
        have hv := VOk_of hs' hx cq
        obtain ⟨x', e2⟩ := loop_v (some (.d (.int L))) (some (.d (.tup lists))) [] st lists hv [] none (by
          have : sizeLine = 16777216 := by decide
          simp; omega)
        have e3 := lset_run hv (by omega) st
        simp only [lookOk, cn, decide_true, cq, Bool.true_and]
        simp [F_are_looked_lists, b_are_looked_lists, hi, cn, szl hlen, e1, ha]
        rw [e2]
        have e4 : (vPl lists).length = (vNs lists).length := by simp [vNs]
        simp [frz, e3, e4]
        rw [Bool.eq_iff_iff]
        simp
        omega
    · simp [F_are_looked_lists, b_are_looked_lists, hi, cn, lookOk]
  | _ => first | (simp [tyIs, tyD] at hi; simp [F_are_looked_lists, b_are_looked_lists, hi, lookOk]) | (cases bs <;> simp [nice] at h)
end Dd

set_option Elab.async false
set_option linter.all false
set_option maxRecDepth 100000
/-! the plain law, part M: told places, the least length. -/
namespace Dd
open PySem PySem.Spec PyProof.Rows
open L2 (atI ixN Key)
theorem putD_new (ns : List Int) (xs : List D) (i : Int) (d : D) (h : i ∉ ns) : putD (ns.map Sum.inl) xs (.inl i) d = ((ns ++ [i]).map Sum.inl, xs ++ [d]) := by
  have : ¬ (((ns.map Sum.inl : List Key).any fun k' => decide (k' = .inl i)) = true) := by
    intro c
    obtain ⟨k, hk, e⟩ := List.any_eq_true.mp c
    obtain ⟨j, hj, rfl⟩ := List.mem_map.mp hk
    simp at e
    exact h (e ▸ hj)
  simp only [putD]
  rw [if_neg this]
  simp
abbrev bodyT : EnvD → M Fl := putS 1 (varE 2) (varE 4)
theorem inner_t (V P : Option EV) (n : D) (st : Sto) : ∀ (ps : List Int) (pre : List Int), (pre ++ ps).Nodup → pre.length + ps.length ≤ sizeLine → ∀ (xs : List D) (x : Option EV), ∃ xs' x',
    forL (nameG 4) bodyT (ps.map D.int) [V, some (.dic (pre.map Sum.inl) xs), some (.d n), P, x] st = .ok (.nx [V, some (.dic ((pre ++ ps).map Sum.inl) xs'), some (.d n), P, x']) st
  | [], pre, _, _, xs, x => ⟨xs, x, by simp⟩
  | p :: ps, pre, hn, hz, xs, x => by
    have hp : p ∉ pre := fun m => by
      rw [List.nodup_append] at hn
      exact hn.2.2 p m p (by simp) rfl
    obtain ⟨xs', x', ih⟩ := inner_t V P n st ps (pre ++ [p]) (by simpa using hn) (by simp at hz ⊢; omega) (xs ++ [n]) (some (.d (.int p)))
    refine ⟨xs', x', ?_⟩
    rw [List.map_cons, forL_cons _ _ _ _ _ _ _ rfl]
    have hl : pre.length < sizeLine := by simp at hz; omega
    have e1 : bodyT [V, some (.dic (pre.map Sum.inl) xs), some (.d n), P, some (.d (.int p))] st = .ok (.nx [V, some (.dic ((pre ++ [p]).map Sum.inl) (xs ++ [n])), some (.d n), P, some (.d (.int p))]) st := by
      simp [bodyT, putS, putR, keyD, putD_new _ _ _ _ hp, hl]
    show (bodyT [V, some (.dic (pre.map Sum.inl) xs), some (.d n), P, some (.d (.int p))] >>= _) st = _
    rw [bind_run, e1]
    simpa using ih
abbrev bodyT2 : EnvD → M Fl := forS (anyI (iteE (tstE (binE isntM (varE 3) (cstE .non))) (varE 3) (tupE (nilA)))) (nameG 4) bodyT
theorem outer_t (V : Option EV) (st : Sto) : ∀ (lists : List D), VOk lists → ∀ (k : Nat) (pre : List Int), (pre ++ vNs lists).Nodup → pre.length + lists.length * 200 ≤ sizeLine → ∀ (xs : List D) (a b c : Option EV), ∃ xs' a' b' c',
    forL (tupG 2 (consG (nameG 2) (consG (nameG 3) (nilG)))) bodyT2 (enumD k lists) [V, some (.dic (pre.map Sum.inl) xs), a, b, c] st = .ok (.nx [V, some (.dic ((pre ++ vNs lists).map Sum.inl) xs'), a', b', c']) st
  | [], _, k, pre, _, _, xs, a, b, c => ⟨xs, a, b, c, by simp [enumD, vNs, vPl]⟩
  | l :: ls, h, k, pre, hn, hz, xs, a, b, c => by
    simp only [List.length_cons] at hz
    have hr : VOk ls := fun z hz => h z (by simp [hz])
    simp only [enumD]
    rw [forL_cons _ _ _ _ _ _ _ rfl]
    rcases h l (by simp) with rfl | ⟨ps, rfl, hl, hi⟩
    · obtain ⟨xs', a', b', c', ih⟩ := outer_t V st ls hr (k + 1) pre (by simpa [vNs, vPl] using hn) (by omega) xs (some (.d (.int k))) (some (.d .non)) c
      refine ⟨xs', a', b', c', ?_⟩
      have e1 : bodyT2 [V, some (.dic (pre.map Sum.inl) xs), some (.d (.int k)), some (.d .non), c] st = .ok (.nx [V, some (.dic (pre.map Sum.inl) xs), some (.d (.int k)), some (.d .non), c]) st := by
        simp [bodyT2, isNonD]
      show (bodyT2 [V, some (.dic (pre.map Sum.inl) xs), some (.d (.int k)), some (.d .non), c] >>= _) st = _
      rw [bind_run, e1]
      exact ih
    · have hint : ∀ x ∈ ps, isInt x = true := fun x hx => by
        obtain ⟨i, rfl, _⟩ := hi x hx
        rfl
      have hm := map_toI ps hint
      have ev : vNs (.tup ps :: ls) = ps.map toI ++ vNs ls := by simp [vNs, vPl]
      rw [ev, ← List.append_assoc] at hn
      obtain ⟨ys, z, e0⟩ := inner_t V (some (.d (.tup ps))) (.int k) st (ps.map toI) pre (List.nodup_append.mp hn).1 (by rw [List.length_map]; omega) xs c
      rw [hm] at e0
      obtain ⟨xs', a', b', c', ih⟩ := outer_t V st ls hr (k + 1) (pre ++ ps.map toI) hn (by rw [List.length_append, List.length_map]; omega) ys (some (.d (.int k))) (some (.d (.tup ps))) z
      refine ⟨xs', a', b', c', ?_⟩
      have e1 : bodyT2 [V, some (.dic (pre.map Sum.inl) xs), some (.d (.int k)), some (.d (.tup ps)), c] st = .ok (.nx [V, some (.dic ((pre ++ ps.map toI).map Sum.inl) ys), some (.d (.int k)), some (.d (.tup ps)), z]) st := by
        simp only [bodyT2, forS_run, anyI_run, bind_run, iteE_run, tstE_run, binE_run, varE_run, cstE_run, List.getElem?_cons_succ, List.getElem?_cons_zero, pure_run, isntM_non, isNonD, Bool.not_false, boolD_bl, if_true, itM_tup]
        exact e0
      show (bodyT2 [V, some (.dic (pre.map Sum.inl) xs), some (.d (.int k)), some (.d (.tup ps)), c] >>= _) st = _
      rw [bind_run, e1]
      rw [ev, ← List.append_assoc]
      exact ih
theorem F_told_run (a : D) (lists : List D) (st : Sto) (h : VOk lists) (hl : lists.length ≤ 20) (hn : (vNs lists).Nodup) : ∃ xs, F_told_places [.tup [a, .tup lists]] st = .ok (.dct ((vNs lists).map Sum.inl) xs) st := by
  obtain ⟨xs, x, y, z, e⟩ := outer_t (some (.d (.tup [a, .tup lists]))) st lists h 0 [] (by simpa using hn) (by
    have : sizeLine = 16777216 := by decide
    simp; omega) [] none none none
  refine ⟨xs, ?_⟩
  have ix : atI [a, .tup lists] 1 = some (.tup lists) := rfl
  simp [F_told_places, b_told_places, ix]
  have e' := e
  simp only [List.map_nil, List.nil_append] at e'
  rw [e']
  simp [frzD]
theorem lc_free (V n q : Option EV) (lists : List D) (st : Sto) (k : Nat) :
    ∃ ys : List D, (ys = [] ↔ lists.any isNonD = false) ∧ ys.length ≤ lists.length ∧ (∀ y ∈ ys, isInt y = true) ∧ lcL (tupG 2 (consG (nameG 1) (consG (nameG 2) (nilG)))) (tstE (binE isM (varE 2) (cstE .non))) (varE 1) [V, none, none] (enumD k lists) st = .ok ys st := by
  induction lists generalizing k with
  | nil => exact ⟨[], by simp, by simp, by simp, rfl⟩
  | cons l ls ih =>
    obtain ⟨ys, h1, h2, h3, e⟩ := ih (k + 1)
    cases hl : isNonD l with
    | true => exact ⟨.int k :: ys, by simp [hl], by simp; omega, by simpa [isInt] using h3, by simp [enumD, lcL, e, hl]⟩
    | false => exact ⟨ys, by simpa [hl] using h1, by simp; omega, h3, by simp [enumD, lcL, e, hl]⟩
theorem F_free_run (a : D) (lists : List D) (st : Sto) (hl : lists.length ≤ 20) : ∃ ns : List Int, (ns = [] ↔ lists.any isNonD = false) ∧ F_free_numbers [.tup [a, .tup lists]] st = .ok (.lst (ns.map D.int)) st := by
  obtain ⟨ys, h1, h2, h3, e⟩ := lc_free (some (.d (.tup [a, .tup lists]))) none none lists st 0
  refine ⟨ys.map toI, by simpa using h1, ?_⟩
  have ix : atI [a, .tup lists] 1 = some (.tup lists) := rfl
  have hz : (enumD 0 lists).length ≤ sizeLine := by
    have : ∀ (k : Nat) (xs : List D), (enumD k xs).length = xs.length := by
      intro k xs
      induction xs generalizing k with
      | nil => rfl
      | cons x xs ih => simp [enumD, ih]
    rw [this]
    exact szl (by omega)
  rw [map_toI _ h3]
  simp [F_free_numbers, b_free_numbers, ix, hz, e]
def leastI (a : D) (lists : List D) : Int := match a with
  | .int m => m
  | _ => maxI (vNs lists) + 1
theorem F_least_run (a : D) (ha : isNonD a = true ∨ isInt a = true) (lists : List D) (st : Sto) (h : VOk lists) (hl : lists.length ≤ 20) (hn : (vNs lists).Nodup) : F_least_length [.tup [a, .tup lists]] st = .ok (.int (leastI a lists)) st := by
  have ix : atI [a, .tup lists] 0 = some a := rfl
  obtain ⟨xs, e⟩ := F_told_run a lists st h hl hn
  rcases ha with ha | ha
  · have : a = .non := by cases a <;> simp [isNonD] at ha; rfl
    subst this
    have e2 : (((vNs lists).map Sum.inl : List Key).map fun k => match k with
      | .inl i => D.int i
      | .inr z => .str z) = (vNs lists).map D.int := by simp
    have e3 : maxdM [.lst ((vNs lists).map D.int)] [.int (-1)] = pure (.int (maxI (vNs lists))) := by
      simp only [maxdM, intsD_map]
      cases vNs lists <;> rfl
    simp [F_least_length, b_least_length, ix, isNonD, e, listM, negM, leastI]
    have e4 : (List.map ((fun k => match k with
      | .inl i => D.int i
      | .inr z => .str z) ∘ Sum.inl) (vNs lists)) = (vNs lists).map D.int := by rfl
    first
      | (rw [e3]; simp)
      | (simp only [e4]; rw [e3]; simp)
      | (erw [e3]; simp)
  · obtain ⟨m, rfl⟩ := isInt_of ha
    simp [F_least_length, b_least_length, ix, isNonD, leastI]
end Dd

set_option Elab.async false
set_option linter.all false
set_option maxRecDepth 100000
/-! the plain law, part N: the judge of views. -/
namespace Dd
open PySem PySem.Spec PyProof.Rows
open L2 (atI ixN Key)
@[simp] theorem sz_0 : (0 : Nat) ≤ sizeLine := by decide
@[simp] theorem sz_1 : (1 : Nat) ≤ sizeLine := by decide
@[simp] theorem sz_2 : (2 : Nat) ≤ sizeLine := by decide
@[simp] theorem sz_3 : (3 : Nat) ≤ sizeLine := by decide
@[simp] theorem sz_5 : (5 : Nat) ≤ sizeLine := by decide
@[simp] theorem sz_6 : (6 : Nat) ≤ sizeLine := by decide
@[simp] theorem sz_7 : (7 : Nat) ≤ sizeLine := by decide
@[simp] theorem sz_8 : (8 : Nat) ≤ sizeLine := by decide
@[simp] theorem sz_9 : (9 : Nat) ≤ sizeLine := by decide
@[simp] theorem sz_10 : (10 : Nat) ≤ sizeLine := by decide
@[simp] theorem sz_11 : (11 : Nat) ≤ sizeLine := by decide
@[simp] theorem sz_12 : (12 : Nat) ≤ sizeLine := by decide
@[simp] theorem sz_13 : (13 : Nat) ≤ sizeLine := by decide
@[simp] theorem sz_14 : (14 : Nat) ≤ sizeLine := by decide
@[simp] theorem sz_15 : (15 : Nat) ≤ sizeLine := by decide
@[simp] theorem sz_16 : (16 : Nat) ≤ sizeLine := by decide
@[simp] theorem sz_17 : (17 : Nat) ≤ sizeLine := by decide
@[simp] theorem sz_18 : (18 : Nat) ≤ sizeLine := by decide
@[simp] theorem sz_19 : (19 : Nat) ≤ sizeLine := by decide
@[simp] theorem lenM_dct (ks : List Key) (xs : List D) : lenM [.dct ks xs] = pure (.int ks.length) := rfl
theorem beq_dec (a b : Int) : (a == b) = decide (a = b) := by by_cases h : a = b <;> simp [h]
def aOk (a : D) : Bool := isNonD a || withinD a 0 60
theorem aOk_of {a : D} (h : aOk a = true) : isNonD a = true ∨ isInt a = true := by
  cases a <;> simp [aOk, isNonD, withinD] at h <;> simp [isNonD, isInt]
def tailOk (a : D) (lists : List D) : Bool := !(vNs lists).any (fun i => decide (leastI a lists ≤ i)) && (lists.any isNonD || decide (((vNs lists).length : Int) = leastI a lists))
def viewOk (L : Int) (d : D) : Bool := match d with
  | .tup [a, .tup lists] => lookOk L (.tup lists) && (aOk a && tailOk a lists)
  | _ => false
theorem lookOk_of {bs : List Nat} (hs : sml bs) {L : Int} (hL : L ≤ 4) {b : D} (hn : nice bs b = true) (h : lookOk L b = true) : ∃ lists, b = .tup lists ∧ (lists.length : Int) = L ∧ VOk lists ∧ (vNs lists).Nodup := by
  cases b with
  | tup lists =>
    simp only [lookOk, Bool.and_eq_true, decide_eq_true_eq] at h
    obtain ⟨_, _, rfl, hs', _, hx⟩ := nice_tup hs hn
    exact ⟨lists, rfl, h.1, VOk_of hs' hx h.2.1, firstI_nodup h.2.2⟩
  | _ => simp [lookOk] at h
theorem lc_over (A B C : Option EV) (m : Int) (ns : List Int) (st : Sto) :
    lcL (nameG 4) yesT (binE geM (varE 4) (varE 3)) [A, B, C, some (.d (.int m)), none] (ns.map D.int) st = .ok ((ns.map fun i => decide (m ≤ i)).map D.bl) st := by
  have e := lcL_map (tg := nameG 4) (fe := binE geM (varE 4) (varE 3)) (env := [A, B, C, some (.d (.int m)), none]) (st := st) (fun d => .bl (match d with
    | .int i => decide (m ≤ i)
    | _ => false)) (ns.map D.int) fun d hd => by
      obtain ⟨i, _, rfl⟩ := List.mem_map.mp hd
      exact ⟨_, rfl, by simp⟩
  rw [e]
  simp
theorem anyM_bl (bs : List Bool) (st : Sto) : anyM [.lst (bs.map D.bl)] st = .ok (.bl (bs.any id)) st := by
  have := blsD_map (fun b => b) bs
  simp only [List.map_id'] at this
  simp [anyM, this]
theorem look_no {L : Int} {b : D} (h : ∀ lists, b ≠ .tup lists) : lookOk L b = false := by
  cases b <;> simp [lookOk]
  exact absurd rfl (h _)
theorem viewOk_pair (L : Int) (a b : D) (h : lookOk L b = false) : viewOk L (.tup [a, b]) = false := by
  cases b with
  | tup lists => simp [viewOk, h]
  | _ => simp [viewOk]
theorem F_view_of_run {bs : List Nat} (hs : sml bs) (L : Int) (hL : L ≤ 4) (d : D) (st : Sto) (h : nice bs d = true) : F_is_view_of [.int L, d] st = .ok (.bl (viewOk L d)) st := by
  have hi := isiM_run d "tuple" st (nice_ty h) (by simp)
  cases d with
  | tup xs =>
    obtain ⟨b, bs', rfl, hs', _, hx⟩ := nice_tup hs h
    simp only [tyIs, tyD] at hi
    match xs, hx with
    | [], _ => simp [F_is_view_of, b_is_view_of, hi, viewOk]
    | [_], _ => simp [F_is_view_of, b_is_view_of, hi, viewOk]
    | x :: y :: z :: r, _ =>
      have : ¬ ((r.length : Int) + 1 + 1 + 1 = 2) := by omega
      simp [F_is_view_of, b_is_view_of, hi, viewOk, this]
    | [a, b], hx =>
      have ix0 : atI [a, b] 0 = some a := rfl
      have ix1 : atI [a, b] 1 = some b := rfl
      have e1 := F_looked_run hs' L hL b st (hx b (by simp))
      cases hl : lookOk L b with
      | false =>
        rw [hl] at e1
        rw [viewOk_pair L a b hl]
        simp [F_is_view_of, b_is_view_of, hi, ix1, e1]
      | true =>
        rw [hl] at e1
        obtain ⟨lists, rfl, hlen, hv, hnd⟩ := lookOk_of hs' hL (hx b (by simp)) hl
        have e2 := F_is_within_run a 0 60 st (nice_ty (hx a (by simp)))
        cases ha : aOk a with
        | false =>
          have c1 : isNonD a = false := by cases h : isNonD a <;> simp [aOk, h] at ha ⊢
          have c2 : withinD a 0 60 = false := by cases h : withinD a 0 60 <;> simp [aOk, h] at ha ⊢
          rw [c2] at e2
          simp [F_is_view_of, b_is_view_of, hi, ix0, ix1, e1, c1, e2, viewOk, ha]
        | true =>
          have haa := aOk_of ha
          have h20 : lists.length ≤ 20 := by omega
          obtain ⟨zs, e3⟩ := F_told_run a lists st hv h20 hnd
          have e4 := F_least_run a haa lists st hv h20 hnd
          obtain ⟨fs, hf, e5⟩ := F_free_run a lists st h20
          have e6 := neM_ints fs [] st
          simp only [List.map_nil] at e6
          have e7 := lc_over (some (.d (.int L))) (some (.d (.tup [a, .tup lists]))) (some (.d (.dct ((vNs lists).map Sum.inl) zs))) (leastI a lists) (vNs lists) st
          have e8 := anyM_bl ((vNs lists).map fun i => decide (leastI a lists ≤ i)) st
          have hsz : (vNs lists).length ≤ sizeLine := by
            have h1 := vPl_len lists hv
            have : sizeLine = 16777216 := by decide
            rw [vNs, List.length_map]
            omega
          have e9 : ((vNs lists).map (keyV ∘ Sum.inl)) = (vNs lists).map D.int := rfl
          have guard : isNonD a = true ∨ (isNonD a = false ∧ F_is_within [a, .int 0, .int 60] st = .ok (.bl true) st) := by
            rcases haa with c | c
            · exact .inl c
            · have c1 : isNonD a = false := by cases a <;> simp [isInt] at c <;> rfl
              have c2 : withinD a 0 60 = true := by simpa [aOk, c1] using ha
              rw [c2] at e2
              exact .inr ⟨c1, e2⟩
          have e10 : (List.any ((vNs lists).map fun i => decide (leastI a lists ≤ i)) id) = (vNs lists).any fun i => decide (leastI a lists ≤ i) := by
            rw [List.any_map]; rfl
          rw [e10, List.map_map] at e8
          simp only [viewOk, hl, ha, tailOk, Bool.true_and]
          generalize (vNs lists).any (fun i => decide (leastI a lists ≤ i)) = bb at e8 ⊢
          have hfe : (decide (fs = [])) = !lists.any isNonD := by
            cases hq : lists.any isNonD <;> simp [hf, hq]
          rw [hfe] at e6
          generalize lists.any isNonD = cc at e6 ⊢
          clear e2
          rcases guard with c1 | ⟨c1, c2⟩ <;> cases bb <;> cases cc <;> simp [F_is_view_of, b_is_view_of, hi, ix0, ix1, c1, beq_dec, *]
  | _ => first | (simp [tyIs, tyD] at hi; simp [F_is_view_of, b_is_view_of, hi, viewOk]) | (cases bs <;> simp [nice] at h)
end Dd

set_option Elab.async false
set_option linter.all false
set_option maxRecDepth 100000
/-! the plain law, part O: the law's judge of views. -/
namespace Dd
open PySem PySem.Spec PyProof.Rows
open L2 (atI ixN Key)
theorem eqv_non {bs : List Nat} {d : D} {p : PyData} (h : nice bs d = true) (e2 : toP d = some p) : PyData.eqv p .none = isNonD d := by
  cases d with
  | tup xs => simp only [toP] at e2; split at e2 <;> cases e2; rfl
  | lst xs => simp only [toP] at e2; split at e2 <;> cases e2; rfl
  | non => cases e2; rfl
  | bl b => cases e2; rfl
  | int i => cases e2; rfl
  | str z => cases e2; rfl
  | _ => cases bs <;> simp [nice] at h
theorem any_non {bs : List Nat} : ∀ (xs : List D) (ps : List PyData), (∀ x ∈ xs, nice bs x = true) → toPs xs = some ps → (ps.any fun q => PyData.eqv q .none) = xs.any isNonD
  | [], ps, _, e => by simp [toPs] at e; subst e; rfl
  | x :: xs, ps, h, e => by
    simp only [toPs] at e
    cases hx : toP x with
    | none => rw [hx] at e; simp at e
    | some p =>
      cases hr : toPs xs with
      | none => rw [hx, hr] at e; simp at e
      | some qs =>
        rw [hx, hr] at e
        have e : p :: qs = ps := by simpa using e
        subst e
        simp [eqv_non (h x (by simp)) hx, any_non xs qs (fun z hz => h z (by simp [hz])) hr]
theorem in_non {bs : List Nat} {xs : List D} (st : Sto) (h : nice bs (.tup xs) = true) (hs : sml bs) (hb : bs.length ≤ 60) : inM .non (.tup xs) st = .ok (.bl (xs.any isNonD)) st := by
  obtain ⟨p, e1, e2⟩ := nice_shp h hb
  obtain ⟨_, _, rfl, _, _, hx⟩ := nice_tup hs h
  have e0 : inM .non (.tup xs) = match shp .non, shp (.tup xs) with
    | some p, some (.list qs) => pure (.bl (qs.any fun q => PyData.eqv q p))
    | some p, some (.tuple qs) => pure (.bl (qs.any fun q => PyData.eqv q p))
    | _, _ => M.bad := rfl
  have e3 : shp .non = some .none := rfl
  simp only [toP] at e2
  split at e2
  · rename_i ps e4
    cases e2
    rw [e0, e3, e1]
    show Out.ok (D.bl (ps.any fun q => PyData.eqv q .none)) st = _
    rw [any_non xs ps hx e4]
  · cases e2
def rngM (a : D) (n : Nat) : Int := match a with
  | .int m => m
  | _ => n
def overI (a : D) (ns : List Int) : Bool := match a with
  | .int m => ns.any fun i => decide (m ≤ i)
  | _ => false
def lawTail (a : D) (lists : List D) : Bool := !overI a (vNs lists) && (lists.any isNonD || decide (sortI (vNs lists) = rngI (rngM a (vNs lists).length)))
theorem tail_eq (a : D) (lists : List D) (hv : VOk lists) (hn : (vNs lists).Nodup) (ha : aOk a = true) : lawTail a lists = tailOk a lists := by
  have hm := vNs_mem hv
  rcases aOk_of ha with c | c
  · have : a = .non := by cases a <;> simp [isNonD] at c; rfl
    subst this
    have h1 : (vNs lists).any (fun i => decide (maxI (vNs lists) + 1 ≤ i)) = false := by
      rw [List.any_eq_false]
      intro i hi
      have := maxI_ub i hi
      simp
      omega
    have h2 := full_max hn fun x hx => (hm x hx).1
    show (!false && (lists.any isNonD || decide (sortI (vNs lists) = rngI ((vNs lists).length : Int)))) = (!(vNs lists).any (fun i => decide (maxI (vNs lists) + 1 ≤ i)) && (lists.any isNonD || decide (((vNs lists).length : Int) = maxI (vNs lists) + 1)))
    rw [h1, decide_eq_decide.mpr h2]
  · obtain ⟨m, rfl⟩ := isInt_of c
    simp only [aOk, isNonD, withinD, Bool.false_or, Bool.and_eq_true, decide_eq_true_eq] at ha
    show (!(vNs lists).any (fun i => decide (m ≤ i)) && (lists.any isNonD || decide (sortI (vNs lists) = rngI m))) = (!(vNs lists).any (fun i => decide (m ≤ i)) && (lists.any isNonD || decide (((vNs lists).length : Int) = m)))
    cases ho : (vNs lists).any (fun i => decide (m ≤ i)) with
    | true => rfl
    | false =>
      have h2 := full_iff hn m (fun x hx => ⟨(hm x hx).1, by
        have := (List.any_eq_false.mp ho) x hx
        simp at this
        omega⟩) ha.1
      rw [decide_eq_decide.mpr h2]
theorem lc_over2 (A B : Option EV) (a : D) (b : D) (m : Int) (h : a = .tup [.int m, b]) (ns : List Int) (st : Sto) :
    lcL (nameG 4) yesT (binE geM (varE 4) (binE ixM (varE 1) (cstE (.int 0)))) [A, some (.d a), B, C, none] (ns.map D.int) st = .ok ((ns.map fun i => decide (m ≤ i)).map D.bl) st := by
  subst h
  have ix0 : atI [D.int m, b] 0 = some (.int m) := rfl
  have e := lcL_map (tg := nameG 4) (fe := binE geM (varE 4) (binE ixM (varE 1) (cstE (.int 0)))) (env := [A, some (.d (.tup [.int m, b])), B, C, none]) (st := st) (fun d => .bl (match d with
    | .int i => decide (m ≤ i)
    | _ => false)) (ns.map D.int) fun d hd => by
      obtain ⟨i, _, rfl⟩ := List.mem_map.mp hd
      exact ⟨_, rfl, by simp [ix0]⟩
  rw [e]
  simp
theorem lv_non (L : Int) (a b : D) (st : Sto) (hty : (tyD b).isSome = true) (ht : ∀ xs, b ≠ .tup xs) (ha : aOk a = true) : F__law_is_view [.int L, .tup [a, b]] st = .ok (.bl false) st := by
  have ix0 : atI [a, b] 0 = some a := rfl
  have ix1 : atI [a, b] 1 = some b := rfl
  have hi : isiM [.tup [a, b], .ty "tuple"] st = .ok (.bl true) st := by
    rw [isiM_run (.tup [a, b]) "tuple" st rfl (by simp)]; simp [tyIs, tyD]
  have hj : isiM [b, .ty "tuple"] st = .ok (.bl false) st := by
    rw [isiM_run b "tuple" st hty (by simp)]
    have : tyIs "tuple" b = false := by
      cases b <;> simp [tyIs, tyD]
      exact ht _ rfl
    rw [this]
  rcases aOk_of ha with c | c
  · simp [F__law_is_view, b__law_is_view, hi, ix0, ix1, c, hj]
  · obtain ⟨m, rfl⟩ := isInt_of c
    have e2 := F_count_run (.int m) st rfl
    simp [aOk, isNonD, withinD] at ha
    have m1 : m < 61 := by omega
    simp [F__law_is_view, b__law_is_view, hi, ix0, ix1, e2, countD, isNonD, ha.1, m1, hj]
theorem szl2 {n : Nat} (h : n ≤ 100000) : n ≤ sizeLine := Nat.le_trans h (by decide)
def lv1 : EnvD → M Fl := ifS (orT (notT (tstE (biE isiM (consA (varE 1) (consA (cstE (.ty "tuple")) (nilA)))))) (orT (tstE (binE neM (biE lenM (consA (varE 1) (nilA))) (cstE (.int 2)))) (andT (tstE (binE isntM (binE ixM (varE 1) (cstE (.int 0))) (cstE .non))) (notT (andT (tstE (callW F__law_is_count (consA (binE ixM (varE 1) (cstE (.int 0))) (nilA)))) (tstE (binE ltM (binE ixM (varE 1) (cstE (.int 0))) (cstE (.int 61))))))))) (retS (cstE (.bl false))) (nxtS)
def lv2 : EnvD → M Fl := ifS (orT (notT (tstE (biE isiM (consA (binE ixM (varE 1) (cstE (.int 1))) (consA (cstE (.ty "tuple")) (nilA)))))) (tstE (binE neM (biE lenM (consA (binE ixM (varE 1) (cstE (.int 1))) (nilA))) (varE 0)))) (retS (cstE (.bl false))) (nxtS)
def lv3 : EnvD → M Fl := ifS (notT (tstE (biE allM (consA (lcE (anyI (binE ixM (varE 1) (cstE (.int 1)))) (nameG 3) (yesT) (orE (binE isM (varE 3) (cstE .non)) (callW F__law_are_places (consA (varE 3) (consA (cstE (.int 60)) (nilA))))) [3]) (nilA))))) (retS (cstE (.bl false))) (nxtS)
def lv4 : EnvD → M Fl := ownS 2 (nilA)
def lv5 : EnvD → M Fl := forS (anyI (binE ixM (varE 1) (cstE (.int 1)))) (nameG 3) (growS manyD 2 (iteE (tstE (binE isntM (varE 3) (cstE .non))) (varE 3) (tupE (nilA))))
def lv6 : EnvD → M Fl := frzS 2 (ifS (orT (tstE (binE neM (unE lsetM (varE 2)) (biE lenM (consA (varE 2) (nilA))))) (andT (tstE (binE isntM (binE ixM (varE 1) (cstE (.int 0))) (cstE .non))) (tstE (biE anyM (consA (lcE (anyI (varE 2)) (nameG 4) (yesT) (binE geM (varE 4) (binE ixM (varE 1) (cstE (.int 0)))) [4]) (nilA)))))) (retS (cstE (.bl false))) (nxtS))
def lv7 : EnvD → M Fl := ifS (tstE (binE inM (cstE .non) (binE ixM (varE 1) (cstE (.int 1))))) (retS (cstE (.bl true))) (nxtS)
def lv8 : EnvD → M Fl := frzS 2 (retS (binE eqM (biE sortedM (consA (varE 2) (nilA))) (unE lrgM (iteE (tstE (binE isntM (binE ixM (varE 1) (cstE (.int 0))) (cstE .non))) (binE ixM (varE 1) (cstE (.int 0))) (biE lenM (consA (varE 2) (nilA)))))))
theorem lv_eq : b__law_is_view = seqS lv1 (seqS lv2 (seqS lv3 (seqS lv4 (seqS lv5 (seqS lv6 (seqS lv7 lv8)))))) := rfl
theorem seq_nx {f f2 : EnvD → M Fl} {env env' : EnvD} {st st' : Sto} (h : f env st = .ok (.nx env') st') : seqS f f2 env st = f2 env' st' := by simp [h]
theorem seq_rt {f f2 : EnvD → M Fl} {env : EnvD} {st st' : Sto} {d : D} (h : f env st = .ok (.rt d) st') : seqS f f2 env st = .ok (.rt d) st' := by simp [h]
theorem run_rt {n N : Nat} {b : EnvD → M Fl} {ds : List D} {st st' : Sto} {d : D} (hl : ds.length = n) (h : b (ds.map (fun d => some (.d d)) ++ List.replicate (N - n) none) st = .ok (.rt d) st') : runF n N b ds st = .ok d st' := by simp [h, hl]
abbrev lvE (L : Int) (d : D) (o x : Option EV) : EnvD := [some (.d (.int L)), some (.d d), o, x, none]
theorem tup_is (xs : List D) (st : Sto) : isiM [.tup xs, .ty "tuple"] st = .ok (.bl true) st := by
  rw [isiM_run (.tup xs) "tuple" st rfl (by simp)]; simp [tyIs, tyD]
theorem lv1_run (L : Int) (a b : D) (st : Sto) (ha : aOk a = true) : lv1 (lvE L (.tup [a, b]) none none) st = .ok (.nx (lvE L (.tup [a, b]) none none)) st := by
  have ix0 : atI [a, b] 0 = some a := rfl
  have hi := tup_is [a, b] st
  rcases aOk_of ha with c | c
  · simp [lv1, hi, ix0, c]
  · obtain ⟨m, rfl⟩ := isInt_of c
    have e2 := F_count_run (.int m) st rfl
    simp [aOk, isNonD, withinD] at ha
    have m1 : m < 61 := by omega
    simp [lv1, hi, ix0, e2, countD, isNonD, ha.1, m1]
theorem lv2_run (L : Int) (a : D) (lists : List D) (st : Sto) : lv2 (lvE L (.tup [a, .tup lists]) none none) st = if (lists.length : Int) = L then .ok (.nx (lvE L (.tup [a, .tup lists]) none none)) st else .ok (.rt (.bl false)) st := by
  have ix1 : atI [a, .tup lists] 1 = some (.tup lists) := rfl
  have hj := tup_is lists st
  by_cases c : (lists.length : Int) = L <;> simp [lv2, ix1, hj, c]
theorem lv3_run {bs : List Nat} (hs : sml bs) (L : Int) (a : D) (lists : List D) (st : Sto) (hlen : lists.length ≤ 200) (hln : ∀ x ∈ lists, nice bs x = true) : lv3 (lvE L (.tup [a, .tup lists]) none none) st = if lists.all vOk = true then .ok (.nx (lvE L (.tup [a, .tup lists]) none none)) st else .ok (.rt (.bl false)) st := by
  have ix1 : atI [a, .tup lists] 1 = some (.tup lists) := rfl
  have e1 := lcL_map (tg := nameG 3) (fe := orE (binE isM (varE 3) (cstE .non)) (callW F__law_are_places (consA (varE 3) (consA (cstE (.int 60)) (nilA))))) (env := [some (.d (.int L)), some (.d (.tup [a, .tup lists])), none, none, none]) (st := st) (fun d => .bl (vOk d)) lists
    fun x hx' => ⟨_, rfl, by
      have e := F_lplaces_run x 60 st hs (hln x hx')
      cases hn : isNonD x <;> simp [hn, e, vOk]⟩
  have hal := allM_map vOk lists st
  cases cq : lists.all vOk <;> rw [cq] at hal <;> simp [lv3, ix1, szl hlen, e1, hal]
theorem lv45_run (L : Int) (a : D) (lists : List D) (st : Sto) (hv : VOk lists) (h20 : lists.length ≤ 20) : ∃ x', seqS lv4 lv5 (lvE L (.tup [a, .tup lists]) none none) st = .ok (.nx (lvE L (.tup [a, .tup lists]) (some (.own (vPl lists))) x')) st := by
  obtain ⟨x', e3⟩ := loop_v (some (.d (.int L))) (some (.d (.tup [a, .tup lists]))) [none] st lists hv [] none (by
    have : sizeLine = 16777216 := by decide
    simp; omega)
  have ix1 : atI [a, .tup lists] 1 = some (.tup lists) := rfl
  refine ⟨x', ?_⟩
  rw [seq_nx (env' := lvE L (.tup [a, .tup lists]) (some (.own [])) none) (st' := st) (by simp [lv4])]
  simpa [lv5, ix1] using e3
theorem lv6_run (L : Int) (a : D) (lists : List D) (x : Option EV) (st : Sto) (hv : VOk lists) (h20 : lists.length ≤ 20) (ha : aOk a = true) : lv6 (lvE L (.tup [a, .tup lists]) (some (.own (vPl lists))) x) st = if (decide ((firstI (vNs lists)).length = (vNs lists).length) && !overI a (vNs lists)) = true then .ok (.nx (lvE L (.tup [a, .tup lists]) (some (.d (.lst (vPl lists)))) x)) st else .ok (.rt (.bl false)) st := by
  have ix0 : atI [a, .tup lists] 0 = some a := rfl
  have e4 := lset_run hv h20 st
  have e5 : (vPl lists).length = (vNs lists).length := by simp [vNs]
  have hl := vPl_len lists hv
  by_cases hf : (firstI (vNs lists)).length = (vNs lists).length
  · rcases aOk_of ha with c | c
    · have : a = .non := by cases a <;> simp [isNonD] at c; rfl
      subst this
      simp [lv6, frz, e4, e5, hf, ix0, isNonD, overI]
    · obtain ⟨m, rfl⟩ := isInt_of c
      have eo := lc_over2 (C := x) (some (.d (.int L))) (some (.d (.lst (vPl lists)))) _ (.tup lists) m rfl (vNs lists) st
      have ea := anyM_bl ((vNs lists).map fun i => decide (m ≤ i)) st
      have e10 : (List.any ((vNs lists).map fun i => decide (m ≤ i)) id) = (vNs lists).any fun i => decide (m ≤ i) := by
        rw [List.any_map]; rfl
      rw [e10, List.map_map] at ea
      rw [← vPl_map hv, List.map_map] at eo
      have hsz3 : (vNs lists).length ≤ sizeLine := szl2 (by omega)
      rw [show ((vNs lists).any fun i => decide (m ≤ i)) = overI (.int m) (vNs lists) from rfl] at ea
      cases hoo : overI (.int m) (vNs lists) <;> rw [hoo] at ea <;> simp [lv6, frz, e4, e5, hf, ix0, isNonD, hsz3, eo, ea]
  · have hf' : ¬ (((firstI (vNs lists)).length : Int) = ((vNs lists).length : Int)) := by omega
    simp [lv6, frz, e4, e5, hf', hf]
theorem lv7_run {bs : List Nat} (hs : sml bs) (hb : bs.length ≤ 60) (L : Int) (a : D) (lists : List D) (o x : Option EV) (st : Sto) (h : nice bs (.tup lists) = true) : lv7 (lvE L (.tup [a, .tup lists]) o x) st = if lists.any isNonD = true then .ok (.rt (.bl true)) st else .ok (.nx (lvE L (.tup [a, .tup lists]) o x)) st := by
  have ix1 : atI [a, .tup lists] 1 = some (.tup lists) := rfl
  have ei := in_non st h hs hb
  simp [lv7, ix1, ei]
end Dd

set_option Elab.async false
set_option linter.all false
set_option maxRecDepth 100000
/-! the plain law, part P: the law's judge of views, joined. -/
namespace Dd
open PySem PySem.Spec PyProof.Rows
open L2 (atI ixN Key)
theorem eqM_ints_b (xs ys : List Int) (b : Bool) (h : b = true ↔ xs = ys) (st : Sto) : eqM (.lst (xs.map D.int)) (.lst (ys.map D.int)) st = .ok (.bl b) st := by
  rw [eqM_ints]
  have : ∀ inst : Decidable (xs = ys), @decide (xs = ys) inst = b := fun inst => by
    rw [Bool.eq_iff_iff, h, decide_eq_true_iff]
  rw [this]
theorem bin_ok {op : D → D → M D} {fa fb : EnvD → M D} {env : EnvD} {st : Sto} {x y r : D} (h1 : fa env st = .ok x st) (h2 : fb env st = .ok y st) (h3 : op x y st = .ok r st) : binE op fa fb env st = .ok r st := by simp [h1, h2, h3]
theorem ret_ok {fe : EnvD → M D} {env : EnvD} {st st' : Sto} {d : D} (h : fe env st = .ok d st') : retS fe env st = .ok (.rt d) st' := by simp [h]
theorem un_ok {op : D → M D} {fa : EnvD → M D} {env : EnvD} {st : Sto} {x r : D} (h1 : fa env st = .ok x st) (h3 : op x st = .ok r st) : unE op fa env st = .ok r st := by simp [h1, h3]
theorem rngM_non (n : Nat) : rngM .non n = (n : Int) := rfl
theorem lv8_run (L : Int) (a : D) (lists : List D) (x : Option EV) (st : Sto) (hv : VOk lists) (h20 : lists.length ≤ 20) (ha : aOk a = true) : lv8 (lvE L (.tup [a, .tup lists]) (some (.d (.lst (vPl lists)))) x) st = .ok (.rt (.bl (decide (sortI (vNs lists) = rngI (rngM a (vNs lists).length))))) st := by
  have ix0 : atI [a, .tup lists] 0 = some a := rfl
  have es : sortedM [.lst (vPl lists)] st = .ok (.lst ((sortI (vNs lists)).map D.int)) st := by
    rw [vPl_map hv]; simp [sortedM]
  have e5 : (vPl lists).length = (vNs lists).length := by simp [vNs]
  have hl := vPl_len lists hv
  rcases aOk_of ha with c | c
  · have : a = .non := by cases a <;> simp [isNonD] at c; rfl
    subst this
    have el := lrg_run ((vNs lists).length : Int) st (by omega) (by omega)
    have ee : eqM (.lst ((sortI (vNs lists)).map D.int)) (.lst ((rngI ((vNs lists).length : Int)).map D.int)) st = .ok (.bl (decide (sortI (vNs lists) = rngI (rngM .non (vNs lists).length)))) st := eqM_ints_b _ _ _ (by rw [decide_eq_true_iff, rngM_non]) st
    generalize decide (sortI (vNs lists) = rngI (rngM .non (vNs lists).length)) = qq at ee ⊢
    have h1 : biE sortedM (consA (varE 2) (nilA)) (lvE L (.tup [.non, .tup lists]) (some (.d (.lst (vPl lists)))) x) st = .ok (.lst ((sortI (vNs lists)).map D.int)) st := by simp [es]
    have h2 : unE lrgM (iteE (tstE (binE isntM (binE ixM (varE 1) (cstE (.int 0))) (cstE .non))) (binE ixM (varE 1) (cstE (.int 0))) (biE lenM (consA (varE 2) (nilA)))) (lvE L (.tup [.non, .tup lists]) (some (.d (.lst (vPl lists)))) x) st = .ok (.lst ((rngI ((vNs lists).length : Int)).map D.int)) st := by
      have h3 : iteE (tstE (binE isntM (binE ixM (varE 1) (cstE (.int 0))) (cstE .non))) (binE ixM (varE 1) (cstE (.int 0))) (biE lenM (consA (varE 2) (nilA))) (lvE L (.tup [.non, .tup lists]) (some (.d (.lst (vPl lists)))) x) st = .ok (.int ((vNs lists).length : Int)) st := by simp [ix0, isNonD, e5]
      exact un_ok h3 el
    exact ret_ok (bin_ok h1 h2 ee)
  · obtain ⟨m, rfl⟩ := isInt_of c
    simp [aOk, isNonD, withinD] at ha
    have el := lrg_run m st ha.1 (by omega)
    have ee : eqM (.lst ((sortI (vNs lists)).map D.int)) (.lst ((rngI m).map D.int)) st = .ok (.bl (decide (sortI (vNs lists) = rngI (rngM (.int m) (vNs lists).length)))) st := eqM_ints_b _ _ _ (by rw [decide_eq_true_iff]; exact Iff.rfl) st
    generalize decide (sortI (vNs lists) = rngI (rngM (.int m) (vNs lists).length)) = qq at ee ⊢
    simp [lv8, frz, es, ix0, isNonD, e5, el, ee]
theorem F_law_view_run {bs : List Nat} (hs : sml bs) (hb : bs.length ≤ 60) (L : Int) (hL : L ≤ 4) (d : D) (st : Sto) (h : nice bs d = true) : F__law_is_view [.int L, d] st = .ok (.bl (viewOk L d)) st := by
  have hi := isiM_run d "tuple" st (nice_ty h) (by simp)
  cases d with
  | tup xs =>
    obtain ⟨b, bs', rfl, hs', _, hx⟩ := nice_tup hs h
    have hb' : bs'.length ≤ 60 := by simp at hb; omega
    simp only [tyIs, tyD] at hi
    match xs, hx with
    | [], _ => simp [F__law_is_view, b__law_is_view, hi, viewOk]
    | [_], _ => simp [F__law_is_view, b__law_is_view, hi, viewOk]
    | x :: y :: z :: r, _ =>
      have : ¬ ((r.length : Int) + 1 + 1 + 1 = 2) := by omega
      simp [F__law_is_view, b__law_is_view, hi, viewOk, this]
    | [a, b], hx =>
      have ix0 : atI [a, b] 0 = some a := rfl
      have e2 := F_count_run a st (nice_ty (hx a (by simp)))
      cases ha : aOk a with
      | false =>
        have c1 : isNonD a = false := by cases h : isNonD a <;> simp [aOk, h] at ha ⊢
        have c2 : withinD a 0 60 = false := by cases h : withinD a 0 60 <;> simp [aOk, h] at ha ⊢
        have ev : viewOk L (.tup [a, b]) = false := by cases b <;> simp [viewOk, ha]
        rw [ev]
        cases a with
        | int m =>
          by_cases q : 0 ≤ m
          · have : ¬ m < 61 := by simp [withinD] at c2; omega
            simp [F__law_is_view, b__law_is_view, hi, ix0, e2, countD, isNonD, q, this]
          · simp [F__law_is_view, b__law_is_view, hi, ix0, e2, countD, isNonD, q]
        | non => simp [isNonD] at c1
        | _ => simp [F__law_is_view, b__law_is_view, hi, ix0, e2, countD, isNonD]
      | true =>
        have hbn := hx b (by simp)
        cases b with
        | tup lists =>
          obtain ⟨b1, bs2, e0, hs2, hlen, hln⟩ := nice_tup hs' hbn
          refine run_rt rfl ?_
          rw [lv_eq]
          show seqS lv1 _ (lvE L (.tup [a, .tup lists]) none none) st = _
          rw [seq_nx (lv1_run L a _ st ha)]
          have h2 := lv2_run L a lists st
          by_cases cn : (lists.length : Int) = L
          · rw [if_pos cn] at h2
            have h20 : lists.length ≤ 20 := by omega
            rw [seq_nx h2]
            have h3 := lv3_run hs2 L a lists st hlen hln
            cases cq : lists.all vOk with
            | false =>
              rw [cq] at h3
              rw [seq_rt h3]
              simp [viewOk, lookOk, cq]
            | true =>
              rw [cq] at h3
              rw [seq_nx h3]
              have hv := VOk_of hs2 hln cq
              obtain ⟨x', h45⟩ := lv45_run L a lists st hv h20
              have h6 := lv6_run L a lists x' st hv h20 ha
              have h7 := lv7_run hs' hb' L a lists (some (.d (.lst (vPl lists)))) x' st hbn
              have h8 := lv8_run L a lists x' st hv h20 ha
              have assoc : seqS lv4 (seqS lv5 (seqS lv6 (seqS lv7 lv8))) (lvE L (.tup [a, .tup lists]) none none) st = seqS (seqS lv4 lv5) (seqS lv6 (seqS lv7 lv8)) (lvE L (.tup [a, .tup lists]) none none) st := by
                simp only [seqS_run, bind_run]
                cases lv4 (lvE L (.tup [a, .tup lists]) none none) st with
                | ok fl s => cases fl <;> rfl
                | exc x s => rfl
                | bad => rfl
              rw [assoc, seq_nx h45]
              by_cases hf : (firstI (vNs lists)).length = (vNs lists).length
              · have ev : viewOk L (.tup [a, .tup lists]) = lawTail a lists := by
                  rw [tail_eq a lists hv (firstI_nodup hf) ha]
                  simp [viewOk, lookOk, cq, cn, hf, ha]
                rw [ev]
                cases ho : overI a (vNs lists) with
                | true =>
                  rw [if_neg (by simp [ho])] at h6
                  rw [seq_rt h6]
                  simp [lawTail, ho]
                | false =>
                  rw [if_pos (by simp [hf, ho])] at h6
                  rw [seq_nx h6]
                  cases hc : lists.any isNonD with
                  | true =>
                    rw [hc] at h7
                    rw [seq_rt h7]
                    simp [lawTail, ho, hc]
                  | false =>
                    rw [hc] at h7
                    rw [seq_nx h7, h8]
                    simp [lawTail, ho, hc]
              · rw [if_neg (by simp [hf])] at h6
                rw [seq_rt h6]
                simp [viewOk, lookOk, cq, cn, hf]
          · rw [if_neg cn] at h2
            rw [seq_rt h2]
            simp [viewOk, lookOk, cn]
        | _ => (rw [lv_non L a _ st (nice_ty hbn) (fun _ => nofun) ha]; simp [viewOk])
  | _ => first | (simp [tyIs, tyD] at hi; simp [F__law_is_view, b__law_is_view, hi, viewOk]) | (cases bs <;> simp [nice] at h)
theorem F_check_run (L : Int) (h1 : 1 ≤ L) (h4 : L ≤ 4) (st : Sto) : F_check_letters [.int L] st = .ok .non st := by
  have e := F_is_within_run (.int L) 1 4 st rfl
  simp [withinD, h1, h4] at e
  simp [F_check_letters, b_check_letters, e]
theorem F_is_view_run {bs : List Nat} (hs : sml bs) (L : Int) (h1 : 1 ≤ L) (h4 : L ≤ 4) (d : D) (st : Sto) (h : nice bs d = true) : F_is_view [.int L, d] st = .ok (.bl (viewOk L d)) st := by
  simp [F_is_view, b_is_view, F_check_run L h1 h4, F_view_of_run hs L h4 d st h]
end Dd

set_option Elab.async false
set_option linter.all false
set_option maxRecDepth 100000
/-! the plain law, part Q: the draws. -/
namespace Dd
open PySem PySem.Spec PyProof.Rows
open L2 (atI ixN Key)
/-- the shared list of two numbers that the draws go on from -/
def Pot (n : Nat) (st : Sto) : Prop := ∃ a b : Int, st[n]? = some (some (.lst [.int a, .int b])) ∧ 0 ≤ a ∧ 0 ≤ b ∧ b < 2147483564
/-- it runs well and keeps that list -/
def Go {α : Type} (n : Nat) (m : M α) (P : α → Prop) : Prop := ∀ st, Pot n st → ∃ a st', m st = .ok a st' ∧ Pot n st' ∧ P a
theorem Go.pure {α : Type} {n : Nat} {a : α} {P : α → Prop} (h : P a) : Go n (Pure.pure a : M α) P := fun st p => ⟨a, st, rfl, p, h⟩
theorem Go.bind {α β : Type} {n : Nat} {m : M α} {k : α → M β} {P : α → Prop} {Q : β → Prop} (h : Go n m P) (h2 : ∀ a, P a → Go n (k a) Q) : Go n (m >>= k) Q := fun st p => by
  obtain ⟨a, st', e, p', ha⟩ := h st p
  obtain ⟨b, st2, e2, p2, hb⟩ := h2 a ha st' p'
  exact ⟨b, st2, by rw [bind_run, e]; exact e2, p2, hb⟩
theorem Go.mono {α : Type} {n : Nat} {m : M α} {P Q : α → Prop} (h : Go n m P) (i : ∀ a, P a → Q a) : Go n m Q := fun st p => by
  obtain ⟨a, st', e, p', ha⟩ := h st p
  exact ⟨a, st', e, p', i a ha⟩
theorem Go.run {α : Type} {n : Nat} {m : M α} {a : α} {P : α → Prop} (e : ∀ st, m st = .ok a st) (h : P a) : Go n m P := fun st p => ⟨a, st, e st, p, h⟩
theorem Go.of {α : Type} {n : Nat} {m m' : M α} {P : α → Prop} (h : Go n m' P) (e : ∀ st, m st = m' st) : Go n m P := fun st p => by
  obtain ⟨a, st', e1, p', ha⟩ := h st p
  exact ⟨a, st', by rw [e, e1], p', ha⟩
@[simp] theorem ixB_0 (n : Nat) (st : Sto) (a b : D) (h : st[n]? = some (some (.lst [a, b]))) : ixB (.ref n) (.int 0) st = .ok a st := by
  have : atI [a, b] 0 = some a := rfl
  simp [ixB, h, this]
@[simp] theorem ixB_1 (n : Nat) (st : Sto) (a b : D) (h : st[n]? = some (some (.lst [a, b]))) : ixB (.ref n) (.int 1) st = .ok b st := by
  have : atI [a, b] 1 = some b := rfl
  simp [ixB, h, this]
theorem bset_ok {fo fi : EnvD → M D} {env : EnvD} {d : D} {st : Sto} {n : Nat} {k : Int} {xs : List D} {j : Nat} (h1 : fo env st = .ok (.ref n) st) (h2 : fi env st = .ok (.int k) st) (h3 : st[n]? = some (some (.lst xs))) (h4 : ixN xs.length k = some j) : bsetG fo fi d env st = .ok env (st.set n (some (.lst (xs.set j d)))) := by
  simp only [bsetG, Bind.bind, M.bind, h1, h2, h3, h4]
theorem F_draw_go (n : Nat) (many : Int) (h0 : 0 < many) (h1 : many < 1073741824) : Go n (F__law_draw [.ref n, .int many]) (fun d => ∃ k : Int, d = .int k ∧ 0 ≤ k ∧ k < many) := fun st ⟨a, b, e, ha, hb, hb2⟩ => by
  have hn : n < st.length := by
    rcases Nat.lt_or_ge n st.length with h | h
    · exact h
    · rw [List.getElem?_eq_none h] at e; cases e
  have i20 : ixN 2 0 = some 0 := rfl
  have i21 : ixN 2 1 = some 1 := rfl
  by_cases c : 0 < a
  · have e1 : F__law_draw [.ref n, .int many] st = .ok (.int (a % many)) (st.set n (some (.lst [.int (a / many), .int b]))) := by
      have cd : L2.CDiv a many := ⟨h0, h1⟩
      have eb : bsetG (varE 0) (cstE (.int 0)) (.int (a / many)) [some (.d (.ref n)), some (.d (.int many)), none] st = .ok [some (.d (.ref n)), some (.d (.int many)), none] (st.set n (some (.lst [.int (a / many), .int b]))) := bset_ok (xs := [.int a, .int b]) (k := 0) (by simp) (by simp) e i20
      simp [F__law_draw, b__law_draw, ixB_0 n st _ _ e, c, divmodM, cd, tupGm, consGm, nilGm, eb, pureG]
    refine ⟨_, _, e1, ⟨a / many, b, ?_, Int.ediv_nonneg ha (by omega), hb, hb2⟩, _, rfl, Int.emod_nonneg _ (by omega), Int.emod_lt_of_pos _ h0⟩
    rw [List.getElem?_set_self hn]
  · have e1 : F__law_draw [.ref n, .int many] st = .ok (.int (((b * 40692 + 9901) % 2147483563 * ((b * 40692 + 9901) % 2147483563)) % 2147483549 / 19 % many)) (st.set n (some (.lst [.int a, .int ((b * 40692 + 9901) % 2147483563)]))) := by
      have cm : L2.CMul b 40692 := .inl ⟨by omega, by omega⟩
      have q0 : 0 ≤ (b * 40692 + 9901) % 2147483563 := Int.emod_nonneg _ (by omega)
      have q1 : (b * 40692 + 9901) % 2147483563 < 2147483563 := Int.emod_lt_of_pos _ (by omega)
      generalize hq : (b * 40692 + 9901) % 2147483563 = q at q0 q1 ⊢
      have cm2 : L2.CMul q q := .inl ⟨by omega, by omega⟩
      have cd : L2.CDiv (q * q % 2147483549) 19 := ⟨by omega, by omega⟩
      have e2 : (st.set n (some (.lst [.int a, .int q])))[n]? = some (some (.lst [.int a, .int q])) := by rw [List.getElem?_set_self hn]
      have eb : bsetG (varE 0) (cstE (.int 1)) (.int q) [some (.d (.ref n)), some (.d (.int many)), none] st = .ok [some (.d (.ref n)), some (.d (.int many)), none] (st.set n (some (.lst [.int a, .int q]))) := bset_ok (xs := [.int a, .int b]) (k := 1) (by simp) (by simp) e i21
      simp [F__law_draw, b__law_draw, ixB_0 n st _ _ e, ixB_1 n st _ _ e, c, mulA, mulM, cm, intM, modM, hq, eb, ixB_1 n _ _ _ e2, cm2, fdivM, cd, h0]
    refine ⟨_, _, e1, ⟨a, (b * 40692 + 9901) % 2147483563, ?_, ha, Int.emod_nonneg _ (by omega), ?_⟩, _, rfl, Int.emod_nonneg _ (by omega), Int.emod_lt_of_pos _ h0⟩
    · rw [List.getElem?_set_self hn]
    · have := Int.emod_lt_of_pos (b * 40692 + 9901) (show (0 : Int) < 2147483563 by omega)
      omega
end Dd

set_option Elab.async false
set_option linter.all false
set_option maxRecDepth 100000
/-! the plain law, part R: drawn texts. -/
namespace Dd
open PySem PySem.Spec PyProof.Rows
open L2 (atI ixN Key cutS)
def tx (cs : List Nat) : D := .str ⟨cs.toArray⟩
def Let (L : Int) (c : Nat) : Prop := 97 ≤ c ∧ (c : Int) < 97 + L
theorem four {L : Int} (h1 : 1 ≤ L) (h4 : L ≤ 4) : L = 1 ∨ L = 2 ∨ L = 3 ∨ L = 4 := by omega
theorem cut_1 : cutS ("abcd" : Str) none (some 1) = ⟨[97].toArray⟩ := by decide +kernel
theorem cut_2 : cutS ("abcd" : Str) none (some 2) = ⟨[97, 98].toArray⟩ := by decide +kernel
theorem cut_3 : cutS ("abcd" : Str) none (some 3) = ⟨[97, 98, 99].toArray⟩ := by decide +kernel
theorem cut_4 : cutS ("abcd" : Str) none (some 4) = ⟨[97, 98, 99, 100].toArray⟩ := by decide +kernel
theorem abcd_4 : ("abcd" : Str).length = 4 := by decide +kernel
theorem slM_abcd (L : Int) (st : Sto) : slM (.str "abcd") none (some L) st = .ok (.str (cutS "abcd" none (some L))) st := by
  have : (4 : Nat) ≤ sizeLine := by decide
  simp [slM, abcd_4, this]
def lets (L : Int) : List Nat := [97, 98, 99, 100].take L.toNat
theorem cut_lets {L : Int} (h1 : 1 ≤ L) (h4 : L ≤ 4) : cutS ("abcd" : Str) none (some L) = ⟨(lets L).toArray⟩ := by
  rcases four h1 h4 with rfl | rfl | rfl | rfl
  · exact cut_1
  · exact cut_2
  · exact cut_3
  · exact cut_4
theorem lets_len {L : Int} (h1 : 1 ≤ L) (h4 : L ≤ 4) : ((lets L).length : Int) = L := by
  rcases four h1 h4 with rfl | rfl | rfl | rfl <;> rfl
theorem lets_mem {L : Int} (h1 : 1 ≤ L) (h4 : L ≤ 4) (c : Nat) : c ∈ lets L ↔ Let L c := by
  unfold Let
  rcases four h1 h4 with rfl | rfl | rfl | rfl <;> simp [lets] <;> omega
theorem at_ok {α : Type} (xs : List α) (i : Int) (h0 : 0 ≤ i) (h1 : i < xs.length) : ∃ d, atI xs i = some d ∧ d ∈ xs := by
  have h2 : i.toNat < xs.length := by omega
  refine ⟨xs[i.toNat], ?_, List.getElem_mem h2⟩
  simp [atI, ixN, h0, h1]
theorem ixM_str (z : Str) (i : Int) (c : Nat) (st : Sto) (hz : z.length ≤ 1000) (h : atI z.cps.toList i = some c) : ixM (.str z) (.int i) st = .ok (tx [c]) st := by
  have : z.length ≤ sizeLine := szl2 (by omega)
  simp [ixM, this, h, tx]
theorem F_pick_go (n : Nat) (L : Int) (h1 : 1 ≤ L) (h4 : L ≤ 4) : Go n (F__law_pick [.ref n, .str (cutS "abcd" none (some L))]) (fun d => ∃ c, d = tx [c] ∧ Let L c) := fun st p => by
  have e0 := cut_lets h1 h4
  have hl := lets_len h1 h4
  have hz : (cutS ("abcd" : Str) none (some L)).length = (lets L).length := by rw [e0]; simp [Str.length]
  obtain ⟨_, st', e, p', k, rfl, k0, k1⟩ := F_draw_go n ((lets L).length : Int) (by omega) (by omega) st p
  obtain ⟨c, hc, hm⟩ := at_ok (lets L) k k0 k1
  have e2 : ixM (.str (cutS "abcd" none (some L))) (.int k) st' = .ok (tx [c]) st' := ixM_str _ k c st' (by omega) (by rw [e0]; exact hc)
  have hs : (cutS ("abcd" : Str) none (some L)).length ≤ sizeLine := szl2 (by omega)
  rw [← hz] at e
  refine ⟨tx [c], st', ?_, p', c, rfl, (lets_mem h1 h4 c).mp hm⟩
  generalize hq : cutS ("abcd" : Str) none (some L) = q at e e2 hs ⊢
  simp [F__law_pick, b__law_pick, hs, e, e2]
theorem Go_lc {n : Nat} {tg : D → EnvD → Option EnvD} {fe : EnvD → M D} {env : EnvD} (P : D → Prop) : ∀ xs : List D, (∀ x ∈ xs, ∃ e, tg x env = some e ∧ Go n (fe e) P) → Go n (lcL tg yesT fe env xs) fun ys => ys.length = xs.length ∧ ∀ y ∈ ys, P y
  | [], _ => Go.pure (by simp)
  | x :: xs, H => by
    obtain ⟨e, h1, h2⟩ := H x (by simp)
    have : ∀ st, lcL tg yesT fe env (x :: xs) st = (fe e >>= fun y => lcL tg yesT fe env xs >>= fun ys => (Pure.pure (y :: ys) : M (List D))) st := fun st => by simp [lcL, h1, yesT]
    refine Go.of (h2.bind fun y hy => (Go_lc P xs fun z hz => H z (by simp [hz])).bind fun ys hys => Go.pure ?_) this
    refine ⟨by simp [hys.1], fun z hz => ?_⟩
    simp only [List.mem_cons] at hz
    rcases hz with rfl | hz
    · exact hy
    · exact hys.2 z hz
theorem Go_lcf {n : Nat} {tg : D → EnvD → Option EnvD} {ft : EnvD → M Bool} {fe : EnvD → M D} {env : EnvD} (P : D → Prop) : ∀ xs : List D, (∀ x ∈ xs, ∃ e, tg x env = some e ∧ Go n (ft e) (fun _ => True) ∧ Go n (fe e) P) → Go n (lcL tg ft fe env xs) fun ys => ys.length ≤ xs.length ∧ ∀ y ∈ ys, P y
  | [], _ => Go.pure (by simp)
  | x :: xs, H => by
    obtain ⟨e, h1, h2, h3⟩ := H x (by simp)
    have ih := Go_lcf P xs fun z hz => H z (by simp [hz])
    have : ∀ st, lcL tg ft fe env (x :: xs) st = (ft e >>= fun b => if b = true then fe e >>= fun y => lcL tg ft fe env xs >>= fun ys => (Pure.pure (y :: ys) : M (List D)) else lcL tg ft fe env xs) st := fun st => by simp [lcL, h1]
    refine Go.of (h2.bind fun b _ => ?_) this
    cases b with
    | true =>
      rw [if_pos rfl]
      refine h3.bind fun y hy => ih.bind fun ys hys => Go.pure ?_
      refine ⟨by simp; exact hys.1, fun z hz => ?_⟩
      simp only [List.mem_cons] at hz
      rcases hz with rfl | hz
      · exact hy
      · exact hys.2 z hz
    | false =>
      rw [if_neg (by decide)]
      exact ih.mono fun ys hys => ⟨by simp; omega, hys.2⟩
theorem ex_map {α : Type} {f : α → D} {Q : α → Prop} : ∀ ys : List D, (∀ y ∈ ys, ∃ a, y = f a ∧ Q a) → ∃ cs : List α, ys = cs.map f ∧ ∀ c ∈ cs, Q c
  | [], _ => ⟨[], rfl, by simp⟩
  | y :: ys, H => by
    obtain ⟨a, rfl, ha⟩ := H y (by simp)
    obtain ⟨cs, rfl, hc⟩ := ex_map ys fun z hz => H z (by simp [hz])
    refine ⟨a :: cs, rfl, fun c hc' => ?_⟩
    simp only [List.mem_cons] at hc'
    rcases hc' with rfl | h
    · exact ha
    · exact hc c h
theorem empty_str : ("" : Str) = ⟨#[]⟩ := by decide +kernel
theorem join_ones : ∀ cs : List Nat, Str.join "" (cs.map fun c => (⟨#[c]⟩ : Str)) = ⟨cs.toArray⟩
  | [] => rfl
  | [c] => rfl
  | c :: d :: r => by
    have ih := join_ones (d :: r)
    show (⟨#[c]⟩ : Str) ++ "" ++ Str.join "" ((d :: r).map fun c => (⟨#[c]⟩ : Str)) = _
    rw [ih, empty_str]
    show (⟨(#[c] ++ #[]) ++ (d :: r).toArray⟩ : Str) = _
    simp
theorem strs_ones : ∀ cs : List Nat, strsD (cs.map fun c => tx [c]) = some (cs.map fun c => (⟨#[c]⟩ : Str))
  | [] => rfl
  | c :: r => by simp [strsD, tx, show strsD (r.map fun c => D.str ⟨[c].toArray⟩) = _ from strs_ones r]
theorem sum_ones : ∀ cs : List Nat, ((cs.map fun c => (⟨#[c]⟩ : Str)).map (·.length)).sum = cs.length
  | [] => rfl
  | c :: r => by
    have := sum_ones r
    simp only [List.map_cons, List.sum_cons, this, List.length_cons]
    show 1 + _ = _
    omega
theorem joinM_ones (cs : List Nat) (h : cs.length ≤ 1000) (st : Sto) : joinM "" (.lst (cs.map fun c => tx [c])) st = .ok (tx cs) st := by
  have e0 : ("" : Str).length = 0 := by decide +kernel
  have h2 : ((cs.map fun c => (⟨#[c]⟩ : Str)).map (·.length)).sum + (cs.map fun c => (⟨#[c]⟩ : Str)).length * ("" : Str).length ≤ 16777216 := by rw [sum_ones, e0]; omega
  have e : Txt.join "" (cs.map fun c => (⟨#[c]⟩ : Str)) = ⟨cs.toArray⟩ := (StrLaws.glued_eq_join _ _).trans (join_ones cs)
  simp only [joinM, strs_ones, if_pos h2, e]
  rfl
theorem small_of {i : Int} (h : -1000 ≤ i) (h2 : i ≤ 100000) : small i := ⟨by omega, by omega⟩
theorem F_text_go (n : Nat) (L m : Int) (h1 : 1 ≤ L) (h4 : L ≤ 4) (m0 : 0 ≤ m) (m1 : m ≤ 100) : Go n (F__law_text [.ref n, .int L, .int m]) (fun d => ∃ cs : List Nat, d = tx cs ∧ (cs.length : Int) ≤ m ∧ ∀ c ∈ cs, Let L c) := fun st p => by
  obtain ⟨_, st1, e1, p1, k, rfl, k0, k1⟩ := F_draw_go n (m + 1) (by omega) (by omega) st p
  have sk : small k := small_of (by omega) (by omega)
  have lk : (rngD 0 k.toNat).length ≤ sizeLine := by rw [show (rngD 0 k.toNat).length = k.toNat by simp [rngD]]; exact szl2 (by omega)
  obtain ⟨ys, st2, e2, p2, l2, h2⟩ := Go_lc (n := n) (tg := nameG 3) (fe := callW F__law_pick (consA (varE 0) (consA (slE (cstE (.str "abcd")) noE (partE (varE 1))) (nilA)))) (env := [some (.d (.ref n)), some (.d (.int L)), some (.d (.int m)), none]) (fun d => ∃ c, d = tx [c] ∧ Let L c) (rngD 0 k.toNat)
    (fun x hx => ⟨_, rfl, Go.of (F_pick_go n L h1 h4) fun st => by simp [slM_abcd]⟩) st1 p1
  obtain ⟨cs, rfl, hc⟩ := ex_map ys h2
  have hl : cs.length = k.toNat := by simpa [rngD] using l2
  have e3 := joinM_ones cs (by omega) st2
  refine ⟨tx cs, st2, ?_, p2, cs, rfl, by omega, hc⟩
  simp [F__law_text, b__law_text, e1, rngM1, sk, lk, e2, e3]
theorem F_texts_go (n : Nat) (L many m : Int) (h1 : 1 ≤ L) (h4 : L ≤ 4) (a0 : 0 ≤ many) (a1 : many ≤ 100) (m0 : 0 ≤ m) (m1 : m ≤ 100) : Go n (F__law_texts_drawn [.ref n, .int L, .int many, .int m]) (fun d => ∃ ts : List D, d = .lst ts ∧ (ts.length : Int) ≤ many ∧ ∀ t ∈ ts, t = .non ∨ ∃ cs : List Nat, t = tx cs ∧ (cs.length : Int) ≤ m ∧ ∀ c ∈ cs, Let L c) := fun st p => by
  obtain ⟨_, st1, e1, p1, k, rfl, k0, k1⟩ := F_draw_go n (many + 1) (by omega) (by omega) st p
  have sk : small k := small_of (by omega) (by omega)
  have lk : (rngD 0 k.toNat).length ≤ sizeLine := by rw [show (rngD 0 k.toNat).length = k.toNat by simp [rngD]]; exact szl2 (by omega)
  obtain ⟨ys, st2, e2, p2, l2, h2⟩ := Go_lc (n := n) (tg := nameG 4) (fe := iteE (tstE (binE eqM (callW F__law_draw (consA (varE 0) (consA (cstE (.int 6)) (nilA)))) (cstE (.int 0)))) (cstE .non) (callW F__law_text (consA (varE 0) (consA (varE 1) (consA (varE 3) (nilA)))))) (env := [some (.d (.ref n)), some (.d (.int L)), some (.d (.int many)), some (.d (.int m)), none]) (fun t => t = .non ∨ ∃ cs : List Nat, t = tx cs ∧ (cs.length : Int) ≤ m ∧ ∀ c ∈ cs, Let L c) (rngD 0 k.toNat)
    (fun x hx => ⟨_, rfl, fun st q => by
      obtain ⟨_, st3, e3, p3, j, rfl, _, _⟩ := F_draw_go n 6 (by omega) (by omega) st q
      by_cases c : j = 0
      · exact ⟨.non, st3, by simp [e3, c], p3, .inl rfl⟩
      · obtain ⟨t, st4, e4, p4, ht⟩ := F_text_go n L m h1 h4 m0 m1 st3 p3
        exact ⟨t, st4, by simp [e3, c, e4], p4, .inr ht⟩⟩) st1 p1
  refine ⟨.lst ys, st2, ?_, p2, ys, rfl, ?_, h2⟩
  · simp [F__law_texts_drawn, b__law_texts_drawn, e1, rngM1, sk, lk, e2]
  · have : ys.length = k.toNat := by simpa [rngD] using l2
    omega
end Dd

set_option Elab.async false
set_option linter.all false
set_option maxRecDepth 100000
/-! the plain law, part S: postings and views of texts by the law's own hand. -/
namespace Dd
open PySem PySem.Spec PyProof.Rows
open L2 (atI ixN Key cutS)
/-- the places of a letter -/
def posN (s : Nat) : Nat → List Nat → List Nat
  | _, [] => []
  | k, c :: cs => if c = s then k :: posN s (k + 1) cs else posN s (k + 1) cs
def intN (n : Nat) : D := .int (n : Int)
theorem posN_mem (s : Nat) : ∀ (cs : List Nat) (k i : Nat), i ∈ posN s k cs → k ≤ i ∧ i < k + cs.length
  | [], _, _, h => by simp [posN] at h
  | c :: cs, k, i, h => by
    unfold posN at h
    split at h
    · simp only [List.mem_cons] at h
      rcases h with rfl | h
      · simp
      · have := posN_mem s cs (k + 1) i h
        simp; omega
    · have := posN_mem s cs (k + 1) i h
      simp; omega
theorem posN_len (s : Nat) : ∀ (cs : List Nat) (k : Nat), (posN s k cs).length ≤ cs.length
  | [], _ => by simp [posN]
  | c :: cs, k => by
    have := posN_len s cs (k + 1)
    unfold posN
    split <;> simp <;> omega
theorem one_eq (c s : Nat) : ((⟨#[c]⟩ : Str) = ⟨#[s]⟩) ↔ c = s := by simp
def chD (cs : List Nat) : List D := cs.map fun c => .str ⟨#[c]⟩
/-- [place for place, one in enumerate(text) if one == sign] -/
theorem lc_pos (s : Nat) (a b i : Nat) (env : EnvD) (st : Sto) (ha : a < env.length) (hb : b < env.length) (hab : a ≠ b) (hia : i ≠ a) (hib : i ≠ b) (hs : env[i]? = some (some (.d (.str ⟨#[s]⟩)))) : ∀ (cs : List Nat) (k : Nat),
    lcL (tupG 2 (consG (nameG a) (consG (nameG b) nilG))) (tstE (binE eqM (varE b) (varE i))) (varE a) env (enumD k (chD cs)) st = .ok ((posN s k cs).map intN) st
  | [], _ => rfl
  | c :: cs, k => by
    have ih := lc_pos s a b i env st ha hb hab hia hib hs cs (k + 1)
    have e1 : ((env.set a (some (.d (.int (k : Int))))).set b (some (.d (.str ⟨#[c]⟩))))[i]? = some (some (.d (.str ⟨#[s]⟩))) := by
      rw [List.getElem?_set_ne (Ne.symm hib), List.getElem?_set_ne (Ne.symm hia), hs]
    have e2 : ((env.set a (some (.d (.int (k : Int))))).set b (some (.d (.str ⟨#[c]⟩))))[b]? = some (some (.d (.str ⟨#[c]⟩))) := by
      rw [List.getElem?_set_self (by simpa using hb)]
    have e3 : ((env.set a (some (.d (.int (k : Int))))).set b (some (.d (.str ⟨#[c]⟩))))[a]? = some (some (.d (.int (k : Int)))) := by
      rw [List.getElem?_set_ne (Ne.symm hab), List.getElem?_set_self ha]
    show lcL _ _ _ env (.tup [.int (k : Int), .str ⟨#[c]⟩] :: enumD (k + 1) (chD cs)) st = _
    have ht : tupG 2 (consG (nameG a) (consG (nameG b) nilG)) (.tup [.int (k : Int), .str ⟨#[c]⟩]) env = some ((env.set a (some (.d (.int (k : Int))))).set b (some (.d (.str ⟨#[c]⟩)))) := rfl
    by_cases h : c = s
    · subst h
      simp [lcL, ht, e1, e2, e3, ih, posN, intN]
    · have : ¬ ((⟨#[c]⟩ : Str) = ⟨#[s]⟩) := fun z => h ((one_eq c s).mp z)
      simp only [lcL, ht, bind_run, tstE_run, binE_run, varE_run, e1, e2, pure_run, eqM_str, boolD_bl, decide_eq_false this, posN, if_neg h]
      simp
      exact ih
theorem tx_it (cs : List Nat) : itM (tx cs) = pure (chD cs) := by simp [tx, chD]
theorem ne_nil_ints (ps : List Nat) (st : Sto) : neM (.tup (ps.map intN)) (.tup []) st = .ok (.bl (!decide (ps = []))) st := by
  have e : ps.map intN = (ps.map fun (n : Nat) => (n : Int)).map D.int := by simp [intN]
  have h1 : shp (.tup (ps.map intN)) = some (.tuple ((ps.map fun (n : Nat) => (n : Int)).map PyData.int)) := by
    rw [e]
    simp [shp, toP, toPs_ints, SeqAt.shaped, PyData.canLay0, lay_ints, PyData.depth, dep_ints, -List.map_map]
  show neP _ _ st = _
  simp only [neP, h1, shp_nil]
  cases ps with
  | nil => rfl
  | cons p r => simp [PyData.eqv, PyData.eqvAll]
theorem tyt (xs : List D) (st : Sto) : tupleM [.lst xs] st = .ok (.tup xs) st := rfl
/-! ### postings -/
/-- a text, or None -/
def texD : Option (List Nat) → D
  | none => .non
  | some cs => tx cs
def plsO (s : Nat) : Option (List Nat) → List Nat
  | none => []
  | some cs => posN s 0 cs
def rowsO (s : Nat) : Nat → List (Option (List Nat)) → List D
  | _, [] => []
  | k, t :: ts => if plsO s t = [] then rowsO s (k + 1) ts else .tup [.int (k : Int), .tup ((plsO s t).map intN)] :: rowsO s (k + 1) ts
def lenO : Option (List Nat) → D
  | none => .non
  | some cs => .int (cs.length : Int)
theorem rowsO_len (s : Nat) : ∀ (ts : List (Option (List Nat))) (k : Nat), (rowsO s k ts).length ≤ ts.length
  | [], _ => by simp [rowsO]
  | t :: ts, k => by
    have := rowsO_len s ts (k + 1)
    unfold rowsO
    split <;> simp <;> omega
def bp7 : EnvD → M Fl := setS 7 (iteE (tstE (binE isntM (varE 6) (cstE .non))) (biE tupleM (consA (lcE (enumI (varE 6)) (tupG 2 (consG (nameG 8) (consG (nameG 9) (nilG)))) (tstE (binE eqM (varE 9) (varE 3))) (varE 8) [8, 9]) (nilA))) (tupE (nilA)))
def bpI : EnvD → M Fl := ifS (tstE (binE neM (varE 7) (tupE (nilA)))) (growS oneD 4 (tupE (consA (varE 5) (consA (varE 7) (nilA))))) (nxtS)
theorem bp7_run (s : Nat) (A B C F G H I J : Option EV) (t : Option (List Nat)) (ht : ∀ cs, t = some cs → cs.length ≤ 1000) (st : Sto) : bp7 [A, B, C, some (.d (.str ⟨#[s]⟩)), F, G, some (.d (texD t)), H, I, J] st = .ok (.nx [A, B, C, some (.d (.str ⟨#[s]⟩)), F, G, some (.d (texD t)), some (.d (.tup ((plsO s t).map intN))), I, J]) st := by
  have l2 : sizeLine ≥ 1000 := by decide
  cases t with
  | none => simp [bp7, texD, isNonD, plsO]
  | some cs =>
    have hl := ht cs rfl
    have e := lc_pos s 8 9 3 [A, B, C, some (.d (.str ⟨#[s]⟩)), F, G, some (.d (tx cs)), H, none, none] st (by simp) (by simp) (by decide) (by decide) (by decide) rfl cs 0
    have hn : isNonD (tx cs) = false := rfl
    have hz : (enumD 0 (chD cs)).length ≤ sizeLine := by rw [enumD_length]; simp [chD]; omega
    simp [bp7, texD, hn, tx_it, hz, e, tyt, plsO]
theorem bpI_run (s : Nat) (A B C F G H I J : Option EV) (k : Nat) (ps : List Nat) (acc : List D) (ha : acc.length ≤ 1000) (st : Sto) : bpI [A, B, C, F, some (.own acc), some (.d (.int (k : Int))), G, some (.d (.tup (ps.map intN))), I, J] st =
    .ok (.nx [A, B, C, F, some (.own (if ps = [] then acc else acc ++ [.tup [.int (k : Int), .tup (ps.map intN)]])), some (.d (.int (k : Int))), G, some (.d (.tup (ps.map intN))), I, J]) st := by
  have e := ne_nil_ints ps st
  have l2 : 2 ≤ sizeLine := by decide
  have l3 : acc.length + 1 ≤ sizeLine := szl2 (by omega)
  by_cases h : ps = []
  · subst h
    simp at e
    simp [bpI, e]
  · simp [h] at e
    simp [bpI, e, h, growS, oneD, l2, l3]
theorem loop_po (s : Nat) (A B C : Option EV) (st : Sto) : ∀ (ts : List (Option (List Nat))), (∀ t ∈ ts, ∀ cs, t = some cs → cs.length ≤ 1000) → ∀ (k : Nat) (acc : List D) (G H I : Option EV), acc.length + ts.length ≤ 1000 → ∃ G' H' I',
    forL (tupG 2 (consG (nameG 5) (consG (nameG 6) nilG))) (seqS bp7 bpI) (enumD k (ts.map texD)) [A, B, C, some (.d (.str ⟨#[s]⟩)), some (.own acc), G, H, I, none, none] st = .ok (.nx [A, B, C, some (.d (.str ⟨#[s]⟩)), some (.own (acc ++ rowsO s k ts)), G', H', I', none, none]) st
  | [], _, k, acc, G, H, I, _ => ⟨G, H, I, by simp [enumD, forL, rowsO]⟩
  | t :: ts, hh, k, acc, G, H, I, hl => by
    simp only [List.length_cons] at hl
    have e7 := bp7_run s A B C (some (.own acc)) (some (.d (.int (k : Int)))) I none none t (fun cs hc => hh t (by simp) cs hc) st
    have eI := bpI_run s A B C (some (.d (.str ⟨#[s]⟩))) (some (.d (texD t))) none none none k (plsO s t) acc (by omega) st
    obtain ⟨G', H', I', ih⟩ := loop_po s A B C st ts (fun x hx => hh x (by simp [hx])) (k + 1) (if plsO s t = [] then acc else acc ++ [.tup [.int (k : Int), .tup ((plsO s t).map intN)]]) (some (.d (.int (k : Int)))) (some (.d (texD t))) (some (.d (.tup ((plsO s t).map intN)))) (by split <;> (try simp only [List.length_append, List.length_singleton]) <;> omega)
    refine ⟨G', H', I', ?_⟩
    show forL _ _ (.tup [.int (k : Int), texD t] :: enumD (k + 1) (ts.map texD)) _ st = _
    rw [forL_cons _ _ _ _ _ _ _ rfl]
    simp only [bind_run, List.set_cons_succ, List.set_cons_zero, seqS_run, e7, eI, ih]
    have er : (if plsO s t = [] then acc else acc ++ [.tup [.int (k : Int), .tup ((plsO s t).map intN)]]) ++ rowsO s (k + 1) ts = acc ++ rowsO s k (t :: ts) := by
      by_cases h : plsO s t = [] <;> simp [h, rowsO]
    rw [er]
def bpO : EnvD → M Fl := seqS (ownS 4 (nilA)) (seqS (forS (enumI (varE 1)) (tupG 2 (consG (nameG 5) (consG (nameG 6) (nilG)))) (seqS bp7 bpI)) (frzS 4 (growS oneD 2 (biE tupleM (consA (varE 4) (nilA))))))
theorem bpO_run (s : Nat) (A F G H I : Option EV) (ts : List (Option (List Nat))) (ht : ∀ t ∈ ts, ∀ cs, t = some cs → cs.length ≤ 1000) (hl : ts.length ≤ 500) (acc : List D) (ha : acc.length ≤ 500) (st : Sto) : ∃ F' G' H' I', bpO [A, some (.d (.lst (ts.map texD))), some (.own acc), some (.d (.str ⟨#[s]⟩)), F, G, H, I, none, none] st =
    .ok (.nx [A, some (.d (.lst (ts.map texD))), some (.own (acc ++ [.tup (rowsO s 0 ts)])), some (.d (.str ⟨#[s]⟩)), F', G', H', I', none, none]) st := by
  have l2 : (0 : Nat) ≤ sizeLine := by decide
  have l3 : acc.length + 1 ≤ sizeLine := szl2 (by omega)
  obtain ⟨G', H', I', e⟩ := loop_po s A (some (.d (.lst (ts.map texD)))) (some (.own acc)) st ts ht 0 [] G H I (by simp; omega)
  refine ⟨some (.d (.lst (rowsO s 0 ts))), G', H', I', ?_⟩
  rw [List.nil_append] at e
  simp [bpO, e, frz, growS, oneD, tyt, l3]
def lsts (ls : List Nat) (ts : List (Option (List Nat))) : List D := ls.map fun s => .tup (rowsO s 0 ts)
theorem loop_pO (A : Option EV) (ts : List (Option (List Nat))) (ht : ∀ t ∈ ts, ∀ cs, t = some cs → cs.length ≤ 1000) (hl : ts.length ≤ 500) (st : Sto) : ∀ (ls : List Nat) (acc : List D) (E F G H I : Option EV), acc.length + ls.length ≤ 400 → ∃ E' F' G' H' I',
    forL (nameG 3) bpO (chD ls) [A, some (.d (.lst (ts.map texD))), some (.own acc), E, F, G, H, I, none, none] st = .ok (.nx [A, some (.d (.lst (ts.map texD))), some (.own (acc ++ lsts ls ts)), E', F', G', H', I', none, none]) st
  | [], acc, E, F, G, H, I, _ => ⟨E, F, G, H, I, by simp [chD, forL, lsts]⟩
  | s :: ls, acc, E, F, G, H, I, h => by
    simp only [List.length_cons] at h
    obtain ⟨F1, G1, H1, I1, e⟩ := bpO_run s A F G H I ts ht hl acc (by omega) st
    obtain ⟨E', F', G', H', I', ih⟩ := loop_pO A ts ht hl st ls (acc ++ [.tup (rowsO s 0 ts)]) (some (.d (.str ⟨#[s]⟩))) F1 G1 H1 I1 (by simp; omega)
    refine ⟨E', F', G', H', I', ?_⟩
    show forL _ _ (.str ⟨#[s]⟩ :: chD ls) _ st = _
    rw [forL_cons _ _ _ _ _ _ _ rfl]
    simp only [bind_run, List.set_cons_succ, List.set_cons_zero, e, ih]
    simp [lsts]
theorem lc_lenO (A C E F G H : Option EV) (ts : List (Option (List Nat))) (ht : ∀ t ∈ ts, ∀ cs, t = some cs → cs.length ≤ 1000) (st : Sto) (X : Option EV) :
    lcL (nameG 6) yesT (iteE (tstE (binE isntM (varE 6) (cstE .non))) (biE lenM (consA (varE 6) (nilA))) (cstE .non)) [A, X, C, E, F, G, none, H, none, none] (ts.map texD) st = .ok (ts.map lenO) st := by
  induction ts with
  | nil => rfl
  | cons t ts ih =>
    have ih := ih fun x hx => ht x (by simp [hx])
    cases t with
    | none => simp [lcL, yesT, texD, isNonD, ih, lenO]
    | some cs =>
      have hl := ht _ (by simp) cs rfl
      have : (⟨cs.toArray⟩ : Str).length = cs.length := by simp [Str.length]
      have l2 : cs.length ≤ sizeLine := szl2 (by omega)
      simp [lcL, yesT, texD, tx, isNonD, ih, lenO, this, l2]
def postD (L : Int) (ts : List (Option (List Nat))) : D := .tup [.int L, .tup (ts.map lenO), .tup (lsts (lets L) ts)]
theorem F_postings_make (L : Int) (h1 : 1 ≤ L) (h4 : L ≤ 4) (ts : List (Option (List Nat))) (ht : ∀ t ∈ ts, ∀ cs, t = some cs → cs.length ≤ 1000) (hl : ts.length ≤ 400) (st : Sto) : F__law_postings [.int L, .lst (ts.map texD)] st = .ok (postD L ts) st := by
  have e0 := cut_lets h1 h4
  have el := lets_len h1 h4
  obtain ⟨E', F', G', H', I', e1⟩ := loop_pO (some (.d (.int L))) ts ht (by omega) st (lets L) [] none none none none none (by simp; omega)
  have hc : itM (.str (cutS "abcd" none (some L))) = pure (chD (lets L)) := by rw [e0]; simp [chD]
  have e2 := lc_lenO (some (.d (.int L))) (some (.d (.lst (lsts (lets L) ts)))) E' F' G' I' ts ht st (some (.d (.lst (ts.map texD))))
  have l2 : (ts.map texD).length ≤ sizeLine := szl2 (by simp; omega)
  have l0 : (0 : Nat) ≤ sizeLine := by decide
  have l3 : 3 ≤ sizeLine := by decide
  have eb : b__law_postings = seqS (ownS 2 (nilA)) (seqS (forS (anyI (slE (cstE (.str "abcd")) noE (partE (varE 0)))) (nameG 3) bpO)
    (frzS 2 (retS (tupE (consA (varE 0) (consA (biE tupleM (consA (lcE (anyI (varE 1)) (nameG 6) (yesT) (iteE (tstE (binE isntM (varE 6) (cstE .non))) (biE lenM (consA (varE 6) (nilA))) (cstE .non)) [6]) (nilA))) (consA (biE tupleM (consA (varE 2) (nilA))) (nilA)))))))) := rfl
  refine run_rt rfl ?_
  rw [eb]
  show seqS _ _ [some (.d (.int L)), some (.d (.lst (ts.map texD))), none, none, none, none, none, none, none, none] st = _
  simp only [seqS_run, bind_run, ownS_run, nilA_run, List.length_nil, if_pos l0, pure_run, List.set_cons_succ, List.set_cons_zero, forS_run, anyI_run, slE_run, cstE_run, noE_run, partE_run, varE_run, List.getElem?_cons_zero, slM_abcd, hc, e1, List.nil_append]
  simp only [frzS_run, frz, List.getElem?_cons_succ, List.getElem?_cons_zero, List.set_cons_succ, List.set_cons_zero]
  have e2' := e2
  simp at l2
  simp [e2, l2, tyt, l3, postD]
end Dd

set_option Elab.async false
set_option linter.all false
set_option maxRecDepth 100000
/-! the plain law, part T: bent postings are nice. -/
namespace Dd
open PySem PySem.Spec PyProof.Rows
open L2 (atI ixN Key cutS)
def bsP : List Nat := [6, 6, 10, 3, 70]
/-! pieces of postings -/
def niceP (d : D) : Prop := ∃ ps : List D, d = .tup ps ∧ ps.length ≤ 30 ∧ ∀ x ∈ ps, ∃ i : Int, x = .int i ∧ 0 ≤ i ∧ i ≤ 60
def niceR (d : D) : Prop := ∃ (n : Int) (p : D), d = .tup [.int n, p] ∧ 0 ≤ n ∧ n ≤ 60 ∧ niceP p
def niceL (d : D) : Prop := ∃ rs : List D, d = .tup rs ∧ rs.length ≤ 9 ∧ ∀ r ∈ rs, niceR r
def niceN (d : D) : Prop := d = .non ∨ ∃ i : Int, d = .int i ∧ 0 ≤ i ∧ i ≤ 60
theorem nice_int (bs : List Nat) (i : Int) (h1 : -100 ≤ i) (h2 : i ≤ 100) : nice bs (.int i) = true := by cases bs <;> simp [nice, h1, h2]
theorem nice_non (bs : List Nat) : nice bs .non = true := by cases bs <;> rfl
theorem nice_bl (bs : List Nat) (b : Bool) : nice bs (.bl b) = true := by cases bs <;> rfl
theorem nice_tupI (b : Nat) (bs : List Nat) (xs : List D) (h : xs.length ≤ b) (h2 : ∀ x ∈ xs, nice bs x = true) : nice (b :: bs) (.tup xs) = true := by
  simp only [nice, Bool.and_eq_true, decide_eq_true_eq, List.all_eq_true]; exact ⟨h, h2⟩
theorem nice_lstI (b : Nat) (bs : List Nat) (xs : List D) (h : xs.length ≤ b) (h2 : ∀ x ∈ xs, nice bs x = true) : nice (b :: bs) (.lst xs) = true := by
  simp only [nice, Bool.and_eq_true, decide_eq_true_eq, List.all_eq_true]; exact ⟨h, h2⟩
theorem nice_str (bs : List Nat) (z : Str) (h : z.length ≤ 1) (h2 : ∀ c ∈ z.cps.toList, c < 128) : nice bs (.str z) = true := by
  cases bs <;> simp only [nice, Bool.and_eq_true, decide_eq_true_eq, List.all_eq_true] <;> exact ⟨h, h2⟩
/-- what is said of a list of values -/
def All (P : D → Prop) (xs : List D) : Prop := ∀ x ∈ xs, P x
theorem All.nil {P : D → Prop} : All P [] := fun _ h => by simp at h
theorem All.cons {P : D → Prop} {x : D} {xs : List D} (h : P x) (t : All P xs) : All P (x :: xs) := fun y hy => by
  simp only [List.mem_cons] at hy
  rcases hy with rfl | hy
  · exact h
  · exact t y hy
theorem All.app {P : D → Prop} {xs ys : List D} (h : All P xs) (t : All P ys) : All P (xs ++ ys) := fun y hy => (List.mem_append.mp hy).elim (h y) (t y)
theorem All.rev {P : D → Prop} {xs : List D} (h : All P xs) : All P xs.reverse := fun y hy => h y (List.mem_reverse.mp hy)
theorem All.tail {P : D → Prop} {xs : List D} (h : All P xs) : All P xs.tail := fun y hy => h y (List.mem_of_mem_tail hy)
theorem All.take {P : D → Prop} {xs : List D} (h : All P xs) (n : Nat) : All P (xs.take n) := fun y hy => h y (List.mem_of_mem_take hy)
theorem All.drop {P : D → Prop} {xs : List D} (h : All P xs) (n : Nat) : All P (xs.drop n) := fun y hy => h y (List.mem_of_mem_drop hy)
theorem All.cut {P : D → Prop} {xs : List D} (h : All P xs) (lo hi : Option Int) : All P (cutD xs lo hi) := (h.drop _).take _
theorem All.map {P : D → Prop} {α : Type} {f : α → D} {xs : List α} (h : ∀ x ∈ xs, P (f x)) : All P (xs.map f) := fun y hy => by
  obtain ⟨x, hx, rfl⟩ := List.mem_map.mp hy
  exact h x hx
theorem nP {d : D} (h : niceP d) (bs : List Nat) : nice (70 :: bs) d = true := by
  obtain ⟨ps, rfl, hl, hp⟩ := h
  refine nice_tupI _ _ _ (by omega) fun x hx => ?_
  obtain ⟨i, rfl, h0, h1⟩ := hp x hx
  exact nice_int _ _ (by omega) (by omega)
theorem nR {d : D} (h : niceR d) (bs : List Nat) : nice (3 :: 70 :: bs) d = true := by
  obtain ⟨n, p, rfl, h0, h1, hp⟩ := h
  exact nice_tupI _ _ _ (by simp) (All.cons (nice_int _ _ (by omega) (by omega)) (All.cons (nP hp bs) All.nil))
theorem nL {d : D} (h : niceL d) (bs : List Nat) : nice (10 :: 3 :: 70 :: bs) d = true := by
  obtain ⟨rs, rfl, hl, hr⟩ := h
  exact nice_tupI _ _ _ (by omega) fun x hx => nR (hr x hx) bs
theorem nN {d : D} (h : niceN d) (bs : List Nat) : nice bs d = true := by
  rcases h with rfl | ⟨i, rfl, h0, h1⟩
  · exact nice_non bs
  · exact nice_int _ _ (by omega) (by omega)
/-- the shape of postings -/
structure PostS (L : Int) (ln ls : List D) : Prop where
  l1 : 1 ≤ L
  l4 : L ≤ 4
  nl : ln.length ≤ 5
  hn : ∀ x ∈ ln, niceN x
  ll : (ls.length : Int) = L
  hl : ∀ x ∈ ls, ∃ rs : List D, x = .tup rs ∧ rs.length ≤ 5 ∧ ∀ r ∈ rs, niceR r
/-- x[:at] + (thing,) + x[at + 1:] -/
def othD (xs : List D) (i : Int) (x : D) : List D := cutD xs none (some i) ++ [x] ++ cutD xs (some (i + 1)) none
theorem cut_len (xs : List D) (lo hi : Option Int) : (cutD xs lo hi).length ≤ xs.length := by
  unfold cutD
  rw [List.length_take, List.length_drop]
  omega
theorem oth_len {xs : List D} {i : Int} {x : D} (h0 : 0 ≤ i) (h1 : i < xs.length) : (othD xs i x).length = xs.length := by
  have a1 : HT.sIx xs.length 0 none = 0 := HT.sIx_none _ _
  have a2 : HT.sIx xs.length xs.length (some i) = i.toNat := by
    have : ¬ i < 0 := by omega
    simp [HT.sIx, this]; omega
  have a3 : HT.sIx xs.length 0 (some (i + 1)) = i.toNat + 1 := by
    have : ¬ i + 1 < 0 := by omega
    simp [HT.sIx, this]; omega
  have a4 : HT.sIx xs.length xs.length none = xs.length := HT.sIx_none _ _
  simp only [othD, cutD, a1, a2, a3, a4, List.length_append, List.length_take, List.length_drop, List.length_singleton]
  omega
theorem oth_all {P : D → Prop} {xs : List D} {x : D} (h : All P xs) (hx : P x) (i : Int) : All P (othD xs i x) := ((h.cut _ _).app (All.cons hx All.nil)).app (h.cut _ _)
theorem F_other_run (xs : List D) (i : Int) (x : D) (st : Sto) (hl : xs.length ≤ 1000) : F__law_other [.tup xs, .int i, x] st = .ok (.tup (othD xs i x)) st := by
  have c1 := cut_len xs none (some i)
  have c2 := cut_len xs (some (i + 1)) none
  have l1 : 1 ≤ sizeLine := by decide
  have l2 : (cutD xs none (some i)).length + 1 ≤ sizeLine := szl2 (by omega)
  have l3 : (cutD xs none (some i)).length + 1 + (cutD xs (some (i + 1)) none).length ≤ sizeLine := szl2 (by omega)
  simp [F__law_other, b__law_other, addM, l1, l2, l3, othD]
/-- [(letters, lengths, other(lists, number, one)) for one in some] -/
theorem lc_oth {P : D → Prop} (tg : D → EnvD → Option EnvD) (fe : EnvD → M D) (env : EnvD) (f : D → D) (xs : List D) (st : Sto) (h : ∀ d ∈ xs, ∃ e, tg d env = some e ∧ fe e st = .ok (f d) st) : lcL tg yesT fe env xs st = .ok (xs.map f) st := lcL_map f xs h
end Dd

set_option Elab.async false
set_option linter.all false
set_option maxRecDepth 100000
/-! the plain law, part U: the bent postings. -/
namespace Dd
open PySem PySem.Spec PyProof.Rows
open L2 (atI ixN Key cutS)
abbrev bb1 : EnvD → M Fl := asgS (varE 1) (tupGm 3 (consGm (pureG (nameG 6)) (consGm (pureG (nameG 7)) (consGm (pureG (nameG 8)) (nilGm)))))
abbrev bb2 : EnvD → M Fl := ownS 2 (consA (varE 1) (consA (biE listM (consA (varE 1) (nilA))) (consA (slE (varE 1) noE (partE (cstE (.int 2)))) (consA (binE addM (varE 1) (tupE (consA (cstE (.int 0)) (nilA)))) (consA (tupE (consA (varE 6) (consA (biE listM (consA (varE 7) (nilA))) (consA (varE 8) (nilA))))) (consA (tupE (consA (varE 6) (consA (varE 7) (consA (biE listM (consA (varE 8) (nilA))) (nilA))))) (nilA)))))))
abbrev bb3 : EnvD → M Fl := growS manyD 2 (lcE (anyI (tupE (consA (binE addM (varE 6) (cstE (.int 1))) (consA (cstE (.int 0)) (consA (cstE (.int 5)) (consA (cstE (.bl true)) (consA (cstE .non) (consA (cstE (.str "2")) (nilA))))))))) (nameG 12) (yesT) (tupE (consA (varE 12) (consA (varE 7) (consA (varE 8) (nilA))))) [12])
abbrev bb4 : EnvD → M Fl := growS manyD 2 (lcE (anyI (tupE (consA (cstE .non) (consA (cstE (.int 0)) (consA (cstE (.int 1)) (consA (cstE (.int 61)) (consA (cstE (.bl true)) (consA (cstE (.str "0")) (consA (unE negM (cstE (.int 1))) (nilA)))))))))) (nameG 12) (yesT) (tupE (consA (varE 6) (consA (binE addM (varE 7) (tupE (consA (varE 12) (nilA)))) (consA (varE 8) (nilA))))) [12])
abbrev bb5 : EnvD → M Fl := growS oneD 2 (tupE (consA (varE 6) (consA (slE (varE 7) (partE (cstE (.int 1))) noE) (consA (varE 8) (nilA)))))
abbrev bb6 : EnvD → M Fl := ifS (tstE (binE neM (varE 7) (tupE (nilA)))) (seqS (setS 9 (callW F__law_draw (consA (varE 0) (consA (biE lenM (consA (varE 7) (nilA))) (nilA)))))
    (seqS (setS 10 (iteE (tstE (binE isntM (binE ixM (varE 7) (varE 9)) (cstE .non))) (binE ixM (varE 7) (varE 9)) (cstE (.int 1))))
    (growS manyD 2 (lcE (anyI (tupE (consA (binE addM (varE 10) (cstE (.int 1))) (consA (binE subM (varE 10) (cstE (.int 1))) (consA (cstE .non) (consA (cstE (.int 0)) (consA (cstE (.bl true)) (consA (cstE (.int 61)) (nilA))))))))) (nameG 12) (yesT) (tupE (consA (varE 6) (consA (callW F__law_other (consA (varE 7) (consA (varE 9) (consA (varE 12) (nilA))))) (consA (varE 8) (nilA))))) [12])))) (nxtS)
abbrev bb7 : EnvD → M Fl := setS 3 (callW F__law_draw (consA (varE 0) (consA (varE 6) (nilA))))
abbrev bb8 : EnvD → M Fl := setS 4 (binE ixM (varE 8) (varE 3))
abbrev bb9 : EnvD → M Fl := setS 5 (lstE (consA (biE listM (consA (varE 4) (nilA))) (consA (binE addM (varE 4) (tupE (consA (tupE (consA (cstE (.int 0)) (consA (tupE (consA (cstE (.int 0)) (nilA))) (nilA)))) (nilA)))) (consA (unE revM (varE 4)) (consA (binE addM (varE 4) (tupE (consA (tupE (consA (cstE (.int 9)) (consA (tupE (consA (cstE (.int 0)) (nilA))) (nilA)))) (nilA)))) (consA (binE addM (varE 4) (tupE (consA (cstE .non) (nilA)))) (consA (slE (varE 4) (partE (cstE (.int 1))) noE) (consA (cstE .non) (nilA)))))))))
abbrev bb10 : EnvD → M Fl := ifS (tstE (binE neM (varE 4) (tupE (nilA)))) (seqS (setS 11 (callW F__law_draw (consA (varE 0) (consA (biE lenM (consA (varE 4) (nilA))) (nilA)))))
    (seqS (asgS (binE ixM (varE 4) (varE 11)) (tupGm 2 (consGm (pureG (nameG 13)) (consGm (pureG (nameG 14)) (nilGm)))))
    (seqS (setS 12 (lstE (consA (tupE (consA (varE 13) (consA (tupE (nilA)) (nilA)))) (consA (tupE (consA (varE 13) (consA (unE revM (varE 14)) (nilA)))) (consA (tupE (consA (varE 13) (consA (binE addM (varE 14) (tupE (consA (cstE (.int 60)) (nilA)))) (nilA)))) (consA (tupE (consA (varE 13) (consA (slE (varE 14) (partE (cstE (.int 1))) noE) (nilA)))) (consA (tupE (consA (varE 13) (consA (biE listM (consA (varE 14) (nilA))) (nilA)))) (consA (tupE (consA (varE 13) (nilA))) (nilA)))))))))
    (seqS (setS 12 (binE addM (varE 12) (lstE (consA (tupE (consA (binE addM (varE 13) (cstE (.int 1))) (consA (varE 14) (nilA)))) (consA (tupE (consA (cstE (.bl true)) (consA (varE 14) (nilA)))) (consA (lstE (consA (varE 13) (consA (varE 14) (nilA)))) (consA (tupE (consA (varE 13) (consA (binE addM (varE 14) (varE 14)) (nilA)))) (consA (tupE (consA (varE 13) (consA (tupE (consA (cstE (.bl true)) (nilA))) (nilA)))) (consA (tupE (consA (varE 13) (consA (cstE .non) (nilA)))) (nilA))))))))))
    (setS 5 (binE addM (varE 5) (lcE (anyI (varE 12)) (nameG 15) (yesT) (callW F__law_other (consA (varE 4) (consA (varE 11) (consA (varE 15) (nilA))))) [15]))))))) (nxtS)
abbrev bb11 : EnvD → M Fl := growS manyD 2 (lcE (anyI (varE 5)) (nameG 15) (yesT) (tupE (consA (varE 6) (consA (varE 7) (consA (callW F__law_other (consA (varE 8) (consA (varE 3) (consA (varE 15) (nilA))))) (nilA))))) [15])
abbrev bb12 : EnvD → M Fl := growS oneD 2 (tupE (consA (varE 6) (consA (varE 7) (consA (unE revM (varE 8)) (nilA)))))
abbrev bb13 : EnvD → M Fl := frzS 2 (retS (binE addM (varE 2) (lstE (consA (cstE .non) (consA (cstE (.int 0)) (consA (cstE (.bl true)) (consA (cstE (.str "")) (consA (tupE (nilA)) (consA (lstE (nilA)) (consA (cstE (.dct [] [])) (consA (tupE (consA (cstE (.int 1)) (consA (tupE (nilA)) (consA (tupE (consA (tupE (nilA)) (nilA))) (nilA))))) (consA (tupE (consA (cstE (.int 2)) (consA (tupE (nilA)) (consA (tupE (consA (tupE (nilA)) (nilA))) (nilA))))) (consA (tupE (consA (cstE (.int 1)) (consA (tupE (consA (cstE (.int 2)) (nilA))) (consA (tupE (consA (tupE (consA (tupE (consA (cstE (.int 0)) (consA (tupE (consA (cstE (.int 0)) (consA (cstE (.int 1)) (nilA)))) (nilA)))) (nilA))) (nilA))) (nilA))))) (consA (tupE (consA (cstE (.int 1)) (consA (tupE (consA (cstE (.int 61)) (nilA))) (consA (tupE (consA (tupE (consA (tupE (consA (cstE (.int 0)) (consA (unE trgM (cstE (.int 61))) (nilA)))) (nilA))) (nilA))) (nilA))))) (nilA)))))))))))))))
theorem bb_eq : b__law_bent = seqS bb1 (seqS bb2 (seqS bb3 (seqS bb4 (seqS bb5 (seqS bb6 (seqS bb7 (seqS bb8 (seqS bb9 (seqS bb10 (seqS bb11 (seqS bb12 bb13))))))))))) := rfl
abbrev bE (n : Nat) (V : D) (L : Int) (ln ls : List D) (fd x3 x4 x5 x9 x10 x11 x12 x13 x14 x15 : Option EV) : EnvD := [some (.d (.ref n)), some (.d V), fd, x3, x4, x5, some (.d (.int L)), some (.d (.tup ln)), some (.d (.tup ls)), x9, x10, x11, x12, x13, x14, x15]
abbrev pV (L : Int) (ln ls : List D) : D := .tup [.int L, .tup ln, .tup ls]
abbrev Nc (d : D) : Prop := nice bsP d = true
theorem lit {n m : Nat} (h : n ≤ 1000 := by first | decide | (simp <;> omega)) : n ≤ sizeLine := szl2 (by omega)
theorem PostS.nln {L : Int} {ln ls : List D} (p : PostS L ln ls) : nice [6, 10, 3, 70] (.tup ln) = true := nice_tupI _ _ _ (by have := p.nl; omega) fun x hx => nN (p.hn x hx) _
theorem niceLst {x : D} (h : ∃ rs : List D, x = .tup rs ∧ rs.length ≤ 5 ∧ ∀ r ∈ rs, niceR r) : nice [10, 3, 70] x = true := by
  obtain ⟨rs, rfl, h1, h2⟩ := h
  exact nL ⟨rs, rfl, by omega, h2⟩ []
theorem PostS.nls {L : Int} {ln ls : List D} (p : PostS L ln ls) : nice [6, 10, 3, 70] (.tup ls) = true := nice_tupI _ _ _ (by have := p.ll; have := p.l4; omega) fun x hx => niceLst (p.hl x hx)
theorem tri {a b c : D} (ha : nice [6, 10, 3, 70] a = true) (hb : nice [6, 10, 3, 70] b = true) (hc : nice [6, 10, 3, 70] c = true) : Nc (.tup [a, b, c]) := nice_tupI _ _ _ (by simp) (All.cons ha (All.cons hb (All.cons hc All.nil)))
theorem triL {L : Int} {ln ls : List D} (p : PostS L ln ls) : nice [6, 10, 3, 70] (.int L) = true := by
  have := p.l1
  have := p.l4
  exact nice_int _ _ (by omega) (by omega)
theorem bb1_run (n : Nat) (L : Int) (ln ls : List D) (st : Sto) : bb1 [some (.d (.ref n)), some (.d (pV L ln ls)), none, none, none, none, none, none, none, none, none, none, none, none, none, none] st = .ok (.nx (bE n (pV L ln ls) L ln ls none none none none none none none none none none none)) st := by
  simp [tupGm, consGm, nilGm, pureG]
def fd2 (L : Int) (ln ls : List D) : List D := [pV L ln ls, .lst [.int L, .tup ln, .tup ls], .tup [.int L, .tup ln], .tup [.int L, .tup ln, .tup ls, .int 0], .tup [.int L, .lst ln, .tup ls], .tup [.int L, .tup ln, .lst ls]]
theorem bb2_run (n : Nat) (L : Int) (ln ls : List D) (st : Sto) : bb2 (bE n (pV L ln ls) L ln ls none none none none none none none none none none none) st = .ok (.nx (bE n (pV L ln ls) L ln ls (some (.own (fd2 L ln ls))) none none none none none none none none none none)) st := by
  have c2 : cutD [.int L, .tup ln, .tup ls] none (some 2) = [.int L, .tup ln] := rfl
  have l1 : 1 ≤ sizeLine := by decide
  have l3 : 3 ≤ sizeLine := by decide
  have l4 : 4 ≤ sizeLine := by decide
  have l6 : 6 ≤ sizeLine := by decide
  simp [listM, addM, c2, l1, l3, l4, l6, fd2]
theorem fd2_ok {L : Int} {ln ls : List D} (p : PostS L ln ls) : All Nc (fd2 L ln ls) := by
  have a := triL p
  have b := p.nln
  have c := p.nls
  have b2 : nice [6, 10, 3, 70] (.lst ln) = true := b
  have c2 : nice [6, 10, 3, 70] (.lst ls) = true := c
  refine All.cons (tri a b c) (All.cons (nice_lstI _ _ _ (by simp) (All.cons a (All.cons b (All.cons c All.nil)))) (All.cons (nice_tupI _ _ _ (by simp) (All.cons a (All.cons b All.nil))) (All.cons (nice_tupI _ _ _ (by simp) (All.cons a (All.cons b (All.cons c (All.cons (nice_int _ _ (by omega) (by omega)) All.nil))))) (All.cons (tri a b2 c) (All.cons (tri a b c2) All.nil)))))
theorem grow_ok {k : D → Option (List D)} {i : Nat} {fe : EnvD → M D} {env : EnvD} {st st' : Sto} {d : D} {xs ys : List D} (h : env[i]? = some (some (.own xs))) (h2 : fe env st = .ok d st') (h3 : k d = some ys) (h4 : xs.length + ys.length ≤ 1000) : growS k i fe env st = .ok (.nx (env.set i (some (.own (xs ++ ys))))) st' := by
  have : xs.length + ys.length ≤ sizeLine := szl2 (by omega)
  simp only [growS, h]
  rw [bind_run, h2]
  simp only [h3, if_pos this]
  rfl
def odd3 (L : Int) : List D := [.int (L + 1), .int 0, .int 5, .bl true, .non, .str "2"]
theorem bb3_run (n : Nat) (L : Int) (ln ls fd : List D) (hf : fd.length ≤ 500) (st : Sto) : bb3 (bE n (pV L ln ls) L ln ls (some (.own fd)) none none none none none none none none none none) st = .ok (.nx (bE n (pV L ln ls) L ln ls (some (.own (fd ++ (odd3 L).map fun o => .tup [o, .tup ln, .tup ls]))) none none none none none none none none none none)) st := by
  have l3 : 3 ≤ sizeLine := by decide
  have l6 : 6 ≤ sizeLine := by decide
  have e := lcL_map (tg := nameG 12) (fe := tupE (consA (varE 12) (consA (varE 7) (consA (varE 8) (nilA))))) (env := bE n (pV L ln ls) L ln ls (some (.own fd)) none none none none none none none none none none) (st := st) (fun o => .tup [o, .tup ln, .tup ls]) (odd3 L) fun o ho => ⟨_, rfl, by simp [l3]⟩
  refine grow_ok (ys := (odd3 L).map fun o => .tup [o, .tup ln, .tup ls]) (xs := fd) rfl (d := .lst ((odd3 L).map fun o => .tup [o, .tup ln, .tup ls])) ?_ rfl (by simp [odd3]; omega)
  simp only [odd3] at e
  simp [l6, e, odd3]
theorem two_str : nice [6, 10, 3, 70] (.str "2") = true := by decide +kernel
theorem zero_str : nice [6, 10, 3, 70] (.str "0") = true := by decide +kernel
theorem fd3_ok {L : Int} {ln ls : List D} (p : PostS L ln ls) : All Nc ((odd3 L).map fun o => .tup [o, .tup ln, .tup ls]) := All.map fun o ho => by
  have : nice [6, 10, 3, 70] o = true := by
    have := p.l1
    have := p.l4
    simp only [odd3, List.mem_cons, List.not_mem_nil, or_false] at ho
    rcases ho with rfl | rfl | rfl | rfl | rfl | rfl
    · exact nice_int _ _ (by omega) (by omega)
    · exact nice_int _ _ (by omega) (by omega)
    · exact nice_int _ _ (by omega) (by omega)
    · exact nice_bl _ _
    · exact nice_non _
    · exact two_str
  exact tri this p.nln p.nls
def odd4 : List D := [.non, .int 0, .int 1, .int 61, .bl true, .str "0", .int (-1)]
theorem odd4_ok : ∀ o ∈ odd4, nice [10, 3, 70] o = true := by decide +kernel
theorem bb4_run (n : Nat) (L : Int) (ln ls fd : List D) (hln : ln.length ≤ 100) (hf : fd.length ≤ 500) (st : Sto) : bb4 (bE n (pV L ln ls) L ln ls (some (.own fd)) none none none none none none none none none none) st = .ok (.nx (bE n (pV L ln ls) L ln ls (some (.own (fd ++ odd4.map fun o => .tup [.int L, .tup (ln ++ [o]), .tup ls]))) none none none none none none none none none none)) st := by
  have l1 : 1 ≤ sizeLine := by decide
  have l3 : 3 ≤ sizeLine := by decide
  have l7 : 7 ≤ sizeLine := by decide
  have l8 : ln.length + 1 ≤ sizeLine := szl2 (by omega)
  have e := lcL_map (tg := nameG 12) (fe := tupE (consA (varE 6) (consA (binE addM (varE 7) (tupE (consA (varE 12) (nilA)))) (consA (varE 8) (nilA))))) (env := bE n (pV L ln ls) L ln ls (some (.own fd)) none none none none none none none none none none) (st := st) (fun o => .tup [.int L, .tup (ln ++ [o]), .tup ls]) odd4 fun o ho => ⟨_, rfl, by simp [l3, l1, addM, l8]⟩
  refine grow_ok (ys := odd4.map fun o => .tup [.int L, .tup (ln ++ [o]), .tup ls]) (xs := fd) rfl (d := .lst (odd4.map fun o => .tup [.int L, .tup (ln ++ [o]), .tup ls])) ?_ rfl (by simp [odd4]; omega)
  simp only [odd4] at e
  simp [l7, negM, e, odd4]
theorem fd4_ok {L : Int} {ln ls : List D} (p : PostS L ln ls) : All Nc (odd4.map fun o => .tup [.int L, .tup (ln ++ [o]), .tup ls]) := All.map fun o ho => by
  refine tri (triL p) (nice_tupI _ _ _ (by have := p.nl; simp; omega) (All.app (fun x hx => nN (p.hn x hx) _) (All.cons (odd4_ok o ho) All.nil))) p.nls
theorem bb5_run (n : Nat) (L : Int) (ln ls fd : List D) (hf : fd.length ≤ 500) (st : Sto) : bb5 (bE n (pV L ln ls) L ln ls (some (.own fd)) none none none none none none none none none none) st = .ok (.nx (bE n (pV L ln ls) L ln ls (some (.own (fd ++ [.tup [.int L, .tup ln.tail, .tup ls]]))) none none none none none none none none none none)) st := by
  have l3 : 3 ≤ sizeLine := by decide
  refine grow_ok (ys := [.tup [.int L, .tup ln.tail, .tup ls]]) (xs := fd) rfl (d := .tup [.int L, .tup ln.tail, .tup ls]) ?_ rfl (by simp; omega)
  simp [l3, cut1]
theorem fd5_ok {L : Int} {ln ls : List D} (p : PostS L ln ls) : All Nc [.tup [.int L, .tup ln.tail, .tup ls]] := by
  refine All.cons (tri (triL p) (nice_tupI _ _ _ ?_ fun x hx => nN (p.hn x (List.mem_of_mem_tail hx)) _) p.nls) All.nil
  have := p.nl
  rw [List.length_tail]; omega
theorem neP_of {x y : D} {b : Bool} {st : Sto} (h : eqP x y st = .ok (.bl b) st) : neP x y st = .ok (.bl (!b)) st := by
  unfold eqP at h
  unfold neP
  cases e1 : shp x with
  | none => rw [e1] at h; cases h
  | some p => cases e2 : shp y with
    | none => rw [e1, e2] at h; cases h
    | some q => rw [e1, e2] at h; cases h; rfl
theorem neM_nilT {bs : List Nat} {xs : List D} (st : Sto) (h : nice bs (.tup xs) = true) (hb : bs.length ≤ 60) : neM (.tup xs) (.tup []) st = .ok (.bl (!isNil (.tup xs))) st := neP_of (eqM_nil (d := .tup xs) st h hb)
def odd6 (own : Int) : List D := [.int (own + 1), .int (own - 1), .non, .int 0, .bl true, .int 61]
theorem ixT_ok {xs : List D} {i : Int} {d : D} (st : Sto) (h : atI xs i = some d) : ixM (.tup xs) (.int i) st = .ok d st := by simp [ixM, h]
theorem bb6_go (n : Nat) (L : Int) (ln ls fd : List D) (p : PostS L ln ls) (hf : fd.length ≤ 500) (hfd : All Nc fd) : ∀ st, Pot n st → ∃ st' fd' x9 x10, bb6 (bE n (pV L ln ls) L ln ls (some (.own fd)) none none none none none none none none none none) st = .ok (.nx (bE n (pV L ln ls) L ln ls (some (.own fd')) none none none x9 x10 none none none none none)) st' ∧ Pot n st' ∧ fd'.length ≤ fd.length + 6 ∧ All Nc fd' := fun st hp => by
  have hne := neM_nilT st p.nln (by simp)
  have hl := p.nl
  have ll : ln.length ≤ sizeLine := szl2 (by omega)
  by_cases c : ln = []
  · subst c
    refine ⟨st, fd, none, none, ?_, hp, by omega, hfd⟩
    simp [isNil] at hne
    simp [hne]
  · have cl : 0 < ln.length := List.length_pos_iff.mpr c
    have hne2 : neM (.tup ln) (.tup []) st = .ok (.bl true) st := by
      rw [hne]
      cases ln with
      | nil => exact absurd rfl c
      | cons a b => rfl
    obtain ⟨_, st1, e1, p1, k, rfl, k0, k1⟩ := F_draw_go n (ln.length : Int) (by omega) (by omega) st hp
    obtain ⟨x, hx, hm⟩ := at_ok ln k k0 k1
    have hix := ixT_ok (xs := ln) st1 hx
    obtain ⟨own, e2, o0, o1⟩ : ∃ own : Int, iteE (tstE (binE isntM (binE ixM (varE 7) (varE 9)) (cstE .non))) (binE ixM (varE 7) (varE 9)) (cstE (.int 1)) (bE n (pV L ln ls) L ln ls (some (.own fd)) none none none (some (.d (.int k))) none none none none none none) st1 = .ok (.int own) st1 ∧ 0 ≤ own ∧ own ≤ 60 := by
      rcases p.hn x hm with rfl | ⟨i, rfl, i0, i1⟩
      · exact ⟨1, by simp [hix, isNonD], by omega, by omega⟩
      · exact ⟨i, by simp [hix, isNonD], i0, i1⟩
    have l3 : 3 ≤ sizeLine := by decide
    have l6 : 6 ≤ sizeLine := by decide
    have e := lcL_map (tg := nameG 12) (fe := tupE (consA (varE 6) (consA (callW F__law_other (consA (varE 7) (consA (varE 9) (consA (varE 12) (nilA))))) (consA (varE 8) (nilA))))) (env := bE n (pV L ln ls) L ln ls (some (.own fd)) none none none (some (.d (.int k))) (some (.d (.int own))) none none none none none) (st := st1) (fun o => .tup [.int L, .tup (othD ln k o), .tup ls]) (odd6 own) fun o ho => ⟨_, rfl, by simp [l3, F_other_run ln k o st1 (by omega)]⟩
    have eg : growS manyD 2 (lcE (anyI (tupE (consA (binE addM (varE 10) (cstE (.int 1))) (consA (binE subM (varE 10) (cstE (.int 1))) (consA (cstE .non) (consA (cstE (.int 0)) (consA (cstE (.bl true)) (consA (cstE (.int 61)) (nilA))))))))) (nameG 12) (yesT) (tupE (consA (varE 6) (consA (callW F__law_other (consA (varE 7) (consA (varE 9) (consA (varE 12) (nilA))))) (consA (varE 8) (nilA))))) [12]) (bE n (pV L ln ls) L ln ls (some (.own fd)) none none none (some (.d (.int k))) (some (.d (.int own))) none none none none none) st1 =
        .ok (.nx ((bE n (pV L ln ls) L ln ls (some (.own fd)) none none none (some (.d (.int k))) (some (.d (.int own))) none none none none none).set 2 (some (.own (fd ++ (odd6 own).map fun o => .tup [.int L, .tup (othD ln k o), .tup ls]))))) st1 := by
      refine grow_ok (ys := (odd6 own).map fun o => .tup [.int L, .tup (othD ln k o), .tup ls]) (xs := fd) rfl (d := .lst ((odd6 own).map fun o => .tup [.int L, .tup (othD ln k o), .tup ls])) ?_ rfl (by simp [odd6]; omega)
      simp only [odd6] at e
      simp [l6, e, odd6]
    refine ⟨st1, fd ++ (odd6 own).map fun o => .tup [.int L, .tup (othD ln k o), .tup ls], some (.d (.int k)), some (.d (.int own)), ?_, p1, by simp [odd6], hfd.app (All.map fun o ho => ?_)⟩
    · show ifS _ _ _ _ st = _
      have t1 : tstE (binE neM (varE 7) (tupE nilA)) (bE n (pV L ln ls) L ln ls (some (.own fd)) none none none none none none none none none none) st = .ok true st := by simp [hne2]
      have s1 : setS 9 (callW F__law_draw (consA (varE 0) (consA (biE lenM (consA (varE 7) (nilA))) (nilA)))) (bE n (pV L ln ls) L ln ls (some (.own fd)) none none none none none none none none none none) st = .ok (.nx (bE n (pV L ln ls) L ln ls (some (.own fd)) none none none (some (.d (.int k))) none none none none none none)) st1 := by simp [e1]
      have s2 : setS 10 (iteE (tstE (binE isntM (binE ixM (varE 7) (varE 9)) (cstE .non))) (binE ixM (varE 7) (varE 9)) (cstE (.int 1))) (bE n (pV L ln ls) L ln ls (some (.own fd)) none none none (some (.d (.int k))) none none none none none none) st1 = .ok (.nx (bE n (pV L ln ls) L ln ls (some (.own fd)) none none none (some (.d (.int k))) (some (.d (.int own))) none none none none none)) st1 := by
        rw [setS_run, bind_run, e2]; rfl
      rw [ifS_run, bind_run, t1]
      show seqS _ _ _ st = _
      rw [seq_nx s1, seq_nx s2, eg]
      rfl
    · refine tri (triL p) (nice_tupI _ _ _ (by rw [oth_len k0 k1]; omega) (oth_all (fun x hx => nN (p.hn x hx) _) ?_ k)) p.nls
      simp only [odd6, List.mem_cons, List.not_mem_nil, or_false] at ho
      rcases ho with rfl | rfl | rfl | rfl | rfl | rfl
      · exact nice_int _ _ (by omega) (by omega)
      · exact nice_int _ _ (by omega) (by omega)
      · exact nice_non _
      · exact nice_int _ _ (by omega) (by omega)
      · exact nice_bl _ _
      · exact nice_int _ _ (by omega) (by omega)
theorem bb78_go (n : Nat) (L : Int) (ln ls fd : List D) (p : PostS L ln ls) (x9 x10 : Option EV) : ∀ st, Pot n st → ∃ (st' : Sto) (k : Int) (rs : List D), seqS bb7 bb8 (bE n (pV L ln ls) L ln ls (some (.own fd)) none none none x9 x10 none none none none none) st = .ok (.nx (bE n (pV L ln ls) L ln ls (some (.own fd)) (some (.d (.int k))) (some (.d (.tup rs))) none x9 x10 none none none none none)) st' ∧ Pot n st' ∧ 0 ≤ k ∧ k < ls.length ∧ rs.length ≤ 5 ∧ ∀ r ∈ rs, niceR r := fun st hp => by
  have h1 := p.l1
  have h4 := p.l4
  obtain ⟨_, st1, e1, p1, k, rfl, k0, k1⟩ := F_draw_go n L (by omega) (by omega) st hp
  obtain ⟨x, hx, hm⟩ := at_ok ls k k0 (by rw [p.ll]; exact k1)
  obtain ⟨rs, rfl, hl, hr⟩ := p.hl x hm
  have hix := ixT_ok (xs := ls) st1 hx
  exact ⟨st1, k, rs, by simp [e1, hix], p1, k0, by rw [p.ll]; exact k1, hl, hr⟩
def some9 (rs : List D) : List D := [.lst rs, .tup (rs ++ [.tup [.int 0, .tup [.int 0]]]), .tup rs.reverse, .tup (rs ++ [.tup [.int 9, .tup [.int 0]]]), .tup (rs ++ [.non]), .tup rs.tail, .non]
theorem bb9_run (n : Nat) (L k : Int) (ln ls fd rs : List D) (x9 x10 : Option EV) (hr : rs.length ≤ 5) (st : Sto) : bb9 (bE n (pV L ln ls) L ln ls (some (.own fd)) (some (.d (.int k))) (some (.d (.tup rs))) none x9 x10 none none none none none) st = .ok (.nx (bE n (pV L ln ls) L ln ls (some (.own fd)) (some (.d (.int k))) (some (.d (.tup rs))) (some (.d (.lst (some9 rs)))) x9 x10 none none none none none)) st := by
  have l1 : 1 ≤ sizeLine := by decide
  have l2 : 2 ≤ sizeLine := by decide
  have l7 : 7 ≤ sizeLine := by decide
  have l8 : rs.length + 1 ≤ sizeLine := szl2 (by omega)
  simp [l1, l2, l7, listM, addM, l8, revM, cut1, some9]
abbrev Nl (d : D) : Prop := nice [10, 3, 70] d = true
theorem row_0 : nice [3, 70] (.tup [.int 0, .tup [.int 0]]) = true := by decide +kernel
theorem row_9 : nice [3, 70] (.tup [.int 9, .tup [.int 0]]) = true := by decide +kernel
theorem some9_ok {rs : List D} (hl : rs.length ≤ 5) (hr : ∀ r ∈ rs, niceR r) : All Nl (some9 rs) := by
  have a : All (fun d => nice [3, 70] d = true) rs := fun r h => nR (hr r h) []
  have t1 : (rs.tail).length ≤ 10 := by rw [List.length_tail]; omega
  exact All.cons (nice_lstI _ _ _ (by omega) a) (All.cons (nice_tupI _ _ _ (by simp; omega) (a.app (All.cons row_0 All.nil))) (All.cons (nice_tupI _ _ _ (by simp; omega) a.rev) (All.cons (nice_tupI _ _ _ (by simp; omega) (a.app (All.cons row_9 All.nil))) (All.cons (nice_tupI _ _ _ (by simp; omega) (a.app (All.cons (nice_non _) All.nil))) (All.cons (nice_tupI _ _ _ t1 a.tail) (All.cons (nice_non _) All.nil))))))
end Dd

set_option Elab.async false
set_option linter.all false
set_option maxRecDepth 100000
/-! the plain law, part V: the bent postings, ended. -/
namespace Dd
open PySem PySem.Spec PyProof.Rows
open L2 (atI ixN Key cutS)
abbrev Nr (d : D) : Prop := nice [3, 70] d = true
def oddA (m : Int) (ps : List D) : List D := [.tup [.int m, .tup []], .tup [.int m, .tup ps.reverse], .tup [.int m, .tup (ps ++ [.int 60])], .tup [.int m, .tup ps.tail], .tup [.int m, .lst ps], .tup [.int m]]
def oddB (m : Int) (ps : List D) : List D := [.tup [.int (m + 1), .tup ps], .tup [.bl true, .tup ps], .lst [.int m, .tup ps], .tup [.int m, .tup (ps ++ ps)], .tup [.int m, .tup [.bl true]], .tup [.int m, .non]]
theorem odd_ok {m : Int} {ps : List D} (h0 : 0 ≤ m) (h1 : m ≤ 60) (hl : ps.length ≤ 30) (hp : ∀ x ∈ ps, ∃ i : Int, x = .int i ∧ 0 ≤ i ∧ i ≤ 60) : All Nr (oddA m ps ++ oddB m ps) := by
  have a : All (fun d => nice [] d = true) ps := fun x hx => by
    obtain ⟨i, rfl, i0, i1⟩ := hp x hx
    exact nice_int _ _ (by omega) (by omega)
  have two : ∀ p : D, nice [70] p = true → Nr (.tup [.int m, p]) := fun p hp => nice_tupI _ _ _ (by simp) (All.cons (nice_int _ _ (by omega) (by omega)) (All.cons hp All.nil))
  have t1 : (ps.tail).length ≤ 70 := by rw [List.length_tail]; omega
  have pn : nice [70] (.tup ps) = true := nice_tupI _ _ _ (by omega) a
  refine All.app ?_ ?_
  · exact All.cons (two _ (by decide)) (All.cons (two _ (nice_tupI _ _ _ (by simp; omega) a.rev)) (All.cons (two _ (nice_tupI _ _ _ (by simp; omega) (a.app (All.cons (nice_int _ _ (by omega) (by omega)) All.nil)))) (All.cons (two _ (nice_tupI _ _ _ t1 a.tail)) (All.cons (two _ (nice_lstI _ _ _ (by omega) a)) (All.cons (nice_tupI _ _ _ (by simp) (All.cons (nice_int _ _ (by omega) (by omega)) All.nil)) All.nil)))))
  · exact All.cons (nice_tupI _ _ _ (by simp) (All.cons (nice_int _ _ (by omega) (by omega)) (All.cons pn All.nil))) (All.cons (nice_tupI _ _ _ (by simp) (All.cons (nice_bl _ _) (All.cons pn All.nil))) (All.cons (nice_lstI _ _ _ (by simp) (All.cons (nice_int _ _ (by omega) (by omega)) (All.cons pn All.nil))) (All.cons (two _ (nice_tupI _ _ _ (by simp; omega) (a.app a))) (All.cons (two _ (by decide)) (All.cons (two _ (nice_non _)) All.nil)))))
abbrev c1 : EnvD → M Fl := setS 11 (callW F__law_draw (consA (varE 0) (consA (biE lenM (consA (varE 4) (nilA))) (nilA))))
abbrev c2 : EnvD → M Fl := asgS (binE ixM (varE 4) (varE 11)) (tupGm 2 (consGm (pureG (nameG 13)) (consGm (pureG (nameG 14)) (nilGm))))
abbrev c3 : EnvD → M Fl := setS 12 (lstE (consA (tupE (consA (varE 13) (consA (tupE (nilA)) (nilA)))) (consA (tupE (consA (varE 13) (consA (unE revM (varE 14)) (nilA)))) (consA (tupE (consA (varE 13) (consA (binE addM (varE 14) (tupE (consA (cstE (.int 60)) (nilA)))) (nilA)))) (consA (tupE (consA (varE 13) (consA (slE (varE 14) (partE (cstE (.int 1))) noE) (nilA)))) (consA (tupE (consA (varE 13) (consA (biE listM (consA (varE 14) (nilA))) (nilA)))) (consA (tupE (consA (varE 13) (nilA))) (nilA))))))))
abbrev c4 : EnvD → M Fl := setS 12 (binE addM (varE 12) (lstE (consA (tupE (consA (binE addM (varE 13) (cstE (.int 1))) (consA (varE 14) (nilA)))) (consA (tupE (consA (cstE (.bl true)) (consA (varE 14) (nilA)))) (consA (lstE (consA (varE 13) (consA (varE 14) (nilA)))) (consA (tupE (consA (varE 13) (consA (binE addM (varE 14) (varE 14)) (nilA)))) (consA (tupE (consA (varE 13) (consA (tupE (consA (cstE (.bl true)) (nilA))) (nilA)))) (consA (tupE (consA (varE 13) (consA (cstE .non) (nilA)))) (nilA)))))))))
abbrev c5 : EnvD → M Fl := setS 5 (binE addM (varE 5) (lcE (anyI (varE 12)) (nameG 15) (yesT) (callW F__law_other (consA (varE 4) (consA (varE 11) (consA (varE 15) (nilA))))) [15]))
theorem bb10_eq : bb10 = ifS (tstE (binE neM (varE 4) (tupE (nilA)))) (seqS c1 (seqS c2 (seqS c3 (seqS c4 c5)))) nxtS := rfl
theorem c2_run (n : Nat) (L k j m : Int) (ln ls fd rs ps : List D) (x5 x9 x10 : Option EV) (st : Sto) (h : atI rs j = some (.tup [.int m, .tup ps])) : c2 (bE n (pV L ln ls) L ln ls (some (.own fd)) (some (.d (.int k))) (some (.d (.tup rs))) x5 x9 x10 (some (.d (.int j))) none none none none) st = .ok (.nx (bE n (pV L ln ls) L ln ls (some (.own fd)) (some (.d (.int k))) (some (.d (.tup rs))) x5 x9 x10 (some (.d (.int j))) none (some (.d (.int m))) (some (.d (.tup ps))) none)) st := by
  have hix := ixT_ok (xs := rs) st h
  simp [hix, tupGm, consGm, nilGm, pureG, h]
theorem c3_run (n : Nat) (L k j m : Int) (ln ls fd rs ps : List D) (x5 x9 x10 : Option EV) (st : Sto) (hl : ps.length ≤ 30) : c3 (bE n (pV L ln ls) L ln ls (some (.own fd)) (some (.d (.int k))) (some (.d (.tup rs))) x5 x9 x10 (some (.d (.int j))) none (some (.d (.int m))) (some (.d (.tup ps))) none) st = .ok (.nx (bE n (pV L ln ls) L ln ls (some (.own fd)) (some (.d (.int k))) (some (.d (.tup rs))) x5 x9 x10 (some (.d (.int j))) (some (.d (.lst (oddA m ps)))) (some (.d (.int m))) (some (.d (.tup ps))) none)) st := by
  have l0 : 0 ≤ sizeLine := by decide
  have l1 : 1 ≤ sizeLine := by decide
  have l2 : 2 ≤ sizeLine := by decide
  have l6 : 6 ≤ sizeLine := by decide
  have l8 : ps.length + 1 ≤ sizeLine := szl2 (by omega)
  simp [l0, l1, l2, l6, listM, addM, l8, revM, cut1, oddA]
theorem c4_run (n : Nat) (L k j m : Int) (ln ls fd rs ps : List D) (x5 x9 x10 : Option EV) (st : Sto) (hl : ps.length ≤ 30) : c4 (bE n (pV L ln ls) L ln ls (some (.own fd)) (some (.d (.int k))) (some (.d (.tup rs))) x5 x9 x10 (some (.d (.int j))) (some (.d (.lst (oddA m ps)))) (some (.d (.int m))) (some (.d (.tup ps))) none) st = .ok (.nx (bE n (pV L ln ls) L ln ls (some (.own fd)) (some (.d (.int k))) (some (.d (.tup rs))) x5 x9 x10 (some (.d (.int j))) (some (.d (.lst (oddA m ps ++ oddB m ps)))) (some (.d (.int m))) (some (.d (.tup ps))) none)) st := by
  have l1 : 1 ≤ sizeLine := by decide
  have l2 : 2 ≤ sizeLine := by decide
  have l6 : 6 ≤ sizeLine := by decide
  have l8 : ps.length + ps.length ≤ sizeLine := szl2 (by omega)
  have l9 : (oddA m ps).length + 6 ≤ sizeLine := szl2 (by simp [oddA])
  simp [l1, l2, l6, listM, addM, l8, l9, oddB]
theorem c5_run (n : Nat) (L k j m : Int) (ln ls fd rs ps sm od : List D) (x9 x10 : Option EV) (st : Sto) (hs : sm.length ≤ 100) (hr : rs.length ≤ 5) (ho : od.length ≤ 100) : c5 (bE n (pV L ln ls) L ln ls (some (.own fd)) (some (.d (.int k))) (some (.d (.tup rs))) (some (.d (.lst sm))) x9 x10 (some (.d (.int j))) (some (.d (.lst od))) (some (.d (.int m))) (some (.d (.tup ps))) none) st = .ok (.nx (bE n (pV L ln ls) L ln ls (some (.own fd)) (some (.d (.int k))) (some (.d (.tup rs))) (some (.d (.lst (sm ++ od.map fun o => .tup (othD rs j o))))) x9 x10 (some (.d (.int j))) (some (.d (.lst od))) (some (.d (.int m))) (some (.d (.tup ps))) none)) st := by
  have e := lcL_map (tg := nameG 15) (fe := callW F__law_other (consA (varE 4) (consA (varE 11) (consA (varE 15) (nilA))))) (env := bE n (pV L ln ls) L ln ls (some (.own fd)) (some (.d (.int k))) (some (.d (.tup rs))) (some (.d (.lst sm))) x9 x10 (some (.d (.int j))) (some (.d (.lst od))) (some (.d (.int m))) (some (.d (.tup ps))) none) (st := st) (fun o => .tup (othD rs j o)) od fun o ho => ⟨_, rfl, by simp [F_other_run rs j o st (by omega)]⟩
  have l1 : od.length ≤ sizeLine := szl2 (by omega)
  have l2 : sm.length + od.length ≤ sizeLine := szl2 (by omega)
  simp [l1, e, addM, l2]
theorem bb10_go (n : Nat) (L k : Int) (ln ls fd rs sm : List D) (p : PostS L ln ls) (x9 x10 : Option EV) (hl : rs.length ≤ 5) (hr : ∀ r ∈ rs, niceR r) (hs : sm.length ≤ 50) (hsm : All Nl sm) : ∀ st, Pot n st → ∃ (st' : Sto) (sm' : List D) (y11 y12 y13 y14 : Option EV), bb10 (bE n (pV L ln ls) L ln ls (some (.own fd)) (some (.d (.int k))) (some (.d (.tup rs))) (some (.d (.lst sm))) x9 x10 none none none none none) st = .ok (.nx (bE n (pV L ln ls) L ln ls (some (.own fd)) (some (.d (.int k))) (some (.d (.tup rs))) (some (.d (.lst sm'))) x9 x10 y11 y12 y13 y14 none)) st' ∧ Pot n st' ∧ sm'.length ≤ 100 ∧ All Nl sm' := fun st hp => by
  have hrn : nice [10, 3, 70] (.tup rs) = true := nL ⟨rs, rfl, by omega, hr⟩ []
  have hne := neM_nilT st hrn (by simp)
  have ll : rs.length ≤ sizeLine := szl2 (by omega)
  rw [bb10_eq]
  by_cases c : rs = []
  · subst c
    refine ⟨st, sm, none, none, none, none, ?_, hp, by omega, hsm⟩
    simp [isNil] at hne
    simp [hne]
  · have cl : 0 < rs.length := List.length_pos_iff.mpr c
    have hne2 : neM (.tup rs) (.tup []) st = .ok (.bl true) st := by
      rw [hne]
      cases rs with
      | nil => exact absurd rfl c
      | cons a b => rfl
    obtain ⟨_, st1, e1, p1, j, rfl, j0, j1⟩ := F_draw_go n (rs.length : Int) (by omega) (by omega) st hp
    obtain ⟨x, hx, hm⟩ := at_ok rs j j0 j1
    obtain ⟨m, q, rfl, m0, m1, ps, rfl, hpl, hps⟩ := hr x hm
    have t1 : tstE (binE neM (varE 4) (tupE nilA)) (bE n (pV L ln ls) L ln ls (some (.own fd)) (some (.d (.int k))) (some (.d (.tup rs))) (some (.d (.lst sm))) x9 x10 none none none none none) st = .ok true st := by simp [hne2]
    have s1 : c1 (bE n (pV L ln ls) L ln ls (some (.own fd)) (some (.d (.int k))) (some (.d (.tup rs))) (some (.d (.lst sm))) x9 x10 none none none none none) st = .ok (.nx (bE n (pV L ln ls) L ln ls (some (.own fd)) (some (.d (.int k))) (some (.d (.tup rs))) (some (.d (.lst sm))) x9 x10 (some (.d (.int j))) none none none none)) st1 := by simp [e1]
    have s2 := c2_run n L k j m ln ls fd rs ps (some (.d (.lst sm))) x9 x10 st1 hx
    have s3 := c3_run n L k j m ln ls fd rs ps (some (.d (.lst sm))) x9 x10 st1 hpl
    have s4 := c4_run n L k j m ln ls fd rs ps (some (.d (.lst sm))) x9 x10 st1 hpl
    have s5 := c5_run n L k j m ln ls fd rs ps sm (oddA m ps ++ oddB m ps) x9 x10 st1 (by omega) hl (by simp [oddA, oddB])
    refine ⟨st1, sm ++ (oddA m ps ++ oddB m ps).map fun o => .tup (othD rs j o), some (.d (.int j)), some (.d (.lst (oddA m ps ++ oddB m ps))), some (.d (.int m)), some (.d (.tup ps)), ?_, p1, ?_, ?_⟩
    · rw [ifS_run, bind_run, t1]
      show seqS _ _ _ st = _
      rw [seq_nx s1, seq_nx s2, seq_nx s3, seq_nx s4, s5]
    · simp [oddA, oddB]; omega
    · refine hsm.app (All.map fun o ho => ?_)
      exact nice_tupI _ _ _ (by rw [oth_len j0 j1]; omega) (oth_all (fun r h => nR (hr r h) []) (odd_ok m0 m1 hpl hps o ho) j)
theorem bb11_run (n : Nat) (L k : Int) (ln ls fd rs sm : List D) (hls : ls.length ≤ 4) (hf : fd.length ≤ 500) (hs : sm.length ≤ 100) (x4 x9 x10 x11 x12 x13 x14 : Option EV) (st : Sto) : bb11 (bE n (pV L ln ls) L ln ls (some (.own fd)) (some (.d (.int k))) x4 (some (.d (.lst sm))) x9 x10 x11 x12 x13 x14 none) st = .ok (.nx (bE n (pV L ln ls) L ln ls (some (.own (fd ++ sm.map fun o => .tup [.int L, .tup ln, .tup (othD ls k o)]))) (some (.d (.int k))) x4 (some (.d (.lst sm))) x9 x10 x11 x12 x13 x14 none)) st := by
  have l3 : 3 ≤ sizeLine := by decide
  have l8 : sm.length ≤ sizeLine := szl2 (by omega)
  have e := lcL_map (tg := nameG 15) (fe := tupE (consA (varE 6) (consA (varE 7) (consA (callW F__law_other (consA (varE 8) (consA (varE 3) (consA (varE 15) (nilA))))) (nilA))))) (env := bE n (pV L ln ls) L ln ls (some (.own fd)) (some (.d (.int k))) x4 (some (.d (.lst sm))) x9 x10 x11 x12 x13 x14 none) (st := st) (fun o => .tup [.int L, .tup ln, .tup (othD ls k o)]) sm fun o ho => ⟨_, rfl, by simp [l3, F_other_run ls k o st (by omega)]⟩
  refine grow_ok (ys := sm.map fun o => .tup [.int L, .tup ln, .tup (othD ls k o)]) (xs := fd) rfl (d := .lst (sm.map fun o => .tup [.int L, .tup ln, .tup (othD ls k o)])) ?_ rfl (by simp; omega)
  simp [l8, e]
theorem bb12_run (n : Nat) (L : Int) (ln ls fd : List D) (hf : fd.length ≤ 700) (x3 x4 x5 x9 x10 x11 x12 x13 x14 : Option EV) (st : Sto) : bb12 (bE n (pV L ln ls) L ln ls (some (.own fd)) x3 x4 x5 x9 x10 x11 x12 x13 x14 none) st = .ok (.nx (bE n (pV L ln ls) L ln ls (some (.own (fd ++ [.tup [.int L, .tup ln, .tup ls.reverse]]))) x3 x4 x5 x9 x10 x11 x12 x13 x14 none)) st := by
  have l3 : 3 ≤ sizeLine := by decide
  refine grow_ok (ys := [.tup [.int L, .tup ln, .tup ls.reverse]]) (xs := fd) rfl (d := .tup [.int L, .tup ln, .tup ls.reverse]) ?_ rfl (by simp; omega)
  simp [l3, revM]
def endD : List D := [.non, .int 0, .bl true, .str "", .tup [], .lst [], .dct [] [], .tup [.int 1, .tup [], .tup [.tup []]], .tup [.int 2, .tup [], .tup [.tup []]], .tup [.int 1, .tup [.int 2], .tup [.tup [.tup [.int 0, .tup [.int 0, .int 1]]]]], .tup [.int 1, .tup [.int 61], .tup [.tup [.tup [.int 0, .tup (rngD 0 61)]]]]]
/-- nice, or {} -/
def Nz (d : D) : Prop := Nc d ∨ d = .dct [] []
theorem endD_ok : All Nz endD := by
  have h : ∀ d ∈ endD, Nc d ∨ (match d with | .dct [] [] => true | _ => false) = true := by decide +kernel
  intro d hd
  rcases h d hd with h | h
  · exact .inl h
  · refine .inr ?_
    cases d with
    | dct ks xs => cases ks with
      | nil => cases xs with
        | nil => rfl
        | cons a b => simp at h
      | cons a b => simp at h
    | _ => simp at h
theorem trg61 (st : Sto) : trgM (.int 61) st = .ok (.tup (rngD 0 61)) st := by
  have : small 61 := by decide
  have h2 : L2.RgOk 0 61 := by unfold L2.RgOk; decide
  simp [trgM, this, h2]
theorem bb13_run (n : Nat) (L : Int) (ln ls fd : List D) (hf : fd.length ≤ 800) (x3 x4 x5 x9 x10 x11 x12 x13 x14 : Option EV) (st : Sto) : bb13 (bE n (pV L ln ls) L ln ls (some (.own fd)) x3 x4 x5 x9 x10 x11 x12 x13 x14 none) st = .ok (.rt (.lst (fd ++ endD))) st := by
  have l0 : 0 ≤ sizeLine := by decide
  have l1 : 1 ≤ sizeLine := by decide
  have l2 : 2 ≤ sizeLine := by decide
  have l3 : 3 ≤ sizeLine := by decide
  have l11 : 11 ≤ sizeLine := by decide
  have l : fd.length + 11 ≤ sizeLine := szl2 (by omega)
  simp [frz, trg61, l0, l1, l2, l3, l11, addM, l, endD]
theorem F_bent_go (n : Nat) (L : Int) (ln ls : List D) (p : PostS L ln ls) : Go n (F__law_bent [.ref n, pV L ln ls]) (fun d => ∃ xs : List D, d = .lst xs ∧ All Nz xs) := fun st hp => by
  have h1 := bb1_run n L ln ls st
  have h2 := bb2_run n L ln ls st
  have h3 := bb3_run n L ln ls (fd2 L ln ls) (by simp [fd2]) st
  have h4 := bb4_run n L ln ls _ (by have := p.nl; omega) (show (fd2 L ln ls ++ (odd3 L).map fun o => D.tup [o, .tup ln, .tup ls]).length ≤ 500 by simp [fd2, odd3]) st
  have h5 := bb5_run n L ln ls _ (show ((fd2 L ln ls ++ (odd3 L).map fun o => D.tup [o, .tup ln, .tup ls]) ++ odd4.map fun o => D.tup [.int L, .tup (ln ++ [o]), .tup ls]).length ≤ 500 by simp [fd2, odd3, odd4]) st
  have a5 : All Nc (((fd2 L ln ls ++ (odd3 L).map fun o => D.tup [o, .tup ln, .tup ls]) ++ odd4.map fun o => D.tup [.int L, .tup (ln ++ [o]), .tup ls]) ++ [D.tup [.int L, .tup ln.tail, .tup ls]]) := (((fd2_ok p).app (fd3_ok p)).app (fd4_ok p)).app (fd5_ok p)
  have n5 : (((fd2 L ln ls ++ (odd3 L).map fun o => D.tup [o, .tup ln, .tup ls]) ++ odd4.map fun o => D.tup [.int L, .tup (ln ++ [o]), .tup ls]) ++ [D.tup [.int L, .tup ln.tail, .tup ls]]).length ≤ 100 := by simp [fd2, odd3, odd4]
  generalize (((fd2 L ln ls ++ (odd3 L).map fun o => D.tup [o, .tup ln, .tup ls]) ++ odd4.map fun o => D.tup [.int L, .tup (ln ++ [o]), .tup ls]) ++ [D.tup [.int L, .tup ln.tail, .tup ls]]) = f5 at h5 a5 n5
  obtain ⟨st6, f6, x9, x10, h6, p6, n6, a6⟩ := bb6_go n L ln ls f5 p (by omega) a5 st hp
  obtain ⟨st8, k, rs, h78, p8, k0, k1, rl, rr⟩ := bb78_go n L ln ls f6 p x9 x10 st6 p6
  have h9 := bb9_run n L k ln ls f6 rs x9 x10 rl st8
  obtain ⟨st10, sm, y11, y12, y13, y14, h10, p10, sl, sa⟩ := bb10_go n L k ln ls f6 rs (some9 rs) p x9 x10 rl rr (by simp [some9]) (some9_ok rl rr) st8 p8
  have ll : ls.length ≤ 4 := by have := p.ll; have := p.l4; omega
  have h11 := bb11_run n L k ln ls f6 rs sm ll (by omega) sl (some (.d (.tup rs))) x9 x10 y11 y12 y13 y14 st10
  have h12 := bb12_run n L ln ls (f6 ++ sm.map fun o => D.tup [.int L, .tup ln, .tup (othD ls k o)]) (by simp; omega) (some (.d (.int k))) (some (.d (.tup rs))) (some (.d (.lst sm))) x9 x10 y11 y12 y13 y14 st10
  have h13 := bb13_run n L ln ls ((f6 ++ sm.map fun o => D.tup [.int L, .tup ln, .tup (othD ls k o)]) ++ [D.tup [.int L, .tup ln, .tup ls.reverse]]) (by simp; omega) (some (.d (.int k))) (some (.d (.tup rs))) (some (.d (.lst sm))) x9 x10 y11 y12 y13 y14 st10
  have assoc : ∀ (env : EnvD) (s : Sto) (f : EnvD → M Fl), seqS bb7 (seqS bb8 f) env s = seqS (seqS bb7 bb8) f env s := fun env s f => by
    simp only [seqS_run, bind_run]
    cases bb7 env s with
    | ok fl s => cases fl <;> rfl
    | exc x s => rfl
    | bad => rfl
  refine ⟨.lst (((f6 ++ sm.map fun o => D.tup [.int L, .tup ln, .tup (othD ls k o)]) ++ [D.tup [.int L, .tup ln, .tup ls.reverse]]) ++ endD), st10, ?_, p10, _, rfl, ?_⟩
  · refine run_rt rfl ?_
    rw [bb_eq]
    show seqS _ _ [some (.d (.ref n)), some (.d (pV L ln ls)), none, none, none, none, none, none, none, none, none, none, none, none, none, none] st = _
    rw [seq_nx h1, seq_nx h2, seq_nx h3, seq_nx h4, seq_nx h5, seq_nx h6, assoc, seq_nx h78, seq_nx h9, seq_nx h10, seq_nx h11, seq_nx h12, h13]
  · have e11 : All Nc (sm.map fun o => D.tup [.int L, .tup ln, .tup (othD ls k o)]) := All.map fun o ho => tri (triL p) p.nln (nice_tupI _ _ _ (by rw [oth_len k0 k1]; omega) (oth_all (fun x hx => niceLst (p.hl x hx)) (sa o ho) k))
    have e12 : All Nc [D.tup [.int L, .tup ln, .tup ls.reverse]] := All.cons (tri (triL p) p.nln (nice_tupI _ _ _ (by simp; omega) (All.rev (fun x hx => niceLst (p.hl x hx))))) All.nil
    exact All.app (fun d hd => .inl (((a6.app e11).app e12) d hd)) endD_ok
end Dd

set_option Elab.async false
set_option linter.all false
set_option maxRecDepth 100000
/-! the plain law, part W: views of texts by the law's own hand. -/
namespace Dd
open PySem PySem.Spec PyProof.Rows
open L2 (atI ixN Key cutS)
theorem posN_at (s : Nat) : ∀ (cs : List Nat) (k i : Nat), i ∈ posN s k cs ↔ ∃ j, i = k + j ∧ cs[j]? = some s
  | [], k, i => by simp [posN]
  | c :: cs, k, i => by
    have ih := posN_at s cs (k + 1) i
    constructor
    · intro h
      unfold posN at h
      split at h
      · rename_i e
        simp only [List.mem_cons] at h
        rcases h with rfl | h
        · exact ⟨0, rfl, by simp [e]⟩
        · obtain ⟨j, rfl, hj⟩ := ih.mp h
          exact ⟨j + 1, by omega, by simpa using hj⟩
      · obtain ⟨j, rfl, hj⟩ := ih.mp h
        exact ⟨j + 1, by omega, by simpa using hj⟩
    · rintro ⟨j, rfl, hj⟩
      unfold posN
      cases j with
      | zero => simp at hj; simp [hj]
      | succ j =>
        have : k + (j + 1) ∈ posN s (k + 1) cs := ih.mpr ⟨j, by omega, by simpa using hj⟩
        split
        · exact List.mem_cons_of_mem _ this
        · exact this
theorem posN_inc (s : Nat) : ∀ (cs : List Nat) (k : Nat), (posN s k cs).Pairwise (· < ·)
  | [], k => by simp [posN]
  | c :: cs, k => by
    have ih := posN_inc s cs (k + 1)
    unfold posN
    split
    · refine List.pairwise_cons.mpr ⟨fun i hi => ?_, ih⟩
      have := posN_mem s cs (k + 1) i hi
      omega
    · exact ih
def posA (lk : Nat → Bool) (cs : List Nat) : List Nat → List Nat
  | [] => []
  | s :: ls => (if lk s = true then posN s 0 cs else []) ++ posA lk cs ls
theorem posA_at (lk : Nat → Bool) (cs : List Nat) : ∀ (ls : List Nat) (i : Nat), i ∈ posA lk cs ls → ∃ s ∈ ls, cs[i]? = some s
  | [], i, h => by simp [posA] at h
  | s :: ls, i, h => by
    unfold posA at h
    rcases List.mem_append.mp h with h | h
    · split at h
      · obtain ⟨j, rfl, hj⟩ := (posN_at s cs 0 i).mp h
        exact ⟨s, by simp, by simpa using hj⟩
      · simp at h
    · obtain ⟨s', h1, h2⟩ := posA_at lk cs ls i h
      exact ⟨s', by simp [h1], h2⟩
theorem posA_nodup (lk : Nat → Bool) (cs : List Nat) : ∀ (ls : List Nat), ls.Nodup → (posA lk cs ls).Nodup
  | [], _ => by simp [posA]
  | s :: ls, h => by
    have hn := List.nodup_cons.mp h
    unfold posA
    refine List.nodup_append.mpr ⟨?_, posA_nodup lk cs ls hn.2, fun a ha b hb e => ?_⟩
    · split
      · exact (posN_inc s cs 0).imp fun h => Nat.ne_of_lt h
      · simp
    · subst e
      split at ha
      · obtain ⟨j, rfl, hj⟩ := (posN_at s cs 0 a).mp ha
        obtain ⟨s', h1, h2⟩ := posA_at lk cs ls _ hb
        have h3 : cs[j]? = some s' := by simpa using h2
        rw [hj] at h3
        cases h3
        exact hn.1 h1
      · simp at ha
theorem posA_lt (lk : Nat → Bool) (cs ls : List Nat) (i : Nat) (h : i ∈ posA lk cs ls) : i < cs.length := by
  obtain ⟨s, _, h2⟩ := posA_at lk cs ls i h
  exact (List.getElem?_eq_some_iff.mp h2).1
def sumL (k : Nat) (cs : List Nat) : List Nat → Nat
  | [] => 0
  | s :: ls => (posN s k cs).length + sumL k cs ls
theorem sum_all {L : Int} (h1 : 1 ≤ L) (h4 : L ≤ 4) : ∀ (cs : List Nat) (k : Nat), (∀ c ∈ cs, Let L c) → sumL k cs (lets L) = cs.length
  | [], k, _ => by
    rcases four h1 h4 with rfl | rfl | rfl | rfl <;> simp [lets, sumL, posN]
  | c :: cs, k, h => by
    have ih := sum_all h1 h4 cs (k + 1) fun x hx => h x (by simp [hx])
    have hc := h c (by simp)
    rw [List.length_cons, ← ih]
    unfold Let at hc
    rcases four h1 h4 with rfl | rfl | rfl | rfl
    · have : c = 97 := by omega
      subst this
      simp [lets, sumL, posN]
    · have : c = 97 ∨ c = 98 := by omega
      rcases this with rfl | rfl <;> simp [lets, sumL, posN] <;> omega
    · have : c = 97 ∨ c = 98 ∨ c = 99 := by omega
      rcases this with rfl | rfl | rfl <;> simp [lets, sumL, posN] <;> omega
    · have : c = 97 ∨ c = 98 ∨ c = 99 ∨ c = 100 := by omega
      rcases this with rfl | rfl | rfl | rfl <;> simp [lets, sumL, posN] <;> omega
theorem posA_len (lk : Nat → Bool) (cs : List Nat) : ∀ ls : List Nat, (∀ s ∈ ls, lk s = true) → (posA lk cs ls).length = sumL 0 cs ls
  | [], _ => rfl
  | s :: ls, h => by
    have := posA_len lk cs ls fun x hx => h x (by simp [hx])
    simp [posA, sumL, h s (by simp), this]
theorem lets_nodup (L : Int) : (lets L).Nodup := by
  unfold lets
  exact List.Sublist.nodup (List.take_sublist _ _) (by decide)
/-- the places told, letter by letter -/
def vLs (lk : Nat → Bool) (cs ls : List Nat) : List D := ls.map fun s => if lk s = true then .tup ((posN s 0 cs).map intN) else .non
theorem vPl_vLs (lk : Nat → Bool) (cs : List Nat) : ∀ ls : List Nat, vPl (vLs lk cs ls) = (posA lk cs ls).map intN
  | [] => rfl
  | s :: ls => by
    have ih := vPl_vLs lk cs ls
    unfold vLs at ih ⊢
    rw [List.map_cons]
    by_cases h : lk s = true
    · simp only [if_pos h, vPl, ih, posA, List.map_append]
    · simp only [if_neg h, vPl, ih, posA, List.nil_append]
theorem vNs_vLs (lk : Nat → Bool) (cs ls : List Nat) : vNs (vLs lk cs ls) = (posA lk cs ls).map fun (n : Nat) => (n : Int) := by
  unfold vNs
  rw [vPl_vLs, List.map_map]
  rfl
theorem firstI_of_nodup {ns : List Int} (h : ns.Nodup) : firstI ns = ns := by
  have : ∀ (ns acc : List Int), (acc ++ ns).Nodup → ns.foldl (fun acc n => if acc.any (· == n) then acc else acc ++ [n]) acc = acc ++ ns := by
    intro ns
    induction ns with
    | nil => intro acc _; simp
    | cons n r ih =>
      intro acc ha
      have hn : ¬ (acc.any (· == n)) = true := by
        intro hh
        obtain ⟨x, hx, he⟩ := List.any_eq_true.mp hh
        have : x = n := by simpa using he
        subst this
        exact (List.nodup_append.mp ha).2.2 x hx x (by simp) rfl
      rw [List.foldl_cons, if_neg hn, ih (acc ++ [n]) (by simpa using ha)]
      simp
  have := this ns [] (by simpa using h)
  simpa [firstI] using this
theorem incr_ints : ∀ ps : List Nat, ps.Pairwise (· < ·) → incr (ps.map intN) = true
  | [], _ => rfl
  | [a], _ => rfl
  | a :: b :: r, h => by
    have h2 := List.pairwise_cons.mp h
    have ih := incr_ints (b :: r) h2.2
    have := h2.1 b (by simp)
    simp only [List.map_cons] at ih ⊢
    simp [incr, ltD, intN, this]
    exact ih
def aD (lg : Bool) (cs : List Nat) : D := if lg = true then .int (cs.length : Int) else .non
theorem view_ok {L : Int} (h1 : 1 ≤ L) (h4 : L ≤ 4) (lg : Bool) (lk : Nat → Bool) (cs : List Nat) (hl : cs.length ≤ 60) (hc : ∀ c ∈ cs, Let L c) : viewOk L (.tup [aD lg cs, .tup (vLs lk cs (lets L))]) = true := by
  have hv : (vLs lk cs (lets L)).all vOk = true := by
    refine List.all_eq_true.mpr fun x hx => ?_
    obtain ⟨s, hs, rfl⟩ := List.mem_map.mp hx
    by_cases h : lk s = true
    · rw [if_pos h]
      simp only [vOk, isNonD, placesOk, Bool.false_or, Bool.and_eq_true, List.all_eq_true]
      refine ⟨fun d hd => ?_, incr_ints _ (posN_inc s cs 0)⟩
      obtain ⟨i, hi, rfl⟩ := List.mem_map.mp hd
      have := posN_mem s cs 0 i hi
      simp [withinD, intN]
      omega
    · rw [if_neg h]; rfl
  have hnd : (vNs (vLs lk cs (lets L))).Nodup := by
    rw [vNs_vLs]
    have := posA_nodup lk cs (lets L) (lets_nodup L)
    exact List.pairwise_map.mpr (this.imp fun h e => h (by omega))
  have hll : ((vLs lk cs (lets L)).length : Int) = L := by rw [show (vLs lk cs (lets L)).length = (lets L).length by simp [vLs]]; exact lets_len h1 h4
  have hlk : lookOk L (.tup (vLs lk cs (lets L))) = true := by
    simp only [lookOk, hll, hv, firstI_of_nodup hnd, decide_true, Bool.and_true]
  have ha : aOk (aD lg cs) = true := by
    cases lg
    · rfl
    · simp [aD, aOk, withinD]; right; omega
  have hlt : ∀ i ∈ vNs (vLs lk cs (lets L)), 0 ≤ i ∧ i < (cs.length : Int) := fun i hi => by
    rw [vNs_vLs] at hi
    obtain ⟨n, hn, rfl⟩ := List.mem_map.mp hi
    have := posA_lt lk cs _ n hn
    omega
  have hle : (vLs lk cs (lets L)).any isNonD = false → ((vNs (vLs lk cs (lets L))).length : Int) = cs.length := fun h => by
    have hall : ∀ s ∈ lets L, lk s = true := fun s hs => by
      cases e : lk s with
      | true => rfl
      | false =>
        have : (vLs lk cs (lets L)).any isNonD = true := List.any_eq_true.mpr ⟨.non, List.mem_map.mpr ⟨s, hs, by simp [e]⟩, rfl⟩
        rw [this] at h; cases h
    rw [vNs_vLs, List.length_map, posA_len lk cs _ hall, sum_all h1 h4 cs 0 hc]
  have ht : tailOk (aD lg cs) (vLs lk cs (lets L)) = true := by
    unfold tailOk
    rw [Bool.and_eq_true]
    constructor
    · rw [Bool.not_eq_true', List.any_eq_false]
      intro i hi
      have h2 := hlt i hi
      have h3 := maxI_ub i hi
      cases lg
      · simp [aD, leastI]; omega
      · simp [aD, leastI]; omega
    · cases e : (vLs lk cs (lets L)).any isNonD with
      | true => rfl
      | false =>
        have h2 := hle e
        rw [Bool.false_or, decide_eq_true_eq]
        cases lg
        · show _ = maxI _ + 1
          refine (full_max hnd fun i hi => (hlt i hi).1).mp ?_
          rw [h2]
          exact (full_iff hnd _ hlt (by omega)).mpr h2
        · exact h2
  simp only [viewOk, hlk, ha, ht, Bool.and_true]
/-! ### looks -/
def lookS (z : Str) : Prop := ∀ c ∈ z.cps.toList, c < 128
theorem lookS_ok {z : Str} (h : lookS z) : PyData.strOk z = true := by
  simp only [PyData.strOk]
  rw [← Array.all_toList, List.all_eq_true]
  intro c hc
  have := h c hc
  exact decide_eq_true (by omega)
theorem toPs_strs : ∀ zs : List Str, toPs (zs.map D.str) = some (zs.map PyData.str)
  | [] => rfl
  | z :: zs => by simp [toPs, toP, toPs_strs zs]
theorem lay_strs : ∀ zs : List Str, (∀ z ∈ zs, lookS z) → PyData.canLayAll0 (zs.map PyData.str) = true
  | [], _ => rfl
  | z :: zs, h => by
    have := lay_strs zs fun x hx => h x (by simp [hx])
    simp [PyData.canLayAll0, PyData.canLay0, lookS_ok (h z (by simp)), this]
theorem dep_strs : ∀ zs : List Str, PyData.depthAll (zs.map PyData.str) = 0
  | [] => rfl
  | z :: zs => by simp [PyData.depthAll, PyData.depth, dep_strs zs]
def inL (zs : List Str) (c : Str) : Bool := (zs.map PyData.str).any fun q => PyData.eqv q (.str c)
theorem inM_strs (zs : List Str) (c : Str) (h : ∀ z ∈ zs, lookS z) (hc : lookS c) (st : Sto) : inM (.str c) (.lst (zs.map D.str)) st = .ok (.bl (inL zs c)) st := by
  have e1 : shp (.str c) = some (.str c) := by simp [shp, toP, SeqAt.shaped, PyData.canLay0, lookS_ok hc, PyData.depth]
  have e2 : shp (.lst (zs.map D.str)) = some (.list (zs.map PyData.str)) := by
    simp [shp, toP, toPs_strs, SeqAt.shaped, PyData.canLay0, lay_strs zs h, PyData.depth, dep_strs, -List.map_map]
  show (match shp (.str c), shp (.lst (zs.map D.str)) with
    | some p, some (.list qs) => (pure (.bl (qs.any fun q => PyData.eqv q p)) : M D)
    | some p, some (.tuple qs) => pure (.bl (qs.any fun q => PyData.eqv q p))
    | _, _ => M.bad) st = _
  rw [e1, e2]
  rfl
abbrev bodyX : EnvD → M Fl := growS oneD 3 (iteE (tstE (binE inM (varE 4) (varE 2))) (biE tupleM (consA (lcE (enumI (varE 1)) (tupG 2 (consG (nameG 5) (consG (nameG 6) (nilG)))) (tstE (binE eqM (varE 6) (varE 4))) (varE 5) [5, 6]) (nilA))) (cstE .non))
theorem lookS_one {c : Nat} (h : c < 128) : lookS ⟨#[c]⟩ := fun x hx => by simp at hx; omega
theorem bodyX_run (A : Option EV) (cs : List Nat) (zs : List Str) (h : ∀ z ∈ zs, lookS z) (hl : cs.length ≤ 100) (acc : List D) (ha : acc.length ≤ 100) (s : Nat) (hs : s < 128) (st : Sto) :
    bodyX [A, some (.d (tx cs)), some (.d (.lst (zs.map D.str))), some (.own acc), some (.d (.str ⟨#[s]⟩)), none, none] st = .ok (.nx [A, some (.d (tx cs)), some (.d (.lst (zs.map D.str))), some (.own (acc ++ [if inL zs ⟨#[s]⟩ = true then .tup ((posN s 0 cs).map intN) else .non])), some (.d (.str ⟨#[s]⟩)), none, none]) st := by
  have e1 := inM_strs zs ⟨#[s]⟩ h (lookS_one hs) st
  have e2 := lc_pos s 5 6 4 [A, some (.d (tx cs)), some (.d (.lst (zs.map D.str))), some (.own acc), some (.d (.str ⟨#[s]⟩)), none, none] st (by simp) (by simp) (by decide) (by decide) (by decide) rfl cs 0
  have hz : (enumD 0 (chD cs)).length ≤ sizeLine := by rw [enumD_length]; exact szl2 (by simp [chD]; omega)
  refine grow_ok (ys := [if inL zs ⟨#[s]⟩ = true then .tup ((posN s 0 cs).map intN) else .non]) (xs := acc) rfl (d := if inL zs ⟨#[s]⟩ = true then .tup ((posN s 0 cs).map intN) else .non) ?_ rfl (by simp; omega)
  cases e : inL zs ⟨#[s]⟩ with
  | true => rw [e] at e1; simp [e1, tx_it, hz, e2, tyt]
  | false => rw [e] at e1; simp [e1]
theorem loop_w (A : Option EV) (cs : List Nat) (zs : List Str) (h : ∀ z ∈ zs, lookS z) (hl : cs.length ≤ 100) (st : Sto) : ∀ (ls : List Nat), (∀ s ∈ ls, s < 128) → ∀ (acc : List D) (x : Option EV), acc.length + ls.length ≤ 100 → ∃ x',
    forL (nameG 4) bodyX (chD ls) [A, some (.d (tx cs)), some (.d (.lst (zs.map D.str))), some (.own acc), x, none, none] st = .ok (.nx [A, some (.d (tx cs)), some (.d (.lst (zs.map D.str))), some (.own (acc ++ vLs (fun s => inL zs ⟨#[s]⟩) cs ls)), x', none, none]) st
  | [], _, acc, x, _ => ⟨x, by simp [chD, forL, vLs]⟩
  | s :: ls, hs, acc, x, hlen => by
    simp only [List.length_cons] at hlen
    have e := bodyX_run A cs zs h hl acc (by omega) s (hs s (by simp)) st
    obtain ⟨x', ih⟩ := loop_w A cs zs h hl st ls (fun y hy => hs y (by simp [hy])) (acc ++ [if inL zs ⟨#[s]⟩ = true then .tup ((posN s 0 cs).map intN) else .non]) (some (.d (.str ⟨#[s]⟩))) (by simp; omega)
    refine ⟨x', ?_⟩
    show forL _ _ (.str ⟨#[s]⟩ :: chD ls) _ st = _
    rw [forL_cons _ _ _ _ _ _ _ rfl]
    simp only [bind_run, List.set_cons_succ, List.set_cons_zero, e, ih]
    simp [vLs]
def vwD (L : Int) (cs : List Nat) (zs : List Str) : D := .tup [aD (inL zs "long") cs, .tup (vLs (fun s => inL zs ⟨#[s]⟩) cs (lets L))]
theorem long_ok : lookS ("long" : Str) := by unfold lookS; decide +kernel
theorem F_view_make (L : Int) (h1 : 1 ≤ L) (h4 : L ≤ 4) (cs : List Nat) (zs : List Str) (h : ∀ z ∈ zs, lookS z) (hl : cs.length ≤ 60) (st : Sto) : F__law_view [.int L, tx cs, .lst (zs.map D.str)] st = .ok (vwD L cs zs) st := by
  have e0 := cut_lets h1 h4
  have el := lets_len h1 h4
  have hc : itM (.str (cutS "abcd" none (some L))) = pure (chD (lets L)) := by rw [e0]; simp [chD]
  obtain ⟨x', e1⟩ := loop_w (some (.d (.int L))) cs zs h (by omega) st (lets L) (fun s hs => by have := (lets_mem h1 h4 s).mp hs; unfold Let at this; omega) [] none (by simp; omega)
  have e2 := inM_strs zs "long" h long_ok st
  have l0 : (0 : Nat) ≤ sizeLine := by decide
  have l2 : 2 ≤ sizeLine := by decide
  have lt : (⟨cs.toArray⟩ : Str).length = cs.length := by simp [Str.length]
  have ll : cs.length ≤ sizeLine := szl2 (by omega)
  have eb : b__law_view = seqS (ownS 3 (nilA)) (seqS (forS (anyI (slE (cstE (.str "abcd")) noE (partE (varE 0)))) (nameG 4) bodyX)
    (frzS 3 (retS (tupE (consA (iteE (tstE (binE inM (cstE (.str "long")) (varE 2))) (biE lenM (consA (varE 1) (nilA))) (cstE .non)) (consA (biE tupleM (consA (varE 3) (nilA))) (nilA))))))) := rfl
  refine run_rt rfl ?_
  rw [eb]
  show seqS _ _ [some (.d (.int L)), some (.d (tx cs)), some (.d (.lst (zs.map D.str))), none, none, none, none] st = _
  simp only [seqS_run, bind_run, ownS_run, nilA_run, List.length_nil, if_pos l0, pure_run, List.set_cons_succ, List.set_cons_zero, forS_run, anyI_run, slE_run, cstE_run, noE_run, partE_run, varE_run, List.getElem?_cons_zero, slM_abcd, hc, e1, List.nil_append]
  cases e : inL zs "long" with
  | true =>
    rw [e] at e2
    simp [frz, e2, tx, lt, ll, tyt, l2, vwD, aD, e]
  | false =>
    rw [e] at e2
    simp [frz, e2, tyt, l2, vwD, aD, e]
end Dd

set_option Elab.async false
set_option linter.all false
set_option maxRecDepth 100000
/-! the plain law, part X: bent views, texts that fill them. -/
namespace Dd
open PySem PySem.Spec PyProof.Rows
open L2 (atI ixN Key cutS)
abbrev vv1 : EnvD → M Fl := asgS (varE 1) (tupGm 2 (consGm (pureG (nameG 6)) (consGm (pureG (nameG 7)) (nilGm))))
abbrev vv2 : EnvD → M Fl := ownS 2 (consA (varE 1) (consA (biE listM (consA (varE 1) (nilA))) (consA (tupE (consA (varE 6) (nilA))) (consA (binE addM (varE 1) (tupE (consA (cstE (.int 0)) (nilA)))) (consA (tupE (consA (varE 6) (consA (biE listM (consA (varE 7) (nilA))) (nilA)))) (consA (tupE (consA (varE 6) (consA (binE addM (varE 7) (tupE (consA (tupE (nilA)) (nilA)))) (nilA)))) (consA (tupE (consA (varE 6) (consA (slE (varE 7) (partE (cstE (.int 1))) noE) (nilA)))) (consA (tupE (consA (varE 6) (consA (unE revM (varE 7)) (nilA)))) (nilA)))))))))
abbrev vv3 : EnvD → M Fl := growS manyD 2 (lcE (anyI (tupE (consA (cstE .non) (consA (cstE (.int 0)) (consA (cstE (.int 1)) (consA (cstE (.int 2)) (consA (cstE (.int 60)) (consA (cstE (.int 61)) (consA (cstE (.bl true)) (consA (cstE (.str "1")) (consA (unE negM (cstE (.int 1))) (nilA)))))))))))) (nameG 5) (yesT) (tupE (consA (varE 5) (consA (varE 7) (nilA)))) [5])
abbrev vv4 : EnvD → M Fl := setS 3 (callW F__law_draw (consA (varE 0) (consA (biE lenM (consA (varE 7) (nilA))) (nilA))))
abbrev vv5 : EnvD → M Fl := setS 4 (iteE (tstE (binE isntM (binE ixM (varE 7) (varE 3)) (cstE .non))) (binE ixM (varE 7) (varE 3)) (tupE (nilA)))
abbrev vv6 : EnvD → M Fl := forS (anyI (lstE (consA (cstE .non) (consA (tupE (nilA)) (consA (binE addM (varE 4) (tupE (consA (cstE (.int 59)) (nilA)))) (consA (binE addM (varE 4) (tupE (consA (cstE (.int 60)) (nilA)))) (consA (slE (varE 4) (partE (cstE (.int 1))) noE) (consA (unE revM (varE 4)) (consA (biE listM (consA (varE 4) (nilA))) (consA (tupE (consA (cstE (.bl true)) (nilA))) (consA (tupE (consA (unE negM (cstE (.int 1))) (nilA))) (consA (cstE (.str "")) (consA (binE addM (varE 4) (varE 4)) (consA (tupE (consA (cstE (.int 0)) (nilA))) (consA (tupE (consA (cstE (.int 0)) (consA (cstE (.int 1)) (nilA)))) (consA (tupE (consA (cstE (.int 1)) (nilA))) (nilA))))))))))))))))) (nameG 5) (growS oneD 2 (tupE (consA (varE 6) (consA (callW F__law_other (consA (varE 7) (consA (varE 3) (consA (varE 5) (nilA))))) (nilA)))))
abbrev vv7 : EnvD → M Fl := frzS 2 (retS (binE addM (varE 2) (lstE (consA (cstE .non) (consA (cstE (.int 0)) (consA (cstE (.bl true)) (consA (cstE (.str "")) (consA (tupE (nilA)) (consA (lstE (nilA)) (consA (cstE (.dct [] [])) (consA (tupE (consA (cstE .non) (consA (cstE .non) (nilA)))) (nilA))))))))))))
theorem vv_eq : b__law_bent_view = seqS vv1 (seqS vv2 (seqS vv3 (seqS vv4 (seqS vv5 (seqS vv6 vv7))))) := rfl
abbrev vE (n : Nat) (V a : D) (ls : List D) (fd x3 x4 x5 : Option EV) : EnvD := [some (.d (.ref n)), some (.d V), fd, x3, x4, x5, some (.d a), some (.d (.tup ls))]
abbrev vV (a : D) (ls : List D) : D := .tup [a, .tup ls]
abbrev Nv (d : D) : Prop := nice [6, 6, 70] d = true
structure ViewS (a : D) (ls : List D) : Prop where
  ha : niceN a
  l1 : 1 ≤ ls.length
  l4 : ls.length ≤ 4
  hl : ∀ x ∈ ls, x = .non ∨ niceP x
theorem ViewS.na {a : D} {ls : List D} (p : ViewS a ls) : nice [6, 70] a = true := nN p.ha _
theorem vone {x : D} (h : x = .non ∨ niceP x) : nice [70] x = true := by
  rcases h with rfl | h
  · rfl
  · exact nP h _
theorem ViewS.nls {a : D} {ls : List D} (p : ViewS a ls) : nice [6, 70] (.tup ls) = true := nice_tupI _ _ _ (by have := p.l4; omega) fun x hx => vone (p.hl x hx)
theorem two2 {a b : D} (ha : nice [6, 70] a = true) (hb : nice [6, 70] b = true) : Nv (.tup [a, b]) := nice_tupI _ _ _ (by simp) (All.cons ha (All.cons hb All.nil))
theorem vv1_run (n : Nat) (a : D) (ls : List D) (st : Sto) : vv1 [some (.d (.ref n)), some (.d (vV a ls)), none, none, none, none, none, none] st = .ok (.nx (vE n (vV a ls) a ls none none none none)) st := by
  simp [tupGm, consGm, nilGm, pureG]
def vd2 (a : D) (ls : List D) : List D := [vV a ls, .lst [a, .tup ls], .tup [a], .tup [a, .tup ls, .int 0], .tup [a, .lst ls], .tup [a, .tup (ls ++ [.tup []])], .tup [a, .tup ls.tail], .tup [a, .tup ls.reverse]]
theorem vv2_run (n : Nat) (a : D) (ls : List D) (h : ls.length ≤ 4) (st : Sto) : vv2 (vE n (vV a ls) a ls none none none none) st = .ok (.nx (vE n (vV a ls) a ls (some (.own (vd2 a ls))) none none none)) st := by
  have l0 : 0 ≤ sizeLine := by decide
  have l1 : 1 ≤ sizeLine := by decide
  have l2 : 2 ≤ sizeLine := by decide
  have l3 : 3 ≤ sizeLine := by decide
  have l8 : 8 ≤ sizeLine := by decide
  have l9 : ls.length + 1 ≤ sizeLine := szl2 (by omega)
  simp [listM, addM, l0, l1, l2, l3, l8, l9, cut1, revM, vd2]
theorem vd2_ok {a : D} {ls : List D} (p : ViewS a ls) : All Nv (vd2 a ls) := by
  have c := p.nls
  have ha := p.na
  have h4 := p.l4
  have c2 : nice [6, 70] (.lst ls) = true := c
  have q : All (fun d => nice [70] d = true) ls := fun x hx => vone (p.hl x hx)
  have t1 : (ls.tail).length ≤ 6 := by rw [List.length_tail]; omega
  exact All.cons (two2 ha c) (All.cons (nice_lstI _ _ _ (by simp) (All.cons ha (All.cons c All.nil))) (All.cons (nice_tupI _ _ _ (by simp) (All.cons ha All.nil)) (All.cons (nice_tupI _ _ _ (by simp) (All.cons ha (All.cons c (All.cons (nice_int _ _ (by omega) (by omega)) All.nil)))) (All.cons (two2 ha c2) (All.cons (two2 ha (nice_tupI _ _ _ (by simp; omega) (q.app (All.cons (by decide) All.nil)))) (All.cons (two2 ha (nice_tupI _ _ _ t1 q.tail)) (All.cons (two2 ha (nice_tupI _ _ _ (by simp; omega) q.rev)) All.nil)))))))
def odV : List D := [.non, .int 0, .int 1, .int 2, .int 60, .int 61, .bl true, .str "1", .int (-1)]
theorem odV_ok : ∀ o ∈ odV, nice [6, 70] o = true := by decide +kernel
theorem vv3_run (n : Nat) (a : D) (ls fd : List D) (hf : fd.length ≤ 500) (st : Sto) : vv3 (vE n (vV a ls) a ls (some (.own fd)) none none none) st = .ok (.nx (vE n (vV a ls) a ls (some (.own (fd ++ odV.map fun o => .tup [o, .tup ls]))) none none none)) st := by
  have l2 : 2 ≤ sizeLine := by decide
  have l9 : 9 ≤ sizeLine := by decide
  have e := lcL_map (tg := nameG 5) (fe := tupE (consA (varE 5) (consA (varE 7) (nilA)))) (env := vE n (vV a ls) a ls (some (.own fd)) none none none) (st := st) (fun o => .tup [o, .tup ls]) odV fun o ho => ⟨_, rfl, by simp [l2]⟩
  refine grow_ok (ys := odV.map fun o => .tup [o, .tup ls]) (xs := fd) rfl (d := .lst (odV.map fun o => .tup [o, .tup ls])) ?_ rfl (by simp [odV]; omega)
  simp only [odV] at e
  simp [l9, negM, e, odV]
theorem vd3_ok {a : D} {ls : List D} (p : ViewS a ls) : All Nv (odV.map fun o => .tup [o, .tup ls]) := All.map fun o ho => two2 (odV_ok o ho) p.nls
theorem vv45_go (n : Nat) (a : D) (ls fd : List D) (p : ViewS a ls) : ∀ st, Pot n st → ∃ (st' : Sto) (k : Int) (ps : List D), seqS vv4 vv5 (vE n (vV a ls) a ls (some (.own fd)) none none none) st = .ok (.nx (vE n (vV a ls) a ls (some (.own fd)) (some (.d (.int k))) (some (.d (.tup ps))) none)) st' ∧ Pot n st' ∧ 0 ≤ k ∧ k < ls.length ∧ ps.length ≤ 30 ∧ ∀ x ∈ ps, ∃ i : Int, x = .int i ∧ 0 ≤ i ∧ i ≤ 60 := fun st hp => by
  have h1 := p.l1
  have h4 := p.l4
  obtain ⟨_, st1, e1, p1, k, rfl, k0, k1⟩ := F_draw_go n (ls.length : Int) (by omega) (by omega) st hp
  obtain ⟨x, hx, hm⟩ := at_ok ls k k0 k1
  have hix := ixT_ok (xs := ls) st1 hx
  have ll : ls.length ≤ sizeLine := szl2 (by omega)
  have l0 : 0 ≤ sizeLine := by decide
  rcases p.hl x hm with rfl | ⟨ps, rfl, hl, hr⟩
  · exact ⟨st1, k, [], by simp [e1, hix, isNonD, l0], p1, k0, k1, by simp, by simp⟩
  · exact ⟨st1, k, ps, by simp [e1, hix, isNonD, l0], p1, k0, k1, hl, hr⟩
def odW (ps : List D) : List D := [.non, .tup [], .tup (ps ++ [.int 59]), .tup (ps ++ [.int 60]), .tup ps.tail, .tup ps.reverse, .lst ps, .tup [.bl true], .tup [.int (-1)], .str "", .tup (ps ++ ps), .tup [.int 0], .tup [.int 0, .int 1], .tup [.int 1]]
theorem odW_ok {ps : List D} (hl : ps.length ≤ 30) (hp : ∀ x ∈ ps, ∃ i : Int, x = .int i ∧ 0 ≤ i ∧ i ≤ 60) : All (fun d => nice [70] d = true) (odW ps) := by
  have q : All (fun d => nice [] d = true) ps := fun x hx => by
    obtain ⟨i, rfl, i0, i1⟩ := hp x hx
    exact nice_int _ _ (by omega) (by omega)
  have t1 : (ps.tail).length ≤ 70 := by rw [List.length_tail]; omega
  exact All.cons (by decide) (All.cons (by decide) (All.cons (nice_tupI _ _ _ (by simp; omega) (q.app (All.cons (by decide) All.nil))) (All.cons (nice_tupI _ _ _ (by simp; omega) (q.app (All.cons (by decide) All.nil))) (All.cons (nice_tupI _ _ _ t1 q.tail) (All.cons (nice_tupI _ _ _ (by simp; omega) q.rev) (All.cons (nice_lstI _ _ _ (by omega) q) (All.cons (by decide) (All.cons (by decide) (All.cons (by decide +kernel) (All.cons (nice_tupI _ _ _ (by simp; omega) (q.app q)) (All.cons (by decide) (All.cons (by decide) (All.cons (by decide) All.nil)))))))))))))
abbrev vv6b : EnvD → M Fl := growS oneD 2 (tupE (consA (varE 6) (consA (callW F__law_other (consA (varE 7) (consA (varE 3) (consA (varE 5) (nilA))))) (nilA))))
theorem loop_v6 (n : Nat) (V a : D) (ls : List D) (k : Int) (ps : D) (hls : ls.length ≤ 4) (st : Sto) : ∀ (os : List D) (fd : List D) (x5 : Option EV), fd.length + os.length ≤ 900 → ∃ x5', forL (nameG 5) vv6b os (vE n V a ls (some (.own fd)) (some (.d (.int k))) (some (.d ps)) x5) st = .ok (.nx (vE n V a ls (some (.own (fd ++ os.map fun o => .tup [a, .tup (othD ls k o)]))) (some (.d (.int k))) (some (.d ps)) x5')) st
  | [], fd, x5, _ => ⟨x5, by simp [forL]⟩
  | o :: os, fd, x5, h => by
    simp only [List.length_cons] at h
    have l2 : 2 ≤ sizeLine := by decide
    have e : vv6b (vE n V a ls (some (.own fd)) (some (.d (.int k))) (some (.d ps)) (some (.d o))) st = .ok (.nx (vE n V a ls (some (.own (fd ++ [.tup [a, .tup (othD ls k o)]]))) (some (.d (.int k))) (some (.d ps)) (some (.d o)))) st :=
      grow_ok (ys := [.tup [a, .tup (othD ls k o)]]) (xs := fd) rfl (d := .tup [a, .tup (othD ls k o)]) (by simp [F_other_run ls k o st (by omega), l2]) rfl (by simp; omega)
    obtain ⟨x5', ih⟩ := loop_v6 n V a ls k ps hls st os (fd ++ [.tup [a, .tup (othD ls k o)]]) (some (.d o)) (by simp; omega)
    refine ⟨x5', ?_⟩
    rw [forL_cons _ _ _ _ _ _ _ rfl]
    simp only [bind_run, List.set_cons_succ, List.set_cons_zero, e, ih]
    simp
def endV : List D := [.non, .int 0, .bl true, .str "", .tup [], .lst [], .dct [] [], .tup [.non, .non]]
def Nw (d : D) : Prop := Nv d ∨ d = .dct [] []
theorem endV_ok : All Nw endV := All.cons (.inl (by decide)) (All.cons (.inl (by decide)) (All.cons (.inl (by decide)) (All.cons (.inl (by decide +kernel)) (All.cons (.inl (by decide)) (All.cons (.inl (by decide)) (All.cons (.inr rfl) (All.cons (.inl (by decide)) All.nil)))))))
theorem vv7_run (n : Nat) (V a : D) (ls fd : List D) (hf : fd.length ≤ 900) (x3 x4 x5 : Option EV) (st : Sto) : vv7 (vE n V a ls (some (.own fd)) x3 x4 x5) st = .ok (.rt (.lst (fd ++ endV))) st := by
  have l0 : 0 ≤ sizeLine := by decide
  have l2 : 2 ≤ sizeLine := by decide
  have l8 : 8 ≤ sizeLine := by decide
  have l : fd.length + 8 ≤ sizeLine := szl2 (by omega)
  simp [frz, l0, l2, l8, addM, l, endV]
theorem F_bent_view_go (n : Nat) (a : D) (ls : List D) (p : ViewS a ls) : Go n (F__law_bent_view [.ref n, vV a ls]) (fun d => ∃ xs : List D, d = .lst xs ∧ All Nw xs) := fun st hp => by
  have h4 := p.l4
  have h1 := vv1_run n a ls st
  have h2 := vv2_run n a ls h4 st
  have h3 := vv3_run n a ls (vd2 a ls) (by simp [vd2]) st
  have a3 : All Nv (vd2 a ls ++ odV.map fun o => D.tup [o, .tup ls]) := (vd2_ok p).app (vd3_ok p)
  have n3 : (vd2 a ls ++ odV.map fun o => D.tup [o, .tup ls]).length ≤ 100 := by simp [vd2, odV]
  generalize vd2 a ls ++ odV.map (fun o => D.tup [o, .tup ls]) = f3 at h3 a3 n3
  obtain ⟨st5, k, ps, h45, p5, k0, k1, pl, pp⟩ := vv45_go n a ls f3 p st hp
  obtain ⟨x5, h6⟩ := loop_v6 n (vV a ls) a ls k (.tup ps) h4 st5 (odW ps) f3 none (by simp [odW]; omega)
  have h7 := vv7_run n (vV a ls) a ls (f3 ++ (odW ps).map fun o => .tup [a, .tup (othD ls k o)]) (by simp [odW]; omega) (some (.d (.int k))) (some (.d (.tup ps))) x5 st5
  have assoc : ∀ (env : EnvD) (s : Sto) (f : EnvD → M Fl), seqS vv4 (seqS vv5 f) env s = seqS (seqS vv4 vv5) f env s := fun env s f => by
    simp only [seqS_run, bind_run]
    cases vv4 env s with
    | ok fl s => cases fl <;> rfl
    | exc x s => rfl
    | bad => rfl
  have e6 : vv6 (vE n (vV a ls) a ls (some (.own f3)) (some (.d (.int k))) (some (.d (.tup ps))) none) st5 = .ok (.nx (vE n (vV a ls) a ls (some (.own (f3 ++ (odW ps).map fun o => .tup [a, .tup (othD ls k o)]))) (some (.d (.int k))) (some (.d (.tup ps))) x5)) st5 := by
    have l0 : 0 ≤ sizeLine := by decide
    have l1 : 1 ≤ sizeLine := by decide
    have l2 : 2 ≤ sizeLine := by decide
    have l14 : 14 ≤ sizeLine := by decide
    have l9 : ps.length + 1 ≤ sizeLine := szl2 (by omega)
    have l10 : ps.length + ps.length ≤ sizeLine := szl2 (by omega)
    have it : anyI (lstE (consA (cstE .non) (consA (tupE (nilA)) (consA (binE addM (varE 4) (tupE (consA (cstE (.int 59)) (nilA)))) (consA (binE addM (varE 4) (tupE (consA (cstE (.int 60)) (nilA)))) (consA (slE (varE 4) (partE (cstE (.int 1))) noE) (consA (unE revM (varE 4)) (consA (biE listM (consA (varE 4) (nilA))) (consA (tupE (consA (cstE (.bl true)) (nilA))) (consA (tupE (consA (unE negM (cstE (.int 1))) (nilA))) (consA (cstE (.str "")) (consA (binE addM (varE 4) (varE 4)) (consA (tupE (consA (cstE (.int 0)) (nilA))) (consA (tupE (consA (cstE (.int 0)) (consA (cstE (.int 1)) (nilA)))) (consA (tupE (consA (cstE (.int 1)) (nilA))) (nilA)))))))))))))))) (vE n (vV a ls) a ls (some (.own f3)) (some (.d (.int k))) (some (.d (.tup ps))) none) st5 = .ok (odW ps) st5 := by
      simp [l0, l1, l2, l14, l9, l10, addM, cut1, revM, listM, negM, odW]
    show forS _ _ _ _ st5 = _
    rw [forS_run, bind_run, it]
    exact h6
  refine ⟨.lst ((f3 ++ (odW ps).map fun o => D.tup [a, .tup (othD ls k o)]) ++ endV), st5, ?_, p5, _, rfl, ?_⟩
  · refine run_rt rfl ?_
    rw [vv_eq]
    show seqS _ _ [some (.d (.ref n)), some (.d (vV a ls)), none, none, none, none, none, none] st = _
    rw [seq_nx h1, seq_nx h2, seq_nx h3, assoc, seq_nx h45, seq_nx e6, h7]
  · have e11 : All Nv ((odW ps).map fun o => D.tup [a, .tup (othD ls k o)]) := All.map fun o ho => two2 p.na (nice_tupI _ _ _ (by rw [oth_len k0 k1]; omega) (oth_all (fun x hx => vone (p.hl x hx)) (odW_ok pl pp o ho) k))
    exact All.app (fun d hd => .inl ((a3.app e11) d hd)) endV_ok
end Dd

set_option Elab.async false
set_option linter.all false
set_option maxRecDepth 100000
/-! the plain law, part Y: which texts fill a view. -/
namespace Dd
open PySem PySem.Spec PyProof.Rows
open L2 (atI ixN Key cutS)
abbrev gg1 : EnvD → M Fl := ifS (andT (tstE (binE isntM (binE ixM (varE 0) (cstE (.int 0))) (cstE .non))) (tstE (binE neM (biE lenM (consA (varE 1) (nilA))) (binE ixM (varE 0) (cstE (.int 0)))))) (retS (cstE (.bl false))) (nxtS)
abbrev gg2 : EnvD → M Fl := forS (enumI (binE ixM (varE 0) (cstE (.int 1)))) (tupG 2 (consG (nameG 2) (consG (nameG 3) (nilG)))) (ifS (andT (tstE (binE isntM (varE 3) (cstE .non))) (tstE (binE neM (varE 3) (biE tupleM (consA (lcE (enumI (varE 1)) (tupG 2 (consG (nameG 4) (consG (nameG 5) (nilG)))) (tstE (binE eqM (varE 5) (varE 2))) (varE 4) [4, 5]) (nilA)))))) (retS (cstE (.bl false))) (nxtS))
abbrev gg3 : EnvD → M Fl := retS (cstE (.bl true))
theorem gg_eq : b_is_filling = seqS gg1 (seqS gg2 gg3) := rfl
abbrev hh1 : EnvD → M Fl := ifS (orT (notT (tstE (biE isiM (consA (varE 2) (consA (cstE (.ty "str")) (nilA)))))) (notT (tstE (biE allM (consA (lcE (anyI (varE 2)) (nameG 3) (yesT) (binE inM (varE 3) (slE (cstE (.str "abcd")) noE (partE (varE 0)))) [3]) (nilA)))))) (retS (cstE (.bl false))) (nxtS)
abbrev hh2 : EnvD → M Fl := ifS (andT (tstE (binE isntM (binE ixM (varE 1) (cstE (.int 0))) (cstE .non))) (tstE (binE neM (biE lenM (consA (varE 2) (nilA))) (binE ixM (varE 1) (cstE (.int 0)))))) (retS (cstE (.bl false))) (nxtS)
abbrev hh3 : EnvD → M Fl := forS (zipI (cstE (.str "abcd")) (binE ixM (varE 1) (cstE (.int 1)))) (tupG 2 (consG (nameG 3) (consG (nameG 4) (nilG)))) (ifS (andT (tstE (binE isntM (varE 4) (cstE .non))) (tstE (binE neM (biE listM (consA (varE 4) (nilA))) (lcE (enumI (varE 2)) (tupG 2 (consG (nameG 5) (consG (nameG 6) (nilG)))) (tstE (binE eqM (varE 6) (varE 3))) (varE 5) [5, 6])))) (retS (cstE (.bl false))) (nxtS))
abbrev hh4 : EnvD → M Fl := retS (cstE (.bl true))
theorem hh_eq : b__law_fills = seqS hh1 (seqS hh2 (seqS hh3 hh4)) := rfl
theorem neT_ints (ps qs : List Nat) (st : Sto) : neM (.tup (ps.map intN)) (.tup (qs.map intN)) st = .ok (.bl (!decide (ps = qs))) st := by
  have f : ∀ ps : List Nat, shp (.tup (ps.map intN)) = some (.tuple ((ps.map fun (n : Nat) => (n : Int)).map PyData.int)) := fun ps => by
    have e : ps.map intN = (ps.map fun (n : Nat) => (n : Int)).map D.int := by simp [intN]
    rw [e]
    simp [shp, toP, toPs_ints, SeqAt.shaped, PyData.canLay0, lay_ints, PyData.depth, dep_ints, -List.map_map]
  show neP _ _ st = _
  simp only [neP, f, PyData.eqv, eqv_ints]
  have : ((ps.map fun (n : Nat) => (n : Int)) = qs.map fun (n : Nat) => (n : Int)) ↔ ps = qs := by
    constructor
    · intro h
      exact List.map_inj_right (fun x y h => by omega) |>.mp h
    · rintro rfl; rfl
  by_cases h : ps = qs
  · simp [h]
  · have h2 : ¬ ((ps.map fun (n : Nat) => (n : Int)) = qs.map fun (n : Nat) => (n : Int)) := fun z => h (this.mp z)
    simp [h, h2]
theorem neL_ints (ps qs : List Nat) (st : Sto) : neM (.lst (ps.map intN)) (.lst (qs.map intN)) st = .ok (.bl (!decide (ps = qs))) st := by
  have e : ∀ ps : List Nat, ps.map intN = (ps.map fun (n : Nat) => (n : Int)).map D.int := fun ps => by simp [intN]
  rw [e, e, neM_ints]
  have : ((ps.map fun (n : Nat) => (n : Int)) = qs.map fun (n : Nat) => (n : Int)) ↔ ps = qs := by
    constructor
    · intro h
      exact List.map_inj_right (fun x y h => by omega) |>.mp h
    · rintro rfl; rfl
  by_cases h : ps = qs
  · simp [h]
  · have h2 : ¬ ((ps.map fun (n : Nat) => (n : Int)) = qs.map fun (n : Nat) => (n : Int)) := fun z => h (this.mp z)
    simp [h, h2]
def oneV : Option (List Nat) → D
  | none => .non
  | some ps => .tup (ps.map intN)
def okV (cs : List Nat) (s : Nat) : Option (List Nat) → Bool
  | none => true
  | some ps => decide (ps = posN s 0 cs)
def fillB (cs : List Nat) : Nat → List (Option (List Nat)) → Bool
  | _, [] => true
  | s, v :: r => okV cs s v && fillB cs (s + 1) r
/-! the law's own -/
abbrev hh3b : EnvD → M Fl := ifS (andT (tstE (binE isntM (varE 4) (cstE .non))) (tstE (binE neM (biE listM (consA (varE 4) (nilA))) (lcE (enumI (varE 2)) (tupG 2 (consG (nameG 5) (consG (nameG 6) (nilG)))) (tstE (binE eqM (varE 6) (varE 3))) (varE 5) [5, 6])))) (retS (cstE (.bl false))) (nxtS)
theorem hh3b_run (A B : Option EV) (cs : List Nat) (hl : cs.length ≤ 1000) (s : Nat) (v : Option (List Nat)) (st : Sto) : hh3b [A, B, some (.d (tx cs)), some (.d (.str ⟨#[s]⟩)), some (.d (oneV v)), none, none] st = if okV cs s v = true then .ok (.nx [A, B, some (.d (tx cs)), some (.d (.str ⟨#[s]⟩)), some (.d (oneV v)), none, none]) st else .ok (.rt (.bl false)) st := by
  have hz : (enumD 0 (chD cs)).length ≤ sizeLine := by rw [enumD_length]; exact szl2 (by simp [chD]; omega)
  cases v with
  | none => simp [oneV, isNonD, okV]
  | some ps =>
    have e := lc_pos s 5 6 3 [A, B, some (.d (tx cs)), some (.d (.str ⟨#[s]⟩)), some (.d (.tup (ps.map intN))), none, none] st (by simp) (by simp) (by decide) (by decide) (by decide) rfl cs 0
    have ne := neL_ints ps (posN s 0 cs) st
    by_cases h : ps = posN s 0 cs
    · simp [h] at ne
      subst h
      simp [oneV, isNonD, okV, listM, tx_it, hz, e, ne]
    · simp [h] at ne
      simp [oneV, isNonD, okV, listM, tx_it, hz, e, ne, h]
theorem loop_h (A B : Option EV) (cs : List Nat) (hl : cs.length ≤ 1000) (st : Sto) : ∀ (vs : List (Option (List Nat))) (ss : List Nat) (s : Nat) (x y : Option EV), vs.length ≤ ss.length → (∀ i : Nat, i < vs.length → ss[i]? = some (s + i)) → ∃ x' y',
    forL (tupG 2 (consG (nameG 3) (consG (nameG 4) (nilG)))) hh3b (zipD (chD ss) (vs.map oneV)) [A, B, some (.d (tx cs)), x, y, none, none] st = if fillB cs s vs = true then .ok (.nx [A, B, some (.d (tx cs)), x', y', none, none]) st else .ok (.rt (.bl false)) st
  | [], ss, s, x, y, _, _ => ⟨x, y, by cases ss <;> simp [chD, zipD, forL, fillB]⟩
  | v :: vs, [], s, x, y, h, _ => by simp at h
  | v :: vs, c :: ss, s, x, y, h, hs => by
    have h0 := hs 0 (by simp)
    simp at h0
    subst h0
    obtain ⟨x', y', ih⟩ := loop_h A B cs hl st vs ss (c + 1) (some (.d (.str ⟨#[c]⟩))) (some (.d (oneV v))) (by simpa using h) fun i hi => by
      have := hs (i + 1) (by simp; omega)
      simpa [Nat.add_assoc, Nat.add_comm 1 i] using this
    refine ⟨x', y', ?_⟩
    have e := hh3b_run A B cs hl c v st
    show forL _ _ (.tup [.str ⟨#[c]⟩, oneV v] :: zipD (chD ss) (vs.map oneV)) _ st = _
    rw [forL_cons _ _ _ _ _ _ _ rfl]
    cases ho : okV cs c v with
    | true =>
      rw [ho] at e
      simp only [if_pos] at e
      simp only [bind_run, List.set_cons_succ, List.set_cons_zero, e, ih, fillB, ho, Bool.true_and]
    | false =>
      rw [ho] at e
      simp only [Bool.false_eq_true, if_false] at e
      simp only [bind_run, List.set_cons_succ, List.set_cons_zero, e, fillB, ho, Bool.false_and, Bool.false_eq_true, if_false]
      rfl
instance (L : Int) (c : Nat) : Decidable (Let L c) := by unfold Let; infer_instance
def chL (L : Int) (d : D) : Bool := match d with
  | .str z => decide (Let L (z.cps.getD 0 0))
  | _ => false
def letB (L : Int) (cs : List Nat) : Bool := cs.all fun c => decide (Let L c)
def lenB (a : D) (n : Nat) : Bool := match a with
  | .int m => decide ((n : Int) = m)
  | _ => true
/-- whether a value fills -/
def fillD (L : Int) (a : D) (vs : List (Option (List Nat))) (d : D) : Bool := match d with
  | .str z => letB L z.cps.toList && (lenB a z.cps.toList.length && fillB z.cps.toList 97 vs)
  | _ => false
abbrev wV (a : D) (vs : List (Option (List Nat))) : D := .tup [a, .tup (vs.map oneV)]
abbrev hE (L : Int) (V d : D) : EnvD := [some (.d (.int L)), some (.d V), some (.d d), none, none, none, none]
theorem in_abc {L : Int} (h1 : 1 ≤ L) (h4 : L ≤ 4) (c : Nat) (st : Sto) : inM (.str ⟨#[c]⟩) (.str (cutS "abcd" none (some L))) st = .ok (.bl (decide (Let L c))) st := by
  rw [cut_lets h1 h4]
  have : (c ∈ lets L) = Let L c := propext (lets_mem h1 h4 c)
  simp [inM, this]
theorem hh1_run {L : Int} (h1 : 1 ≤ L) (h4 : L ≤ 4) (V : D) (cs : List Nat) (hl : cs.length ≤ 1000) (st : Sto) : hh1 (hE L V (tx cs)) st = if letB L cs = true then .ok (.nx (hE L V (tx cs))) st else .ok (.rt (.bl false)) st := by
  have hi : isiM [tx cs, .ty "str"] st = .ok (.bl true) st := isiM_run (tx cs) "str" st rfl (by simp)
  have e := lcL_map (tg := nameG 3) (fe := binE inM (varE 3) (slE (cstE (.str "abcd")) noE (partE (varE 0)))) (env := hE L V (tx cs)) (st := st) (fun d => .bl (chL L d)) (chD cs) fun d hd => by
    obtain ⟨c, hc, rfl⟩ := List.mem_map.mp hd
    refine ⟨_, rfl, ?_⟩
    simp [slM_abcd, in_abc h1 h4, chL]
  have ea := allM_map (chL L) (chD cs) st
  have eb : (chD cs).all (chL L) = letB L cs := by
    simp [chD, letB, List.all_map, Function.comp_def, chL]
  rw [eb] at ea
  have hz : (chD cs).length ≤ sizeLine := szl2 (by simp [chD]; omega)
  cases hb : letB L cs with
  | true => rw [hb] at ea; simp [hi, tx_it, hz, e, ea]
  | false => rw [hb] at ea; simp [hi, tx_it, hz, e, ea]
theorem tx_lenM (cs : List Nat) (hl : cs.length ≤ 1000) (st : Sto) : lenM [tx cs] st = .ok (.int (cs.length : Int)) st := by
  have : (⟨cs.toArray⟩ : Str).length = cs.length := by simp [Str.length]
  have l2 : cs.length ≤ sizeLine := szl2 (by omega)
  simp [tx, this, l2]
theorem ix_a (a b : D) (st : Sto) : ixM (.tup [a, b]) (.int 0) st = .ok a st := ixT_ok st rfl
theorem ix_b (a b : D) (st : Sto) : ixM (.tup [a, b]) (.int 1) st = .ok b st := ixT_ok st rfl
theorem aD_of {a : D} (h : aOk a = true) : a = .non ∨ ∃ m : Int, a = .int m := by
  rcases aOk_of h with h | h
  · left; cases a <;> simp [isNonD] at h; rfl
  · right; exact isInt_of h
theorem hh2_run (L : Int) (a : D) (vs : List (Option (List Nat))) (cs : List Nat) (ha : aOk a = true) (hl : cs.length ≤ 1000) (st : Sto) : hh2 (hE L (wV a vs) (tx cs)) st = if lenB a cs.length = true then .ok (.nx (hE L (wV a vs) (tx cs))) st else .ok (.rt (.bl false)) st := by
  have e := tx_lenM cs hl st
  rcases aD_of ha with rfl | ⟨m, rfl⟩
  · simp [ix_a, -ixM_tup, isNonD, lenB]
  · by_cases h : (cs.length : Int) = m
    · simp [ix_a, -ixM_tup, isNonD, lenB, e, h]
    · simp [ix_a, -ixM_tup, isNonD, lenB, e, h]
theorem abcd_it (st : Sto) : itM (.str "abcd") st = .ok (chD [97, 98, 99, 100]) st := by
  have : ("abcd" : Str) = ⟨[97, 98, 99, 100].toArray⟩ := by decide +kernel
  rw [this]; rfl
theorem hh3_run (L : Int) (a : D) (vs : List (Option (List Nat))) (cs : List Nat) (h4 : vs.length ≤ 4) (hl : cs.length ≤ 1000) (st : Sto) : ∃ x y, hh3 (hE L (wV a vs) (tx cs)) st = if fillB cs 97 vs = true then .ok (.nx [some (.d (.int L)), some (.d (wV a vs)), some (.d (tx cs)), x, y, none, none]) st else .ok (.rt (.bl false)) st := by
  obtain ⟨x, y, e⟩ := loop_h (some (.d (.int L))) (some (.d (wV a vs))) cs hl st vs [97, 98, 99, 100] 97 none none (by simpa using h4) fun i hi => by
    match i, hi with
    | 0, _ => rfl
    | 1, _ => rfl
    | 2, _ => rfl
    | 3, _ => rfl
    | i + 4, hi => omega
  refine ⟨x, y, ?_⟩
  have it : zipI (cstE (.str "abcd")) (binE ixM (varE 1) (cstE (.int 1))) (hE L (wV a vs) (tx cs)) st = .ok (zipD (chD [97, 98, 99, 100]) (vs.map oneV)) st := by
    simp only [zipI_run, bind_run, cstE_run, binE_run, varE_run, List.getElem?_cons_succ, List.getElem?_cons_zero, pure_run, ix_b, abcd_it, itM_tup]
  show forS _ _ _ _ st = _
  rw [forS_run, bind_run, it]
  exact e
theorem F_law_fills_tx {L : Int} (h1 : 1 ≤ L) (h4 : L ≤ 4) (a : D) (vs : List (Option (List Nat))) (hv : vs.length ≤ 4) (ha : aOk a = true) (cs : List Nat) (hl : cs.length ≤ 1000) (st : Sto) : F__law_fills [.int L, wV a vs, tx cs] st = .ok (.bl (fillD L a vs (tx cs))) st := by
  have e1 := hh1_run h1 h4 (wV a vs) cs hl st
  have e2 := hh2_run L a vs cs ha hl st
  obtain ⟨x, y, e3⟩ := hh3_run L a vs cs hv hl st
  refine run_rt rfl ?_
  rw [hh_eq]
  show seqS _ _ (hE L (wV a vs) (tx cs)) st = _
  have ef : fillD L a vs (tx cs) = (letB L cs && (lenB a cs.length && fillB cs 97 vs)) := by simp [fillD, tx]
  rw [ef]
  cases c1 : letB L cs with
  | false =>
    rw [c1] at e1
    simp only [Bool.false_eq_true, if_false] at e1
    rw [seq_rt e1]; simp
  | true =>
    rw [c1] at e1
    simp only [if_true] at e1
    rw [seq_nx e1]
    cases c2 : lenB a cs.length with
    | false =>
      rw [c2] at e2
      simp only [Bool.false_eq_true, if_false] at e2
      rw [seq_rt e2]; simp
    | true =>
      rw [c2] at e2
      simp only [if_true] at e2
      rw [seq_nx e2]
      cases c3 : fillB cs 97 vs with
      | false =>
        rw [c3] at e3
        simp only [Bool.false_eq_true, if_false] at e3
        rw [seq_rt e3]; simp
      | true =>
        rw [c3] at e3
        simp only [if_true] at e3
        rw [seq_nx e3]
        simp
theorem F_law_fills_no {L : Int} (V d : D) (ht : (tyD d).isSome = true) (hd : ∀ z, d ≠ .str z) (st : Sto) : F__law_fills [.int L, V, d] st = .ok (.bl false) st := by
  have hi := isiM_run d "str" st ht (by simp)
  cases d with
  | str z => exact absurd rfl (hd z)
  | _ => first | (simp [tyIs, tyD] at hi; simp [F__law_fills, b__law_fills, hi]) | (simp [tyD] at ht)
/-! the program's own -/
def nmN (c : Nat) : D := .int ((c : Int) - 97)
theorem lc_num (t a b i : Nat) (env : EnvD) (st : Sto) (ha : a < env.length) (hb : b < env.length) (hab : a ≠ b) (hia : i ≠ a) (hib : i ≠ b) (hs : env[i]? = some (some (.d (.int (t : Int))))) : ∀ (cs : List Nat) (k : Nat),
    lcL (tupG 2 (consG (nameG a) (consG (nameG b) nilG))) (tstE (binE eqM (varE b) (varE i))) (varE a) env (enumD k (cs.map nmN)) st = .ok ((posN (97 + t) k cs).map intN) st
  | [], _ => rfl
  | c :: cs, k => by
    have ih := lc_num t a b i env st ha hb hab hia hib hs cs (k + 1)
    have e1 : ((env.set a (some (.d (.int (k : Int))))).set b (some (.d (nmN c))))[i]? = some (some (.d (.int (t : Int)))) := by
      rw [List.getElem?_set_ne (Ne.symm hib), List.getElem?_set_ne (Ne.symm hia), hs]
    have e2 : ((env.set a (some (.d (.int (k : Int))))).set b (some (.d (nmN c))))[b]? = some (some (.d (nmN c))) := by
      rw [List.getElem?_set_self (by simpa using hb)]
    have e3 : ((env.set a (some (.d (.int (k : Int))))).set b (some (.d (nmN c))))[a]? = some (some (.d (.int (k : Int)))) := by
      rw [List.getElem?_set_ne (Ne.symm hab), List.getElem?_set_self ha]
    show lcL _ _ _ env (.tup [.int (k : Int), nmN c] :: enumD (k + 1) (cs.map nmN)) st = _
    have ht : tupG 2 (consG (nameG a) (consG (nameG b) nilG)) (.tup [.int (k : Int), nmN c]) env = some ((env.set a (some (.d (.int (k : Int))))).set b (some (.d (nmN c)))) := rfl
    by_cases h : c = 97 + t
    · have q : eqM (nmN c) (.int (t : Int)) st = .ok (.bl true) st := by
        have : ((c : Int) - 97 = t) := by omega
        simp [nmN, this]
      simp only [lcL, ht, bind_run, tstE_run, binE_run, varE_run, e1, e2, e3, pure_run, q, boolD_bl, if_true, ih, posN, if_pos h]
      simp [intN]
    · have q : eqM (nmN c) (.int (t : Int)) st = .ok (.bl false) st := by
        have : ¬ ((c : Int) - 97 = t) := by omega
        simp [nmN, this]
      simp only [lcL, ht, bind_run, tstE_run, binE_run, varE_run, e1, e2, pure_run, q, boolD_bl, posN, if_neg h]
      exact ih
abbrev gg2b : EnvD → M Fl := ifS (andT (tstE (binE isntM (varE 3) (cstE .non))) (tstE (binE neM (varE 3) (biE tupleM (consA (lcE (enumI (varE 1)) (tupG 2 (consG (nameG 4) (consG (nameG 5) (nilG)))) (tstE (binE eqM (varE 5) (varE 2))) (varE 4) [4, 5]) (nilA)))))) (retS (cstE (.bl false))) (nxtS)
theorem gg2b_run (A : Option EV) (cs : List Nat) (hl : cs.length ≤ 1000) (t : Nat) (v : Option (List Nat)) (st : Sto) : gg2b [A, some (.d (.lst (cs.map nmN))), some (.d (.int (t : Int))), some (.d (oneV v)), none, none] st = if okV cs (97 + t) v = true then .ok (.nx [A, some (.d (.lst (cs.map nmN))), some (.d (.int (t : Int))), some (.d (oneV v)), none, none]) st else .ok (.rt (.bl false)) st := by
  have hz : (enumD 0 (cs.map nmN)).length ≤ sizeLine := by rw [enumD_length]; exact szl2 (by simp; omega)
  cases v with
  | none => simp [oneV, isNonD, okV]
  | some ps =>
    have e := lc_num t 4 5 2 [A, some (.d (.lst (cs.map nmN))), some (.d (.int (t : Int))), some (.d (.tup (ps.map intN))), none, none] st (by simp) (by simp) (by decide) (by decide) (by decide) rfl cs 0
    have ne := neT_ints ps (posN (97 + t) 0 cs) st
    by_cases h : ps = posN (97 + t) 0 cs
    · simp [h] at ne
      subst h
      simp [oneV, isNonD, okV, tyt, hz, e, ne]
    · simp [h] at ne
      simp [oneV, isNonD, okV, tyt, hz, e, ne, h]
theorem loop_g (A : Option EV) (cs : List Nat) (hl : cs.length ≤ 1000) (st : Sto) : ∀ (vs : List (Option (List Nat))) (t : Nat) (x y : Option EV), ∃ x' y',
    forL (tupG 2 (consG (nameG 2) (consG (nameG 3) (nilG)))) gg2b (enumD t (vs.map oneV)) [A, some (.d (.lst (cs.map nmN))), x, y, none, none] st = if fillB cs (97 + t) vs = true then .ok (.nx [A, some (.d (.lst (cs.map nmN))), x', y', none, none]) st else .ok (.rt (.bl false)) st
  | [], t, x, y => ⟨x, y, by simp [enumD, forL, fillB]⟩
  | v :: vs, t, x, y => by
    obtain ⟨x', y', ih⟩ := loop_g A cs hl st vs (t + 1) (some (.d (.int (t : Int)))) (some (.d (oneV v)))
    refine ⟨x', y', ?_⟩
    have e := gg2b_run A cs hl t v st
    show forL _ _ (.tup [.int (t : Int), oneV v] :: enumD (t + 1) (vs.map oneV)) _ st = _
    rw [forL_cons _ _ _ _ _ _ _ rfl]
    cases ho : okV cs (97 + t) v with
    | true =>
      rw [ho] at e
      simp only [if_pos] at e
      simp only [bind_run, List.set_cons_succ, List.set_cons_zero, e, ih, fillB, ho, Bool.true_and]
      rfl
    | false =>
      rw [ho] at e
      simp only [Bool.false_eq_true, if_false] at e
      simp only [bind_run, List.set_cons_succ, List.set_cons_zero, e, fillB, ho, Bool.false_and, Bool.false_eq_true, if_false]
      rfl
abbrev gE (V : D) (cs : List Nat) : EnvD := [some (.d V), some (.d (.lst (cs.map nmN))), none, none, none, none]
theorem F_filling_run (a : D) (vs : List (Option (List Nat))) (ha : aOk a = true) (cs : List Nat) (hl : cs.length ≤ 1000) (hv : vs.length ≤ 4) (st : Sto) : F_is_filling [wV a vs, .lst (cs.map nmN)] st = .ok (.bl (lenB a cs.length && fillB cs 97 vs)) st := by
  have e1 : gg1 (gE (wV a vs) cs) st = if lenB a cs.length = true then .ok (.nx (gE (wV a vs) cs)) st else .ok (.rt (.bl false)) st := by
    rcases aD_of ha with rfl | ⟨m, rfl⟩
    · simp [ix_a, -ixM_tup, isNonD, lenB]
    · by_cases h : (cs.length : Int) = m
      · simp [ix_a, -ixM_tup, isNonD, lenB, h]
      · simp [ix_a, -ixM_tup, isNonD, lenB, h]
  obtain ⟨x, y, e2⟩ := loop_g (some (.d (wV a vs))) cs hl st vs 0 none none
  have it : enumI (binE ixM (varE 0) (cstE (.int 1))) (gE (wV a vs) cs) st = .ok (enumD 0 (vs.map oneV)) st := by
    simp only [enumI_run, bind_run, cstE_run, binE_run, varE_run, List.getElem?_cons_succ, List.getElem?_cons_zero, pure_run, ix_b, itM_tup]
  have e3 : gg2 (gE (wV a vs) cs) st = if fillB cs 97 vs = true then .ok (.nx [some (.d (wV a vs)), some (.d (.lst (cs.map nmN))), x, y, none, none]) st else .ok (.rt (.bl false)) st := by
    show forS _ _ _ _ st = _
    rw [forS_run, bind_run, it]
    exact e2
  refine run_rt rfl ?_
  rw [gg_eq]
  show seqS _ _ (gE (wV a vs) cs) st = _
  cases c2 : lenB a cs.length with
  | false =>
    rw [c2] at e1
    simp only [Bool.false_eq_true, if_false] at e1
    rw [seq_rt e1]; simp
  | true =>
    rw [c2] at e1
    simp only [if_true] at e1
    rw [seq_nx e1]
    cases c3 : fillB cs 97 vs with
    | false =>
      rw [c3] at e3
      simp only [Bool.false_eq_true, if_false] at e3
      rw [seq_rt e3]; simp
    | true =>
      rw [c3] at e3
      simp only [if_true] at e3
      rw [seq_nx e3]
      simp
theorem F_letters_run {L : Int} (h1 : 1 ≤ L) (h4 : L ≤ 4) (st : Sto) : F_letter_list [.int L] st = .ok (.lst (chD (lets L))) st := by
  have e0 := cut_lets h1 h4
  have hl := lets_len h1 h4
  have hz : (⟨(lets L).toArray⟩ : Str).length ≤ sizeLine := szl2 (by simp [Str.length]; omega)
  simp [F_letter_list, b_letter_list, slM_abcd, e0, listM, hz, chD]
theorem inL_lets {L : Int} (h1 : 1 ≤ L) (h4 : L ≤ 4) (c : Nat) : inL ((lets L).map fun s => (⟨#[s]⟩ : Str)) ⟨#[c]⟩ = decide (Let L c) := by
  have : ∀ ls : List Nat, inL (ls.map fun s => (⟨#[s]⟩ : Str)) ⟨#[c]⟩ = decide (c ∈ ls) := fun ls => by
    induction ls with
    | nil => rfl
    | cons s r ih =>
      unfold inL at ih ⊢
      simp only [List.map_cons, List.any_cons, ih]
      by_cases h : c = s
      · subst h; simp [PyData.eqv]
      · have h2 : ¬ ((⟨#[s]⟩ : Str) = ⟨#[c]⟩) := fun z => h ((one_eq s c).mp z).symm
        simp [PyData.eqv, h, h2]
  rw [this]
  have : (c ∈ lets L) = Let L c := propext (lets_mem h1 h4 c)
  simp [this]
theorem in_chD {L : Int} (h1 : 1 ≤ L) (h4 : L ≤ 4) (c : Nat) (hc : c < 128) (st : Sto) : inM (.str ⟨#[c]⟩) (.lst (chD (lets L))) st = .ok (.bl (decide (Let L c))) st := by
  have e := inM_strs ((lets L).map fun s => (⟨#[s]⟩ : Str)) ⟨#[c]⟩ (fun z hz => by
    obtain ⟨s, hs, rfl⟩ := List.mem_map.mp hz
    have := (lets_mem h1 h4 s).mp hs
    unfold Let at this
    exact lookS_one (by omega)) (lookS_one hc) st
  rw [inL_lets h1 h4] at e
  rw [← e]
  simp [chD, Function.comp_def]
theorem F_text_of_tx {L : Int} (h1 : 1 ≤ L) (h4 : L ≤ 4) (cs : List Nat) (hl : cs.length ≤ 1000) (hc : ∀ c ∈ cs, c < 128) (st : Sto) : F_is_text_of [.int L, tx cs, .int 20000] st = .ok (.bl (letB L cs)) st := by
  have hi : isiM [tx cs, .ty "str"] st = .ok (.bl true) st := isiM_run (tx cs) "str" st rfl (by simp)
  have e0 := tx_lenM cs hl st
  have e1 := F_letters_run h1 h4 st
  have hz : (chD cs).length ≤ sizeLine := szl2 (by simp [chD]; omega)
  have e := lcL_map (tg := nameG 4) (fe := binE inM (varE 4) (varE 3)) (env := [some (.d (.int L)), some (.d (tx cs)), some (.d (.int 20000)), some (.d (.lst (chD (lets L)))), none]) (st := st) (fun d => .bl (chL L d)) (chD cs) fun d hd => by
    obtain ⟨c, hcm, rfl⟩ := List.mem_map.mp hd
    exact ⟨_, rfl, by simp [in_chD h1 h4 c (hc c hcm), chL]⟩
  have ea := allM_map (chL L) (chD cs) st
  have eb : (chD cs).all (chL L) = letB L cs := by
    simp [chD, letB, List.all_map, Function.comp_def, chL]
  rw [eb] at ea
  have h20 : ¬ ((20000 : Int) < (cs.length : Int)) := by omega
  simp [F_is_text_of, b_is_text_of, hi, e0, h20, e1, tx_it, hz, e, ea]
theorem F_text_of_no {L : Int} (d : D) (ht : (tyD d).isSome = true) (hd : ∀ z, d ≠ .str z) (st : Sto) : F_is_text_of [.int L, d, .int 20000] st = .ok (.bl false) st := by
  have hi := isiM_run d "str" st ht (by simp)
  cases d with
  | str z => exact absurd rfl (hd z)
  | _ => first | (simp [tyIs, tyD] at hi; simp [F_is_text_of, b_is_text_of, hi]) | (simp [tyD] at ht)
theorem index_one (c : Nat) (h : Let 4 c) (st : Sto) : indexM "abcd" (.str ⟨#[c]⟩) st = .ok (nmN c) st := by
  unfold Let at h
  have : c = 97 ∨ c = 98 ∨ c = 99 ∨ c = 100 := by omega
  have o0 : Builtin.Str.occurrences ("abcd" : Str) ⟨#[97]⟩ 0 ("abcd" : Str).length 1 = [0] := by decide +kernel
  have o1 : Builtin.Str.occurrences ("abcd" : Str) ⟨#[98]⟩ 0 ("abcd" : Str).length 1 = [1] := by decide +kernel
  have o2 : Builtin.Str.occurrences ("abcd" : Str) ⟨#[99]⟩ 0 ("abcd" : Str).length 1 = [2] := by decide +kernel
  have o3 : Builtin.Str.occurrences ("abcd" : Str) ⟨#[100]⟩ 0 ("abcd" : Str).length 1 = [3] := by decide +kernel
  rcases this with rfl | rfl | rfl | rfl
  · simp only [indexM, o0]; rfl
  · simp only [indexM, o1]; rfl
  · simp only [indexM, o2]; rfl
  · simp only [indexM, o3]; rfl
theorem F_spots_run (cs : List Nat) (hl : cs.length ≤ 1000) (hc : ∀ c ∈ cs, Let 4 c) (st : Sto) : F_spots [tx cs] st = .ok (.lst (cs.map nmN)) st := by
  have hz : (chD cs).length ≤ sizeLine := szl2 (by simp [chD]; omega)
  have e : lcL (nameG 1) yesT (m1E indexM (cstE (.str "abcd")) (varE 1)) [some (.d (tx cs)), none] (chD cs) st = .ok (cs.map nmN) st := by
    have : ∀ cs : List Nat, (∀ c ∈ cs, Let 4 c) → ∀ A : Option EV, lcL (nameG 1) yesT (m1E indexM (cstE (.str "abcd")) (varE 1)) [A, none] (chD cs) st = .ok (cs.map nmN) st := by
      intro cs
      induction cs with
      | nil => intros; rfl
      | cons c r ih =>
        intro h A
        have i := index_one c (h c (by simp)) st
        have ih := ih (fun x hx => h x (by simp [hx])) A
        show lcL _ _ _ _ (.str ⟨#[c]⟩ :: chD r) st = _
        simp [lcL, yesT, i, ih]
    exact this cs hc _
  simp [F_spots, b_spots, tx_it, hz, e]
theorem F_fills_run {bs : List Nat} (hs : sml bs) {L : Int} (h1 : 1 ≤ L) (h4 : L ≤ 4) (a : D) (vs : List (Option (List Nat))) (hn : nice bs (wV a vs) = true) (hv : viewOk L (wV a vs) = true) (hvl : vs.length ≤ 4) (ha : aOk a = true) (d : D) (hd : (∃ cs : List Nat, d = tx cs ∧ cs.length ≤ 1000 ∧ ∀ c ∈ cs, c < 128) ∨ ((tyD d).isSome = true ∧ ∀ z, d ≠ .str z)) (st : Sto) :
    F_fills [.int L, wV a vs, d] st = .ok (.bl (fillD L a vs d)) st ∧ F__law_fills [.int L, wV a vs, d] st = .ok (.bl (fillD L a vs d)) st := by
  have ev := F_view_of_run hs L h4 (wV a vs) st hn
  rw [hv] at ev
  have ec := F_check_run L h1 h4 st
  have ew : F_want_view [.int L, wV a vs] st = .ok .non st := by simp [F_want_view, b_want_view, ev]
  rcases hd with ⟨cs, rfl, hl, hc⟩ | ⟨ht, hz⟩
  · refine ⟨?_, F_law_fills_tx h1 h4 a vs hvl ha cs hl st⟩
    have e1 := F_text_of_tx h1 h4 cs hl hc st
    have ef : fillD L a vs (tx cs) = (letB L cs && (lenB a cs.length && fillB cs 97 vs)) := by simp [fillD, tx]
    rw [ef]
    cases c1 : letB L cs with
    | false =>
      rw [c1] at e1
      simp [F_fills, b_fills, ec, ew, e1]
    | true =>
      rw [c1] at e1
      have hc4 : ∀ c ∈ cs, Let 4 c := fun c hcm => by
        have := List.all_eq_true.mp c1 c hcm
        simp only [decide_eq_true_eq] at this
        unfold Let at this ⊢
        omega
      have e2 := F_spots_run cs hl hc4 st
      have e3 := F_filling_run a vs ha cs hl hvl st
      simp [F_fills, b_fills, ec, ew, e1, e2, e3]
  · refine ⟨?_, ?_⟩
    · have e1 := F_text_of_no (L := L) d ht hz st
      have : fillD L a vs d = false := by
        cases d with
        | str z => exact absurd rfl (hz z)
        | _ => rfl
      rw [this]
      simp [F_fills, b_fills, ec, ew, e1]
    · have : fillD L a vs d = false := by
        cases d with
        | str z => exact absurd rfl (hz z)
        | _ => rfl
      rw [this]
      exact F_law_fills_no _ d ht hz st
end Dd

set_option Elab.async false
set_option linter.all false
set_option maxRecDepth 100000
/-! the plain law, part Z: drawn fillings. -/
namespace Dd
open PySem PySem.Spec PyProof.Rows
open L2 (atI ixN Key cutS)
abbrev ff1 : EnvD → M Fl := setS 3 (callW F__law_draw (consA (varE 0) (consA (binE addM (biE lenM (consA (varE 2) (nilA))) (cstE (.int 1))) (nilA))))
abbrev ff2 : EnvD → M Fl := setS 4 (callW F__law_pick (consA (varE 0) (consA (slE (cstE (.str "abcd")) noE (partE (varE 1))) (nilA))))
abbrev ff3 : EnvD → M Fl := setS 5 (lstE (consA (varE 2) (consA (binE addM (varE 2) (varE 4)) (consA (binE addM (binE addM (slE (varE 2) noE (partE (varE 3))) (varE 4)) (slE (varE 2) (partE (varE 3)) noE)) (consA (binE addM (slE (varE 2) noE (partE (varE 3))) (slE (varE 2) (partE (binE addM (varE 3) (cstE (.int 1)))) noE)) (consA (binE addM (binE addM (slE (varE 2) noE (partE (varE 3))) (varE 4)) (slE (varE 2) (partE (binE addM (varE 3) (cstE (.int 1)))) noE)) (consA (unE revM (varE 2)) (consA (cstE (.str "")) (nilA)))))))))
abbrev ff4 : EnvD → M Fl := retS (binE addM (varE 5) (lstE (consA (binE addM (varE 2) (binE mulA (varE 4) (cstE (.int 70)))) (consA (cstE .non) (consA (cstE (.int 0)) (consA (lstE (nilA)) (consA (cstE (.str "e")) (consA (cstE (.str "A")) (consA (tupE (consA (cstE (.str "a")) (nilA))) (consA (binE addM (varE 2) (cstE (.str " "))) (nilA)))))))))))
theorem ff_eq : b__law_fillings = seqS ff1 (seqS ff2 (seqS ff3 ff4)) := rfl
def cutN (cs : List Nat) (lo hi : Option Int) : List Nat := (cs.drop (HT.sIx cs.length 0 lo)).take (HT.sIx cs.length cs.length hi - HT.sIx cs.length 0 lo)
theorem slM_tx (cs : List Nat) (lo hi : Option Int) (h : cs.length ≤ 1000) (st : Sto) : slM (tx cs) lo hi st = .ok (tx (cutN cs lo hi)) st := by
  have l : (⟨cs.toArray⟩ : Str).length = cs.length := by simp [Str.length]
  have l2 : cs.length ≤ sizeLine := szl2 (by omega)
  have e : cutS ⟨cs.toArray⟩ lo hi = ⟨(cutN cs lo hi).toArray⟩ := by
    unfold cutS cutN
    rw [l]
  simp [slM, tx, l, l2, e]
theorem addM_tx (a b : List Nat) (h : a.length + b.length ≤ 1000) (st : Sto) : addM (tx a) (tx b) st = .ok (tx (a ++ b)) st := by
  have l : ∀ cs : List Nat, (⟨cs.toArray⟩ : Str).length = cs.length := fun cs => by simp [Str.length]
  have l2 : a.length + b.length ≤ sizeLine := szl2 (by omega)
  have e : (⟨a.toArray⟩ : Str) ++ ⟨b.toArray⟩ = ⟨(a ++ b).toArray⟩ := by
    show (⟨a.toArray ++ b.toArray⟩ : Str) = _
    simp
  simp [addM, tx, l, l2, e]
theorem revM_tx (a : List Nat) (h : a.length ≤ 1000) (st : Sto) : revM (tx a) st = .ok (tx a.reverse) st := by
  have l : (⟨a.toArray⟩ : Str).length = a.length := by simp [Str.length]
  have l2 : a.length ≤ sizeLine := szl2 (by omega)
  simp [revM, tx, l, l2, revS]
theorem mulA_tx (c : Nat) (st : Sto) : mulA (tx [c]) (.int 70) st = .ok (tx (List.replicate 70 c)) st := by
  have l : (⟨#[c]⟩ : Str).length = 1 := rfl
  have m : mulsOk 1 70 := by unfold mulsOk; omega
  have e : repS ⟨#[c]⟩ 70 = ⟨(List.replicate 70 c).toArray⟩ := by
    unfold repS
    have : (List.replicate 70 [c]).flatten = List.replicate 70 c := by
      simp [List.flatten_replicate_singleton]
    simp only [this]
  simp [mulA, mulsM, tx, l, m, e]
/-- a text of few signs -/
def TxS (m : Nat) (d : D) : Prop := ∃ cs : List Nat, d = tx cs ∧ cs.length ≤ m ∧ ∀ c ∈ cs, c < 128
def FillV (d : D) : Prop := (∃ cs : List Nat, d = tx cs ∧ cs.length ≤ 1000 ∧ ∀ c ∈ cs, c < 128) ∨ ((tyD d).isSome = true ∧ ∀ z, d ≠ .str z)
theorem cutN_mem {cs : List Nat} {lo hi : Option Int} {c : Nat} (h : c ∈ cutN cs lo hi) : c ∈ cs := List.mem_of_mem_drop (List.mem_of_mem_take h)
theorem cutN_len (cs : List Nat) (lo hi : Option Int) : (cutN cs lo hi).length ≤ cs.length := by
  unfold cutN
  rw [List.length_take, List.length_drop]
  omega
abbrev fE (n : Nat) (L : Int) (cs : List Nat) (x3 x4 x5 : Option EV) : EnvD := [some (.d (.ref n)), some (.d (.int L)), some (.d (tx cs)), x3, x4, x5]
def fl3 (cs : List Nat) (k : Int) (c : Nat) : List D := [tx cs, tx (cs ++ [c]), tx (cutN cs none (some k) ++ [c] ++ cutN cs (some k) none), tx (cutN cs none (some k) ++ cutN cs (some (k + 1)) none), tx (cutN cs none (some k) ++ [c] ++ cutN cs (some (k + 1)) none), tx cs.reverse, .str ""]
theorem ff3_run (n : Nat) (L k : Int) (cs : List Nat) (c : Nat) (h : cs.length ≤ 60) (st : Sto) : ff3 (fE n L cs (some (.d (.int k))) (some (.d (tx [c]))) none) st = .ok (.nx (fE n L cs (some (.d (.int k))) (some (.d (tx [c]))) (some (.d (.lst (fl3 cs k c)))))) st := by
  have a1 := cutN_len cs none (some k)
  have a2 := cutN_len cs (some k) none
  have a3 := cutN_len cs (some (k + 1)) none
  have s := fun lo hi => slM_tx cs lo hi (by omega) st
  have l7 : 7 ≤ sizeLine := by decide
  have p1 := addM_tx cs [c] (by simp; omega) st
  have p2 := addM_tx (cutN cs none (some k)) [c] (by simp; omega) st
  have p3 := addM_tx (cutN cs none (some k) ++ [c]) (cutN cs (some k) none) (by simp; omega) st
  have p4 := addM_tx (cutN cs none (some k)) (cutN cs (some (k + 1)) none) (by omega) st
  have p5 := addM_tx (cutN cs none (some k) ++ [c]) (cutN cs (some (k + 1)) none) (by simp; omega) st
  have p6 := revM_tx cs (by omega) st
  simp only [setS_run, lstE_run, consA_run, nilA_run, bind_run, varE_run, List.getElem?_cons_succ, List.getElem?_cons_zero, pure_run, binE_run, unE_run, slE_run, noE_run, partE_run, cstE_run, s, addM_int, p1, p2, p3, p4, p5, p6]
  simp [l7, fl3]
def fl4 (cs : List Nat) (c : Nat) : List D := [tx (cs ++ List.replicate 70 c), .non, .int 0, .lst [], .str "e", .str "A", .tup [.str "a"], tx (cs ++ [32])]
theorem ff4_run (n : Nat) (L k : Int) (cs : List Nat) (c : Nat) (h : cs.length ≤ 60) (st : Sto) : ff4 (fE n L cs (some (.d (.int k))) (some (.d (tx [c]))) (some (.d (.lst (fl3 cs k c))))) st = .ok (.rt (.lst (fl3 cs k c ++ fl4 cs c))) st := by
  have e1 := mulA_tx c st
  have p1 := addM_tx cs (List.replicate 70 c) (by simp; omega) st
  have es : (.str " " : D) = tx [32] := by
    have : (" " : Str) = ⟨#[32]⟩ := by decide +kernel
    simp [tx, this]
  have p2 := addM_tx cs [32] (by simp; omega) st
  have l0 : 0 ≤ sizeLine := by decide
  have l1 : 1 ≤ sizeLine := by decide
  have l8 : 8 ≤ sizeLine := by decide
  have l15 : (fl3 cs k c).length + 8 ≤ sizeLine := szl2 (by simp [fl3])
  have aL : ∀ xs ys : List D, xs.length + ys.length ≤ sizeLine → addM (.lst xs) (.lst ys) st = .ok (.lst (xs ++ ys)) st := fun xs ys hh => by simp [addM, hh]
  simp only [retS_run, lstE_run, consA_run, nilA_run, bind_run, varE_run, List.getElem?_cons_succ, List.getElem?_cons_zero, pure_run, binE_run, cstE_run, tupE_run, e1, p1, es, p2, List.length_cons, List.length_nil, Nat.zero_add, if_pos l0, if_pos l1, ite_run]
  simp [l8, aL, l15, fl4]
theorem str_tx (z : Str) : D.str z = tx z.cps.toList := by simp [tx]
theorem fl_ok {cs : List Nat} {L : Int} (h4 : L ≤ 4) (k : Int) (c : Nat) (h : cs.length ≤ 60) (hc : ∀ x ∈ cs, Let L x) (hl : Let L c) : All FillV (fl3 cs k c ++ fl4 cs c) := by
  have lt : ∀ x, Let L x → x < 128 := fun x hx => by unfold Let at hx; omega
  have T : ∀ as : List Nat, as.length ≤ 1000 → (∀ x ∈ as, x < 128) → FillV (tx as) := fun as h1 h2 => .inl ⟨as, rfl, h1, h2⟩
  have a1 := cutN_len cs none (some k)
  have a2 := cutN_len cs (some k) none
  have a3 := cutN_len cs (some (k + 1)) none
  have m : ∀ lo hi, ∀ x ∈ cutN cs lo hi, x < 128 := fun lo hi x hx => lt x (hc x (cutN_mem hx))
  have mc : ∀ x ∈ cs, x < 128 := fun x hx => lt x (hc x hx)
  have m1 : ∀ x ∈ [c], x < 128 := fun x hx => by simp at hx; subst hx; exact lt _ hl
  have ap : ∀ {as bs : List Nat}, (∀ x ∈ as, x < 128) → (∀ x ∈ bs, x < 128) → ∀ x ∈ as ++ bs, x < 128 := fun h1 h2 x hx => (List.mem_append.mp hx).elim (h1 x) (h2 x)
  have S : ∀ z : Str, z.cps.toList.length ≤ 1000 → (∀ x ∈ z.cps.toList, x < 128) → FillV (.str z) := fun z h1 h2 => by rw [str_tx]; exact T _ h1 h2
  refine All.app (All.cons (T _ (by omega) mc) (All.cons (T _ (by simp; omega) (ap mc m1)) (All.cons (T _ (by simp; omega) (ap (ap (m _ _) m1) (m _ _))) (All.cons (T _ (by simp; omega) (ap (m _ _) (m _ _))) (All.cons (T _ (by simp; omega) (ap (ap (m _ _) m1) (m _ _))) (All.cons (T _ (by simp; omega) (fun x hx => mc x (List.mem_reverse.mp hx))) (All.cons (S _ (by decide +kernel) (by decide +kernel)) All.nil)))))))
    (All.cons (T _ (by simp; omega) (ap mc (fun x hx => m1 x (by simp at hx; simp [hx])))) (All.cons (.inr ⟨rfl, fun z => nofun⟩) (All.cons (.inr ⟨rfl, fun z => nofun⟩) (All.cons (.inr ⟨rfl, fun z => nofun⟩) (All.cons (S _ (by decide +kernel) (by decide +kernel)) (All.cons (S _ (by decide +kernel) (by decide +kernel)) (All.cons (.inr ⟨rfl, fun z => nofun⟩) (All.cons (T _ (by simp; omega) (ap mc (by decide))) All.nil))))))))
theorem F_fillings_go (n : Nat) {L : Int} (h1 : 1 ≤ L) (h4 : L ≤ 4) (cs : List Nat) (h : cs.length ≤ 60) (hc : ∀ x ∈ cs, Let L x) : Go n (F__law_fillings [.ref n, .int L, tx cs]) (fun d => ∃ xs : List D, d = .lst xs ∧ All FillV xs) := fun st hp => by
  obtain ⟨_, st1, e1, p1, k, rfl, k0, k1⟩ := F_draw_go n ((cs.length : Int) + 1) (by omega) (by omega) st hp
  obtain ⟨_, st2, e2, p2, c, rfl, hl⟩ := F_pick_go n L h1 h4 st1 p1
  have s1 : ff1 (fE n L cs none none none) st = .ok (.nx (fE n L cs (some (.d (.int k))) none none)) st1 := by
    have := tx_lenM cs (by omega) st
    simp [this, e1]
  have s2 : ff2 (fE n L cs (some (.d (.int k))) none none) st1 = .ok (.nx (fE n L cs (some (.d (.int k))) (some (.d (tx [c]))) none)) st2 := by
    simp [slM_abcd, e2]
  have s3 := ff3_run n L k cs c h st2
  have s4 := ff4_run n L k cs c h st2
  refine ⟨_, st2, ?_, p2, fl3 cs k c ++ fl4 cs c, rfl, fl_ok h4 k c h hc hl⟩
  refine run_rt rfl ?_
  rw [ff_eq]
  show seqS _ _ (fE n L cs none none none) st = _
  rw [seq_nx s1, seq_nx s2, seq_nx s3, s4]
end Dd

set_option Elab.async false
set_option linter.all false
set_option maxRecDepth 100000
/-! the plain law, the end. -/
namespace Dd
open PySem PySem.Spec PyProof.Rows
open L2 (atI ixN Key cutS)
abbrev rr1 : EnvD → M Fl := setS 1 (binE addM (cstE (.int 1)) (callW F__law_draw (consA (varE 0) (consA (cstE (.int 4)) (nilA)))))
abbrev rr2 : EnvD → M Fl := setS 2 (callW F__law_postings (consA (varE 1) (consA (callW F__law_texts_drawn (consA (varE 0) (consA (varE 1) (consA (cstE (.int 5)) (consA (cstE (.int 6)) (nilA)))))) (nilA))))
abbrev rr3 : EnvD → M Fl := forS (anyI (callW F__law_bent (consA (varE 0) (consA (varE 2) (nilA))))) (nameG 3) (seqS (parS 9 10 (consA (callW F__law_are_postings (consA (varE 3) (nilA))) (consA (biE showM (consA (varE 3) (nilA))) (nilA))))
    (ifS (orT (tstE (binE neM (biE showM (consA (lstE (consA (callW F_is_postings (consA (varE 3) (nilA))) (consA (callK F_is_postings [0] 0 1 nilA (consA (varE 3) (nilA))) (nilA)))) (nilA))) (biE showM (consA (lstE (consA (varE 9) (consA (varE 9) (nilA)))) (nilA))))) (tstE (binE neM (biE showM (consA (varE 3) (nilA))) (varE 10)))) (retS (cstE (.bl false))) (nxtS)))
abbrev rr4 : EnvD → M Fl := setS 4 (callW F__law_postings (consA (varE 1) (consA (binE mulA (lstE (consA (cstE (.str "a")) (nilA))) (cstE (.int 9))) (nilA))))
abbrev rr5 : EnvD → M Fl := ifS (tstE (binE neM (lstE (consA (callW F_is_postings (consA (varE 4) (nilA))) (consA (callW F_is_postings (consA (callW F__law_postings (consA (varE 1) (consA (binE mulA (lstE (consA (cstE (.str "a")) (nilA))) (cstE (.int 8))) (nilA)))) (nilA))) (nilA)))) (lstE (consA (cstE (.bl false)) (consA (cstE (.bl true)) (nilA)))))) (retS (cstE (.bl false))) (nxtS)
abbrev rr6 : EnvD → M Fl := forS (rngI1 (consA (cstE (.int 3)) (nilA))) (nameG 5) (seqS (setS 6 (callW F__law_text (consA (varE 0) (consA (varE 1) (consA (cstE (.int 6)) (nilA))))))
    (seqS (setS 7 (lcE (anyI (binE addM (biE listM (consA (slE (cstE (.str "abcd")) noE (partE (varE 1))) (nilA))) (lstE (consA (cstE (.str "long")) (nilA))))) (nameG 11) (tstE (binE eqM (callW F__law_draw (consA (varE 0) (consA (cstE (.int 2)) (nilA)))) (cstE (.int 0)))) (varE 11) [11]))
    (seqS (setS 8 (callW F__law_view (consA (varE 1) (consA (varE 6) (consA (varE 7) (nilA))))))
    (seqS (forS (anyI (callW F__law_bent_view (consA (varE 0) (consA (varE 8) (nilA))))) (nameG 3) (seqS (parS 9 10 (consA (callW F__law_is_view (consA (varE 1) (consA (varE 3) (nilA)))) (consA (biE showM (consA (varE 3) (nilA))) (nilA))))
    (ifS (orT (tstE (binE neM (biE showM (consA (lstE (consA (callW F_is_view (consA (varE 1) (consA (varE 3) (nilA)))) (consA (callK F_is_view [1, 0] 0 2 nilA (consA (varE 3) (consA (varE 1) (nilA)))) (nilA)))) (nilA))) (biE showM (consA (lstE (consA (varE 9) (consA (varE 9) (nilA)))) (nilA))))) (tstE (binE neM (biE showM (consA (varE 3) (nilA))) (varE 10)))) (retS (cstE (.bl false))) (nxtS))))
    (forS (anyI (callW F__law_fillings (consA (varE 0) (consA (varE 1) (consA (varE 6) (nilA)))))) (nameG 3) (seqS (setS 9 (callW F__law_fills (consA (varE 1) (consA (varE 8) (consA (varE 3) (nilA))))))
    (ifS (tstE (binE neM (biE showM (consA (lstE (consA (callW F_fills (consA (varE 1) (consA (varE 8) (consA (varE 3) (nilA))))) (consA (callK F_fills [2, 1, 0] 0 3 nilA (consA (varE 3) (consA (varE 8) (consA (varE 1) (nilA))))) (nilA)))) (nilA))) (biE showM (consA (lstE (consA (varE 9) (consA (varE 9) (nilA)))) (nilA))))) (retS (cstE (.bl false))) (nxtS))))))))
abbrev rr7 : EnvD → M Fl := retS (cstE (.bl true))
theorem rr_eq : b__law_right = seqS rr1 (seqS rr2 (seqS rr3 (seqS rr4 (seqS rr5 (seqS rr6 rr7))))) := rfl
theorem sml_P : sml bsP := by unfold sml bsP; decide
theorem bnd_P : bnd bsP ≤ sizeLine := by decide
theorem sml_V : sml [6, 6, 70] := by unfold sml; decide
theorem bnd_V : bnd [6, 6, 70] ≤ sizeLine := by decide
theorem show_two (b : Bool) (st : Sto) : showM [.lst [.bl b, .bl b]] st = .ok (.str (shownD (.lst [.bl b, .bl b]))) st :=
  show_nice (bs := [2]) st (by cases b <;> decide) (by decide) (by decide)
structure LikeP (d : D) (b : Bool) (z : Str) (st : Sto) : Prop where
  e1 : F__law_are_postings [d] st = .ok (.bl b) st
  e2 : F_is_postings [d] st = .ok (.bl b) st
  e3 : showM [d] st = .ok (.str z) st
theorem likeP {d : D} (h : Nz d) (st : Sto) : ∃ b z, LikeP d b z st := by
  rcases h with h | rfl
  · exact ⟨_, _, F_law_postings_run sml_P (by decide) d st h, F_is_postings_run sml_P (by decide) d st h, show_nice st h (by decide) bnd_P⟩
  · refine ⟨false, "{}", ?_, ?_, rfl⟩
    · simp [F__law_are_postings, b__law_are_postings, isiM, tyD, isiB]
    · simp [F_is_postings, b_is_postings, F_are_postings, b_are_postings, isiM, tyD, isiB]
abbrev rr3b : EnvD → M Fl := seqS (parS 9 10 (consA (callW F__law_are_postings (consA (varE 3) (nilA))) (consA (biE showM (consA (varE 3) (nilA))) (nilA))))
    (ifS (orT (tstE (binE neM (biE showM (consA (lstE (consA (callW F_is_postings (consA (varE 3) (nilA))) (consA (callK F_is_postings [0] 0 1 nilA (consA (varE 3) (nilA))) (nilA)))) (nilA))) (biE showM (consA (lstE (consA (varE 9) (consA (varE 9) (nilA)))) (nilA))))) (tstE (binE neM (biE showM (consA (varE 3) (nilA))) (varE 10)))) (retS (cstE (.bl false))) (nxtS))
abbrev rE (n : Nat) (x1 x2 x3 x4 x5 x6 x7 x8 x9 x10 : Option EV) : EnvD := [some (.d (.ref n)), x1, x2, x3, x4, x5, x6, x7, x8, x9, x10, none]
theorem rr3b_run (n : Nat) (x1 x2 x4 x5 x6 x7 x8 x9 x10 : Option EV) (d : D) (h : Nz d) (st : Sto) : ∃ y9 y10, rr3b (rE n x1 x2 (some (.d d)) x4 x5 x6 x7 x8 x9 x10) st = .ok (.nx (rE n x1 x2 (some (.d d)) x4 x5 x6 x7 x8 y9 y10)) st := by
  obtain ⟨b, z, e⟩ := likeP h st
  have s := show_two b st
  have l2 : 2 ≤ sizeLine := by decide
  refine ⟨some (.d (.bl b)), some (.d (.str z)), ?_⟩
  simp [e.e1, e.e2, e.e3, s, l2, permL]
theorem loop_r3 (n : Nat) (x1 x2 x4 x5 x6 x7 x8 : Option EV) (st : Sto) : ∀ (xs : List D), All Nz xs → ∀ x3 x9 x10 : Option EV, ∃ y3 y9 y10, forL (nameG 3) rr3b xs (rE n x1 x2 x3 x4 x5 x6 x7 x8 x9 x10) st = .ok (.nx (rE n x1 x2 y3 x4 x5 x6 x7 x8 y9 y10)) st
  | [], _, x3, x9, x10 => ⟨x3, x9, x10, rfl⟩
  | d :: xs, h, x3, x9, x10 => by
    obtain ⟨y9, y10, e⟩ := rr3b_run n x1 x2 x4 x5 x6 x7 x8 x9 x10 d (h d (by simp)) st
    obtain ⟨z3, z9, z10, ih⟩ := loop_r3 n x1 x2 x4 x5 x6 x7 x8 st xs (fun x hx => h x (by simp [hx])) (some (.d d)) y9 y10
    refine ⟨z3, z9, z10, ?_⟩
    rw [forL_cons _ _ _ _ _ _ _ rfl]
    simp only [bind_run, List.set_cons_succ, List.set_cons_zero, e, ih]
structure LikeV (L : Int) (d : D) (b : Bool) (z : Str) (st : Sto) : Prop where
  e1 : F__law_is_view [.int L, d] st = .ok (.bl b) st
  e2 : F_is_view [.int L, d] st = .ok (.bl b) st
  e3 : showM [d] st = .ok (.str z) st
theorem likeV {L : Int} (h1 : 1 ≤ L) (h4 : L ≤ 4) {d : D} (h : Nw d) (st : Sto) : ∃ b z, LikeV L d b z st := by
  rcases h with h | rfl
  · exact ⟨_, _, F_law_view_run sml_V (by decide) L h4 d st h, F_is_view_run sml_V L h1 h4 d st h, show_nice st h (by decide) bnd_V⟩
  · refine ⟨false, "{}", ?_, ?_, rfl⟩
    · simp [F__law_is_view, b__law_is_view, isiM, tyD, isiB]
    · simp [F_is_view, b_is_view, F_check_run L h1 h4, F_is_view_of, b_is_view_of, isiM, tyD, isiB]
abbrev rr6b : EnvD → M Fl := seqS (parS 9 10 (consA (callW F__law_is_view (consA (varE 1) (consA (varE 3) (nilA)))) (consA (biE showM (consA (varE 3) (nilA))) (nilA))))
    (ifS (orT (tstE (binE neM (biE showM (consA (lstE (consA (callW F_is_view (consA (varE 1) (consA (varE 3) (nilA)))) (consA (callK F_is_view [1, 0] 0 2 nilA (consA (varE 3) (consA (varE 1) (nilA)))) (nilA)))) (nilA))) (biE showM (consA (lstE (consA (varE 9) (consA (varE 9) (nilA)))) (nilA))))) (tstE (binE neM (biE showM (consA (varE 3) (nilA))) (varE 10)))) (retS (cstE (.bl false))) (nxtS))
theorem rr6b_run (n : Nat) {L : Int} (h1 : 1 ≤ L) (h4 : L ≤ 4) (x2 x4 x5 x6 x7 x8 x9 x10 : Option EV) (d : D) (h : Nw d) (st : Sto) : ∃ y9 y10, rr6b (rE n (some (.d (.int L))) x2 (some (.d d)) x4 x5 x6 x7 x8 x9 x10) st = .ok (.nx (rE n (some (.d (.int L))) x2 (some (.d d)) x4 x5 x6 x7 x8 y9 y10)) st := by
  obtain ⟨b, z, e⟩ := likeV h1 h4 h st
  have s := show_two b st
  have l2 : 2 ≤ sizeLine := by decide
  refine ⟨some (.d (.bl b)), some (.d (.str z)), ?_⟩
  simp [e.e1, e.e2, e.e3, s, l2, permL]
theorem loop_r6 (n : Nat) {L : Int} (h1 : 1 ≤ L) (h4 : L ≤ 4) (x2 x4 x5 x6 x7 x8 : Option EV) (st : Sto) : ∀ (xs : List D), All Nw xs → ∀ x3 x9 x10 : Option EV, ∃ y3 y9 y10, forL (nameG 3) rr6b xs (rE n (some (.d (.int L))) x2 x3 x4 x5 x6 x7 x8 x9 x10) st = .ok (.nx (rE n (some (.d (.int L))) x2 y3 x4 x5 x6 x7 x8 y9 y10)) st
  | [], _, x3, x9, x10 => ⟨x3, x9, x10, rfl⟩
  | d :: xs, h, x3, x9, x10 => by
    obtain ⟨y9, y10, e⟩ := rr6b_run n h1 h4 x2 x4 x5 x6 x7 x8 x9 x10 d (h d (by simp)) st
    obtain ⟨z3, z9, z10, ih⟩ := loop_r6 n h1 h4 x2 x4 x5 x6 x7 x8 st xs (fun x hx => h x (by simp [hx])) (some (.d d)) y9 y10
    refine ⟨z3, z9, z10, ?_⟩
    rw [forL_cons _ _ _ _ _ _ _ rfl]
    simp only [bind_run, List.set_cons_succ, List.set_cons_zero, e, ih]
abbrev rr6c : EnvD → M Fl := seqS (setS 9 (callW F__law_fills (consA (varE 1) (consA (varE 8) (consA (varE 3) (nilA))))))
    (ifS (tstE (binE neM (biE showM (consA (lstE (consA (callW F_fills (consA (varE 1) (consA (varE 8) (consA (varE 3) (nilA))))) (consA (callK F_fills [2, 1, 0] 0 3 nilA (consA (varE 3) (consA (varE 8) (consA (varE 1) (nilA))))) (nilA)))) (nilA))) (biE showM (consA (lstE (consA (varE 9) (consA (varE 9) (nilA)))) (nilA))))) (retS (cstE (.bl false))) (nxtS))
/-- a view by which both judges of fillings are alike -/
def ViewL (L : Int) (V : D) : Prop := ∀ d, FillV d → ∃ b, ∀ st, F_fills [.int L, V, d] st = .ok (.bl b) st ∧ F__law_fills [.int L, V, d] st = .ok (.bl b) st
theorem loop_r7 (n : Nat) {L : Int} {V : D} (hV : ViewL L V) (x2 x4 x5 x6 x7 x10 : Option EV) (st : Sto) : ∀ (xs : List D), All FillV xs → ∀ x3 x9 : Option EV, ∃ y3 y9, forL (nameG 3) rr6c xs (rE n (some (.d (.int L))) x2 x3 x4 x5 x6 x7 (some (.d V)) x9 x10) st = .ok (.nx (rE n (some (.d (.int L))) x2 y3 x4 x5 x6 x7 (some (.d V)) y9 x10)) st
  | [], _, x3, x9 => ⟨x3, x9, rfl⟩
  | d :: xs, h, x3, x9 => by
    obtain ⟨b, hb⟩ := hV d (h d (by simp))
    have e1 := (hb st).1
    have e2 := (hb st).2
    have s := show_two b st
    have l2 : 2 ≤ sizeLine := by decide
    have e : rr6c (rE n (some (.d (.int L))) x2 (some (.d d)) x4 x5 x6 x7 (some (.d V)) x9 x10) st = .ok (.nx (rE n (some (.d (.int L))) x2 (some (.d d)) x4 x5 x6 x7 (some (.d V)) (some (.d (.bl b))) x10)) st := by
      simp [e1, e2, s, l2, permL]
    obtain ⟨z3, z9, ih⟩ := loop_r7 n hV x2 x4 x5 x6 x7 x10 st xs (fun x hx => h x (by simp [hx])) (some (.d d)) (some (.d (.bl b)))
    refine ⟨z3, z9, ?_⟩
    rw [forL_cons _ _ _ _ _ _ _ rfl]
    simp only [bind_run, List.set_cons_succ, List.set_cons_zero, e, ih]
abbrev rr6d : EnvD → M Fl := seqS (setS 6 (callW F__law_text (consA (varE 0) (consA (varE 1) (consA (cstE (.int 6)) (nilA))))))
    (seqS (setS 7 (lcE (anyI (binE addM (biE listM (consA (slE (cstE (.str "abcd")) noE (partE (varE 1))) (nilA))) (lstE (consA (cstE (.str "long")) (nilA))))) (nameG 11) (tstE (binE eqM (callW F__law_draw (consA (varE 0) (consA (cstE (.int 2)) (nilA)))) (cstE (.int 0)))) (varE 11) [11]))
    (seqS (setS 8 (callW F__law_view (consA (varE 1) (consA (varE 6) (consA (varE 7) (nilA))))))
    (seqS (forS (anyI (callW F__law_bent_view (consA (varE 0) (consA (varE 8) (nilA))))) (nameG 3) rr6b)
    (forS (anyI (callW F__law_fillings (consA (varE 0) (consA (varE 1) (consA (varE 6) (nilA)))))) (nameG 3) rr6c))))
theorem rr6_eq : rr6 = forS (rngI1 (consA (cstE (.int 3)) (nilA))) (nameG 5) rr6d := rfl
def vsV (lk : Nat → Bool) (cs ls : List Nat) : List (Option (List Nat)) := ls.map fun s => if lk s = true then some (posN s 0 cs) else none
theorem vLs_eq (lk : Nat → Bool) (cs ls : List Nat) : vLs lk cs ls = (vsV lk cs ls).map oneV := by
  unfold vLs vsV
  rw [List.map_map]
  apply List.map_congr_left
  intro s _
  by_cases h : lk s = true <;> simp [h, oneV]
theorem viewS_of {L : Int} (h1 : 1 ≤ L) (h4 : L ≤ 4) (lg : Bool) (lk : Nat → Bool) (cs : List Nat) (hl : cs.length ≤ 30) : ViewS (aD lg cs) (vLs lk cs (lets L)) := by
  have el := lets_len h1 h4
  have e2 : (vLs lk cs (lets L)).length = (lets L).length := by simp [vLs]
  refine ⟨?_, by omega, by omega, fun x hx => ?_⟩
  · cases lg
    · exact .inl rfl
    · exact .inr ⟨_, rfl, by omega, by omega⟩
  · obtain ⟨s, hs, rfl⟩ := List.mem_map.mp hx
    by_cases h : lk s = true
    · rw [if_pos h]
      have pl := posN_len s cs 0
      refine .inr ⟨_, rfl, by simp; omega, fun y hy => ?_⟩
      obtain ⟨i, hi, rfl⟩ := List.mem_map.mp hy
      have := posN_mem s cs 0 i hi
      exact ⟨_, rfl, by omega, by omega⟩
    · rw [if_neg h]; exact .inl rfl
theorem viewL_of {L : Int} (h1 : 1 ≤ L) (h4 : L ≤ 4) (lg : Bool) (lk : Nat → Bool) (cs : List Nat) (hl : cs.length ≤ 30) (hc : ∀ c ∈ cs, Let L c) : ViewL L (.tup [aD lg cs, .tup (vLs lk cs (lets L))]) := fun d hd => by
  have p := viewS_of h1 h4 lg lk cs hl
  have ok := view_ok h1 h4 lg lk cs (by omega) hc
  have nn : nice [6, 6, 70] (.tup [aD lg cs, .tup (vLs lk cs (lets L))]) = true := two2 p.na p.nls
  have ha : aOk (aD lg cs) = true := by
    cases lg
    · rfl
    · simp [aD, aOk, withinD]; right; omega
  have hl4 : (vsV lk cs (lets L)).length ≤ 4 := by
    have := p.l4
    rw [vLs_eq] at this
    simpa using this
  rw [vLs_eq] at nn ok ⊢
  exact ⟨_, fun st => F_fills_run sml_V h1 h4 (aD lg cs) (vsV lk cs (lets L)) nn ok hl4 ha d hd st⟩
theorem looks_ok {L : Int} (h1 : 1 ≤ L) (h4 : L ≤ 4) (d : D) (h : d ∈ chD (lets L) ++ [.str "long"]) : ∃ z : Str, d = .str z ∧ lookS z := by
  rcases List.mem_append.mp h with h | h
  · obtain ⟨c, hc, rfl⟩ := List.mem_map.mp h
    have := (lets_mem h1 h4 c).mp hc
    unfold Let at this
    exact ⟨_, rfl, lookS_one (by omega)⟩
  · simp at h
    subst h
    exact ⟨_, rfl, long_ok⟩
theorem Go_lcm {n : Nat} {tg : D → EnvD → Option EnvD} {ft : EnvD → M Bool} {fe : EnvD → M D} {env : EnvD} (xs : List D) (P : D → Prop) (h : ∀ x ∈ xs, P x ∧ ∃ e, tg x env = some e ∧ Go n (ft e) (fun _ => True) ∧ (∀ st, fe e st = .ok x st)) : Go n (lcL tg ft fe env xs) fun ys => ys.length ≤ xs.length ∧ ∀ y ∈ ys, P y :=
  Go_lcf P xs fun x hx => by
    obtain ⟨p, e, h1, h2, h3⟩ := h x hx
    exact ⟨e, h1, h2, Go.run h3 p⟩
theorem lc_ok {it : EnvD → M (List D)} {tg : D → EnvD → Option EnvD} {ft : EnvD → M Bool} {fe : EnvD → M D} {vs : List Nat} {env : EnvD} {xs ys : List D} {st st1 st2 : Sto} (h : it env st = .ok xs st1) (hl : xs.length ≤ sizeLine) (h2 : lcL tg ft fe (wipeE env vs) xs st1 = .ok ys st2) : lcE it tg ft fe vs env st = .ok (.lst ys) st2 := by
  simp only [lcE_run, bind_run, h, ite_run, if_pos hl, h2]; rfl
theorem set_ok {i : Nat} {fe : EnvD → M D} {env : EnvD} {st st' : Sto} {d : D} (h : fe env st = .ok d st') : setS i fe env st = .ok (.nx (env.set i (some (.d d)))) st' := by simp [h]
theorem rr6d_go (n : Nat) {L : Int} (h1 : 1 ≤ L) (h4 : L ≤ 4) (x2 x3 x4 x5 x6 x7 x8 x9 x10 : Option EV) : ∀ st, Pot n st → ∃ st' y3 y6 y7 y8 y9 y10, rr6d (rE n (some (.d (.int L))) x2 x3 x4 x5 x6 x7 x8 x9 x10) st = .ok (.nx (rE n (some (.d (.int L))) x2 y3 x4 x5 y6 y7 y8 y9 y10)) st' ∧ Pot n st' := fun st hp => by
  obtain ⟨_, st1, e1, p1, cs, rfl, hl, hc⟩ := F_text_go n L 6 h1 h4 (by omega) (by omega) st hp
  have el := lets_len h1 h4
  obtain ⟨ys, st2, e2, p2, l2, hys⟩ := Go_lcm (n := n) (tg := nameG 11) (ft := tstE (binE eqM (callW F__law_draw (consA (varE 0) (consA (cstE (.int 2)) (nilA)))) (cstE (.int 0)))) (fe := varE 11) (env := rE n (some (.d (.int L))) x2 x3 x4 x5 (some (.d (tx cs))) x7 x8 x9 x10) (chD (lets L) ++ [.str "long"]) (fun d => ∃ z : Str, d = .str z ∧ lookS z)
    (fun x hx => ⟨looks_ok h1 h4 x hx, _, rfl, fun st q => by
      obtain ⟨_, st3, e3, p3, j, rfl, _, _⟩ := F_draw_go n 2 (by omega) (by omega) st q
      exact ⟨decide (j = 0), st3, by simp [e3, beq_dec], p3, trivial⟩, fun st => by simp⟩) st1 p1
  obtain ⟨zs, rfl, hz⟩ := ex_map ys hys
  have e3 := F_view_make L h1 h4 cs zs hz (by omega) st2
  have pv := viewS_of h1 h4 (inL zs "long") (fun s => inL zs ⟨#[s]⟩) cs (by omega)
  obtain ⟨_, st4, e4, p4, bs, rfl, hb⟩ := F_bent_view_go n _ _ pv st2 p2
  obtain ⟨z3, z9, z10, e5⟩ := loop_r6 n h1 h4 x2 x4 x5 (some (.d (tx cs))) (some (.d (.lst (zs.map D.str)))) (some (.d (vwD L cs zs))) st4 bs hb x3 x9 x10
  obtain ⟨_, st6, e6, p6, fs, rfl, hf⟩ := F_fillings_go n h1 h4 cs (by omega) hc st4 p4
  obtain ⟨w3, w9, e7⟩ := loop_r7 n (viewL_of h1 h4 (inL zs "long") (fun s => inL zs ⟨#[s]⟩) cs (by omega) hc) x2 x4 x5 (some (.d (tx cs))) (some (.d (.lst (zs.map D.str)))) z10 st6 fs hf z3 z9
  refine ⟨st6, w3, some (.d (tx cs)), some (.d (.lst (zs.map D.str))), some (.d (vwD L cs zs)), w9, z10, ?_, p6⟩
  have s1 : setS 6 (callW F__law_text (consA (varE 0) (consA (varE 1) (consA (cstE (.int 6)) (nilA))))) (rE n (some (.d (.int L))) x2 x3 x4 x5 x6 x7 x8 x9 x10) st = .ok (.nx (rE n (some (.d (.int L))) x2 x3 x4 x5 (some (.d (tx cs))) x7 x8 x9 x10)) st1 := by simp [e1]
  have hz4 : (⟨(lets L).toArray⟩ : Str).length ≤ sizeLine := szl2 (by simp [Str.length]; omega)
  have hz5 : (chD (lets L)).length + 1 ≤ sizeLine := szl2 (by simp [chD]; omega)
  have hz6 : (chD (lets L) ++ [D.str "long"]).length ≤ sizeLine := szl2 (by simp [chD]; omega)
  have it : anyI (binE addM (biE listM (consA (slE (cstE (.str "abcd")) noE (partE (varE 1))) (nilA))) (lstE (consA (cstE (.str "long")) (nilA)))) (rE n (some (.d (.int L))) x2 x3 x4 x5 (some (.d (tx cs))) x7 x8 x9 x10) st1 = .ok (chD (lets L) ++ [.str "long"]) st1 := by
    have hl : listM [.str ⟨(lets L).toArray⟩] st1 = .ok (.lst (chD (lets L))) st1 := by simp [listM, hz4, chD]
    have l1 : 1 ≤ sizeLine := by decide
    simp [slM_abcd, cut_lets h1 h4, hl, l1, addM, hz5]
  have s2 : setS 7 (lcE (anyI (binE addM (biE listM (consA (slE (cstE (.str "abcd")) noE (partE (varE 1))) (nilA))) (lstE (consA (cstE (.str "long")) (nilA))))) (nameG 11) (tstE (binE eqM (callW F__law_draw (consA (varE 0) (consA (cstE (.int 2)) (nilA)))) (cstE (.int 0)))) (varE 11) [11]) (rE n (some (.d (.int L))) x2 x3 x4 x5 (some (.d (tx cs))) x7 x8 x9 x10) st1 = .ok (.nx (rE n (some (.d (.int L))) x2 x3 x4 x5 (some (.d (tx cs))) (some (.d (.lst (zs.map D.str)))) x8 x9 x10)) st2 := by
    exact set_ok (lc_ok it hz6 e2)
  have s3 : setS 8 (callW F__law_view (consA (varE 1) (consA (varE 6) (consA (varE 7) (nilA))))) (rE n (some (.d (.int L))) x2 x3 x4 x5 (some (.d (tx cs))) (some (.d (.lst (zs.map D.str)))) x8 x9 x10) st2 = .ok (.nx (rE n (some (.d (.int L))) x2 x3 x4 x5 (some (.d (tx cs))) (some (.d (.lst (zs.map D.str)))) (some (.d (vwD L cs zs))) x9 x10)) st2 := by
    simp [e3]
  have s4 : forS (anyI (callW F__law_bent_view (consA (varE 0) (consA (varE 8) (nilA))))) (nameG 3) rr6b (rE n (some (.d (.int L))) x2 x3 x4 x5 (some (.d (tx cs))) (some (.d (.lst (zs.map D.str)))) (some (.d (vwD L cs zs))) x9 x10) st2 = .ok (.nx (rE n (some (.d (.int L))) x2 z3 x4 x5 (some (.d (tx cs))) (some (.d (.lst (zs.map D.str)))) (some (.d (vwD L cs zs))) z9 z10)) st4 := by
    have it : anyI (callW F__law_bent_view (consA (varE 0) (consA (varE 8) (nilA)))) (rE n (some (.d (.int L))) x2 x3 x4 x5 (some (.d (tx cs))) (some (.d (.lst (zs.map D.str)))) (some (.d (vwD L cs zs))) x9 x10) st2 = .ok bs st4 := by
      have e4' : F__law_bent_view [.ref n, vwD L cs zs] st2 = _ := e4
      simp [e4']
    rw [forS_run, bind_run, it]
    exact e5
  have s5 : forS (anyI (callW F__law_fillings (consA (varE 0) (consA (varE 1) (consA (varE 6) (nilA)))))) (nameG 3) rr6c (rE n (some (.d (.int L))) x2 z3 x4 x5 (some (.d (tx cs))) (some (.d (.lst (zs.map D.str)))) (some (.d (vwD L cs zs))) z9 z10) st4 = .ok (.nx (rE n (some (.d (.int L))) x2 w3 x4 x5 (some (.d (tx cs))) (some (.d (.lst (zs.map D.str)))) (some (.d (vwD L cs zs))) w9 z10)) st6 := by
    have it : anyI (callW F__law_fillings (consA (varE 0) (consA (varE 1) (consA (varE 6) (nilA))))) (rE n (some (.d (.int L))) x2 z3 x4 x5 (some (.d (tx cs))) (some (.d (.lst (zs.map D.str)))) (some (.d (vwD L cs zs))) z9 z10) st4 = .ok fs st6 := by
      simp [e6]
    rw [forS_run, bind_run, it]
    exact e7
  show seqS _ _ (rE n (some (.d (.int L))) x2 x3 x4 x5 x6 x7 x8 x9 x10) st = _
  rw [seq_nx s1, seq_nx s2, seq_nx s3, seq_nx s4, s5]
theorem loop_6 (n : Nat) {L : Int} (h1 : 1 ≤ L) (h4 : L ≤ 4) (x2 x4 : Option EV) : ∀ (xs : List D) (x3 x5 x6 x7 x8 x9 x10 : Option EV) (st : Sto), Pot n st → ∃ st' y3 y5 y6 y7 y8 y9 y10, forL (nameG 5) rr6d xs (rE n (some (.d (.int L))) x2 x3 x4 x5 x6 x7 x8 x9 x10) st = .ok (.nx (rE n (some (.d (.int L))) x2 y3 x4 y5 y6 y7 y8 y9 y10)) st' ∧ Pot n st'
  | [], x3, x5, x6, x7, x8, x9, x10, st, hp => ⟨st, x3, x5, x6, x7, x8, x9, x10, rfl, hp⟩
  | d :: xs, x3, x5, x6, x7, x8, x9, x10, st, hp => by
    obtain ⟨st1, y3, y6, y7, y8, y9, y10, e, p1⟩ := rr6d_go n h1 h4 x2 x3 x4 (some (.d d)) x6 x7 x8 x9 x10 st hp
    obtain ⟨st2, z3, z5, z6, z7, z8, z9, z10, ih, p2⟩ := loop_6 n h1 h4 x2 x4 xs y3 (some (.d d)) y6 y7 y8 y9 y10 st1 p1
    refine ⟨st2, z3, z5, z6, z7, z8, z9, z10, ?_, p2⟩
    rw [forL_cons _ _ _ _ _ _ _ rfl]
    simp only [bind_run, List.set_cons_succ, List.set_cons_zero, e, ih]
theorem rows_nice (s : Nat) : ∀ (ts : List (Option (List Nat))) (k : Nat), (∀ t ∈ ts, ∀ cs, t = some cs → cs.length ≤ 30) → k + ts.length ≤ 30 → ∀ r ∈ rowsO s k ts, niceR r
  | [], k, _, _, r, hr => by simp [rowsO] at hr
  | t :: ts, k, h, hk, r, hr => by
    simp only [List.length_cons] at hk
    have ih := rows_nice s ts (k + 1) (fun x hx => h x (by simp [hx])) (by omega)
    unfold rowsO at hr
    split at hr
    · exact ih r hr
    · simp only [List.mem_cons] at hr
      rcases hr with rfl | hr
      · refine ⟨_, _, rfl, by omega, by omega, _, rfl, ?_, fun y hy => ?_⟩
        · cases t with
          | none => simp [plsO]
          | some cs =>
            have a := h _ (by simp) cs rfl
            have b := posN_len s cs 0
            simp [plsO]; omega
        · obtain ⟨i, hi, rfl⟩ := List.mem_map.mp hy
          cases t with
          | none => simp [plsO] at hi
          | some cs =>
            have a := h _ (by simp) cs rfl
            have b := posN_mem s cs 0 i hi
            exact ⟨_, rfl, by omega, by omega⟩
      · exact ih r hr
theorem postS_of {L : Int} (h1 : 1 ≤ L) (h4 : L ≤ 4) (ts : List (Option (List Nat))) (hl : ts.length ≤ 5) (ht : ∀ t ∈ ts, ∀ cs, t = some cs → cs.length ≤ 30) : PostS L (ts.map lenO) (lsts (lets L) ts) := by
  refine ⟨h1, h4, by simpa using hl, fun x hx => ?_, by rw [show (lsts (lets L) ts).length = (lets L).length by simp [lsts]]; exact lets_len h1 h4, fun x hx => ?_⟩
  · obtain ⟨t, hm, rfl⟩ := List.mem_map.mp hx
    cases t with
    | none => exact .inl rfl
    | some cs =>
      have := ht _ hm cs rfl
      exact .inr ⟨_, rfl, by omega, by omega⟩
  · obtain ⟨s, hs, rfl⟩ := List.mem_map.mp hx
    have := rowsO_len s ts 0
    exact ⟨_, rfl, by omega, rows_nice s ts 0 ht (by omega)⟩
theorem rep_a (m : Nat) (h : m ≤ 100) (st : Sto) : mulA (.lst [.str "a"]) (.int (m : Int)) st = .ok (.lst ((List.replicate m (some [97])).map texD)) st := by
  have r : repOk 1 (m : Int) := ⟨by omega, by omega, by rw [Int.toNat_natCast]; exact szl2 (by omega)⟩
  have ea : (D.str "a") = texD (some [97]) := by
    have : ("a" : Str) = ⟨#[97]⟩ := by decide +kernel
    simp [texD, tx, this]
  have f : (List.replicate m [D.str "a"]).flatten = (List.replicate m (some [97])).map texD := by
    rw [ea, List.flatten_replicate_singleton, List.map_replicate]
  simp [mulA, mulM, r, f]
theorem nine_no : ∀ L : Int, 1 ≤ L → L ≤ 4 → postOk (postD L (List.replicate 9 (some [97]))) = false ∧ postOk (postD L (List.replicate 8 (some [97]))) = true := fun L h1 h4 => by
  rcases four h1 h4 with rfl | rfl | rfl | rfl <;> exact ⟨by decide +kernel, by decide +kernel⟩
theorem nine_nice : ∀ L : Int, 1 ≤ L → L ≤ 4 → nice [9, 9, 9, 9, 9] (postD L (List.replicate 9 (some [97]))) = true ∧ nice [9, 9, 9, 9, 9] (postD L (List.replicate 8 (some [97]))) = true := fun L h1 h4 => by
  rcases four h1 h4 with rfl | rfl | rfl | rfl <;> exact ⟨by decide +kernel, by decide +kernel⟩
theorem is_nine (L : Int) (h1 : 1 ≤ L) (h4 : L ≤ 4) (st : Sto) : F_is_postings [postD L (List.replicate 9 (some [97]))] st = .ok (.bl false) st ∧ F_is_postings [postD L (List.replicate 8 (some [97]))] st = .ok (.bl true) st := by
  have s9 : sml [9, 9, 9, 9, 9] := by unfold sml; decide
  obtain ⟨n1, n2⟩ := nine_nice L h1 h4
  obtain ⟨o1, o2⟩ := nine_no L h1 h4
  have e1 := F_is_postings_run s9 (by decide) _ st n1
  have e2 := F_is_postings_run s9 (by decide) _ st n2
  rw [o1] at e1
  rw [o2] at e2
  exact ⟨e1, e2⟩
theorem ne_ft (st : Sto) : neM (.lst [.bl false, .bl true]) (.lst [.bl false, .bl true]) st = .ok (.bl false) st := by rfl
theorem F_right_go (n : Nat) : Go n (F__law_right [.ref n]) (fun d => d = .bl true) := fun st hp => by
  obtain ⟨_, st1, e1, p1, k, rfl, k0, k1⟩ := F_draw_go n 4 (by omega) (by omega) st hp
  have h1 : 1 ≤ 1 + k := by omega
  have h4 : 1 + k ≤ 4 := by omega
  generalize hL : 1 + k = L at h1 h4
  obtain ⟨_, st2, e2, p2, ts0, rfl, tl, ht⟩ := F_texts_go n L 5 6 h1 h4 (by omega) (by omega) (by omega) (by omega) st1 p1
  obtain ⟨ts, rfl, hts⟩ : ∃ ts : List (Option (List Nat)), ts0 = ts.map texD ∧ ∀ t ∈ ts, ∀ cs, t = some cs → cs.length ≤ 30 := by
    refine ex_map ts0 fun y hy => ?_
    rcases ht y hy with rfl | ⟨cs, rfl, hl, _⟩
    · exact ⟨none, rfl, fun cs h => by cases h⟩
    · exact ⟨some cs, rfl, fun cs' h => by cases h; omega⟩
  have hlt : ts.length ≤ 5 := by simp at tl; omega
  have big : ∀ t ∈ ts, ∀ cs, t = some cs → cs.length ≤ 1000 := fun t h cs e => by have := hts t h cs e; omega
  have e3 := F_postings_make L h1 h4 ts big (by omega) st2
  have ps := postS_of h1 h4 ts hlt hts
  obtain ⟨_, st4, e4, p4, bs, rfl, hb⟩ := F_bent_go n L _ _ ps st2 p2
  obtain ⟨y3, y9, y10, e5⟩ := loop_r3 n (some (.d (.int L))) (some (.d (postD L ts))) none none none none none st4 bs hb none none none
  have r9 := rep_a 9 (by omega) st4
  have r8 := rep_a 8 (by omega) st4
  have m9 := F_postings_make L h1 h4 (List.replicate 9 (some [97])) (fun t h cs e => by rw [List.eq_of_mem_replicate h] at e; cases e; simp) (by simp) st4
  have m8 := F_postings_make L h1 h4 (List.replicate 8 (some [97])) (fun t h cs e => by rw [List.eq_of_mem_replicate h] at e; cases e; simp) (by simp) st4
  obtain ⟨i9, i8⟩ := is_nine L h1 h4 st4
  obtain ⟨st5, z3, z5, z6, z7, z8, z9, z10, e6, p5⟩ := loop_6 n h1 h4 (some (.d (postD L ts))) (some (.d (postD L (List.replicate 9 (some [97]))))) [.int 0, .int 1, .int 2] y3 none none none none y9 y10 st4 p4
  have l1 : 1 ≤ sizeLine := by decide
  have l2 : 2 ≤ sizeLine := by decide
  have s1 : rr1 (rE n none none none none none none none none none none) st = .ok (.nx (rE n (some (.d (.int L))) none none none none none none none none none)) st1 := by
    subst hL
    simp [e1]
  have s2 : rr2 (rE n (some (.d (.int L))) none none none none none none none none none) st1 = .ok (.nx (rE n (some (.d (.int L))) (some (.d (postD L ts))) none none none none none none none none)) st2 := by
    simp only [setS_run, bind_run, callW_run, consA_run, nilA_run, varE_run, cstE_run, List.getElem?_cons_zero, List.getElem?_cons_succ, pure_run, e2, e3, List.set_cons_zero, List.set_cons_succ]
  have s3 : rr3 (rE n (some (.d (.int L))) (some (.d (postD L ts))) none none none none none none none none) st2 = .ok (.nx (rE n (some (.d (.int L))) (some (.d (postD L ts))) y3 none none none none none y9 y10)) st4 := by
    have it : anyI (callW F__law_bent (consA (varE 0) (consA (varE 2) (nilA)))) (rE n (some (.d (.int L))) (some (.d (postD L ts))) none none none none none none none none) st2 = .ok bs st4 := by
      have e4' : F__law_bent [.ref n, postD L ts] st2 = _ := e4
      simp only [anyI_run, bind_run, callW_run, consA_run, nilA_run, varE_run, List.getElem?_cons_zero, List.getElem?_cons_succ, pure_run, e4', itM_lst]
    show forS _ _ _ _ st2 = _
    rw [forS_run, bind_run, it]
    exact e5
  have s4 : rr4 (rE n (some (.d (.int L))) (some (.d (postD L ts))) y3 none none none none none y9 y10) st4 = .ok (.nx (rE n (some (.d (.int L))) (some (.d (postD L ts))) y3 (some (.d (postD L (List.replicate 9 (some [97]))))) none none none none y9 y10)) st4 := by
    have r9' : mulA (.lst [.str "a"]) (.int 9) st4 = _ := r9
    simp only [setS_run, bind_run, callW_run, consA_run, nilA_run, varE_run, cstE_run, binE_run, lstE_run, List.getElem?_cons_zero, List.getElem?_cons_succ, pure_run, ite_run, List.length_cons, List.length_nil, Nat.zero_add, if_pos l1, r9', m9, List.set_cons_zero, List.set_cons_succ]
  have s5 : rr5 (rE n (some (.d (.int L))) (some (.d (postD L ts))) y3 (some (.d (postD L (List.replicate 9 (some [97]))))) none none none none y9 y10) st4 = .ok (.nx (rE n (some (.d (.int L))) (some (.d (postD L ts))) y3 (some (.d (postD L (List.replicate 9 (some [97]))))) none none none none y9 y10)) st4 := by
    have r8' : mulA (.lst [.str "a"]) (.int 8) st4 = _ := r8
    simp only [ifS_run, bind_run, callW_run, consA_run, nilA_run, varE_run, cstE_run, binE_run, tstE_run, lstE_run, List.getElem?_cons_zero, List.getElem?_cons_succ, pure_run, ite_run, List.length_cons, List.length_nil, Nat.zero_add, if_pos l1, if_pos l2, r8', m8, i9, i8, ne_ft, boolD_bl, nxtS_run, Bool.false_eq_true, if_false]
  have s6 : rr6 (rE n (some (.d (.int L))) (some (.d (postD L ts))) y3 (some (.d (postD L (List.replicate 9 (some [97]))))) none none none none y9 y10) st4 = .ok (.nx (rE n (some (.d (.int L))) (some (.d (postD L ts))) z3 (some (.d (postD L (List.replicate 9 (some [97]))))) z5 z6 z7 z8 z9 z10)) st5 := by
    rw [rr6_eq]
    have it : rngI1 (consA (cstE (.int 3)) (nilA)) (rE n (some (.d (.int L))) (some (.d (postD L ts))) y3 (some (.d (postD L (List.replicate 9 (some [97]))))) none none none none y9 y10) st4 = .ok [.int 0, .int 1, .int 2] st4 := rfl
    rw [forS_run, bind_run, it]
    exact e6
  refine ⟨.bl true, st5, ?_, p5, rfl⟩
  refine run_rt rfl ?_
  rw [rr_eq]
  show seqS _ _ (rE n none none none none none none none none none none) st = _
  rw [seq_nx s1, seq_nx s2, seq_nx s3, seq_nx s4, seq_nx s5, seq_nx s6]
  rfl
theorem F_pot_run (ns : List Int) (k : Int) (k0 : 0 ≤ k) (k1 : k ≤ 1000) (st : Sto) : ∃ a b : Int, F__law_pot [.frl (ns.map D.int), .int k] st = .ok (.ref st.length) (st ++ [some (.lst [.int a, .int b])]) ∧ 0 ≤ a ∧ 0 ≤ b ∧ b < 2147483564 := by
  obtain ⟨c, hc⟩ : ∃ c : Int, iteE (tstE (binE ltM (varE 1) (biE lenM (consA (varE 0) (nilA))))) (biE absM (consA (binE ixM (varE 0) (varE 1)) (nilA))) (binE addM (binE mulA (cstE (.int 2239)) (varE 1)) (cstE (.int 1579))) [some (.d (.frl (ns.map D.int))), some (.d (.int k)), none] st = .ok (.int c) st := by
    by_cases h : k < ns.length
    · obtain ⟨d, hd, hm⟩ := at_ok (ns.map D.int) k k0 (by simpa using h)
      obtain ⟨i, _, rfl⟩ := List.mem_map.mp hm
      exact ⟨_, by simp [lenM, h, ixM, hd, absM]; rfl⟩
    · have cm : L2.CMul 2239 k := .inl ⟨by omega, by omega⟩
      exact ⟨2239 * k + 1579, by simp [lenM, h, mulA, mulM, cm]⟩
  have cp : L2.CPow 10 18 := ⟨by omega, by omega, by decide⟩
  have q0 : 0 ≤ c % 2147483549 := Int.emod_nonneg _ (by omega)
  have q1 : c % 2147483549 < 2147483549 := Int.emod_lt_of_pos _ (by omega)
  have cm1 : L2.CMul (c % 2147483549) 40014 := .inr ⟨by omega, by omega⟩
  have cm2 : L2.CMul 16007 k := .inl ⟨by omega, by omega⟩
  have l2 : 2 ≤ sizeLine := by decide
  have w0 := Int.emod_nonneg (c % 2147483549 * 40014 + 16007 * k + 937) (show (2147483563 : Int) ≠ 0 by omega)
  have w1 := Int.emod_lt_of_pos (c % 2147483549 * 40014 + 16007 * k + 937) (show (0 : Int) < 2147483563 by omega)
  refine ⟨if c - 10 ^ 18 > 0 then c - 10 ^ 18 else 0, (c % 2147483549 * 40014 + 16007 * k + 937) % 2147483563 + 1, ?_, by split <;> omega, by omega, by omega⟩
  have s1 : setS 2 (iteE (tstE (binE ltM (varE 1) (biE lenM (consA (varE 0) (nilA))))) (biE absM (consA (binE ixM (varE 0) (varE 1)) (nilA))) (binE addM (binE mulA (cstE (.int 2239)) (varE 1)) (cstE (.int 1579)))) [some (.d (.frl (ns.map D.int))), some (.d (.int k)), none] st = .ok (.nx [some (.d (.frl (ns.map D.int))), some (.d (.int k)), some (.d (.int c))]) st := set_ok hc
  refine run_rt rfl ?_
  show seqS _ _ [some (.d (.frl (ns.map D.int))), some (.d (.int k)), none] st = _
  rw [seq_nx s1]
  simp [powM, cp, maxM, intM, modM, mulA, mulM, cm1, cm2, l2, mkB]
theorem lc_law (ns : List Int) : ∀ (ks : List D), (∀ d ∈ ks, ∃ k : Int, d = .int k ∧ 0 ≤ k ∧ k ≤ 1000) → ∀ st, ∃ st', lcL (nameG 1) yesT (callW F__law_right (consA (callW F__law_pot (consA (varE 0) (consA (varE 1) (nilA)))) (nilA))) [some (.d (.frl (ns.map D.int))), none] ks st = .ok (ks.map fun _ => .bl true) st'
  | [], _, st => ⟨st, rfl⟩
  | d :: ks, h, st => by
    obtain ⟨k, rfl, k0, k1⟩ := h d (by simp)
    obtain ⟨a, b, e1, a0, b0, b1⟩ := F_pot_run ns k k0 k1 st
    have pot : Pot st.length (st ++ [some (.lst [.int a, .int b])]) := ⟨a, b, by simp, a0, b0, b1⟩
    obtain ⟨_, st2, e2, _, rfl⟩ := F_right_go st.length _ pot
    obtain ⟨st3, e3⟩ := lc_law ns ks (fun x hx => h x (by simp [hx])) st2
    exact ⟨st3, by simp [lcL, yesT, e1, e2, e3]⟩
theorem plain (ns : List Int) (_ : ns.length ≤ 63) : (F_law [.frl (ns.map D.int)] []).wp (fun d _ => d = .bl true) fun _ _ => False := by
  obtain ⟨m, hm, m0, m1⟩ : ∃ m : Int, biE maxM (consA (cstE (.int 1)) (consA (biE minM (consA (cstE (.int 2)) (consA (biE lenM (consA (varE 0) (nilA))) (nilA)))) (nilA))) [some (.d (.frl (ns.map D.int))), none] [] = .ok (.int m) [] ∧ 0 ≤ m ∧ m ≤ 2 := by
    refine ⟨_, by simp [lenM, minM, maxM]; rfl, ?_, ?_⟩ <;> (repeat' split) <;> omega
  have sm : small m := small_of (by omega) (by omega)
  have hks : ∀ d ∈ rngD 0 m.toNat, ∃ k : Int, d = .int k ∧ 0 ≤ k ∧ k ≤ 1000 := fun d hd => by
    unfold rngD at hd
    obtain ⟨i, hi, rfl⟩ := List.mem_map.mp hd
    have := List.mem_range.mp hi
    exact ⟨_, rfl, by omega, by omega⟩
  obtain ⟨st', e⟩ := lc_law ns (rngD 0 m.toNat) hks []
  have hl : (rngD 0 m.toNat).length ≤ sizeLine := by rw [show (rngD 0 m.toNat).length = m.toNat by simp [rngD]]; exact szl2 (by omega)
  have it : rngI1 (consA (biE maxM (consA (cstE (.int 1)) (consA (biE minM (consA (cstE (.int 2)) (consA (biE lenM (consA (varE 0) (nilA))) (nilA)))) (nilA)))) (nilA)) [some (.d (.frl (ns.map D.int))), none] [] = .ok (rngD 0 m.toNat) [] := by
    rw [rngI1_run, bind_run, consA_run, bind_run, hm]
    simp [rngM1, sm]
  have e2 := lc_ok (vs := [1]) it hl (show lcL _ _ _ (wipeE [some (.d (.frl (ns.map D.int))), none] [1]) _ [] = _ from e)
  have ea : allM [.lst ((rngD 0 m.toNat).map fun _ => .bl true)] st' = .ok (.bl true) st' := by
    have := allM_map (fun _ => true) (rngD 0 m.toNat) st'
    rw [this]
    simp
  have er : F_law [.frl (ns.map D.int)] [] = .ok (.bl true) st' := by
    refine run_rt rfl (ret_ok ?_)
    show biE allM (consA _ nilA) [some (.d (.frl (ns.map D.int))), none] [] = _
    rw [biE_run, bind_run, consA_run, bind_run, e2]
    exact ea
  rw [er]
  rfl
end Dd
theorem PySem.Challenge.cw_tellindex_k76_any_value_as_postings_or_v_holds : PySem.Challenge.rw_tellindex_k76_any_value_as_postings_or_v.Holds := by
  exact holds_of Dd.plain
