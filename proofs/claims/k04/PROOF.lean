import PyProof.Rows.All
import Wide.All
import OpenK.AllK
import Wide.FinOn
import HandS.ForExc
import HandS.Comp
import HandS.Lambda
import HandS.ExcInit
import HandS.ExcField
import HandS.Wide
import HandS.TryMany
import HandS.IsInst
import HandS.TupAny
import HandS.TupMul
import HandS.Iter
import HandS.Flow
import HandS.DeepEq
import HandS.Deep
import HandS.EndTab
import HandS.CallSlots
import HandS.Defaults
import HandS.HeadHook4
import HandS.HeadWalk
import HandS.Head0
import HandS.Head1
import HandS.Head2
import PySem.Challenge.RW_answersstacked_k04_changes_swapped
set_option Elab.async false
set_option linter.all false
set_option maxRecDepth 100000
set_option maxHeartbeats 1000000
/-! T1: values as trees, the store of cells, worlds, what stands for what. -/
namespace TL
open PySem PySem.Spec PyProof.Rows L2

/-- a value as a tree: tuples and lists that nobody changes any more lie open; a ref is a cell of the store -/
inductive D where
  | non | bl (b : Bool) | int (i : Int) | str (s : Str) | tup (l : List D) | lst (l : List D) | klst (l : List D) | ref (a : Addr)

inductive Cell where
  | lst (l : List D)

abbrev Store := Addr → Option Cell
def Store.upd (S : Store) (a : Addr) (c : Cell) : Store := fun b => if b = a then some c else S b
theorem Store.upd_same {S : Store} {a : Addr} {c : Cell} : S.upd a c a = some c := if_pos rfl
theorem Store.upd_ne {S : Store} {a b : Addr} {c : Cell} (h : b ≠ a) : S.upd a c b = S b := if_neg h
theorem Store.upd_upd {S : Store} {a : Addr} {c d : Cell} : (S.upd a c).upd a d = S.upd a d := by
  funext b; unfold Store.upd; split <;> rfl

/-- F: the lists that nobody changes any more; S: the cells; H: what is tracked -/
structure Wd where
  F : Addr → Prop
  S : Store
  H : Hp

abbrev KF := PySem.W.Frag
/-- a list that is locked, or of the module -/
def KnL (K : KF) (F : Addr → Prop) (H : Hp) (a : Addr) (vs : List V) : Prop :=
  ((∃ o, H a = some (.frz o (.lst vs))) ∨ (F a ∧ H a = some (.lst vs))) ∨
    ∃ (o : Obj) (its : Array Value) (n : Nat), K.lookup a = some o ∧ o.cls = .type "list" ∧ o.dict = none ∧ o.data = .seq its n ∧ its.size ≤ sizeLine ∧ Vals vs its.toList
theorem KnL.sq {K : KF} {F : Addr → Prop} {H : Hp} {a : Addr} {vs : List V} (h : KnL K F H a vs) : SqL K H a vs := by
  rcases h with (h | h) | h
  · exact .inl (.inr h)
  · exact .inl (.inl h.2)
  · exact .inr h
theorem KnL.of {K : KF} {F : Addr → Prop} {H : Hp} {a : Addr} {vs : List V} (h : SqL K H a vs) (n : F a) : KnL K F H a vs := by
  rcases h with (h | h) | h
  · exact .inl (.inr ⟨n, h⟩)
  · exact .inl (.inl h)
  · exact .inr h
theorem KnL.map {K : KF} {F F' : Addr → Prop} {H H' : Hp} {a : Addr} {vs : List V} (h : KnL K F H a vs) (hf : ∀ o, H a = some (.frz o (.lst vs)) → H' a = some (.frz o (.lst vs))) (hl : F a ∧ H a = some (.lst vs) → F' a ∧ H' a = some (.lst vs)) : KnL K F' H' a vs := by
  rcases h with (⟨o, h⟩ | h) | h
  · exact .inl (.inl ⟨o, hf o h⟩)
  · exact .inl (.inr (hl h))
  · exact .inr h

mutual
def RD (K : KF) (F : Addr → Prop) (H : Hp) : D → V → Prop
  | .non, v => v = .non
  | .bl b, v => v = .bl b
  | .int i, v => v = .int i
  | .str s, v => v = .str s
  | .tup ds, v => ∃ a vs, v = .ref a ∧ SqT K H a vs ∧ RDs K F H ds vs
  | .lst ds, v => ∃ a vs, v = .ref a ∧ (F a ∧ H a = some (.lst vs)) ∧ RDs K F H ds vs
  | .klst ds, v => ∃ a vs, v = .ref a ∧ KnL K F H a vs ∧ RDs K F H ds vs
  | .ref a, v => v = .ref a
def RDs (K : KF) (F : Addr → Prop) (H : Hp) : List D → List V → Prop
  | [], vs => vs = []
  | d :: ds, vs => ∃ v r, vs = v :: r ∧ RD K F H d v ∧ RDs K F H ds r
end

section
variable {K : KF} {F : Addr → Prop} {H : Hp}
theorem RDs.length : ∀ {ds : List D} {vs : List V}, RDs K F H ds vs → vs.length = ds.length
  | [], vs, h => by have h : vs = [] := h; subst h; rfl
  | d :: ds, vs, h => by
    obtain ⟨v, r, rfl, _, h2⟩ := (show ∃ v r, vs = v :: r ∧ RD K F H d v ∧ RDs K F H ds r from h)
    simp [RDs.length h2]
theorem RDs.nil : RDs K F H [] [] := rfl
theorem RDs.cons {d : D} {ds : List D} {v : V} {r : List V} (h : RD K F H d v) (h2 : RDs K F H ds r) : RDs K F H (d :: ds) (v :: r) := ⟨v, r, rfl, h, h2⟩
theorem RDs.nil_iff {vs : List V} : RDs K F H [] vs ↔ vs = [] := Iff.rfl
theorem RDs.cons_iff {d : D} {ds : List D} {vs : List V} : RDs K F H (d :: ds) vs ↔ ∃ v r, vs = v :: r ∧ RD K F H d v ∧ RDs K F H ds r := Iff.rfl
theorem RDs.get : ∀ {ds : List D} {vs : List V} {i : Nat} {d : D}, RDs K F H ds vs → ds[i]? = some d → ∃ v, vs[i]? = some v ∧ RD K F H d v
  | [], _, _, _, _, e => by simp at e
  | d :: ds, vs, 0, d', h, e => by
    obtain ⟨v, r, rfl, h1, _⟩ := RDs.cons_iff.mp h
    simp at e; subst e; exact ⟨v, rfl, h1⟩
  | d :: ds, vs, i + 1, d', h, e => by
    obtain ⟨v, r, rfl, _, h2⟩ := RDs.cons_iff.mp h
    obtain ⟨v', e1, e2⟩ := RDs.get (i := i) h2 (by simpa using e)
    exact ⟨v', by simpa using e1, e2⟩
theorem RDs.get' : ∀ {ds : List D} {vs : List V} {i : Nat} {v : V}, RDs K F H ds vs → vs[i]? = some v → ∃ d, ds[i]? = some d ∧ RD K F H d v
  | [], vs, _, _, h, e => by
    have h : vs = [] := h
    subst h; simp at e
  | d :: ds, vs, 0, v', h, e => by
    obtain ⟨v, r, rfl, h1, _⟩ := RDs.cons_iff.mp h
    simp at e; subst e; exact ⟨d, rfl, h1⟩
  | d :: ds, vs, i + 1, v', h, e => by
    obtain ⟨v, r, rfl, _, h2⟩ := RDs.cons_iff.mp h
    obtain ⟨d', e1, e2⟩ := RDs.get' (i := i) h2 (by simpa using e)
    exact ⟨d', by simpa using e1, e2⟩
theorem RDs.append : ∀ {ds es : List D} {vs us : List V}, RDs K F H ds vs → RDs K F H es us → RDs K F H (ds ++ es) (vs ++ us)
  | [], _, vs, _, h, h2 => by
    have h : vs = [] := h
    subst h; exact h2
  | d :: ds, es, vs, us, h, h2 => by
    obtain ⟨v, r, rfl, h1, h3⟩ := RDs.cons_iff.mp h
    exact RDs.cons h1 (RDs.append h3 h2)
theorem RDs.take : ∀ (n : Nat) {ds : List D} {vs : List V}, RDs K F H ds vs → RDs K F H (ds.take n) (vs.take n)
  | 0, _, _, _ => rfl
  | n + 1, [], vs, h => by
    have h : vs = [] := h
    subst h; rfl
  | n + 1, d :: ds, vs, h => by
    obtain ⟨v, r, rfl, h1, h3⟩ := RDs.cons_iff.mp h
    exact RDs.cons h1 (RDs.take n h3)
theorem RDs.drop : ∀ (n : Nat) {ds : List D} {vs : List V}, RDs K F H ds vs → RDs K F H (ds.drop n) (vs.drop n)
  | 0, _, _, h => h
  | n + 1, [], vs, h => by
    have h : vs = [] := h
    subst h; rfl
  | n + 1, d :: ds, vs, h => by
    obtain ⟨v, r, rfl, h1, h3⟩ := RDs.cons_iff.mp h
    exact RDs.drop n h3
theorem RDs.set : ∀ {ds : List D} {vs : List V} (i : Nat) {d : D} {v : V}, RD K F H d v → RDs K F H ds vs → RDs K F H (ds.set i d) (vs.set i v)
  | [], vs, i, d, v, _, h => by
    have h : vs = [] := h
    subst h; rfl
  | d :: ds, vs, 0, d', v', q, h => by
    obtain ⟨v, r, rfl, h1, h3⟩ := RDs.cons_iff.mp h
    exact RDs.cons q h3
  | d :: ds, vs, i + 1, d', v', q, h => by
    obtain ⟨v, r, rfl, h1, h3⟩ := RDs.cons_iff.mp h
    exact RDs.cons h1 (RDs.set i q h3)
theorem RDs.reverse : ∀ {ds : List D} {vs : List V}, RDs K F H ds vs → RDs K F H ds.reverse vs.reverse
  | [], vs, h => by
    have h : vs = [] := h
    subst h; rfl
  | d :: ds, vs, h => by
    obtain ⟨v, r, rfl, h1, h3⟩ := RDs.cons_iff.mp h
    simp only [List.reverse_cons]
    exact RDs.append (RDs.reverse h3) (RDs.cons h1 RDs.nil)
end

/-- the tables of the text's code objects, as they grow -/
abbrev Tb := List (Addr × Str)
/-- what holds of a world: each cell is a list of its items that is not told to stay; the code tables stand -/
structure Ok (K : KF) (T : Tb) (w : Wd) : Prop where
  cell : ∀ a ds, w.S a = some (.lst ds) → ∃ vs, w.H a = some (.lst vs) ∧ RDs K w.F w.H ds vs ∧ ¬ w.F a
  tabs : LamX.Tabs T w.H
  fh : ∀ a, w.F a → ∃ vs, w.H a = some (.lst vs)

/-- nothing is tracked there, or a code table -/
def Nw (H : Hp) (a : Addr) : Prop := ∀ o, H a = some o → ∃ ps, o = .tbl ps
theorem Nw.of {H : Hp} {a : Addr} (h : H a = none) : Nw H a := fun o e => by rw [h] at e; cases e
theorem Nw.ne {H : Hp} {a b : Addr} {o : HO} (h : Nw H a) (e : H b = some o) (n : ∀ ps, o ≠ .tbl ps) : b ≠ a := fun z => by
  subst z
  obtain ⟨ps, q⟩ := h o e
  exact n ps q
/-- later: what was tracked and is no cell and no table stands -/
structure Le (w w' : Wd) : Prop where
  fz : ∀ a, w.F a → w'.F a
  fr : ∀ a, w'.F a → w.F a ∨ Nw w.H a
  hp : ∀ a o, w.H a = some o → w.S a = none → (∀ ps, o ≠ .tbl ps) → w'.H a = some o ∧ w'.S a = none
  st : ∀ a, w.S a ≠ none → w'.S a ≠ none
  ex : ∀ a, Nw w'.H a → Nw w.H a

section
variable {K : KF} {T : Tb} {w w' w1 w2 : Wd}
theorem Le.refl : Le w w := ⟨fun _ h => h, fun _ h => .inl h, fun _ _ h s _ => ⟨h, s⟩, fun _ h => h, fun _ h => h⟩
theorem Le.trans (a : Le w w1) (b : Le w1 w2) : Le w w2 where
  fz := fun c h => b.fz c (a.fz c h)
  fr := fun c h => by
    rcases b.fr c h with h | h
    · exact a.fr c h
    · exact .inr (a.ex c h)
  hp := fun c o h s n => by
    obtain ⟨h1, s1⟩ := a.hp c o h s n
    exact b.hp c o h1 s1 n
  st := fun c h => b.st c (a.st c h)
  ex := fun c h => a.ex c (b.ex c h)
theorem Ok.nocell (ok : Ok K T w) {a : Addr} (h : ∀ vs, w.H a ≠ some (.lst vs)) : w.S a = none := by
  cases q : w.S a with
  | none => rfl
  | some c =>
    obtain ⟨l⟩ := c
    obtain ⟨vs, h1, _⟩ := ok.cell a l q
    exact absurd h1 (h vs)
theorem Ok.fnone (ok : Ok K T w) {a : Addr} (h : w.F a) : w.S a = none := by
  cases q : w.S a with
  | none => rfl
  | some c =>
    obtain ⟨l⟩ := c
    obtain ⟨vs, _, _, h3⟩ := ok.cell a l q
    exact absurd h h3
theorem Le.tup (le : Le w w') (ok : Ok K T w) {a : Addr} {vs : List V} (h : SqT K w.H a vs) : SqT K w'.H a vs := by
  rcases h with (h | ⟨o, h⟩) | h
  · exact .inl (.inl (le.hp a _ h (ok.nocell fun vs q => by rw [h] at q; cases q) (fun _ q => by cases q)).1)
  · exact .inl (.inr ⟨o, (le.hp a _ h (ok.nocell fun vs q => by rw [h] at q; cases q) (fun _ q => by cases q)).1⟩)
  · exact .inr h
theorem Le.fzl (le : Le w w') (ok : Ok K T w) {a : Addr} {vs : List V} (h : w.F a ∧ w.H a = some (.lst vs)) : w'.F a ∧ w'.H a = some (.lst vs) :=
  ⟨le.fz a h.1, (le.hp a _ h.2 (ok.fnone h.1) (fun _ q => by cases q)).1⟩
theorem Le.knl (le : Le w w') (ok : Ok K T w) {a : Addr} {vs : List V} (h : KnL K w.F w.H a vs) : KnL K w'.F w'.H a vs :=
  h.map (fun o h => (le.hp a _ h (ok.nocell fun vs q => by rw [h] at q; cases q) (fun _ q => by cases q)).1) (fun h => le.fzl ok h)
mutual
theorem RD.mono {K : KF} {F F' : Addr → Prop} {H H' : Hp} (ht : ∀ a vs, SqT K H a vs → SqT K H' a vs) (hl : ∀ a vs, F a ∧ H a = some (.lst vs) → F' a ∧ H' a = some (.lst vs)) (hk : ∀ a vs, KnL K F H a vs → KnL K F' H' a vs) : ∀ (d : D) {v : V}, RD K F H d v → RD K F' H' d v
  | .non, _, h => h
  | .bl _, _, h => h
  | .int _, _, h => h
  | .str _, _, h => h
  | .tup ds, v, h => by
    obtain ⟨a, vs, e, h1, h2⟩ := (show ∃ a vs, v = .ref a ∧ SqT K H a vs ∧ RDs K F H ds vs from h)
    exact ⟨a, vs, e, ht a vs h1, RDs.mono ht hl hk ds h2⟩
  | .lst ds, v, h => by
    obtain ⟨a, vs, e, h1, h2⟩ := (show ∃ a vs, v = .ref a ∧ (F a ∧ H a = some (.lst vs)) ∧ RDs K F H ds vs from h)
    exact ⟨a, vs, e, hl a vs h1, RDs.mono ht hl hk ds h2⟩
  | .klst ds, v, h => by
    obtain ⟨a, vs, e, h1, h2⟩ := (show ∃ a vs, v = .ref a ∧ KnL K F H a vs ∧ RDs K F H ds vs from h)
    exact ⟨a, vs, e, hk a vs h1, RDs.mono ht hl hk ds h2⟩
  | .ref _, _, h => h
theorem RDs.mono {K : KF} {F F' : Addr → Prop} {H H' : Hp} (ht : ∀ a vs, SqT K H a vs → SqT K H' a vs) (hl : ∀ a vs, F a ∧ H a = some (.lst vs) → F' a ∧ H' a = some (.lst vs)) (hk : ∀ a vs, KnL K F H a vs → KnL K F' H' a vs) : ∀ (ds : List D) {vs : List V}, RDs K F H ds vs → RDs K F' H' ds vs
  | [], _, h => h
  | d :: ds, vs, h => by
    obtain ⟨v, r, e, h1, h2⟩ := RDs.cons_iff.mp h
    exact ⟨v, r, e, RD.mono ht hl hk d h1, RDs.mono ht hl hk ds h2⟩
end
theorem RD.le (le : Le w w') (ok : Ok K T w) {d : D} {v : V} (h : RD K w.F w.H d v) : RD K w'.F w'.H d v :=
  RD.mono (fun _ _ h => le.tup ok h) (fun _ _ h => le.fzl ok h) (fun _ _ h => le.knl ok h) d h
theorem RDs.le (le : Le w w') (ok : Ok K T w) {d : List D} {v : List V} (h : RDs K w.F w.H d v) : RDs K w'.F w'.H d v :=
  RDs.mono (fun _ _ h => le.tup ok h) (fun _ _ h => le.fzl ok h) (fun _ _ h => le.knl ok h) d h
end

section
variable {K : KF} {T : Tb} {w : Wd} {p : Addr}
theorem Ok.fresh (ok : Ok K T w) (h : w.H p = none) : w.S p = none ∧ ¬ w.F p := by
  refine ⟨ok.nocell (fun vs q => by rw [h] at q; cases q), fun z => by
    obtain ⟨vs, e⟩ := ok.fh p z
    rw [h] at e; cases e⟩
/-- a new object is laid -/
theorem Ok.laid (ok : Ok K T w) (h : w.H p = none) (o : HO) : Ok K T { w with H := upd w.H p o } ∧ Le w { w with H := upd w.H p o } := by
  have ne : ∀ {b u}, w.H b = some u → b ≠ p := fun {b u} q e => by rw [e, h] at q; cases q
  have le : Le w { w with H := upd w.H p o } := ⟨fun _ z => z, fun _ z => .inl z, fun a u q s _ => ⟨(upd_ne (ne q)).trans q, s⟩, fun _ z => z, fun a z u q => z u ((upd_ne (ne q)).trans q)⟩
  refine ⟨⟨fun a ds s => ?_, ok.tabs.ext fun b u q => (upd_ne (ne q)).trans q, fun a z => ?_⟩, le⟩
  · obtain ⟨vs, q1, q2, q3⟩ := ok.cell a ds s
    exact ⟨vs, (upd_ne (ne q1)).trans q1, q2.le le ok, q3⟩
  · obtain ⟨vs, e⟩ := ok.fh a z
    exact ⟨vs, (upd_ne (ne e)).trans e⟩
/-- a list that is new is told to stay -/
theorem Ok.frozen (ok : Ok K T w) {vs : List V} (h : w.H p = some (.lst vs)) (s : w.S p = none) {w0 : Wd} (le : Le w0 w) (n : Nw w0.H p) :
    Ok K T { w with F := fun b => w.F b ∨ b = p } ∧ Le w0 { w with F := fun b => w.F b ∨ b = p } ∧ (∀ {d v}, RD K w.F w.H d v → RD K (fun b => w.F b ∨ b = p) w.H d v) ∧ (∀ {d v}, RDs K w.F w.H d v → RDs K (fun b => w.F b ∨ b = p) w.H d v) := by
  have hl : ∀ a vs, w.F a ∧ w.H a = some (.lst vs) → (w.F a ∨ a = p) ∧ w.H a = some (.lst vs) := fun a vs z => ⟨.inl z.1, z.2⟩
  have hk : ∀ a vs, KnL K w.F w.H a vs → KnL K (fun b => w.F b ∨ b = p) w.H a vs := fun a vs z => z.map (fun _ y => y) (hl a vs)
  have md : ∀ {d v}, RD K w.F w.H d v → RD K (fun b => w.F b ∨ b = p) w.H d v := fun {d v} z => RD.mono (fun _ _ z => z) hl hk d z
  have ms : ∀ {d v}, RDs K w.F w.H d v → RDs K (fun b => w.F b ∨ b = p) w.H d v := fun {d v} z => RDs.mono (fun _ _ z => z) hl hk d z
  refine ⟨⟨fun a ds z => ?_, ok.tabs, fun a z => ?_⟩, ⟨fun a z => .inl (le.fz a z), fun a z => ?_, le.hp, le.st, le.ex⟩, md, ms⟩
  · obtain ⟨vs, q1, q2, q3⟩ := ok.cell a ds z
    refine ⟨vs, q1, ms q2, fun y => y.elim q3 fun e => ?_⟩
    subst e
    rw [show w.S a = none from s] at z; cases z
  · rcases z with z | z
    · exact ok.fh a z
    · subst z
      exact ⟨vs, h⟩
  · rcases z with z | z
    · exact le.fr a z
    · subst z
      exact .inr n
end

/-! ### a def's slots -/
inductive SV where
  | un | val (d : D) | own (ds : List D) | exc (cls : Str) (what : D)
abbrev Ro := List SV
/-- RSV: what the slot holds -/
def RSV (K : KF) (w : Wd) : SV → Option V → Prop
  | .un, _ => True
  | .val d, o => ∃ v, o = some v ∧ RD K w.F w.H d v
  | .own ds, o => ∃ a vs, o = some (.ref a) ∧ w.H a = some (.lst vs) ∧ RDs K w.F w.H ds vs ∧ ¬ w.F a ∧ w.S a = none
  | .exc _ _, _ => True
structure RE (K : KF) (w : Wd) (ρ : Ro) (σ : L2.St) : Prop where
  len : ρ.length = σ.length
  at_ : ∀ (i : Nat) sv o, ρ[i]? = some sv → σ[i]? = some o → RSV K w sv o
  one : ∀ (i j : Nat) ds es a, ρ[i]? = some (.own ds) → ρ[j]? = some (.own es) → σ[i]? = some (some (.ref a)) → σ[j]? = some (some (.ref a)) → i = j
section
variable {K : KF} {T : Tb} {w w' : Wd} {ρ : Ro} {σ : L2.St}
theorem RSV.le (le : Le w w') (ok : Ok K T w) {sv : SV} {o : Option V} (h : RSV K w sv o) : RSV K w' sv o := by
  cases sv with
  | un => trivial
  | exc _ _ => trivial
  | val d => obtain ⟨v, e, h⟩ := h; exact ⟨v, e, h.le le ok⟩
  | own ds =>
    obtain ⟨a, vs, e, h1, h2, h3, h4⟩ := h
    obtain ⟨q1, q2⟩ := le.hp a _ h1 h4 (fun _ q => by cases q)
    refine ⟨a, vs, e, q1, h2.le le ok, fun z => ?_, q2⟩
    rcases le.fr a z with z | z
    · exact h3 z
    · exact z.ne h1 (fun _ q => by cases q) rfl
theorem RE.le (le : Le w w') (ok : Ok K T w) (h : RE K w ρ σ) : RE K w' ρ σ := ⟨h.len, fun i sv o e1 e2 => (h.at_ i sv o e1 e2).le le ok, h.one⟩
end
end TL

set_option Elab.async false
set_option linter.all false
set_option maxRecDepth 100000
set_option maxHeartbeats 1000000
/-! T2: readings over trees. -/
namespace TL
open PySem PySem.Spec PyProof.Rows L2

abbrev EK := D → Store → Prop
abbrev TK := Bool → Store → Prop
abbrev AK := List D → Store → Prop
abbrev XKd := Str → D → Store → Prop
/-- an expression, a test, an argument list over slots and store -/
abbrev ME := Ro → Store → EK → XKd → Prop
abbrev MT := Ro → Store → TK → XKd → Prop
abbrev MA := Ro → Store → AK → XKd → Prop
def whatS : Str := "what"

section
variable (X : Cx) (T : Tb) (W : WX)
/-- what holds behind w where the continuation Q of values is wished for -/
def VPost (w : Wd) (Q : VK) : EK := fun d S' => ∀ w' v, w'.S = S' → Ok X.K T w' → Le w w' → RD X.K w'.F w'.H d v → Q v w'.H
def BPost (w : Wd) (Q : Bool → Hp → Prop) : TK := fun b S' => ∀ w', w'.S = S' → Ok X.K T w' → Le w w' → Q b w'.H
def APost (w : Wd) (Q : List V → Hp → Prop) : AK := fun ds S' => ∀ w' vs, w'.S = S' → Ok X.K T w' → Le w w' → RDs X.K w'.F w'.H ds vs → Q vs w'.H
def XPost (w : Wd) (σ : L2.St) : XKd := fun c d S' => ∀ w' C a v, w'.S = S' → Ok X.K T w' → Le w w' → X.mg c = some (.ref C) → w'.H a = some (.xd [(whatS, v)]) → RD X.K w'.F w'.H d v → W (.ref C) (some a) σ w'.H
end
section
variable {X : Cx} {T : Tb} {W : WX} {w w' : Wd}
theorem VPost.le {Q : VK} {d S} (le : Le w w') (h : VPost X T w Q d S) : VPost X T w' Q d S := fun w2 v e ok l r => h w2 v e ok (le.trans l) r
theorem XPost.le {σ c d S} (le : Le w w') (h : XPost X T W w σ c d S) : XPost X T W w' σ c d S := fun w2 C a v e ok l m ha r => h w2 C a v e ok (le.trans l) m ha r
end

/-- the readings of HandS that an m gives -/
def TRe (X : Cx) (T : Tb) (W : WX) (m : ME) : TE := fun σ H Q => ∃ (w : Wd) (ρ : Ro) (Q1 : EK) (E1 : XKd), w.H = H ∧ Ok X.K T w ∧ RE X.K w ρ σ ∧ m ρ w.S Q1 E1 ∧
  (∀ d S', Q1 d S' → VPost X T w Q d S') ∧ (∀ c d S', E1 c d S' → XPost X T W w σ c d S')
def TRt (X : Cx) (T : Tb) (W : WX) (m : MT) : TT := fun σ H Q => ∃ (w : Wd) (ρ : Ro) (Q1 : TK) (E1 : XKd), w.H = H ∧ Ok X.K T w ∧ RE X.K w ρ σ ∧ m ρ w.S Q1 E1 ∧
  (∀ b S', Q1 b S' → BPost X T w Q b S') ∧ (∀ c d S', E1 c d S' → XPost X T W w σ c d S')
def TRa (X : Cx) (T : Tb) (W : WX) (m : MA) : TA := fun σ H Q => ∃ (w : Wd) (ρ : Ro) (Q1 : AK) (E1 : XKd), w.H = H ∧ Ok X.K T w ∧ RE X.K w ρ σ ∧ m ρ w.S Q1 E1 ∧
  (∀ ds S', Q1 ds S' → APost X T w Q ds S') ∧ (∀ c d S', E1 c d S' → XPost X T W w σ c d S')

structure SE (X : Cx) (T : Tb) (W : WX) (e : Expr) (m : ME) : Prop where
  run : PE X e (TRe X T W m)
structure ST (X : Cx) (T : Tb) (W : WX) (e : Expr) (m : MT) : Prop where
  run : PT X e (TRt X T W m)
structure STw (X : Cx) (T : Tb) (W : WX) (e : Expr) (m : MT) : Prop where
  run : PW X e (TRt X T W m)
structure SA (X : Cx) (T : Tb) (W : WX) (es : List Expr) (m : MA) : Prop where
  run : PA X es (TRa X T W m)

/-! ### readings made weaker -/
theorem _root_.L2.PE.tlw {X : Cx} {e : Expr} {t t' : TE} (h : PE X e t) (q : ∀ σ H Q, t' σ H Q → t σ H Q) : PE X e t' := ⟨fun pins s σ H Q I z => h.run pins s σ H Q I (q σ H Q z)⟩
theorem _root_.L2.PT.tlw {X : Cx} {e : Expr} {t t' : TT} (h : PT X e t) (q : ∀ σ H Q, t' σ H Q → t σ H Q) : PT X e t' := ⟨fun pins s σ H Q I z => h.run pins s σ H Q I (q σ H Q z)⟩
theorem _root_.L2.PW.tlw {X : Cx} {e : Expr} {t t' : TT} (h : PW X e t) (q : ∀ σ H Q, t' σ H Q → t σ H Q) : PW X e t' := ⟨fun wh pins s σ H Q I z => h.run wh pins s σ H Q I (q σ H Q z)⟩
theorem _root_.L2.PA.tlw {X : Cx} {e : List Expr} {t t' : TA} (h : PA X e t) (q : ∀ σ H Q, t' σ H Q → t σ H Q) : PA X e t' := ⟨fun pos pins s σ H Q I z => h.run pos pins s σ H Q I (q σ H Q z)⟩
theorem _root_.L2.PS.tlw {X : Cx} {e : Stmt} {t t' : TS} (h : PS X e t) (q : ∀ D σ H, t' D σ H → t D σ H) : PS X e t' := ⟨fun pins s σ H D I z => h.run pins s σ H D I (q D σ H z)⟩
theorem _root_.L2.PSs.tlw {X : Cx} {e : List Stmt} {t t' : TS} (h : PSs X e t) (q : ∀ D σ H, t' D σ H → t D σ H) : PSs X e t' := ⟨fun pins s σ H D I z => h.run pins s σ H D I (q D σ H z)⟩

/-! ### slots -/
def sget : Ro → Nat → SV
  | [], _ => .un
  | a :: _, 0 => a
  | _ :: r, n + 1 => sget r n
def sset : Ro → Nat → SV → Ro
  | [], _, _ => []
  | _ :: r, 0, b => b :: r
  | a :: r, n + 1, b => a :: sset r n b
theorem sget_eq : ∀ {ρ : Ro} {i : Nat} {sv : SV}, sget ρ i = sv → sv ≠ .un → ρ[i]? = some sv
  | [], i, sv, h, n => absurd h.symm n
  | a :: r, 0, sv, h, _ => by simpa [sget] using h
  | a :: r, i + 1, sv, h, n => by simpa using sget_eq (ρ := r) (i := i) h n
theorem sset_eq : ∀ (ρ : Ro) (i : Nat) (sv : SV), sset ρ i sv = ρ.set i sv
  | [], i, sv => by simp [sset]
  | a :: r, 0, sv => rfl
  | a :: r, i + 1, sv => by simp [sset, sset_eq r i sv]
def svK : SV → (D → Prop) → Prop
  | .val d, k => k d
  | _, _ => False
def svKw : SV → (D → Prop) → Prop
  | .val d, k => k d
  | .own ds, k => k (.lst ds)
  | _, _ => False
/-- a name's value -/
def mVar (i : Nat) : ME := fun ρ S Q _ => svK (sget ρ i) fun d => Q d S
def mC (d : D) : ME := fun _ S Q _ => Q d S

section
variable {X : Cx} {T : Tb} {W : WX}
theorem RE.val {K : KF} {w : Wd} {ρ : Ro} {σ : L2.St} (h : RE K w ρ σ) {i : Nat} {d : D} (e : sget ρ i = .val d) : ∃ v, σ[i]? = some (some v) ∧ RD K w.F w.H d v := by
  have e1 := sget_eq e (by simp)
  have hi : i < σ.length := by rw [← h.len]; exact (List.getElem?_eq_some_iff.mp e1).1
  obtain ⟨v, e2, r⟩ := h.at_ i _ σ[i] e1 (List.getElem?_eq_getElem hi)
  exact ⟨v, by rw [List.getElem?_eq_getElem hi, e2], r⟩
theorem s_var (i : Nat) {x : Str} {pos : Pos} (hN : X.N[i]? = some x := by rfl) (hv : Vis X.env.scope x := by first | exact Or.inl rfl | exact Or.inr (Or.inl rfl) | exact Or.inr (Or.inr rfl))
    (hd : (x == ("__debug__" : Str)) = false := by decide) (hcd : (x == ("__classdict__" : Str)) = false := by decide) : SE X T W (.Name x pos) (mVar i) := by
  refine ⟨(pe_var hN hv hd hcd).tlw fun σ H Q h => ?_⟩
  obtain ⟨w, ρ, Q1, E1, rfl, ok, re, h, hq, _⟩ := h
  unfold mVar at h
  cases e : sget ρ i with
  | val d =>
    rw [e] at h
    obtain ⟨v, ev, r⟩ := re.val e
    exact ⟨v, ev, hq _ _ h w v rfl ok .refl r⟩
  | _ => rw [e] at h; exact h.elim
theorem s_const {e : Expr} {d : D} {v : V} (he : PE X e (tC v)) (hr : ∀ F H, RD X.K F H d v) : SE X T W e (mC d) := by
  refine ⟨he.tlw fun σ H Q h => ?_⟩
  obtain ⟨w, ρ, Q1, E1, rfl, ok, re, h, hq, _⟩ := h
  exact hq _ _ h w v rfl ok .refl (hr _ _)
theorem s_int {i j pos} : SE X T W (.Constant (.int i) j pos) (mC (.int i)) := s_const pe_int fun _ _ => rfl
theorem s_bl {i j pos} : SE X T W (.Constant (.bool i) j pos) (mC (.bl i)) := s_const pe_bl fun _ _ => rfl
theorem s_non {j pos} : SE X T W (.Constant .none j pos) (mC .non) := s_const pe_non fun _ _ => rfl
theorem s_str {i j pos} : SE X T W (.Constant (.str i) j pos) (mC (.str i)) := s_const pe_str fun _ _ => rfl
/-- a module's name x stands for the tree d -/
def GC (X : Cx) (x : Str) (d : D) : Prop := ∃ u v, X.mg x = some u ∧ RelV v u ∧ ∀ F H, RD X.K F H d v
theorem s_glob {x : Str} {d : D} {pos : Pos} (hg : Gl X x) (h : GC X x d) (hd : (x == ("__debug__" : Str)) = false := by decide) : SE X T W (.Name x pos) (mC d) := by
  obtain ⟨u, v, hm, r, hr⟩ := h
  exact s_const (pe_glob hg hm r hd) hr

/-! ### argument lists -/
def mNil : MA := fun _ S Q _ => Q [] S
def mCons (m : ME) (ms : MA) : MA := fun ρ S Q E => m ρ S (fun d S1 => ms ρ S1 (fun ds S2 => Q (d :: ds) S2) E) E
theorem sa_nil : SA X T W [] mNil := by
  refine ⟨pa_nil.tlw fun σ H Q h => ?_⟩
  obtain ⟨w, ρ, Q1, E1, rfl, ok, re, h, hq, _⟩ := h
  exact hq _ _ h w [] rfl ok .refl rfl
theorem sa_cons {e : Expr} {es : List Expr} {m : ME} {ms : MA} (h1 : SE X T W e m) (h2 : SA X T W es ms) (hs : starEach (e :: es) X.env = (false, eval e X.env) :: starEach es X.env := by rfl) : SA X T W (e :: es) (mCons m ms) := by
  refine ⟨(pa_cons h1.run h2.run hs).tlw fun σ H Q h => ?_⟩
  obtain ⟨w, ρ, Q1, E1, rfl, ok, re, h, hq, hx⟩ := h
  refine ⟨w, ρ, _, _, rfl, ok, re, h, fun d S1 h w1 v e1 ok1 le1 r1 => ?_, hx⟩
  subst e1
  refine ⟨w1, ρ, _, _, rfl, ok1, re.le le1 ok, h, fun ds S2 h w2 vs e2 ok2 le2 r2 => ?_, fun c d S' z => (hx c d S' z).le le1⟩
  exact hq _ _ h w2 _ e2 ok2 (le1.trans le2) (RDs.cons (r1.le le2 ok1) r2)
end
end TL

set_option Elab.async false
set_option linter.all false
set_option maxRecDepth 100000
set_option maxHeartbeats 1000000
/-! T3: weak values (own lists that are only read), fresh lists, displays. -/
namespace TL
open PySem PySem.Spec PyProof.Rows L2

/-- what may be read: a tree, or a list of one's own as it stands -/
def RDw (K : KF) (w : Wd) : D → V → Prop
  | .lst ds, v => ∃ a vs, v = .ref a ∧ w.H a = some (.lst vs) ∧ w.S a = none ∧ RDs K w.F w.H ds vs
  | d, v => RD K w.F w.H d v
theorem RD.w {K : KF} {T : Tb} {w : Wd} (ok : Ok K T w) {d : D} {v : V} (h : RD K w.F w.H d v) : RDw K w d v := by
  cases d with
  | lst ds =>
    obtain ⟨a, vs, e, h1, h2⟩ := (show ∃ a vs, v = .ref a ∧ (w.F a ∧ w.H a = some (.lst vs)) ∧ RDs K w.F w.H ds vs from h)
    exact ⟨a, vs, e, h1.2, ok.fnone h1.1, h2⟩
  | _ => exact h
theorem RDw.le {K : KF} {T : Tb} {w w' : Wd} (le : Le w w') (ok : Ok K T w) {d : D} {v : V} (h : RDw K w d v) : RDw K w' d v := by
  cases d with
  | lst ds =>
    obtain ⟨a, vs, e, h1, s, h2⟩ := (show ∃ a vs, v = .ref a ∧ w.H a = some (.lst vs) ∧ w.S a = none ∧ RDs K w.F w.H ds vs from h)
    obtain ⟨q1, q2⟩ := le.hp a _ h1 s (fun _ q => by cases q)
    exact ⟨a, vs, e, q1, q2, h2.le le ok⟩
  | non => exact RD.le le ok (d := .non) h
  | bl b => exact RD.le le ok (d := .bl b) h
  | int b => exact RD.le le ok (d := .int b) h
  | str b => exact RD.le le ok (d := .str b) h
  | tup b => exact RD.le le ok (d := .tup b) h
  | klst b => exact RD.le le ok (d := .klst b) h
  | ref b => exact RD.le le ok (d := .ref b) h
def RDws (K : KF) (w : Wd) : List D → List V → Prop
  | [], vs => vs = []
  | d :: ds, vs => ∃ v r, vs = v :: r ∧ RDw K w d v ∧ RDws K w ds r
theorem RDws.le {K : KF} {T : Tb} {w w' : Wd} (le : Le w w') (ok : Ok K T w) : ∀ {ds : List D} {vs : List V}, RDws K w ds vs → RDws K w' ds vs
  | [], _, h => h
  | d :: ds, vs, h => by
    obtain ⟨v, r, e, h1, h2⟩ := h
    exact ⟨v, r, e, h1.le le ok, RDws.le le ok h2⟩

section
variable (X : Cx) (T : Tb) (W : WX)
def WPost (w : Wd) (Q : VK) : EK := fun d S' => ∀ w' v, w'.S = S' → Ok X.K T w' → Le w w' → RDw X.K w' d v → Q v w'.H
def WsPost (w : Wd) (Q : List V → Hp → Prop) : AK := fun ds S' => ∀ w' vs, w'.S = S' → Ok X.K T w' → Le w w' → RDws X.K w' ds vs → Q vs w'.H
def FPost (w : Wd) (Q : VK) : AK := fun ds S' => ∀ w' a vs, w'.S = S' → Ok X.K T w' → Le w w' → Nw w.H a → w'.H a = some (.lst vs) → ¬ w'.F a → w'.S a = none → RDs X.K w'.F w'.H ds vs → Q (.ref a) w'.H
end
def TRw (X : Cx) (T : Tb) (W : WX) (m : ME) : TE := fun σ H Q => ∃ (w : Wd) (ρ : Ro) (Q1 : EK) (E1 : XKd), w.H = H ∧ Ok X.K T w ∧ RE X.K w ρ σ ∧ m ρ w.S Q1 E1 ∧
  (∀ d S', Q1 d S' → WPost X T w Q d S') ∧ (∀ c d S', E1 c d S' → XPost X T W w σ c d S')
def TRws (X : Cx) (T : Tb) (W : WX) (m : MA) : TA := fun σ H Q => ∃ (w : Wd) (ρ : Ro) (Q1 : AK) (E1 : XKd), w.H = H ∧ Ok X.K T w ∧ RE X.K w ρ σ ∧ m ρ w.S Q1 E1 ∧
  (∀ d S', Q1 d S' → WsPost X T w Q d S') ∧ (∀ c d S', E1 c d S' → XPost X T W w σ c d S')
def TRf (X : Cx) (T : Tb) (W : WX) (m : MA) : TE := fun σ H Q => ∃ (w : Wd) (ρ : Ro) (Q1 : AK) (E1 : XKd), w.H = H ∧ Ok X.K T w ∧ RE X.K w ρ σ ∧ m ρ w.S Q1 E1 ∧
  (∀ d S', Q1 d S' → FPost X T w Q d S') ∧ (∀ c d S', E1 c d S' → XPost X T W w σ c d S')
structure SEw (X : Cx) (T : Tb) (W : WX) (e : Expr) (m : ME) : Prop where
  run : PE X e (TRw X T W m)
structure SAw (X : Cx) (T : Tb) (W : WX) (es : List Expr) (m : MA) : Prop where
  run : PA X es (TRws X T W m)
/-- a list that the expression makes anew -/
structure SEf (X : Cx) (T : Tb) (W : WX) (e : Expr) (m : MA) : Prop where
  run : PE X e (TRf X T W m)

section
variable {X : Cx} {T : Tb} {W : WX} {e : Expr} {es : List Expr}
theorem SE.w {m : ME} (h : SE X T W e m) : SEw X T W e m := by
  refine ⟨h.run.tlw fun σ H Q h => ?_⟩
  obtain ⟨w, ρ, Q1, E1, rfl, ok, re, h, hq, hx⟩ := h
  exact ⟨w, ρ, Q1, E1, rfl, ok, re, h, fun d S' z w' v e1 ok1 le1 r1 => hq d S' z w' v e1 ok1 le1 (r1.w ok1), hx⟩
/-- a name, read weakly -/
def mVarW (i : Nat) : ME := fun ρ S Q _ => svKw (sget ρ i) fun d => Q d S
theorem s_varW (i : Nat) {x : Str} {pos : Pos} (hN : X.N[i]? = some x := by rfl) (hv : Vis X.env.scope x := by first | exact Or.inl rfl | exact Or.inr (Or.inl rfl) | exact Or.inr (Or.inr rfl))
    (hd : (x == ("__debug__" : Str)) = false := by decide) (hcd : (x == ("__classdict__" : Str)) = false := by decide) : SEw X T W (.Name x pos) (mVarW i) := by
  refine ⟨(pe_var hN hv hd hcd).tlw fun σ H Q h => ?_⟩
  obtain ⟨w, ρ, Q1, E1, rfl, ok, re, h, hq, _⟩ := h
  unfold mVarW at h
  cases e : sget ρ i with
  | val d =>
    rw [e] at h
    obtain ⟨v, ev, r⟩ := re.val e
    exact ⟨v, ev, hq _ _ h w v rfl ok .refl (r.w ok)⟩
  | own ds =>
    rw [e] at h
    have e1 := sget_eq e (by simp)
    have hi : i < σ.length := by rw [← re.len]; exact (List.getElem?_eq_some_iff.mp e1).1
    obtain ⟨a, vs, e2, q1, q2, q3, q4⟩ := re.at_ i _ σ[i] e1 (List.getElem?_eq_getElem hi)
    exact ⟨.ref a, by rw [List.getElem?_eq_getElem hi, e2], hq _ _ h w (.ref a) rfl ok .refl ⟨a, vs, rfl, q1, q4, q2⟩⟩
  | un => rw [e] at h; exact h.elim
  | exc _ _ => rw [e] at h; exact h.elim
theorem saw_nil : SAw X T W [] mNil := by
  refine ⟨pa_nil.tlw fun σ H Q h => ?_⟩
  obtain ⟨w, ρ, Q1, E1, rfl, ok, re, h, hq, _⟩ := h
  exact hq _ _ h w [] rfl ok .refl rfl
theorem saw_cons {m : ME} {ms : MA} (h1 : SEw X T W e m) (h2 : SAw X T W es ms) (hs : starEach (e :: es) X.env = (false, eval e X.env) :: starEach es X.env := by rfl) : SAw X T W (e :: es) (mCons m ms) := by
  refine ⟨(pa_cons h1.run h2.run hs).tlw fun σ H Q h => ?_⟩
  obtain ⟨w, ρ, Q1, E1, rfl, ok, re, h, hq, hx⟩ := h
  refine ⟨w, ρ, _, _, rfl, ok, re, h, fun d S1 h w1 v e1 ok1 le1 r1 => ?_, hx⟩
  subst e1
  refine ⟨w1, ρ, _, _, rfl, ok1, re.le le1 ok, h, fun ds S2 h w2 vs e2 ok2 le2 r2 => ?_, fun c d S' z => (hx c d S' z).le le1⟩
  exact hq _ _ h w2 _ e2 ok2 (le1.trans le2) ⟨_, _, rfl, r1.le le2 ok1, r2⟩

/-! ### a fresh list stays, or becomes a cell -/
def mLst (m : MA) : ME := fun ρ S Q E => m ρ S (fun ds S' => Q (.lst ds) S') E
theorem SEf.s {m : MA} (h : SEf X T W e m) : SE X T W e (mLst m) := by
  refine ⟨h.run.tlw fun σ H Q h => ?_⟩
  obtain ⟨w, ρ, Q1, E1, rfl, ok, re, h, hq, hx⟩ := h
  refine ⟨w, ρ, _, _, rfl, ok, re, h, fun ds S' z w' a vs e1 ok1 le1 n1 l1 f1 s1 r1 => ?_, hx⟩
  obtain ⟨ok2, le2, _, md⟩ := ok1.frozen l1 s1 le1 n1
  exact hq _ _ z { w' with F := fun b => w'.F b ∨ b = a } (.ref a) e1 ok2 le2 ⟨a, vs, rfl, ⟨Or.inr rfl, l1⟩, md r1⟩
def mCell (m : MA) : ME := fun ρ S Q E => m ρ S (fun ds S' => ∀ a, S' a = none → Q (.ref a) (S'.upd a (.lst ds))) E
theorem SEf.cell {m : MA} (h : SEf X T W e m) : SE X T W e (mCell m) := by
  refine ⟨h.run.tlw fun σ H Q h => ?_⟩
  obtain ⟨w, ρ, Q1, E1, rfl, ok, re, h, hq, hx⟩ := h
  refine ⟨w, ρ, _, _, rfl, ok, re, h, fun ds S' z w' a vs e1 ok1 le1 n1 l1 f1 s1 r1 => ?_, hx⟩
  subst e1
  refine hq _ _ (z a s1) { w' with S := w'.S.upd a (.lst ds) } (.ref a) rfl ⟨fun b es q => ?_, ok1.tabs, ok1.fh⟩ ⟨le1.fz, le1.fr, fun b o q s nt => ?_, fun b q => ?_, le1.ex⟩ rfl
  · by_cases hb : b = a
    · subst hb
      have q' : (w'.S.upd b (.lst ds)) b = some (.lst es) := q
      rw [Store.upd_same] at q'
      cases q'
      exact ⟨vs, l1, r1, f1⟩
    · have q' : (w'.S.upd a (.lst ds)) b = some (.lst es) := q
      rw [Store.upd_ne hb] at q'
      exact ok1.cell b es q'
  · have hb : b ≠ a := n1.ne q nt
    obtain ⟨q1, q2⟩ := le1.hp b o q s nt
    exact ⟨q1, (Store.upd_ne hb).trans q2⟩
  · show (w'.S.upd a (.lst ds)) b ≠ none
    by_cases hb : b = a
    · subst hb; rw [Store.upd_same]; simp
    · rw [Store.upd_ne hb]; exact le1.st b q

/-! ### displays -/
def lim : Nat := 1000000
theorem lim_le {n : Nat} (h : n ≤ lim) : n ≤ sizeLine := Nat.le_trans h (by decide)
def mTup (ms : MA) : ME := fun ρ S Q E => ms ρ S (fun ds S' => ds.length ≤ lim ∧ Q (.tup ds) S') E
def mDisp (ms : MA) : MA := fun ρ S Q E => ms ρ S (fun ds S' => ds.length ≤ lim ∧ Q ds S') E
theorem s_tup {ms : MA} {x1 pos} (h : SA X T W es ms) : SE X T W (.Tuple es x1 pos) (mTup ms) := by
  refine ⟨(pe_tup h.run).tlw fun σ H Q h => ?_⟩
  obtain ⟨w, ρ, Q1, E1, rfl, ok, re, h, hq, hx⟩ := h
  refine ⟨w, ρ, _, _, rfl, ok, re, h, fun ds S' z w1 vs e1 ok1 le1 r1 => ?_, hx⟩
  refine ⟨by rw [r1.length]; exact lim_le z.1, fun p np => ?_⟩
  obtain ⟨ok2, le2⟩ := ok1.laid np (.tup vs)
  exact hq _ _ z.2 { w1 with H := upd w1.H p (.tup vs) } (.ref p) e1 ok2 (le1.trans le2) ⟨p, vs, rfl, SqT.of upd_same, r1.le le2 ok1⟩
theorem s_list {ms : MA} {pos} (h : SA X T W es ms) : SEf X T W (.List es pos) (mDisp ms) := by
  refine ⟨(pe_lst h.run).tlw fun σ H Q h => ?_⟩
  obtain ⟨w, ρ, Q1, E1, rfl, ok, re, h, hq, hx⟩ := h
  refine ⟨w, ρ, _, _, rfl, ok, re, h, fun ds S' z w1 vs e1 ok1 le1 r1 => ?_, hx⟩
  refine ⟨by rw [r1.length]; exact lim_le z.1, fun p np => ?_⟩
  obtain ⟨ok2, le2⟩ := ok1.laid np (.lst vs)
  obtain ⟨s2, f2⟩ := ok1.fresh np
  have n0 : Nw w.H p := le1.ex p (.of np)
  exact hq _ _ z.2 { w1 with H := upd w1.H p (.lst vs) } p vs e1 ok2 (le1.trans le2) n0 upd_same f2 s2 (r1.le le2 ok1)
end
end TL

set_option Elab.async false
set_option linter.all false
set_option maxRecDepth 100000
set_option maxHeartbeats 1000000
/-! T4: operations. -/
namespace TL
open PySem PySem.Spec PyProof.Rows L2

abbrev F1 := Store → D → (D → Prop) → Prop
abbrev F2 := Store → D → D → (D → Prop) → Prop
abbrev Fs := Store → List D → (D → Prop) → Prop
/-- that what a primitive is told to give it gives -/
abbrev KOk (X : Cx) (T : Tb) (w : Wd) (k : D → Prop) (Q : VK) : Prop := ∀ d, k d → ∀ w' z, w'.S = w.S → Ok X.K T w' → Le w w' → RD X.K w'.F w'.H d z → Q z w'.H
def P1Ok (X : Cx) (T : Tb) (r : V → Hp → VK → Prop) (f : F1) : Prop := ∀ (w : Wd) (x : D) (v : V) (k : D → Prop) (Q : VK), Ok X.K T w → RDw X.K w x v → f w.S x k →
  KOk X T w k Q → r v w.H Q
def P2Ok (X : Cx) (T : Tb) (r : R2) (f : F2) : Prop := ∀ (w : Wd) (x y : D) (v u : V) (k : D → Prop) (Q : VK), Ok X.K T w → RDw X.K w x v → RDw X.K w y u → f w.S x y k →
  KOk X T w k Q → r v u w.H Q
def PsOk (X : Cx) (T : Tb) (r : List V → Hp → VK → Prop) (f : Fs) : Prop := ∀ (w : Wd) (ds : List D) (vs : List V) (k : D → Prop) (Q : VK), Ok X.K T w → RDws X.K w ds vs → f w.S ds k →
  KOk X T w k Q → r vs w.H Q
def mUn (f : F1) (a : ME) : ME := fun ρ S Q E => a ρ S (fun x S1 => f S1 x (fun d => Q d S1)) E
def mBin (f : F2) (a b : ME) : ME := fun ρ S Q E => a ρ S (fun x S1 => b ρ S1 (fun y S2 => f S2 x y (fun d => Q d S2)) E) E
def isB (k : Bool → Prop) : D → Prop
  | .bl b => k b
  | _ => False
def mBinT (f : F2) (a b : ME) : MT := fun ρ S Q E => a ρ S (fun x S1 => b ρ S1 (fun y S2 => f S2 x y (isB fun k => Q k S2)) E) E
def mPrim (f : Fs) (ms : MA) : ME := fun ρ S Q E => ms ρ S (fun ds S1 => f S1 ds (fun d => Q d S1)) E
/-- a value as a test: a bool -/
def mT (m : ME) : MT := fun ρ S Q E => m ρ S (fun d S1 => isB (fun k => Q k S1) d) E

section
variable {X : Cx} {T : Tb} {W : WX} {a b : Expr} {ma mb : ME} {pos : Pos}
theorem s_un {op : UnaryOp} {r : V → Hp → VK → Prop} {f : F1} (ho : UnR X (unaryOp op) r) (hp : P1Ok X T r f) (ha : SEw X T W a ma) : SE X T W (.UnaryOp op a pos) (mUn f ma) := by
  refine ⟨(pe_un ho ha.run).tlw fun σ H Q h => ?_⟩
  obtain ⟨w, ρ, Q1, E1, rfl, ok, re, h, hq, hx⟩ := h
  refine ⟨w, ρ, _, _, rfl, ok, re, h, fun x S1 h w1 v e1 ok1 le1 r1 => ?_, hx⟩
  subst e1
  exact hp w1 x v _ Q ok1 r1 h fun d kd w2 z e2 ok2 le2 r2 => hq _ _ kd w2 z e2 ok2 (le1.trans le2) r2
theorem op2 {r : R2} {f : F2} (hp : P2Ok X T r f) {σ : L2.St} {H : Hp} {Q : VK} (h : TRe X T W (mBin f ma mb) σ H Q) : tOp r (TRw X T W ma) (TRw X T W mb) σ H Q := by
  obtain ⟨w, ρ, Q1, E1, rfl, ok, re, h, hq, hx⟩ := h
  refine ⟨w, ρ, _, _, rfl, ok, re, h, fun x S1 h w1 v e1 ok1 le1 r1 => ?_, hx⟩
  subst e1
  refine ⟨w1, ρ, _, _, rfl, ok1, re.le le1 ok, h, fun y S2 h w2 u e2 ok2 le2 r2 => ?_, fun c d S' z => (hx c d S' z).le le1⟩
  subst e2
  exact hp w2 x y v u _ Q ok2 (r1.le le2 ok1) r2 h fun d kd w3 z e3 ok3 le3 r3 => hq _ _ kd w3 z e3 ok3 ((le1.trans le2).trans le3) r3
theorem op2t {r : R2} {f : F2} (hp : P2Ok X T r f) {σ : L2.St} {H : Hp} {Q : Bool → Hp → Prop} (h : TRt X T W (mBinT f ma mb) σ H Q) : tTest (tOp r (TRw X T W ma) (TRw X T W mb)) σ H Q := by
  obtain ⟨w, ρ, Q1, E1, rfl, ok, re, h, hq, hx⟩ := h
  refine ⟨w, ρ, _, _, rfl, ok, re, h, fun x S1 h w1 v e1 ok1 le1 r1 => ?_, hx⟩
  subst e1
  refine ⟨w1, ρ, _, _, rfl, ok1, re.le le1 ok, h, fun y S2 h w2 u e2 ok2 le2 r2 => ?_, fun c d S' z => (hx c d S' z).le le1⟩
  subst e2
  refine hp w2 x y v u _ _ ok2 (r1.le le2 ok1) r2 h fun d kd w3 z e3 ok3 le3 r3 => ?_
  cases d with
  | bl k => exact ⟨k, r3, hq _ _ kd w3 e3 ok3 ((le1.trans le2).trans le3)⟩
  | _ => exact kd.elim
theorem s_bin {op : Operator} {r : R2} {f : F2} (ho : OpR X (binaryOp op) r) (hp : P2Ok X T r f) (ha : SEw X T W a ma) (hb : SEw X T W b mb) : SE X T W (.BinOp a op b pos) (mBin f ma mb) :=
  ⟨(pe_op ho ha.run hb.run).tlw fun σ H Q h => op2 hp h⟩
theorem s_cmp {op : CmpOp} {r : R2} {f : F2} (ho : OpR X (compareOp op) r) (hp : P2Ok X T r f) (ha : SEw X T W a ma) (hb : SEw X T W b mb) (hm : behindInMarks op b = false := by rfl) : SE X T W (.Compare a [op] [b] pos) (mBin f ma mb) :=
  ⟨(pe_cmpR ho ha.run hb.run hm).tlw fun σ H Q h => op2 hp h⟩
theorem t_cmp {op : CmpOp} {r : R2} {f : F2} (ho : OpR X (compareOp op) r) (hp : P2Ok X T r f) (ha : SEw X T W a ma) (hb : SEw X T W b mb) (hm : behindInMarks op b = false := by rfl) : ST X T W (.Compare a [op] [b] pos) (mBinT f ma mb) :=
  ⟨(pt_cmpR ho ha.run hb.run hm).tlw fun σ H Q h => op2t hp h⟩
/-- a value that is a bool, as a test -/
theorem t_val (ha : SE X T W a ma) (he : ∀ whole, isTrue a X.env whole = (do let v ← whole; standAt a.pos; holding [v] (truthy v)) := by intro _; rfl) : ST X T W a (mT ma) := by
  refine ⟨(pt_val ha.run he).tlw fun σ H Q h => ?_⟩
  obtain ⟨w, ρ, Q1, E1, rfl, ok, re, h, hq, hx⟩ := h
  refine ⟨w, ρ, _, _, rfl, ok, re, h, fun x S1 h w1 v e1 ok1 le1 r1 => ?_, hx⟩
  cases x with
  | bl k => exact ⟨k, r1, hq _ _ h w1 e1 ok1 le1⟩
  | _ => exact h.elim

/-! ### and, or, not, if -/
def mAndT (t u : MT) : MT := fun ρ S Q E => t ρ S (fun k S1 => if k = true then u ρ S1 Q E else Q false S1) E
def mOrT (t u : MT) : MT := fun ρ S Q E => t ρ S (fun k S1 => if k = true then Q true S1 else u ρ S1 Q E) E
def mNotT (t : MT) : MT := fun ρ S Q E => t ρ S (fun k S1 => Q (!k) S1) E
variable {rest : List Expr} {ta tb : MT}
theorem BPost.le {w w' : Wd} {Q d S} (le : Le w w') (h : BPost X T w Q d S) : BPost X T w' Q d S := fun w2 e ok l => h w2 e ok (le.trans l)
theorem tw_and1 (h : ST X T W a ta) : STw X T W (.BoolOp .And [a] pos) ta := ⟨pw_and1 h.run⟩
theorem tw_or1 (h : ST X T W a ta) : STw X T W (.BoolOp .Or [a] pos) ta := ⟨pw_or1 h.run⟩
theorem tw_and (h1 : ST X T W a ta) (h2 : STw X T W (.BoolOp .And (b :: rest) pos) tb) : STw X T W (.BoolOp .And (a :: b :: rest) pos) (mAndT ta tb) := by
  refine ⟨(pw_and h1.run h2.run).tlw fun σ H Q h => ?_⟩
  obtain ⟨w, ρ, Q1, E1, rfl, ok, re, h, hq, hx⟩ := h
  refine ⟨w, ρ, _, _, rfl, ok, re, h, fun k S1 h w1 e1 ok1 le1 => ?_, hx⟩
  subst e1
  cases k with
  | true => exact ⟨w1, ρ, _, _, rfl, ok1, re.le le1 ok, h, fun k S2 z => (hq k S2 z).le le1, fun c d S' z => (hx c d S' z).le le1⟩
  | false => exact hq _ _ h w1 rfl ok1 le1
theorem tw_or (h1 : ST X T W a ta) (h2 : STw X T W (.BoolOp .Or (b :: rest) pos) tb) : STw X T W (.BoolOp .Or (a :: b :: rest) pos) (mOrT ta tb) := by
  refine ⟨(pw_or h1.run h2.run).tlw fun σ H Q h => ?_⟩
  obtain ⟨w, ρ, Q1, E1, rfl, ok, re, h, hq, hx⟩ := h
  refine ⟨w, ρ, _, _, rfl, ok, re, h, fun k S1 h w1 e1 ok1 le1 => ?_, hx⟩
  subst e1
  cases k with
  | true => exact hq _ _ h w1 rfl ok1 le1
  | false => exact ⟨w1, ρ, _, _, rfl, ok1, re.le le1 ok, h, fun k S2 z => (hq k S2 z).le le1, fun c d S' z => (hx c d S' z).le le1⟩
theorem STw.t (h : STw X T W a ta) : ST X T W a ta := ⟨h.run.pt⟩
theorem t_not (h : ST X T W a ta) : ST X T W (.UnaryOp .Not a pos) (mNotT ta) := by
  refine ⟨(pt_not h.run).tlw fun σ H Q h => ?_⟩
  obtain ⟨w, ρ, Q1, E1, rfl, ok, re, h, hq, hx⟩ := h
  exact ⟨w, ρ, _, _, rfl, ok, re, h, fun k S1 h w1 e1 ok1 le1 => hq _ _ h w1 e1 ok1 le1, hx⟩
/-- as values: bools -/
def mAndV (a b : ME) : ME := fun ρ S Q E => a ρ S (fun x S1 => isB (fun k => if k = true then b ρ S1 Q E else Q (.bl false) S1) x) E
def mOrV (a b : ME) : ME := fun ρ S Q E => a ρ S (fun x S1 => isB (fun k => if k = true then Q (.bl true) S1 else b ρ S1 Q E) x) E
def mNotV (a : ME) : ME := fun ρ S Q E => a ρ S (fun x S1 => isB (fun k => Q (.bl (!k)) S1) x) E
theorem s_one {op} (h : SE X T W a ma) : SE X T W (.BoolOp op [a] pos) ma := ⟨pe_one h.run⟩
theorem s_and (h1 : SE X T W a ma) (h2 : SE X T W (.BoolOp .And (b :: rest) pos) mb) : SE X T W (.BoolOp .And (a :: b :: rest) pos) (mAndV ma mb) := by
  refine ⟨(pe_and h1.run h2.run).tlw fun σ H Q h => ?_⟩
  obtain ⟨w, ρ, Q1, E1, rfl, ok, re, h, hq, hx⟩ := h
  refine ⟨w, ρ, _, _, rfl, ok, re, h, fun x S1 h w1 v e1 ok1 le1 r1 => ?_, hx⟩
  subst e1
  cases x with
  | bl k =>
    refine ⟨k, r1, ?_⟩
    cases k with
    | true => exact ⟨w1, ρ, _, _, rfl, ok1, re.le le1 ok, h, fun k S2 z => (hq k S2 z).le le1, fun c d S' z => (hx c d S' z).le le1⟩
    | false => exact hq _ _ h w1 (.bl false) rfl ok1 le1 rfl
  | _ => exact h.elim
theorem s_or (h1 : SE X T W a ma) (h2 : SE X T W (.BoolOp .Or (b :: rest) pos) mb) : SE X T W (.BoolOp .Or (a :: b :: rest) pos) (mOrV ma mb) := by
  refine ⟨(pe_or h1.run h2.run).tlw fun σ H Q h => ?_⟩
  obtain ⟨w, ρ, Q1, E1, rfl, ok, re, h, hq, hx⟩ := h
  refine ⟨w, ρ, _, _, rfl, ok, re, h, fun x S1 h w1 v e1 ok1 le1 r1 => ?_, hx⟩
  subst e1
  cases x with
  | bl k =>
    refine ⟨k, r1, ?_⟩
    cases k with
    | true => exact hq _ _ h w1 (.bl true) rfl ok1 le1 rfl
    | false => exact ⟨w1, ρ, _, _, rfl, ok1, re.le le1 ok, h, fun k S2 z => (hq k S2 z).le le1, fun c d S' z => (hx c d S' z).le le1⟩
  | _ => exact h.elim
theorem s_not (h1 : SE X T W a ma) : SE X T W (.UnaryOp .Not a pos) (mNotV ma) := by
  refine ⟨(pe_not h1.run).tlw fun σ H Q h => ?_⟩
  obtain ⟨w, ρ, Q1, E1, rfl, ok, re, h, hq, hx⟩ := h
  refine ⟨w, ρ, _, _, rfl, ok, re, h, fun x S1 h w1 v e1 ok1 le1 r1 => ?_, hx⟩
  cases x with
  | bl k => exact ⟨k, r1, hq _ _ h w1 (.bl (!k)) e1 ok1 le1 rfl⟩
  | _ => exact h.elim
/-- a if t else b -/
def mIf (t : MT) (a b : ME) : ME := fun ρ S Q E => t ρ S (fun k S1 => if k = true then a ρ S1 Q E else b ρ S1 Q E) E
theorem s_if {c : Expr} (hc : ST X T W c ta) (ha : SE X T W a ma) (hb : SE X T W b mb) : SE X T W (.IfExp c a b pos) (mIf ta ma mb) := by
  refine ⟨(pe_ifExp hc.run ha.run hb.run).tlw fun σ H Q h => ?_⟩
  obtain ⟨w, ρ, Q1, E1, rfl, ok, re, h, hq, hx⟩ := h
  refine ⟨w, ρ, _, _, rfl, ok, re, h, fun k S1 h w1 e1 ok1 le1 => ?_, hx⟩
  subst e1
  cases k with
  | true => exact ⟨w1, ρ, _, _, rfl, ok1, re.le le1 ok, h, fun k S2 z => (hq k S2 z).le le1, fun c d S' z => (hx c d S' z).le le1⟩
  | false => exact ⟨w1, ρ, _, _, rfl, ok1, re.le le1 ok, h, fun k S2 z => (hq k S2 z).le le1, fun c d S' z => (hx c d S' z).le le1⟩
theorem s_ifW {c : Expr} (hc : ST X T W c ta) (ha : SEw X T W a ma) (hb : SEw X T W b mb) : SEw X T W (.IfExp c a b pos) (mIf ta ma mb) := by
  refine ⟨(pe_ifExp hc.run ha.run hb.run).tlw fun σ H Q h => ?_⟩
  obtain ⟨w, ρ, Q1, E1, rfl, ok, re, h, hq, hx⟩ := h
  refine ⟨w, ρ, _, _, rfl, ok, re, h, fun k S1 h w1 e1 ok1 le1 => ?_, hx⟩
  subst e1
  cases k with
  | true => exact ⟨w1, ρ, _, _, rfl, ok1, re.le le1 ok, h, fun k S2 z w2 v2 e2 ok2 le2 r2 => hq k S2 z w2 v2 e2 ok2 (le1.trans le2) r2, fun c d S' z => (hx c d S' z).le le1⟩
  | false => exact ⟨w1, ρ, _, _, rfl, ok1, re.le le1 ok, h, fun k S2 z w2 v2 e2 ok2 le2 r2 => hq k S2 z w2 v2 e2 ok2 (le1.trans le2) r2, fun c d S' z => (hx c d S' z).le le1⟩

/-! ### calls of built-ins -/
theorem s_callB {x : Str} {p pos : Pos} {e : Expr} {es : List Expr} {ms : MA} {id : String} {r : List V → Hp → VK → Prop} {f : Fs} (hc : CallR X (.builtin id) r) (hp : PsOk X T r f) (hg : Gl X x) (hm : X.mg x = none) (hv : bootBuiltins x = some (.builtin id)) (ha : SAw X T W (e :: es) ms)
    (hn : x ≠ "__name__" := by decide) (hdb : (x == ("__debug__" : Str)) = false := by decide)
    (he : starEach (e :: es) X.env = (false, eval e X.env) :: starEach es X.env := by rfl) (hpl : (backTo pos (starEach es X.env)).any (·.1) = false := by rfl) : SE X T W (.Call (.Name x p) (e :: es) [] pos) (mPrim f ms) := by
  refine ⟨(pe_callB hc hg hm hv ha.run hn hdb he hpl).tlw fun σ H Q h => ?_⟩
  obtain ⟨w, ρ, Q1, E1, rfl, ok, re, h, hq, hx⟩ := h
  refine ⟨w, ρ, _, _, rfl, ok, re, h, fun ds S1 h w1 vs e1 ok1 le1 r1 => ?_, hx⟩
  subst e1
  exact hp w1 ds vs _ Q ok1 r1 h fun d kd w2 z e2 ok2 le2 r2 => hq _ _ kd w2 z e2 ok2 (le1.trans le2) r2
theorem s_callTy {x : Str} {p pos : Pos} {e : Expr} {es : List Expr} {ms : MA} {id : String} {r : List V → Hp → VK → Prop} {f : Fs} (hc : CallR X (.type id) r) (hp : PsOk X T r f) (hg : Gl X x) (hm : X.mg x = none) (hv : bootBuiltins x = some (.type id)) (ha : SAw X T W (e :: es) ms)
    (hn : x ≠ "__name__" := by decide) (hdb : (x == ("__debug__" : Str)) = false := by decide)
    (he : starEach (e :: es) X.env = (false, eval e X.env) :: starEach es X.env := by rfl) (hpl : (backTo pos (starEach es X.env)).any (·.1) = false := by rfl) : SE X T W (.Call (.Name x p) (e :: es) [] pos) (mPrim f ms) := by
  refine ⟨(pe_callTy hc hg hm hv ha.run hn hdb he hpl).tlw fun σ H Q h => ?_⟩
  obtain ⟨w, ρ, Q1, E1, rfl, ok, re, h, hq, hx⟩ := h
  refine ⟨w, ρ, _, _, rfl, ok, re, h, fun ds S1 h w1 vs e1 ok1 le1 r1 => ?_, hx⟩
  subst e1
  exact hp w1 ds vs _ Q ok1 r1 h fun d kd w2 z e2 ok2 le2 r2 => hq _ _ kd w2 z e2 ok2 (le1.trans le2) r2
end
end TL

set_option Elab.async false
set_option linter.all false
set_option maxRecDepth 100000
set_option maxHeartbeats 1000000
/-! T5: the primitives. -/
namespace TL
open PySem PySem.Spec PyProof.Rows L2

section
variable {X : Cx} {T : Tb} {w : Wd}
theorem Ok.newLst {K : KF} (ok : Ok K T w) {p : Addr} {ds : List D} {vs : List V} (h : w.H p = none) (r : RDs K w.F w.H ds vs) :
    ∃ w', w'.S = w.S ∧ w'.H = upd w.H p (.lst vs) ∧ Ok K T w' ∧ Le w w' ∧ RD K w'.F w'.H (.lst ds) (.ref p) := by
  obtain ⟨ok1, le1⟩ := ok.laid h (.lst vs)
  obtain ⟨s1, _⟩ := ok.fresh h
  obtain ⟨ok2, le2, _, md⟩ := ok1.frozen (p := p) (vs := vs) upd_same s1 le1 (.of h)
  exact ⟨{ F := fun b => w.F b ∨ b = p, S := w.S, H := upd w.H p (.lst vs) }, rfl, rfl, ok2, le2, p, vs, rfl, ⟨Or.inr rfl, upd_same⟩, md (r.le le1 ok)⟩
theorem Ok.newTup {K : KF} (ok : Ok K T w) {p : Addr} {ds : List D} {vs : List V} (h : w.H p = none) (r : RDs K w.F w.H ds vs) :
    ∃ w', w'.S = w.S ∧ w'.H = upd w.H p (.tup vs) ∧ Ok K T w' ∧ Le w w' ∧ RD K w'.F w'.H (.tup ds) (.ref p) := by
  obtain ⟨ok1, le1⟩ := ok.laid h (.tup vs)
  exact ⟨{ w with H := upd w.H p (.tup vs) }, rfl, rfl, ok1, le1, p, vs, rfl, SqT.of upd_same, r.le le1 ok⟩
/-- a primitive gives a new list, a new tuple, a plain value -/
theorem KOk.lst {k : D → Prop} {Q : VK} (hk : KOk X T w k Q) (ok : Ok X.K T w) {ds : List D} {vs : List V} (r : RDs X.K w.F w.H ds vs) (h : k (.lst ds)) {p : Addr} (n : w.H p = none) : Q (.ref p) (upd w.H p (.lst vs)) := by
  obtain ⟨w', e1, e2, ok', le', r'⟩ := ok.newLst n r
  rw [← e2]
  exact hk _ h w' _ e1 ok' le' r'
theorem KOk.tup {k : D → Prop} {Q : VK} (hk : KOk X T w k Q) (ok : Ok X.K T w) {ds : List D} {vs : List V} (r : RDs X.K w.F w.H ds vs) (h : k (.tup ds)) {p : Addr} (n : w.H p = none) : Q (.ref p) (upd w.H p (.tup vs)) := by
  obtain ⟨w', e1, e2, ok', le', r'⟩ := ok.newTup n r
  rw [← e2]
  exact hk _ h w' _ e1 ok' le' r'
theorem KOk.one {k : D → Prop} {Q : VK} (hk : KOk X T w k Q) (ok : Ok X.K T w) {d : D} {v : V} (r : RD X.K w.F w.H d v) (h : k d) : Q v w.H := hk _ h w v rfl ok .refl r
end

/-! ### numbers, +, -, *, //, %, ** -/
def fAdd : F2 := fun _ x y k => match x, y with
  | .int i, .int j => k (.int (i + j))
  | .lst a, .lst b => a.length + b.length ≤ lim ∧ k (.lst (a ++ b))
  | .tup a, .tup b => a.length + b.length ≤ lim ∧ k (.tup (a ++ b))
  | .str a, .str b => a.length + b.length ≤ lim ∧ k (.str (a ++ b))
  | _, _ => False
def fSub : F2 := fun _ x y k => match x, y with
  | .int i, .int j => k (.int (i - j))
  | _, _ => False
def mulOk (i j : Int) : Prop := CMul i j ∨ CMulW i j
def fMul : F2 := fun _ x y k => match x, y with
  | .int i, .int j => mulOk i j ∧ k (.int (i * j))
  | .lst a, .int j => (j ≤ 1000000 ∧ -1000000 ≤ j ∧ a.length * j.toNat ≤ lim) ∧ k (.lst (List.replicate j.toNat a).flatten)
  | _, _ => False
def fDiv : F2 := fun _ x y k => match x, y with
  | .int i, .int j => CDivW i j ∧ k (.int (i / j))
  | _, _ => False
def fMod : F2 := fun _ x y k => match x, y with
  | .int i, .int j => 0 < j ∧ k (.int (i % j))
  | _, _ => False
def fPow : F2 := fun _ x y k => match x, y with
  | .int i, .int j => CPow i j ∧ k (.int (i ^ j.toNat))
  | _, _ => False
def fNeg : F1 := fun _ x k => match x with
  | .int i => k (.int (-i))
  | _ => False
section
variable {X : Cx} {T : Tb}
theorem map_rep {K : KF} {F : Addr → Prop} {H : Hp} {ds : List D} {vs : List V} (r : RDs K F H ds vs) : ∀ n, RDs K F H (List.replicate n ds).flatten (List.replicate n vs).flatten
  | 0 => rfl
  | n + 1 => by
    simp only [List.replicate_succ, List.flatten_cons]
    exact r.append (map_rep r n)
theorem pAdd : P2Ok X T (fun x y H Q => rI0 (fun i j => .int (i + j)) x y H Q ∨ rCat x y H Q ∨ rCatA X.K x y H Q ∨ (∃ i j, x = .str i ∧ y = .str j ∧ i.length + j.length ≤ sizeLine ∧ Q (.str (i ++ j)) H)) fAdd := by
  intro w x y v u k Q ok rx ry h hk
  cases x <;> cases y <;> first | exact h.elim | skip
  · cases rx; cases ry
    exact .inl ⟨_, _, rfl, rfl, hk.one (d := .int _) ok rfl h⟩
  · cases rx; cases ry
    exact .inr (.inr (.inr ⟨_, _, rfl, rfl, lim_le h.1, hk.one (d := .str _) ok rfl h.2⟩))
  · obtain ⟨a, vs, rfl, ha, ra⟩ := rx
    obtain ⟨b, us, rfl, hb, rb⟩ := ry
    refine .inr (.inr (.inl ⟨a, b, vs, us, rfl, rfl, ha, hb, by rw [ra.length, rb.length]; exact lim_le h.1, fun e => ?_, fun e1 e2 => ?_, fun e1 e2 p np => hk.tup ok (ra.append rb) h.2 np⟩))
    · subst e
      have : _ = [] := List.eq_nil_of_length_eq_zero (by have := ra.length; simpa using this.symm)
      subst this
      exact hk.one (d := .tup _) ok ⟨b, us, rfl, hb, rb⟩ h.2
    · subst e2
      have : _ = [] := List.eq_nil_of_length_eq_zero (by have := rb.length; simpa using this.symm)
      subst this
      exact hk.one (d := .tup _) ok ⟨a, vs, rfl, ha, by rw [List.append_nil]; exact ra⟩ h.2
  · obtain ⟨a, vs, rfl, ha, _, ra⟩ := rx
    obtain ⟨b, us, rfl, hb, _, rb⟩ := ry
    exact .inr (.inl ⟨a, b, vs, us, rfl, rfl, ha, hb, by rw [ra.length, rb.length]; exact lim_le h.1, fun p np => hk.lst ok (ra.append rb) h.2 np⟩)
theorem pSub : P2Ok X T (rI0 fun i j => .int (i - j)) fSub := by
  intro w x y v u k Q ok rx ry h hk
  cases x <;> cases y <;> first | exact h.elim | skip
  cases rx; cases ry
  exact ⟨_, _, rfl, rfl, hk.one (d := .int _) ok rfl h⟩
theorem pMul : P2Ok X T (fun x y H Q => rI CMul (fun i j => .int (i * j)) x y H Q ∨ rI CMulW (fun i j => .int (i * j)) x y H Q ∨ rRep x y H Q) fMul := by
  intro w x y v u k Q ok rx ry h hk
  cases x <;> cases y <;> first | exact h.elim | skip
  · cases rx; cases ry
    rcases h.1 with c | c
    · exact .inl ⟨_, _, rfl, rfl, c, hk.one (d := .int _) ok rfl h.2⟩
    · exact .inr (.inl ⟨_, _, rfl, rfl, c, hk.one (d := .int _) ok rfl h.2⟩)
  · obtain ⟨a, vs, rfl, ha, _, ra⟩ := rx
    cases ry
    obtain ⟨⟨h1, h2, h3⟩, h4⟩ := h
    exact .inr (.inr ⟨a, _, vs, rfl, rfl, ha, by omega, by omega, by rw [ra.length]; exact lim_le h3, fun p np => hk.lst ok (map_rep ra _) h4 np⟩)
theorem pDiv : P2Ok X T (rI CDivW fun i j => .int (i / j)) fDiv := by
  intro w x y v u k Q ok rx ry h hk
  cases x <;> cases y <;> first | exact h.elim | skip
  cases rx; cases ry
  exact ⟨_, _, rfl, rfl, h.1, hk.one (d := .int _) ok rfl h.2⟩
theorem pMod : P2Ok X T (rI (fun _ j => 0 < j) fun i j => .int (i % j)) fMod := by
  intro w x y v u k Q ok rx ry h hk
  cases x <;> cases y <;> first | exact h.elim | skip
  cases rx; cases ry
  exact ⟨_, _, rfl, rfl, h.1, hk.one (d := .int _) ok rfl h.2⟩
theorem pPow : P2Ok X T (rI CPow fun i j => .int (i ^ j.toNat)) fPow := by
  intro w x y v u k Q ok rx ry h hk
  cases x <;> cases y <;> first | exact h.elim | skip
  cases rx; cases ry
  exact ⟨_, _, rfl, rfl, h.1, hk.one (d := .int _) ok rfl h.2⟩
theorem pNeg : P1Ok X T (rU fun i => .int (-i)) fNeg := by
  intro w x v k Q ok rx h hk
  cases x <;> first | exact h.elim | skip
  cases rx
  exact ⟨_, rfl, hk.one (d := .int _) ok rfl h⟩
theorem oAdd : OpR X (binaryOp .Add) (fun x y H Q => rI0 (fun i j => .int (i + j)) x y H Q ∨ rCat x y H Q ∨ rCatA X.K x y H Q ∨ (∃ i j, x = .str i ∧ y = .str j ∧ i.length + j.length ≤ sizeLine ∧ Q (.str (i ++ j)) H)) :=
  op_add.or (op_cat.or (op_catA.or op_add_str))
theorem oMul : OpR X (binaryOp .Mult) (fun x y H Q => rI CMul (fun i j => .int (i * j)) x y H Q ∨ rI CMulW (fun i j => .int (i * j)) x y H Q ∨ rRep x y H Q) := op_mul.or (op_mulW.or op_rep)
variable {W : WX} {a b : Expr} {ma mb : ME} {pos : Pos}
theorem s_add (ha : SEw X T W a ma) (hb : SEw X T W b mb) : SE X T W (.BinOp a .Add b pos) (mBin fAdd ma mb) := s_bin oAdd pAdd ha hb
theorem s_sub (ha : SEw X T W a ma) (hb : SEw X T W b mb) : SE X T W (.BinOp a .Sub b pos) (mBin fSub ma mb) := s_bin op_sub pSub ha hb
theorem s_mul (ha : SEw X T W a ma) (hb : SEw X T W b mb) : SE X T W (.BinOp a .Mult b pos) (mBin fMul ma mb) := s_bin oMul pMul ha hb
theorem s_div (ha : SEw X T W a ma) (hb : SEw X T W b mb) : SE X T W (.BinOp a .FloorDiv b pos) (mBin fDiv ma mb) := s_bin op_fdivW pDiv ha hb
theorem s_mod (ha : SEw X T W a ma) (hb : SEw X T W b mb) : SE X T W (.BinOp a .Mod b pos) (mBin fMod ma mb) := s_bin op_mod pMod ha hb
theorem s_pow (ha : SEw X T W a ma) (hb : SEw X T W b mb) : SE X T W (.BinOp a .Pow b pos) (mBin fPow ma mb) := s_bin op_pow pPow ha hb
theorem s_neg (ha : SEw X T W a ma) : SE X T W (.UnaryOp .USub a pos) (mUn fNeg ma) := s_un un_neg pNeg ha
end

/-! ### comparisons -/
def fLt : F2 := fun _ x y k => match x, y with
  | .int i, .int j => k (.bl (decide (i < j)))
  | _, _ => False
def fLe : F2 := fun _ x y k => match x, y with
  | .int i, .int j => k (.bl (decide (i ≤ j)))
  | _, _ => False
def fGt : F2 := fun _ x y k => match x, y with
  | .int i, .int j => k (.bl (decide (j < i)))
  | _, _ => False
def fGe : F2 := fun _ x y k => match x, y with
  | .int i, .int j => k (.bl (decide (j ≤ i)))
  | _, _ => False
def D.isN : D → Bool
  | .non => true
  | _ => false
def fIsN : F2 := fun _ x y k => match y with
  | .non => k (.bl x.isN)
  | _ => False
def fNotN : F2 := fun _ x y k => match y with
  | .non => k (.bl (!x.isN))
  | _ => False
mutual
def D.py : D → PyData
  | .non => .none
  | .bl b => .bool b
  | .int i => .int i
  | .str s => .str s
  | .tup l => .tuple (D.pys l)
  | .lst l => .list (D.pys l)
  | .klst l => .list (D.pys l)
  | .ref _ => .none
def D.pys : List D → List PyData
  | [] => []
  | d :: ds => d.py :: D.pys ds
end
mutual
/-- data without cells, written signs, no deeper than n -/
def D.okE : D → Nat → Bool
  | .non, _ => true
  | .bl _, _ => true
  | .int _, _ => true
  | .str s, _ => PyData.strOk s
  | .tup l, n => decide (0 < n) && D.okEs l (n - 1)
  | .lst l, n => decide (0 < n) && D.okEs l (n - 1)
  | .klst l, n => decide (0 < n) && D.okEs l (n - 1)
  | .ref _, _ => false
def D.okEs : List D → Nat → Bool
  | [], _ => true
  | d :: ds, n => d.okE n && D.okEs ds n
end
mutual
theorem D.okE_lay : ∀ (d : D) (n : Nat), d.okE n = true → PyData.canLay0 d.py = true ∧ d.py.depth ≤ n
  | .non, n, _ => ⟨by simp [D.py, PyData.canLay0], by simp [D.py, PyData.depth]⟩
  | .bl _, n, _ => ⟨by simp [D.py, PyData.canLay0], by simp [D.py, PyData.depth]⟩
  | .int _, n, _ => ⟨by simp [D.py, PyData.canLay0], by simp [D.py, PyData.depth]⟩
  | .str s, n, h => ⟨by simpa [D.py, PyData.canLay0, D.okE] using h, by simp [D.py, PyData.depth]⟩
  | .tup l, n, h => by
    obtain ⟨h1, h2⟩ := Bool.and_eq_true_iff.mp (by simpa only [D.okE] using h)
    obtain ⟨q1, q2⟩ := D.okEs_lay l _ h2
    have h1 := of_decide_eq_true h1
    exact ⟨by simpa [D.py, PyData.canLay0] using q1, by simp only [D.py, PyData.depth]; omega⟩
  | .lst l, n, h => by
    obtain ⟨h1, h2⟩ := Bool.and_eq_true_iff.mp (by simpa only [D.okE] using h)
    obtain ⟨q1, q2⟩ := D.okEs_lay l _ h2
    have h1 := of_decide_eq_true h1
    exact ⟨by simpa [D.py, PyData.canLay0] using q1, by simp only [D.py, PyData.depth]; omega⟩
  | .klst l, n, h => by
    obtain ⟨h1, h2⟩ := Bool.and_eq_true_iff.mp (by simpa only [D.okE] using h)
    obtain ⟨q1, q2⟩ := D.okEs_lay l _ h2
    have h1 := of_decide_eq_true h1
    exact ⟨by simpa [D.py, PyData.canLay0] using q1, by simp only [D.py, PyData.depth]; omega⟩
  | .ref _, n, h => by simp [D.okE] at h
theorem D.okEs_lay : ∀ (d : List D) (n : Nat), D.okEs d n = true → PyData.canLayAll0 (D.pys d) = true ∧ PyData.depthAll (D.pys d) ≤ n
  | [], n, _ => ⟨by simp [D.pys, PyData.canLayAll0], by simp [D.pys, PyData.depthAll]⟩
  | d :: ds, n, h => by
    obtain ⟨h1, h2⟩ := Bool.and_eq_true_iff.mp (by simpa only [D.okEs] using h)
    obtain ⟨q1, q2⟩ := D.okE_lay d _ h1
    obtain ⟨q3, q4⟩ := D.okEs_lay ds _ h2
    exact ⟨by simp [D.pys, PyData.canLayAll0, q1, q3], by simp only [D.pys, PyData.depthAll]; omega⟩
end
theorem D.okE_shaped {d : D} (h : d.okE 60 = true) : SeqAt.shaped d.py = true := by
  obtain ⟨h1, h2⟩ := d.okE_lay _ h
  unfold SeqAt.shaped
  rw [h1, Bool.true_and]
  exact decide_eq_true (Nat.le_trans h2 (by decide))
mutual
theorem D.dp {K : KF} {F : Addr → Prop} {H : Hp} : ∀ (d : D) (n : Nat) {v : V}, d.okE n = true → RD K F H d v → Dp K H v d.py
  | .non, _, v, _, h => by cases h; exact .non
  | .bl b, _, v, _, h => by cases h; exact .bl b
  | .int b, _, v, _, h => by cases h; exact .int b
  | .str b, _, v, _, h => by cases h; exact .str b
  | .tup l, n, v, o, h => by
    obtain ⟨a, vs, rfl, h1, h2⟩ := h
    exact .tup h1 (D.dps l _ (Bool.and_eq_true_iff.mp (by simpa only [D.okE] using o)).2 h2)
  | .lst l, n, v, o, h => by
    obtain ⟨a, vs, rfl, h1, h2⟩ := h
    exact .lst (SqL.of h1.2) (D.dps l _ (Bool.and_eq_true_iff.mp (by simpa only [D.okE] using o)).2 h2)
  | .klst l, n, v, o, h => by
    obtain ⟨a, vs, rfl, h1, h2⟩ := h
    exact .lst h1.sq (D.dps l _ (Bool.and_eq_true_iff.mp (by simpa only [D.okE] using o)).2 h2)
  | .ref _, _, _, o, _ => by simp [D.okE] at o
theorem D.dps {K : KF} {F : Addr → Prop} {H : Hp} : ∀ (d : List D) (n : Nat) {v : List V}, D.okEs d n = true → RDs K F H d v → DpAll K H v (D.pys d)
  | [], _, v, _, h => by cases h; exact .nil
  | d :: ds, n, v, o, h => by
    obtain ⟨x, r, rfl, h1, h2⟩ := h
    obtain ⟨o1, o2⟩ := Bool.and_eq_true_iff.mp (by simpa only [D.okEs] using o)
    exact .cons (D.dp d n o1 h1) (D.dps ds n o2 h2)
end
theorem D.dpw {K : KF} {w : Wd} {d : D} {v : V} (o : d.okE 60 = true) (h : RDw K w d v) : Dp K w.H v d.py := by
  cases d with
  | lst l =>
    obtain ⟨a, vs, rfl, h1, _, h2⟩ := h
    exact .lst (SqL.of h1) (D.dps l _ (Bool.and_eq_true_iff.mp (by simpa only [D.okE] using o)).2 h2)
  | non => exact D.dp (F := w.F) .non 60 o h
  | bl b => exact D.dp (F := w.F) (.bl b) 60 o h
  | int b => exact D.dp (F := w.F) (.int b) 60 o h
  | str b => exact D.dp (F := w.F) (.str b) 60 o h
  | tup b => exact D.dp (F := w.F) (.tup b) 60 o h
  | klst b => exact D.dp (F := w.F) (.klst b) 60 o h
  | ref b => exact D.dp (F := w.F) (.ref b) 60 o h
def eqD (x y : D) : Bool := PyData.eqv x.py y.py
def fEq : F2 := fun _ x y k => (x.okE 60 = true ∧ y.okE 60 = true) ∧ k (.bl (eqD x y))
def fNe : F2 := fun _ x y k => (x.okE 60 = true ∧ y.okE 60 = true) ∧ k (.bl (!eqD x y))
/-- flat data: none, truths, numbers, texts -/
def D.flat : D → Bool
  | .non => true
  | .bl _ => true
  | .int _ => true
  | .str _ => true
  | _ => false
def inD (x : D) (l : List D) : Bool := l.any fun z => eqD z x
def fIn : F2 := fun _ x y k => match y with
  | .lst l => (x.okE 60 = true ∧ y.okE 60 = true) ∧ k (.bl (inD x l))
  | .klst l => (x.okE 60 = true ∧ y.okE 60 = true) ∧ k (.bl (inD x l))
  | .tup l => (x.flat = true ∧ l.all D.flat = true) ∧ k (.bl (inD x l))
  | _ => False
def fNin : F2 := fun _ x y k => match y with
  | .lst l => (x.okE 60 = true ∧ y.okE 60 = true) ∧ k (.bl (!inD x l))
  | .klst l => (x.okE 60 = true ∧ y.okE 60 = true) ∧ k (.bl (!inD x l))
  | .tup l => (x.flat = true ∧ l.all D.flat = true) ∧ k (.bl (!inD x l))
  | _ => False
section
variable {X : Cx} {T : Tb}
theorem RDw.isN {K : KF} {w : Wd} {x : D} {v : V} (r : RDw K w x v) : decide (v = .non) = x.isN := by
  cases x with
  | non => cases r; rfl
  | bl _ => cases r; rfl
  | int _ => cases r; rfl
  | str _ => cases r; rfl
  | tup _ => obtain ⟨a, vs, rfl, _⟩ := r; rfl
  | lst _ => obtain ⟨a, vs, rfl, _⟩ := r; rfl
  | klst _ => obtain ⟨a, vs, rfl, _⟩ := r; rfl
  | ref _ => cases r; rfl
theorem pIsN : P2Ok X T (fun x y H Q => y = .non ∧ Q (.bl (decide (x = .non))) H) fIsN := by
  intro w x y v u k Q ok rx ry h hk
  cases y <;> first | exact h.elim | skip
  cases ry
  exact ⟨rfl, hk.one (d := .bl _) ok (by rw [rx.isN]; rfl) h⟩
theorem pNotN : P2Ok X T (fun x y H Q => y = .non ∧ Q (.bl (!decide (x = .non))) H) fNotN := by
  intro w x y v u k Q ok rx ry h hk
  cases y <;> first | exact h.elim | skip
  cases ry
  exact ⟨rfl, hk.one (d := .bl _) ok (by rw [rx.isN]; rfl) h⟩
theorem pLt : P2Ok X T (rI0 fun i j => .bl (decide (i < j))) fLt := by
  intro w x y v u k Q ok rx ry h hk
  cases x <;> cases y <;> first | exact h.elim | skip
  cases rx; cases ry
  exact ⟨_, _, rfl, rfl, hk.one (d := .bl _) ok rfl h⟩
theorem pLe : P2Ok X T (rI0 fun i j => .bl (decide (i ≤ j))) fLe := by
  intro w x y v u k Q ok rx ry h hk
  cases x <;> cases y <;> first | exact h.elim | skip
  cases rx; cases ry
  exact ⟨_, _, rfl, rfl, hk.one (d := .bl _) ok rfl h⟩
theorem pGt : P2Ok X T (rI0 fun i j => .bl (decide (j < i))) fGt := by
  intro w x y v u k Q ok rx ry h hk
  cases x <;> cases y <;> first | exact h.elim | skip
  cases rx; cases ry
  exact ⟨_, _, rfl, rfl, hk.one (d := .bl _) ok rfl h⟩
theorem pGe : P2Ok X T (rI0 fun i j => .bl (decide (j ≤ i))) fGe := by
  intro w x y v u k Q ok rx ry h hk
  cases x <;> cases y <;> first | exact h.elim | skip
  cases rx; cases ry
  exact ⟨_, _, rfl, rfl, hk.one (d := .bl _) ok rfl h⟩
theorem pEq : P2Ok X T (rEqD X.K) fEq := fun w x y v u k Q ok rx ry h hk =>
  ⟨x.py, y.py, D.dpw h.1.1 rx, D.dpw h.1.2 ry, D.okE_shaped h.1.1, D.okE_shaped h.1.2, hk.one (d := .bl _) ok rfl h.2⟩
theorem pNe : P2Ok X T (rNeD X.K) fNe := fun w x y v u k Q ok rx ry h hk =>
  ⟨x.py, y.py, D.dpw h.1.1 rx, D.dpw h.1.2 ry, D.okE_shaped h.1.1, D.okE_shaped h.1.2, hk.one (d := .bl _) ok rfl h.2⟩
theorem any_pys (p : PyData) : ∀ l : List D, ((D.pys l).any fun z => PyData.eqv z p) = l.any fun z => PyData.eqv z.py p
  | [] => rfl
  | d :: l => by simp only [D.pys, List.any_cons, any_pys p l]
theorem flat_v {K : KF} {F : Addr → Prop} {H : Hp} {d : D} {v : V} (f : d.flat = true) (r : RD K F H d v) : flatV v = true := by
  cases d <;> first | (cases r; rfl) | cases f
theorem flat_vw {K : KF} {w : Wd} {d : D} {v : V} (f : d.flat = true) (r : RDw K w d v) : flatV v = true := by
  cases d <;> first | (cases r; rfl) | cases f
theorem flat_vs {K : KF} {F : Addr → Prop} {H : Hp} : ∀ {d : List D} {v : List V}, d.all D.flat = true → RDs K F H d v → v.all flatV = true
  | [], v, _, r => by cases r; rfl
  | d :: ds, v, f, r => by
    obtain ⟨x, y, rfl, h1, h2⟩ := r
    obtain ⟨f1, f2⟩ := Bool.and_eq_true_iff.mp (by simpa only [List.all_cons] using f)
    simp only [List.all_cons, flat_v f1 h1, flat_vs f2 h2, Bool.and_self]
theorem eqV_flat {K : KF} {F F' : Addr → Prop} {H H' : Hp} {x y : D} {v u : V} (fx : x.flat = true) (fy : y.flat = true) (rx : RD K F H x v) (ry : RD K F' H' y u) : eqV v u = eqD x y := by
  cases x <;> first | (exact absurd fx Bool.false_ne_true) | (cases rx; cases y <;> first | (exact absurd fy Bool.false_ne_true) | (cases ry; simp [eqV, eqD, D.py, PyData.eqv]))
theorem inV_flat {K : KF} {F F' : Addr → Prop} {H H' : Hp} {x : D} {v : V} (fx : x.flat = true) (rx : RD K F H x v) : ∀ {l : List D} {vs : List V}, l.all D.flat = true → RDs K F' H' l vs → inV v vs = inD x l
  | [], vs, _, r => by cases r; rfl
  | d :: ds, vs, f, r => by
    obtain ⟨z, y, rfl, h1, h2⟩ := r
    obtain ⟨f1, f2⟩ := Bool.and_eq_true_iff.mp (by simpa only [List.all_cons] using f)
    have ih := inV_flat fx rx f2 h2
    unfold inV inD at *
    simp only [List.any_cons, ih, eqV_flat f1 fx h1 rx]
theorem RDw.flat {K : KF} {w : Wd} {d : D} {v : V} (f : d.flat = true) (r : RDw K w d v) : RD K w.F w.H d v := by
  cases d <;> first | exact r | cases f
theorem pIn : P2Ok X T (fun x y H Q => rInD X.K x y H Q ∨ rIn X.K false x y H Q) fIn := by
  intro w x y v u k Q ok rx ry h hk
  cases y <;> first | exact h.elim | skip
  · obtain ⟨a, vs, rfl, ha, ra⟩ := ry
    exact .inr ⟨a, vs, rfl, .inr ha, flat_vw h.1.1 rx, flat_vs h.1.2 ra, hk.one (d := .bl _) ok (by rw [inV_flat h.1.1 (rx.flat h.1.1) h.1.2 ra]; rfl) h.2⟩
  · exact .inl ⟨x.py, _, D.dpw h.1.1 rx, D.dpw h.1.2 ry, D.okE_shaped h.1.1, D.okE_shaped h.1.2, hk.one (d := .bl _) ok (by rw [any_pys]; rfl) h.2⟩
  · exact .inl ⟨x.py, _, D.dpw h.1.1 rx, D.dpw h.1.2 ry, D.okE_shaped h.1.1, D.okE_shaped h.1.2, hk.one (d := .bl _) ok (by rw [any_pys]; rfl) h.2⟩
theorem pNin : P2Ok X T (fun x y H Q => rNotInD X.K x y H Q ∨ rIn X.K true x y H Q) fNin := by
  intro w x y v u k Q ok rx ry h hk
  cases y <;> first | exact h.elim | skip
  · obtain ⟨a, vs, rfl, ha, ra⟩ := ry
    exact .inr ⟨a, vs, rfl, .inr ha, flat_vw h.1.1 rx, flat_vs h.1.2 ra, hk.one (d := .bl _) ok (by rw [inV_flat h.1.1 (rx.flat h.1.1) h.1.2 ra]; rfl) h.2⟩
  · exact .inl ⟨x.py, _, D.dpw h.1.1 rx, D.dpw h.1.2 ry, D.okE_shaped h.1.1, D.okE_shaped h.1.2, hk.one (d := .bl _) ok (by rw [any_pys]; rfl) h.2⟩
  · exact .inl ⟨x.py, _, D.dpw h.1.1 rx, D.dpw h.1.2 ry, D.okE_shaped h.1.1, D.okE_shaped h.1.2, hk.one (d := .bl _) ok (by rw [any_pys]; rfl) h.2⟩
end
end TL

set_option Elab.async false
set_option linter.all false
set_option maxRecDepth 100000
set_option maxHeartbeats 1000000
/-! T6: comparisons in short, subscripts, slices, built-ins. -/
namespace TL
open PySem PySem.Spec PyProof.Rows L2

section
variable {X : Cx} {T : Tb} {W : WX} {a b : Expr} {ma mb : ME} {pos : Pos}
theorem s_lt (ha : SEw X T W a ma) (hb : SEw X T W b mb) : SE X T W (.Compare a [.Lt] [b] pos) (mBin fLt ma mb) := s_cmp op_lt pLt ha hb (nomark _)
theorem s_le (ha : SEw X T W a ma) (hb : SEw X T W b mb) : SE X T W (.Compare a [.LtE] [b] pos) (mBin fLe ma mb) := s_cmp op_le pLe ha hb (nomark _)
theorem s_gt (ha : SEw X T W a ma) (hb : SEw X T W b mb) : SE X T W (.Compare a [.Gt] [b] pos) (mBin fGt ma mb) := s_cmp op_gt pGt ha hb (nomark _)
theorem s_ge (ha : SEw X T W a ma) (hb : SEw X T W b mb) : SE X T W (.Compare a [.GtE] [b] pos) (mBin fGe ma mb) := s_cmp op_ge pGe ha hb (nomark _)
theorem s_is (ha : SEw X T W a ma) (hb : SEw X T W b mb) : SE X T W (.Compare a [.Is] [b] pos) (mBin fIsN ma mb) := s_cmp op_isN pIsN ha hb (nomark _)
theorem s_isnot (ha : SEw X T W a ma) (hb : SEw X T W b mb) : SE X T W (.Compare a [.IsNot] [b] pos) (mBin fNotN ma mb) := s_cmp op_notN pNotN ha hb (nomark _)
theorem s_eq (hu : X.A.units + 64 < cLine) (ha : SEw X T W a ma) (hb : SEw X T W b mb) : SE X T W (.Compare a [.Eq] [b] pos) (mBin fEq ma mb) := s_cmp (op_eqD hu) pEq ha hb (nomark _)
theorem s_ne (hu : X.A.units + 64 < cLine) (ha : SEw X T W a ma) (hb : SEw X T W b mb) : SE X T W (.Compare a [.NotEq] [b] pos) (mBin fNe ma mb) := s_cmp (op_neD hu) pNe ha hb (nomark _)
theorem s_in (hu : X.A.units + 65 < cLine) (ha : SEw X T W a ma) (hb : SEw X T W b mb) (hm : behindInMarks .In b = false := by rfl) : SE X T W (.Compare a [.In] [b] pos) (mBin fIn ma mb) := s_cmp ((op_inD hu).or op_in_seq) pIn ha hb hm
theorem s_nin (hu : X.A.units + 65 < cLine) (ha : SEw X T W a ma) (hb : SEw X T W b mb) (hm : behindInMarks .NotIn b = false := by rfl) : SE X T W (.Compare a [.NotIn] [b] pos) (mBin fNin ma mb) := s_cmp ((op_notInD hu).or op_notIn_seq) pNin ha hb hm
theorem t_lt (ha : SEw X T W a ma) (hb : SEw X T W b mb) : ST X T W (.Compare a [.Lt] [b] pos) (mBinT fLt ma mb) := t_cmp op_lt pLt ha hb (nomark _)
theorem t_le (ha : SEw X T W a ma) (hb : SEw X T W b mb) : ST X T W (.Compare a [.LtE] [b] pos) (mBinT fLe ma mb) := t_cmp op_le pLe ha hb (nomark _)
theorem t_gt (ha : SEw X T W a ma) (hb : SEw X T W b mb) : ST X T W (.Compare a [.Gt] [b] pos) (mBinT fGt ma mb) := t_cmp op_gt pGt ha hb (nomark _)
theorem t_ge (ha : SEw X T W a ma) (hb : SEw X T W b mb) : ST X T W (.Compare a [.GtE] [b] pos) (mBinT fGe ma mb) := t_cmp op_ge pGe ha hb (nomark _)
theorem t_is (ha : SEw X T W a ma) (hb : SEw X T W b mb) : ST X T W (.Compare a [.Is] [b] pos) (mBinT fIsN ma mb) := t_cmp op_isN pIsN ha hb (nomark _)
theorem t_isnot (ha : SEw X T W a ma) (hb : SEw X T W b mb) : ST X T W (.Compare a [.IsNot] [b] pos) (mBinT fNotN ma mb) := t_cmp op_notN pNotN ha hb (nomark _)
theorem t_eq (hu : X.A.units + 64 < cLine) (ha : SEw X T W a ma) (hb : SEw X T W b mb) : ST X T W (.Compare a [.Eq] [b] pos) (mBinT fEq ma mb) := t_cmp (op_eqD hu) pEq ha hb (nomark _)
theorem t_ne (hu : X.A.units + 64 < cLine) (ha : SEw X T W a ma) (hb : SEw X T W b mb) : ST X T W (.Compare a [.NotEq] [b] pos) (mBinT fNe ma mb) := t_cmp (op_neD hu) pNe ha hb (nomark _)
theorem t_in (hu : X.A.units + 65 < cLine) (ha : SEw X T W a ma) (hb : SEw X T W b mb) (hm : behindInMarks .In b = false := by rfl) : ST X T W (.Compare a [.In] [b] pos) (mBinT fIn ma mb) := t_cmp ((op_inD hu).or op_in_seq) pIn ha hb hm
theorem t_nin (hu : X.A.units + 65 < cLine) (ha : SEw X T W a ma) (hb : SEw X T W b mb) (hm : behindInMarks .NotIn b = false := by rfl) : ST X T W (.Compare a [.NotIn] [b] pos) (mBinT fNin ma mb) := t_cmp ((op_notInD hu).or op_notIn_seq) pNin ha hb hm
end

/-! ### a op b op' c -/
def mCh (f g : F2) (a b c : ME) : ME := fun ρ S Q E => a ρ S (fun x S1 => b ρ S1 (fun y S2 => f S2 x y (isB fun k => if k = true then c ρ S2 (fun z S3 => g S3 y z (fun d => Q d S3)) E else Q (.bl false) S2)) E) E
def mChT (f g : F2) (a b c : ME) : MT := fun ρ S Q E => a ρ S (fun x S1 => b ρ S1 (fun y S2 => f S2 x y (isB fun k => if k = true then c ρ S2 (fun z S3 => g S3 y z (isB fun d => Q d S3)) E else Q false S2)) E) E
section
variable {X : Cx} {T : Tb} {W : WX} {a b c : Expr} {ma mb mc : ME} {pos : Pos}
theorem s_chain {op op' : CmpOp} {r r' : R2} {f g : F2} (ho : OpR X (compareOp op) r) (ho' : OpR X (compareOp op') r') (hp : P2Ok X T r f) (hp' : P2Ok X T r' g) (ha : SEw X T W a ma) (hb : SEw X T W b mb) (hc : SEw X T W c mc)
    (hm : lastMarks [op, op'] [b, c] = false := by with_unfolding_all rfl) : SE X T W (.Compare a [op, op'] [b, c] pos) (mCh f g ma mb mc) := by
  refine ⟨(pe_chain ho ho' ha.run hb.run hc.run hm).tlw fun σ H Q h => ?_⟩
  obtain ⟨w, ρ, Q1, E1, rfl, ok, re, h, hq, hx⟩ := h
  refine ⟨w, ρ, _, _, rfl, ok, re, h, fun x S1 h w1 v e1 ok1 le1 r1 => ?_, hx⟩
  subst e1
  refine ⟨w1, ρ, _, _, rfl, ok1, re.le le1 ok, h, fun y S2 h w2 u e2 ok2 le2 r2 => ?_, fun c d S' z => (hx c d S' z).le le1⟩
  subst e2
  refine hp w2 x y v u _ _ ok2 (r1.le le2 ok1) r2 h fun d kd w3 z e3 ok3 le3 r3 => ?_
  cases d with
  | bl k =>
    refine ⟨k, r3, ?_⟩
    cases k with
    | true =>
      have kd' : mc ρ w2.S (fun z S3 => g S3 y z (fun d => Q1 d S3)) E1 := kd
      rw [← e3] at kd'
      refine ⟨w3, ρ, _, _, rfl, ok3, re.le ((le1.trans le2).trans le3) ok, kd', fun z' S4 h4 w4 t e4 ok4 le4 r4 => ?_, fun c d S' z => (hx c d S' z).le ((le1.trans le2).trans le3)⟩
      subst e4
      exact hp' w4 y z' u t _ Q ok4 (r2.le (le3.trans le4) ok2) r4 h4 fun d kd w5 z5 e5 ok5 le5 r5 => hq _ _ kd w5 z5 e5 ok5 ((((le1.trans le2).trans le3).trans le4).trans le5) r5
    | false => exact hq _ _ kd w3 (.bl false) e3 ok3 ((le1.trans le2).trans le3) rfl
  | _ => exact kd.elim
theorem t_chain {op op' : CmpOp} {r r' : R2} {f g : F2} (ho : OpR X (compareOp op) r) (ho' : OpR X (compareOp op') r') (hp : P2Ok X T r f) (hp' : P2Ok X T r' g) (ha : SEw X T W a ma) (hb : SEw X T W b mb) (hc : SEw X T W c mc)
    (hm : lastMarks [op, op'] [b, c] = false := by with_unfolding_all rfl) : ST X T W (.Compare a [op, op'] [b, c] pos) (mChT f g ma mb mc) := by
  refine ⟨(pt_chain ho ho' ha.run hb.run hc.run hm).tlw fun σ H Q h => ?_⟩
  obtain ⟨w, ρ, Q1, E1, rfl, ok, re, h, hq, hx⟩ := h
  refine ⟨w, ρ, _, _, rfl, ok, re, h, fun x S1 h w1 v e1 ok1 le1 r1 => ?_, hx⟩
  subst e1
  refine ⟨w1, ρ, _, _, rfl, ok1, re.le le1 ok, h, fun y S2 h w2 u e2 ok2 le2 r2 => ?_, fun c d S' z => (hx c d S' z).le le1⟩
  subst e2
  refine hp w2 x y v u _ _ ok2 (r1.le le2 ok1) r2 h fun d kd w3 z e3 ok3 le3 r3 => ?_
  cases d with
  | bl k =>
    refine ⟨k, r3, ?_⟩
    cases k with
    | true =>
      have kd' : mc ρ w2.S (fun z S3 => g S3 y z (isB fun d => Q1 d S3)) E1 := kd
      rw [← e3] at kd'
      refine ⟨w3, ρ, _, _, rfl, ok3, re.le ((le1.trans le2).trans le3) ok, kd', fun z' S4 h4 w4 t e4 ok4 le4 r4 => ?_, fun c d S' z => (hx c d S' z).le ((le1.trans le2).trans le3)⟩
      subst e4
      refine hp' w4 y z' u t _ _ ok4 (r2.le (le3.trans le4) ok2) r4 h4 fun d kd w5 z5 e5 ok5 le5 r5 => ?_
      cases d with
      | bl k => exact ⟨k, r5, hq _ _ kd w5 e5 ok5 ((((le1.trans le2).trans le3).trans le4).trans le5)⟩
      | _ => exact kd.elim
    | false => exact ⟨false, rfl, hq _ _ kd w3 e3 ok3 ((le1.trans le2).trans le3)⟩
  | _ => exact kd.elim
end

/-! ### subscripts -/
def fIx : F2 := fun S x y k => match x, y with
  | .tup l, .int i => ∃ d, atI l i = some d ∧ k d
  | .lst l, .int i => ∃ d, atI l i = some d ∧ k d
  | .klst l, .int i => ∃ d, atI l i = some d ∧ k d
  | .ref a, .int i => ∃ l, S a = some (.lst l) ∧ ∃ d, atI l i = some d ∧ k d
  | _, _ => False
theorem at_RD {K : KF} {F : Addr → Prop} {H : Hp} {ds : List D} {vs : List V} {i : Int} {d : D} (r : RDs K F H ds vs) (h : atI ds i = some d) : ∃ v, atI vs i = some v ∧ RD K F H d v := by
  unfold atI at *
  rw [r.length]
  cases q : ixN ds.length i with
  | none => rw [q] at h; cases h
  | some j =>
    rw [q] at h
    obtain ⟨v, e, r⟩ := r.get (show ds[j]? = some d from h)
    exact ⟨v, e, r⟩
def cutA {α : Type} (xs : List α) (lo hi : Option Int) : List α := (xs.drop (HT.sIx xs.length 0 lo)).take (HT.sIx xs.length xs.length hi - HT.sIx xs.length 0 lo)
abbrev F3 := Store → D → Option Int → Option Int → (D → Prop) → Prop
def fSl : F3 := fun _ x lo hi k => match x with
  | .tup l => k (.tup (cutA l lo hi))
  | .lst l => k (.lst (cutA l lo hi))
  | _ => False
/-- a slice's part -/
abbrev MO := Ro → Store → (Option Int → Store → Prop) → XKd → Prop
def mNo : MO := fun _ S Q _ => Q none S
def mSome (m : ME) : MO := fun ρ S Q E => m ρ S (fun d S1 => match d with
  | .int i => Q (some i) S1
  | _ => False) E
def mSl (m : ME) (lo hi : MO) : ME := fun ρ S Q E => m ρ S (fun x S1 => lo ρ S1 (fun l S2 => hi ρ S2 (fun u S3 => fSl S3 x l u (fun d => Q d S3)) E) E) E
section
variable {X : Cx} {T : Tb} {W : WX} {a b : Expr} {ma mb : ME} {pos p2 : Pos}
theorem pIx : P2Ok X T (fun x y H Q => rIxL X.K x y H Q ∨ rIxT X.K x y H Q) fIx := by
  intro w x y v u k Q ok rx ry h hk
  cases x <;> cases y <;> first | exact h.elim | skip
  · obtain ⟨p, vs, rfl, hp, r⟩ := rx
    cases ry
    obtain ⟨d, e, kd⟩ := h
    obtain ⟨v, ev, rv⟩ := at_RD r e
    exact .inr ⟨p, vs, _, v, rfl, rfl, hp, ev, hk.one ok rv kd⟩
  · obtain ⟨p, vs, rfl, hp, _, r⟩ := rx
    cases ry
    obtain ⟨d, e, kd⟩ := h
    obtain ⟨v, ev, rv⟩ := at_RD r e
    exact .inl ⟨p, vs, _, v, rfl, rfl, SqL.of hp, ev, hk.one ok rv kd⟩
  · obtain ⟨p, vs, rfl, hp, r⟩ := rx
    cases ry
    obtain ⟨d, e, kd⟩ := h
    obtain ⟨v, ev, rv⟩ := at_RD r e
    exact .inl ⟨p, vs, _, v, rfl, rfl, hp.sq, ev, hk.one ok rv kd⟩
  · cases rx
    cases ry
    obtain ⟨l, hl, d, e, kd⟩ := h
    obtain ⟨vs, hp, r, _⟩ := ok.cell _ _ hl
    obtain ⟨v, ev, rv⟩ := at_RD r e
    exact .inl ⟨_, vs, _, v, rfl, rfl, SqL.of hp, ev, hk.one ok rv kd⟩
theorem s_ix (ha : SEw X T W a ma) (hb : SEw X T W b mb) (hs : PlainIx b := by exact fun _ _ => rfl) : SE X T W (.Subscript a b pos) (mBin fIx ma mb) :=
  ⟨(pe_ix (ix_list.or ix_tup) ha.run hb.run hs).tlw fun σ H Q h => op2 pIx h⟩
structure SO (X : Cx) (T : Tb) (W : WX) (e : Option Expr) (m : MO) : Prop where
  run : PO X e (fun σ H Q => ∃ (w : Wd) (ρ : Ro) (Q1 : Option Int → Store → Prop) (E1 : XKd), w.H = H ∧ Ok X.K T w ∧ RE X.K w ρ σ ∧ m ρ w.S Q1 E1 ∧
    (∀ i S', Q1 i S' → ∀ w', w'.S = S' → Ok X.K T w' → Le w w' → Q i w'.H) ∧ (∀ c d S', E1 c d S' → XPost X T W w σ c d S'))
theorem so_no : SO X T W none mNo := by
  refine ⟨⟨fun pins s σ H Q I h => ?_⟩⟩
  obtain ⟨w, ρ, Q1, E1, rfl, ok, re, h, hq, hx⟩ := h
  exact po_none.run pins s σ w.H Q I (hq _ _ h w rfl ok .refl)
theorem so_some (h : SE X T W a ma) : SO X T W (some a) (mSome ma) := by
  refine ⟨⟨fun pins s σ H Q I h' => ?_⟩⟩
  obtain ⟨w, ρ, Q1, E1, rfl, ok, re, h', hq, hx⟩ := h'
  refine (po_some h.run).run pins s σ w.H Q I ⟨w, ρ, _, _, rfl, ok, re, h', fun d S1 h1 w1 v e1 ok1 le1 r1 => ?_, hx⟩
  cases d with
  | int i => exact ⟨i, r1, hq _ _ h1 w1 e1 ok1 le1⟩
  | _ => exact h1.elim
theorem cut_RD {K : KF} {F : Addr → Prop} {H : Hp} {ds : List D} {vs : List V} (r : RDs K F H ds vs) (lo hi : Option Int) : RDs K F H (cutA ds lo hi) (cutV vs lo hi) := by
  unfold cutA cutV
  rw [r.length]
  exact (r.drop _).take _
theorem s_sl {lo hi : Option Expr} {ml mh : MO} (ha : SEw X T W a ma) (hl : SO X T W lo ml) (hh : SO X T W hi mh) : SE X T W (.Subscript a (.Slice lo hi none p2) pos) (mSl ma ml mh) := by
  refine ⟨(pe_slice (sl_tupA.or sl_list) ha.run hl.run hh.run).tlw fun σ H Q h => ?_⟩
  obtain ⟨w, ρ, Q1, E1, rfl, ok, re, h, hq, hx⟩ := h
  refine ⟨w, ρ, _, _, rfl, ok, re, h, fun x S1 h w1 v e1 ok1 le1 r1 => ?_, hx⟩
  subst e1
  refine ⟨w1, ρ, _, _, rfl, ok1, re.le le1 ok, h, fun lo' S2 h w2 e2 ok2 le2 => ?_, fun c d S' z => (hx c d S' z).le le1⟩
  subst e2
  refine ⟨w2, ρ, _, _, rfl, ok2, re.le (le1.trans le2) ok, h, fun hi' S3 h w3 e3 ok3 le3 => ?_, fun c d S' z => (hx c d S' z).le (le1.trans le2)⟩
  subst e3
  have r3 := r1.le (le2.trans le3) ok1
  have hk : KOk X T w3 (fun d => Q1 d w3.S) Q := fun d kd w4 z e4 ok4 le4 r4 => hq _ _ kd w4 z e4 ok4 (((le1.trans le2).trans le3).trans le4) r4
  cases x with
  | tup l =>
    obtain ⟨p, vs, rfl, hp, r⟩ := r3
    refine .inl ⟨p, vs, rfl, hp, fun e => ?_, fun ne p' np => hk.tup ok3 (cut_RD r _ _) h np⟩
    have ec : cutA l lo' hi' = l := by
      unfold cutA
      rw [← r.length, e.1, e.2, List.drop_zero, Nat.sub_zero, r.length, List.take_length]
    have h : Q1 (.tup (cutA l lo' hi')) w3.S := h
    rw [ec] at h
    exact hk.one (d := .tup l) ok3 ⟨p, vs, rfl, hp, r⟩ h
  | lst l =>
    obtain ⟨p, vs, rfl, hp, _, r⟩ := r3
    exact .inr ⟨p, vs, rfl, SqL.of hp, fun p' np => hk.lst ok3 (cut_RD r _ _) h np⟩
  | _ => exact h.elim
end

/-! ### built-ins by values -/
def D.ty : D → String
  | .non => "NoneType"
  | .bl _ => "bool"
  | .int _ => "int"
  | .str _ => "str"
  | .tup _ => "tuple"
  | .lst _ => "list"
  | .klst _ => "list"
  | .ref _ => "list"
/-- isinstance(x, n): int, bool, str, tuple, list -/
def D.isA (n : String) : D → Bool
  | .non => false
  | .bl _ => n == "bool" || n == "int"
  | .int _ => n == "int"
  | .str _ => n == "str"
  | .tup _ => n == "tuple"
  | .lst _ => n == "list"
  | .klst _ => n == "list"
  | .ref _ => n == "list"
def fIsi (n : String) : Fs := fun S ds k => match ds with
  | [x, _] => (match x with
    | .ref a => ∃ l, S a = some (.lst l)
    | _ => True) ∧ k (.bl (x.isA n))
  | _ => False
def fLen : Fs := fun S ds k => match ds with
  | [.tup l] => k (.int l.length)
  | [.lst l] => k (.int l.length)
  | [.klst l] => k (.int l.length)
  | [.ref a] => ∃ l, S a = some (.lst l) ∧ k (.int l.length)
  | _ => False
def fInt : Fs := fun _ ds k => match ds with
  | [.int i] => k (.int i)
  | [.bl b] => k (.int (if b then 1 else 0))
  | _ => False
def fMax2 : Fs := fun _ ds k => match ds with
  | [.int i, .int j] => k (.int (if j > i then j else i))
  | _ => False
def fMin2 : Fs := fun _ ds k => match ds with
  | [.int i, .int j] => k (.int (if j < i then j else i))
  | _ => False
def fAbs : Fs := fun _ ds k => match ds with
  | [.int i] => k (.int (if i < 0 then -i else i))
  | _ => False
def fList : Fs := fun S ds k => match ds with
  | [.tup l] => k (.lst l)
  | [.lst l] => k (.lst l)
  | [.klst l] => k (.lst l)
  | [.ref a] => ∃ l, S a = some (.lst l) ∧ k (.lst l)
  | _ => False
def fTuple : Fs := fun S ds k => match ds with
  | [.tup l] => k (.tup l)
  | [.lst l] => k (.tup l)
  | [.klst l] => k (.tup l)
  | [.ref a] => ∃ l, S a = some (.lst l) ∧ k (.tup l)
  | _ => False
section
variable {X : Cx} {T : Tb} {W : WX}
theorem RDws.one {K : KF} {w : Wd} {d : D} {vs : List V} (h : RDws K w [d] vs) : ∃ v, vs = [v] ∧ RDw K w d v := by
  obtain ⟨v, r, rfl, h1, h2⟩ := h
  cases h2
  exact ⟨v, rfl, h1⟩
theorem RDws.two {K : KF} {w : Wd} {d e : D} {vs : List V} (h : RDws K w [d, e] vs) : ∃ v u, vs = [v, u] ∧ RDw K w d v ∧ RDw K w e u := by
  obtain ⟨v, r, rfl, h1, h2⟩ := h
  obtain ⟨u, rfl, h3⟩ := RDws.one h2
  exact ⟨v, u, rfl, h1, h3⟩
theorem pLen : PsOk X T (fun xs H Q => ∃ p ys, xs = [.ref p] ∧ (SqL X.K H p ys ∨ SqT X.K H p ys) ∧ Q (.int ys.length) H) fLen := by
  intro w ds vs k Q ok r h hk
  unfold fLen at h
  split at h
  · obtain ⟨v, rfl, a, us, rfl, ha, ra⟩ := r.one
    exact ⟨a, us, rfl, .inr ha, hk.one (d := .int _) ok (by rw [ra.length]; rfl) h⟩
  · obtain ⟨v, rfl, a, us, rfl, ha, _, ra⟩ := r.one
    exact ⟨a, us, rfl, .inl (SqL.of ha), hk.one (d := .int _) ok (by rw [ra.length]; rfl) h⟩
  · obtain ⟨v, rfl, a, us, rfl, ha, ra⟩ := r.one
    exact ⟨a, us, rfl, .inl ha.sq, hk.one (d := .int _) ok (by rw [ra.length]; rfl) h⟩
  · obtain ⟨v, rfl, ra⟩ := r.one
    cases ra
    obtain ⟨l, hl, h⟩ := h
    obtain ⟨us, ha, ra, _⟩ := ok.cell _ _ hl
    exact ⟨_, us, rfl, .inl (SqL.of ha), hk.one (d := .int _) ok (by rw [ra.length]; rfl) h⟩
  · exact h.elim
theorem pList : PsOk X T (fun xs H Q => ∃ p ys, xs = [.ref p] ∧ (SqL X.K H p ys ∨ SqT X.K H p ys) ∧ ∀ l, H l = none → Q (.ref l) (upd H l (.lst ys))) fList := by
  intro w ds vs k Q ok r h hk
  unfold fList at h
  split at h
  · obtain ⟨v, rfl, a, us, rfl, ha, ra⟩ := r.one
    exact ⟨a, us, rfl, .inr ha, fun p np => hk.lst ok ra h np⟩
  · obtain ⟨v, rfl, a, us, rfl, ha, _, ra⟩ := r.one
    exact ⟨a, us, rfl, .inl (SqL.of ha), fun p np => hk.lst ok ra h np⟩
  · obtain ⟨v, rfl, a, us, rfl, ha, ra⟩ := r.one
    exact ⟨a, us, rfl, .inl ha.sq, fun p np => hk.lst ok ra h np⟩
  · obtain ⟨v, rfl, ra⟩ := r.one
    cases ra
    obtain ⟨l, hl, h⟩ := h
    obtain ⟨us, ha, ra, _⟩ := ok.cell _ _ hl
    exact ⟨_, us, rfl, .inl (SqL.of ha), fun p np => hk.lst ok ra h np⟩
  · exact h.elim
theorem pTuple : PsOk X T (fun xs H Q => ∃ p ys, xs = [.ref p] ∧ ((SqL X.K H p ys ∧ ∀ l, H l = none → Q (.ref l) (upd H l (.tup ys))) ∨ (SqT X.K H p ys ∧ Q (.ref p) H))) fTuple := by
  intro w ds vs k Q ok r h hk
  unfold fTuple at h
  split at h
  · obtain ⟨v, rfl, a, us, rfl, ha, ra⟩ := r.one
    exact ⟨a, us, rfl, .inr ⟨ha, hk.one (d := .tup _) ok ⟨a, us, rfl, ha, ra⟩ h⟩⟩
  · obtain ⟨v, rfl, a, us, rfl, ha, _, ra⟩ := r.one
    exact ⟨a, us, rfl, .inl ⟨SqL.of ha, fun p np => hk.tup ok ra h np⟩⟩
  · obtain ⟨v, rfl, a, us, rfl, ha, ra⟩ := r.one
    exact ⟨a, us, rfl, .inl ⟨ha.sq, fun p np => hk.tup ok ra h np⟩⟩
  · obtain ⟨v, rfl, ra⟩ := r.one
    cases ra
    obtain ⟨l, hl, h⟩ := h
    obtain ⟨us, ha, ra, _⟩ := ok.cell _ _ hl
    exact ⟨_, us, rfl, .inl ⟨SqL.of ha, fun p np => hk.tup ok ra h np⟩⟩
  · exact h.elim
theorem pInt : PsOk X T (fun xs H Q => (∃ i, xs = [.int i] ∧ Q (.int i) H) ∨ ∃ k, xs = [.bl k] ∧ Q (.int (if k then 1 else 0)) H) fInt := by
  intro w ds vs k Q ok r h hk
  unfold fInt at h
  split at h
  · obtain ⟨v, rfl, ra⟩ := r.one
    cases ra
    exact .inl ⟨_, rfl, hk.one (d := .int _) ok rfl h⟩
  · obtain ⟨v, rfl, ra⟩ := r.one
    cases ra
    exact .inr ⟨_, rfl, hk.one (d := .int _) ok rfl h⟩
  · exact h.elim
theorem pMax2 : PsOk X T (fun xs H Q => ∃ i j, xs = [.int i, .int j] ∧ Q (.int (if j > i then j else i)) H) fMax2 := by
  intro w ds vs k Q ok r h hk
  unfold fMax2 at h
  split at h
  · obtain ⟨v, u, rfl, ra, rb⟩ := r.two
    cases ra; cases rb
    exact ⟨_, _, rfl, hk.one (d := .int _) ok rfl h⟩
  · exact h.elim
theorem pMin2 : PsOk X T (fun xs H Q => ∃ i j, xs = [.int i, .int j] ∧ Q (.int (if j < i then j else i)) H) fMin2 := by
  intro w ds vs k Q ok r h hk
  unfold fMin2 at h
  split at h
  · obtain ⟨v, u, rfl, ra, rb⟩ := r.two
    cases ra; cases rb
    exact ⟨_, _, rfl, hk.one (d := .int _) ok rfl h⟩
  · exact h.elim
theorem pAbs : PsOk X T (fun xs H Q => ∃ i, xs = [.int i] ∧ Q (.int (if i < 0 then -i else i)) H) fAbs := by
  intro w ds vs k Q ok r h hk
  unfold fAbs at h
  split at h
  · obtain ⟨v, rfl, ra⟩ := r.one
    cases ra
    exact ⟨_, rfl, hk.one (d := .int _) ok rfl h⟩
  · exact h.elim
end
end TL

set_option Elab.async false
set_option linter.all false
set_option maxRecDepth 100000
set_option maxHeartbeats 1000000
/-! T7: isinstance; sum, max, min, sorted of lists of ints; the built-ins' rules. -/
namespace TL
open PySem PySem.Spec PyProof.Rows L2

theorem kit_int (d : D) : kitB d.ty "int" = some (d.isA "int") := by
  have k0 : kitB "NoneType" "int" = some false := by decide +kernel
  have k1 : kitB "bool" "int" = some ("int" == "bool" || "int" == "int") := by decide +kernel
  have k2 : kitB "int" "int" = some ("int" == "int") := by decide +kernel
  have k3 : kitB "str" "int" = some ("int" == "str") := by decide +kernel
  have k4 : kitB "tuple" "int" = some ("int" == "tuple") := by decide +kernel
  have k5 : kitB "list" "int" = some ("int" == "list") := by decide +kernel
  cases d with
  | non => exact k0
  | bl _ => exact k1
  | int _ => exact k2
  | str _ => exact k3
  | tup _ => exact k4
  | lst _ => exact k5
  | klst _ => exact k5
  | ref _ => exact k5
theorem kit_bool (d : D) : kitB d.ty "bool" = some (d.isA "bool") := by
  have k0 : kitB "NoneType" "bool" = some false := by decide +kernel
  have k1 : kitB "bool" "bool" = some ("bool" == "bool" || "bool" == "int") := by decide +kernel
  have k2 : kitB "int" "bool" = some ("bool" == "int") := by decide +kernel
  have k3 : kitB "str" "bool" = some ("bool" == "str") := by decide +kernel
  have k4 : kitB "tuple" "bool" = some ("bool" == "tuple") := by decide +kernel
  have k5 : kitB "list" "bool" = some ("bool" == "list") := by decide +kernel
  cases d with
  | non => exact k0
  | bl _ => exact k1
  | int _ => exact k2
  | str _ => exact k3
  | tup _ => exact k4
  | lst _ => exact k5
  | klst _ => exact k5
  | ref _ => exact k5
theorem kit_str (d : D) : kitB d.ty "str" = some (d.isA "str") := by
  have k0 : kitB "NoneType" "str" = some false := by decide +kernel
  have k1 : kitB "bool" "str" = some ("str" == "bool" || "str" == "int") := by decide +kernel
  have k2 : kitB "int" "str" = some ("str" == "int") := by decide +kernel
  have k3 : kitB "str" "str" = some ("str" == "str") := by decide +kernel
  have k4 : kitB "tuple" "str" = some ("str" == "tuple") := by decide +kernel
  have k5 : kitB "list" "str" = some ("str" == "list") := by decide +kernel
  cases d with
  | non => exact k0
  | bl _ => exact k1
  | int _ => exact k2
  | str _ => exact k3
  | tup _ => exact k4
  | lst _ => exact k5
  | klst _ => exact k5
  | ref _ => exact k5
theorem kit_tuple (d : D) : kitB d.ty "tuple" = some (d.isA "tuple") := by
  have k0 : kitB "NoneType" "tuple" = some false := by decide +kernel
  have k1 : kitB "bool" "tuple" = some ("tuple" == "bool" || "tuple" == "int") := by decide +kernel
  have k2 : kitB "int" "tuple" = some ("tuple" == "int") := by decide +kernel
  have k3 : kitB "str" "tuple" = some ("tuple" == "str") := by decide +kernel
  have k4 : kitB "tuple" "tuple" = some ("tuple" == "tuple") := by decide +kernel
  have k5 : kitB "list" "tuple" = some ("tuple" == "list") := by decide +kernel
  cases d with
  | non => exact k0
  | bl _ => exact k1
  | int _ => exact k2
  | str _ => exact k3
  | tup _ => exact k4
  | lst _ => exact k5
  | klst _ => exact k5
  | ref _ => exact k5
theorem kit_list (d : D) : kitB d.ty "list" = some (d.isA "list") := by
  have k0 : kitB "NoneType" "list" = some false := by decide +kernel
  have k1 : kitB "bool" "list" = some ("list" == "bool" || "list" == "int") := by decide +kernel
  have k2 : kitB "int" "list" = some ("list" == "int") := by decide +kernel
  have k3 : kitB "str" "list" = some ("list" == "str") := by decide +kernel
  have k4 : kitB "tuple" "list" = some ("list" == "tuple") := by decide +kernel
  have k5 : kitB "list" "list" = some ("list" == "list") := by decide +kernel
  cases d with
  | non => exact k0
  | bl _ => exact k1
  | int _ => exact k2
  | str _ => exact k3
  | tup _ => exact k4
  | lst _ => exact k5
  | klst _ => exact k5
  | ref _ => exact k5

/-- isinstance(x, n) -/
def mIsi (n : String) (m : ME) : ME := fun ρ S Q E => m ρ S (fun x S1 => (∀ a, x = .ref a → S1 a ≠ none) ∧ Q (.bl (x.isA n)) S1) E
theorem RDw.tyx {K : KF} {T : Tb} {w : Wd} (ok : Ok K T w) {x : D} {v : V} (r : RDw K w x v) (h : ∀ a, x = .ref a → w.S a ≠ none) : TyX K w.H v (.type x.ty) := by
  cases x with
  | non => cases r; exact .base .non
  | bl b => cases r; exact .base (.bl b)
  | int i => cases r; exact .base (.int i)
  | str s => cases r; exact .base (.str s)
  | tup l =>
    obtain ⟨a, vs, rfl, h, _⟩ := r
    rcases h with (h | ⟨o, h⟩) | ⟨o, its, n, h1, h2, _⟩
    · exact .base (.tup h)
    · exact .fTuple h
    · exact .kTuple h1 h2
  | lst l => obtain ⟨a, vs, rfl, h, _⟩ := r; exact .base (.lst h)
  | klst l =>
    obtain ⟨a, vs, rfl, h, _⟩ := r
    rcases h with (⟨o, h⟩ | h) | ⟨o, its, n, h1, h2, _⟩
    · exact .base (.frz h)
    · exact .base (.lst h.2)
    · exact .kList h1 h2
  | ref a =>
    cases r
    cases q : w.S a with
    | none => exact absurd q (h a rfl)
    | some c =>
      obtain ⟨l⟩ := c
      obtain ⟨vs, h1, _⟩ := ok.cell a l q
      exact .base (.lst h1)
section
variable {X : Cx} {T : Tb} {W : WX} {e : Expr} {m : ME} {p p2 pos : Pos} {n : String} {nm : Str}
theorem s_isi (hk : ∀ d : D, kitB d.ty n = some (d.isA n)) (hm : X.mg "isinstance" = none) (hm2 : X.mg nm = none) (hv2 : bootBuiltins nm = some (.type n)) (h : SEw X T W e m) (hg : Gl X "isinstance" := by rfl) (hg2 : Gl X nm := by rfl)
    (hn2 : nm ≠ "__name__" := by decide) (hd2 : (nm == ("__debug__" : Str)) = false := by decide)
    (he : starEach [e, .Name nm p2] X.env = (false, eval e X.env) :: starEach [.Name nm p2] X.env := by rfl) :
    SE X T W (.Call (.Name "isinstance" p) [e, .Name nm p2] [] pos) (mIsi n m) := by
  refine ⟨(pe_callB call_isi hg hm (by decide +kernel) (pa_cons h.run (pa_cons (pe_bltn (v := .ty n) hg2 hm2 hv2 rfl hn2 hd2) pa_nil (by rfl)) he) (by decide) (by decide) he (by rfl)).tlw fun σ H Q h => ?_⟩
  obtain ⟨w, ρ, Q1, E1, rfl, ok, re, h, hq, hx⟩ := h
  refine ⟨w, ρ, _, _, rfl, ok, re, h, fun x S1 h w1 v e1 ok1 le1 r1 => ?_, hx⟩
  subst e1
  exact ⟨v, .ty n, _, _, x.isA n, rfl, .ty n, r1.tyx ok1 h.1, kit_ty (hk x), hq _ _ h.2 w1 (.bl _) rfl ok1 le1 rfl⟩
end

/-! ### lists of ints -/
/-- the ints of a list -/
def intsD : List D → Option (List Int)
  | [] => some []
  | .int i :: r => (intsD r).map (i :: ·)
  | _ :: _ => none
def fSum : Fs := fun _ ds k => match ds with
  | [.lst l] => ∃ ns, intsD l = some ns ∧ k (.int ns.sum)
  | _ => False
def fMax1 : Fs := fun _ ds k => match ds with
  | [.lst l] => ∃ ns, intsD l = some ns ∧ ns ≠ [] ∧ ∀ m, m ∈ ns → (∀ y, y ∈ ns → y ≤ m) → k (.int m)
  | _ => False
def fMin1 : Fs := fun _ ds k => match ds with
  | [.lst l] => ∃ ns, intsD l = some ns ∧ ns ≠ [] ∧ ∀ m, m ∈ ns → (∀ y, y ∈ ns → m ≤ y) → k (.int m)
  | _ => False
theorem ints_RD {K : KF} {F : Addr → Prop} {H : Hp} : ∀ {ds : List D} {vs : List V} {ns : List Int}, intsD ds = some ns → RDs K F H ds vs → vs = ns.map V.int
  | [], vs, ns, h, r => by cases h; cases r; rfl
  | d :: ds, vs, ns, h, r => by
    obtain ⟨v, r', rfl, h1, h2⟩ := r
    cases d with
    | int i =>
      cases h1
      cases q : intsD ds with
      | none => rw [intsD, q] at h; cases h
      | some ms =>
        rw [intsD, q] at h
        cases h
        rw [List.map_cons, ints_RD q h2]
    | _ => cases h
theorem ints_map : ∀ ns : List Int, intsD (ns.map D.int) = some ns
  | [] => rfl
  | n :: ns => by rw [List.map_cons, intsD, ints_map ns] <;> rfl
section
variable {X : Cx} {T : Tb} {W : WX}
theorem pSum : PsOk X T (rSum X.K) fSum := by
  intro w ds vs k Q ok r h hk
  unfold fSum at h
  split at h
  · obtain ⟨v, rfl, a, us, rfl, ha, _, ra⟩ := r.one
    obtain ⟨ns, e, h⟩ := h
    have := ints_RD e ra
    subst this
    exact ⟨a, ns, rfl, SqL.of ha, hk.one (d := .int _) ok rfl h⟩
  · exact h.elim
theorem pMax1 : PsOk X T (rMax X.K) fMax1 := by
  intro w ds vs k Q ok r h hk
  unfold fMax1 at h
  split at h
  · obtain ⟨v, rfl, a, us, rfl, ha, _, ra⟩ := r.one
    obtain ⟨ns, e, ne, h⟩ := h
    have := ints_RD e ra
    subst this
    exact ⟨a, ns, rfl, SqL.of ha, List.length_pos_iff.mpr ne, fun m h1 h2 => hk.one (d := .int _) ok rfl (h m h1 h2)⟩
  · exact h.elim
theorem pMin1 : PsOk X T (rMin X.K) fMin1 := by
  intro w ds vs k Q ok r h hk
  unfold fMin1 at h
  split at h
  · obtain ⟨v, rfl, a, us, rfl, ha, _, ra⟩ := r.one
    obtain ⟨ns, e, ne, h⟩ := h
    have := ints_RD e ra
    subst this
    exact ⟨a, ns, rfl, SqL.of ha, List.length_pos_iff.mpr ne, fun m h1 h2 => hk.one (d := .int _) ok rfl (h m h1 h2)⟩
  · exact h.elim
variable {e : Expr} {es : List Expr} {ms : MA} {p pos : Pos}
theorem s_len (hm : X.mg "len" = none) (ha : SAw X T W (e :: es) ms) (hg : Gl X "len" := by rfl) (he : starEach (e :: es) X.env = (false, eval e X.env) :: starEach es X.env := by rfl) (hpl : (backTo pos (starEach es X.env)).any (·.1) = false := by rfl) :
    SE X T W (.Call (.Name "len" p) (e :: es) [] pos) (mPrim fLen ms) := s_callB call_len_seq pLen hg hm boot_len ha (by decide) (by decide) he hpl
theorem s_abs (hm : X.mg "abs" = none) (ha : SAw X T W (e :: es) ms) (hg : Gl X "abs" := by rfl) (he : starEach (e :: es) X.env = (false, eval e X.env) :: starEach es X.env := by rfl) (hpl : (backTo pos (starEach es X.env)).any (·.1) = false := by rfl) :
    SE X T W (.Call (.Name "abs" p) (e :: es) [] pos) (mPrim fAbs ms) := s_callB call_abs pAbs hg hm (by decide +kernel) ha (by decide) (by decide) he hpl
theorem s_intc (hm : X.mg "int" = none) (ha : SAw X T W (e :: es) ms) (hg : Gl X "int" := by rfl) (he : starEach (e :: es) X.env = (false, eval e X.env) :: starEach es X.env := by rfl) (hpl : (backTo pos (starEach es X.env)).any (·.1) = false := by rfl) :
    SE X T W (.Call (.Name "int" p) (e :: es) [] pos) (mPrim fInt ms) := s_callTy call_int1 pInt hg hm (by decide +kernel) ha (by decide) (by decide) he hpl
theorem s_listc (hm : X.mg "list" = none) (ha : SAw X T W (e :: es) ms) (hg : Gl X "list" := by rfl) (he : starEach (e :: es) X.env = (false, eval e X.env) :: starEach es X.env := by rfl) (hpl : (backTo pos (starEach es X.env)).any (·.1) = false := by rfl) :
    SE X T W (.Call (.Name "list" p) (e :: es) [] pos) (mPrim fList ms) := s_callTy call_list_of pList hg hm (by decide +kernel) ha (by decide) (by decide) he hpl
theorem s_tuplec (hm : X.mg "tuple" = none) (ha : SAw X T W (e :: es) ms) (hg : Gl X "tuple" := by rfl) (he : starEach (e :: es) X.env = (false, eval e X.env) :: starEach es X.env := by rfl) (hpl : (backTo pos (starEach es X.env)).any (·.1) = false := by rfl) :
    SE X T W (.Call (.Name "tuple" p) (e :: es) [] pos) (mPrim fTuple ms) := s_callTy call_tuple_of pTuple hg hm (by decide +kernel) ha (by decide) (by decide) he hpl
theorem s_max2 (hc : X.calm = true) (hm : X.mg "max" = none) (ha : SAw X T W (e :: es) ms) (hg : Gl X "max" := by rfl) (he : starEach (e :: es) X.env = (false, eval e X.env) :: starEach es X.env := by rfl) (hpl : (backTo pos (starEach es X.env)).any (·.1) = false := by rfl) :
    SE X T W (.Call (.Name "max" p) (e :: es) [] pos) (mPrim fMax2 ms) := s_callB (call_max2 hc) pMax2 hg hm (by decide +kernel) ha (by decide) (by decide) he hpl
theorem s_min2 (hc : X.calm = true) (hm : X.mg "min" = none) (ha : SAw X T W (e :: es) ms) (hg : Gl X "min" := by rfl) (he : starEach (e :: es) X.env = (false, eval e X.env) :: starEach es X.env := by rfl) (hpl : (backTo pos (starEach es X.env)).any (·.1) = false := by rfl) :
    SE X T W (.Call (.Name "min" p) (e :: es) [] pos) (mPrim fMin2 ms) := s_callB (call_min2 hc) pMin2 hg hm (by decide +kernel) ha (by decide) (by decide) he hpl
theorem s_max1 (hc : X.calm = true) (hm : X.mg "max" = none) (ha : SAw X T W (e :: es) ms) (hg : Gl X "max" := by rfl) (he : starEach (e :: es) X.env = (false, eval e X.env) :: starEach es X.env := by rfl) (hpl : (backTo pos (starEach es X.env)).any (·.1) = false := by rfl) :
    SE X T W (.Call (.Name "max" p) (e :: es) [] pos) (mPrim fMax1 ms) := s_callB (cr_max hc) pMax1 hg hm (by decide +kernel) ha (by decide) (by decide) he hpl
theorem s_min1 (hc : X.calm = true) (hm : X.mg "min" = none) (ha : SAw X T W (e :: es) ms) (hg : Gl X "min" := by rfl) (he : starEach (e :: es) X.env = (false, eval e X.env) :: starEach es X.env := by rfl) (hpl : (backTo pos (starEach es X.env)).any (·.1) = false := by rfl) :
    SE X T W (.Call (.Name "min" p) (e :: es) [] pos) (mPrim fMin1 ms) := s_callB (cr_min hc) pMin1 hg hm (by decide +kernel) ha (by decide) (by decide) he hpl
theorem s_sum (hc : X.calm = true) (hm : X.mg "sum" = none) (ha : SAw X T W (e :: es) ms) (hg : Gl X "sum" := by rfl) (he : starEach (e :: es) X.env = (false, eval e X.env) :: starEach es X.env := by rfl) (hpl : (backTo pos (starEach es X.env)).any (·.1) = false := by rfl) :
    SE X T W (.Call (.Name "sum" p) (e :: es) [] pos) (mPrim fSum ms) := s_callB (cr_sum hc) pSum hg hm (by decide +kernel) ha (by decide) (by decide) he hpl
end
end TL

set_option Elab.async false
set_option linter.all false
set_option maxRecDepth 100000
set_option maxHeartbeats 1000000
/-! T8: defs and their calls. -/
namespace TL
open PySem PySem.Spec PyProof.Rows L2

/-- what a call makes of trees and store -/
abbrev Con := List D → Store → EK → XKd → Prop
/-- the promise of a def of n parameters -/
def spD (K : KF) (mg : Str → Option Value) (T : Tb) (n : Nat) (con : Con) : Sp := fun vs H Q E => vs.length = n ∧ ∃ (w : Wd) (ds : List D) (Q1 : EK) (E1 : XKd), w.H = H ∧ Ok K T w ∧ RDs K w.F w.H ds vs ∧ con ds w.S Q1 E1 ∧
  (∀ d S', Q1 d S' → ∀ w' v, w'.S = S' → Ok K T w' → Le w w' → RD K w'.F w'.H d v → Q v w'.H) ∧
  (∀ c d S', E1 c d S' → ∀ w' C a v, w'.S = S' → Ok K T w' → Le w w' → mg c = some (.ref C) → w'.H a = some (.xd [(whatS, v)]) → RD K w'.F w'.H d v → E (.ref C) (some a) w'.H)
/-- the def of the name keeps the contract, k rooms deep -/
structure FnP (P : Program) (wd : World) (K : KF) (mg : Str → Option Value) (base : Heap) (T : Tb) (x : Str) (n k : Nat) (con : Con) : Prop where
  ex : ∃ f fd ps, mg x = some (.ref f) ∧ PySem.W.keepIn K (.ref f) = true ∧ FnOk P wd K mg base (L2.CX P wd) k f fd ps (spD K mg T n con) ∧ L2.Binds K fd ps []
theorem FnP.mono {P wd K mg base T x n k k' con} (h : FnP P wd K mg base T x n k con) (l : k ≤ k') : FnP P wd K mg base T x n k' con := by
  obtain ⟨f, fd, ps, h1, h2, h3, h4⟩ := h.ex
  exact ⟨f, fd, ps, h1, h2, h3.mono l, h4⟩
abbrev FnH (X : Cx) (T : Tb) (x : Str) (n k : Nat) (con : Con) : Prop := FnP X.prog X.w X.K X.mg X.base T x n k con
/-- a weaker contract -/
theorem FnP.imp {P wd K mg base T x n k con con'} (h : FnP P wd K mg base T x n k con) (q : ∀ ds S Q E, con' ds S Q E → con ds S Q E) : FnP P wd K mg base T x n k con' := by
  obtain ⟨f, fd, ps, h1, h2, h3, h4⟩ := h.ex
  refine ⟨f, fd, ps, h1, h2, h3.imp fun vs H Q E z => ?_, h4⟩
  obtain ⟨e, w, ds, Q1, E1, z1, z2, z3, z4, z5⟩ := z
  exact ⟨e, w, ds, Q1, E1, z1, z2, z3, q _ _ _ _ z4, z5⟩

def mCall (n : Nat) (con : Con) (ms : MA) : ME := fun ρ S Q E => ms ρ S (fun ds S1 => ds.length = n ∧ con ds S1 Q E) E
section
variable {X : Cx} {T : Tb} {W : WX} {x : Str} {p pos : Pos} {e : Expr} {es : List Expr} {ms : MA} {n k : Nat} {con : Con}
theorem call_core (tk : Takes X W) {σ : L2.St} {Q : VK} {w w1 : Wd} {ds : List D} {vs : List V} {Q1 : EK} {E1 : XKd} (le1 : Le w w1) (ok1 : Ok X.K T w1) (r1 : RDs X.K w1.F w1.H ds vs) (hn : vs.length = n) (h : con ds w1.S Q1 E1)
    (hq : ∀ d S', Q1 d S' → VPost X T w Q d S') (hx : ∀ c d S', E1 c d S' → XPost X T W w σ c d S') : spD X.K X.mg T n con vs w1.H Q (fun cls d H => W cls d σ H) :=
  ⟨hn, w1, ds, Q1, E1, rfl, ok1, r1, h, fun d S' z w' v e ok le r => hq d S' z w' v e ok (le1.trans le) r, fun c d S' z w' C a v e ok le m ha r => hx c d S' z w' C a v e ok (le1.trans le) m ha r⟩
theorem s_call (F : FnH X T x n k con) (tk : Takes X W) (hr : Room k X.A) (ha : SA X T W (e :: es) ms) (hg : Gl X x := by rfl) (hdb : (x == ("__debug__" : Str)) = false := by decide)
    (he : starEach (e :: es) X.env = (false, eval e X.env) :: starEach es X.env := by rfl) (hpl : (backTo pos (starEach es X.env)).any (·.1) = false := by rfl) : SE X T W (.Call (.Name x p) (e :: es) [] pos) (mCall n con ms) := by
  obtain ⟨f, fd, ps, h1, h2, h3, h4⟩ := F.ex
  refine ⟨(pe_callSD (E := fun σ cls d H => W cls d σ H) h3 hr hg h1 h2 h4 .nil (fun σ => passAt tk σ) ha.run hdb he hpl).tlw fun σ H Q h => ?_⟩
  obtain ⟨w, ρ, Q1, E1, rfl, ok, re, h, hq, hx⟩ := h
  refine ⟨w, ρ, _, _, rfl, ok, re, h, fun ds S1 h w1 vs e1 ok1 le1 r1 => ?_, hx⟩
  subst e1
  rw [List.append_nil]
  exact call_core tk le1 ok1 r1 (by rw [r1.length]; exact h.1) h.2 hq hx
end
end TL

set_option Elab.async false
set_option linter.all false
set_option maxRecDepth 100000
set_option maxHeartbeats 1000000
/-! T9: statements. -/
namespace TL
open PySem PySem.Spec PyProof.Rows L2

theorem tab_upd {T : Tb} {H : Hp} {a : Addr} {xs ys : List V} (h : LamX.Tabs T H) (ha : H a = some (.lst xs)) : LamX.Tabs T (upd H a (.lst ys)) := fun p hp => by
  obtain ⟨ps, h1, h2, h3⟩ := h p hp
  have ne : ∀ {b o}, H b = some o → (∀ zs, o ≠ .lst zs) → b ≠ a := fun {b o} e n z => by
    rw [z, ha] at e
    exact n xs (Option.some.inj e).symm
  refine ⟨ps, (upd_ne (ne h1 (fun _ z => by cases z))).trans h1, h2, fun pos cv hc => ?_⟩
  obtain ⟨c, e1, e2⟩ := h3 pos cv hc
  exact ⟨c, e1, (upd_ne (ne e2 (fun _ z => by unfold LamX.CodeO at z; cases z))).trans e2⟩

/-- slots over a world behind the entry w0: own lists are younger than the entry -/
structure RS (K : KF) (w0 w : Wd) (ρ : Ro) (σ : L2.St) : Prop where
  re : RE K w ρ σ
  le : Le w0 w
  yg : ∀ (i : Nat) ds a, ρ[i]? = some (SV.own ds) → σ[i]? = some (some (.ref a)) → Nw w0.H a
section
variable {K : KF} {T : Tb} {w0 w w' : Wd} {ρ : Ro} {σ : L2.St} {a : Addr} {vs us : List V} {ds es : List D}
theorem RS.step (h : RS K w0 w ρ σ) (ok : Ok K T w) (le : Le w w') : RS K w0 w' ρ σ := ⟨h.re.le le ok, h.le.trans le, h.yg⟩
/-- trees where a list that is none of theirs is written -/
theorem md_upd (ha : w.H a = some (.lst vs)) (hf : ¬ w.F a) : (∀ {d v}, RD K w.F w.H d v → RD K w.F (upd w.H a (.lst us)) d v) ∧ (∀ {d v}, RDs K w.F w.H d v → RDs K w.F (upd w.H a (.lst us)) d v) := by
  have ne : ∀ {b o}, w.H b = some o → (∀ zs, o ≠ .lst zs) → b ≠ a := fun {b o} e n z => by
    rw [z, ha] at e
    exact n vs (Option.some.inj e).symm
  have ht : ∀ b xs, SqT K w.H b xs → SqT K (upd w.H a (.lst us)) b xs := fun b xs q => by
    rcases q with (q | ⟨o, q⟩) | q
    · exact .inl (.inl ((upd_ne (ne q (fun _ z => by cases z))).trans q))
    · exact .inl (.inr ⟨o, (upd_ne (ne q (fun _ z => by cases z))).trans q⟩)
    · exact .inr q
  have hl : ∀ b xs, w.F b ∧ w.H b = some (.lst xs) → w.F b ∧ upd w.H a (.lst us) b = some (.lst xs) := fun b xs q => ⟨q.1, (upd_ne (fun z => hf (by rw [← z]; exact q.1))).trans q.2⟩
  have hk : ∀ b xs, KnL K w.F w.H b xs → KnL K w.F (upd w.H a (.lst us)) b xs := fun b xs q => q.map (fun o y => (upd_ne (ne y (fun _ z => by cases z))).trans y) (hl b xs)
  exact ⟨fun {d v} q => RD.mono ht hl hk d q, fun {d v} q => RDs.mono ht hl hk d q⟩
theorem ex_upd (ha : w.H a = some (.lst vs)) : ∀ b, w.H b ≠ none → upd w.H a (.lst us) b ≠ none := fun b q => by
  by_cases hb : b = a
  · subst hb; rw [upd_same]; simp
  · rw [upd_ne hb]; exact q
theorem nw_upd (ha : w.H a = some (.lst vs)) : ∀ b, Nw (upd w.H a (.lst us)) b → Nw w.H b := fun b q o e => by
  by_cases hb : b = a
  · subst hb
    obtain ⟨ps, z⟩ := q _ upd_same
    cases z
  · exact q o ((upd_ne hb).trans e)
theorem RE.sv (h : RE K w ρ σ) {i : Nat} {sv : SV} (e : sget ρ i = sv) (n : sv ≠ .un) : ∃ o, σ[i]? = some o ∧ RSV K w sv o := by
  have e1 := sget_eq e n
  have hi : i < σ.length := by rw [← h.len]; exact (List.getElem?_eq_some_iff.mp e1).1
  exact ⟨σ[i], List.getElem?_eq_getElem hi, h.at_ i _ σ[i] e1 (List.getElem?_eq_getElem hi)⟩
/-- the own list of slot i is written -/
theorem RS.own (h : RS K w0 w ρ σ) (ok : Ok K T w) {i : Nat} (e : sget ρ i = .own ds) (es : List D) (us : List V) (hσ : σ[i]? = some (some (.ref a))) (ha : w.H a = some (.lst vs)) (ru : RDs K w.F w.H es us) :
    Ok K T { w with H := upd w.H a (.lst us) } ∧ RS K w0 { w with H := upd w.H a (.lst us) } (sset ρ i (.own es)) σ := by
  obtain ⟨o, ho, a', vs', eo, q1, q2, q3, q4⟩ := h.re.sv e (by simp)
  rw [hσ] at ho
  have ho := Option.some.inj ho
  rw [← ho] at eo
  cases eo
  have ei := sget_eq e (by simp)
  have hil : i < ρ.length := (List.getElem?_eq_some_iff.mp ei).1
  obtain ⟨md, ms⟩ := md_upd (K := K) (us := us) ha q3
  have y0 := h.yg i ds a ei hσ
  refine ⟨⟨fun b l s => ?_, tab_upd ok.tabs ha, fun b z => by
    obtain ⟨xs, e⟩ := ok.fh b z
    exact ⟨xs, (upd_ne fun z' => q3 (by rw [← z']; exact z)).trans e⟩⟩, ⟨by rw [sset_eq, List.length_set]; exact h.re.len, fun j sv o e1 e2 => ?_, fun j k d1 d2 b e1 e2 e3 e4 => ?_⟩,
    ⟨h.le.fz, h.le.fr, fun b o q s nt => ?_, h.le.st, fun b q => h.le.ex b (nw_upd ha b q)⟩, fun j d1 b e1 e2 => ?_⟩
  · obtain ⟨xs, x1, x2, x3⟩ := ok.cell b l s
    have hb : b ≠ a := fun z => by
      subst z
      have s' : w.S b = some (.lst l) := s
      rw [q4] at s'; cases s'
    exact ⟨xs, (upd_ne hb).trans x1, ms x2, x3⟩
  · rw [sset_eq] at e1
    by_cases hj : j = i
    · subst hj
      rw [List.getElem?_set_self hil] at e1
      cases e1
      rw [hσ] at e2
      cases e2
      exact ⟨a, us, rfl, upd_same, ms ru, q3, q4⟩
    · rw [List.getElem?_set_ne (Ne.symm hj)] at e1
      have r := h.re.at_ j sv o e1 e2
      cases sv with
      | un => trivial
      | exc _ _ => trivial
      | val d => obtain ⟨v, ev, r⟩ := r; exact ⟨v, ev, md r⟩
      | own l =>
        obtain ⟨b, xs, eb, x1, x2, x3, x4⟩ := r
        have hb : b ≠ a := fun z => by
          subst z
          subst eb
          exact hj (h.re.one j i l ds b e1 ei e2 hσ)
        exact ⟨b, xs, eb, (upd_ne hb).trans x1, ms x2, x3, x4⟩
  · have back : ∀ {m : Nat} {dd}, (sset ρ i (.own es))[m]? = some (.own dd) → ∃ dd', ρ[m]? = some (.own dd') := fun {m dd} e => by
      rw [sset_eq] at e
      by_cases hm : m = i
      · subst hm; exact ⟨ds, ei⟩
      · rw [List.getElem?_set_ne (Ne.symm hm)] at e
        exact ⟨dd, e⟩
    obtain ⟨d1', f1⟩ := back e1
    obtain ⟨d2', f2⟩ := back e2
    exact h.re.one j k d1' d2' b f1 f2 e3 e4
  · have hb : b ≠ a := y0.ne q nt
    obtain ⟨x1, x2⟩ := h.le.hp b o q s nt
    exact ⟨(upd_ne hb).trans x1, x2⟩
  · rw [sset_eq] at e1
    by_cases hj : j = i
    · subst hj; exact h.yg j ds b ei e2
    · rw [List.getElem?_set_ne (Ne.symm hj)] at e1
      exact h.yg j d1 b e1 e2
/-- a cell is written -/
theorem Ok.cset (ok : Ok K T w) {l : List D} (hs : w.S a = some (.lst l)) (es : List D) (us : List V) (ru : RDs K w.F w.H es us) :
    ∃ vs, w.H a = some (.lst vs) ∧ RDs K w.F w.H l vs ∧ Ok K T { w with S := w.S.upd a (.lst es), H := upd w.H a (.lst us) } ∧ Le w { w with S := w.S.upd a (.lst es), H := upd w.H a (.lst us) } := by
  obtain ⟨vs, ha, rl, hf⟩ := ok.cell a l hs
  obtain ⟨md, ms⟩ := md_upd (K := K) (us := us) ha hf
  refine ⟨vs, ha, rl, ⟨fun b l' s => ?_, tab_upd ok.tabs ha, fun b z => by
    obtain ⟨xs, e⟩ := ok.fh b z
    exact ⟨xs, (upd_ne fun z' => hf (by rw [← z']; exact z)).trans e⟩⟩, ⟨fun _ z => z, fun _ z => .inl z, fun b o q s nt => ?_, fun b q => ?_, fun b q => nw_upd ha b q⟩⟩
  · have s : w.S.upd a (.lst es) b = some (.lst l') := s
    by_cases hb : b = a
    · subst hb
      rw [Store.upd_same] at s
      cases s
      exact ⟨us, upd_same, ms ru, hf⟩
    · rw [Store.upd_ne hb] at s
      obtain ⟨xs, x1, x2, x3⟩ := ok.cell b l' s
      exact ⟨xs, (upd_ne hb).trans x1, ms x2, x3⟩
  · have hb : b ≠ a := fun z => by
      subst z
      rw [hs] at s; cases s
    exact ⟨(upd_ne hb).trans q, (Store.upd_ne hb).trans s⟩
  · show w.S.upd a (.lst es) b ≠ none
    by_cases hb : b = a
    · subst hb; rw [Store.upd_same]; simp
    · rw [Store.upd_ne hb]; exact q
/-- a value is stored at slot i -/
theorem RS.put (h : RS K w0 w ρ σ) {i : Nat} {d : D} {v : V} (r : RD K w.F w.H d v) : RS K w0 w (sset ρ i (.val d)) (σ.set i (some v)) := by
  refine ⟨⟨by rw [sset_eq, List.length_set, List.length_set]; exact h.re.len, fun j sv o e1 e2 => ?_, fun j k d1 d2 b e1 e2 e3 e4 => ?_⟩, h.le, fun j d1 b e1 e2 => ?_⟩
  · rw [sset_eq] at e1
    by_cases hj : j = i
    · subst hj
      have h1 : j < ρ.length := by have := (List.getElem?_eq_some_iff.mp e1).1; simpa using this
      rw [List.getElem?_set_self h1] at e1
      rw [List.getElem?_set_self (by rw [← h.re.len]; exact h1)] at e2
      cases e1; cases e2
      exact ⟨v, rfl, r⟩
    · rw [List.getElem?_set_ne (Ne.symm hj)] at e1 e2
      exact h.re.at_ j sv o e1 e2
  · have f : ∀ {m : Nat} {dd : List D} {c : Addr}, (sset ρ i (.val d))[m]? = some (.own dd) → (σ.set i (some v))[m]? = some (some (.ref c)) → ρ[m]? = some (.own dd) ∧ σ[m]? = some (some (.ref c)) := fun {m dd c} e e' => by
      rw [sset_eq] at e
      by_cases hm : m = i
      · subst hm
        have h1 : m < ρ.length := by have := (List.getElem?_eq_some_iff.mp e).1; simpa using this
        rw [List.getElem?_set_self h1] at e
        cases e
      · rw [List.getElem?_set_ne (Ne.symm hm)] at e e'
        exact ⟨e, e'⟩
    obtain ⟨a1, b1⟩ := f e1 e3
    obtain ⟨a2, b2⟩ := f e2 e4
    exact h.re.one j k d1 d2 b a1 a2 b1 b2
  · rw [sset_eq] at e1
    by_cases hm : j = i
    · subst hm
      have h1 : j < ρ.length := by have := (List.getElem?_eq_some_iff.mp e1).1; simpa using this
      rw [List.getElem?_set_self h1] at e1
      cases e1
    · rw [List.getElem?_set_ne (Ne.symm hm)] at e1 e2
      exact h.yg j d1 b e1 e2
/-- a slot is forgotten -/
theorem RS.drop (h : RS K w0 w ρ σ) (i : Nat) : RS K w0 w (sset ρ i .un) σ := by
  refine ⟨⟨by rw [sset_eq, List.length_set]; exact h.re.len, fun j sv o e1 e2 => ?_, fun j k d1 d2 b e1 e2 e3 e4 => ?_⟩, h.le, fun j d1 b e1 e2 => ?_⟩
  · rw [sset_eq] at e1
    by_cases hj : j = i
    · subst hj
      have h1 : j < ρ.length := by have := (List.getElem?_eq_some_iff.mp e1).1; simpa using this
      rw [List.getElem?_set_self h1] at e1
      cases e1; trivial
    · rw [List.getElem?_set_ne (Ne.symm hj)] at e1
      exact h.re.at_ j sv o e1 e2
  · have f : ∀ {m : Nat} {dd : List D}, (sset ρ i .un)[m]? = some (.own dd) → ρ[m]? = some (.own dd) := fun {m dd} e => by
      rw [sset_eq] at e
      by_cases hm : m = i
      · subst hm
        have h1 : m < ρ.length := by have := (List.getElem?_eq_some_iff.mp e).1; simpa using this
        rw [List.getElem?_set_self h1] at e
        cases e
      · rw [List.getElem?_set_ne (Ne.symm hm)] at e
        exact e
    exact h.re.one j k d1 d2 b (f e1) (f e2) e3 e4
  · rw [sset_eq] at e1
    by_cases hm : j = i
    · subst hm
      have h1 : j < ρ.length := by have := (List.getElem?_eq_some_iff.mp e1).1; simpa using this
      rw [List.getElem?_set_self h1] at e1
      cases e1
    · rw [List.getElem?_set_ne (Ne.symm hm)] at e1
      exact h.yg j d1 b e1 e2
/-- a new list is stored at slot i as its own -/
theorem RS.putOwn (h : RS K w0 w ρ σ) {i : Nat} {ds : List D} (ha : w.H a = some (.lst vs)) (hf : ¬ w.F a) (hs : w.S a = none) (h0 : Nw w0.H a) (r : RDs K w.F w.H ds vs)
    (nw : ∀ (j : Nat) l, ρ[j]? = some (SV.own l) → σ[j]? ≠ some (some (.ref a))) : RS K w0 w (sset ρ i (.own ds)) (σ.set i (some (.ref a))) := by
  have f : ∀ {m : Nat} {dd : List D} {c : Addr}, m ≠ i → (sset ρ i (.own ds))[m]? = some (.own dd) → (σ.set i (some (.ref a)))[m]? = some (some (.ref c)) → ρ[m]? = some (.own dd) ∧ σ[m]? = some (some (.ref c)) := fun {m dd c} hm e e' => by
    rw [sset_eq] at e
    rw [List.getElem?_set_ne (Ne.symm hm)] at e e'
    exact ⟨e, e'⟩
  have at_i : ∀ {m : Nat} {c : Addr}, m = i → (σ.set i (some (V.ref a)))[m]? = some (some (.ref c)) → c = a := fun {m c} hm e => by
    subst hm
    have h1 : m < σ.length := by have := (List.getElem?_eq_some_iff.mp e).1; simpa using this
    rw [List.getElem?_set_self h1] at e
    cases e; rfl
  refine ⟨⟨by rw [sset_eq, List.length_set, List.length_set]; exact h.re.len, fun j sv o e1 e2 => ?_, fun j k d1 d2 b e1 e2 e3 e4 => ?_⟩, h.le, fun j d1 b e1 e2 => ?_⟩
  · rw [sset_eq] at e1
    by_cases hj : j = i
    · subst hj
      have h1 : j < ρ.length := by have := (List.getElem?_eq_some_iff.mp e1).1; simpa using this
      rw [List.getElem?_set_self h1] at e1
      rw [List.getElem?_set_self (by rw [← h.re.len]; exact h1)] at e2
      cases e1; cases e2
      exact ⟨a, vs, rfl, ha, r, hf, hs⟩
    · rw [List.getElem?_set_ne (Ne.symm hj)] at e1 e2
      exact h.re.at_ j sv o e1 e2
  · by_cases hj : j = i
    · by_cases hk : k = i
      · rw [hj, hk]
      · have eb := at_i hj e3
        subst eb
        obtain ⟨x1, x2⟩ := f hk e2 e4
        exact absurd x2 (nw k d2 x1)
    · by_cases hk : k = i
      · have eb := at_i hk e4
        subst eb
        obtain ⟨x1, x2⟩ := f hj e1 e3
        exact absurd x2 (nw j d1 x1)
      · obtain ⟨x1, x2⟩ := f hj e1 e3
        obtain ⟨y1, y2⟩ := f hk e2 e4
        exact h.re.one j k d1 d2 b x1 y1 x2 y2
  · by_cases hj : j = i
    · have eb := at_i hj e2
      rw [eb]; exact h0
    · obtain ⟨x1, x2⟩ := f hj e1 e2
      exact h.yg j d1 b x1 x2
/-- the own list of slot i stays from now on -/
theorem RS.freeze (h : RS K w0 w ρ σ) (ok : Ok K T w) {i : Nat} (e : sget ρ i = .own ds) :
    ∃ w', w'.S = w.S ∧ w'.H = w.H ∧ Ok K T w' ∧ RS K w0 w' (sset ρ i (.val (.lst ds))) σ := by
  obtain ⟨o, ho, a, vs, eo, q1, q2, q3, q4⟩ := h.re.sv e (by simp)
  subst eo
  have ei := sget_eq e (by simp)
  have hil : i < ρ.length := (List.getElem?_eq_some_iff.mp ei).1
  have y0 := h.yg i ds a ei ho
  obtain ⟨ok2, le2, md, ms⟩ := ok.frozen q1 q4 h.le y0
  refine ⟨{ w with F := fun b => w.F b ∨ b = a }, rfl, rfl, ok2, ⟨by rw [sset_eq, List.length_set]; exact h.re.len, fun j sv o e1 e2 => ?_, fun j k d1 d2 b e1 e2 e3 e4 => ?_⟩, le2, fun j d1 b e1 e2 => ?_⟩
  · rw [sset_eq] at e1
    by_cases hj : j = i
    · subst hj
      rw [List.getElem?_set_self hil] at e1
      cases e1
      rw [ho] at e2
      cases e2
      exact ⟨.ref a, rfl, a, vs, rfl, ⟨Or.inr rfl, q1⟩, ms q2⟩
    · rw [List.getElem?_set_ne (Ne.symm hj)] at e1
      have r := h.re.at_ j sv o e1 e2
      cases sv with
      | un => trivial
      | exc _ _ => trivial
      | val d => obtain ⟨v, ev, r⟩ := r; exact ⟨v, ev, md r⟩
      | own l =>
        obtain ⟨b, xs, eb, x1, x2, x3, x4⟩ := r
        refine ⟨b, xs, eb, x1, ms x2, fun z => ?_, x4⟩
        rcases z with z | z
        · exact x3 z
        · subst z
          subst eb
          exact hj (h.re.one j i l ds b e1 ei e2 ho)
  · have f : ∀ {m : Nat} {dd : List D}, (sset ρ i (.val (.lst ds)))[m]? = some (.own dd) → ρ[m]? = some (.own dd) := fun {m dd} e => by
      rw [sset_eq] at e
      by_cases hm : m = i
      · subst hm
        rw [List.getElem?_set_self hil] at e
        cases e
      · rw [List.getElem?_set_ne (Ne.symm hm)] at e
        exact e
    exact h.re.one j k d1 d2 b (f e1) (f e2) e3 e4
  · rw [sset_eq] at e1
    by_cases hm : j = i
    · subst hm
      rw [List.getElem?_set_self hil] at e1
      cases e1
    · rw [List.getElem?_set_ne (Ne.symm hm)] at e1
      exact h.yg j d1 b e1 e2
end
end TL

set_option Elab.async false
set_option linter.all false
set_option maxRecDepth 100000
set_option maxHeartbeats 1000000
/-! T10: statements' readings and rules. -/
namespace TL
open PySem PySem.Spec PyProof.Rows L2

abbrev XKs := Str → D → Ro → Store → Prop
structure EndsD where
  nx : Ro → Store → Prop
  rt : D → Store → Prop
  bk : Ro → Store → Prop := fun _ _ => False
  ct : Ro → Store → Prop := fun _ _ => False
  ex : XKs := fun _ _ _ _ => False
abbrev MS := Ro → Store → EndsD → Prop
/-- an expression that may change own lists of the slots -/
abbrev MM := Ro → Store → (D → Ro → Store → Prop) → XKs → Prop
def mM (m : ME) : MM := fun ρ S Q E => m ρ S (fun d S' => Q d ρ S') (fun c d S' => E c d ρ S')

def NPost (X : Cx) (T : Tb) (w0 : Wd) (g : Ro → Store → Prop) (q : L2.St → Hp → Prop) : Prop := ∀ ρ' S', g ρ' S' → ∀ w' σ', w'.S = S' → Ok X.K T w' → RS X.K w0 w' ρ' σ' → q σ' w'.H
def RPost (X : Cx) (T : Tb) (w0 : Wd) (g : D → Store → Prop) (q : VK) : Prop := ∀ d S', g d S' → ∀ w' v, w'.S = S' → Ok X.K T w' → Le w0 w' → RD X.K w'.F w'.H d v → q v w'.H
def SxPost (X : Cx) (T : Tb) (W : WX) (w0 : Wd) (g : XKs) : Prop := ∀ c d ρ' S', g c d ρ' S' → ∀ w' σ' C a v, w'.S = S' → Ok X.K T w' → RS X.K w0 w' ρ' σ' → X.mg c = some (.ref C) → w'.H a = some (.xd [(whatS, v)]) → RD X.K w'.F w'.H d v → W (.ref C) (some a) σ' w'.H
structure Fit (X : Cx) (T : Tb) (W : WX) (w0 : Wd) (G : EndsD) (D : Ends) : Prop where
  nx : NPost X T w0 G.nx D.nx
  rt : RPost X T w0 G.rt D.rt
  bk : NPost X T w0 G.bk D.bk
  ct : NPost X T w0 G.ct D.ct
  ex : SxPost X T W w0 G.ex
def TRs (X : Cx) (T : Tb) (W : WX) (w0 : Wd) (m : MS) : TS := fun D σ H => ∃ (w : Wd) (ρ : Ro) (G : EndsD), w.H = H ∧ Ok X.K T w ∧ RS X.K w0 w ρ σ ∧ m ρ w.S G ∧ Fit X T W w0 G D
def TRm (X : Cx) (T : Tb) (W : WX) (w0 : Wd) (m : MM) : TE := fun σ H Q => ∃ (w : Wd) (ρ : Ro) (Q1 : D → Ro → Store → Prop) (E1 : XKs), w.H = H ∧ Ok X.K T w ∧ RS X.K w0 w ρ σ ∧ m ρ w.S Q1 E1 ∧
  (∀ d ρ' S', Q1 d ρ' S' → ∀ w' v, w'.S = S' → Ok X.K T w' → RS X.K w0 w' ρ' σ → RD X.K w'.F w'.H d v → Q v w'.H) ∧ SxPost X T W w0 E1
structure SS (X : Cx) (T : Tb) (W : WX) (st : Stmt) (m : MS) : Prop where
  run : ∀ w0, PS X st (TRs X T W w0 m)
structure SSs (X : Cx) (T : Tb) (W : WX) (st : List Stmt) (m : MS) : Prop where
  run : ∀ w0, PSs X st (TRs X T W w0 m)
structure SEm (X : Cx) (T : Tb) (W : WX) (e : Expr) (m : MM) : Prop where
  run : ∀ w0, PE X e (TRm X T W w0 m)

section
variable {X : Cx} {T : Tb} {W : WX} {w0 w : Wd} {e : Expr} {pos : Pos} {st : Stmt} {sts rest : List Stmt}
/-- how an expression's exceptions stand at slots -/
theorem xs_of {E1 : XKs} (hx : SxPost X T W w0 E1) {ρ : Ro} {σ : L2.St} (ok : Ok X.K T w) (rs : RS X.K w0 w ρ σ) : ∀ c d S', E1 c d ρ S' → XPost X T W w σ c d S' :=
  fun c d S' z w' C a v e ok' le m ha r => hx c d ρ S' z w' σ C a v e ok' (rs.step ok le) m ha r
theorem SE.m {m : ME} (h : SE X T W e m) : SEm X T W e (mM m) := by
  refine ⟨fun w0 => h.run.tlw fun σ H Q h => ?_⟩
  obtain ⟨w, ρ, Q1, E1, rfl, ok, rs, h, hq, hx⟩ := h
  exact ⟨w, ρ, _, _, rfl, ok, rs.re, h, fun d S' z w' v e ok' le r => hq d ρ S' z w' v e ok' (rs.step ok le) r, xs_of hx ok rs⟩
def mPass : MS := fun ρ S G => G.nx ρ S
def mBrk : MS := fun ρ S G => G.bk ρ S
def mCont : MS := fun ρ S G => G.ct ρ S
def mSeq (a b : MS) : MS := fun ρ S G => a ρ S { G with nx := fun ρ' S' => b ρ' S' G }
def mExpr (m : MM) : MS := fun ρ S G => m ρ S (fun _ ρ' S' => G.nx ρ' S') G.ex
def mRet (m : MM) : MS := fun ρ S G => m ρ S (fun d _ S' => G.rt d S') G.ex
def mRetN : MS := fun _ S G => G.rt .non S
def mIfS (t : MT) (a b : MS) : MS := fun ρ S G => t ρ S (fun k S' => if k = true then a ρ S' G else b ρ S' G) (fun c d S' => G.ex c d ρ S')
theorem ss_nil : SSs X T W [] mPass := ⟨fun w0 => pss_nil.tlw fun D σ H ⟨w, ρ, G, e, ok, rs, h, f⟩ => by subst e; exact f.nx _ _ h w σ rfl ok rs⟩
theorem ss_pass : SS X T W (.Pass pos) mPass := ⟨fun w0 => ps_pass.tlw fun D σ H ⟨w, ρ, G, e, ok, rs, h, f⟩ => by subst e; exact f.nx _ _ h w σ rfl ok rs⟩
theorem ss_brk : SS X T W (.Break pos) mBrk := ⟨fun w0 => ps_break.tlw fun D σ H ⟨w, ρ, G, e, ok, rs, h, f⟩ => by subst e; exact f.bk _ _ h w σ rfl ok rs⟩
theorem ss_cont : SS X T W (.Continue pos) mCont := ⟨fun w0 => ps_continue.tlw fun D σ H ⟨w, ρ, G, e, ok, rs, h, f⟩ => by subst e; exact f.ct _ _ h w σ rfl ok rs⟩
theorem Fit.seq {G : EndsD} {D : Ends} {b : MS} (f : Fit X T W w0 G D) : Fit X T W w0 { G with nx := fun ρ' S' => b ρ' S' G } { D with nx := TRs X T W w0 b D } :=
  ⟨fun ρ' S' h w' σ' e ok rs => ⟨w', ρ', G, rfl, ok, rs, by rw [e]; exact h, f⟩, f.rt, f.bk, f.ct, f.ex⟩
theorem ss_cons {a b : MS} (h1 : SS X T W st a) (h2 : SSs X T W rest b) : SSs X T W (st :: rest) (mSeq a b) := by
  refine ⟨fun w0 => (pss_cons (h1.run w0) (h2.run w0)).tlw fun D σ H h => ?_⟩
  obtain ⟨w, ρ, G, rfl, ok, rs, h, f⟩ := h
  exact ⟨w, ρ, _, rfl, ok, rs, h, f.seq⟩
theorem ss_one {a : MS} (h1 : SS X T W st a) : SSs X T W [st] a := ⟨fun w0 => pss_one (h1.run w0)⟩
/-- an own list stays from here on (nothing is done) -/
def mFrz (i : Nat) (a : MS) : MS := fun ρ S G => match sget ρ i with
  | .own ds => a (sset ρ i (.val (.lst ds))) S G
  | _ => False
theorem ss_frz (i : Nat) {a : MS} (h : SSs X T W sts a) : SSs X T W sts (mFrz i a) := by
  refine ⟨fun w0 => (h.run w0).tlw fun D σ H h => ?_⟩
  obtain ⟨w, ρ, G, rfl, ok, rs, h, f⟩ := h
  unfold mFrz at h
  cases e : sget ρ i with
  | own ds =>
    rw [e] at h
    obtain ⟨w', e1, e2, ok', rs'⟩ := rs.freeze ok e
    exact ⟨w', _, G, e2, ok', rs', by rw [e1]; exact h, f⟩
  | _ => rw [e] at h; exact h.elim
theorem ss_expr {m : MM} (h : SEm X T W e m) (hs : swapsWith e none pos.line X.env = pure false := by rfl) : SS X T W (.Expr e pos) (mExpr m) := by
  refine ⟨fun w0 => (ps_expr (h.run w0) hs).tlw fun D σ H h => ?_⟩
  obtain ⟨w, ρ, G, rfl, ok, rs, h, f⟩ := h
  exact ⟨w, ρ, _, _, rfl, ok, rs, h, fun d ρ' S' z w' v e ok' rs' r => f.nx _ _ z w' σ e ok' rs', f.ex⟩
theorem ss_ret {m : MM} (h : SEm X T W e m) : SS X T W (.Return (some e) pos) (mRet m) := by
  refine ⟨fun w0 => (ps_ret (h.run w0)).tlw fun D σ H h => ?_⟩
  obtain ⟨w, ρ, G, rfl, ok, rs, h, f⟩ := h
  exact ⟨w, ρ, _, _, rfl, ok, rs, h, fun d ρ' S' z w' v e ok' rs' r => f.rt _ _ z w' v e ok' rs'.le r, f.ex⟩
theorem ss_retN : SS X T W (.Return none pos) mRetN := ⟨fun w0 => ps_retN.tlw fun D σ H ⟨w, ρ, G, e, ok, rs, h, f⟩ => by subst e; exact f.rt _ _ h w .non rfl ok rs.le rfl⟩
theorem ss_if {c : Expr} {a b : List Stmt} {t : MT} {ma mb : MS} (hc : ST X T W c t) (ha : SSs X T W a ma) (hb : SSs X T W b mb) : SS X T W (.If c a b pos) (mIfS t ma mb) := by
  refine ⟨fun w0 => (ps_if hc.run (ha.run w0) (hb.run w0)).tlw fun D σ H h => ?_⟩
  obtain ⟨w, ρ, G, rfl, ok, rs, h, f⟩ := h
  refine ⟨w, ρ, _, _, rfl, ok, rs.re, h, fun k S' z w' e ok' le => ?_, xs_of f.ex ok rs⟩
  cases k with
  | true => exact ⟨w', ρ, G, rfl, ok', rs.step ok le, by rw [e]; exact z, f⟩
  | false => exact ⟨w', ρ, G, rfl, ok', rs.step ok le, by rw [e]; exact z, f⟩

/-! ### assignments -/
def mSet (i : Nat) (m : MM) : MS := fun ρ S G => m ρ S (fun d ρ' S' => G.nx (sset ρ' i (.val d)) S') G.ex
theorem ss_set (i : Nat) {x : Str} {pos' : Pos} {m : MM} (he : SEm X T W e m) (hN : X.N.Nodup) (hi : X.N[i]? = some x := by rfl) (hx : Loc X.env.scope x := by first | exact Or.inl rfl | exact Or.inr rfl) (hs : swapsWith e (some (.Name x pos')) pos.line X.env = pure false := by rfl)
    (hf : X.fn x = true ∨ X.env.scope.names.lookup x = some .local := by first | exact .inl rfl | exact .inr rfl | assumption) : SS X T W (.Assign [.Name x pos'] e pos) (mSet i m) := by
  refine ⟨fun w0 => (ps_set hN hi hx (he.run w0) hs hf).tlw fun D σ H h => ?_⟩
  obtain ⟨w, ρ, G, rfl, ok, rs, h, f⟩ := h
  exact ⟨w, ρ, _, _, rfl, ok, rs, h, fun d ρ' S' z w' v e ok' rs' r => f.nx _ _ z w' _ e ok' (rs'.put r), f.ex⟩
def mSetF (i : Nat) (m : MA) : MS := fun ρ S G => m ρ S (fun ds S' => G.nx (sset ρ i (.own ds)) S') (fun c d S' => G.ex c d ρ S')
theorem ss_setF (i : Nat) {x : Str} {pos' : Pos} {m : MA} (he : SEf X T W e m) (hN : X.N.Nodup) (hi : X.N[i]? = some x := by rfl) (hx : Loc X.env.scope x := by first | exact Or.inl rfl | exact Or.inr rfl) (hs : swapsWith e (some (.Name x pos')) pos.line X.env = pure false := by rfl)
    (hf : X.fn x = true ∨ X.env.scope.names.lookup x = some .local := by first | exact .inl rfl | exact .inr rfl | assumption) : SS X T W (.Assign [.Name x pos'] e pos) (mSetF i m) := by
  refine ⟨fun w0 => (ps_set hN hi hx he.run hs hf).tlw fun D σ H h => ?_⟩
  obtain ⟨w, ρ, G, rfl, ok, rs, h, f⟩ := h
  refine ⟨w, ρ, _, _, rfl, ok, rs.re, h, fun ds S' z w' a vs e ok' le' n0 ha hf hs r => ?_, xs_of f.ex ok rs⟩
  have rs' := rs.step ok le'
  have n00 : Nw w0.H a := rs.le.ex a n0
  refine f.nx _ _ z w' _ e ok' (rs'.putOwn ha hf hs n00 r fun j l e1 e2 => ?_)
  obtain ⟨b, xs, e3, q1, _⟩ := rs.re.at_ j _ _ e1 e2
  cases e3
  exact n0.ne q1 (fun _ q => by cases q) rfl
/-- names that a tuple's items go to -/
def gNs : List Nat → TGs
  | [] => gNil
  | i :: is => gCons (gName i) (gNs is)
structure SG (X : Cx) (es : List Expr) (is : List Nat) : Prop where
  run : PGs X es (gNs is)
theorem sg_nil : SG X [] [] := ⟨pgs_nil⟩
theorem sg_cons (i : Nat) {x : Str} {p : Pos} {es : List Expr} {is : List Nat} (h : SG X es is) (hN : X.N.Nodup) (hi : X.N[i]? = some x := by rfl) (hx : Loc X.env.scope x := by first | exact Or.inl rfl | exact Or.inr rfl)
    (hf : X.fn x = true ∨ X.env.scope.names.lookup x = some .local := by first | exact .inl rfl | exact .inr rfl | assumption) (hs : (assignEach (.Name x p :: es) X.env).map (·.2) = assign (.Name x p) X.env :: (assignEach es X.env).map (·.2) := by rfl) : SG X (.Name x p :: es) (i :: is) :=
  ⟨pgs_cons (pg_name hN hi hx hf) h.run hs⟩
def sputs : Ro → List Nat → List D → Ro
  | ρ, i :: is, d :: ds => sputs (sset ρ i (.val d)) is ds
  | ρ, _, _ => ρ
theorem gNs_run {K : KF} {w : Wd} : ∀ {is : List Nat} {ds : List D} {vs : List V} {ρ : Ro} {σ : L2.St} {q : L2.St → Hp → Prop}, RDs K w.F w.H ds vs → ds.length = is.length → RS K w0 w ρ σ → (∀ σ', RS K w0 w (sputs ρ is ds) σ' → q σ' w.H) → gNs is vs σ w.H q
  | [], [], vs, ρ, σ, q, r, _, rs, h => by cases r; exact ⟨rfl, h σ rs⟩
  | [], d :: ds, _, _, _, _, _, e, _, _ => by simp at e
  | i :: is, [], _, _, _, _, _, e, _, _ => by simp at e
  | i :: is, d :: ds, vs, ρ, σ, q, r, e, rs, h => by
    obtain ⟨v, r', rfl, h1, h2⟩ := r
    exact ⟨v, r', rfl, gNs_run h2 (by simpa using e) (rs.put h1) h⟩
/-- a, b, .. = a tuple -/
def unpT (n : Nat) (k : List D → Prop) : D → Prop
  | .tup l => l.length = n ∧ k l
  | _ => False
def mUnp (is : List Nat) (m : MM) : MS := fun ρ S G => m ρ S (fun d ρ' S' => unpT is.length (fun l => G.nx (sputs ρ' is l) S') d) G.ex
theorem ss_unp {is : List Nat} {es : List Expr} {k : Nat} {tpos : Pos} {m : MM} (hc : X.calm = true) (hg : SG X es is) (he : SEm X T W e m) (hn : (assignEach es X.env).length = is.length := by rfl) (hst : (assignEach es X.env).findIdx? (·.1) = none := by rfl)
    (hs : swapsWithSole [.Tuple es k tpos] e pos.line X.env = pure false := by rfl) (hw : swappedStores [.Tuple es k tpos] e X.env = pure none := by rfl)
    (h1 : (assignEach [.Tuple es k tpos] X.env).map (·.2) = [assign (.Tuple es k tpos) X.env] := by rfl) : SS X T W (.Assign [.Tuple es k tpos] e pos) (mUnp is m) := by
  refine ⟨fun w0 => (ps_asg (he.run w0) (pg_tup hc hg.run hn hst) hs hw h1).tlw fun D σ H h => ?_⟩
  obtain ⟨w, ρ, G, rfl, ok, rs, h, f⟩ := h
  refine ⟨w, ρ, _, _, rfl, ok, rs, h, fun d ρ' S' z w' v e ok' rs' r => ?_, f.ex⟩
  cases d with
  | tup l =>
    obtain ⟨a, vs, rfl, ha, rl⟩ := r
    exact ⟨a, vs, rfl, ha, by rw [rl.length]; exact z.1, gNs_run rl z.1 rs' fun σ' rs2 => f.nx _ _ z.2 w' σ' e ok' rs2⟩
  | _ => exact z.elim
/-- a, b = x, y (plain locals) -/
def mPar (i j : Nat) (ms : MA) : MS := fun ρ S G => ms ρ S (fun ds S' => match ds with
  | [a, b] => G.nx (sset (sset ρ i (.val a)) j (.val b)) S'
  | _ => False) (fun c d S' => G.ex c d ρ S')
theorem ss_par (i j : Nat) {x y : Str} {a b : Expr} {ms : MA} {px py pt : Pos} {kt k2 pt2} (hc : X.calm = true) (hN : X.N.Nodup) (ha : SA X T W [a, b] ms) (hi : X.N[i]? = some x := by rfl) (hj : X.N[j]? = some y := by rfl) (hij : i ≠ j := by decide)
    (hx : X.env.scope.names.lookup x = some .local := by rfl) (hy : X.env.scope.names.lookup y = some .local := by rfl)
    (hw : swappedStores [.Tuple [.Name x px, .Name y py] kt pt] (.Tuple [a, b] k2 pt2) X.env = pure (some [x, y]) := by rfl)
    (hs : swapsWithSole [.Tuple [.Name x px, .Name y py] kt pt] (.Tuple [a, b] k2 pt2) pos.line X.env = pure false := by rfl) :
    SS X T W (.Assign [.Tuple [.Name x px, .Name y py] kt pt] (.Tuple [a, b] k2 pt2) pos) (mPar i j ms) := by
  refine ⟨fun w0 => (ps_par hc hN hi hj hij hx hy ha.run hw hs).tlw fun D σ H h => ?_⟩
  obtain ⟨w, ρ, G, rfl, ok, rs, h, f⟩ := h
  refine ⟨w, ρ, _, _, rfl, ok, rs.re, h, fun ds S' z w' vs e ok' le' r => ?_, xs_of f.ex ok rs⟩
  split at z
  · obtain ⟨v, r1, rfl, q1, r2⟩ := r
    obtain ⟨u, r3, rfl, q2, r4⟩ := r2
    cases r4
    exact ⟨v, u, rfl, f.nx _ _ z w' _ e ok' (((rs.step ok le').put q1).put q2)⟩
  · exact z.elim

/-! ### own lists: append, extend, pop -/
def ownK (k : List D → Prop) : SV → Prop
  | .own ds => k ds
  | _ => False
theorem own_at {K : KF} {ρ : Ro} {σ : L2.St} {i : Nat} {ds : List D} (rs : RS K w0 w ρ σ) (e : sget ρ i = .own ds) : ∃ a vs, σ[i]? = some (some (.ref a)) ∧ w.H a = some (.lst vs) ∧ w.S a = none ∧ RDs K w.F w.H ds vs := by
  obtain ⟨o, ho, a, vs, eo, q1, q2, q3, q4⟩ := rs.re.sv e (by simp)
  subst eo
  exact ⟨a, vs, ho, q1, q4, q2⟩
theorem own_of {k : List D → Prop} {sv : SV} (h : ownK k sv) : ∃ ds, sv = .own ds ∧ k ds := by
  cases sv with
  | own ds => exact ⟨ds, rfl, h⟩
  | _ => exact h.elim
def mApp (i : Nat) (m : ME) : MS := fun ρ S G => ownK (fun ds => m ρ S (fun d S' => ds.length < lim ∧ G.nx (sset ρ i (.own (ds ++ [d]))) S') (fun c d S' => G.ex c d ρ S')) (sget ρ i)
theorem ss_app (i : Nat) {x : Str} {p1 p2 p3 : Pos} {m : ME} (he : SE X T W e m) (hN : X.N[i]? = some x := by rfl) (hv : Vis X.env.scope x := by first | exact Or.inl rfl | exact Or.inr (Or.inl rfl) | exact Or.inr (Or.inr rfl))
    (hd : (x == ("__debug__" : Str)) = false := by decide) (hcd : (x == ("__classdict__" : Str)) = false := by decide)
    (hfew : ((backTo p3 (starEach [e] X.env)).all (fun x => !x.1) && (backToKw p3 (keywordEach [] X.env)).all (fun x => x.1.isSome)
      && decide ([e].length + ([] : List Keyword).length + (if ([] : List Keyword).isEmpty then 0 else 1) < 30)) = true := by rfl)
    (h2 : starEach [e] X.env = (false, eval e X.env) :: starEach [] X.env := by rfl) (hline : (p2.endLine == p3.line) = true := by rfl)
    (hs : swapsWith (.Call (.Attribute (.Name x p1) "append" p2) [e] [] p3) none pos.line X.env = pure false := by rfl) :
    SS X T W (.Expr (.Call (.Attribute (.Name x p1) "append" p2) [e] [] p3) pos) (mApp i m) := by
  refine ⟨fun w0 => (ps_expr (pe_bm PySem.F.plainAttrs_list PySem.F.slot_list_append PySem.F.type_list_append mt_append (pe_var hN hv hd hcd) (pa_cons he.run pa_nil h2) (by rfl) hfew hline h2 (by rfl)) hs).tlw fun D σ H h => ?_⟩
  obtain ⟨w, ρ, G, rfl, ok, rs, h, f⟩ := h
  obtain ⟨ds, es, h⟩ := own_of h
  obtain ⟨a, vs, ho, ha, hS, hr⟩ := own_at rs es
  refine ⟨.ref a, ho, .inl ⟨rfl, vs, SqL.of ha⟩, w, ρ, _, _, rfl, ok, rs.re, h, fun d S' z w' v e ok' le r => ?_, xs_of f.ex ok rs⟩
  obtain ⟨z1, z2⟩ := z
  have rs' := rs.step ok le
  obtain ⟨ha', _⟩ := le.hp a _ ha hS (fun _ q => by cases q)
  have hr' := hr.le le ok
  obtain ⟨ok2, rs2⟩ := rs'.own ok' es (ds ++ [d]) (vs ++ [v]) ho ha' (hr'.append (RDs.cons r RDs.nil))
  exact ⟨a, vs, v, rfl, rfl, ha', by rw [hr'.length]; exact Nat.lt_of_lt_of_le z1 (lim_le (Nat.le_refl _)), f.nx _ _ z2 { w' with H := upd w'.H a (.lst (vs ++ [v])) } σ e ok2 rs2⟩
def lstK (k : List D → Prop) : D → Prop
  | .lst l => k l
  | _ => False
def mExt (i : Nat) (m : ME) : MS := fun ρ S G => ownK (fun ds => m ρ S (fun d S' => lstK (fun es => ds.length + es.length ≤ lim ∧ G.nx (sset ρ i (.own (ds ++ es))) S') d) (fun c d S' => G.ex c d ρ S')) (sget ρ i)
theorem ss_ext (i : Nat) {x : Str} {p1 p2 p3 : Pos} {m : ME} (he : SEw X T W e m) (hN : X.N[i]? = some x := by rfl) (hv : Vis X.env.scope x := by first | exact Or.inl rfl | exact Or.inr (Or.inl rfl) | exact Or.inr (Or.inr rfl))
    (hd : (x == ("__debug__" : Str)) = false := by decide) (hcd : (x == ("__classdict__" : Str)) = false := by decide)
    (hfew : ((backTo p3 (starEach [e] X.env)).all (fun x => !x.1) && (backToKw p3 (keywordEach [] X.env)).all (fun x => x.1.isSome)
      && decide ([e].length + ([] : List Keyword).length + (if ([] : List Keyword).isEmpty then 0 else 1) < 30)) = true := by rfl)
    (h2 : starEach [e] X.env = (false, eval e X.env) :: starEach [] X.env := by rfl) (hline : (p2.endLine == p3.line) = true := by rfl)
    (hs : swapsWith (.Call (.Attribute (.Name x p1) "extend" p2) [e] [] p3) none pos.line X.env = pure false := by rfl) :
    SS X T W (.Expr (.Call (.Attribute (.Name x p1) "extend" p2) [e] [] p3) pos) (mExt i m) := by
  refine ⟨fun w0 => (ps_expr (pe_bm PySem.F.plainAttrs_list PySem.F.slot_list_extend PySem.F.type_list_extend mt_extend (pe_var hN hv hd hcd) (pa_cons he.run pa_nil h2) (by rfl) hfew hline h2 (by rfl)) hs).tlw fun D σ H h => ?_⟩
  obtain ⟨w, ρ, G, rfl, ok, rs, h, f⟩ := h
  obtain ⟨ds, es, h⟩ := own_of h
  obtain ⟨a, vs, ho, ha, hS, hr⟩ := own_at rs es
  refine ⟨.ref a, ho, .inl ⟨rfl, vs, SqL.of ha⟩, w, ρ, _, _, rfl, ok, rs.re, h, fun d S' z w' v e ok' le r => ?_, xs_of f.ex ok rs⟩
  cases d with
  | lst l =>
    obtain ⟨z1, z2⟩ := z
    obtain ⟨b, us, rfl, hb, _, hl⟩ := r
    have rs' := rs.step ok le
    obtain ⟨ha', _⟩ := le.hp a _ ha hS (fun _ q => by cases q)
    have hr' := hr.le le ok
    obtain ⟨ok2, rs2⟩ := rs'.own ok' es (ds ++ l) (vs ++ us) ho ha' (hr'.append hl)
    exact ⟨a, b, vs, us, rfl, rfl, ha', hb, by rw [hr'.length, hl.length]; exact lim_le z1, f.nx _ _ z2 { w' with H := upd w'.H a (.lst (vs ++ us)) } σ e ok2 rs2⟩
  | _ => exact z.elim
theorem last_RD {K : KF} {F : Addr → Prop} {H : Hp} : ∀ {ds : List D} {vs : List V} {d : D}, RDs K F H ds vs → ds.getLast? = some d → ∃ v, vs[vs.length - 1]? = some v ∧ RD K F H d v ∧ RDs K F H ds.dropLast vs.dropLast := fun {ds vs d} r e => by
  rw [List.getLast?_eq_getElem?, ← r.length] at e
  obtain ⟨v, e1, r1⟩ := r.get e
  refine ⟨v, e1, r1, ?_⟩
  rw [List.dropLast_eq_take, List.dropLast_eq_take, r.length]
  exact r.take _
def mPop (i : Nat) : MM := fun ρ S Q _ => ownK (fun ds => ∃ d, ds.getLast? = some d ∧ Q d (sset ρ i (.own ds.dropLast)) S) (sget ρ i)
theorem sm_pop (i : Nat) {x : Str} {p1 p2 p3 : Pos} (hN : X.N[i]? = some x := by rfl) (hv : Vis X.env.scope x := by first | exact Or.inl rfl | exact Or.inr (Or.inl rfl) | exact Or.inr (Or.inr rfl))
    (hd : (x == ("__debug__" : Str)) = false := by decide) (hcd : (x == ("__classdict__" : Str)) = false := by decide) (hline : (p2.endLine == p3.line) = true := by rfl) :
    SEm X T W (.Call (.Attribute (.Name x p1) "pop" p2) [] [] p3) (mPop i) := by
  refine ⟨fun w0 => (pe_bm0 PySem.F.plainAttrs_list PySem.F.slot_list_pop PySem.F.type_list_pop mt_pop (pe_var hN hv hd hcd) (by rfl) hline).tlw fun σ H Q h => ?_⟩
  obtain ⟨w, ρ, Q1, E1, rfl, ok, rs, h, hq, hx⟩ := h
  obtain ⟨ds, es, d, el, h⟩ := own_of h
  obtain ⟨a, vs, ho, ha, hS, hr⟩ := own_at rs es
  obtain ⟨v, e1, r1, r2⟩ := last_RD hr el
  obtain ⟨ok2, rs2⟩ := rs.own ok es ds.dropLast vs.dropLast ho ha r2
  obtain ⟨md, _⟩ := md_upd (K := X.K) (us := vs.dropLast) ha (by
    obtain ⟨o, ho', a', vs', eo, q1, q2, q3, q4⟩ := rs.re.sv es (by simp)
    rw [ho] at ho'
    have ho' := Option.some.inj ho'
    rw [← ho'] at eo
    cases eo
    exact q3)
  exact ⟨.ref a, ho, .inl ⟨rfl, vs, SqL.of ha⟩, a, vs, v, rfl, rfl, ha, e1, hq _ _ _ h { w with H := upd w.H a (.lst vs.dropLast) } v rfl ok2 rs2 (md r1)⟩

/-! ### x[i] = e: a cell, an own list -/
def setK (S : Store) (ρ : Ro) (i : Nat) (k : Int) (d : D) (q : Ro → Store → Prop) : SV → Prop
  | .own ds => ∃ j, ixN ds.length k = some j ∧ q (sset ρ i (.own (ds.set j d))) S
  | .val (.ref a) => ∃ l, S a = some (.lst l) ∧ ∃ j, ixN l.length k = some j ∧ q ρ (S.upd a (.lst (l.set j d)))
  | _ => False
def intK (k : Int → Prop) : D → Prop
  | .int i => k i
  | _ => False
def svOk : SV → Prop
  | .own _ => True
  | .val (.ref _) => True
  | _ => False
def mSetIx (i : Nat) (mi : ME) (m : ME) : MS := fun ρ S G => svOk (sget ρ i) ∧ m ρ S (fun d S1 => mi ρ S1 (fun z S2 => intK (fun k => setK S2 ρ i k d G.nx (sget ρ i)) z) (fun c d S' => G.ex c d ρ S')) (fun c d S' => G.ex c d ρ S')
theorem ss_setIx (i : Nat) {x : Str} {p1 p2 : Pos} {ei : Expr} {mi m : ME} (he : SE X T W e m) (hi : SE X T W ei mi) (hN : X.N[i]? = some x := by rfl) (hv : Vis X.env.scope x := by first | exact Or.inl rfl | exact Or.inr (Or.inl rfl) | exact Or.inr (Or.inr rfl))
    (hd : (x == ("__debug__" : Str)) = false := by decide) (hcd : (x == ("__classdict__" : Str)) = false := by decide)
    (ha : ∀ v, assign (.Subscript (.Name x p1) ei p2) X.env v = (do
      let ov ← holding [v] (eval (.Name x p1) X.env)
      let iv ← holding [v, ov] (eval ei X.env)
      standAt p2
      holding [v, ov, iv] (setItem ov iv v)
      release [v, ov, iv] []) := by intro _; rfl)
    (hs : swapsWithSole [.Subscript (.Name x p1) ei p2] e pos.line X.env = pure false := by rfl) (hw : swappedStores [.Subscript (.Name x p1) ei p2] e X.env = pure none := by rfl)
    (h1 : (assignEach [.Subscript (.Name x p1) ei p2] X.env).map (·.2) = [assign (.Subscript (.Name x p1) ei p2) X.env] := by rfl) :
    SS X T W (.Assign [.Subscript (.Name x p1) ei p2] e pos) (mSetIx i mi m) := by
  refine ⟨fun w0 => (ps_asg he.run (pg_sub (pe_var hN hv hd hcd) hi.run set_list ha) hs hw h1).tlw fun D σ H h => ?_⟩
  obtain ⟨w, ρ, G, rfl, ok, rs, ⟨so, h⟩, f⟩ := h
  refine ⟨w, ρ, _, _, rfl, ok, rs.re, h, fun d S1 z w1 v e1 ok1 le1 r1 => ?_, xs_of f.ex ok rs⟩
  subst e1
  have rs1 := rs.step ok le1
  -- the object
  cases esv : sget ρ i with
  | own ds =>
    rw [esv] at z
    obtain ⟨a, vs, ho, ha1, hS, hr⟩ := own_at rs1 esv
    refine ⟨.ref a, ho, w1, ρ, _, _, rfl, ok1, rs1.re, z, fun y S2 z w2 u e2 ok2 le2 r2 => ?_, xs_of f.ex ok1 rs1⟩
    subst e2
    cases y with
    | int k =>
      obtain ⟨j, hj, z⟩ := z
      cases r2
      obtain ⟨ha2, _⟩ := le2.hp a _ ha1 hS (fun _ q => by cases q)
      have hr2 := hr.le le2 ok1
      obtain ⟨ok3, rs3⟩ := (rs1.step ok1 le2).own ok2 esv (ds.set j d) (vs.set j v) ho ha2 (hr2.set j (r1.le le2 ok1))
      exact ⟨a, vs, k, j, rfl, rfl, ha2, by rw [hr2.length]; exact hj, f.nx _ _ z { w2 with H := upd w2.H a (.lst (vs.set j v)) } σ rfl ok3 rs3⟩
    | _ => exact z.elim
  | val dd =>
    cases dd with
    | ref a =>
      rw [esv] at z
      obtain ⟨v0, ho, r0⟩ := rs1.re.val esv
      cases r0
      refine ⟨.ref a, ho, w1, ρ, _, _, rfl, ok1, rs1.re, z, fun y S2 z w2 u e2 ok2 le2 r2 => ?_, xs_of f.ex ok1 rs1⟩
      subst e2
      cases y with
      | int k =>
        obtain ⟨l, hl, j, hj, z⟩ := z
        cases r2
        obtain ⟨vs, hcell, rl0, _⟩ := ok2.cell a l hl
        obtain ⟨vs', hc', rl', ok3, le3⟩ := ok2.cset hl (l.set j d) (vs.set j v) (rl0.set j (r1.le le2 ok1))
        exact ⟨a, vs, k, j, rfl, rfl, hcell, by rw [rl0.length]; exact hj, f.nx _ _ z { w2 with S := w2.S.upd a (.lst (l.set j d)), H := upd w2.H a (.lst (vs.set j v)) } σ rfl ok3 ((rs1.step ok1 le2).step ok2 le3)⟩
      | _ => exact z.elim
    | _ => rw [esv] at so; exact so.elim
  | _ => rw [esv] at so; exact so.elim
end
end TL

set_option Elab.async false
set_option linter.all false
set_option maxRecDepth 100000
set_option maxHeartbeats 1000000
/-! T11: what is walked; for, while. -/
namespace TL
open PySem PySem.Spec PyProof.Rows L2

/-- w0 has what of w is no own list -/
structure Snap (w0 w : Wd) : Prop where
  f : w0.F = w.F
  s : w0.S = w.S
  h : ∀ a o, w.H a = some o → (w.F a ∨ ∀ xs, o ≠ .lst xs) → w0.H a = some o
section
variable {K : KF} {T : Tb} {w w0 w1 : Wd}
theorem Snap.refl : Snap w w := ⟨rfl, rfl, fun _ _ h _ => h⟩
theorem Snap.tup (s : Snap w0 w) (ok : Ok K T w) (le : Le w0 w1) {a : Addr} {vs : List V} (h : SqT K w.H a vs) : SqT K w1.H a vs := by
  rcases h with (h | ⟨o, h⟩) | h
  · exact .inl (.inl (le.hp a _ (s.h a _ h (.inr fun _ q => by cases q)) (by rw [s.s]; exact ok.nocell fun vs q => by rw [h] at q; cases q) (fun _ q => by cases q)).1)
  · exact .inl (.inr ⟨o, (le.hp a _ (s.h a _ h (.inr fun _ q => by cases q)) (by rw [s.s]; exact ok.nocell fun vs q => by rw [h] at q; cases q) (fun _ q => by cases q)).1⟩)
  · exact .inr h
theorem Snap.fzl (s : Snap w0 w) (ok : Ok K T w) (le : Le w0 w1) {a : Addr} {vs : List V} (h : w.F a ∧ w.H a = some (.lst vs)) : w1.F a ∧ w1.H a = some (.lst vs) :=
  ⟨le.fz a (by rw [s.f]; exact h.1), (le.hp a _ (s.h a _ h.2 (.inl h.1)) (by rw [s.s]; exact ok.fnone h.1) (fun _ q => by cases q)).1⟩
theorem Snap.knl (s : Snap w0 w) (ok : Ok K T w) (le : Le w0 w1) {a : Addr} {vs : List V} (h : KnL K w.F w.H a vs) : KnL K w1.F w1.H a vs :=
  h.map (fun o h => (le.hp a _ (s.h a _ h (.inr fun _ q => by cases q)) (by rw [s.s]; exact ok.nocell fun vs q => by rw [h] at q; cases q) (fun _ q => by cases q)).1) (fun h => s.fzl ok le h)
theorem Snap.rd (s : Snap w0 w) (ok : Ok K T w) (le : Le w0 w1) {d : D} {v : V} (h : RD K w.F w.H d v) : RD K w1.F w1.H d v :=
  RD.mono (fun _ _ h => s.tup ok le h) (fun _ _ h => s.fzl ok le h) (fun _ _ h => s.knl ok le h) d h
theorem Snap.rds (s : Snap w0 w) (ok : Ok K T w) (le : Le w0 w1) {d : List D} {v : List V} (h : RDs K w.F w.H d v) : RDs K w1.F w1.H d v :=
  RDs.mono (fun _ _ h => s.tup ok le h) (fun _ _ h => s.fzl ok le h) (fun _ _ h => s.knl ok le h) d h
end
/-- the items that J yields, from w on -/
def Walks (K : KF) (T : Tb) (w0 : Wd) (J : It) (ds : List D) : Prop := ∀ w1, Le w0 w1 → Ok K T w1 → ∀ i : Nat,
  (∀ d, ds[i]? = some d → J.go i w1.H ∧ ∀ x H', J.yld i w1.H x H' → ∃ w2 : Wd, w2.H = H' ∧ w2.S = w1.S ∧ Ok K T w2 ∧ Le w1 w2 ∧ RD K w2.F w2.H d x) ∧ (ds.length ≤ i → J.stop i w1.H)
def ItOk (K : KF) (T : Tb) (w : Wd) (J : It) (ds : List D) : Prop := ∀ w0, Snap w0 w → Walks K T w0 J ds
def TRi (X : Cx) (T : Tb) (W : WX) (m : MA) : TI := fun σ H R => ∃ (w : Wd) (ρ : Ro) (Q1 : AK) (E1 : XKd), w.H = H ∧ Ok X.K T w ∧ RE X.K w ρ σ ∧ m ρ w.S Q1 E1 ∧
  (∀ ds S', Q1 ds S' → ∀ w' J, w'.S = S' → Ok X.K T w' → Le w w' → ItOk X.K T w' J ds → R J w'.H) ∧ (∀ c d S', E1 c d S' → XPost X T W w σ c d S')
def TRiw (X : Cx) (T : Tb) (W : WX) (m : MA) : TI := fun σ H R => ∃ (w : Wd) (ρ : Ro) (Q1 : AK) (E1 : XKd), w.H = H ∧ Ok X.K T w ∧ RE X.K w ρ σ ∧ m ρ w.S Q1 E1 ∧
  (∀ ds S', Q1 ds S' → ∀ w' J, w'.S = S' → Ok X.K T w' → Le w w' → Walks X.K T w' J ds → R J w'.H) ∧ (∀ c d S', E1 c d S' → XPost X T W w σ c d S')
/-- for tg in iter -/
structure SI (X : Cx) (T : Tb) (W : WX) (tg iter : Expr) (m : MA) : Prop where
  run : PI X tg iter (TRi X T W m)
  fs : ∀ x, foldedSetIterable iter X.env x = pure x
/-- the same where own lists may be walked, too (a comprehension) -/
structure SIw (X : Cx) (T : Tb) (W : WX) (tg iter : Expr) (m : MA) : Prop where
  run : PI X tg iter (TRiw X T W m)
  fs : ∀ x, foldedSetIterable iter X.env x = pure x
theorem _root_.L2.PI.tlw {X : Cx} {tg e : Expr} {t t' : TI} (h : PI X tg e t) (q : ∀ σ H Q, t' σ H Q → t σ H Q) : PI X tg e t' := ⟨fun pins s σ H Q I z => h.run pins s σ H Q I (q σ H Q z)⟩
section
variable {X : Cx} {T : Tb} {W : WX} {tg e : Expr}
theorem SI.w {m : MA} (h : SI X T W tg e m) : SIw X T W tg e m := ⟨h.run.tlw fun σ H R ⟨w, ρ, Q1, E1, e, ok, re, z, hq, hx⟩ => ⟨w, ρ, Q1, E1, e, ok, re, z, fun ds S' y w' J e1 ok' le i => hq ds S' y w' J e1 ok' le (i _ .refl), hx⟩, h.fs⟩
/-- a list or a tuple is walked -/
theorem pi_seq {tl : TE} (hl : PE X e tl) : PI X tg e (fun σ H R => tl σ H fun x H1 => ∃ a, x = .ref a ∧ (((∃ xs, SqL X.K H1 a xs) ∧ R (Itl X.K a) H1) ∨ ((∃ xs, SqT X.K H1 a xs) ∧ R (Itt X.K a) H1))) := by
  refine ⟨fun pins s σ H R I h => ?_⟩
  refine thn (hl.run pins s σ H _ I h) fun v s1 ⟨x, H1, I1, r1, a, ex, q1⟩ => ?_
  subst ex
  cases r1
  rcases q1 with ⟨⟨xs, hq⟩, q⟩ | ⟨⟨xs, hq⟩, q⟩
  · obtain ⟨its, rv, p, hz⟩ := I1.list hq
    refine wpAny_pyIter_list p.isList ?_
    refine ⟨s1.heap.objs.size, [s1.heap.objs.size], _, _, H1, rfl, I1.kept (t' := s1.toks) fun b o e => Heap.get?_push_of_some _ e, turn_list a _, ⟨_, Heap.get?_push_size _ rfl, rfl, rfl⟩, fun b hb => ?_, q⟩
    have e : b = s1.heap.objs.size := by simpa using hb
    subst e
    exact I1.fpOk (Nat.le_refl _) (I1.hok.fresh (Nat.le_refl _))
  · obtain ⟨its, rv, p, hz⟩ := I1.tuple hq
    refine wpAny_pyIter_tuple (show s1.heap.IsTuple a its.toArray from p) ?_
    refine ⟨s1.heap.objs.size, [s1.heap.objs.size], _, _, H1, rfl, I1.kept (t' := s1.toks) fun b o e => Heap.get?_push_of_some _ e, turn_tuple a _, ⟨_, Heap.get?_push_size _ rfl, rfl, rfl⟩, fun b hb => ?_, q⟩
    have e : b = s1.heap.objs.size := by simpa using hb
    subst e
    exact I1.fpOk (Nat.le_refl _) (I1.hok.fresh (Nat.le_refl _))
def seqK (k : List D → Prop) : D → Prop
  | .tup l => k l
  | .lst l => k l
  | .klst l => k l
  | _ => False
/-- the items of a list, a tuple -/
def mIt (m : ME) : MA := fun ρ S Q E => m ρ S (fun d S' => seqK (fun l => Q l S') d) E
theorem walks_l {K : KF} {w0 : Wd} {a : Addr} {vs : List V} {ds : List D} (h : ∀ w1, Le w0 w1 → Ok K T w1 → SqL K w1.H a vs ∧ RDs K w1.F w1.H ds vs)
 : Walks K T w0 (Itl K a) ds := fun w1 le ok i => by
  obtain ⟨hs, hr⟩ := h w1 le ok
  refine ⟨fun d e => ?_, fun hi => ⟨vs, hs, by rw [hr.length]; exact hi⟩⟩
  obtain ⟨v, ev, rv⟩ := hr.get e
  refine ⟨⟨vs, v, hs, ev⟩, fun x H' y => ?_⟩
  obtain ⟨eH, hy⟩ := y
  subst eH
  have := hy vs hs
  rw [ev] at this
  cases this
  exact ⟨w1, rfl, rfl, ok, .refl, rv⟩
theorem walks_t {K : KF} {w0 : Wd} {a : Addr} {vs : List V} {ds : List D} (h : ∀ w1, Le w0 w1 → Ok K T w1 → SqT K w1.H a vs ∧ RDs K w1.F w1.H ds vs) : Walks K T w0 (Itt K a) ds := fun w1 le ok i => by
  obtain ⟨hs, hr⟩ := h w1 le ok
  refine ⟨fun d e => ?_, fun hi => ⟨vs, hs, by rw [hr.length]; exact hi⟩⟩
  obtain ⟨v, ev, rv⟩ := hr.get e
  refine ⟨⟨vs, v, hs, ev⟩, fun x H' y => ?_⟩
  obtain ⟨eH, hy⟩ := y
  subst eH
  have := hy vs hs
  rw [ev] at this
  cases this
  exact ⟨w1, rfl, rfl, ok, .refl, rv⟩
theorem si_seq {m : ME} (h : SE X T W e m) (fs : ∀ x, foldedSetIterable e X.env x = pure x := by intro _; rfl) : SI X T W tg e (mIt m) := by
  refine ⟨(pi_seq h.run).tlw fun σ H R h => ?_, fs⟩
  obtain ⟨w, ρ, Q1, E1, rfl, ok, re, h, hq, hx⟩ := h
  refine ⟨w, ρ, _, _, rfl, ok, re, h, fun d S1 z w1 v e1 ok1 le1 r1 => ?_, hx⟩
  cases d with
  | tup l =>
    obtain ⟨a, vs, rfl, ha, r⟩ := r1
    exact ⟨a, rfl, .inr ⟨⟨vs, ha⟩, hq _ _ z w1 _ e1 ok1 le1 fun w0 sn => walks_t fun w2 le2 _ => ⟨sn.tup ok1 le2 ha, sn.rds ok1 le2 r⟩⟩⟩
  | lst l =>
    obtain ⟨a, vs, rfl, ha, r⟩ := r1
    exact ⟨a, rfl, .inl ⟨⟨vs, SqL.of ha.2⟩, hq _ _ z w1 _ e1 ok1 le1 fun w0 sn => walks_l (fun w2 le2 _ => ⟨SqL.of (sn.fzl ok1 le2 ha).2, sn.rds ok1 le2 r⟩)⟩⟩
  | klst l =>
    obtain ⟨a, vs, rfl, ha, r⟩ := r1
    exact ⟨a, rfl, .inl ⟨⟨vs, ha.sq⟩, hq _ _ z w1 _ e1 ok1 le1 fun w0 sn => walks_l (fun w2 le2 _ => ⟨(sn.knl ok1 le2 ha).sq, sn.rds ok1 le2 r⟩)⟩⟩
  | _ => exact z.elim
end
end TL

set_option Elab.async false
set_option linter.all false
set_option maxRecDepth 100000
set_option maxHeartbeats 1000000
/-! T12: ranges, targets, for, while. -/
namespace TL
open PySem PySem.Spec PyProof.Rows L2

section
variable {X : Cx} {T : Tb} {W : WX} {tg e : Expr}
theorem siw_seq {m : ME} (h : SEw X T W e m) (fs : ∀ x, foldedSetIterable e X.env x = pure x := by intro _; rfl) : SIw X T W tg e (mIt m) := by
  refine ⟨(pi_seq h.run).tlw fun σ H R h => ?_, fs⟩
  obtain ⟨w, ρ, Q1, E1, rfl, ok, re, h, hq, hx⟩ := h
  refine ⟨w, ρ, _, _, rfl, ok, re, h, fun d S1 z w1 v e1 ok1 le1 r1 => ?_, hx⟩
  cases d with
  | tup l =>
    obtain ⟨a, vs, rfl, ha, r⟩ := r1
    exact ⟨a, rfl, .inr ⟨⟨vs, ha⟩, hq _ _ z w1 _ e1 ok1 le1 (walks_t fun w2 le2 _ => ⟨le2.tup ok1 ha, r.le le2 ok1⟩)⟩⟩
  | lst l =>
    obtain ⟨a, vs, rfl, ha, s, r⟩ := r1
    exact ⟨a, rfl, .inl ⟨⟨vs, SqL.of ha⟩, hq _ _ z w1 _ e1 ok1 le1 (walks_l fun w2 le2 _ => ⟨SqL.of (le2.hp a _ ha s (fun _ q => by cases q)).1, r.le le2 ok1⟩)⟩⟩
  | klst l =>
    obtain ⟨a, vs, rfl, ha, r⟩ := r1
    exact ⟨a, rfl, .inl ⟨⟨vs, ha.sq⟩, hq _ _ z w1 _ e1 ok1 le1 (walks_l fun w2 le2 _ => ⟨(le2.knl ok1 ha).sq, r.le le2 ok1⟩)⟩⟩
  | _ => exact z.elim
/-- lo, lo + 1, .. -/
def rangeD (lo : Int) (n : Nat) : List D := (List.range n).map fun i => D.int (lo + (i : Nat))
def mRng1 (m : ME) : MA := fun ρ S Q E => m ρ S (fun d S' => intK (fun j => (-(2 ^ 62) ≤ j ∧ j < 2 ^ 62) ∧ Q (rangeD 0 j.toNat) S') d) E
def mRng2 (m m' : ME) : MA := fun ρ S Q E => m ρ S (fun d S' => m' ρ S' (fun d' S2 => intK (fun i => intK (fun j => (-(2 ^ 62) ≤ i ∧ i < 2 ^ 62 ∧ -(2 ^ 62) ≤ j ∧ j < 2 ^ 62) ∧ Q (rangeD i (j - i).toNat) S2) d') d) E) E
theorem rangeD_get {lo : Int} {n i : Nat} {d : D} (e : (rangeD lo n)[i]? = some d) : i < n ∧ d = .int (lo + (i : Nat)) := by
  unfold rangeD at e
  rw [List.getElem?_map] at e
  cases q : (List.range n)[i]? with
  | none => rw [q] at e; cases e
  | some j =>
    rw [q] at e
    obtain ⟨h1, h2⟩ := List.getElem?_eq_some_iff.mp q
    rw [List.getElem_range] at h2
    subst h2
    cases e
    exact ⟨by simpa using h1, rfl⟩
theorem walks_r {K : KF} {w0 : Wd} {lo : Int} {n : Nat} : Walks K T w0 (Itr lo n) (rangeD lo n) := fun w1 le ok i => by
  refine ⟨fun d e => ?_, fun hi => by simpa [rangeD, Itr] using hi⟩
  obtain ⟨h1, h2⟩ := rangeD_get e
  refine ⟨h1, fun x H' y => ?_⟩
  obtain ⟨eH, ex⟩ := y
  subst eH ex h2
  exact ⟨w1, rfl, rfl, ok, .refl, rfl⟩
theorem pa1 {m : ME} {σ : L2.St} {H : Hp} {R : List V → Hp → Prop} (h : TRe X T W m σ H fun v H1 => R [v] H1) : tCons (TRe X T W m) tNil σ H R := h
theorem si_range1 {p pos : Pos} {m : ME} (hm : X.mg "range" = none) (h : SE X T W e m) (hg : Gl X "range" := by rfl) (hs : starEach [e] X.env = [(false, eval e X.env)] := by rfl) (hs2 : starEach [e] X.env = (false, eval e X.env) :: starEach [] X.env := by rfl)
    (fs : ∀ x, foldedSetIterable (.Call (.Name "range" p) [e] [] pos) X.env x = pure x := by intro _; rfl) : SI X T W tg (.Call (.Name "range" p) [e] [] pos) (mRng1 m) := by
  refine ⟨(pi_range1 hg hm (pa_cons h.run pa_nil hs2) hs).tlw fun σ H R h => ?_, fs⟩
  obtain ⟨w, ρ, Q1, E1, rfl, ok, re, h, hq, hx⟩ := h
  refine ⟨w, ρ, _, _, rfl, ok, re, h, fun d S1 z w1 v e1 ok1 le1 r1 => ?_, hx⟩
  cases d with
  | int j =>
    cases r1
    exact ⟨j, rfl, z.1.1, z.1.2, hq _ _ z.2 w1 _ e1 ok1 le1 fun w0 sn => walks_r⟩
  | _ => exact z.elim
theorem si_range2 {e2 : Expr} {p pos : Pos} {m m' : ME} (hm : X.mg "range" = none) (h : SE X T W e m) (h' : SE X T W e2 m') (hg : Gl X "range" := by rfl) (hs : starEach [e, e2] X.env = [(false, eval e X.env), (false, eval e2 X.env)] := by rfl) (hs2 : starEach [e2] X.env = [(false, eval e2 X.env)] := by rfl)
    (hs3 : starEach [e, e2] X.env = (false, eval e X.env) :: starEach [e2] X.env := by rfl) (hs4 : starEach [e2] X.env = (false, eval e2 X.env) :: starEach [] X.env := by rfl)
    (fs : ∀ x, foldedSetIterable (.Call (.Name "range" p) [e, e2] [] pos) X.env x = pure x := by intro _; rfl) : SI X T W tg (.Call (.Name "range" p) [e, e2] [] pos) (mRng2 m m') := by
  refine ⟨(pi_range2 hg hm (pa_cons h.run (pa_cons h'.run pa_nil hs4) hs3) hs hs2).tlw fun σ H R h => ?_, fs⟩
  obtain ⟨w, ρ, Q1, E1, rfl, ok, re, h, hq, hx⟩ := h
  refine ⟨w, ρ, _, _, rfl, ok, re, h, fun d S1 z w1 v e1 ok1 le1 r1 => ?_, hx⟩
  subst e1
  refine ⟨w1, ρ, _, _, rfl, ok1, re.le le1 ok, z, fun d' S2 z w2 v' e2 ok2 le2 r2 => ?_, fun c d S' z => (hx c d S' z).le le1⟩
  cases d with
  | int i =>
    cases d' with
    | int j =>
      cases r1; cases r2
      exact ⟨i, j, rfl, z.1, hq _ _ z.2 w2 _ e2 ok2 (le1.trans le2) fun w0 sn => walks_r⟩
    | _ => exact z.elim
  | _ => cases d' <;> exact z.elim
end

/-! ### targets -/
abbrev BD := D → Ro → (Ro → Prop) → Prop
structure SB (X : Cx) (tg : Expr) (g : TG) (b : BD) (sl : List Nat) : Prop where
  pg : PG X tg g
  rs : ∀ {w0 w : Wd} {ρ : Ro} {σ : L2.St} {d : D} {v : V} {k : Ro → Prop} {q : L2.St → Hp → Prop}, RS X.K w0 w ρ σ → RD X.K w.F w.H d v → b d ρ k → (∀ ρ' σ', k ρ' → RS X.K w0 w ρ' σ' → (∀ vs, (∀ i ∈ sl, i ∈ vs) → wipe σ' vs = wipe σ vs) → q σ' w.H) → g v σ w.H q
def bN (i : Nat) : BD := fun d ρ k => k (sset ρ i (.val d))
def bT (is : List Nat) : BD := fun d ρ k => unpT is.length (fun l => k (sputs ρ is l)) d
theorem wipe_get (σ : L2.St) (vs : List Nat) (i : Nat) : (wipe σ vs)[i]? = if i ∈ vs then (if i < σ.length then some none else none) else σ[i]? := by
  induction vs with
  | nil => simp [wipe]
  | cons v vs ih =>
    unfold wipe
    rw [List.getElem?_set]
    by_cases h : v = i
    · subst h
      rw [if_pos rfl, wipe_length]
      simp
    · rw [if_neg h, ih]
      simp [Ne.symm h]
theorem wipe_set (σ : L2.St) (vs : List Nat) (i : Nat) (o : Option V) (h : i ∈ vs) : wipe (σ.set i o) vs = wipe σ vs := by
  apply List.ext_getElem?
  intro j
  rw [wipe_get, wipe_get, List.length_set]
  by_cases hj : j ∈ vs
  · rw [if_pos hj, if_pos hj]
  · rw [if_neg hj, if_neg hj, List.getElem?_set_ne]
    intro e
    exact hj (e ▸ h)
section
variable {X : Cx} {T : Tb} {W : WX}
theorem sb_name (i : Nat) {x : Str} {p : Pos} (hN : X.N.Nodup) (hi : X.N[i]? = some x := by rfl) (hx : Loc X.env.scope x := by first | exact Or.inl rfl | exact Or.inr rfl)
    (hf : X.fn x = true ∨ X.env.scope.names.lookup x = some .local := by first | exact .inl rfl | exact .inr rfl | assumption) : SB X (.Name x p) (gName i) (bN i) [i] :=
  ⟨pg_name hN hi hx hf, fun {w0 w ρ σ d v k q} rs r b h => h _ _ b (rs.put r) fun vs hv => wipe_set _ _ _ _ (hv i (List.mem_singleton.mpr rfl))⟩
theorem gNs_runB {K : KF} {w0 w : Wd} : ∀ {is : List Nat} {ds : List D} {vs : List V} {ρ : Ro} {σ : L2.St} {q : L2.St → Hp → Prop}, RDs K w.F w.H ds vs → ds.length = is.length → RS K w0 w ρ σ →
    (∀ σ', RS K w0 w (sputs ρ is ds) σ' → (∀ us, (∀ i ∈ is, i ∈ us) → wipe σ' us = wipe σ us) → q σ' w.H) → gNs is vs σ w.H q
  | [], [], vs, ρ, σ, q, r, _, rs, h => by cases r; exact ⟨rfl, h σ rs fun _ _ => rfl⟩
  | [], d :: ds, _, _, _, _, _, e, _, _ => by simp at e
  | i :: is, [], _, _, _, _, _, e, _, _ => by simp at e
  | i :: is, d :: ds, vs, ρ, σ, q, r, e, rs, h => by
    obtain ⟨v, r', rfl, h1, h2⟩ := r
    refine ⟨v, r', rfl, gNs_runB h2 (by simpa using e) (rs.put h1) fun σ' rs' hw => h σ' rs' fun us hu => ?_⟩
    rw [hw us fun j hj => hu j (List.mem_cons_of_mem _ hj)]
    exact wipe_set _ _ _ _ (hu i List.mem_cons_self)
theorem sb_tup {is : List Nat} {es : List Expr} {k : Nat} {tpos : Pos} (hc : X.calm = true) (hg : SG X es is) (hn : (assignEach es X.env).length = is.length := by rfl) (hst : (assignEach es X.env).findIdx? (·.1) = none := by rfl) : SB X (.Tuple es k tpos) (gTup X.K is.length (gNs is)) (bT is) is :=
  ⟨pg_tup hc hg.run hn hst, fun {w0 w ρ σ d v k q} rs r b h => by
    cases d with
    | tup l =>
      obtain ⟨a, vs, rfl, ha, rl⟩ := r
      exact ⟨a, vs, rfl, ha, by rw [rl.length]; exact b.1, gNs_runB rl b.1 rs fun σ' rs' hw => h _ σ' b.2 rs' hw⟩
    | _ => exact b.elim⟩

/-! ### for -/
def forD (b : BD) (mb : MS) : List D → MS
  | [] => fun ρ S G => G.nx ρ S
  | d :: ds => fun ρ S G => b d ρ fun ρ' => mb ρ' S { G with nx := fun ρ2 S2 => forD b mb ds ρ2 S2 G, ct := fun ρ2 S2 => forD b mb ds ρ2 S2 G, bk := G.nx }
def mFor (mi : MA) (b : BD) (mb : MS) : MS := fun ρ S G => mi ρ S (fun ds S' => forD b mb ds ρ S' G) (fun c d S' => G.ex c d ρ S')
/-- an own list's address -/
def OwnAt (ρ : Ro) (σ : L2.St) (a : Addr) : Prop := ∃ (i : Nat) (ds : List D), ρ[i]? = some (SV.own ds) ∧ σ[i]? = some (some (.ref a))
open Classical in
noncomputable def cutW (w : Wd) (ρ : Ro) (σ : L2.St) : Wd := { w with H := fun a => if OwnAt ρ σ a then none else w.H a }
section
variable {K : KF} {w w0 w1 : Wd} {ρ ρ1 : Ro} {σ σ1 : L2.St}
theorem cut_own {a : Addr} (h : OwnAt ρ σ a) : (cutW w ρ σ).H a = none := if_pos h
theorem cut_other {a : Addr} (h : ¬ OwnAt ρ σ a) : (cutW w ρ σ).H a = w.H a := if_neg h
theorem RS.cut (rs : RS K w0 w ρ σ) : Snap (cutW w ρ σ) w ∧ RS K (cutW w ρ σ) w ρ σ := by
  have some_ : ∀ {a o}, (cutW w ρ σ).H a = some o → ¬ OwnAt ρ σ a ∧ w.H a = some o := fun {a o} e => by
    by_cases h : OwnAt ρ σ a
    · rw [cut_own h] at e; cases e
    · rw [cut_other h] at e; exact ⟨h, e⟩
  refine ⟨⟨rfl, rfl, fun a o e h => ?_⟩, rs.re, ⟨fun _ z => z, fun _ z => .inl z, fun a o e s _ => ⟨(some_ e).2, s⟩, fun _ z => z, fun a z => ?_⟩, fun i ds a e1 e2 => .of (cut_own ⟨i, ds, e1, e2⟩)⟩
  · rw [cut_other]
    · exact e
    · rintro ⟨i, ds, e1, e2⟩
      obtain ⟨b, vs, e3, q1, q2, q3, q4⟩ := rs.re.at_ i _ _ e1 e2
      cases e3
      rcases h with h | h
      · exact q3 h
      · rw [q1] at e
        exact h vs (Option.some.inj e).symm
  · exact fun o e => z o (some_ e).2
theorem RS.back_le (rs : RS K w0 w ρ σ) (l : Le (cutW w ρ σ) w1) : Le w0 w1 := by
  have no : ∀ {a o}, w0.H a = some o → (∀ ps, o ≠ .tbl ps) → ¬ OwnAt ρ σ a := fun {a o} e nt ⟨i, ds, e1, e2⟩ => (rs.yg i ds a e1 e2).ne e nt rfl
  have n0 : ∀ {a}, Nw (cutW w ρ σ).H a → Nw w0.H a := fun {a} z o e => by
    by_cases nt : ∃ ps, o = .tbl ps
    · exact nt
    · have nt' : ∀ ps, o ≠ .tbl ps := fun ps q => nt ⟨ps, q⟩
      refine absurd (rs.le.ex a (fun o' e' => z o' ?_) o e) nt
      exact (cut_other (no e nt')).trans e'
  refine ⟨fun a z => l.fz a (rs.le.fz a z), fun a z => ?_, fun a o e s nt => ?_, fun a z => l.st a (rs.le.st a z), fun a z => n0 (l.ex a z)⟩
  · rcases l.fr a z with z | z
    · exact rs.le.fr a z
    · exact .inr (n0 z)
  · obtain ⟨e1, s1⟩ := rs.le.hp a o e s nt
    exact l.hp a o ((cut_other (no e nt)).trans e1) s1 nt
theorem RS.back (rs : RS K w0 w ρ σ) (r1 : RS K (cutW w ρ σ) w1 ρ1 σ1) : RS K w0 w1 ρ1 σ1 := by
  refine ⟨r1.re, rs.back_le r1.le, fun i ds a e1 e2 => ?_⟩
  have e := r1.yg i ds a e1 e2
  intro o q
  by_cases nt : ∃ ps, o = .tbl ps
  · exact nt
  · have nt' : ∀ ps, o ≠ .tbl ps := fun ps q => nt ⟨ps, q⟩
    have no : ¬ OwnAt ρ σ a := fun ⟨j, es, f1, f2⟩ => (rs.yg j es a f1 f2).ne q nt' rfl
    refine absurd (rs.le.ex a (fun o' e' => e o' ?_) o q) nt
    exact (cut_other no).trans e'
theorem Fit.cut {X : Cx} {T : Tb} {W : WX} {G : EndsD} {D : Ends} {w0 w : Wd} {ρ : Ro} {σ : L2.St} (f : Fit X T W w0 G D) (rs : RS X.K w0 w ρ σ) : Fit X T W (cutW w ρ σ) G D :=
  ⟨fun ρ' S' h w' σ' e ok r => f.nx ρ' S' h w' σ' e ok (rs.back r), fun d S' h w' v e ok l r => f.rt d S' h w' v e ok (rs.back_le l) r, fun ρ' S' h w' σ' e ok r => f.bk ρ' S' h w' σ' e ok (rs.back r),
    fun ρ' S' h w' σ' e ok r => f.ct ρ' S' h w' σ' e ok (rs.back r), fun c d ρ' S' h w' σ' C a v e ok r => f.ex c d ρ' S' h w' σ' C a v e ok (rs.back r)⟩
end
theorem ss_for {tg iter : Expr} {body : List Stmt} {mi : MA} {g : TG} {b : BD} {sl : List Nat} {mb : MS} {pos : Pos} (hp : PassesOwn (model X.prog X.w) X.A X.env X.xe) (hc : X.calm = true) (hi : SI X T W tg iter mi) (hb : SB X tg g b sl) (hbody : SSs X T W body mb) :
    SS X T W (.For tg iter body [] pos) (mFor mi b mb) := by
  refine ⟨fun w0 => (ps_for (tb := fun D σ H => ∃ w1, TRs X T W w1 mb D σ H) hp hc hi.run hb.pg ⟨fun pins s σ H D I ⟨w1, h⟩ => (hbody.run w1).run pins s σ H D I h⟩ hi.fs).tlw fun D σ H h => ?_⟩
  obtain ⟨w, ρ, G, rfl, ok, rs, h, f⟩ := h
  refine ⟨w, ρ, _, _, rfl, ok, rs.re, h, fun ds S' z w' J e ok' le it => ?_, xs_of f.ex ok rs⟩
  subst e
  have rs' := rs.step ok le
  obtain ⟨sn, rc⟩ := rs'.cut
  have fc := f.cut rs'
  refine ⟨fun i m σ9 H9 => m = ds.length - i ∧ i ≤ ds.length ∧ ∃ (w1 : Wd) (ρ1 : Ro), w1.H = H9 ∧ Ok X.K T w1 ∧ RS X.K (cutW w' ρ σ) w1 ρ1 σ9 ∧ forD b mb (ds.drop i) ρ1 w1.S G, ⟨ds.length, by simp, Nat.zero_le _, w', ρ, rfl, ok', ?_, z⟩, ?_⟩
  · exact rc
  · rintro i m σ1 H1 ⟨rfl, hi, w1, ρ1, rfl, ok1, rs1, z1⟩
    obtain ⟨hgo, hstop⟩ := it _ sn w1 rs1.le ok1 i
    by_cases hlt : i < ds.length
    · have e1 : ds[i]? = some ds[i] := List.getElem?_eq_getElem hlt
      obtain ⟨go, yld⟩ := hgo _ e1
      rw [List.drop_eq_getElem_cons hlt] at z1
      refine .inr ⟨go, fun σ2 H2 => ∃ (w2 : Wd) (ρ2 : Ro), w2.H = H2 ∧ Ok X.K T w2 ∧ RS X.K (cutW w' ρ σ) w2 ρ2 σ2 ∧ forD b mb (ds.drop (i + 1)) ρ2 w2.S G, fun σ2 H2 y => ⟨ds.length - (i + 1), by omega, rfl, hlt, y⟩, fun x H' y => ?_⟩
      obtain ⟨w2, e2, s2, ok2, le2, r2⟩ := yld x H' y
      subst e2
      refine hb.rs (rs1.step ok1 le2) r2 z1 fun ρ3 σ3 z3 rs3 _ => ?_
      refine ⟨cutW w' ρ σ, w2, ρ3, { G with nx := fun ρ2 S2 => forD b mb (ds.drop (i + 1)) ρ2 S2 G, ct := fun ρ2 S2 => forD b mb (ds.drop (i + 1)) ρ2 S2 G, bk := G.nx }, rfl, ok2, rs3, by rw [s2]; exact z3, ⟨fun ρ4 S4 h4 w4 σ4 e4 ok4 rs4 => ⟨w4, ρ4, rfl, ok4, rs4, by rw [e4]; exact h4⟩, fc.rt, fc.nx, fun ρ4 S4 h4 w4 σ4 e4 ok4 rs4 => ⟨w4, ρ4, rfl, ok4, rs4, by rw [e4]; exact h4⟩, fc.ex⟩⟩
    · have e1 : i = ds.length := by omega
      subst e1
      rw [List.drop_length] at z1
      exact .inl ⟨hstop (Nat.le_refl _), fc.nx _ _ z1 w1 σ1 rfl ok1 rs1⟩

/-! ### while -/
def whileD (c : MT) (mb : MS) : Nat → MS
  | 0 => fun _ _ _ => False
  | n + 1 => fun ρ S G => c ρ S (fun k S1 => if k = true then mb ρ S1 { G with nx := fun ρ2 S2 => whileD c mb n ρ2 S2 G, ct := fun ρ2 S2 => whileD c mb n ρ2 S2 G, bk := G.nx } else G.nx ρ S1) (fun c d S' => G.ex c d ρ S')
def mWhile (c : MT) (mb : MS) : MS := fun ρ S G => ∃ n, whileD c mb n ρ S G
theorem ss_while {c : Expr} {body : List Stmt} {mc : MT} {mb : MS} {pos : Pos} (hp : PassesOwn (model X.prog X.w) X.A X.env X.xe) (hc : ST X T W c mc) (hbody : SSs X T W body mb) : SS X T W (.While c body [] pos) (mWhile mc mb) := by
  refine ⟨fun w0 => (ps_while hp hc.run (hbody.run w0)).tlw fun D σ H h => ?_⟩
  obtain ⟨w, ρ, G, rfl, ok, rs, ⟨n, h⟩, f⟩ := h
  refine ⟨fun n σ H => ∃ (w1 : Wd) (ρ1 : Ro), w1.H = H ∧ Ok X.K T w1 ∧ RS X.K w0 w1 ρ1 σ ∧ whileD mc mb n ρ1 w1.S G, ⟨n, w, ρ, rfl, ok, rs, h⟩, ?_⟩
  rintro m σ1 H1 ⟨w1, ρ1, rfl, ok1, rs1, z1⟩
  cases m with
  | zero => exact z1.elim
  | succ m =>
    refine ⟨w1, ρ1, _, _, rfl, ok1, rs1.re, z1, fun k S' z w2 e2 ok2 le2 => ?_, xs_of f.ex ok1 rs1⟩
    subst e2
    have rs2 := rs1.step ok1 le2
    cases k with
    | true =>
      refine ⟨fun σ2 H2 => ∃ (w2 : Wd) (ρ2 : Ro), w2.H = H2 ∧ Ok X.K T w2 ∧ RS X.K w0 w2 ρ2 σ2 ∧ whileD mc mb m ρ2 w2.S G, fun σ2 H2 y => ⟨m, Nat.lt_succ_self m, y⟩, ?_⟩
      exact ⟨w2, ρ1, _, rfl, ok2, rs2, z, ⟨fun ρ4 S4 h4 w4 σ4 e4 ok4 rs4 => ⟨w4, ρ4, rfl, ok4, rs4, by rw [e4]; exact h4⟩, f.rt, f.nx, fun ρ4 S4 h4 w4 σ4 e4 ok4 rs4 => ⟨w4, ρ4, rfl, ok4, rs4, by rw [e4]; exact h4⟩, f.ex⟩⟩
    | false => exact f.nx _ _ z w2 σ1 rfl ok2 rs2
end
end TL

set_option Elab.async false
set_option linter.all false
set_option maxRecDepth 100000
set_option maxHeartbeats 1000000
/-! T13: list comprehensions. -/
namespace TL
open PySem PySem.Spec PyProof.Rows L2

/-- an unfrozen list that is no cell is written -/
theorem Ok.wr {K : KF} {T : Tb} {w : Wd} {a : Addr} {vs us : List V} (ok : Ok K T w) (ha : w.H a = some (.lst vs)) (hf : ¬ w.F a) (hs : w.S a = none) :
    Ok K T { w with H := upd w.H a (.lst us) } ∧ (∀ w0, Le w0 w → Nw w0.H a → Le w0 { w with H := upd w.H a (.lst us) }) := by
  obtain ⟨md, ms⟩ := md_upd (K := K) (us := us) ha hf
  refine ⟨⟨fun b l s => ?_, tab_upd ok.tabs ha, fun b z => by
    obtain ⟨xs, e⟩ := ok.fh b z
    exact ⟨xs, (upd_ne fun z' => hf (by rw [← z']; exact z)).trans e⟩⟩, fun w0 le n0 => ⟨le.fz, le.fr, fun b o q s nt => ?_, le.st, fun b q => le.ex b (nw_upd ha b q)⟩⟩
  · obtain ⟨xs, x1, x2, x3⟩ := ok.cell b l s
    have hb : b ≠ a := fun z => by
      subst z
      have s' : w.S b = some (.lst l) := s
      rw [hs] at s'; cases s'
    exact ⟨xs, (upd_ne hb).trans x1, ms x2, x3⟩
  · have hb : b ≠ a := n0.ne q nt
    obtain ⟨x1, x2⟩ := le.hp b o q s nt
    exact ⟨(upd_ne hb).trans x1, x2⟩
def botW : Wd := ⟨fun _ => False, fun _ => none, fun _ => none⟩
theorem RE.bot {K : KF} {w : Wd} {ρ : Ro} {σ : L2.St} (h : RE K w ρ σ) : RS K botW w ρ σ :=
  ⟨h, ⟨fun _ z => z.elim, fun _ _ => .inr (.of rfl), fun _ _ z => (by cases z), fun _ z => absurd rfl z, fun _ _ => .of rfl⟩, fun _ _ _ _ _ => .of rfl⟩
def swipe : Ro → List Nat → Ro
  | ρ, [] => ρ
  | ρ, v :: vs => sset (swipe ρ vs) v .un
theorem RE.wipe {K : KF} {w : Wd} {ρ : Ro} {σ : L2.St} (h : RE K w ρ σ) : ∀ vs : List Nat, RE K w (swipe ρ vs) (L2.wipe σ vs)
  | [] => h
  | v :: vs => by
    have ih := RE.wipe h vs
    unfold swipe L2.wipe
    refine ⟨by rw [sset_eq, List.length_set, List.length_set]; exact ih.len, fun j sv o e1 e2 => ?_, fun j k d1 d2 b e1 e2 e3 e4 => ?_⟩
    · rw [sset_eq] at e1
      by_cases hj : j = v
      · subst hj
        have h1 : j < (swipe ρ vs).length := by have := (List.getElem?_eq_some_iff.mp e1).1; simpa using this
        rw [List.getElem?_set_self h1] at e1
        cases e1; trivial
      · rw [List.getElem?_set_ne (Ne.symm hj)] at e1 e2
        exact ih.at_ j sv o e1 e2
    · have f : ∀ {m : Nat} {dd : List D} {c : Addr}, (sset (swipe ρ vs) v .un)[m]? = some (.own dd) → ((L2.wipe σ vs).set v none)[m]? = some (some (.ref c)) → (swipe ρ vs)[m]? = some (.own dd) ∧ (L2.wipe σ vs)[m]? = some (some (.ref c)) := fun {m dd c} e e' => by
        rw [sset_eq] at e
        by_cases hm : m = v
        · subst hm
          have h1 : m < (swipe ρ vs).length := by have := (List.getElem?_eq_some_iff.mp e).1; simpa using this
          rw [List.getElem?_set_self h1] at e
          cases e
        · rw [List.getElem?_set_ne (Ne.symm hm)] at e e'
          exact ⟨e, e'⟩
      obtain ⟨a1, b1⟩ := f e1 e3
      obtain ⟨a2, b2⟩ := f e2 e4
      exact ih.one j k d1 d2 b a1 a2 b1 b2

structure STs (X : Cx) (T : Tb) (W : WX) (ifs : List Expr) (m : MT) : Prop where
  run : PTs X ifs (TRt X T W m)
def mYes : MT := fun _ S Q _ => Q true S
def lcD (b : BD) (mt : MT) (me : ME) : List D → MA
  | [] => fun _ S Q _ => Q [] S
  | d :: ds => fun ρ S Q E => b d ρ fun ρ' => mt ρ' S (fun k S1 => if k = true then me ρ' S1 (fun y S2 => lcD b mt me ds ρ S2 (fun ys S3 => Q (y :: ys) S3) E) E else lcD b mt me ds ρ S1 Q E) E
abbrev F0 : WX := fun _ _ _ _ => False
abbrev noX : XKd := fun _ _ _ => False
def mComp (vs : List Nat) (mi : MA) (b : BD) (mt : MT) (me : ME) : MA := fun ρ S Q E => mi ρ S (fun ds S1 => ds.length ≤ lim ∧ lcD b mt me ds (swipe ρ vs) S1 Q noX) E
section
variable {X : Cx} {T : Tb} {W : WX}
theorem sts_nil : STs X T W [] mYes := by
  refine ⟨⟨fun pins s σ H Q I h => ?_⟩⟩
  obtain ⟨w, ρ, Q1, E1, rfl, ok, re, h, hq, _⟩ := h
  exact pts_nil.run pins s σ w.H Q I (hq _ _ h w rfl ok .refl)
theorem sts_one {c : Expr} {m : MT} (h : ST X T W c m) : STs X T W [c] m := ⟨pts_one h.run⟩
theorem lc_goal {g : TG} {b : BD} {mt : MT} {me : ME} {sl vs : List Nat} {K : KF} {w : Wd} {ρ : Ro} {σ : L2.St} {J : It} {ds : List D} {Dn : Addr} {Q : Hp → Prop} {Q1 : AK} {tt : TT} {te : TE}
    (hb : ∀ {w0 w : Wd} {ρ : Ro} {σ : L2.St} {d : D} {v : V} {k : Ro → Prop} {q : L2.St → Hp → Prop}, RS K w0 w ρ σ → RD K w.F w.H d v → b d ρ k → (∀ ρ' σ', k ρ' → RS K w0 w ρ' σ' → (∀ vs, (∀ i ∈ sl, i ∈ vs) → wipe σ' vs = wipe σ vs) → q σ' w.H) → g v σ w.H q)
    (ht : ∀ {σ : L2.St} {w : Wd} {ρ : Ro} {q : TK} {Q : Bool → Hp → Prop}, Ok K T w → RE K w ρ σ → mt ρ w.S q noX → (∀ k S', q k S' → ∀ w', w'.S = S' → Ok K T w' → Le w w' → Q k w'.H) → tt σ w.H Q)
    (he : ∀ {σ : L2.St} {w : Wd} {ρ : Ro} {q : EK} {Q : VK}, Ok K T w → RE K w ρ σ → me ρ w.S q noX → (∀ d S', q d S' → ∀ w' v, w'.S = S' → Ok K T w' → Le w w' → RD K w'.F w'.H d v → Q v w'.H) → te σ w.H Q)
    (hsl : ∀ i ∈ sl, i ∈ vs) (ok : Ok K T w) (re : RE K w ρ σ) (it : Walks K T w J ds) (hn : w.H Dn = none) (hl : ds.length ≤ lim) (h : lcD b mt me ds (swipe ρ vs) w.S Q1 noX)
    (hq : ∀ ds S', Q1 ds S' → ∀ w' us, w'.S = S' → Ok K T w' → Le w w' → w'.H Dn = some (.lst us) → ¬ w'.F Dn → w'.S Dn = none → RDs K w'.F w'.H ds us → Q w'.H) :
    ∃ W : Nat → Nat → Hp → Prop, (∃ m, W 0 m (upd w.H Dn (.lst []))) ∧ ∀ i m H, W i m H →
      (J.stop i H ∧ Q H) ∨ (J.go i H ∧ ∃ Nx : Hp → Prop, (∀ H', Nx H' → ∃ m', m' < m ∧ W (i + 1) m' H') ∧ ∀ x H', J.yld i H x H' → g x (wipe σ vs) H' fun σ2 H2 => wipe σ2 vs = wipe σ vs ∧ tt σ2 H2 fun b H3 =>
        if b = true then te σ2 H3 fun y H4 => ∃ acc, H4 Dn = some (.lst acc) ∧ acc.length < sizeLine ∧ Nx (upd H4 Dn (.lst (acc ++ [y]))) else Nx H3) := by
  let Inv0 : Nat → Hp → Prop := fun i H9 => ∃ (w1 : Wd) (acc : List D) (us : List V), w1.H = H9 ∧ Ok K T w1 ∧ Le w w1 ∧ w1.H Dn = some (.lst us) ∧ RDs K w1.F w1.H acc us ∧ ¬ w1.F Dn ∧ w1.S Dn = none ∧ acc.length ≤ i ∧ lcD b mt me (ds.drop i) (swipe ρ vs) w1.S (fun ys S => Q1 (acc ++ ys) S) noX
  obtain ⟨okl, lel⟩ := ok.laid hn (.lst [])
  obtain ⟨s0, f0⟩ := ok.fresh hn
  refine ⟨fun i m H9 => m = ds.length - i ∧ i ≤ ds.length ∧ Inv0 i H9, ⟨ds.length, by simp, Nat.zero_le _, { w with H := upd w.H Dn (.lst []) }, [], [], rfl, okl, lel, upd_same, rfl, f0, s0, Nat.le_refl _, h⟩, ?_⟩
  rintro i m H1 ⟨rfl, hi, w1, acc, us, rfl, ok1, le1, hD, hr, hf, hs, ha, z⟩
  obtain ⟨hgo, hstop⟩ := it w1 le1 ok1 i
  have re1 := (re.wipe vs).le le1 ok
  by_cases hlt : i < ds.length
  · have e1 : ds[i]? = some ds[i] := List.getElem?_eq_getElem hlt
    obtain ⟨go, yld⟩ := hgo _ e1
    rw [List.drop_eq_getElem_cons hlt] at z
    refine .inr ⟨go, Inv0 (i + 1), fun H' y => ⟨ds.length - (i + 1), by omega, rfl, hlt, y⟩, fun x H' y => ?_⟩
    obtain ⟨w2, e2, s2, ok2, le2, r2⟩ := yld x H' y
    subst e2
    refine hb (re1.le le2 ok1).bot r2 z fun ρ3 σ3 z3 rs3 hw => ⟨?_, ?_⟩
    · have e := hw vs hsl
      rw [e]
      apply List.ext_getElem?
      intro j
      rw [wipe_get, wipe_get, wipe_length]
      by_cases hj : j ∈ vs <;> simp [hj]
    · rw [← s2] at z3
      refine ht ok2 rs3.re z3 fun k S' zk w3 e3 ok3 le3 => ?_
      subst e3
      obtain ⟨hD3, hs3⟩ := (le2.trans le3).hp Dn _ hD hs (fun _ q => by cases q)
      have hf3 : ¬ w3.F Dn := fun q => by
        rcases (le2.trans le3).fr Dn q with q | q
        · exact hf q
        · exact q.ne hD (fun _ q => by cases q) rfl
      have hr3 := hr.le (le2.trans le3) ok1
      cases k with
      | true =>
        refine he ok3 (rs3.re.le le3 ok2) zk fun y S4 z4 w4 v e4 ok4 le4 r4 => ?_
        subst e4
        obtain ⟨hD4, hs4⟩ := le4.hp Dn _ hD3 hs3 (fun _ q => by cases q)
        have hf4 : ¬ w4.F Dn := fun q => by
          rcases le4.fr Dn q with q | q
          · exact hf3 q
          · exact q.ne hD3 (fun _ q => by cases q) rfl
        have hr4 := hr3.le le4 ok3
        obtain ⟨ok5, le5⟩ := ok4.wr (us := us ++ [v]) hD4 hf4 hs4
        obtain ⟨md, ms⟩ := md_upd (K := K) (us := us ++ [v]) hD4 hf4
        refine ⟨us, hD4, ?_, { w4 with H := upd w4.H Dn (.lst (us ++ [v])) }, acc ++ [y], us ++ [v], rfl, ok5, le5 w (((le1.trans le2).trans le3).trans le4) (.of hn), upd_same, ms (hr4.append (RDs.cons r4 RDs.nil)), hf4, hs4, ?_, ?_⟩
        · rw [hr4.length]
          exact Nat.lt_of_lt_of_le (Nat.lt_of_le_of_lt ha hlt) (lim_le hl)
        · simp; exact ha
        · simp only [List.append_assoc, List.singleton_append]
          exact z4
      | false => exact ⟨w3, acc, us, rfl, ok3, (le1.trans le2).trans le3, hD3, hr3, hf3, hs3, Nat.le_succ_of_le ha, zk⟩
  · have e1 : i = ds.length := by omega
    subst e1
    rw [List.drop_length] at z
    have z : Q1 (acc ++ []) w1.S := z
    rw [List.append_nil] at z
    exact .inl ⟨hstop (Nat.le_refl _), hq _ _ z w1 us rfl ok1 le1 hD hf hs hr⟩
abbrev blkX (X : Cx) (scope : Scope) (s : Shared) (H : Hp) (C : Addr) (cl : List (Str × Addr)) (fp : List Addr) : Cx := X.blk s H scope (compEnvC scope cl C X.env) fp
theorem lc_read {g : TG} {b : BD} {sl vs : List Nat} {mi : MA} {mt : MT} {me : ME} {tt : TT} {te : TE} (hb : ∀ {w0 w : Wd} {ρ : Ro} {σ : L2.St} {d : D} {v : V} {k : Ro → Prop} {q : L2.St → Hp → Prop}, RS X.K w0 w ρ σ → RD X.K w.F w.H d v → b d ρ k → (∀ ρ' σ', k ρ' → RS X.K w0 w ρ' σ' → (∀ vs, (∀ i ∈ sl, i ∈ vs) → wipe σ' vs = wipe σ vs) → q σ' w.H) → g v σ w.H q)
    (ht : ∀ {σ : L2.St} {w : Wd} {ρ : Ro} {q : TK} {Q : Bool → Hp → Prop}, Ok X.K T w → RE X.K w ρ σ → mt ρ w.S q noX → (∀ k S', q k S' → ∀ w', w'.S = S' → Ok X.K T w' → Le w w' → Q k w'.H) → tt σ w.H Q)
    (he : ∀ {σ : L2.St} {w : Wd} {ρ : Ro} {q : EK} {Q : VK}, Ok X.K T w → RE X.K w ρ σ → me ρ w.S q noX → (∀ d S', q d S' → ∀ w' v, w'.S = S' → Ok X.K T w' → Le w w' → RD X.K w'.F w'.H d v → Q v w'.H) → te σ w.H Q)
    (hsl : ∀ i ∈ sl, i ∈ vs) {σ : L2.St} {H : Hp} {Q : VK} (h : TRf X T W (mComp vs mi b mt me) σ H Q) : tLc (TRiw X T W mi) g tt te vs σ H Q := by
  obtain ⟨w, ρ, Q1, E1, rfl, ok, re, h, hq, hx⟩ := h
  refine ⟨w, ρ, _, _, rfl, ok, re, h, fun ds S' z w' J e ok' le it Dn nD => ?_, hx⟩
  subst e
  have n0 : Nw w.H Dn := le.ex Dn (.of nD)
  exact lc_goal (K := X.K) (Q := fun H9 => Q (.ref Dn) H9) hb ht he hsl ok' (re.le le ok) it nD z.1 z.2 fun ds S' y w2 us e2 ok2 le2 hD hf hs hr => hq ds S' y w2 Dn us e2 ok2 (le.trans le2) n0 hD hf hs hr
theorem st_read {X' : Cx} {mt : MT} (hK : X'.K = X.K) {σ : L2.St} {w : Wd} {ρ : Ro} {q : TK} {Q : Bool → Hp → Prop} (ok : Ok X.K T w) (re : RE X.K w ρ σ) (h : mt ρ w.S q noX) (hq : ∀ k S', q k S' → ∀ w', w'.S = S' → Ok X.K T w' → Le w w' → Q k w'.H) : TRt X' T F0 mt σ w.H Q :=
  ⟨w, ρ, q, noX, rfl, by rw [hK]; exact ok, by rw [hK]; exact re, h, fun k S' z w' e ok' le => hq k S' z w' e (by rw [← hK]; exact ok') le, fun _ _ _ z => z.elim⟩
theorem se_read {X' : Cx} {me : ME} (hK : X'.K = X.K) {σ : L2.St} {w : Wd} {ρ : Ro} {q : EK} {Q : VK} (ok : Ok X.K T w) (re : RE X.K w ρ σ) (h : me ρ w.S q noX) (hq : ∀ d S', q d S' → ∀ w' v, w'.S = S' → Ok X.K T w' → Le w w' → RD X.K w'.F w'.H d v → Q v w'.H) : TRe X' T F0 me σ w.H Q :=
  ⟨w, ρ, q, noX, rfl, by rw [hK]; exact ok, by rw [hK]; exact re, h, fun k S' z w' v e ok' le r => hq k S' z w' v e (by rw [← hK]; exact ok') le (by rw [← hK]; exact r), fun _ _ _ z => z.elim⟩
variable {elt tg iter : Expr} {ifs : List Expr} {scope : Scope} {own : List (Str × Nat)} {pos : Pos} {mi : MA} {g : TG} {b : BD} {sl : List Nat} {mt : MT} {me : ME}
theorem sf_comp (hc : X.calm = true) (hN : X.N.Nodup) (hi : SIw X T W tg iter mi) (ok : BlkOk X.N X.env.scope scope own) (hsl : ∀ i ∈ sl, i ∈ own.map (·.2))
    (hb : ∀ (s : Shared) (H : Hp) (C : Addr) (cl : List (Str × Addr)) (fp : List Addr), SB (blkX X scope s H C cl fp) tg g b sl)
    (ht : ∀ (s : Shared) (H : Hp) (C : Addr) (cl : List (Str × Addr)) (fp : List Addr), STs (blkX X scope s H C cl fp) T F0 ifs mt)
    (he : ∀ (s : Shared) (H : Hp) (C : Addr) (cl : List (Str × Addr)) (fp : List Addr), SE (blkX X scope s H C cl fp) T F0 elt me) :
    SEf X T W (.ListComp elt [⟨tg, iter, ifs, 0⟩] scope pos) (mComp (own.map (·.2)) mi b mt me) := by
  refine ⟨⟨fun pins s σ H Q I h => ?_⟩⟩
  have rs := @SB.rs _ _ _ _ _ (hb s H 0 [] [])
  refine (pe_lc (tt := TRt (blkX X scope s H 0 [] []) T F0 mt) (te := TRe (blkX X scope s H 0 [] []) T F0 me) hc hN hi.run ok (fun s H C cl fp => (hb s H C cl fp).pg) (fun s H C cl fp => ⟨(ht s H C cl fp).run.run⟩) (fun s H C cl fp => ⟨(he s H C cl fp).run.run⟩) hi.fs).run pins s σ H Q I (lc_read @rs (fun ok re h hq => st_read rfl ok re h hq) (fun ok re h hq => se_read rfl ok re h hq) hsl h)
/-- name = [..] on one line, the name a local -/
theorem ss_setC (i : Nat) {y : Str} {py spos : Pos} (hc : X.calm = true) (hN : X.N.Nodup) (hi : SIw X T W tg iter mi) (ok : BlkOk X.N X.env.scope scope own) (hsl : ∀ i ∈ sl, i ∈ own.map (·.2))
    (hb : ∀ (s : Shared) (H : Hp) (C : Addr) (cl : List (Str × Addr)) (fp : List Addr), SB (blkX X scope s H C cl fp) tg g b sl)
    (ht : ∀ (s : Shared) (H : Hp) (C : Addr) (cl : List (Str × Addr)) (fp : List Addr), STs (blkX X scope s H C cl fp) T F0 ifs mt)
    (he : ∀ (s : Shared) (H : Hp) (C : Addr) (cl : List (Str × Addr)) (fp : List Addr), SE (blkX X scope s H C cl fp) T F0 elt me)
    (hsw : swapsWith (.ListComp elt [⟨tg, iter, ifs, 0⟩] scope pos) (some (.Name y py)) spos.line X.env = pure true) (hy : X.N[i]? = some y := by rfl) (hyl : X.env.scope.names.lookup y = some .local := by rfl) :
    SS X T W (.Assign [.Name y py] (.ListComp elt [⟨tg, iter, ifs, 0⟩] scope pos) spos) (mSetF i (mComp (own.map (·.2)) mi b mt me)) := by
  refine ⟨fun w0 => ⟨fun pins s σ H D I h => ?_⟩⟩
  have rs := @SB.rs _ _ _ _ _ (hb s H 0 [] [])
  refine (ps_setLc (tt := TRt (blkX X scope s H 0 [] []) T F0 mt) (te := TRe (blkX X scope s H 0 [] []) T F0 me) hc hN hy hyl hsw hi.run ok (fun s H C cl fp => (hb s H C cl fp).pg) (fun s H C cl fp => ⟨(ht s H C cl fp).run.run⟩) (fun s H C cl fp => ⟨(he s H C cl fp).run.run⟩) hi.fs).run pins s σ H D I ?_
  obtain ⟨w, ρ, G, rfl, ok, rs', h, f⟩ := h
  refine lc_read @rs (fun ok re h hq => st_read rfl ok re h hq) (fun ok re h hq => se_read rfl ok re h hq) hsl ⟨w, ρ, _, _, rfl, ok, rs'.re, h, fun ds S' z w' a vs e ok' le' n0 ha hf hs r => ?_, xs_of f.ex ok rs'⟩
  have rs2 := rs'.step ok le'
  have n00 : Nw w0.H a := rs'.le.ex a n0
  refine f.nx _ _ z w' _ e ok' (rs2.putOwn ha hf hs n00 r fun j l e1 e2 => ?_)
  obtain ⟨b, xs, e3, q1, _⟩ := rs'.re.at_ j _ _ e1 e2
  cases e3
  exact n0.ne q1 (fun _ q => by cases q) rfl
end
end TL

set_option Elab.async false
set_option linter.all false
set_option maxRecDepth 100000
set_option maxHeartbeats 1000000
/-! T14: a def's contract by its body; errors raised. -/
namespace TL
open PySem PySem.Spec PyProof.Rows L2

def startR (n : Nat) : List D → Ro
  | [] => List.replicate n .un
  | d :: ds => .val d :: startR (n - 1) ds
theorem startR_eq : ∀ (ds : List D) (n : Nat), startR n ds = ds.map SV.val ++ List.replicate (n - ds.length) .un
  | [], n => by simp [startR]
  | d :: ds, n => by
    rw [startR, startR_eq ds (n - 1)]
    simp only [List.map_cons, List.length_cons, List.cons_append]
    rw [show n - 1 - ds.length = n - (ds.length + 1) by omega]
theorem RE.start {K : KF} {w : Wd} {N : List Str} {ds : List D} {vs : List V} (r : RDs K w.F w.H ds vs) (hn : vs.length ≤ N.length) : RE K w (startR N.length ds) (L2.start N vs) := by
  have hl := r.length
  have noOwn : ∀ {i : Nat} {l : List D}, (startR N.length ds)[i]? ≠ some (SV.own l) := fun {i l} e => by
    rw [startR_eq, List.getElem?_append] at e
    split at e
    · rw [List.getElem?_map] at e
      cases q : ds[i]? with
      | none => rw [q] at e; cases e
      | some d => rw [q] at e; cases e
    · rw [List.getElem?_replicate] at e
      split at e <;> cases e
  refine ⟨by rw [startR_eq]; unfold L2.start; simp [hl], fun i sv o e1 e2 => ?_, fun i j d1 d2 a e1 => absurd e1 noOwn⟩
  rw [startR_eq, List.getElem?_append, List.length_map] at e1
  split at e1
  · rename_i h
    rw [List.getElem?_map] at e1
    cases q : ds[i]? with
    | none => rw [q] at e1; cases e1
    | some d =>
      rw [q] at e1
      cases e1
      obtain ⟨v, ev, rv⟩ := r.get q
      unfold L2.start at e2
      rw [List.getElem?_append_left (by rw [List.length_map, hl]; exact h), List.getElem?_map, ev] at e2
      cases e2
      exact ⟨v, rfl, rv⟩
  · rw [List.getElem?_replicate] at e1
    split at e1
    · cases e1; trivial
    · cases e1
/-- how a def's body ends for its caller -/
def retE (Q : EK) (E : XKd) : EndsD := { nx := fun _ S => Q .non S, rt := Q, ex := fun c d _ S => E c d S }
theorem fn_ok {P : Program} {wd : World} {K : KF} {mg : Str → Option Value} {base : Heap} {T : Tb} {x qual : Str} {params : Arguments} {body : List Stmt} {scope : Scope} {kws : List (Str × V)} {f : Addr} {fd : FuncData} {N ps : List Str} {k : Nat} {con : Con} {m : MS}
    (F : FunD K x qual params body scope [] kws f fd) (hmg : mg x = some (.ref f)) (hb : L2.Binds K fd ps []) (S : FnScope N ps scope) (hps : ps.length ≤ N.length)
    (hbody : ∀ (cdv : Value) (A : Around) (outer : List Env) (s : Shared) (H : Hp) (E : XK), Room k (A.deeper (envOfC qual scope s.heap.objs.size f cdv)) →
      SSs (cxOf (L2.CX P wd) P wd K mg base N qual scope f cdv A outer s H E) T (fun cls d _ H => E cls d H) body m)
    (hm : ∀ ds S Q E, ds.length = ps.length → con ds S Q E → m (startR N.length ds) S (retE Q E)) : FnP P wd K mg base T x ps.length (k + 1) con := by
  refine ⟨f, fd, ps, hmg, F.kp, F.ok S (fun vs H Q E h => h.1) (fun cdv A outer s H vs Q E hr h => ?_), hb⟩
  obtain ⟨hl, w, ds, Q1, E1, rfl, ok, r, hc, hq, hx⟩ := h
  refine ⟨_, (hbody cdv A outer s w.H E hr).run w, w, startR N.length ds, retE Q1 E1, rfl, ok, ⟨RE.start r (by rw [hl]; exact hps), .refl, fun i l a e1 e2 => ?_⟩, hm ds w.S Q1 E1 (by rw [← r.length, hl]) hc, ?_⟩
  · exact absurd e1 (by
      intro e
      rw [startR_eq, List.getElem?_append] at e
      split at e
      · rw [List.getElem?_map] at e
        cases q : ds[i]? with
        | none => rw [q] at e; cases e
        | some d => rw [q] at e; cases e
      · rw [List.getElem?_replicate] at e
        split at e <;> cases e)
  · exact ⟨fun ρ' S' z w' σ' e ok' rs => hq _ _ z w' .non e ok' rs.le rfl, fun d S' z w' v e ok' le r => hq _ _ z w' v e ok' le r, fun _ _ z => z.elim, fun _ _ z => z.elim, fun c d ρ' S' z w' σ' C a v e ok' rs m ha r => hx c d S' z w' C a v e ok' rs.le m ha r⟩

/-! ### errors -/
/-- __init__ of an error class: ValueError.__init__(self, what); self.what = what -/
def spI (K : KF) : Sp := fun vs H Q _ => ∃ (a C : Addr) (v : V), vs = [.ref a, v] ∧ OexC K C ∧ PySem.W.findIn K (.ref C) whatS = some none ∧ H a = some (exo a C none) ∧ ∀ d, H d = none → d ≠ a → Q .non (upd (upd H d (exd d [(whatS, v)])) a (exo a C (some d)))
structure InitP (P : Program) (wd : World) (K : KF) (mg : Str → Option Value) (base : Heap) (fI : Addr) : Prop where
  ex : ∃ fd ps, FnOk P wd K mg base (L2.CX P wd) 1 fI fd ps (spI K) ∧ L2.Binds K fd ps []
/-- the module's name x is an error class -/
structure ErrC (K : KF) (mg : Str → Option Value) (fI : Addr) (x : Str) : Prop where
  ex : ∃ C, mg x = some (.ref C) ∧ OexC K C ∧ PySem.W.findIn K (.ref C) "__init__" = some (some (.ref fI)) ∧ PySem.W.typeIn K (.ref fI) = some (.type "function") ∧ PySem.W.findIn K (.ref C) whatS = some none
theorem init_ok {P : Program} {wd : World} {K : KF} {mg : Str → Option Value} {base : Heap} {qual : Str} {params : Arguments} {body : List Stmt} {scope : Scope} {fI : Addr} {fd : FuncData}
    (F : FunD K "__init__" qual params body scope [] [] fI fd) (hb : L2.Binds K fd ["self", "what"] []) (S : FnScope ["self", "what"] ["self", "what"] scope)
    (hd : ∀ (cdv : Value) (A : Around) (outer : List Env) (s : Shared) (H : Hp) (E : XK), PSs (cxOf (L2.CX P wd) P wd K mg base ["self", "what"] qual scope fI cdv A outer s H E) body
      (tSeq (tDrop (tVeI K (tCons (tVar 0) (tCons (tVar 1) tNil)))) (tOst K whatS (tVar 0) (tVar 1)))) : InitP P wd K mg base fI := by
  refine ⟨fd, ["self", "what"], F.ok S (fun vs H Q E h => ?_) (fun cdv A outer s H vs Q E hr h => ?_), hb⟩
  · obtain ⟨a, C, v, rfl, _⟩ := h
    rfl
  · obtain ⟨a, C, v, rfl, T, hno, ha, hQ⟩ := h
    refine ⟨_, hd cdv A outer s H E, ?_⟩
    refine ⟨_, rfl, _, rfl, a, C, [v], rfl, (show 1 ≤ 1000 by decide), T, ha, ?_⟩
    refine ⟨_, rfl, _, rfl, a, C, rfl, T, hno, .inl ⟨ha, fun d nd ne => hQ d nd ne⟩⟩
def mRaise (x : Str) (m : ME) : MS := fun ρ S G => m ρ S (fun d S' => G.ex x d ρ S') (fun c d S' => G.ex c d ρ S')
theorem exn_eq {H : Hp} {a d : Addr} {o1 o2 o3 o4 : HO} (hn : H a = none) (hd : d ≠ a) : upd (del (upd (upd (upd H a o1) d o2) a o3) a) d o4 = upd H d o4 := by
  funext b
  by_cases h1 : b = d
  · subst h1; rw [upd_same, upd_same]
  · rw [upd_ne h1, upd_ne h1]
    by_cases h2 : b = a
    · subst h2; rw [del_same, hn]
    · rw [del_ne h2, upd_ne h2, upd_ne h1, upd_ne h2]
section
variable {X : Cx} {T : Tb} {W : WX} {e : Expr} {p p2 pos : Pos} {x : Str} {fI : Addr} {m : ME}
theorem ss_raise (hc : X.calm = true) (tk : Takes X W) (IP : InitP X.prog X.w X.K X.mg X.base fI) (EC : ErrC X.K X.mg fI x) (hr : Room 2 X.A) (he : SE X T W e m) (hg : Gl X x := by rfl) (hdb : (x == ("__debug__" : Str)) = false := by decide)
    (hst : starEach [e] X.env = (false, eval e X.env) :: starEach [] X.env := by rfl) : SS X T W (.Raise (some (.Call (.Name x p) [e] [] p2)) none pos) (mRaise x m) := by
  obtain ⟨fd, ps, F, hb⟩ := IP.ex
  obtain ⟨C, hm, oc, iC, tI, hno⟩ := EC.ex
  refine ⟨fun w0 => (ps_raise hc tk (pmk_oex oc iC tI F hr hb .nil (fun _ _ _ _ _ _ _ h => by
    obtain ⟨_, _, _, _, _, _, _, _, _, _, _, _, z⟩ := h
    exact z.elim) hg hm (pa_cons he.run pa_nil hst) hdb hst (by rfl))).tlw fun D σ H h => ?_⟩
  obtain ⟨w, ρ, G, rfl, ok, rs, h, f⟩ := h
  refine ⟨w, ρ, _, _, rfl, ok, rs.re, h, fun d S' z w' v e1 ok' le r => ⟨(show 1 ≤ 1000 by decide), fun a na => ?_⟩, xs_of f.ex ok rs⟩
  refine ⟨a, C, v, rfl, oc, hno, upd_same, fun dd nd ne => ⟨rfl, dd, [(whatS, v)], upd_same, (upd_ne ne).trans upd_same, ?_, ?_⟩⟩
  · rw [upd_ne ne] at nd
    exact nd
  · rw [exn_eq na ne]
    rw [upd_ne ne] at nd
    obtain ⟨ok2, le2⟩ := ok'.laid nd (.xd [(whatS, v)])
    exact f.ex _ _ _ _ z { w' with H := upd w'.H dd (.xd [(whatS, v)]) } σ C dd v e1 ok2 ((rs.step ok le).step ok' le2) hm upd_same (r.le le2 ok')
end
end TL

set_option Elab.async false
set_option linter.all false
set_option maxRecDepth 100000
set_option maxHeartbeats 1000000
/-! T15: try with several clauses, some of which name the error. -/
namespace TL
open PySem PySem.Spec PyProof.Rows L2

/-- a clause: the class, the slot of the name if there is one, the suite's reading -/
structure Cl where
  c : Value
  i : Option Nat
  ts : Addr → Value → Option Addr → TS
/-- the ends of a suite that unbinds slot i -/
def unE (D : Ends) (i : Nat) : Ends := { nx := fun σ H => D.nx (σ.set i none) H, rt := D.rt, bk := fun σ H => D.bk (σ.set i none) H, ct := fun σ H => D.ct (σ.set i none) H }
def Cl.go (l : Cl) (D : Ends) (a : Addr) (cls : Value) (d : Option Addr) (σ : L2.St) (H : Hp) : Prop := match l.i with
  | none => l.ts a cls d D σ H
  | some i => l.ts a cls d (unE D i) (σ.set i (some (.ref a))) H
def wCl (K : KF) (Wout : WX) (D : Ends) : List Cl → WX
  | [] => Wout
  | l :: r => fun cls d σ H => ∃ b, PySem.W.exmOne K cls l.c = some b ∧ (b = true → ∀ a, H a = none → l.go D a cls d σ H) ∧ (b = false → wCl K Wout D r cls d σ H)
inductive ClOk (X : Cx) : List ExceptHandler → List Cl → Prop
  | nil : ClOk X [] []
  | bare {x : Str} {l : Cl} {b₀ : Stmt} {suite : List Stmt} {np pos' : Pos} {hds : List ExceptHandler} {r : List Cl} (hi : l.i = none) (hc : Names X x l.c)
      (hsu : ∀ (a : Addr) (oe : Obj) (cls : Value) (d : Option Addr) (pn : List (Addr × Obj)), Zc cls d oe → (∃ vs, oe.data = .fields vs) → PSs (X.suite a ((a, oe) :: pn)) (b₀ :: suite) (l.ts a cls d)) (h : ClOk X hds r) :
      ClOk X (.ExceptHandler (some (.Name x np)) none (b₀ :: suite) pos' :: hds) (l :: r)
  | named {x n : Str} {i : Nat} {l : Cl} {b₀ : Stmt} {suite : List Stmt} {np pos' : Pos} {hds : List ExceptHandler} {r : List Cl} (hi : l.i = some i) (hN : X.N[i]? = some n) (hl : X.env.kindOf n = some .local) (hc : Names X x l.c)
      (hsu : ∀ (a : Addr) (oe : Obj) (cls : Value) (d : Option Addr) (pn : List (Addr × Obj)), Zc cls d oe → (∃ vs, oe.data = .fields vs) → PSs (X.suite a ((a, oe) :: pn)) (b₀ :: suite) (l.ts a cls d)) (h : ClOk X hds r) :
      ClOk X (.ExceptHandler (some (.Name x np)) (some n) (b₀ :: suite) pos' :: hds) (l :: r)
section
variable {X : Cx} {pins : List (Addr × Obj)} {Wout : WX} {D : Ends}
/-- an error that has landed in the frame, told over the abstract state -/
structure Landed (X : Cx) (pins : List (Addr × Obj)) (a : Addr) (B : Heap) (sI s' : Shared) (σ : L2.St) (H : Hp) (cls : Value) (d : Option Addr) : Prop where
  inv : L2.Inv X pins σ H sI
  nb : ∀ b o, sI.heap.get? b = some o → b ∉ frs X.stack → B.get? b = some o
  up : sI.heap.UpToSlots s'.heap
  held : HandSPX.FlyingZ B (X.env :: X.outer) a (Zc cls d) s'.heap
  os : s'.os = sI.os
  ag : AllBare s'.gens
  na : H a = none
theorem Landed.at_ {a : Addr} {B : Heap} {sI s' : Shared} {σ : L2.St} {H : Hp} {cls : Value} {d : Option Addr} (L : Landed X pins a B sI s' σ H cls d) (hf : X.env.frame = some X.env.locals) :
    L2.Inv X pins σ H s' ∧ ∃ oe vs, s'.heap.get? a = some oe ∧ Zc cls d oe ∧ oe.data = .fields vs ∧ L2.Inv (X.suite a ((a, oe) :: (X.pn ++ pins))) [] σ H s' := by
  have J := L.inv.landed L.nb L.held.1 L.up L.os L.ag
  obtain ⟨oe, vs, he, hz, hd⟩ := L.held.there
  have out : a ∉ frs (X.env :: X.outer) := fun hm => by
    obtain ⟨_, o', e', hnf⟩ := L.held.2.2.1.mem hm
    rw [he] at e'
    cases e'
    exact hnf _ hd
  have nL : a ≠ X.env.locals := fun z => out (List.mem_filterMap.mpr ⟨X.env, List.mem_cons_self, by rw [hf, z]⟩)
  have nF : a ∉ X.fs := fun hm => by
    obtain ⟨e, hin, q⟩ := List.mem_filterMap.mp hm
    exact out (List.mem_filterMap.mpr ⟨e, List.mem_cons_of_mem _ hin, q⟩)
  exact ⟨J, oe, vs, he, hz, hd, J.suite he hd L.na nL nF⟩
/-- a suite's end is the statement's end -/
theorem suite_sp {a : Addr} {oe : Obj} {f : Flow} {s' : Shared} (ok : X.Ok) (h : SP (X.suite a ((a, oe) :: (X.pn ++ pins))) [] D f s') : SP X pins D f s' := by
  cases f with
  | ret u => obtain ⟨v, σ, H, S, r, q⟩ := h; exact ⟨v, σ, H, S.unsuite ok, r, q⟩
  | next => obtain ⟨σ, H, S, q⟩ := h; exact ⟨σ, H, S.unsuite ok, q⟩
  | brk => obtain ⟨σ, H, S, q⟩ := h; exact ⟨σ, H, S.unsuite ok, q⟩
  | cont => obtain ⟨σ, H, S, q⟩ := h; exact ⟨σ, H, S.unsuite ok, q⟩
theorem try_sp {pn' : List (Addr × Obj)} {xe : Value → Shared → Prop} {f : Flow} {s' : Shared} (ok : X.Ok) (h : SP (X.tr (X.pn ++ pins) xe) pn' D f s') : SP X pins D f s' := by
  cases f with
  | ret u => obtain ⟨v, σ, H, S, r, q⟩ := h; exact ⟨v, σ, H, S.ofTry ok, r, q⟩
  | next => obtain ⟨σ, H, S, q⟩ := h; exact ⟨σ, H, S.ofTry ok, q⟩
  | brk => obtain ⟨σ, H, S, q⟩ := h; exact ⟨σ, H, S.ofTry ok, q⟩
  | cont => obtain ⟨σ, H, S, q⟩ := h; exact ⟨σ, H, S.ofTry ok, q⟩
theorem cl_run (hf : X.env.frame = some X.env.locals) (hs : X.stack = X.env :: X.outer) (hN : X.N.Nodup) (tk : Takes X Wout) {hds : List ExceptHandler} {l : List Cl} (hk : ClOk X hds l) :
    ∀ {a : Addr} {B : Heap} {sI s' : Shared} {σ : L2.St} {H : Hp} {cls : Value} {d : Option Addr}, Landed X pins a B sI s' σ H cls d → wCl X.K Wout D l cls d σ H →
      wpAny (model X.prog X.w) X.A (handleBy (.ref a) X.env hds) (SP X pins D) X.xe s' := by
  -- the test of a clause
  have tst : ∀ {x : Str} {c : Value} {np : Pos} {a : Addr} {s' : Shared} {σ : L2.St} {H : Hp} {oe : Obj} {Q : Value → Shared → Prop} {E : Value → Shared → Prop}, Names X x c → L2.Inv (X.suite a ((a, oe) :: (X.pn ++ pins))) [] σ H s' → Q c s' →
      wpAny (model X.prog X.w) (X.A.mark (some (.ref a))) (eval (.Name x np) X.env) Q E s' := fun {x c np a s' σ H oe Q E} hc S q => by
    obtain ⟨hg, hdbg, hm | ⟨hm, hv, hnn⟩⟩ := hc
    · exact ld_glob (X := X.suite a ((a, oe) :: (X.pn ++ pins))) S hg hm q hdbg
    · exact ld_blt (X := X.suite a ((a, oe) :: (X.pn ++ pins))) S hg hm hv q hnn hdbg
  induction hk with
  | nil =>
    intro a B sI s' σ H cls d L w
    refine wpAny_handleBy_nil ?_
    obtain ⟨k1, k2, k3, oe, vs, T, oT, ts', he, hz, hd, h1, hr⟩ := id L.held
    unfold PySem.passOn
    refine wpAny_bind (wpAny_field he hd h1 ?_)
    have nn : ¬ ((Value.ref T == Value.none) = true) := by simp
    rw [if_neg nn]
    have fin : wpAny (model X.prog X.w) X.A (setFlight (.ref a) X.env.frame) (fun _ s4 => wpAny (model X.prog X.w) X.A (throw (.ref a) : Sem Flow) (SP X pins D) X.xe s4) X.xe s' := by
      rw [hf]
      exact HandSPX.setFlight_upZ L.held fun h4 hh4 up4 => wpAny_throw (tk _ _ ⟨a, B, sI, pins, σ, H, cls, d, rfl, L.inv, L.nb, L.up.trans up4, .inr (.inr (by rw [hs]; exact hh4)), L.na, L.os, L.ag, w⟩)
    first
      | exact wpAny_bind (wpAny_pure (wpAny_bind fin))
      | exact wpAny_bind fin
  | @bare x l b₀ suite np pos' hds r hi hc hsu h ih =>
    intro a B sI s' σ H cls d L w
    obtain ⟨b, hb1, hyes, hno⟩ := w
    obtain ⟨J, oe, vs, he, hz, hd, S⟩ := L.at_ hf
    have LT : PySem.W.Looks (model X.prog X.w) s'.heap (typeOf (.ref a)) cls := fun A Q E s k q => wpAny_typeOf_ref (k _ _ he) (by rw [hz.1]; exact q)
    refine wpAny_handleBy_cons (codeAny_handlers_test (tst hc S ((PySem.W.exm_one (M := model X.prog X.w) J.kIn LT hb1).here ?_))) (fun q => by cases q)
    cases b with
    | false => exact ih L (hno rfl)
    | true =>
      refine codeAny_handlers_suite (HandSPX.lands_againZ L.held fun h4 fl4 up4 => ?_)
      have L4 : Landed X pins a B sI { s' with heap := h4 } σ H cls d := ⟨L.inv, L.nb, L.up.trans up4, fl4, L.os, L.ag, L.na⟩
      obtain ⟨J4, oe4, vs4, he4, hz4, hd4, S4⟩ := L4.at_ hf
      have go := hyes rfl a L.na
      unfold Cl.go at go
      rw [hi] at go
      exact wpAny_mono ((hsu a oe4 cls d (X.pn ++ pins) hz4 ⟨_, hd4⟩).run [] _ _ H D S4 go) (fun f s6 hsp => suite_sp J.ok hsp) (fun _ _ z => False.elim z)
  | @named x n i l b₀ suite np pos' hds r hi hn hl hc hsu h ih =>
    intro a B sI s' σ H cls d L w
    obtain ⟨b, hb1, hyes, hno⟩ := w
    obtain ⟨J, oe, vs, he, hz, hd, S⟩ := L.at_ hf
    have LT : PySem.W.Looks (model X.prog X.w) s'.heap (typeOf (.ref a)) cls := fun A Q E s k q => wpAny_typeOf_ref (k _ _ he) (by rw [hz.1]; exact q)
    refine wpAny_handleBy_cons (codeAny_handlers_test (tst hc S ((PySem.W.exm_one (M := model X.prog X.w) J.kIn LT hb1).here ?_))) (fun q => by cases q)
    cases b with
    | false => exact ih L (hno rfl)
    | true =>
      refine codeAny_handlers_suite_as (HandSPX.lands_againZ L.held fun h4 fl4 up4 => ?_)
      have L4 : Landed X pins a B sI { s' with heap := h4 } σ H cls d := ⟨L.inv, L.nb, L.up.trans up4, fl4, L.os, L.ag, L.na⟩
      obtain ⟨J4, oe4, vs4, he4, hz4, hd4, S4⟩ := L4.at_ hf
      have go := hyes rfl a L.na
      unfold Cl.go at go
      rw [hi] at go
      refine store_ok (X := X.suite a ((a, oe4) :: (X.pn ++ pins))) (v := .ref a) S4 hN hn (.inl hl) rfl (fun s5 S5 => ?_) (.inr hl)
      refine wpAny_mono ((hsu a oe4 cls d (X.pn ++ pins) hz4 ⟨_, hd4⟩).run [] s5 _ H (unE D i) S5 go) (fun f s6 hsp => ?_) (fun _ _ z => False.elim z)
      have fin : ∀ {σ6 : L2.St} {H6 : Hp} {Q : Shared → Prop}, L2.Inv X pins σ6 H6 s6 → (∀ s7, L2.Inv X pins (σ6.set i none) H6 s7 → Q s7) →
          wpAny (model X.prog X.w) X.A (do bindName X.env n .none; unbindBehindTheSuite X.env n pos') (fun _ s7 => Q s7) X.xe s6 := fun {σ6 H6 Q} S6 hq => gone_ok S6 hN hn hl hq
      have hsp := suite_sp (D := unE D i) J.ok hsp
      cases f with
      | ret u =>
        obtain ⟨v6, σ6, H6, S6, r6, q6⟩ := hsp
        exact fin S6 fun s7 J7 => ⟨_, _, _, J7, r6, q6⟩
      | next =>
        obtain ⟨σ6, H6, S6, q6⟩ := hsp
        exact fin S6 fun s7 J7 => ⟨_, _, J7, q6⟩
      | brk =>
        obtain ⟨σ6, H6, S6, q6⟩ := hsp
        exact fin S6 fun s7 J7 => ⟨_, _, J7, q6⟩
      | cont =>
        obtain ⟨σ6, H6, S6, q6⟩ := hsp
        exact fin S6 fun s7 J7 => ⟨_, _, J7, q6⟩
theorem ps_tries {body : List Stmt} {h₀ : ExceptHandler} {hds : List ExceptHandler} {l : List Cl} {pos : Pos} {tb : WX → TS} (hs : X.stack = X.env :: X.outer) (hf : X.env.frame = some X.env.locals) (hN : X.N.Nodup) (tk : Takes X Wout)
    (hb : ∀ (W : WX) (pn : List (Addr × Obj)) (xe : Value → Shared → Prop), Takes (X.tr pn xe) W → PassesOwn (model X.prog X.w) X.A X.env xe → PSs (X.tr pn xe) body (tb W))
    (hh : ClOk X (h₀ :: hds) l) : PS X (.Try body (h₀ :: hds) [] [] pos) (fun D σ H => tb (wCl X.K Wout D l) D σ H) := by
  refine ⟨fun pins s σ H D I h => ?_⟩
  have ok := I.ok
  have hfr : X.A.frames = some (X.env :: X.outer) := by rw [ok.frames, hs]
  refine wpAny_Try_except (wpAny_mono ((hb (wCl X.K Wout D l) (X.pn ++ pins) (fun e s₁ => wpAny (model X.prog X.w) X.A (noteFrame e X.env) (fun _ s₂ => wpAny (model X.prog X.w) X.A (setFlight e none) (fun _ s₃ =>
    wpAny (model X.prog X.w) X.A (handleBy e X.env (h₀ :: hds)) (SP X pins D) X.xe s₃) X.xe s₂) X.xe s₁) (fun u s' xx => ?_) PassesOwn.looking).run [] s σ H D (I.toTry _) h) (fun f s1 hsp => ?_) (fun e s1 he => he))
  · obtain ⟨a, B, sI, pins', σ', H', cls, d, rfl, J', nb, up, sky, na, os, ag, w⟩ := xx
    have sky' : Sky B (X.env :: X.outer) a (Zc cls d) X.env.locals s'.heap := by rw [← hs]; exact sky
    show wpAny (model X.prog X.w) X.A (noteFrame (.ref a) X.env) _ _ _
    exact Sky.land Zc.steady hfr hf sky' fun h3 fl3 up3 => cl_run hf hs hN tk hh (s' := { s' with heap := h3 }) ⟨J'.ofTry ok, nb, up.trans up3, fl3, os, ag, na⟩ w
  · cases f with
    | ret u => exact try_sp ok hsp
    | next =>
      obtain ⟨σ2, H2, J2, q⟩ := hsp
      exact wpAny_execs_nil ⟨σ2, H2, J2.ofTry ok, q⟩
    | brk => exact try_sp ok hsp
    | cont => exact try_sp ok hsp
end
end TL

set_option Elab.async false
set_option linter.all false
set_option maxRecDepth 100000
set_option maxHeartbeats 1000000
/-! T16: a lambda handed to a def that calls it in a try and tells what came. -/
namespace TL
open PySem PySem.Spec PyProof.Rows L2

def toldS : Str := "told"
/-- a clause of the teller: the class's name and address, the word that is told, whether what the error keeps is told -/
structure Hd where
  x : Str
  C : Addr
  lab : Str
  nm : Bool
def Hd.cl (h : Hd) : Cl := ⟨.ref h.C, if h.nm then some 1 else none, fun a cls d => if h.nm then tRet (tTup (tCons (tC (.str h.lab)) (tCons (tXf a cls d h.C whatS (tVar 1)) tNil))) else tRet (tTup (tCons (tC (.str h.lab)) (tCons (tC .non) tNil)))⟩
def tell (lab : Str) (Q : VK) (v : V) (H : Hp) : Prop := ∀ p, H p = none → Q (.ref p) (upd H p (.tup [.str lab, v]))
def hlE (K : KF) (Q : VK) : List Hd → XK
  | [] => fun _ _ _ => False
  | h :: r => fun cls d H => ∃ b, PySem.W.exmOne K cls (.ref h.C) = some b ∧
      (b = true → (h.nm = true → cls = .ref h.C ∧ ∃ dd fs v, d = some dd ∧ H dd = some (.xd fs) ∧ fs.lookup whatS = some v ∧ tell h.lab Q v H) ∧ (h.nm = false → tell h.lab Q .non H)) ∧ (b = false → hlE K Q r cls d H)
def TTh (K : KF) (hl : List Hd) : (XK → Hp → VK → Prop) → Hp → VK → Prop := fun tl H Q => tl (hlE K Q hl) H (fun v H' => tell toldS Q v H')
theorem takes_len {X : Cx} {W : WX} (tk : Takes X W) : Takes X (fun c d σ H => σ.length = X.N.length → W c d σ H) := fun u s' ⟨a, B, sI, pins, σ, H, cls, d, e, I, nb, up, sky, na, os, ag, w⟩ =>
  tk u s' ⟨a, B, sI, pins, σ, H, cls, d, e, I, nb, up, sky, na, os, ag, w I.len⟩
theorem tell_read {lab : Str} {te : TE} {D : Ends} {σ : L2.St} {H : Hp} {v : V} (h : tell lab D.rt v H) (q : te σ H fun x H1 => x = v ∧ H1 = H) (mono : ∀ {Q Q' : VK}, (∀ x H1, Q x H1 → Q' x H1) → te σ H Q → te σ H Q') : tRet (tTup (tCons (tC (.str lab)) (tCons te tNil))) D σ H := by
  refine mono (fun x H1 e => ?_) q
  obtain ⟨rfl, rfl⟩ := e
  exact ⟨(show 2 ≤ sizeLine by decide), fun p hp => h p hp⟩
theorem wcl_of {K : KF} {D : Ends} {σ : L2.St} (h1 : 1 < σ.length) : ∀ {hl : List Hd} {cls : Value} {d : Option Addr} {H : Hp}, hlE K D.rt hl cls d H → wCl K F0 D (hl.map Hd.cl) cls d σ H
  | [], _, _, _, h => h.elim
  | l :: r, cls, d, H, h => by
    obtain ⟨b, e, hy, hn⟩ := h
    refine ⟨b, e, fun hb a na => ?_, fun hb => wcl_of h1 (hn hb)⟩
    obtain ⟨q1, q2⟩ := hy hb
    cases q : l.nm with
    | true =>
      obtain ⟨ec, dd, fs, v, ed, hd, hf, ht⟩ := q1 q
      simp only [Cl.go, Hd.cl, q, if_true]
      refine tell_read (v := v) (te := tXf a cls d l.C whatS (tVar 1)) ht ?_ ?_
      · exact ⟨.ref a, by rw [List.getElem?_set_self h1], rfl, ec, dd, fs, v, ed, hd, hf, rfl, rfl⟩
      · rintro Q Q' hQ ⟨v0, e0, e1, e2, dd0, fs0, v1, f1, f2, f3, f4⟩
        exact ⟨v0, e0, e1, e2, dd0, fs0, v1, f1, f2, f3, hQ _ _ f4⟩
    | false =>
      simp only [Cl.go, Hd.cl, q, Bool.false_eq_true, if_false]
      exact ⟨(show 2 ≤ sizeLine by decide), fun p hp => q2 q p hp⟩
theorem heard_gives {X : Cx} {Ng : List Str} {x a q : Str} {sg : Scope} {g : Addr} {cdg : Value} {p1 p2 p3 p5 p7 p8 : Pos} {kt : Nat} {j : Nat} {h₀ : ExceptHandler} {hds : List ExceptHandler} {hl : List Hd}
    (hNg : Ng.Nodup) (h2 : Ng.length = 2)
    (hcl : ∀ (s : Shared) (H : Hp), ClOk (cxOf C8.CX0 X.prog X.w X.K X.mg X.base Ng x sg g cdg X.A X.stack s H C8.E0).nox (h₀ :: hds) (hl.map Hd.cl))
    (hst : ∀ (s : Shared) (H : Hp), starEach [.Constant (.str toldS) j p5, .Call (.Name a p1) [] [] p2] (cxOf C8.CX0 X.prog X.w X.K X.mg X.base Ng x sg g cdg X.A X.stack s H C8.E0).env = (false, eval (.Constant (.str toldS) j p5) (cxOf C8.CX0 X.prog X.w X.K X.mg X.base Ng x sg g cdg X.A X.stack s H C8.E0).env) :: starEach [.Call (.Name a p1) [] [] p2] (cxOf C8.CX0 X.prog X.w X.K X.mg X.base Ng x sg g cdg X.A X.stack s H C8.E0).env)
    (hst2 : ∀ (s : Shared) (H : Hp), starEach [.Call (.Name a p1) [] [] p2] (cxOf C8.CX0 X.prog X.w X.K X.mg X.base Ng x sg g cdg X.A X.stack s H C8.E0).env = (false, eval (.Call (.Name a p1) [] [] p2) (cxOf C8.CX0 X.prog X.w X.K X.mg X.base Ng x sg g cdg X.A X.stack s H C8.E0).env) :: starEach [] (cxOf C8.CX0 X.prog X.w X.K X.mg X.base Ng x sg g cdg X.A X.stack s H C8.E0).env) :
    LamX.GivesTo X Ng x sg g cdg [.Try [.Return (some (.Tuple [.Constant (.str toldS) j p5, .Call (.Name a p1) [] [] p2] kt p3)) p7] (h₀ :: hds) [] [] p8] a q (TTh X.K hl) := by
  intro f c' s H Q tl act hc h
  refine ⟨_, pss_one (ps_tries (X := (cxOf C8.CX0 X.prog X.w X.K X.mg X.base Ng x sg g cdg X.A X.stack s H C8.E0).nox) (Wout := F0)
      (tb := fun W D σ H => ∃ Ech : XK, (∀ cls d σ' H', σ'.length = Ng.length → Ech cls d H' → W cls d σ' H') ∧ σ[0]? = some (some (.ref f)) ∧ H c' = some (LamX.CodeO c' q) ∧ tl Ech H (fun v H' => tell toldS D.rt v H'))
      rfl rfl hNg LamX.takes0 (fun W pn xe tk _ => ?_) (hcl s H)), ?_⟩
  · refine ⟨fun pins s' σ H' D I h' => ?_⟩
    obtain ⟨Ech, hW, h1, h2, h3⟩ := h'
    have hp := act (fun c d σ H => σ.length = Ng.length → W c d σ H) pn xe Ech p1 p2 (takes_len tk) (fun cls d σ' H' z e => hW cls d σ' H' e z)
    refine (pss_one (ps_ret (pos := p7) (pe_tup (x1 := kt) (pos := p3) (pa_cons pe_str (pa_cons hp pa_nil (hst2 s H)) (hst s H))))).run pins s' σ H' D I ?_
    refine ⟨h1, h2, ?_⟩
    have e : (fun (v : V) (H' : Hp) => tell toldS D.rt v H') = fun (v : V) (H' : Hp) => ([V.str toldS, v] : List V).length ≤ sizeLine ∧ ∀ p, H' p = none → D.rt (.ref p) (upd H' p (.tup [V.str toldS, v])) := by
      funext v H'
      exact propext ⟨fun z => ⟨(show 2 ≤ sizeLine by decide), z⟩, fun z => z.2⟩
    rw [e] at h3
    exact h3
  · refine ⟨hlE X.K Q hl, fun cls d σ' H' e z => wcl_of (D := { nx := fun _ H' => Q .non H', rt := Q }) (by rw [e, h2]; decide) z, ?_, hc, h⟩
    show (L2.start Ng [.ref f])[0]? = _
    unfold L2.start
    rfl

/-! ### over trees -/
def exSub (c x : Str) : Bool := decide (c = x) || decide (x = ("Refused" : Str))
def heardL (k : D → Prop) : List (Str × Str × Bool) → Str → D → Prop
  | [], _, _ => False
  | (x, lab, b) :: r, c, d => if exSub c x = true then (if b = true then c = x ∧ k (.tup [.str lab, d]) else k (.tup [.str lab, .non])) else heardL k r c d
def mHeard (errs : List Str) (hl : List (Str × Str × Bool)) (m : ME) : ME := fun ρ S Q E => m ρ S (fun d S' => Q (.tup [.str toldS, d]) S') (fun c d S' => c ∈ errs ∧ heardL (fun r => Q r S') hl c d)
/-- the error classes' relations, as the module has them -/
structure ErrS (K : KF) (mg : Str → Option Value) (errs xs : List Str) : Prop where
  sub : ∀ c ∈ errs, ∀ x ∈ xs, ∀ C C', mg c = some (.ref C) → mg x = some (.ref C') → PySem.W.exmOne K (.ref C) (.ref C') = some (exSub c x)
theorem hlE_of {X : Cx} {T : Tb} {errs xs : List Str} (es : ErrS X.K X.mg errs xs) {w : Wd} {Q : VK} {Q1 : D → Prop} {c : Str} {C a : Addr} {d : D} {v : V} (ok : Ok X.K T w) (hc : c ∈ errs) (hm : X.mg c = some (.ref C)) (ha : w.H a = some (.xd [(whatS, v)])) (r : RD X.K w.F w.H d v)
    (hq : ∀ d, Q1 d → ∀ w' v, w'.S = w.S → Ok X.K T w' → Le w w' → RD X.K w'.F w'.H d v → Q v w'.H) : ∀ {hl : List Hd}, (∀ h ∈ hl, h.x ∈ xs ∧ X.mg h.x = some (.ref h.C)) → heardL Q1 (hl.map fun h => (h.x, h.lab, h.nm)) c d → hlE X.K Q hl (.ref C) (some a) w.H
  | [], _, h => h.elim
  | l :: rest, hx, h => by
    obtain ⟨x1, x2⟩ := hx l List.mem_cons_self
    refine ⟨_, es.sub c hc l.x x1 C l.C hm x2, fun hb => ?_, fun hb => ?_⟩
    · simp only [List.map_cons, heardL, hb, if_true] at h
      refine ⟨fun hn => ?_, fun hn => ?_⟩
      · simp only [hn, if_true] at h
        obtain ⟨ec, h⟩ := h
        have eC : C = l.C := by
          rw [ec, x2] at hm
          have := Option.some.inj hm
          injection this with e
          exact e.symm
        refine ⟨by rw [eC], a, _, v, rfl, ha, by simp [List.lookup], fun p np => ?_⟩
        obtain ⟨w', e1, e2, ok', le', r'⟩ := ok.newTup np (RDs.cons (d := .str l.lab) (v := .str l.lab) rfl (RDs.cons r RDs.nil))
        rw [← e2]
        exact hq _ h w' _ e1 ok' le' r'
      · simp only [hn, Bool.false_eq_true, if_false] at h
        intro p np
        obtain ⟨w', e1, e2, ok', le', r'⟩ := ok.newTup np (RDs.cons (d := .str l.lab) (v := .str l.lab) rfl (RDs.cons (d := .non) (v := .non) rfl RDs.nil))
        rw [← e2]
        exact hq _ h w' _ e1 ok' le' r'
    · simp only [List.map_cons, heardL, hb, Bool.false_eq_true, if_false] at h
      exact hlE_of es ok hc hm ha r hq (fun y hy => hx y (List.mem_cons_of_mem _ hy)) h
theorem lam_read {X : Cx} {T : Tb} {W : WX} {errs xs : List Str} {hl : List Hd} {m : ME} (es : ErrS X.K X.mg errs xs) (hx : ∀ h ∈ hl, h.x ∈ xs ∧ X.mg h.x = some (.ref h.C)) {σ : L2.St} {H : Hp} {Q : VK}
    (h : TRe X T W (mHeard errs (hl.map fun h => (h.x, h.lab, h.nm)) m) σ H Q) : LamX.tLam T (TTh X.K hl) (fun E => TRe X T (fun cls d _ H => E cls d H) m) σ H Q := by
  obtain ⟨w, ρ, Q1, E1, rfl, ok, re, h, hq, _⟩ := h
  refine ⟨ok.tabs, fun H1 eN T1 => ?_⟩
  have le : Le w { w with H := H1 } := ⟨fun _ z => z, fun _ z => .inl z, fun a o q s n => ⟨eN a o q n, s⟩, fun _ z => z, fun a z o e => by
    by_cases nt : ∃ ps, o = .tbl ps
    · exact nt
    · exact z o (eN a o e fun ps q => nt ⟨ps, q⟩)⟩
  have ok1 : Ok X.K T { w with H := H1 } := ⟨fun a ds s => by
    obtain ⟨vs, q1, q2, q3⟩ := ok.cell a ds s
    exact ⟨vs, eN a _ q1 (fun _ q => by cases q), q2.le le ok, q3⟩, T1, fun a z => by
    obtain ⟨vs, e⟩ := ok.fh a z
    exact ⟨vs, eN a _ e (fun _ q => by cases q)⟩⟩
  refine ⟨{ w with H := H1 }, ρ, _, _, rfl, ok1, re.le le ok, h, fun d S' z w2 v e ok2 le2 r => ?_, fun c d S' z w2 C a v e ok2 le2 hm ha r => ?_⟩
  · subst e
    intro p np
    obtain ⟨w3, e1, e2, ok3, le3, r3⟩ := ok2.newTup np (RDs.cons (d := .str toldS) (v := .str toldS) rfl (RDs.cons r RDs.nil))
    rw [← e2]
    exact hq _ _ z w3 _ e1 ok3 ((le.trans le2).trans le3) r3
  · subst e
    exact hlE_of (T := T) es ok2 z.1 hm ha r (fun d z w3 v e3 ok3 le3 r3 => hq _ _ z w3 v e3 ok3 ((le.trans le2).trans le3) r3) hx z.2
end TL

set_option Elab.async false
set_option linter.all false
set_option maxRecDepth 100000
set_option maxHeartbeats 1000000
/-! T17: teller(lambda: e); defs that make lambdas. -/
namespace TL
open PySem PySem.Spec PyProof.Rows L2

/-- where a lambda is made: the frame's code object and its table -/
structure LamM (X : Cx) (T : Tb) : Prop where
  ex : ∃ c P, LamX.TabB X.base X.mg c P ∧ X.env.code = .ref c ∧ (P, X.env.qual ++ "<lambda>") ∈ T ∧ ∀ p ∈ T, p.1 = P → p.2 = X.env.qual ++ "<lambda>"
structure HeardP (P : Program) (wd : World) (K : KF) (mg : Str → Option Value) (base : Heap) (x : Str) (errs : List Str) (hl : List (Str × Str × Bool)) : Prop where
  ex : ∃ (g : Addr) (pg : Arguments) (bg : List Stmt) (sg : Scope) (dV kV doc pm cdv ct oc : Value) (an od : Option Addr) (osl : Array (Option Value)) (Ng : List Str) (a : Str) (xs : List Str) (hds : List Hd),
    mg x = some (.ref g) ∧ PySem.W.keepIn K (.ref g) = true ∧ K.lookup g = some ⟨oc, od, .func (PySem.W.fnOf x x pg bg sg dV kV doc pm an cdv ct), osl⟩ ∧ PySem.W.codeIn K cdv x = true ∧ L2.Binds K (PySem.W.fnOf x x pg bg sg dV kV doc pm an cdv ct) [a] [] ∧ FnScope Ng [a] sg ∧ Ng[0]? = some a ∧ Vis sg a ∧
    (a == ("__debug__" : Str)) = false ∧ (a == ("__classdict__" : Str)) = false ∧ hl = hds.map (fun h => (h.x, h.lab, h.nm)) ∧ ErrS K mg errs xs ∧ (∀ h ∈ hds, h.x ∈ xs ∧ mg h.x = some (.ref h.C)) ∧
    ∀ X : Cx, X.prog = P → X.w = wd → X.K = K → X.mg = mg → X.base = base → ∀ q, LamX.GivesTo X Ng x sg g cdv bg a q (TTh K hds)
abbrev HeardH (X : Cx) (x : Str) (errs : List Str) (hl : List (Str × Str × Bool)) : Prop := HeardP X.prog X.w X.K X.mg X.base x errs hl
section
variable {X : Cx} {T : Tb} {W : WX} {x : Str} {errs : List Str} {hl : List (Str × Str × Bool)} {params : Arguments} {body : Expr} {scope : Scope} {k : Nat} {m : ME} {p lpos pos : Pos}
theorem s_heard (hp : HeardH X x errs hl) (M : LamM X T) (hr : Room (k + 2) X.A)
    (hbody : ∀ (A : Around) (outer : List Env) (s : Shared) (H : Hp) (E : XK) (f c' : Addr), Room k (A.deeper (LamX.lamEnv X scope s.heap.objs.size f c')) → SE (LamX.lamCx X A outer s H E scope f c') T (fun cls d _ H => E cls d H) body m)
    (hg : Gl X x := by rfl) (L : LamX.LamS X.env.scope scope := by exact LamX.lamS_by (by decide +kernel)) (hdef : defaultsOf params X.env = ([], []) := by rfl)
    (hbind : ∀ (q : Str) (cl : List (Str × Addr)) (pm cv ctv : Value), bindArgs (PySem.W.kla_fn "<lambda>" q params body scope cl pm cv ctv) ⟨[], []⟩ = pure [] := by intros; rfl) (hdb : (x == ("__debug__" : Str)) = false := by decide) :
    SE X T W (.Call (.Name x p) [.Lambda params body scope lpos] [] pos) (mHeard errs hl m) := by
  obtain ⟨g, pg, bg, sg, dV, kV, doc, pm, cdv, ct, oc, an, od, osl, Ng, a, xs, hds, hm, hk, lk, hcg, hb, Sg, hNg, hva, hda, hcd, rfl, es, hx, hG⟩ := hp.ex
  obtain ⟨c, P, TB, hcode, hmT, hu⟩ := M.ex
  refine ⟨(LamX.pe_lamcall (t := fun E => TRe X T (fun cls d _ H => E cls d H) m) hg hm hk lk hcg hb Sg hNg hva (hG X rfl rfl rfl rfl rfl _) TB hcode hmT hu hr L hdef hbind (fun A outer s H E f c' hr' => ⟨(hbody A outer s H E f c' hr').run.run⟩) hdb hda hcd).tlw fun σ H Q h => ?_⟩
  exact lam_read es hx h
end
/-- a def whose code object is known -/
theorem fn_okC {P : Program} {wd : World} {K : KF} {mg : Str → Option Value} {base : Heap} {T : Tb} {x qual : Str} {params : Arguments} {body : List Stmt} {scope : Scope} {kws : List (Str × V)} {f : Addr} {fd : FuncData} {N ps : List Str} {k : Nat} {con : Con} {m : MS}
    (F : FunD K x qual params body scope [] kws f fd) (hmg : mg x = some (.ref f)) (hb : L2.Binds K fd ps []) (S : FnScope N ps scope) (hps : ps.length ≤ N.length)
    (hbody : ∀ (c : Addr) (A : Around) (outer : List Env) (s : Shared) (H : Hp) (E : XK), fd.code = .ref c → Room k (A.deeper (envOfC qual scope s.heap.objs.size f (.ref c))) →
      SSs (cxOf (L2.CX P wd) P wd K mg base N qual scope f (.ref c) A outer s H E) T (fun cls d _ H => E cls d H) body m)
    (hm : ∀ ds S Q E, ds.length = ps.length → con ds S Q E → m (startR N.length ds) S (retE Q E)) : FnP P wd K mg base T x ps.length (k + 1) con := by
  refine ⟨f, fd, ps, hmg, F.kp, ?_, hb⟩
  obtain ⟨oc, od, dV, kV, doc, pm, an, cdv, ct, osl, rfl, lk, hcd, _, _⟩ := F.ex
  obtain ⟨c, rfl⟩ := He.codeIn_ref hcd
  refine fn_of lk hcd S (fun vs H Q E h => h.1) fun A outer s H vs Q E hr h => ?_
  obtain ⟨hl, w, ds, Q1, E1, rfl, ok, r, hc, hq, hx⟩ := h
  have noOwn : ∀ {i : Nat} {l : List D}, (startR N.length ds)[i]? ≠ some (SV.own l) := fun {i l} e => by
    rw [startR_eq, List.getElem?_append] at e
    split at e
    · rw [List.getElem?_map] at e
      cases q : ds[i]? with
      | none => rw [q] at e; cases e
      | some d => rw [q] at e; cases e
    · rw [List.getElem?_replicate] at e
      split at e <;> cases e
  refine ⟨_, (hbody c A outer s w.H E rfl hr).run w, w, startR N.length ds, retE Q1 E1, rfl, ok, ⟨RE.start r (by rw [hl]; exact hps), .refl, fun i l a e1 e2 => absurd e1 noOwn⟩, hm ds w.S Q1 E1 (by rw [← r.length, hl]) hc, ?_⟩
  exact ⟨fun ρ' S' z w' σ' e ok' rs => hq _ _ z w' .non e ok' rs.le rfl, fun d S' z w' v e ok' le r => hq _ _ z w' v e ok' le r, fun _ _ z => z.elim, fun _ _ z => z.elim, fun c d ρ' S' z w' σ' C a v e ok' rs m ha r => hx c d S' z w' C a v e ok' rs.le m ha r⟩
end TL

set_option Elab.async false
set_option linter.all false
set_option maxRecDepth 100000
set_option maxHeartbeats 1000000
/-! T18: the head's facts, a law's end. -/
namespace TL
open PySem PySem.Spec PyProof.Rows L2

section
variable {P : Program} {wd : World} {K : KF} {mg : Str → Option Value} {base : Heap} {N : List Str} {qual : Str} {scope : Scope} {f : Addr} {cd : Value} {A : Around} {outer : List Env} {s : Shared} {H : Hp} {E : XK}
theorem tk_of : Takes (cxOf (L2.CX P wd) P wd K mg base N qual scope f cd A outer s H E) (fun cls d _ H => E cls d H) := takes_of rfl rfl rfl rfl
theorem po_of {CX : CXT} : PassesOwn (model P wd) (cxOf CX P wd K mg base N qual scope f cd A outer s H E).A (cxOf CX P wd K mg base N qual scope f cd A outer s H E).env (cxOf CX P wd K mg base N qual scope f cd A outer s H E).xe := passes_of rfl
end
theorem hu64 {k : Nat} {A : Around} (r : Room k A) : A.units + 64 < cLine := r.units
theorem hu65 {k : Nat} {A : Around} (r : Room k A) : A.units + 65 < cLine := by have := r.un; omega
/-- try: b / except ..: .. where b raises nothing -/
def mThru (m : MS) : MS := fun ρ S G => m ρ S { G with ex := fun _ _ _ _ => False }
theorem ss_thru {X : Cx} {T : Tb} {W : WX} {body : List Stmt} {h₀ : ExceptHandler} {hs : List ExceptHandler} {pos : Pos} {m : MS} (hb : SSs X.nox T F0 body m) : SS X T W (.Try body (h₀ :: hs) [] [] pos) (mThru m) := by
  refine ⟨fun w0 => (ps_try_thru0 (hb.run w0)).tlw fun D σ H h => ?_⟩
  obtain ⟨w, ρ, G, rfl, ok, rs, h, f⟩ := h
  exact ⟨w, ρ, _, rfl, ok, rs, h, ⟨f.nx, f.rt, f.bk, f.ct, fun _ _ _ _ z => z.elim⟩⟩
theorem po_nox {P : Program} {wd : World} {A : Around} {e : Env} : True := trivial

/-! ### the law's own def -/
/-- fn_okC for the def at f itself -/
theorem fn_okF {P : Program} {wd : World} {K : KF} {mg : Str → Option Value} {base : Heap} {T : Tb} {x qual : Str} {params : Arguments} {body : List Stmt} {scope : Scope} {kws : List (Str × V)} {f : Addr} {fd : FuncData} {N ps : List Str} {k : Nat} {con : Con} {m : MS}
    (F : FunD K x qual params body scope [] kws f fd) (S : FnScope N ps scope) (hps : ps.length ≤ N.length)
    (hbody : ∀ (c : Addr) (A : Around) (outer : List Env) (s : Shared) (H : Hp) (E : XK), fd.code = .ref c → Room k (A.deeper (envOfC qual scope s.heap.objs.size f (.ref c))) →
      SSs (cxOf (L2.CX P wd) P wd K mg base N qual scope f (.ref c) A outer s H E) T (fun cls d _ H => E cls d H) body m)
    (hm : ∀ ds S Q E, ds.length = ps.length → con ds S Q E → m (startR N.length ds) S (retE Q E)) : FnOk P wd K mg base (L2.CX P wd) (k + 1) f fd ps (spD K mg T ps.length con) := by
  obtain ⟨oc, od, dV, kV, doc, pm, an, cdv, ct, osl, rfl, lk, hcd, _, _⟩ := F.ex
  obtain ⟨c, rfl⟩ := He.codeIn_ref hcd
  refine fn_of lk hcd S (fun vs H Q E h => h.1) fun A outer s H vs Q E hr h => ?_
  obtain ⟨hl, w, ds, Q1, E1, rfl, ok, r, hc, hq, hx⟩ := h
  have noOwn : ∀ {i : Nat} {l : List D}, (startR N.length ds)[i]? ≠ some (SV.own l) := fun {i l} e => by
    rw [startR_eq, List.getElem?_append] at e
    split at e
    · rw [List.getElem?_map] at e
      cases q : ds[i]? with
      | none => rw [q] at e; cases e
      | some d => rw [q] at e; cases e
    · rw [List.getElem?_replicate] at e
      split at e <;> cases e
  refine ⟨_, (hbody c A outer s w.H E rfl hr).run w, w, startR N.length ds, retE Q1 E1, rfl, ok, ⟨RE.start r (by rw [hl]; exact hps), .refl, fun i l a e1 e2 => absurd e1 noOwn⟩, hm ds w.S Q1 E1 (by rw [← r.length, hl]) hc, ?_⟩
  exact ⟨fun ρ' S' z w' σ' e ok' rs => hq _ _ z w' .non e ok' rs.le rfl, fun d S' z w' v e ok' le r => hq _ _ z w' v e ok' le r, fun _ _ z => z.elim, fun _ _ z => z.elim, fun c d ρ' S' z w' σ' C a v e ok' rs m ha r => hx c d S' z w' C a v e ok' rs.le m ha r⟩
/-- the law's contract: of any script it tells True -/
def lawCon : Con := fun ds _ Q _ => ∃ ns : List Int, ds = [.klst (ns.map .int)] ∧ ns.length ≤ 63 ∧ (∀ z ∈ ns, Builtin.Int.intBits z ≤ 1048576) ∧ ∀ S', Q (.bl true) S'
theorem rds_ints {K : KF} {F : Addr → Prop} {H : Hp} : ∀ ns : List Int, RDs K F H (ns.map D.int) (ns.map V.int)
  | [] => rfl
  | n :: ns => RDs.cons rfl (rds_ints ns)

/-- the items of a module's tuple, written in the text -/
def D.dv : D → He.Dv
  | .bl b => .bl b
  | .int i => .int i
  | .str s => .str s
  | _ => .non
def D.plain : D → Bool
  | .non => true
  | .bl _ => true
  | .int _ => true
  | .str _ => true
  | _ => false
theorem dvs_rd {K : KF} {F : Addr → Prop} {H : Hp} : ∀ {l : List D}, l.all D.plain = true → RDs K F H l ((l.map D.dv).map (He.Dv.v K))
  | [], _ => rfl
  | d :: l, h => by
    obtain ⟨h1, h2⟩ := Bool.and_eq_true_iff.mp (show (d.plain && l.all D.plain) = true from h)
    refine RDs.cons ?_ (dvs_rd h2)
    cases d <;> first | rfl | (simp [D.plain] at h1)
/-- the module's name x is this tuple -/
def ctB (K : KF) (p : Str × List D) : Bool := p.2.all D.plain && (He.tupB K p.1 (p.2.map D.dv) && decide (PySem.W.nsIn K mainGlobals p.1 = some (some (.ref (He.ga K p.1)))))
theorem gc_tup {K : KF} {mg : Str → Option Value} {h : Heap} (X0 : K.In h) (G : h.Ns mainGlobals mg) {x : Str} {l : List D} (hc : ctB K (x, l) = true) {X : Cx} (hK : X.K = K := by rfl) (hX : X.mg = mg := by rfl) : GC X x (.tup l) := by
  obtain ⟨h1, h2⟩ := Bool.and_eq_true_iff.mp hc
  obtain ⟨h2, h3⟩ := Bool.and_eq_true_iff.mp h2
  refine ⟨.ref (He.ga K x), .ref (He.ga K x), by rw [hX]; exact PySem.W.mg_of X0 G (of_decide_eq_true h3), rfl, fun F H => ?_⟩
  rw [hK]
  exact ⟨_, _, rfl, He.tupB_ok h2 H, dvs_rd h1⟩

/-! ### what the head says -/
def lamQ (p : He.Defn) : Str := p.1 ++ ".<locals>." ++ "<lambda>"
def tabsT (K : KF) (tf : List He.Defn) : Tb := tf.map fun p => ((He.cT K p).2, lamQ p)
def oexB (K : KF) (C : Addr) : Bool := (match K.lookup C with
  | some ⟨.type c, _, .cls ⟨_, _, .ref C' :: bm, _, _, hd, _, _, _, _, del⟩, ⟨[_, _, _, _, some (.builtin nid), _]⟩⟩ => decide (c = "type") && (decide (C' = C) && (PySem.HandSPX.refsVE bm && (hd && (!del && decide (nid = "ValueError.__new__")))))
  | _ => false) && (decide (PySem.W.findIn K (.ref C) "__setattr__" = some (some (.builtin "object.__setattr__"))) && (decide (PySem.W.subIn K (.ref C) (.type "BaseException") = some true) && (decide (PySem.W.typeIn K (.ref C) = some (.type "type")) && PySem.W.keepIn K (.ref C))))
theorem oexB_ok {K : KF} {C : Addr} (h : oexB K C = true) : OexC K C := by
  unfold oexB at h
  obtain ⟨h1, h⟩ := Bool.and_eq_true_iff.mp h
  obtain ⟨h2, h⟩ := Bool.and_eq_true_iff.mp h
  obtain ⟨h3, h⟩ := Bool.and_eq_true_iff.mp h
  obtain ⟨h4, h5⟩ := Bool.and_eq_true_iff.mp h
  refine ⟨?_, of_decide_eq_true h2, of_decide_eq_true h3, of_decide_eq_true h4, h5⟩
  split at h1
  · rename_i c dd nm bs C' bm N q hd sn sub ab col del k0 k1 k2 k3 nid k5 e
    simp only [Bool.and_eq_true, decide_eq_true_eq, Bool.not_eq_true'] at h1
    obtain ⟨e1, e2, e3, e4, e5, e6⟩ := h1
    subst e1 e2 e4 e5 e6
    exact ⟨nm, q, N, bs, bm, sn, sub, ab, col, dd, k0, k1, k2, k3, k5, e, e3⟩
  · cases h1
def nodupB : List Addr → Bool
  | [] => true
  | a :: r => !(r.contains a) && nodupB r
theorem nodupB_ok : ∀ {l : List Addr}, nodupB l = true → l.Nodup
  | [], _ => List.nodup_nil
  | a :: r, h => by
    obtain ⟨h1, h2⟩ := Bool.and_eq_true_iff.mp h
    refine List.nodup_cons.mpr ⟨fun z => ?_, nodupB_ok h2⟩
    rw [List.contains_iff_mem.mpr z] at h1
    cases h1
def veB : Option PySem.W.CFound → Bool
  | some (.val (.builtin id)) => decide (id = "ValueError.__init__")
  | _ => false
theorem veB_ok {r : Option PySem.W.CFound} (h : veB r = true) : r = some (.val (.builtin "ValueError.__init__")) := by
  unfold veB at h
  split at h
  · rw [of_decide_eq_true h]
  · cases h
theorem nodup_map_inj {α β : Type} {f : α → β} : ∀ {l : List α} {a b : α}, (l.map f).Nodup → a ∈ l → b ∈ l → f a = f b → a = b
  | [], _, _, _, h, _, _ => by cases h
  | c :: r, a, b, nd, ha, hb, e => by
    obtain ⟨n1, n2⟩ := List.nodup_cons.mp (show (f c :: r.map f).Nodup from nd)
    rcases List.mem_cons.mp ha with rfl | ha'
    · rcases List.mem_cons.mp hb with rfl | hb
      · rfl
      · exact absurd (List.mem_map.mpr ⟨b, hb, e.symm⟩) n1
    · rcases List.mem_cons.mp hb with rfl | hb
      · exact absurd (show f b ∈ r.map f from List.mem_map.mpr ⟨a, ha', e⟩) n1
      · exact nodup_map_inj n2 ha' hb e
/-- error classes errs (raised), xs (named in clauses), all made by root's __init__ -/
def exB (root : Str) (errs xs : List Str) (tf : List He.Defn) (cts : List (Str × List D)) (K : KF) : Bool := (cts.all (ctB K)) &&
  ((errs.all fun x => oexB K (He.ga K x) && (decide (PySem.W.findIn K (.ref (He.ga K x)) "__init__" = some (some (.ref (He.ma K (He.ga K root) "__init__")))) && decide (PySem.W.findIn K (.ref (He.ga K x)) whatS = some none))) &&
  ((xs.all fun x => xfB K (He.ga K x)) && ((errs.all fun c => xs.all fun x => decide (PySem.W.exmOne K (.ref (He.ga K c)) (.ref (He.ga K x)) = some (exSub c x))) &&
  (nodupB (tf.map fun p => (He.cT K p).2) && (decide (PySem.W.typeIn K (.ref (He.ma K (He.ga K root) "__init__")) = some (.type "function")) &&
  veB (PySem.W.findCls K (.type "ValueError") (.type "type") "__init__"))))))
/-- what a law's walk knows -/
structure Hd0 (fa : List He.Fa) (fn : List He.DefD) (tf : List He.Defn) (root : Str) (errs xs : List Str) (cts : List (Str × List D)) (wd : World) (K : KF) (mg : Str → Option Value) (base h : Heap) : Prop where
  says : He.SaysX fa fn [] tf (exB root errs xs tf cts) wd h K
  kin : K.In h
  ns : h.Ns mainGlobals mg
  tb : ∀ p ∈ tf, LamX.TabB base mg (He.cT K p).1 (He.cT K p).2
section
variable {fa : List He.Fa} {fn : List He.DefD} {tf : List He.Defn} {root : Str} {errs xs : List Str} {cts : List (Str × List D)} {P : Program} {wd : World} {K : KF} {mg : Str → Option Value} {base h : Heap}
theorem Hd0.glo (e : Hd0 fa fn tf root errs xs cts wd K mg base h) (i : Nat) {x : Str} (hi : fa[i]? = some (.glo x) := by rfl) : mg x = some (.ref (He.ga K x)) := He.glo_ok e.kin e.ns (e.says.t.d.fact i hi)
theorem Hd0.free (e : Hd0 fa fn tf root errs xs cts wd K mg base h) (i : Nat) {x : Str} (hi : fa[i]? = some (.free x) := by rfl) : mg x = none := He.free_ok e.kin e.ns (e.says.t.d.fact i hi)
theorem Hd0.int (e : Hd0 fa fn tf root errs xs cts wd K mg base h) (i : Nat) {x : Str} {n : Int} (hi : fa[i]? = some (.int x n) := by rfl) : ∃ t, mg x = some (.int n t) := He.int_ok e.kin e.ns (e.says.t.d.fact i hi)
theorem Hd0.fun_ (e : Hd0 fa fn tf root errs xs cts wd K mg base h) (i : Nat) {d : He.DefD} (hi : fn[i]? = some d := by rfl) : ∃ fd, FunD K d.name d.qual d.params d.body d.scope (d.dvs K) (d.kws K) (He.fAd K d.at_) fd := e.says.t.d.def_ i hi
theorem Hd0.ex1 (e : Hd0 fa fn tf root errs xs cts wd K mg base h) : (∀ x ∈ errs, OexC K (He.ga K x) ∧ PySem.W.findIn K (.ref (He.ga K x)) "__init__" = some (some (.ref (He.ma K (He.ga K root) "__init__"))) ∧ PySem.W.findIn K (.ref (He.ga K x)) whatS = some none) ∧
    (∀ x ∈ xs, XfC K (He.ga K x)) ∧ (∀ c ∈ errs, ∀ x ∈ xs, PySem.W.exmOne K (.ref (He.ga K c)) (.ref (He.ga K x)) = some (exSub c x)) ∧ (tf.map fun p => (He.cT K p).2).Nodup ∧ PySem.W.typeIn K (.ref (He.ma K (He.ga K root) "__init__")) = some (.type "function") ∧
    PySem.W.findCls K (.type "ValueError") (.type "type") "__init__" = some (.val (.builtin "ValueError.__init__")) := by
  have m := e.says.more
  unfold exB at m
  obtain ⟨_, m⟩ := Bool.and_eq_true_iff.mp m
  obtain ⟨m1, m⟩ := Bool.and_eq_true_iff.mp m
  obtain ⟨m2, m⟩ := Bool.and_eq_true_iff.mp m
  obtain ⟨m3, m⟩ := Bool.and_eq_true_iff.mp m
  obtain ⟨m4, m⟩ := Bool.and_eq_true_iff.mp m
  obtain ⟨m5, m6⟩ := Bool.and_eq_true_iff.mp m
  refine ⟨fun x hx => ?_, fun x hx => xfB_ok (List.all_eq_true.mp m2 x hx), fun c hc x hx => of_decide_eq_true (List.all_eq_true.mp (List.all_eq_true.mp m3 c hc) x hx), nodupB_ok m4, of_decide_eq_true m5, veB_ok m6⟩
  obtain ⟨q1, q⟩ := Bool.and_eq_true_iff.mp (List.all_eq_true.mp m1 x hx)
  obtain ⟨q2, q3⟩ := Bool.and_eq_true_iff.mp q
  exact ⟨oexB_ok q1, of_decide_eq_true q2, of_decide_eq_true q3⟩
theorem Hd0.gcTup (e : Hd0 fa fn tf root errs xs cts wd K mg base h) (i : Nat) {x : Str} {l : List D} (hi : cts[i]? = some (x, l) := by rfl) {X : Cx} (hK : X.K = K := by rfl) (hX : X.mg = mg := by rfl) : GC X x (.tup l) := by
  have m := e.says.more
  unfold exB at m
  exact gc_tup e.kin e.ns (List.all_eq_true.mp (Bool.and_eq_true_iff.mp m).1 _ (List.mem_of_getElem? hi)) hK hX
/-- an error class -/
theorem Hd0.errC (e : Hd0 fa fn tf root errs xs cts wd K mg base h) (i : Nat) {x : Str} (hx : x ∈ errs) (hi : fa[i]? = some (.glo x) := by rfl) : ErrC K mg (He.ma K (He.ga K root) "__init__") x := by
  obtain ⟨h1, _, _, _, h5, _⟩ := e.ex1
  obtain ⟨q1, q2, q3⟩ := h1 x hx
  exact ⟨_, e.glo i hi, q1, q2, h5, q3⟩
/-- the classes' relations -/
theorem Hd0.errS (e : Hd0 fa fn tf root errs xs cts wd K mg base h) (g : ∀ x ∈ errs ++ xs, mg x = some (.ref (He.ga K x))) : ErrS K mg errs xs :=
  ⟨fun c hc x hx C C' h1 h2 => by
    rw [g c (List.mem_append_left _ hc)] at h1
    rw [g x (List.mem_append_right _ hx)] at h2
    cases h1; cases h2
    exact e.ex1.2.2.1 c hc x hx⟩
/-- a def that makes lambdas -/
theorem Hd0.lamM (e : Hd0 fa fn tf root errs xs cts wd K mg base h) {X : Cx} {p : He.Defn} (hp : p ∈ tf) (hK : X.K = K) (hb : X.base = base) (hmg : X.mg = mg) {oc : Value} {od : Option Addr} {osl : Array (Option Value)} {fd : FuncData} {c : Addr}
    (lk : K.lookup (He.fAd K p) = some ⟨oc, od, .func fd, osl⟩) (hc : fd.code = .ref c) (hX : X.env.code = .ref c) (hq : X.env.qual ++ "<lambda>" = lamQ p) : LamM X (tabsT K tf) := by
  have ec := He.codeOf_eq lk hc
  have t := e.tb p hp
  have ec' : (He.cT K p).1 = c := ec
  rw [ec'] at t
  refine ⟨c, (He.cT K p).2, by rw [hb, hmg]; exact t, hX, by rw [hq]; exact List.mem_map.mpr ⟨p, hp, rfl⟩, fun z hz ez => ?_⟩
  obtain ⟨p', hp', rfl⟩ := List.mem_map.mp hz
  rw [hq]
  rw [nodup_map_inj e.ex1.2.2.2.1 hp' hp ez]
theorem FunD.lkc {x qual : Str} {params : Arguments} {body : List Stmt} {scope : Scope} {dvs : List V} {kws : List (Str × V)} {f : Addr} {fd : FuncData} (F : FunD K x qual params body scope dvs kws f fd) : ∃ oc od osl, K.lookup f = some ⟨oc, od, .func fd, osl⟩ := by
  obtain ⟨oc, od, dV, kV, doc, pm, an, cdv, ct, osl, rfl, lk, _⟩ := F.ex
  exact ⟨oc, od, osl, lk⟩
end
/-- the end: a law's promise at the head -/
theorem law_atS {l : PySem.W.OpenLaw} {fa : List He.Fa} {fn : List He.DefD} {tf : List He.Defn} {root : Str} {errs xs : List Str} {cts : List (Str × List D)} {wd : World} {K : KF} {mg : Str → Option Value} {h : Heap} {k : Nat} {d : He.DefD} {x : Str} (i : Nat) (hi : fn[i]? = some d) (hd : d.dfl = []) (hk0 : d.kwd = [])
    (says : He.SaysX fa fn [] tf (exB root errs xs tf cts) wd h K) (KX : K.In h) (G : h.Ns mainGlobals mg)
    (hbd : ∀ (kV doc pm : Value) (an : Option Addr) (cdv ct : Value) (us : List Value), us.length = 1 → bindArgs (PySem.W.fnOf d.name d.qual d.params d.body d.scope .none kV doc pm an cdv ct) ⟨us, []⟩ = pure ([x].zip us))
    (F : ∀ (fd : FuncData) (base : Heap), Hd0 fa fn tf root errs xs cts wd K mg base h → FunD K d.name d.qual d.params d.body d.scope [] (d.kws K) (He.fAd K d.at_) fd → FnOk l.prog wd K mg base (L2.CX l.prog wd) k (He.fAd K d.at_) fd [x] (spD K mg (tabsT K tf) 1 lawCon)) :
    LamX.LawAtS l wd K (L2.CX l.prog wd) k 63 x mg (He.fAd K d.at_) h := by
  obtain ⟨fd, FD⟩ := says.t.d.def_ i hi
  have e0 : d.dvs K = [] := by unfold He.DefD.dvs; rw [hd]; rfl
  rw [e0] at FD
  refine ⟨fd, tf.map (He.cT K), spD K mg (tabsT K tf) 1 lawCon, fun p hp => ?_, fun p hp => ?_, fun p hp => ?_, fun s u => ?_, fun H a ns hl hb hH hS => ?_, fun base _ _ TB => ?_⟩
  · obtain ⟨q, hq, rfl⟩ := List.mem_map.mp hp
    exact says.empty q hq
  · obtain ⟨q, hq, rfl⟩ := List.mem_map.mp hp
    exact says.out q hq
  · obtain ⟨q, hq, rfl⟩ := List.mem_map.mp hp
    exact PySem.W.codeHd_of_K KX (says.hd q hq)
  · exact FunD.bindsA (ps := [x]) FD hbd s [u] rfl
  · by_cases hT : ∃ vs, H a = some (.lst vs)
    · refine ⟨rfl, ⟨fun b => b = a, fun _ => none, H⟩, [.klst (ns.map .int)], fun d _ => d = .bl true, fun _ _ _ => False, rfl, ⟨fun _ _ z => (by cases z), fun p hp => ?_, fun b z => by
        have z : b = a := z
        rw [z]; exact hT⟩, RDs.cons ⟨a, ns.map V.int, rfl, KnL.of hS rfl, rds_ints ns⟩ RDs.nil, ⟨ns, rfl, hl, hb, fun _ => rfl⟩, fun d S' z w' v _ _ _ r => ?_, fun _ _ _ z => z.elim⟩
      · obtain ⟨q, hq, rfl⟩ := List.mem_map.mp hp
        exact LamX.TabS.nil (hH (He.cT K q) (List.mem_map.mpr ⟨q, hq, rfl⟩))
      · subst z; exact r
    · have hS' : KnL K (fun _ => False) H a (ns.map V.int) := by
        rcases hS with (q | q) | q
        · exact absurd ⟨_, q⟩ hT
        · exact .inl (.inl q)
        · exact .inr q
      refine ⟨rfl, ⟨fun _ => False, fun _ => none, H⟩, [.klst (ns.map .int)], fun d _ => d = .bl true, fun _ _ _ => False, rfl, ⟨fun _ _ z => (by cases z), fun p hp => ?_, fun b z => z.elim⟩, RDs.cons ⟨a, ns.map V.int, rfl, hS', rds_ints ns⟩ RDs.nil, ⟨ns, rfl, hl, hb, fun _ => rfl⟩, fun d S' z w' v _ _ _ r => ?_, fun _ _ _ z => z.elim⟩
      · obtain ⟨q, hq, rfl⟩ := List.mem_map.mp hp
        exact LamX.TabS.nil (hH (He.cT K q) (List.mem_map.mpr ⟨q, hq, rfl⟩))
      · subst z; exact r
  · exact F fd base ⟨says, KX, G, fun p hp => TB _ (List.mem_map.mpr ⟨p, hp, rfl⟩)⟩ FD
end TL

set_option Elab.async false
set_option linter.all false
set_option maxRecDepth 100000
set_option maxHeartbeats 1000000
/-! T19: the teller's clauses; two own lists at once. -/
namespace TL
open PySem PySem.Spec PyProof.Rows L2

section
variable {X : Cx} {x n lab : Str} {C : Addr} {np pos' p3 p5 p6 p7 p8 : Pos} {kt j j2 : Nat} {hds : List ExceptHandler} {r : List Cl}
theorem cl_named (T : XfC X.K C) (hno : PySem.W.findIn X.K (.ref C) whatS = some none) (hm : X.mg x = some (.ref C)) (h : ClOk X hds r) (hN : X.N[1]? = some n := by rfl) (hl : X.env.kindOf n = some .local := by rfl) (hv : Vis X.env.scope n := by exact Or.inl rfl) (hg : Gl X x := by rfl)
    (hdb : (x == ("__debug__" : Str)) = false := by decide) (hd : (n == ("__debug__" : Str)) = false := by decide) (hcd : (n == ("__classdict__" : Str)) = false := by decide) :
    ClOk X (.ExceptHandler (some (.Name x np)) (some n) [.Return (some (.Tuple [.Constant (.str lab) j p5, .Attribute (.Name n p6) "what" p7] kt p3)) p8] pos' :: hds) (Hd.cl ⟨x, C, lab, true⟩ :: r) := by
  refine ClOk.named (l := Hd.cl ⟨x, C, lab, true⟩) (i := 1) rfl hN hl ⟨hg, hdb, .inl hm⟩ (fun a oe cls d pn hz hf => ?_) h
  refine pss_one (ps_ret (pe_tup (pa_cons pe_str (pa_cons (pe_xf T hno hz hf (pe_var (i := 1) ?_ ?_ hd hcd)) pa_nil (by rfl)) (by rfl))))
  · exact hN
  · exact hv
theorem cl_bare (hm : X.mg x = some (.ref C)) (h : ClOk X hds r) (hg : Gl X x := by rfl) (hdb : (x == ("__debug__" : Str)) = false := by decide) :
    ClOk X (.ExceptHandler (some (.Name x np)) none [.Return (some (.Tuple [.Constant (.str lab) j p5, .Constant .none j2 p6] kt p3)) p8] pos' :: hds) (Hd.cl ⟨x, C, lab, false⟩ :: r) := by
  refine ClOk.bare (l := Hd.cl ⟨x, C, lab, false⟩) rfl ⟨hg, hdb, .inl hm⟩ (fun a oe cls d pn hz hf => ?_) h
  exact pss_one (ps_ret (pe_tup (pa_cons pe_str (pa_cons pe_non pa_nil (by rfl)) (by rfl))))
end
theorem heard_ok {P : Program} {wd : World} {K : KF} {mg : Str → Option Value} {base : Heap} {x : Str} {pg : Arguments} {sg : Scope} {g : Addr} {fd : FuncData} {a e : Str} {errs xs : List Str} {hds : List Hd} {h₀ : ExceptHandler} {hs : List ExceptHandler} {p1 p2 p3 p5 p7 p8 : Pos} {kt j : Nat}
    (F : FunD K x x pg [.Try [.Return (some (.Tuple [.Constant (.str toldS) j p5, .Call (.Name a p1) [] [] p2] kt p3)) p7] (h₀ :: hs) [] [] p8] sg [] [] g fd) (hm : mg x = some (.ref g)) (hb : L2.Binds K fd [a] []) (S : FnScope [a, e] [a] sg) (hv : Vis sg a)
    (es : ErrS K mg errs xs) (hx : ∀ h ∈ hds, h.x ∈ xs ∧ mg h.x = some (.ref h.C))
    (hcl : ∀ (X : Cx) (cd : Value) (s : Shared) (H : Hp), X.K = K → X.mg = mg → ClOk (cxOf C8.CX0 X.prog X.w X.K X.mg X.base [a, e] x sg g cd X.A X.stack s H C8.E0).nox (h₀ :: hs) (hds.map Hd.cl))
    (hda : (a == ("__debug__" : Str)) = false := by decide) (hca : (a == ("__classdict__" : Str)) = false := by decide) : HeardP P wd K mg base x errs (hds.map fun h => (h.x, h.lab, h.nm)) := by
  obtain ⟨oc, od, dV, kV, doc, pm, an, cdv, ct, osl, rfl, lk, hcd, _, _⟩ := F.ex
  exact ⟨g, pg, _, sg, dV, kV, doc, pm, cdv, ct, oc, an, od, osl, [a, e], a, xs, hds, hm, F.kp, lk, hcd, hb, S, rfl, hv, hda, hca, rfl, es, hx, fun X _ _ eK em _ q => by
    have z := heard_gives (X := X) (x := x) (a := a) (q := q) (g := g) (cdg := cdv) (p1 := p1) (p2 := p2) (p3 := p3) (p5 := p5) (p7 := p7) (p8 := p8) (kt := kt) (j := j) S.nd rfl (fun s H => hcl X cdv s H eK em) (fun s H => by rfl) (fun s H => by rfl)
    rw [eK] at z
    exact z⟩
/-- a, b = [..], [..]: both own -/
def mPar2F (i j : Nat) (ma mb : MA) : MS := fun ρ S G => ma ρ S (fun l S1 => mb ρ S1 (fun l' S2 => G.nx (sset (sset ρ i (.own l)) j (.own l')) S2) (fun c d S' => G.ex c d ρ S')) (fun c d S' => G.ex c d ρ S')
section
variable {X : Cx} {T : Tb} {W : WX} {w0 w : Wd} {pos : Pos}
theorem ss_parF (i j : Nat) {x y : Str} {a b : Expr} {ma mb : MA} {px py pt : Pos} {kt k2 pt2} (hc : X.calm = true) (hN : X.N.Nodup) (ha : SEf X T W a ma) (hb : SEf X T W b mb) (hi : X.N[i]? = some x := by rfl) (hj : X.N[j]? = some y := by rfl) (hij : i ≠ j := by decide)
    (hx : X.env.scope.names.lookup x = some .local := by rfl) (hy : X.env.scope.names.lookup y = some .local := by rfl)
    (h1 : starEach [a, b] X.env = (false, eval a X.env) :: starEach [b] X.env := by rfl) (h2 : starEach [b] X.env = (false, eval b X.env) :: starEach [] X.env := by rfl)
    (hw : swappedStores [.Tuple [.Name x px, .Name y py] kt pt] (.Tuple [a, b] k2 pt2) X.env = pure (some [x, y]) := by rfl)
    (hs : swapsWithSole [.Tuple [.Name x px, .Name y py] kt pt] (.Tuple [a, b] k2 pt2) pos.line X.env = pure false := by rfl) :
    SS X T W (.Assign [.Tuple [.Name x px, .Name y py] kt pt] (.Tuple [a, b] k2 pt2) pos) (mPar2F i j ma mb) := by
  refine ⟨fun w0 => (ps_par hc hN hi hj hij hx hy (pa_cons ha.run (pa_cons hb.run pa_nil h2) h1) hw hs).tlw fun D σ H h => ?_⟩
  obtain ⟨w, ρ, G, rfl, ok, rs, h, f⟩ := h
  refine ⟨w, ρ, _, _, rfl, ok, rs.re, h, fun l0 S1 z w1 p vs e1 ok1 le1 n1 l1 f1 s1 r1 => ?_, xs_of f.ex ok rs⟩
  subst e1
  have rs1 := rs.step ok le1
  refine ⟨w1, ρ, _, _, rfl, ok1, rs1.re, z, fun l' S2 z w2 q us e2 ok2 le2 n2 l2 f2 s2 r2 => ?_, xs_of f.ex ok1 rs1⟩
  have rs2 := rs1.step ok1 le2
  obtain ⟨l1', s1'⟩ := le2.hp p _ l1 s1 (fun _ q => by cases q)
  have f1' : ¬ w2.F p := fun y => by
    rcases le2.fr p y with y | y
    · exact f1 y
    · exact y.ne l1 (fun _ q => by cases q) rfl
  have hpq : p ≠ q := (n2.ne l1 (fun _ q => by cases q))
  refine ⟨.ref p, .ref q, rfl, ?_⟩
  have np : ∀ (j : Nat) l, ρ[j]? = some (SV.own l) → σ[j]? ≠ some (some (.ref p)) := fun j l e1 e2 => by
    obtain ⟨b, xs, e3, q1, _⟩ := rs.re.at_ j _ _ e1 e2
    cases e3
    exact n1.ne q1 (fun _ q => by cases q) rfl
  have nq : ∀ (j : Nat) l, ρ[j]? = some (SV.own l) → σ[j]? ≠ some (some (.ref q)) := fun j l e1 e2 => by
    obtain ⟨b, xs, e3, q1, _⟩ := rs1.re.at_ j _ _ e1 e2
    cases e3
    exact n2.ne q1 (fun _ q => by cases q) rfl
  have A := rs2.putOwn (i := i) l1' f1' s1' (rs.le.ex p n1) (r1.le le2 ok1) np
  have nq' : ∀ (k : Nat) l, (sset ρ i (.own l0))[k]? = some (SV.own l) → (σ.set i (some (.ref p)))[k]? ≠ some (some (.ref q)) := fun k l e1 e2 => by
    rw [sset_eq] at e1
    by_cases hk : k = i
    · subst hk
      have h1 : k < σ.length := by have := (List.getElem?_eq_some_iff.mp e2).1; simpa using this
      rw [List.getElem?_set_self h1] at e2
      cases e2
      exact hpq rfl
    · rw [List.getElem?_set_ne (Ne.symm hk)] at e1 e2
      exact nq k l e1 e2
  have B := A.putOwn (i := j) l2 f2 s2 (rs.le.ex q (le1.ex q n2)) r2 nq'
  exact f.nx _ _ z w2 _ e2 ok2 B
end
section
variable {fa : List He.Fa} {fn : List He.DefD} {tf : List He.Defn} {root : Str} {errs xs : List Str} {cts : List (Str × List D)} {P : Program} {wd : World} {K : KF} {mg : Str → Option Value} {base h : Heap}
theorem Hd0.gcInt (e : Hd0 fa fn tf root errs xs cts wd K mg base h) (i : Nat) {x : Str} {n : Int} (hi : fa[i]? = some (.int x n) := by rfl) {X : Cx} (hX : X.mg = mg := by rfl) : GC X x (.int n) := by
  obtain ⟨t, hm⟩ := e.int i hi
  exact ⟨_, .int n, by rw [hX]; exact hm, ⟨t, rfl⟩, fun _ _ => rfl⟩
end
end TL

set_option Elab.async false
set_option linter.all false
set_option maxRecDepth 100000
set_option maxHeartbeats 1000000
/-! T25: a new list by +; a op b op c op d; three at once; the module's tuples. -/
namespace TL
open PySem PySem.Spec PyProof.Rows L2

section
variable {X : Cx} {T : Tb} {W : WX} {a b c d : Expr} {ma mb mc md : ME} {pos : Pos}
/-- a + b, two lists, told as new -/
def mCat (ma mb : ME) : MA := fun ρ S Q E => ma ρ S (fun x S1 => lstK (fun l => mb ρ S1 (fun y S2 => lstK (fun m => l.length + m.length ≤ lim ∧ Q (l ++ m) S2) y) E) x) E
theorem s_catF (ha : SEw X T W a ma) (hb : SEw X T W b mb) : SEf X T W (.BinOp a .Add b pos) (mCat ma mb) := by
  refine ⟨(pe_op op_cat ha.run hb.run).tlw fun σ H Q h => ?_⟩
  obtain ⟨w, ρ, Q1, E1, rfl, ok, re, h, hq, hx⟩ := h
  refine ⟨w, ρ, _, _, rfl, ok, re, h, fun x S1 h w1 v e1 ok1 le1 r1 => ?_, hx⟩
  subst e1
  cases x with
  | lst l =>
    refine ⟨w1, ρ, _, _, rfl, ok1, re.le le1 ok, h, fun y S2 h w2 u e2 ok2 le2 r2 => ?_, fun c d S' z => (hx c d S' z).le le1⟩
    subst e2
    cases y with
    | lst m =>
      have r1' := r1.le le2 ok1
      obtain ⟨p, vs, rfl, hp, _, rl⟩ := r1'
      obtain ⟨q, us, rfl, hq', _, rm⟩ := r2
      refine ⟨p, q, vs, us, rfl, rfl, hp, hq', by rw [rl.length, rm.length]; exact lim_le h.1, fun g ng => ?_⟩
      obtain ⟨ok3, le3⟩ := ok2.laid ng (.lst (vs ++ us))
      obtain ⟨s3, f3⟩ := ok2.fresh ng
      have n0 : Nw w.H g := (le1.trans le2).ex g (.of ng)
      exact hq _ _ h.2 { w2 with H := upd w2.H g (.lst (vs ++ us)) } g (vs ++ us) rfl ok3 ((le1.trans le2).trans le3) n0 upd_same f3 s3 ((rl.append rm).le le3 ok2)
    | _ => exact h.elim
  | _ => exact h.elim

/-! ### a op b op c op d -/
def tChain3 (r r' r'' : R2) (ta tb tc td : TE) : TE := fun σ H Q => ta σ H fun x H1 => tb σ H1 fun y H2 => r x y H2 fun z H3 => ∃ k, z = .bl k ∧
  (if k = true then tc σ H3 fun w' H4 => r' y w' H4 fun z2 H5 => ∃ k2, z2 = .bl k2 ∧ (if k2 = true then td σ H5 fun v' H6 => r'' w' v' H6 Q else Q (.bl false) H5) else Q (.bl false) H3)
theorem pe_chain3 {op op' op'' : CmpOp} {r r' r'' : R2} {ta tb tc td : TE} (ho : OpR X (compareOp op) r) (ho' : OpR X (compareOp op') r') (ho'' : OpR X (compareOp op'') r'') (ha : PE X a ta) (hb : PE X b tb) (hc : PE X c tc) (hd : PE X d td)
    (hm : lastMarks [op, op', op''] [b, c, d] = false := by with_unfolding_all rfl) : PE X (.Compare a [op, op', op''] [b, c, d] pos) (tChain3 r r' r'' ta tb tc td) := by
  refine ⟨fun pins s σ H Q I h => Compare_chain (thn (ha.run pins s σ H _ I h) fun v s1 h1 => ?_) hm⟩
  obtain ⟨x, H1, I1, r1, q1⟩ := h1
  refine chain_link (thn (hb.run pins s1 σ H1 _ I1 q1) fun u s2 h2 => ?_)
  obtain ⟨y, H2, I2, r2, q2⟩ := h2
  refine thn (ho pins s2 σ H2 x y v u _ I2 r1 r2 q2) fun g s3 h3 => ?_
  obtain ⟨z, H3, I3, r3, k, e, q3⟩ := h3
  subst e
  cases r3
  refine wpAny_truthy_bool ?_
  cases k with
  | false => exact ite_ff ⟨.bl false, H3, I3, rfl, q3⟩
  | true =>
    refine ite_tt (chain_link (thn (hc.run pins s3 σ H3 _ I3 q3) fun w' s4 h4 => ?_))
    obtain ⟨z', H4, I4, r4, q4⟩ := h4
    refine thn (ho' pins s4 σ H4 y z' u w' _ I4 r2 r4 q4) fun g' s5 h5 => ?_
    obtain ⟨z2, H5, I5, r5, k2, e2, q5⟩ := h5
    subst e2
    cases r5
    refine wpAny_truthy_bool ?_
    cases k2 with
    | false => exact ite_ff ⟨.bl false, H5, I5, rfl, q5⟩
    | true =>
      refine ite_tt (chain_last (thn (hd.run pins s5 σ H5 _ I5 q5) fun w2 s6 h6 => ?_))
      obtain ⟨z3, H6, I6, r6, q6⟩ := h6
      exact ho'' pins s6 σ H6 z' z3 w' w2 Q I6 r4 r6 q6
def mCh3 (f g h : F2) (a b c d : ME) : ME := fun ρ S Q E => a ρ S (fun x S1 => b ρ S1 (fun y S2 => f S2 x y (isB fun k => if k = true then c ρ S2 (fun z S3 => g S3 y z (isB fun k2 => if k2 = true then d ρ S3 (fun u S4 => h S4 z u (fun r => Q r S4)) E else Q (.bl false) S3)) E else Q (.bl false) S2)) E) E
theorem s_chain3 {op op' op'' : CmpOp} {r r' r'' : R2} {f g h : F2} (ho : OpR X (compareOp op) r) (ho' : OpR X (compareOp op') r') (ho'' : OpR X (compareOp op'') r'') (hp : P2Ok X T r f) (hp' : P2Ok X T r' g) (hp'' : P2Ok X T r'' h)
    (ha : SEw X T W a ma) (hb : SEw X T W b mb) (hc : SEw X T W c mc) (hd : SEw X T W d md) (hm : lastMarks [op, op', op''] [b, c, d] = false := by with_unfolding_all rfl) : SE X T W (.Compare a [op, op', op''] [b, c, d] pos) (mCh3 f g h ma mb mc md) := by
  refine ⟨(pe_chain3 ho ho' ho'' ha.run hb.run hc.run hd.run hm).tlw fun σ H Q h => ?_⟩
  obtain ⟨w, ρ, Q1, E1, rfl, ok, re, h, hq, hx⟩ := h
  refine ⟨w, ρ, _, _, rfl, ok, re, h, fun x S1 h w1 v e1 ok1 le1 r1 => ?_, hx⟩
  subst e1
  refine ⟨w1, ρ, _, _, rfl, ok1, re.le le1 ok, h, fun y S2 h w2 u e2 ok2 le2 r2 => ?_, fun c d S' z => (hx c d S' z).le le1⟩
  subst e2
  have l2 := le1.trans le2
  refine hp w2 x y v u _ _ ok2 (r1.le le2 ok1) r2 h fun d' kd w3 z e3 ok3 le3 r3 => ?_
  have l3 := l2.trans le3
  cases d' with
  | bl k =>
    refine ⟨k, r3, ?_⟩
    cases k with
    | false => exact hq _ _ kd w3 (.bl false) e3 ok3 l3 rfl
    | true =>
      have kd := show mc ρ w2.S _ E1 from kd
      rw [← e3] at kd
      refine ⟨w3, ρ, _, _, rfl, ok3, re.le l3 ok, kd, fun z' S4 h4 w4 t e4 ok4 le4 r4 => ?_, fun c d S' z => (hx c d S' z).le l3⟩
      subst e4
      have l4 := l3.trans le4
      refine hp' w4 y z' u t _ _ ok4 (r2.le (le3.trans le4) ok2) r4 h4 fun d2 kd2 w5 z5 e5 ok5 le5 r5 => ?_
      have l5 := l4.trans le5
      cases d2 with
      | bl k2 =>
        refine ⟨k2, r5, ?_⟩
        cases k2 with
        | false => exact hq _ _ kd2 w5 (.bl false) e5 ok5 l5 rfl
        | true =>
          have kd2 := show md ρ w4.S _ E1 from kd2
          rw [← e5] at kd2
          refine ⟨w5, ρ, _, _, rfl, ok5, re.le l5 ok, kd2, fun u' S6 h6 w6 t6 e6 ok6 le6 r6 => ?_, fun c d S' z => (hx c d S' z).le l5⟩
          subst e6
          exact hp'' w6 z' u' t t6 _ Q ok6 (r4.le (le5.trans le6) ok4) r6 h6 fun d7 kd7 w7 z7 e7 ok7 le7 r7 => hq _ _ kd7 w7 z7 e7 ok7 ((l5.trans le6).trans le7) r7
      | _ => exact kd2.elim
  | _ => exact kd.elim
end
end TL

set_option Elab.async false
set_option linter.all false
set_option maxRecDepth 100000
set_option maxHeartbeats 4000000
/-! T20: loops over trees; what all laws have in common: the jar, the worklist, whole numbers. -/
namespace TL
open PySem PySem.Spec PyProof.Rows L2

theorem isN_non : D.isN .non = true := rfl
theorem isN_bl {b : Bool} : D.isN (.bl b) = false := rfl
theorem isN_int {b : Int} : D.isN (.int b) = false := rfl
theorem isN_str {b : Str} : D.isN (.str b) = false := rfl
theorem isN_tup {b : List D} : D.isN (.tup b) = false := rfl
theorem isN_lst {b : List D} : D.isN (.lst b) = false := rfl
theorem isN_klst {b : List D} : D.isN (.klst b) = false := rfl
/-! ### loops -/
theorem forD_ix {b : BD} {mb : MS} {G : EndsD} (I : Nat → Ro → Store → Prop) : ∀ (ds : List D) (k : Nat), (∀ i d, ds[i]? = some d → ∀ ρ S, I (k + i) ρ S → ∀ G' : EndsD, (∀ ρ S, I (k + i + 1) ρ S → G'.nx ρ S) → (∀ ρ S, I (k + i + 1) ρ S → G'.ct ρ S) → G'.bk = G.nx → G'.rt = G.rt → G'.ex = G.ex → b d ρ (fun ρ' => mb ρ' S G')) →
    ∀ ρ S, I k ρ S → (∀ ρ S, I (k + ds.length) ρ S → G.nx ρ S) → forD b mb ds ρ S G
  | [], k, _, ρ, S, h, hn => hn ρ S (by simpa using h)
  | d :: ds, k, st, ρ, S, h, hn => by
    have nx : ∀ ρ2 S2, I (k + 0 + 1) ρ2 S2 → forD b mb ds ρ2 S2 G := fun ρ2 S2 h2 =>
      forD_ix I ds (k + 1) (fun i d' e ρ S hI => by
        have := st (i + 1) d' (by simpa using e) ρ S (by rw [show k + (i + 1) = k + 1 + i by omega]; exact hI)
        rw [show k + (i + 1) + 1 = k + 1 + i + 1 by omega] at this
        exact this) ρ2 S2 h2 (fun ρ S z => hn ρ S (by rw [show k + (d :: ds).length = k + 1 + ds.length by simp; omega]; exact z))
    exact st 0 d rfl ρ S h { G with nx := fun ρ2 S2 => forD b mb ds ρ2 S2 G, ct := fun ρ2 S2 => forD b mb ds ρ2 S2 G, bk := G.nx } nx nx rfl rfl rfl
/-- a comprehension that gives f of each item and changes nothing -/
theorem lc_pure {i : Nat} {me : ME} {ρ : Ro} {S : Store} (f : D → D) : ∀ (ds : List D) {Q : AK}, (∀ d ∈ ds, ∀ q : EK, q (f d) S → me (sset ρ i (.val d)) S q noX) → Q (ds.map f) S → lcD (bN i) mYes me ds ρ S Q noX
  | [], Q, _, h => h
  | d :: ds, Q, st, h => by
    simp only [lcD, bN, mYes, if_true]
    refine st d List.mem_cons_self _ ?_
    exact lc_pure f ds (fun d' h' => st d' (List.mem_cons_of_mem _ h')) h
def heardTo (hl : List (Str × Str × Bool)) (c : Str) : Option (Str × Str × Bool) := hl.find? fun h => exSub c h.1
theorem heardL_of {k : D → Prop} {c lab : Str} {d : D} : ∀ {hl : List (Str × Str × Bool)}, heardTo hl c = some (c, lab, true) → k (.tup [.str lab, d]) → heardL k hl c d
  | [], e, _ => by cases e
  | (x, lb, b) :: r, e, h => by
    unfold heardL
    unfold heardTo at e
    rw [List.find?_cons] at e
    cases q : exSub c x with
    | true =>
      rw [q] at e
      have e := Option.some.inj e
      simp only [Prod.mk.injEq] at e
      obtain ⟨rfl, rfl, rfl⟩ := e
      rw [if_pos rfl, if_pos rfl]
      exact ⟨rfl, h⟩
    | false =>
      rw [q] at e
      rw [if_neg (by simp)]
      exact heardL_of e h

/-! ### the jar -/
def jarOk (l : List D) : Prop := ∃ d s c : Int, l = [.int d, .int s, .int c] ∧ 0 ≤ s ∧ s < 2147483647
def JS (a : Addr) (S : Store) : Prop := ∃ l, S a = some (.lst l) ∧ jarOk l
def m_take : MS := (mSeq (mIfS (mBinT fGt (mBin fIx (mVar 0) (mC (.int 0))) (mC (.int 0))) (mSeq (mSet 2 (mM (mBin fMod (mPrim fInt (mCons (mBin fIx (mVar 0) (mC (.int 0))) mNil)) (mVar 1))))
  (mSeq (mSetIx 0 (mC (.int 0)) (mBin fDiv (mBin fIx (mVar 0) (mC (.int 0))) (mVar 1)))
  (mRet (mM (mVar 2))))) mPass)
  (mSeq (mSetIx 0 (mC (.int 2)) (mBin fAdd (mBin fIx (mVar 0) (mC (.int 2))) (mC (.int 1))))
  (mSeq (mSetIx 0 (mC (.int 1)) (mBin fMod (mPrim fInt (mCons (mBin fAdd (mBin fAdd (mBin fMul (mBin fIx (mVar 0) (mC (.int 1))) (mC (.int 39373))) (mBin fMul (mC (.int 7919)) (mBin fIx (mVar 0) (mC (.int 2))))) (mC (.int 7))) mNil)) (mC (.int 2147483647))))
  (mRet (mM (mBin fMod (mPrim fInt (mCons (mBin fDiv (mBin fMod (mPrim fInt (mCons (mBin fMul (mBin fIx (mVar 0) (mC (.int 1))) (mBin fIx (mVar 0) (mC (.int 1)))) mNil)) (mC (.int 2147483629))) (mC (.int 32))) mNil)) (mVar 1)))))))
/-- a number from 0 on below many -/
def c_take : Con := fun ds S Q _ => match ds with
  | [.ref a, .int m] => JS a S ∧ (0 < m ∧ m < 2 ^ 64) ∧ ∀ r S', 0 ≤ r → r < m → JS a S' → Q (.int r) S'
  | _ => False
theorem ix0 {α : Type} {l : List α} {d : α} : ixN (d :: l).length 0 = some 0 := by
  unfold ixN
  simp only [List.length_cons]
  split <;> (try omega) <;> (try (split <;> (try omega))) <;> simp <;> omega
theorem ix1 {α : Type} {l : List α} {d e : α} : ixN (d :: e :: l).length 1 = some 1 := by
  unfold ixN
  simp only [List.length_cons]
  split <;> (try omega) <;> (try (split <;> (try omega))) <;> simp <;> omega
theorem ix2 {α : Type} {l : List α} {d e f : α} : ixN (d :: e :: f :: l).length 2 = some 2 := by
  unfold ixN
  simp only [List.length_cons]
  split <;> (try omega) <;> (try (split <;> (try omega))) <;> simp <;> omega
theorem at0 {l : List D} {d : D} : atI (d :: l) 0 = some d := by
  unfold atI
  rw [ix0]; rfl
theorem at1 {l : List D} {d e : D} : atI (d :: e :: l) 1 = some e := by
  unfold atI
  rw [ix1]; rfl
theorem at2 {l : List D} {d e f : D} : atI (d :: e :: f :: l) 2 = some f := by
  unfold atI
  rw [ix2]; rfl
theorem divOk {i m : Int} (h : 0 < m) (h2 : m < 2 ^ 64) : CDivW i m := by
  have : m.natAbs < 2 ^ 64 := by omega
  have h3 : m.natAbs.log2 < 64 := (Nat.log2_lt (by omega)).mpr this
  exact ⟨h, by omega⟩
theorem h_take (ds : List D) (S : Store) (Q : EK) (E : XKd) (hn : ds.length = 2) (h : c_take ds S Q E) : m_take (startR 3 ds) S (retE Q E) := by
  unfold c_take at h
  split at h
  · rename_i a m
    obtain ⟨⟨l, hS, d, s, c, rfl, s1, s2⟩, ⟨m1, m2⟩, hQ⟩ := h
    try simp only [m_take, mSeq, mSet, mM, mCall, mCons, mNil, mVar, mVarW, mC, mIfS, mIf, mRet, mRetN, mExpr, mPass, mRaise, mUnp, mPar, mPar2F, mSetF, mFrz, mApp, mExt, mPop, mSetIx, mBin, mBinT, mUn, mPrim, mT, mAndT, mOrT, mNotT, mAndV, mOrV, mNotV, mIsi, mLst, mDisp, mTup, mCell, mSl, mNo, mSome, mIt, mRng1, mRng2, mFor, mComp, mYes, mThru, mHeard, mBrk, mCont, mCh, mChT, mCh3, mCat, fAdd, fSub, fMul, fDiv, fMod, fPow, fNeg, fLt, fLe, fGt, fGe, fIsN, fNotN, fEq, fNe, fIn, fNin, fIx, fSl, fLen, fInt, fMax2, fMin2, fAbs, fList, fTuple, svK, svKw, sget, sset, startR, retE, isB, ownK, lstK, intK, seqK, unpT, setK, svOk, bN, bT, sputs, isN_non, isN_bl, isN_int, isN_str, isN_tup, isN_lst, isN_klst, if_true, if_false, Bool.false_eq_true, reduceIte, Bool.not_true, Bool.not_false, decide_true, decide_false, Bool.true_and, Bool.false_and, Bool.and_true, Bool.and_false, Bool.true_or, Bool.false_or, Bool.or_true, Bool.or_false, and_true, true_and, List.length_cons, List.length_nil, List.replicate_succ, List.replicate_zero, Nat.reduceSub]
    refine ⟨_, hS, _, at0, ?_⟩
    by_cases hd : 0 < d
    · simp only [hd, mSeq, mSet, mM, mCall, mCons, mNil, mVar, mVarW, mC, mIfS, mIf, mRet, mRetN, mExpr, mPass, mRaise, mUnp, mPar, mPar2F, mSetF, mFrz, mApp, mExt, mPop, mSetIx, mBin, mBinT, mUn, mPrim, mT, mAndT, mOrT, mNotT, mAndV, mOrV, mNotV, mIsi, mLst, mDisp, mTup, mCell, mSl, mNo, mSome, mIt, mRng1, mRng2, mFor, mComp, mYes, mThru, mHeard, mBrk, mCont, mCh, mChT, mCh3, mCat, fAdd, fSub, fMul, fDiv, fMod, fPow, fNeg, fLt, fLe, fGt, fGe, fIsN, fNotN, fEq, fNe, fIn, fNin, fIx, fSl, fLen, fInt, fMax2, fMin2, fAbs, fList, fTuple, svK, svKw, sget, sset, startR, retE, isB, ownK, lstK, intK, seqK, unpT, setK, svOk, bN, bT, sputs, isN_non, isN_bl, isN_int, isN_str, isN_tup, isN_lst, isN_klst, if_true, if_false, Bool.false_eq_true, reduceIte, Bool.not_true, Bool.not_false, decide_true, decide_false, Bool.true_and, Bool.false_and, Bool.and_true, Bool.and_false, Bool.true_or, Bool.false_or, Bool.or_true, Bool.or_false, and_true, true_and, List.length_cons, List.length_nil, List.replicate_succ, List.replicate_zero, Nat.reduceSub]
      refine ⟨_, hS, _, at0, ?_⟩
      try simp only [mSeq, mSet, mM, mCall, mCons, mNil, mVar, mVarW, mC, mIfS, mIf, mRet, mRetN, mExpr, mPass, mRaise, mUnp, mPar, mPar2F, mSetF, mFrz, mApp, mExt, mPop, mSetIx, mBin, mBinT, mUn, mPrim, mT, mAndT, mOrT, mNotT, mAndV, mOrV, mNotV, mIsi, mLst, mDisp, mTup, mCell, mSl, mNo, mSome, mIt, mRng1, mRng2, mFor, mComp, mYes, mThru, mHeard, mBrk, mCont, mCh, mChT, mCh3, mCat, fAdd, fSub, fMul, fDiv, fMod, fPow, fNeg, fLt, fLe, fGt, fGe, fIsN, fNotN, fEq, fNe, fIn, fNin, fIx, fSl, fLen, fInt, fMax2, fMin2, fAbs, fList, fTuple, svK, svKw, sget, sset, startR, retE, isB, ownK, lstK, intK, seqK, unpT, setK, svOk, bN, bT, sputs, isN_non, isN_bl, isN_int, isN_str, isN_tup, isN_lst, isN_klst, if_true, if_false, Bool.false_eq_true, reduceIte, Bool.not_true, Bool.not_false, decide_true, decide_false, Bool.true_and, Bool.false_and, Bool.and_true, Bool.and_false, Bool.true_or, Bool.false_or, Bool.or_true, Bool.or_false, and_true, true_and, List.length_cons, List.length_nil, List.replicate_succ, List.replicate_zero, Nat.reduceSub]
      refine ⟨m1, _, hS, _, at0, divOk m1 m2, _, hS, 0, ix0, hQ _ _ (Int.emod_nonneg _ (by omega)) (Int.emod_lt_of_pos _ m1) ⟨_, Store.upd_same, _, s, c, rfl, s1, s2⟩⟩
    · simp only [hd, mSeq, mSet, mM, mCall, mCons, mNil, mVar, mVarW, mC, mIfS, mIf, mRet, mRetN, mExpr, mPass, mRaise, mUnp, mPar, mPar2F, mSetF, mFrz, mApp, mExt, mPop, mSetIx, mBin, mBinT, mUn, mPrim, mT, mAndT, mOrT, mNotT, mAndV, mOrV, mNotV, mIsi, mLst, mDisp, mTup, mCell, mSl, mNo, mSome, mIt, mRng1, mRng2, mFor, mComp, mYes, mThru, mHeard, mBrk, mCont, mCh, mChT, mCh3, mCat, fAdd, fSub, fMul, fDiv, fMod, fPow, fNeg, fLt, fLe, fGt, fGe, fIsN, fNotN, fEq, fNe, fIn, fNin, fIx, fSl, fLen, fInt, fMax2, fMin2, fAbs, fList, fTuple, svK, svKw, sget, sset, startR, retE, isB, ownK, lstK, intK, seqK, unpT, setK, svOk, bN, bT, sputs, isN_non, isN_bl, isN_int, isN_str, isN_tup, isN_lst, isN_klst, if_true, if_false, Bool.false_eq_true, reduceIte, Bool.not_true, Bool.not_false, decide_true, decide_false, Bool.true_and, Bool.false_and, Bool.and_true, Bool.and_false, Bool.true_or, Bool.false_or, Bool.or_true, Bool.or_false, and_true, true_and, List.length_cons, List.length_nil, List.replicate_succ, List.replicate_zero, Nat.reduceSub]
      refine ⟨_, hS, _, at2, ?_⟩
      try simp only [mSeq, mSet, mM, mCall, mCons, mNil, mVar, mVarW, mC, mIfS, mIf, mRet, mRetN, mExpr, mPass, mRaise, mUnp, mPar, mPar2F, mSetF, mFrz, mApp, mExt, mPop, mSetIx, mBin, mBinT, mUn, mPrim, mT, mAndT, mOrT, mNotT, mAndV, mOrV, mNotV, mIsi, mLst, mDisp, mTup, mCell, mSl, mNo, mSome, mIt, mRng1, mRng2, mFor, mComp, mYes, mThru, mHeard, mBrk, mCont, mCh, mChT, mCh3, mCat, fAdd, fSub, fMul, fDiv, fMod, fPow, fNeg, fLt, fLe, fGt, fGe, fIsN, fNotN, fEq, fNe, fIn, fNin, fIx, fSl, fLen, fInt, fMax2, fMin2, fAbs, fList, fTuple, svK, svKw, sget, sset, startR, retE, isB, ownK, lstK, intK, seqK, unpT, setK, svOk, bN, bT, sputs, isN_non, isN_bl, isN_int, isN_str, isN_tup, isN_lst, isN_klst, if_true, if_false, Bool.false_eq_true, reduceIte, Bool.not_true, Bool.not_false, decide_true, decide_false, Bool.true_and, Bool.false_and, Bool.and_true, Bool.and_false, Bool.true_or, Bool.false_or, Bool.or_true, Bool.or_false, and_true, true_and, List.length_cons, List.length_nil, List.replicate_succ, List.replicate_zero, Nat.reduceSub]
      refine ⟨_, hS, 2, ix2, _, Store.upd_same, _, at1, .inl (.inr ⟨by decide, by decide⟩), ?_⟩
      try simp only [mSeq, mSet, mM, mCall, mCons, mNil, mVar, mVarW, mC, mIfS, mIf, mRet, mRetN, mExpr, mPass, mRaise, mUnp, mPar, mPar2F, mSetF, mFrz, mApp, mExt, mPop, mSetIx, mBin, mBinT, mUn, mPrim, mT, mAndT, mOrT, mNotT, mAndV, mOrV, mNotV, mIsi, mLst, mDisp, mTup, mCell, mSl, mNo, mSome, mIt, mRng1, mRng2, mFor, mComp, mYes, mThru, mHeard, mBrk, mCont, mCh, mChT, mCh3, mCat, fAdd, fSub, fMul, fDiv, fMod, fPow, fNeg, fLt, fLe, fGt, fGe, fIsN, fNotN, fEq, fNe, fIn, fNin, fIx, fSl, fLen, fInt, fMax2, fMin2, fAbs, fList, fTuple, svK, svKw, sget, sset, startR, retE, isB, ownK, lstK, intK, seqK, unpT, setK, svOk, bN, bT, sputs, isN_non, isN_bl, isN_int, isN_str, isN_tup, isN_lst, isN_klst, if_true, if_false, Bool.false_eq_true, reduceIte, Bool.not_true, Bool.not_false, decide_true, decide_false, Bool.true_and, Bool.false_and, Bool.and_true, Bool.and_false, Bool.true_or, Bool.false_or, Bool.or_true, Bool.or_false, and_true, true_and, List.length_cons, List.length_nil, List.replicate_succ, List.replicate_zero, Nat.reduceSub]
      refine ⟨_, Store.upd_same, _, at2, .inl (.inl ⟨by decide, by decide⟩), by decide, ?_⟩
      refine ⟨_, Store.upd_same, 1, ix1, ?_⟩
      refine ⟨_, Store.upd_same, _, at1, ?_⟩
      have e1 : 0 ≤ (s * 39373 + 7919 * (c + 1) + 7) % 2147483647 := Int.emod_nonneg _ (by decide)
      have e2 : (s * 39373 + 7919 * (c + 1) + 7) % 2147483647 < 2147483647 := Int.emod_lt_of_pos _ (by decide)
      refine ⟨_, Store.upd_same, _, at1, .inl (.inl ⟨by omega, by omega⟩), ?_⟩
      try simp only [mSeq, mSet, mM, mCall, mCons, mNil, mVar, mVarW, mC, mIfS, mIf, mRet, mRetN, mExpr, mPass, mRaise, mUnp, mPar, mPar2F, mSetF, mFrz, mApp, mExt, mPop, mSetIx, mBin, mBinT, mUn, mPrim, mT, mAndT, mOrT, mNotT, mAndV, mOrV, mNotV, mIsi, mLst, mDisp, mTup, mCell, mSl, mNo, mSome, mIt, mRng1, mRng2, mFor, mComp, mYes, mThru, mHeard, mBrk, mCont, mCh, mChT, mCh3, mCat, fAdd, fSub, fMul, fDiv, fMod, fPow, fNeg, fLt, fLe, fGt, fGe, fIsN, fNotN, fEq, fNe, fIn, fNin, fIx, fSl, fLen, fInt, fMax2, fMin2, fAbs, fList, fTuple, svK, svKw, sget, sset, startR, retE, isB, ownK, lstK, intK, seqK, unpT, setK, svOk, bN, bT, sputs, isN_non, isN_bl, isN_int, isN_str, isN_tup, isN_lst, isN_klst, if_true, if_false, Bool.false_eq_true, reduceIte, Bool.not_true, Bool.not_false, decide_true, decide_false, Bool.true_and, Bool.false_and, Bool.and_true, Bool.and_false, Bool.true_or, Bool.false_or, Bool.or_true, Bool.or_false, and_true, true_and, List.length_cons, List.length_nil, List.replicate_succ, List.replicate_zero, Nat.reduceSub]
      refine ⟨by decide, divOk (by decide) (by decide), ?_⟩
      refine ⟨m1, hQ _ _ (Int.emod_nonneg _ (by omega)) (Int.emod_lt_of_pos _ m1) ⟨_, Store.upd_same, _, _, _, rfl, e1, e2⟩⟩
  · exact h.elim
end TL

set_option Elab.async false
set_option linter.all false
set_option maxRecDepth 100000
set_option maxHeartbeats 4000000
/-! T21: the pool, one of a row, whole numbers. -/
namespace TL
open PySem PySem.Spec PyProof.Rows L2

def D.wh : D → Bool
  | .int _ => true
  | _ => false
theorem wh_isA (d : D) : (d.isA "int" && !d.isA "bool") = d.wh := by cases d <;> rfl
def m_whole : MS := (mRet (mM (mAndV (mIsi "int" (mVar 0)) (mNotV (mIsi "bool" (mVar 0))))))
def c_whole : Con := fun ds S Q _ => match ds with
  | [x] => (∀ a, x ≠ .ref a) ∧ Q (.bl x.wh) S
  | _ => False
theorem h_whole (ds : List D) (S : Store) (Q : EK) (E : XKd) (hn : ds.length = 1) (h : c_whole ds S Q E) : m_whole (startR 1 ds) S (retE Q E) := by
  obtain ⟨x, rfl⟩ := List.length_eq_one_iff.mp hn
  obtain ⟨h1, h2⟩ := h
  try simp only [m_whole, mSeq, mSet, mM, mCall, mCons, mNil, mVar, mVarW, mC, mIfS, mIf, mRet, mRetN, mExpr, mPass, mRaise, mUnp, mPar, mPar2F, mSetF, mFrz, mApp, mExt, mPop, mSetIx, mBin, mBinT, mUn, mPrim, mT, mAndT, mOrT, mNotT, mAndV, mOrV, mNotV, mIsi, mLst, mDisp, mTup, mCell, mSl, mNo, mSome, mIt, mRng1, mRng2, mFor, mComp, mYes, mThru, mHeard, mBrk, mCont, mCh, mChT, mCh3, mCat, fAdd, fSub, fMul, fDiv, fMod, fPow, fNeg, fLt, fLe, fGt, fGe, fIsN, fNotN, fEq, fNe, fIn, fNin, fIx, fSl, fLen, fInt, fMax2, fMin2, fAbs, fList, fTuple, svK, svKw, sget, sset, startR, retE, isB, ownK, lstK, intK, seqK, unpT, setK, svOk, bN, bT, sputs, isN_non, isN_bl, isN_int, isN_str, isN_tup, isN_lst, isN_klst, if_true, if_false, Bool.false_eq_true, reduceIte, Bool.not_true, Bool.not_false, decide_true, decide_false, Bool.true_and, Bool.false_and, Bool.and_true, Bool.and_false, Bool.true_or, Bool.false_or, Bool.or_true, Bool.or_false, and_true, true_and, List.length_cons, List.length_nil, List.replicate_succ, List.replicate_zero, Nat.reduceSub]
  refine ⟨fun a e => absurd e (h1 a), ?_⟩
  cases hx : x.isA "int" with
  | false =>
    try simp only [mSeq, mSet, mM, mCall, mCons, mNil, mVar, mVarW, mC, mIfS, mIf, mRet, mRetN, mExpr, mPass, mRaise, mUnp, mPar, mPar2F, mSetF, mFrz, mApp, mExt, mPop, mSetIx, mBin, mBinT, mUn, mPrim, mT, mAndT, mOrT, mNotT, mAndV, mOrV, mNotV, mIsi, mLst, mDisp, mTup, mCell, mSl, mNo, mSome, mIt, mRng1, mRng2, mFor, mComp, mYes, mThru, mHeard, mBrk, mCont, mCh, mChT, mCh3, mCat, fAdd, fSub, fMul, fDiv, fMod, fPow, fNeg, fLt, fLe, fGt, fGe, fIsN, fNotN, fEq, fNe, fIn, fNin, fIx, fSl, fLen, fInt, fMax2, fMin2, fAbs, fList, fTuple, svK, svKw, sget, sset, startR, retE, isB, ownK, lstK, intK, seqK, unpT, setK, svOk, bN, bT, sputs, isN_non, isN_bl, isN_int, isN_str, isN_tup, isN_lst, isN_klst, if_true, if_false, Bool.false_eq_true, reduceIte, Bool.not_true, Bool.not_false, decide_true, decide_false, Bool.true_and, Bool.false_and, Bool.and_true, Bool.and_false, Bool.true_or, Bool.false_or, Bool.or_true, Bool.or_false, and_true, true_and, List.length_cons, List.length_nil, List.replicate_succ, List.replicate_zero, Nat.reduceSub]
    rw [← wh_isA, hx] at h2
    exact h2
  | true =>
    try simp only [mSeq, mSet, mM, mCall, mCons, mNil, mVar, mVarW, mC, mIfS, mIf, mRet, mRetN, mExpr, mPass, mRaise, mUnp, mPar, mPar2F, mSetF, mFrz, mApp, mExt, mPop, mSetIx, mBin, mBinT, mUn, mPrim, mT, mAndT, mOrT, mNotT, mAndV, mOrV, mNotV, mIsi, mLst, mDisp, mTup, mCell, mSl, mNo, mSome, mIt, mRng1, mRng2, mFor, mComp, mYes, mThru, mHeard, mBrk, mCont, mCh, mChT, mCh3, mCat, fAdd, fSub, fMul, fDiv, fMod, fPow, fNeg, fLt, fLe, fGt, fGe, fIsN, fNotN, fEq, fNe, fIn, fNin, fIx, fSl, fLen, fInt, fMax2, fMin2, fAbs, fList, fTuple, svK, svKw, sget, sset, startR, retE, isB, ownK, lstK, intK, seqK, unpT, setK, svOk, bN, bT, sputs, isN_non, isN_bl, isN_int, isN_str, isN_tup, isN_lst, isN_klst, if_true, if_false, Bool.false_eq_true, reduceIte, Bool.not_true, Bool.not_false, decide_true, decide_false, Bool.true_and, Bool.false_and, Bool.and_true, Bool.and_false, Bool.true_or, Bool.false_or, Bool.or_true, Bool.or_false, and_true, true_and, List.length_cons, List.length_nil, List.replicate_succ, List.replicate_zero, Nat.reduceSub]
    refine ⟨fun a e => absurd e (h1 a), ?_⟩
    rw [← wh_isA, hx] at h2
    exact h2

/-- one of a row's things -/
def c_one : Con := fun ds S Q _ => match ds with
  | [.ref a, d] => JS a S ∧ seqK (fun l => (0 < l.length ∧ l.length < 2 ^ 62) ∧ ∀ x ∈ l, ∀ S', JS a S' → Q x S') d
  | _ => False
def m_one (c_law_take : Con) : MS := (mRet (mM (mBin fIx (mVar 1) (mCall 2 c_law_take (mCons (mVar 0) (mCons (mPrim fLen (mCons (mVar 1) mNil)) mNil))))))
theorem at_lt {l : List D} {r : Int} (h : 0 ≤ r) (h2 : r < l.length) : ∃ d, atI l r = some d ∧ d ∈ l := by
  have hr : r.toNat < l.length := by omega
  refine ⟨l[r.toNat], ?_, List.getElem_mem hr⟩
  unfold atI ixN
  rw [if_pos h, if_pos h2]
  exact List.getElem?_eq_getElem hr
theorem h_one (ds : List D) (S : Store) (Q : EK) (E : XKd) (hn : ds.length = 2) (h : c_one ds S Q E) : m_one c_take (startR 2 ds) S (retE Q E) := by
  unfold c_one at h
  split at h
  · rename_i a d
    obtain ⟨hJ, h⟩ := h
    cases d with
    | lst l =>
      obtain ⟨⟨l1, l2⟩, hQ⟩ := h
      try simp only [m_one, c_take, mSeq, mSet, mM, mCall, mCons, mNil, mVar, mVarW, mC, mIfS, mIf, mRet, mRetN, mExpr, mPass, mRaise, mUnp, mPar, mPar2F, mSetF, mFrz, mApp, mExt, mPop, mSetIx, mBin, mBinT, mUn, mPrim, mT, mAndT, mOrT, mNotT, mAndV, mOrV, mNotV, mIsi, mLst, mDisp, mTup, mCell, mSl, mNo, mSome, mIt, mRng1, mRng2, mFor, mComp, mYes, mThru, mHeard, mBrk, mCont, mCh, mChT, mCh3, mCat, fAdd, fSub, fMul, fDiv, fMod, fPow, fNeg, fLt, fLe, fGt, fGe, fIsN, fNotN, fEq, fNe, fIn, fNin, fIx, fSl, fLen, fInt, fMax2, fMin2, fAbs, fList, fTuple, svK, svKw, sget, sset, startR, retE, isB, ownK, lstK, intK, seqK, unpT, setK, svOk, bN, bT, sputs, isN_non, isN_bl, isN_int, isN_str, isN_tup, isN_lst, isN_klst, if_true, if_false, Bool.false_eq_true, reduceIte, Bool.not_true, Bool.not_false, decide_true, decide_false, Bool.true_and, Bool.false_and, Bool.and_true, Bool.and_false, Bool.true_or, Bool.false_or, Bool.or_true, Bool.or_false, and_true, true_and, List.length_cons, List.length_nil, List.replicate_succ, List.replicate_zero, Nat.reduceSub]
      refine ⟨hJ, ⟨by omega, by omega⟩, fun r S' r0 r1 J => ?_⟩
      obtain ⟨x, e, hx⟩ := at_lt r0 r1
      exact ⟨x, e, hQ x hx S' J⟩
    | klst l =>
      obtain ⟨⟨l1, l2⟩, hQ⟩ := h
      try simp only [m_one, c_take, mSeq, mSet, mM, mCall, mCons, mNil, mVar, mVarW, mC, mIfS, mIf, mRet, mRetN, mExpr, mPass, mRaise, mUnp, mPar, mPar2F, mSetF, mFrz, mApp, mExt, mPop, mSetIx, mBin, mBinT, mUn, mPrim, mT, mAndT, mOrT, mNotT, mAndV, mOrV, mNotV, mIsi, mLst, mDisp, mTup, mCell, mSl, mNo, mSome, mIt, mRng1, mRng2, mFor, mComp, mYes, mThru, mHeard, mBrk, mCont, mCh, mChT, mCh3, mCat, fAdd, fSub, fMul, fDiv, fMod, fPow, fNeg, fLt, fLe, fGt, fGe, fIsN, fNotN, fEq, fNe, fIn, fNin, fIx, fSl, fLen, fInt, fMax2, fMin2, fAbs, fList, fTuple, svK, svKw, sget, sset, startR, retE, isB, ownK, lstK, intK, seqK, unpT, setK, svOk, bN, bT, sputs, isN_non, isN_bl, isN_int, isN_str, isN_tup, isN_lst, isN_klst, if_true, if_false, Bool.false_eq_true, reduceIte, Bool.not_true, Bool.not_false, decide_true, decide_false, Bool.true_and, Bool.false_and, Bool.and_true, Bool.and_false, Bool.true_or, Bool.false_or, Bool.or_true, Bool.or_false, and_true, true_and, List.length_cons, List.length_nil, List.replicate_succ, List.replicate_zero, Nat.reduceSub]
      refine ⟨hJ, ⟨by omega, by omega⟩, fun r S' r0 r1 J => ?_⟩
      obtain ⟨x, e, hx⟩ := at_lt r0 r1
      exact ⟨x, e, hQ x hx S' J⟩
    | tup l =>
      obtain ⟨⟨l1, l2⟩, hQ⟩ := h
      try simp only [m_one, c_take, mSeq, mSet, mM, mCall, mCons, mNil, mVar, mVarW, mC, mIfS, mIf, mRet, mRetN, mExpr, mPass, mRaise, mUnp, mPar, mPar2F, mSetF, mFrz, mApp, mExt, mPop, mSetIx, mBin, mBinT, mUn, mPrim, mT, mAndT, mOrT, mNotT, mAndV, mOrV, mNotV, mIsi, mLst, mDisp, mTup, mCell, mSl, mNo, mSome, mIt, mRng1, mRng2, mFor, mComp, mYes, mThru, mHeard, mBrk, mCont, mCh, mChT, mCh3, mCat, fAdd, fSub, fMul, fDiv, fMod, fPow, fNeg, fLt, fLe, fGt, fGe, fIsN, fNotN, fEq, fNe, fIn, fNin, fIx, fSl, fLen, fInt, fMax2, fMin2, fAbs, fList, fTuple, svK, svKw, sget, sset, startR, retE, isB, ownK, lstK, intK, seqK, unpT, setK, svOk, bN, bT, sputs, isN_non, isN_bl, isN_int, isN_str, isN_tup, isN_lst, isN_klst, if_true, if_false, Bool.false_eq_true, reduceIte, Bool.not_true, Bool.not_false, decide_true, decide_false, Bool.true_and, Bool.false_and, Bool.and_true, Bool.and_false, Bool.true_or, Bool.false_or, Bool.or_true, Bool.or_false, and_true, true_and, List.length_cons, List.length_nil, List.replicate_succ, List.replicate_zero, Nat.reduceSub]
      refine ⟨hJ, ⟨by omega, by omega⟩, fun r S' r0 r1 J => ?_⟩
      obtain ⟨x, e, hx⟩ := at_lt r0 r1
      exact ⟨x, e, hQ x hx S' J⟩
    | _ => exact h.elim
  · exact h.elim

/-- the jar out of a script -/
def m_pool : MS := (mSeq (mUnp [2, 3] (mM (mTup (mCons (mC (.int 0)) (mCons (mC (.int 7)) mNil)))))
  (mSeq (mFor (mRng1 (mPrim fLen (mCons (mVar 0) mNil))) (bN 1) (mSeq (mSet 4 (mM (mPrim fInt (mCons (mPrim fMax2 (mCons (mBin fIx (mVar 0) (mVar 1)) (mCons (mBin fSub (mUn fNeg (mC (.int 1))) (mBin fIx (mVar 0) (mVar 1))) mNil))) mNil))))
  (mSeq (mSet 3 (mM (mBin fMod (mPrim fInt (mCons (mBin fAdd (mBin fAdd (mBin fMul (mVar 3) (mC (.int 48271))) (mBin fMod (mVar 4) (mC (.int 2147483629)))) (mC (.int 11))) mNil)) (mC (.int 2147483647)))))
  (mSet 2 (mM (mIf (mAndT (mBinT fGe (mVar 4) (mBin fPow (mC (.int 10)) (mC (.int 12)))) (mBinT fLt (mVar 2) (mBin fPow (mC (.int 10)) (mC (.int 60))))) (mPrim fInt (mCons (mBin fAdd (mBin fMul (mVar 2) (mBin fPow (mC (.int 10)) (mC (.int 60)))) (mBin fMod (mVar 4) (mBin fPow (mC (.int 10)) (mC (.int 60))))) mNil)) (mVar 2)))))))
  (mRet (mM (mCell (mDisp (mCons (mVar 2) (mCons (mVar 3) (mCons (mC (.int 0)) mNil)))))))))
def c_pool : Con := fun ds S Q _ => match ds with
  | [.klst l] => (∃ ns : List Int, l = ns.map .int ∧ ns.length ≤ 63) ∧ ∀ a S', JS a S' → (∀ b, b ≠ a → S' b = S b) → Q (.ref a) S'
  | _ => False
theorem log2_lt60 {d : Int} (h0 : 0 ≤ d) (h : d < 10 ^ 60) : d.natAbs.log2 < 200 := by
  have : d.natAbs < 2 ^ 200 := by
    have : (10 : Int) ^ 60 < 2 ^ 200 := by decide
    omega
  by_cases hz : d.natAbs = 0
  · rw [hz]; decide
  · exact (Nat.log2_lt hz).mpr this
theorem h_pool (ds : List D) (S : Store) (Q : EK) (E : XKd) (hn : ds.length = 1) (h : c_pool ds S Q E) : m_pool (startR 5 ds) S (retE Q E) := by
  unfold c_pool at h
  split at h
  · rename_i l
    obtain ⟨⟨ns, rfl, hl⟩, hQ⟩ := h
    try simp only [m_pool, mSeq, mSet, mM, mCall, mCons, mNil, mVar, mVarW, mC, mIfS, mIf, mRet, mRetN, mExpr, mPass, mRaise, mUnp, mPar, mPar2F, mSetF, mFrz, mApp, mExt, mPop, mSetIx, mBin, mBinT, mUn, mPrim, mT, mAndT, mOrT, mNotT, mAndV, mOrV, mNotV, mIsi, mLst, mDisp, mTup, mCell, mSl, mNo, mSome, mIt, mRng1, mRng2, mFor, mComp, mYes, mThru, mHeard, mBrk, mCont, mCh, mChT, mCh3, mCat, fAdd, fSub, fMul, fDiv, fMod, fPow, fNeg, fLt, fLe, fGt, fGe, fIsN, fNotN, fEq, fNe, fIn, fNin, fIx, fSl, fLen, fInt, fMax2, fMin2, fAbs, fList, fTuple, svK, svKw, sget, sset, startR, retE, isB, ownK, lstK, intK, seqK, unpT, setK, svOk, bN, bT, sputs, isN_non, isN_bl, isN_int, isN_str, isN_tup, isN_lst, isN_klst, if_true, if_false, Bool.false_eq_true, reduceIte, Bool.not_true, Bool.not_false, decide_true, decide_false, Bool.true_and, Bool.false_and, Bool.and_true, Bool.and_false, Bool.true_or, Bool.false_or, Bool.or_true, Bool.or_false, and_true, true_and, List.length_cons, List.length_nil, List.replicate_succ, List.replicate_zero, Nat.reduceSub]
    refine ⟨by decide, ⟨by omega, by simp; omega⟩, ?_⟩
    refine forD_ix (fun i ρ S1 => S1 = S ∧ ∃ (s1 s4 : SV) (d s : Int), ρ = [.val (.klst (ns.map .int)), s1, .val (.int d), .val (.int s), s4] ∧ 0 ≤ d ∧ 0 ≤ s ∧ s < 2147483647) _ 0 (fun i x e ρ S1 hI G' nx ct bk rt ex => ?_) _ _ ⟨rfl, _, _, 0, 7, rfl, by decide, by decide, by decide⟩ (fun ρ S1 hI => ?_)
    · obtain ⟨rfl, s1, s4, d, s, rfl, d0, s0, s2⟩ := hI
      obtain ⟨hi, rfl⟩ := rangeD_get e
      try simp only [mSeq, mSet, mM, mCall, mCons, mNil, mVar, mVarW, mC, mIfS, mIf, mRet, mRetN, mExpr, mPass, mRaise, mUnp, mPar, mPar2F, mSetF, mFrz, mApp, mExt, mPop, mSetIx, mBin, mBinT, mUn, mPrim, mT, mAndT, mOrT, mNotT, mAndV, mOrV, mNotV, mIsi, mLst, mDisp, mTup, mCell, mSl, mNo, mSome, mIt, mRng1, mRng2, mFor, mComp, mYes, mThru, mHeard, mBrk, mCont, mCh, mChT, mCh3, mCat, fAdd, fSub, fMul, fDiv, fMod, fPow, fNeg, fLt, fLe, fGt, fGe, fIsN, fNotN, fEq, fNe, fIn, fNin, fIx, fSl, fLen, fInt, fMax2, fMin2, fAbs, fList, fTuple, svK, svKw, sget, sset, startR, retE, isB, ownK, lstK, intK, seqK, unpT, setK, svOk, bN, bT, sputs, isN_non, isN_bl, isN_int, isN_str, isN_tup, isN_lst, isN_klst, if_true, if_false, Bool.false_eq_true, reduceIte, Bool.not_true, Bool.not_false, decide_true, decide_false, Bool.true_and, Bool.false_and, Bool.and_true, Bool.and_false, Bool.true_or, Bool.false_or, Bool.or_true, Bool.or_false, and_true, true_and, List.length_cons, List.length_nil, List.replicate_succ, List.replicate_zero, Nat.reduceSub]
      have hi2 : i < ns.length := by simpa using hi
      have ea : atI (ns.map D.int) (0 + (i : Int)) = some (.int ns[i]) := by
        rw [Int.zero_add]
        unfold atI ixN
        rw [if_pos (by omega), if_pos (by simp; omega)]
        simp [hi2]
      refine ⟨_, ea, _, ea, ?_⟩
      try simp only [mSeq, mSet, mM, mCall, mCons, mNil, mVar, mVarW, mC, mIfS, mIf, mRet, mRetN, mExpr, mPass, mRaise, mUnp, mPar, mPar2F, mSetF, mFrz, mApp, mExt, mPop, mSetIx, mBin, mBinT, mUn, mPrim, mT, mAndT, mOrT, mNotT, mAndV, mOrV, mNotV, mIsi, mLst, mDisp, mTup, mCell, mSl, mNo, mSome, mIt, mRng1, mRng2, mFor, mComp, mYes, mThru, mHeard, mBrk, mCont, mCh, mChT, mCh3, mCat, fAdd, fSub, fMul, fDiv, fMod, fPow, fNeg, fLt, fLe, fGt, fGe, fIsN, fNotN, fEq, fNe, fIn, fNin, fIx, fSl, fLen, fInt, fMax2, fMin2, fAbs, fList, fTuple, svK, svKw, sget, sset, startR, retE, isB, ownK, lstK, intK, seqK, unpT, setK, svOk, bN, bT, sputs, isN_non, isN_bl, isN_int, isN_str, isN_tup, isN_lst, isN_klst, if_true, if_false, Bool.false_eq_true, reduceIte, Bool.not_true, Bool.not_false, decide_true, decide_false, Bool.true_and, Bool.false_and, Bool.and_true, Bool.and_false, Bool.true_or, Bool.false_or, Bool.or_true, Bool.or_false, and_true, true_and, List.length_cons, List.length_nil, List.replicate_succ, List.replicate_zero, Nat.reduceSub]
      refine ⟨.inl (.inr ⟨by decide, by decide⟩), by decide, by decide, ?_⟩
      refine ⟨by unfold CPow; decide, ?_⟩
      have nxx : ∀ (d' : Int), 0 ≤ d' → G'.nx [.val (.klst (ns.map .int)), .val (.int (0 + (i : Int))), .val (.int d'), .val (.int ((s * 48271 + (if -1 - ns[i] > ns[i] then -1 - ns[i] else ns[i]) % 2147483629 + 11) % 2147483647)), .val (.int (if -1 - ns[i] > ns[i] then -1 - ns[i] else ns[i]))] S1 := fun d' h0 =>
        nx _ _ ⟨rfl, _, _, d', _, rfl, h0, Int.emod_nonneg _ (by decide), Int.emod_lt_of_pos _ (by decide)⟩
      generalize (if -1 - ns[i] > ns[i] then -1 - ns[i] else ns[i]) = cell at nxx ⊢
      by_cases hc : (10 : Int) ^ (12 : Int).toNat ≤ cell
      · simp only [hc, mSeq, mSet, mM, mCall, mCons, mNil, mVar, mVarW, mC, mIfS, mIf, mRet, mRetN, mExpr, mPass, mRaise, mUnp, mPar, mPar2F, mSetF, mFrz, mApp, mExt, mPop, mSetIx, mBin, mBinT, mUn, mPrim, mT, mAndT, mOrT, mNotT, mAndV, mOrV, mNotV, mIsi, mLst, mDisp, mTup, mCell, mSl, mNo, mSome, mIt, mRng1, mRng2, mFor, mComp, mYes, mThru, mHeard, mBrk, mCont, mCh, mChT, mCh3, mCat, fAdd, fSub, fMul, fDiv, fMod, fPow, fNeg, fLt, fLe, fGt, fGe, fIsN, fNotN, fEq, fNe, fIn, fNin, fIx, fSl, fLen, fInt, fMax2, fMin2, fAbs, fList, fTuple, svK, svKw, sget, sset, startR, retE, isB, ownK, lstK, intK, seqK, unpT, setK, svOk, bN, bT, sputs, isN_non, isN_bl, isN_int, isN_str, isN_tup, isN_lst, isN_klst, if_true, if_false, Bool.false_eq_true, reduceIte, Bool.not_true, Bool.not_false, decide_true, decide_false, Bool.true_and, Bool.false_and, Bool.and_true, Bool.and_false, Bool.true_or, Bool.false_or, Bool.or_true, Bool.or_false, and_true, true_and, List.length_cons, List.length_nil, List.replicate_succ, List.replicate_zero, Nat.reduceSub]
        refine ⟨by unfold CPow; decide, ?_⟩
        by_cases hd : d < (10 : Int) ^ (60 : Int).toNat
        · simp only [hd, mSeq, mSet, mM, mCall, mCons, mNil, mVar, mVarW, mC, mIfS, mIf, mRet, mRetN, mExpr, mPass, mRaise, mUnp, mPar, mPar2F, mSetF, mFrz, mApp, mExt, mPop, mSetIx, mBin, mBinT, mUn, mPrim, mT, mAndT, mOrT, mNotT, mAndV, mOrV, mNotV, mIsi, mLst, mDisp, mTup, mCell, mSl, mNo, mSome, mIt, mRng1, mRng2, mFor, mComp, mYes, mThru, mHeard, mBrk, mCont, mCh, mChT, mCh3, mCat, fAdd, fSub, fMul, fDiv, fMod, fPow, fNeg, fLt, fLe, fGt, fGe, fIsN, fNotN, fEq, fNe, fIn, fNin, fIx, fSl, fLen, fInt, fMax2, fMin2, fAbs, fList, fTuple, svK, svKw, sget, sset, startR, retE, isB, ownK, lstK, intK, seqK, unpT, setK, svOk, bN, bT, sputs, isN_non, isN_bl, isN_int, isN_str, isN_tup, isN_lst, isN_klst, if_true, if_false, Bool.false_eq_true, reduceIte, Bool.not_true, Bool.not_false, decide_true, decide_false, Bool.true_and, Bool.false_and, Bool.and_true, Bool.and_false, Bool.true_or, Bool.false_or, Bool.or_true, Bool.or_false, and_true, true_and, List.length_cons, List.length_nil, List.replicate_succ, List.replicate_zero, Nat.reduceSub]
          have hd' : d < 10 ^ 60 := hd
          refine ⟨by unfold CPow; decide, .inr ?_, by unfold CPow; decide, ?_⟩
          · have a1 := log2_lt60 d0 hd'
            have a2 : ((10 : Int) ^ (60 : Int).toNat).natAbs.log2 < 200 := by decide +kernel
            unfold CMulW
            omega
          · refine ⟨by decide, nxx _ ?_⟩
            have p1 : (0 : Int) < 10 ^ (60 : Int).toNat := by decide
            have p2 := Int.emod_nonneg cell (Int.ne_of_gt p1)
            have p3 := Int.mul_nonneg d0 (Int.le_of_lt p1)
            omega
        · simp only [hd, mSeq, mSet, mM, mCall, mCons, mNil, mVar, mVarW, mC, mIfS, mIf, mRet, mRetN, mExpr, mPass, mRaise, mUnp, mPar, mPar2F, mSetF, mFrz, mApp, mExt, mPop, mSetIx, mBin, mBinT, mUn, mPrim, mT, mAndT, mOrT, mNotT, mAndV, mOrV, mNotV, mIsi, mLst, mDisp, mTup, mCell, mSl, mNo, mSome, mIt, mRng1, mRng2, mFor, mComp, mYes, mThru, mHeard, mBrk, mCont, mCh, mChT, mCh3, mCat, fAdd, fSub, fMul, fDiv, fMod, fPow, fNeg, fLt, fLe, fGt, fGe, fIsN, fNotN, fEq, fNe, fIn, fNin, fIx, fSl, fLen, fInt, fMax2, fMin2, fAbs, fList, fTuple, svK, svKw, sget, sset, startR, retE, isB, ownK, lstK, intK, seqK, unpT, setK, svOk, bN, bT, sputs, isN_non, isN_bl, isN_int, isN_str, isN_tup, isN_lst, isN_klst, if_true, if_false, Bool.false_eq_true, reduceIte, Bool.not_true, Bool.not_false, decide_true, decide_false, Bool.true_and, Bool.false_and, Bool.and_true, Bool.and_false, Bool.true_or, Bool.false_or, Bool.or_true, Bool.or_false, and_true, true_and, List.length_cons, List.length_nil, List.replicate_succ, List.replicate_zero, Nat.reduceSub]
          exact nxx d d0
      · simp only [hc, mSeq, mSet, mM, mCall, mCons, mNil, mVar, mVarW, mC, mIfS, mIf, mRet, mRetN, mExpr, mPass, mRaise, mUnp, mPar, mPar2F, mSetF, mFrz, mApp, mExt, mPop, mSetIx, mBin, mBinT, mUn, mPrim, mT, mAndT, mOrT, mNotT, mAndV, mOrV, mNotV, mIsi, mLst, mDisp, mTup, mCell, mSl, mNo, mSome, mIt, mRng1, mRng2, mFor, mComp, mYes, mThru, mHeard, mBrk, mCont, mCh, mChT, mCh3, mCat, fAdd, fSub, fMul, fDiv, fMod, fPow, fNeg, fLt, fLe, fGt, fGe, fIsN, fNotN, fEq, fNe, fIn, fNin, fIx, fSl, fLen, fInt, fMax2, fMin2, fAbs, fList, fTuple, svK, svKw, sget, sset, startR, retE, isB, ownK, lstK, intK, seqK, unpT, setK, svOk, bN, bT, sputs, isN_non, isN_bl, isN_int, isN_str, isN_tup, isN_lst, isN_klst, if_true, if_false, Bool.false_eq_true, reduceIte, Bool.not_true, Bool.not_false, decide_true, decide_false, Bool.true_and, Bool.false_and, Bool.and_true, Bool.and_false, Bool.true_or, Bool.false_or, Bool.or_true, Bool.or_false, and_true, true_and, List.length_cons, List.length_nil, List.replicate_succ, List.replicate_zero, Nat.reduceSub]
        exact nxx d d0
    · obtain ⟨rfl, s1, s4, d, s, rfl, d0, s0, s2⟩ := hI
      try simp only [mSeq, mSet, mM, mCall, mCons, mNil, mVar, mVarW, mC, mIfS, mIf, mRet, mRetN, mExpr, mPass, mRaise, mUnp, mPar, mPar2F, mSetF, mFrz, mApp, mExt, mPop, mSetIx, mBin, mBinT, mUn, mPrim, mT, mAndT, mOrT, mNotT, mAndV, mOrV, mNotV, mIsi, mLst, mDisp, mTup, mCell, mSl, mNo, mSome, mIt, mRng1, mRng2, mFor, mComp, mYes, mThru, mHeard, mBrk, mCont, mCh, mChT, mCh3, mCat, fAdd, fSub, fMul, fDiv, fMod, fPow, fNeg, fLt, fLe, fGt, fGe, fIsN, fNotN, fEq, fNe, fIn, fNin, fIx, fSl, fLen, fInt, fMax2, fMin2, fAbs, fList, fTuple, svK, svKw, sget, sset, startR, retE, isB, ownK, lstK, intK, seqK, unpT, setK, svOk, bN, bT, sputs, isN_non, isN_bl, isN_int, isN_str, isN_tup, isN_lst, isN_klst, if_true, if_false, Bool.false_eq_true, reduceIte, Bool.not_true, Bool.not_false, decide_true, decide_false, Bool.true_and, Bool.false_and, Bool.and_true, Bool.and_false, Bool.true_or, Bool.false_or, Bool.or_true, Bool.or_false, and_true, true_and, List.length_cons, List.length_nil, List.replicate_succ, List.replicate_zero, Nat.reduceSub]
      refine ⟨by decide, fun a ha => ?_⟩
      exact hQ a _ ⟨_, Store.upd_same, d, s, 0, rfl, s0, s2⟩ fun b hb => Store.upd_ne hb
  · exact h.elim
end TL

set_option Elab.async false
set_option linter.all false
set_option maxRecDepth 100000
set_option maxHeartbeats 4000000
/-! T22: alike, by a worklist. -/
namespace TL
open PySem PySem.Spec PyProof.Rows L2

theorem eqD_int {i j : Int} : eqD (.int i) (.int j) = decide (i = j) := by
  unfold eqD
  simp only [D.py, PyData.eqv]
  by_cases h : i = j
  · subst h; simp
  · simp [h]
theorem eqD_bl {i j : Bool} : eqD (.bl i) (.bl j) = (i == j) := by
  unfold eqD
  simp only [D.py, PyData.eqv]
theorem eqD_str {i j : Str} : eqD (.str i) (.str j) = (i == j) := by
  unfold eqD
  simp only [D.py, PyData.eqv]
theorem str_beq (s : Str) : (s == s) = true := by simp
theorem eqD_nil : eqD (.lst []) (.lst []) = true := by
  unfold eqD
  simp only [D.py, D.pys, PyData.eqv, PyData.eqvAll]
theorem eqD_nil_cons {d : D} {l : List D} : eqD (.lst (d :: l)) (.lst []) = false := by
  unfold eqD
  simp only [D.py, D.pys, PyData.eqv, PyData.eqvAll]
theorem eqD_snoc {l : List D} (h : l ≠ []) : eqD (.lst l) (.lst []) = false := by
  cases l with
  | nil => exact absurd rfl h
  | cons d l => exact eqD_nil_cons
mutual
/-- nodes -/
def D.sz : D → Nat
  | .tup l => 1 + D.szs l
  | .lst l => 1 + D.szs l
  | .klst l => 1 + D.szs l
  | _ => 1
def D.szs : List D → Nat
  | [] => 0
  | d :: l => d.sz + D.szs l
end
theorem D.sz_pos (d : D) : 1 ≤ d.sz := by cases d <;> simp [D.sz]
theorem D.szs_app : ∀ (l m : List D), D.szs (l ++ m) = D.szs l + D.szs m
  | [], m => by simp [D.szs]
  | d :: l, m => by simp only [List.cons_append, D.szs, D.szs_app l m]; omega
theorem D.len_szs : ∀ (l : List D), l.length ≤ D.szs l
  | [] => by simp [D.szs]
  | d :: l => by have := D.len_szs l; have := d.sz_pos; simp only [List.length_cons, D.szs]; omega
theorem D.okEs_all : ∀ {l : List D} {n : Nat}, D.okEs l n = true ↔ ∀ d ∈ l, d.okE n = true
  | [], n => by simp [D.okEs]
  | d :: l, n => by
    simp only [D.okEs, Bool.and_eq_true, List.mem_cons, forall_eq_or_imp]
    rw [D.okEs_all]
mutual
theorem D.okE_mono : ∀ (d : D) {n m : Nat}, n ≤ m → d.okE n = true → d.okE m = true
  | .non, _, _, _, _ => by simp [D.okE]
  | .bl _, _, _, _, _ => by simp [D.okE]
  | .int _, _, _, _, _ => by simp [D.okE]
  | .str s, _, _, _, h => by simpa [D.okE] using h
  | .tup l, n, m, h, q => by
    simp only [D.okE, Bool.and_eq_true, decide_eq_true_eq] at *
    exact ⟨by omega, D.okEs_mono l (by omega) q.2⟩
  | .lst l, n, m, h, q => by
    simp only [D.okE, Bool.and_eq_true, decide_eq_true_eq] at *
    exact ⟨by omega, D.okEs_mono l (by omega) q.2⟩
  | .klst l, n, m, h, q => by
    simp only [D.okE, Bool.and_eq_true, decide_eq_true_eq] at *
    exact ⟨by omega, D.okEs_mono l (by omega) q.2⟩
  | .ref _, _, _, _, h => by simp [D.okE] at h
theorem D.okEs_mono : ∀ (d : List D) {n m : Nat}, n ≤ m → D.okEs d n = true → D.okEs d m = true
  | [], _, _, _, _ => by simp [D.okEs]
  | d :: l, n, m, h, q => by
    simp only [D.okEs, Bool.and_eq_true] at *
    exact ⟨d.okE_mono h q.1, D.okEs_mono l h q.2⟩
end
theorem D.okE_noref {d : D} {n : Nat} (h : d.okE n = true) : ∀ a, d ≠ .ref a := fun a e => by
  subst e; simp [D.okE] at h
theorem D.okE_lst {l : List D} {n : Nat} (h : ∀ d ∈ l, d.okE n = true) : (D.lst l).okE (n + 1) = true := by
  simp only [D.okE, Bool.and_eq_true, decide_eq_true_eq]
  exact ⟨by omega, D.okEs_all.mpr h⟩
theorem D.okE_tup {l : List D} {n : Nat} (h : ∀ d ∈ l, d.okE n = true) : (D.tup l).okE (n + 1) = true := by
  simp only [D.okE, Bool.and_eq_true, decide_eq_true_eq]
  exact ⟨by omega, D.okEs_all.mpr h⟩

def m_same (c_law_aq_is_whole : Con) : MS := (mSeq (mSetF 2 (mDisp (mCons (mTup (mCons (mVar 0) (mCons (mVar 1) mNil))) mNil)))
  (mSeq (mWhile (mBinT fNe (mVarW 2) (mLst (mDisp mNil))) (mSeq (mUnp [3, 4] (mPop 2))
  (mSeq (mIfS (mBinT fIsN (mVar 4) (mC .non)) (mSet 5 (mM (mBin fIsN (mVar 3) (mC .non)))) (mIfS (mT (mIsi "bool" (mVar 4))) (mSet 5 (mM (mAndV (mIsi "bool" (mVar 3)) (mBin fEq (mVar 3) (mVar 4))))) (mIfS (mT (mIsi "int" (mVar 4))) (mSet 5 (mM (mAndV (mCall 1 c_law_aq_is_whole (mCons (mVar 3) mNil)) (mBin fEq (mVar 3) (mVar 4))))) (mIfS (mT (mIsi "str" (mVar 4))) (mSet 5 (mM (mAndV (mIsi "str" (mVar 3)) (mBin fEq (mVar 3) (mVar 4))))) (mSeq (mSet 5 (mM (mIf (mT (mIsi "tuple" (mVar 4))) (mIsi "tuple" (mVar 3)) (mIsi "list" (mVar 3)))))
  (mSeq (mSet 5 (mM (mAndV (mVar 5) (mBin fEq (mPrim fLen (mCons (mVar 3) mNil)) (mPrim fLen (mCons (mVar 4) mNil))))))
  (mExt 2 (mIf (mT (mVar 5)) (mLst (mComp [6] (mRng1 (mPrim fLen (mCons (mVar 4) mNil))) (bN 6) mYes (mTup (mCons (mBin fIx (mVar 3) (mVar 6)) (mCons (mBin fIx (mVar 4) (mVar 6)) mNil))))) (mLst (mDisp mNil))))))))))
  (mIfS (mNotT (mT (mVar 5))) (mRet (mM (mC (.bl false)))) mPass))))
  (mRet (mM (mC (.bl true))))))
abbrev sameB : MS := (mSeq (mUnp [3, 4] (mPop 2))
  (mSeq (mIfS (mBinT fIsN (mVar 4) (mC .non)) (mSet 5 (mM (mBin fIsN (mVar 3) (mC .non)))) (mIfS (mT (mIsi "bool" (mVar 4))) (mSet 5 (mM (mAndV (mIsi "bool" (mVar 3)) (mBin fEq (mVar 3) (mVar 4))))) (mIfS (mT (mIsi "int" (mVar 4))) (mSet 5 (mM (mAndV (mCall 1 c_whole (mCons (mVar 3) mNil)) (mBin fEq (mVar 3) (mVar 4))))) (mIfS (mT (mIsi "str" (mVar 4))) (mSet 5 (mM (mAndV (mIsi "str" (mVar 3)) (mBin fEq (mVar 3) (mVar 4))))) (mSeq (mSet 5 (mM (mIf (mT (mIsi "tuple" (mVar 4))) (mIsi "tuple" (mVar 3)) (mIsi "list" (mVar 3)))))
  (mSeq (mSet 5 (mM (mAndV (mVar 5) (mBin fEq (mPrim fLen (mCons (mVar 3) mNil)) (mPrim fLen (mCons (mVar 4) mNil))))))
  (mExt 2 (mIf (mT (mVar 5)) (mLst (mComp [6] (mRng1 (mPrim fLen (mCons (mVar 4) mNil))) (bN 6) mYes (mTup (mCons (mBin fIx (mVar 3) (mVar 6)) (mCons (mBin fIx (mVar 4) (mVar 6)) mNil))))) (mLst (mDisp mNil))))))))))
  (mIfS (mNotT (mT (mVar 5))) (mRet (mM (mC (.bl false)))) mPass)))
/-- two rows alike, not too great -/
def c_same : Con := fun ds S Q _ => match ds with
  | [x, y] => (x = y ∧ x.okE 50 = true ∧ x.sz ≤ lim) ∧ Q (.bl true) S
  | _ => False
abbrev dup (x : D) : D := .tup [x, x]
theorem rng_map {l : List D} : (rangeD 0 l.length).map (fun d => match d with
    | .int i => dup (l.getD i.toNat .non)
    | _ => .non) = l.map dup := by
  unfold rangeD
  apply List.ext_getElem
  · simp
  · intro n h1 h2
    simp at h1 h2
    simp [h1]
theorem same_kids {l : List D} {me : ME} {ρ : Ro} {S : Store} {Q : AK} (hl : l.length ≤ lim) (h : ∀ i : Nat, i < l.length → ∀ q : EK, q (dup (l.getD i .non)) S → me (sset ρ 6 (.val (.int (0 + (i : Int))))) S q noX) (hq : Q (l.map dup) S) : lcD (bN 6) mYes me (rangeD 0 l.length) ρ S Q noX := by
  refine lc_pure (fun d => match d with
    | .int i => dup (l.getD i.toNat .non)
    | _ => .non) _ (fun d hd q hq => ?_) (by rw [rng_map]; exact hq)
  obtain ⟨i, hi, e⟩ := List.mem_iff_getElem?.mp hd |>.elim fun i e => (⟨i, (rangeD_get e).1, (rangeD_get e).2⟩ : ∃ i : Nat, i < l.length ∧ d = .int (0 + (i : Int)))
  subst e
  refine h i hi q ?_
  simpa using hq
theorem dup_ok {xs : List D} (h : ∀ x ∈ xs, x.okE 50 = true) : (D.lst (xs.map dup)).okE 60 = true := by
  refine D.okE_mono _ (show 52 ≤ 60 by decide) (D.okE_lst fun d hd => ?_)
  obtain ⟨x, hx, rfl⟩ := List.mem_map.mp hd
  exact D.okE_tup fun d hd => by
    simp at hd
    subst hd
    exact h _ hx
theorem at_nat {l : List D} {i : Nat} (h : i < l.length) : atI l (0 + (i : Int)) = some (l.getD i .non) := by
  rw [Int.zero_add]
  unfold atI ixN
  rw [if_pos (by omega), if_pos (by omega)]
  simp [h]
theorem same_step {xs : List D} {x : D} {a b : SV} {S : Store} {G : EndsD} (hx : x.okE 50 = true) (hs : D.szs xs + x.sz ≤ lim) (s3 s4 s5 s6 : SV)
    (kids : List D) (hk : (∀ l, (x = .tup l ∨ x = .lst l ∨ x = .klst l) → kids = l) ∧ ((∀ l, ¬ (x = .tup l ∨ x = .lst l ∨ x = .klst l)) → kids = []))
    (nx : ∀ s3 s4 s5 s6, G.nx [a, b, .own ((xs ++ kids).map dup), s3, s4, s5, s6] S) : sameB [a, b, .own ((xs ++ [x]).map dup), s3, s4, s5, s6] S G := by
  have ok60 : x.okE 60 = true := x.okE_mono (by decide) hx
  have nr := D.okE_noref hx
  try simp only [mSeq, mSet, mM, mCall, mCons, mNil, mVar, mVarW, mC, mIfS, mIf, mRet, mRetN, mExpr, mPass, mRaise, mUnp, mPar, mPar2F, mSetF, mFrz, mApp, mExt, mPop, mSetIx, mBin, mBinT, mUn, mPrim, mT, mAndT, mOrT, mNotT, mAndV, mOrV, mNotV, mIsi, mLst, mDisp, mTup, mCell, mSl, mNo, mSome, mIt, mRng1, mRng2, mFor, mComp, mYes, mThru, mHeard, mBrk, mCont, mCh, mChT, mCh3, mCat, fAdd, fSub, fMul, fDiv, fMod, fPow, fNeg, fLt, fLe, fGt, fGe, fIsN, fNotN, fEq, fNe, fIn, fNin, fIx, fSl, fLen, fInt, fMax2, fMin2, fAbs, fList, fTuple, svK, svKw, sget, sset, startR, retE, isB, ownK, lstK, intK, seqK, unpT, setK, svOk, bN, bT, sputs, isN_non, isN_bl, isN_int, isN_str, isN_tup, isN_lst, isN_klst, if_true, if_false, Bool.false_eq_true, reduceIte, Bool.not_true, Bool.not_false, decide_true, decide_false, Bool.true_and, Bool.false_and, Bool.and_true, Bool.and_false, Bool.true_or, Bool.false_or, Bool.or_true, Bool.or_false, and_true, true_and, List.length_cons, List.length_nil, List.replicate_succ, List.replicate_zero, Nat.reduceSub]
  refine ⟨dup x, by simp, rfl, ?_⟩
  have e1 : ((xs ++ [x]).map dup).dropLast = xs.map dup := by simp
  simp only [mSeq, mSet, mM, mCall, mCons, mNil, mVar, mVarW, mC, mIfS, mIf, mRet, mRetN, mExpr, mPass, mRaise, mUnp, mPar, mPar2F, mSetF, mFrz, mApp, mExt, mPop, mSetIx, mBin, mBinT, mUn, mPrim, mT, mAndT, mOrT, mNotT, mAndV, mOrV, mNotV, mIsi, mLst, mDisp, mTup, mCell, mSl, mNo, mSome, mIt, mRng1, mRng2, mFor, mComp, mYes, mThru, mHeard, mBrk, mCont, mCh, mChT, mCh3, mCat, fAdd, fSub, fMul, fDiv, fMod, fPow, fNeg, fLt, fLe, fGt, fGe, fIsN, fNotN, fEq, fNe, fIn, fNin, fIx, fSl, fLen, fInt, fMax2, fMin2, fAbs, fList, fTuple, svK, svKw, sget, sset, startR, retE, isB, ownK, lstK, intK, seqK, unpT, setK, svOk, bN, bT, sputs, isN_non, isN_bl, isN_int, isN_str, isN_tup, isN_lst, isN_klst, if_true, if_false, Bool.false_eq_true, reduceIte, Bool.not_true, Bool.not_false, decide_true, decide_false, Bool.true_and, Bool.false_and, Bool.and_true, Bool.and_false, Bool.true_or, Bool.false_or, Bool.or_true, Bool.or_false, and_true, true_and, List.length_cons, List.length_nil, List.replicate_succ, List.replicate_zero, Nat.reduceSub, e1]
  cases x with
  | non =>
    have := hk.2 (by intro l; simp)
    subst this
    try simp only [mSeq, mSet, mM, mCall, mCons, mNil, mVar, mVarW, mC, mIfS, mIf, mRet, mRetN, mExpr, mPass, mRaise, mUnp, mPar, mPar2F, mSetF, mFrz, mApp, mExt, mPop, mSetIx, mBin, mBinT, mUn, mPrim, mT, mAndT, mOrT, mNotT, mAndV, mOrV, mNotV, mIsi, mLst, mDisp, mTup, mCell, mSl, mNo, mSome, mIt, mRng1, mRng2, mFor, mComp, mYes, mThru, mHeard, mBrk, mCont, mCh, mChT, mCh3, mCat, fAdd, fSub, fMul, fDiv, fMod, fPow, fNeg, fLt, fLe, fGt, fGe, fIsN, fNotN, fEq, fNe, fIn, fNin, fIx, fSl, fLen, fInt, fMax2, fMin2, fAbs, fList, fTuple, svK, svKw, sget, sset, startR, retE, isB, ownK, lstK, intK, seqK, unpT, setK, svOk, bN, bT, sputs, isN_non, isN_bl, isN_int, isN_str, isN_tup, isN_lst, isN_klst, if_true, if_false, Bool.false_eq_true, reduceIte, Bool.not_true, Bool.not_false, decide_true, decide_false, Bool.true_and, Bool.false_and, Bool.and_true, Bool.and_false, Bool.true_or, Bool.false_or, Bool.or_true, Bool.or_false, and_true, true_and, List.length_cons, List.length_nil, List.replicate_succ, List.replicate_zero, Nat.reduceSub]
    simpa using nx _ _ _ _
  | bl k =>
    have := hk.2 (by intro l; simp)
    subst this
    simp only [mSeq, mSet, mM, mCall, mCons, mNil, mVar, mVarW, mC, mIfS, mIf, mRet, mRetN, mExpr, mPass, mRaise, mUnp, mPar, mPar2F, mSetF, mFrz, mApp, mExt, mPop, mSetIx, mBin, mBinT, mUn, mPrim, mT, mAndT, mOrT, mNotT, mAndV, mOrV, mNotV, mIsi, mLst, mDisp, mTup, mCell, mSl, mNo, mSome, mIt, mRng1, mRng2, mFor, mComp, mYes, mThru, mHeard, mBrk, mCont, mCh, mChT, mCh3, mCat, fAdd, fSub, fMul, fDiv, fMod, fPow, fNeg, fLt, fLe, fGt, fGe, fIsN, fNotN, fEq, fNe, fIn, fNin, fIx, fSl, fLen, fInt, fMax2, fMin2, fAbs, fList, fTuple, svK, svKw, sget, sset, startR, retE, isB, ownK, lstK, intK, seqK, unpT, setK, svOk, bN, bT, sputs, isN_non, isN_bl, isN_int, isN_str, isN_tup, isN_lst, isN_klst, if_true, if_false, Bool.false_eq_true, reduceIte, Bool.not_true, Bool.not_false, decide_true, decide_false, Bool.true_and, Bool.false_and, Bool.and_true, Bool.and_false, Bool.true_or, Bool.false_or, Bool.or_true, Bool.or_false, and_true, true_and, List.length_cons, List.length_nil, List.replicate_succ, List.replicate_zero, Nat.reduceSub, D.isA, eqD_bl]
    refine ⟨nofun, ?_⟩
    simp only [mSeq, mSet, mM, mCall, mCons, mNil, mVar, mVarW, mC, mIfS, mIf, mRet, mRetN, mExpr, mPass, mRaise, mUnp, mPar, mPar2F, mSetF, mFrz, mApp, mExt, mPop, mSetIx, mBin, mBinT, mUn, mPrim, mT, mAndT, mOrT, mNotT, mAndV, mOrV, mNotV, mIsi, mLst, mDisp, mTup, mCell, mSl, mNo, mSome, mIt, mRng1, mRng2, mFor, mComp, mYes, mThru, mHeard, mBrk, mCont, mCh, mChT, mCh3, mCat, fAdd, fSub, fMul, fDiv, fMod, fPow, fNeg, fLt, fLe, fGt, fGe, fIsN, fNotN, fEq, fNe, fIn, fNin, fIx, fSl, fLen, fInt, fMax2, fMin2, fAbs, fList, fTuple, svK, svKw, sget, sset, startR, retE, isB, ownK, lstK, intK, seqK, unpT, setK, svOk, bN, bT, sputs, isN_non, isN_bl, isN_int, isN_str, isN_tup, isN_lst, isN_klst, if_true, if_false, Bool.false_eq_true, reduceIte, Bool.not_true, Bool.not_false, decide_true, decide_false, Bool.true_and, Bool.false_and, Bool.and_true, Bool.and_false, Bool.true_or, Bool.false_or, Bool.or_true, Bool.or_false, and_true, true_and, List.length_cons, List.length_nil, List.replicate_succ, List.replicate_zero, Nat.reduceSub, beq_self_eq_true]
    refine ⟨nofun, ⟨ok60, ok60⟩, ?_⟩
    simpa using nx _ _ _ _
  | int i =>
    have := hk.2 (by intro l; simp)
    subst this
    have b1 : (("int" : String) == "bool") = false := by decide
    simp only [mSeq, mSet, mM, mCall, mCons, mNil, mVar, mVarW, mC, mIfS, mIf, mRet, mRetN, mExpr, mPass, mRaise, mUnp, mPar, mPar2F, mSetF, mFrz, mApp, mExt, mPop, mSetIx, mBin, mBinT, mUn, mPrim, mT, mAndT, mOrT, mNotT, mAndV, mOrV, mNotV, mIsi, mLst, mDisp, mTup, mCell, mSl, mNo, mSome, mIt, mRng1, mRng2, mFor, mComp, mYes, mThru, mHeard, mBrk, mCont, mCh, mChT, mCh3, mCat, fAdd, fSub, fMul, fDiv, fMod, fPow, fNeg, fLt, fLe, fGt, fGe, fIsN, fNotN, fEq, fNe, fIn, fNin, fIx, fSl, fLen, fInt, fMax2, fMin2, fAbs, fList, fTuple, svK, svKw, sget, sset, startR, retE, isB, ownK, lstK, intK, seqK, unpT, setK, svOk, bN, bT, sputs, isN_non, isN_bl, isN_int, isN_str, isN_tup, isN_lst, isN_klst, if_true, if_false, Bool.false_eq_true, reduceIte, Bool.not_true, Bool.not_false, decide_true, decide_false, Bool.true_and, Bool.false_and, Bool.and_true, Bool.and_false, Bool.true_or, Bool.false_or, Bool.or_true, Bool.or_false, and_true, true_and, List.length_cons, List.length_nil, List.replicate_succ, List.replicate_zero, Nat.reduceSub, D.isA, eqD_int, c_whole, D.wh, b1, beq_self_eq_true]
    refine ⟨nofun, ?_⟩
    have b2 : (("bool" : String) == "int") = false := by decide
    try simp only [mSeq, mSet, mM, mCall, mCons, mNil, mVar, mVarW, mC, mIfS, mIf, mRet, mRetN, mExpr, mPass, mRaise, mUnp, mPar, mPar2F, mSetF, mFrz, mApp, mExt, mPop, mSetIx, mBin, mBinT, mUn, mPrim, mT, mAndT, mOrT, mNotT, mAndV, mOrV, mNotV, mIsi, mLst, mDisp, mTup, mCell, mSl, mNo, mSome, mIt, mRng1, mRng2, mFor, mComp, mYes, mThru, mHeard, mBrk, mCont, mCh, mChT, mCh3, mCat, fAdd, fSub, fMul, fDiv, fMod, fPow, fNeg, fLt, fLe, fGt, fGe, fIsN, fNotN, fEq, fNe, fIn, fNin, fIx, fSl, fLen, fInt, fMax2, fMin2, fAbs, fList, fTuple, svK, svKw, sget, sset, startR, retE, isB, ownK, lstK, intK, seqK, unpT, setK, svOk, bN, bT, sputs, isN_non, isN_bl, isN_int, isN_str, isN_tup, isN_lst, isN_klst, if_true, if_false, Bool.false_eq_true, reduceIte, Bool.not_true, Bool.not_false, decide_true, decide_false, Bool.true_and, Bool.false_and, Bool.and_true, Bool.and_false, Bool.true_or, Bool.false_or, Bool.or_true, Bool.or_false, and_true, true_and, List.length_cons, List.length_nil, List.replicate_succ, List.replicate_zero, Nat.reduceSub, b2]
    refine ⟨nofun, nofun, ⟨ok60, ok60⟩, ?_⟩
    simpa using nx _ _ _ _
  | str s =>
    have := hk.2 (by intro l; simp)
    subst this
    have b1 : (("bool" : String) == "str") = false := by decide
    have b2 : (("int" : String) == "str") = false := by decide
    simp only [mSeq, mSet, mM, mCall, mCons, mNil, mVar, mVarW, mC, mIfS, mIf, mRet, mRetN, mExpr, mPass, mRaise, mUnp, mPar, mPar2F, mSetF, mFrz, mApp, mExt, mPop, mSetIx, mBin, mBinT, mUn, mPrim, mT, mAndT, mOrT, mNotT, mAndV, mOrV, mNotV, mIsi, mLst, mDisp, mTup, mCell, mSl, mNo, mSome, mIt, mRng1, mRng2, mFor, mComp, mYes, mThru, mHeard, mBrk, mCont, mCh, mChT, mCh3, mCat, fAdd, fSub, fMul, fDiv, fMod, fPow, fNeg, fLt, fLe, fGt, fGe, fIsN, fNotN, fEq, fNe, fIn, fNin, fIx, fSl, fLen, fInt, fMax2, fMin2, fAbs, fList, fTuple, svK, svKw, sget, sset, startR, retE, isB, ownK, lstK, intK, seqK, unpT, setK, svOk, bN, bT, sputs, isN_non, isN_bl, isN_int, isN_str, isN_tup, isN_lst, isN_klst, if_true, if_false, Bool.false_eq_true, reduceIte, Bool.not_true, Bool.not_false, decide_true, decide_false, Bool.true_and, Bool.false_and, Bool.and_true, Bool.and_false, Bool.true_or, Bool.false_or, Bool.or_true, Bool.or_false, and_true, true_and, List.length_cons, List.length_nil, List.replicate_succ, List.replicate_zero, Nat.reduceSub, D.isA, eqD_str, b1, b2, beq_self_eq_true, str_beq]
    refine ⟨nofun, nofun, nofun, nofun, ⟨ok60, ok60⟩, ?_⟩
    simpa using nx _ _ _ _
  | tup l =>
    have ek := hk.1 l (.inl rfl)
    rw [ek] at nx
    have hl : l.length ≤ lim := by have := D.len_szs l; simp only [D.sz] at hs; omega
    have hl2 : D.szs xs + D.szs l ≤ lim := by simp only [D.sz] at hs; omega
    have b1 : (("bool" : String) == "tuple") = false := by decide
    have b2 : (("int" : String) == "tuple") = false := by decide
    have b3 : (("str" : String) == "tuple") = false := by decide
    simp only [mSeq, mSet, mM, mCall, mCons, mNil, mVar, mVarW, mC, mIfS, mIf, mRet, mRetN, mExpr, mPass, mRaise, mUnp, mPar, mPar2F, mSetF, mFrz, mApp, mExt, mPop, mSetIx, mBin, mBinT, mUn, mPrim, mT, mAndT, mOrT, mNotT, mAndV, mOrV, mNotV, mIsi, mLst, mDisp, mTup, mCell, mSl, mNo, mSome, mIt, mRng1, mRng2, mFor, mComp, mYes, mThru, mHeard, mBrk, mCont, mCh, mChT, mCh3, mCat, fAdd, fSub, fMul, fDiv, fMod, fPow, fNeg, fLt, fLe, fGt, fGe, fIsN, fNotN, fEq, fNe, fIn, fNin, fIx, fSl, fLen, fInt, fMax2, fMin2, fAbs, fList, fTuple, svK, svKw, sget, sset, startR, retE, isB, ownK, lstK, intK, seqK, unpT, setK, svOk, bN, bT, sputs, isN_non, isN_bl, isN_int, isN_str, isN_tup, isN_lst, isN_klst, if_true, if_false, Bool.false_eq_true, reduceIte, Bool.not_true, Bool.not_false, decide_true, decide_false, Bool.true_and, Bool.false_and, Bool.and_true, Bool.and_false, Bool.true_or, Bool.false_or, Bool.or_true, Bool.or_false, and_true, true_and, List.length_cons, List.length_nil, List.replicate_succ, List.replicate_zero, Nat.reduceSub, D.isA, b1, b2, b3, beq_self_eq_true, eqD_int]
    refine ⟨nofun, nofun, nofun, nofun, nofun, ⟨by simp [D.okE], by simp [D.okE]⟩, ⟨by unfold lim at hl; omega, by unfold lim at hl; omega⟩, by simpa [rangeD] using hl, ?_⟩
    refine same_kids hl (fun i hi q hq => ?_) ?_
    · simp only [mSeq, mSet, mM, mCall, mCons, mNil, mVar, mVarW, mC, mIfS, mIf, mRet, mRetN, mExpr, mPass, mRaise, mUnp, mPar, mPar2F, mSetF, mFrz, mApp, mExt, mPop, mSetIx, mBin, mBinT, mUn, mPrim, mT, mAndT, mOrT, mNotT, mAndV, mOrV, mNotV, mIsi, mLst, mDisp, mTup, mCell, mSl, mNo, mSome, mIt, mRng1, mRng2, mFor, mComp, mYes, mThru, mHeard, mBrk, mCont, mCh, mChT, mCh3, mCat, fAdd, fSub, fMul, fDiv, fMod, fPow, fNeg, fLt, fLe, fGt, fGe, fIsN, fNotN, fEq, fNe, fIn, fNin, fIx, fSl, fLen, fInt, fMax2, fMin2, fAbs, fList, fTuple, svK, svKw, sget, sset, startR, retE, isB, ownK, lstK, intK, seqK, unpT, setK, svOk, bN, bT, sputs, isN_non, isN_bl, isN_int, isN_str, isN_tup, isN_lst, isN_klst, if_true, if_false, Bool.false_eq_true, reduceIte, Bool.not_true, Bool.not_false, decide_true, decide_false, Bool.true_and, Bool.false_and, Bool.and_true, Bool.and_false, Bool.true_or, Bool.false_or, Bool.or_true, Bool.or_false, and_true, true_and, List.length_cons, List.length_nil, List.replicate_succ, List.replicate_zero, Nat.reduceSub, swipe]
      exact ⟨_, at_nat hi, _, at_nat hi, by decide, hq⟩
    · have z1 := D.len_szs xs
      have z2 := D.len_szs l
      refine ⟨by simp; omega, ?_⟩
      try simp only [mSeq, mSet, mM, mCall, mCons, mNil, mVar, mVarW, mC, mIfS, mIf, mRet, mRetN, mExpr, mPass, mRaise, mUnp, mPar, mPar2F, mSetF, mFrz, mApp, mExt, mPop, mSetIx, mBin, mBinT, mUn, mPrim, mT, mAndT, mOrT, mNotT, mAndV, mOrV, mNotV, mIsi, mLst, mDisp, mTup, mCell, mSl, mNo, mSome, mIt, mRng1, mRng2, mFor, mComp, mYes, mThru, mHeard, mBrk, mCont, mCh, mChT, mCh3, mCat, fAdd, fSub, fMul, fDiv, fMod, fPow, fNeg, fLt, fLe, fGt, fGe, fIsN, fNotN, fEq, fNe, fIn, fNin, fIx, fSl, fLen, fInt, fMax2, fMin2, fAbs, fList, fTuple, svK, svKw, sget, sset, startR, retE, isB, ownK, lstK, intK, seqK, unpT, setK, svOk, bN, bT, sputs, isN_non, isN_bl, isN_int, isN_str, isN_tup, isN_lst, isN_klst, if_true, if_false, Bool.false_eq_true, reduceIte, Bool.not_true, Bool.not_false, decide_true, decide_false, Bool.true_and, Bool.false_and, Bool.and_true, Bool.and_false, Bool.true_or, Bool.false_or, Bool.or_true, Bool.or_false, and_true, true_and, List.length_cons, List.length_nil, List.replicate_succ, List.replicate_zero, Nat.reduceSub]
      rw [← List.map_append]
      exact nx _ _ _ _
  | lst l =>
    have ek := hk.1 l (.inr (.inl rfl))
    rw [ek] at nx
    have hl : l.length ≤ lim := by have := D.len_szs l; simp only [D.sz] at hs; omega
    have hl2 : D.szs xs + D.szs l ≤ lim := by simp only [D.sz] at hs; omega
    have b1 : (("bool" : String) == "list") = false := by decide
    have b2 : (("int" : String) == "list") = false := by decide
    have b3 : (("str" : String) == "list") = false := by decide
    have b4 : (("tuple" : String) == "list") = false := by decide
    simp only [mSeq, mSet, mM, mCall, mCons, mNil, mVar, mVarW, mC, mIfS, mIf, mRet, mRetN, mExpr, mPass, mRaise, mUnp, mPar, mPar2F, mSetF, mFrz, mApp, mExt, mPop, mSetIx, mBin, mBinT, mUn, mPrim, mT, mAndT, mOrT, mNotT, mAndV, mOrV, mNotV, mIsi, mLst, mDisp, mTup, mCell, mSl, mNo, mSome, mIt, mRng1, mRng2, mFor, mComp, mYes, mThru, mHeard, mBrk, mCont, mCh, mChT, mCh3, mCat, fAdd, fSub, fMul, fDiv, fMod, fPow, fNeg, fLt, fLe, fGt, fGe, fIsN, fNotN, fEq, fNe, fIn, fNin, fIx, fSl, fLen, fInt, fMax2, fMin2, fAbs, fList, fTuple, svK, svKw, sget, sset, startR, retE, isB, ownK, lstK, intK, seqK, unpT, setK, svOk, bN, bT, sputs, isN_non, isN_bl, isN_int, isN_str, isN_tup, isN_lst, isN_klst, if_true, if_false, Bool.false_eq_true, reduceIte, Bool.not_true, Bool.not_false, decide_true, decide_false, Bool.true_and, Bool.false_and, Bool.and_true, Bool.and_false, Bool.true_or, Bool.false_or, Bool.or_true, Bool.or_false, and_true, true_and, List.length_cons, List.length_nil, List.replicate_succ, List.replicate_zero, Nat.reduceSub, D.isA, b1, b2, b3, b4, beq_self_eq_true, eqD_int]
    refine ⟨nofun, nofun, nofun, nofun, nofun, ⟨by simp [D.okE], by simp [D.okE]⟩, ⟨by unfold lim at hl; omega, by unfold lim at hl; omega⟩, by simpa [rangeD] using hl, ?_⟩
    refine same_kids hl (fun i hi q hq => ?_) ?_
    · simp only [mSeq, mSet, mM, mCall, mCons, mNil, mVar, mVarW, mC, mIfS, mIf, mRet, mRetN, mExpr, mPass, mRaise, mUnp, mPar, mPar2F, mSetF, mFrz, mApp, mExt, mPop, mSetIx, mBin, mBinT, mUn, mPrim, mT, mAndT, mOrT, mNotT, mAndV, mOrV, mNotV, mIsi, mLst, mDisp, mTup, mCell, mSl, mNo, mSome, mIt, mRng1, mRng2, mFor, mComp, mYes, mThru, mHeard, mBrk, mCont, mCh, mChT, mCh3, mCat, fAdd, fSub, fMul, fDiv, fMod, fPow, fNeg, fLt, fLe, fGt, fGe, fIsN, fNotN, fEq, fNe, fIn, fNin, fIx, fSl, fLen, fInt, fMax2, fMin2, fAbs, fList, fTuple, svK, svKw, sget, sset, startR, retE, isB, ownK, lstK, intK, seqK, unpT, setK, svOk, bN, bT, sputs, isN_non, isN_bl, isN_int, isN_str, isN_tup, isN_lst, isN_klst, if_true, if_false, Bool.false_eq_true, reduceIte, Bool.not_true, Bool.not_false, decide_true, decide_false, Bool.true_and, Bool.false_and, Bool.and_true, Bool.and_false, Bool.true_or, Bool.false_or, Bool.or_true, Bool.or_false, and_true, true_and, List.length_cons, List.length_nil, List.replicate_succ, List.replicate_zero, Nat.reduceSub, swipe]
      exact ⟨_, at_nat hi, _, at_nat hi, by decide, hq⟩
    · have z1 := D.len_szs xs
      have z2 := D.len_szs l
      refine ⟨by simp; omega, ?_⟩
      try simp only [mSeq, mSet, mM, mCall, mCons, mNil, mVar, mVarW, mC, mIfS, mIf, mRet, mRetN, mExpr, mPass, mRaise, mUnp, mPar, mPar2F, mSetF, mFrz, mApp, mExt, mPop, mSetIx, mBin, mBinT, mUn, mPrim, mT, mAndT, mOrT, mNotT, mAndV, mOrV, mNotV, mIsi, mLst, mDisp, mTup, mCell, mSl, mNo, mSome, mIt, mRng1, mRng2, mFor, mComp, mYes, mThru, mHeard, mBrk, mCont, mCh, mChT, mCh3, mCat, fAdd, fSub, fMul, fDiv, fMod, fPow, fNeg, fLt, fLe, fGt, fGe, fIsN, fNotN, fEq, fNe, fIn, fNin, fIx, fSl, fLen, fInt, fMax2, fMin2, fAbs, fList, fTuple, svK, svKw, sget, sset, startR, retE, isB, ownK, lstK, intK, seqK, unpT, setK, svOk, bN, bT, sputs, isN_non, isN_bl, isN_int, isN_str, isN_tup, isN_lst, isN_klst, if_true, if_false, Bool.false_eq_true, reduceIte, Bool.not_true, Bool.not_false, decide_true, decide_false, Bool.true_and, Bool.false_and, Bool.and_true, Bool.and_false, Bool.true_or, Bool.false_or, Bool.or_true, Bool.or_false, and_true, true_and, List.length_cons, List.length_nil, List.replicate_succ, List.replicate_zero, Nat.reduceSub]
      rw [← List.map_append]
      exact nx _ _ _ _
  | klst l =>
    have ek := hk.1 l (.inr (.inr rfl))
    rw [ek] at nx
    have hl : l.length ≤ lim := by have := D.len_szs l; simp only [D.sz] at hs; omega
    have hl2 : D.szs xs + D.szs l ≤ lim := by simp only [D.sz] at hs; omega
    have b1 : (("bool" : String) == "list") = false := by decide
    have b2 : (("int" : String) == "list") = false := by decide
    have b3 : (("str" : String) == "list") = false := by decide
    have b4 : (("tuple" : String) == "list") = false := by decide
    simp only [mSeq, mSet, mM, mCall, mCons, mNil, mVar, mVarW, mC, mIfS, mIf, mRet, mRetN, mExpr, mPass, mRaise, mUnp, mPar, mPar2F, mSetF, mFrz, mApp, mExt, mPop, mSetIx, mBin, mBinT, mUn, mPrim, mT, mAndT, mOrT, mNotT, mAndV, mOrV, mNotV, mIsi, mLst, mDisp, mTup, mCell, mSl, mNo, mSome, mIt, mRng1, mRng2, mFor, mComp, mYes, mThru, mHeard, mBrk, mCont, mCh, mChT, mCh3, mCat, fAdd, fSub, fMul, fDiv, fMod, fPow, fNeg, fLt, fLe, fGt, fGe, fIsN, fNotN, fEq, fNe, fIn, fNin, fIx, fSl, fLen, fInt, fMax2, fMin2, fAbs, fList, fTuple, svK, svKw, sget, sset, startR, retE, isB, ownK, lstK, intK, seqK, unpT, setK, svOk, bN, bT, sputs, isN_non, isN_bl, isN_int, isN_str, isN_tup, isN_lst, isN_klst, if_true, if_false, Bool.false_eq_true, reduceIte, Bool.not_true, Bool.not_false, decide_true, decide_false, Bool.true_and, Bool.false_and, Bool.and_true, Bool.and_false, Bool.true_or, Bool.false_or, Bool.or_true, Bool.or_false, and_true, true_and, List.length_cons, List.length_nil, List.replicate_succ, List.replicate_zero, Nat.reduceSub, D.isA, b1, b2, b3, b4, beq_self_eq_true, eqD_int]
    refine ⟨nofun, nofun, nofun, nofun, nofun, ⟨by simp [D.okE], by simp [D.okE]⟩, ⟨by unfold lim at hl; omega, by unfold lim at hl; omega⟩, by simpa [rangeD] using hl, ?_⟩
    refine same_kids hl (fun i hi q hq => ?_) ?_
    · simp only [mSeq, mSet, mM, mCall, mCons, mNil, mVar, mVarW, mC, mIfS, mIf, mRet, mRetN, mExpr, mPass, mRaise, mUnp, mPar, mPar2F, mSetF, mFrz, mApp, mExt, mPop, mSetIx, mBin, mBinT, mUn, mPrim, mT, mAndT, mOrT, mNotT, mAndV, mOrV, mNotV, mIsi, mLst, mDisp, mTup, mCell, mSl, mNo, mSome, mIt, mRng1, mRng2, mFor, mComp, mYes, mThru, mHeard, mBrk, mCont, mCh, mChT, mCh3, mCat, fAdd, fSub, fMul, fDiv, fMod, fPow, fNeg, fLt, fLe, fGt, fGe, fIsN, fNotN, fEq, fNe, fIn, fNin, fIx, fSl, fLen, fInt, fMax2, fMin2, fAbs, fList, fTuple, svK, svKw, sget, sset, startR, retE, isB, ownK, lstK, intK, seqK, unpT, setK, svOk, bN, bT, sputs, isN_non, isN_bl, isN_int, isN_str, isN_tup, isN_lst, isN_klst, if_true, if_false, Bool.false_eq_true, reduceIte, Bool.not_true, Bool.not_false, decide_true, decide_false, Bool.true_and, Bool.false_and, Bool.and_true, Bool.and_false, Bool.true_or, Bool.false_or, Bool.or_true, Bool.or_false, and_true, true_and, List.length_cons, List.length_nil, List.replicate_succ, List.replicate_zero, Nat.reduceSub, swipe]
      exact ⟨_, at_nat hi, _, at_nat hi, by decide, hq⟩
    · have z1 := D.len_szs xs
      have z2 := D.len_szs l
      refine ⟨by simp; omega, ?_⟩
      try simp only [mSeq, mSet, mM, mCall, mCons, mNil, mVar, mVarW, mC, mIfS, mIf, mRet, mRetN, mExpr, mPass, mRaise, mUnp, mPar, mPar2F, mSetF, mFrz, mApp, mExt, mPop, mSetIx, mBin, mBinT, mUn, mPrim, mT, mAndT, mOrT, mNotT, mAndV, mOrV, mNotV, mIsi, mLst, mDisp, mTup, mCell, mSl, mNo, mSome, mIt, mRng1, mRng2, mFor, mComp, mYes, mThru, mHeard, mBrk, mCont, mCh, mChT, mCh3, mCat, fAdd, fSub, fMul, fDiv, fMod, fPow, fNeg, fLt, fLe, fGt, fGe, fIsN, fNotN, fEq, fNe, fIn, fNin, fIx, fSl, fLen, fInt, fMax2, fMin2, fAbs, fList, fTuple, svK, svKw, sget, sset, startR, retE, isB, ownK, lstK, intK, seqK, unpT, setK, svOk, bN, bT, sputs, isN_non, isN_bl, isN_int, isN_str, isN_tup, isN_lst, isN_klst, if_true, if_false, Bool.false_eq_true, reduceIte, Bool.not_true, Bool.not_false, decide_true, decide_false, Bool.true_and, Bool.false_and, Bool.and_true, Bool.and_false, Bool.true_or, Bool.false_or, Bool.or_true, Bool.or_false, and_true, true_and, List.length_cons, List.length_nil, List.replicate_succ, List.replicate_zero, Nat.reduceSub]
      rw [← List.map_append]
      exact nx _ _ _ _
  | ref a => exact absurd rfl (nr a)
/-- what stands in it -/
def D.kids : D → List D
  | .tup l => l
  | .lst l => l
  | .klst l => l
  | _ => []
theorem kids_ok {x : D} (h : x.okE 50 = true) : ∀ y ∈ x.kids, y.okE 50 = true := by
  cases x <;> simp only [D.kids, List.not_mem_nil, false_implies, implies_true]
  all_goals
    simp only [D.okE, Bool.and_eq_true] at h
    intro y hy
    exact D.okE_mono y (by decide) (D.okEs_all.mp h.2 y hy)
theorem kids_sz (x : D) : D.szs x.kids + 1 = x.sz := by
  cases x <;> simp only [D.kids, D.sz, D.szs] <;> omega
theorem kids_hk (x : D) : (∀ l, (x = .tup l ∨ x = .lst l ∨ x = .klst l) → x.kids = l) ∧ ((∀ l, ¬ (x = .tup l ∨ x = .lst l ∨ x = .klst l)) → x.kids = []) := by
  refine ⟨fun l h => ?_, fun h => ?_⟩
  · rcases h with rfl | rfl | rfl <;> rfl
  · cases x with
    | tup l => exact absurd (.inl rfl) (h l)
    | lst l => exact absurd (.inr (.inl rfl)) (h l)
    | klst l => exact absurd (.inr (.inr rfl)) (h l)
    | _ => rfl
theorem same_loop {a b : SV} {S : Store} {G : EndsD} (fin : ∀ s3 s4 s5 s6, G.nx [a, b, .own [], s3, s4, s5, s6] S) : ∀ (n : Nat) (xs : List D) (s3 s4 s5 s6 : SV), D.szs xs < n → D.szs xs ≤ lim → (∀ x ∈ xs, x.okE 50 = true) →
    whileD (mBinT fNe (mVarW 2) (mLst (mDisp mNil))) sameB n [a, b, .own (xs.map dup), s3, s4, s5, s6] S G
  | 0, _, _, _, _, _, h, _, _ => by omega
  | n + 1, xs, s3, s4, s5, s6, h, hl, ok => by
    unfold whileD
    rcases List.eq_nil_or_concat xs with rfl | ⟨ys, x, rfl⟩
    · simp only [mSeq, mSet, mM, mCall, mCons, mNil, mVar, mVarW, mC, mIfS, mIf, mRet, mRetN, mExpr, mPass, mRaise, mUnp, mPar, mPar2F, mSetF, mFrz, mApp, mExt, mPop, mSetIx, mBin, mBinT, mUn, mPrim, mT, mAndT, mOrT, mNotT, mAndV, mOrV, mNotV, mIsi, mLst, mDisp, mTup, mCell, mSl, mNo, mSome, mIt, mRng1, mRng2, mFor, mComp, mYes, mThru, mHeard, mBrk, mCont, mCh, mChT, mCh3, mCat, fAdd, fSub, fMul, fDiv, fMod, fPow, fNeg, fLt, fLe, fGt, fGe, fIsN, fNotN, fEq, fNe, fIn, fNin, fIx, fSl, fLen, fInt, fMax2, fMin2, fAbs, fList, fTuple, svK, svKw, sget, sset, startR, retE, isB, ownK, lstK, intK, seqK, unpT, setK, svOk, bN, bT, sputs, isN_non, isN_bl, isN_int, isN_str, isN_tup, isN_lst, isN_klst, if_true, if_false, Bool.false_eq_true, reduceIte, Bool.not_true, Bool.not_false, decide_true, decide_false, Bool.true_and, Bool.false_and, Bool.and_true, Bool.and_false, Bool.true_or, Bool.false_or, Bool.or_true, Bool.or_false, and_true, true_and, List.length_cons, List.length_nil, List.replicate_succ, List.replicate_zero, Nat.reduceSub, List.map_nil, eqD_nil]
      exact ⟨by decide, ⟨by decide, by decide⟩, fin _ _ _ _⟩
    · rw [List.concat_eq_append] at *
      have ne : (ys ++ [x]).map dup ≠ [] := by simp
      have e := eqD_snoc ne
      rw [D.szs_app] at h hl
      simp only [D.szs] at h hl
      have k1 := kids_sz x
      have wr : ∀ s3 s4 s5 s6, whileD (mBinT fNe (mVarW 2) (mLst (mDisp mNil))) sameB n [a, b, .own ((ys ++ x.kids).map dup), s3, s4, s5, s6] S G := fun s3 s4 s5 s6 => by
        refine same_loop fin n (ys ++ x.kids) s3 s4 s5 s6 ?_ ?_ fun y hy => ?_
        · rw [D.szs_app]; omega
        · rw [D.szs_app]; omega
        · rcases List.mem_append.mp hy with hy | hy
          · exact ok y (by simp [hy])
          · exact kids_ok (ok x (by simp)) y hy
      have st := same_step (xs := ys) (x := x) (a := a) (b := b) (S := S) (G := { G with nx := fun ρ2 S2 => whileD (mBinT fNe (mVarW 2) (mLst (mDisp mNil))) sameB n ρ2 S2 G, ct := fun ρ2 S2 => whileD (mBinT fNe (mVarW 2) (mLst (mDisp mNil))) sameB n ρ2 S2 G, bk := G.nx }) (ok x (by simp)) (by omega) s3 s4 s5 s6 x.kids (kids_hk x) wr
      generalize (fun ρ2 S2 => whileD (mBinT fNe (mVarW 2) (mLst (mDisp mNil))) sameB n ρ2 S2 G) = Bk at st ⊢
      generalize sameB = mb at st ⊢
      simp only [mSeq, mSet, mM, mCall, mCons, mNil, mVar, mVarW, mC, mIfS, mIf, mRet, mRetN, mExpr, mPass, mRaise, mUnp, mPar, mPar2F, mSetF, mFrz, mApp, mExt, mPop, mSetIx, mBin, mBinT, mUn, mPrim, mT, mAndT, mOrT, mNotT, mAndV, mOrV, mNotV, mIsi, mLst, mDisp, mTup, mCell, mSl, mNo, mSome, mIt, mRng1, mRng2, mFor, mComp, mYes, mThru, mHeard, mBrk, mCont, mCh, mChT, mCh3, mCat, fAdd, fSub, fMul, fDiv, fMod, fPow, fNeg, fLt, fLe, fGt, fGe, fIsN, fNotN, fEq, fNe, fIn, fNin, fIx, fSl, fLen, fInt, fMax2, fMin2, fAbs, fList, fTuple, svK, svKw, sget, sset, startR, retE, isB, ownK, lstK, intK, seqK, unpT, setK, svOk, bN, bT, sputs, isN_non, isN_bl, isN_int, isN_str, isN_tup, isN_lst, isN_klst, if_true, if_false, Bool.false_eq_true, reduceIte, Bool.not_true, Bool.not_false, decide_true, decide_false, Bool.true_and, Bool.false_and, Bool.and_true, Bool.and_false, Bool.true_or, Bool.false_or, Bool.or_true, Bool.or_false, and_true, true_and, List.length_cons, List.length_nil, List.replicate_succ, List.replicate_zero, Nat.reduceSub, e]
      exact ⟨by decide, ⟨dup_ok (by simpa using ok), by decide⟩, st⟩
theorem h_same (ds : List D) (S : Store) (Q : EK) (E : XKd) (hn : ds.length = 2) (h : c_same ds S Q E) : m_same c_whole (startR 7 ds) S (retE Q E) := by
  unfold c_same at h
  split at h
  · rename_i x y
    obtain ⟨⟨rfl, h1, h2⟩, hQ⟩ := h
    unfold m_same
    generalize hw : mWhile = w
    try simp only [mSeq, mSet, mM, mCall, mCons, mNil, mVar, mVarW, mC, mIfS, mIf, mRet, mRetN, mExpr, mPass, mRaise, mUnp, mPar, mPar2F, mSetF, mFrz, mApp, mExt, mPop, mSetIx, mBin, mBinT, mUn, mPrim, mT, mAndT, mOrT, mNotT, mAndV, mOrV, mNotV, mIsi, mLst, mDisp, mTup, mCell, mSl, mNo, mSome, mIt, mRng1, mRng2, mFor, mComp, mYes, mThru, mHeard, mBrk, mCont, mCh, mChT, mCh3, mCat, fAdd, fSub, fMul, fDiv, fMod, fPow, fNeg, fLt, fLe, fGt, fGe, fIsN, fNotN, fEq, fNe, fIn, fNin, fIx, fSl, fLen, fInt, fMax2, fMin2, fAbs, fList, fTuple, svK, svKw, sget, sset, startR, retE, isB, ownK, lstK, intK, seqK, unpT, setK, svOk, bN, bT, sputs, isN_non, isN_bl, isN_int, isN_str, isN_tup, isN_lst, isN_klst, if_true, if_false, Bool.false_eq_true, reduceIte, Bool.not_true, Bool.not_false, decide_true, decide_false, Bool.true_and, Bool.false_and, Bool.and_true, Bool.and_false, Bool.true_or, Bool.false_or, Bool.or_true, Bool.or_false, and_true, true_and, List.length_cons, List.length_nil, List.replicate_succ, List.replicate_zero, Nat.reduceSub]
    subst hw
    refine ⟨by decide, by decide, ?_⟩
    refine ⟨x.sz + 1, ?_⟩
    refine same_loop (fun s3 s4 s5 s6 => ?_) _ [x] _ _ _ _ (by simp [D.szs]) (by simpa [D.szs] using h2) (by simpa using h1)
    exact hQ
  · exact h.elim
end TL

set_option Elab.async false
set_option linter.all false
set_option maxRecDepth 100000
set_option maxHeartbeats 4000000
/-! T23: changes. -/
namespace TL
open PySem PySem.Spec PyProof.Rows L2

/-- a bound: none or a number -/
def opt : D → Bool
  | .non => true
  | .int _ => true
  | _ => false
def above : D → D → Bool
  | .int i, .int j => decide (j < i)
  | _, _ => false
/-- the first wrong place of a change -/
def fault : D → Option Int
  | .tup [a, b, c] => if a.wh = false then some 0 else if opt b = false then some 1 else if opt c = false then some 2 else if above b c = true then some 2 else none
  | _ => some (-1)
def optD : Option Int → D
  | none => .non
  | some i => .int i
theorem fault_none {d : D} (h : fault d = none) : ∃ s f c, d = .tup [.int s, f, c] ∧ opt f = true ∧ opt c = true ∧ above f c = false := by
  unfold fault at h
  split at h
  · rename_i a b c
    split at h
    · cases h
    · rename_i h1
      split at h
      · cases h
      · rename_i h2
        split at h
        · cases h
        · rename_i h3
          split at h
          · cases h
          · rename_i h4
            cases a <;> simp [D.wh] at h1
            exact ⟨_, b, c, rfl, by simpa using h2, by simpa using h3, by simpa using h4⟩
  · cases h
theorem fault_tup {a b c : D} : fault (.tup [a, b, c]) = if a.wh = false then some 0 else if opt b = false then some 1 else if opt c = false then some 2 else if above b c = true then some 2 else none := rfl
def c_fault : Con := fun ds S Q _ => match ds with
  | [x] => x.okE 40 = true ∧ Q (optD (fault x)) S
  | _ => False
def m_wrong_change (c_whole : Con) : MS := (mSeq (mIfS (mOrT (mNotT (mT (mIsi "tuple" (mVar 0)))) (mBinT fNe (mPrim fLen (mCons (mVar 0) mNil)) (mC (.int 3)))) (mRet (mM (mUn fNeg (mC (.int 1))))) mPass)
  (mSeq (mIfS (mNotT (mT (mCall 1 c_whole (mCons (mBin fIx (mVar 0) (mC (.int 0))) mNil)))) (mRet (mM (mC (.int 0)))) mPass)
  (mSeq (mFor (mIt (mTup (mCons (mC (.int 1)) (mCons (mC (.int 2)) mNil)))) (bN 1) (mIfS (mAndT (mBinT fNotN (mBin fIx (mVar 0) (mVar 1)) (mC .non)) (mNotT (mT (mCall 1 c_whole (mCons (mBin fIx (mVar 0) (mVar 1)) mNil))))) (mRet (mM (mVar 1))) mPass))
  (mRet (mM (mIf (mAndT (mBinT fNin (mC .non) (mSl (mVar 0) (mSome (mC (.int 1))) mNo)) (mBinT fGt (mBin fIx (mVar 0) (mC (.int 1))) (mBin fIx (mVar 0) (mC (.int 2))))) (mC (.int 2)) (mC .non)))))))
def m_change_fault (c_law_aw_is_number : Con) : MS := (mSeq (mIfS (mOrT (mNotT (mT (mIsi "tuple" (mVar 0)))) (mBinT fNe (mPrim fLen (mCons (mVar 0) mNil)) (mC (.int 3)))) (mRet (mM (mUn fNeg (mC (.int 1))))) mPass)
  (mSeq (mIfS (mNotT (mT (mCall 1 c_law_aw_is_number (mCons (mBin fIx (mVar 0) (mC (.int 0))) mNil)))) (mRet (mM (mC (.int 0)))) mPass)
  (mSeq (mFor (mIt (mLst (mDisp (mCons (mC (.int 1)) (mCons (mC (.int 2)) mNil))))) (bN 1) (mIfS (mAndT (mBinT fNotN (mBin fIx (mVar 0) (mVar 1)) (mC .non)) (mNotT (mT (mCall 1 c_law_aw_is_number (mCons (mBin fIx (mVar 0) (mVar 1)) mNil))))) (mRet (mM (mVar 1))) mPass))
  (mRet (mM (mIf (mAndT (mBinT fNotN (mBin fIx (mVar 0) (mC (.int 1))) (mC .non)) (mAndT (mBinT fNotN (mBin fIx (mVar 0) (mC (.int 2))) (mC .non)) (mBinT fGt (mBin fIx (mVar 0) (mC (.int 1))) (mBin fIx (mVar 0) (mC (.int 2)))))) (mC (.int 2)) (mC .non)))))))
theorem opt_cases (d : D) : opt d = (d.isN || d.wh) := by cases d <;> rfl
theorem nin_opt {b c : D} (hb : opt b = true) (hc : opt c = true) : inD .non [b, c] = (b.isN || c.isN) := by
  cases b <;> simp [opt] at hb <;> cases c <;> simp [opt] at hc <;> simp [inD, eqD, D.py, PyData.eqv, D.isN]
theorem flat_opt {b : D} (hb : opt b = true) : b.flat = true := by cases b <;> simp [opt] at hb <;> rfl
theorem wc_tail {a b c : D} {k : EK} {S : Store} (hb : opt b = true) (hc : opt c = true) (h : k (optD (if above b c = true then some 2 else none)) S) (E : XKd) :
    (mIf (mAndT (mBinT fNin (mC .non) (mSl (mVar 0) (mSome (mC (.int 1))) mNo)) (mBinT fGt (mBin fIx (mVar 0) (mC (.int 1))) (mBin fIx (mVar 0) (mC (.int 2))))) (mC (.int 2)) (mC .non)) [.val (.tup [a, b, c]), .val (.int 2)] S k E := by
  have e1 : cutA [a, b, c] (some 1) none = [b, c] := by
    simp [cutA, HT.sIx]
  simp only [mSeq, mSet, mM, mCall, mCons, mNil, mVar, mVarW, mC, mIfS, mIf, mRet, mRetN, mExpr, mPass, mRaise, mUnp, mPar, mPar2F, mSetF, mFrz, mApp, mExt, mPop, mSetIx, mBin, mBinT, mUn, mPrim, mT, mAndT, mOrT, mNotT, mAndV, mOrV, mNotV, mIsi, mLst, mDisp, mTup, mCell, mSl, mNo, mSome, mIt, mRng1, mRng2, mFor, mComp, mYes, mThru, mHeard, mBrk, mCont, mCh, mChT, mCh3, mCat, fAdd, fSub, fMul, fDiv, fMod, fPow, fNeg, fLt, fLe, fGt, fGe, fIsN, fNotN, fEq, fNe, fIn, fNin, fIx, fSl, fLen, fInt, fMax2, fMin2, fAbs, fList, fTuple, svK, svKw, sget, sset, startR, retE, isB, ownK, lstK, intK, seqK, unpT, setK, svOk, bN, bT, sputs, isN_non, isN_bl, isN_int, isN_str, isN_tup, isN_lst, isN_klst, if_true, if_false, Bool.false_eq_true, reduceIte, Bool.not_true, Bool.not_false, decide_true, decide_false, Bool.true_and, Bool.false_and, Bool.and_true, Bool.and_false, Bool.true_or, Bool.false_or, Bool.or_true, Bool.or_false, and_true, true_and, List.length_cons, List.length_nil, List.replicate_succ, List.replicate_zero, Nat.reduceSub, e1, nin_opt hb hc]
  refine ⟨⟨rfl, by simp [flat_opt hb, flat_opt hc]⟩, ?_⟩
  cases b <;> simp [opt] at hb <;> cases c <;> simp [opt] at hc
  · simpa [D.isN, above, optD] using h
  · simpa [D.isN, above, optD] using h
  · simpa [D.isN, above, optD] using h
  · rename_i i j
    simp only [D.isN, Bool.or_false, Bool.not_false, if_true]
    refine ⟨_, at1, _, at2, ?_⟩
    by_cases hij : j < i
    · simpa [above, hij, optD] using h
    · simpa [above, hij, optD] using h
theorem cf_tail {a b c : D} {k : EK} {S : Store} (hb : opt b = true) (hc : opt c = true) (h : k (optD (if above b c = true then some 2 else none)) S) (E : XKd) :
    (mIf (mAndT (mBinT fNotN (mBin fIx (mVar 0) (mC (.int 1))) (mC .non)) (mAndT (mBinT fNotN (mBin fIx (mVar 0) (mC (.int 2))) (mC .non)) (mBinT fGt (mBin fIx (mVar 0) (mC (.int 1))) (mBin fIx (mVar 0) (mC (.int 2)))))) (mC (.int 2)) (mC .non)) [.val (.tup [a, b, c]), .val (.int 2)] S k E := by
  try simp only [mSeq, mSet, mM, mCall, mCons, mNil, mVar, mVarW, mC, mIfS, mIf, mRet, mRetN, mExpr, mPass, mRaise, mUnp, mPar, mPar2F, mSetF, mFrz, mApp, mExt, mPop, mSetIx, mBin, mBinT, mUn, mPrim, mT, mAndT, mOrT, mNotT, mAndV, mOrV, mNotV, mIsi, mLst, mDisp, mTup, mCell, mSl, mNo, mSome, mIt, mRng1, mRng2, mFor, mComp, mYes, mThru, mHeard, mBrk, mCont, mCh, mChT, mCh3, mCat, fAdd, fSub, fMul, fDiv, fMod, fPow, fNeg, fLt, fLe, fGt, fGe, fIsN, fNotN, fEq, fNe, fIn, fNin, fIx, fSl, fLen, fInt, fMax2, fMin2, fAbs, fList, fTuple, svK, svKw, sget, sset, startR, retE, isB, ownK, lstK, intK, seqK, unpT, setK, svOk, bN, bT, sputs, isN_non, isN_bl, isN_int, isN_str, isN_tup, isN_lst, isN_klst, if_true, if_false, Bool.false_eq_true, reduceIte, Bool.not_true, Bool.not_false, decide_true, decide_false, Bool.true_and, Bool.false_and, Bool.and_true, Bool.and_false, Bool.true_or, Bool.false_or, Bool.or_true, Bool.or_false, and_true, true_and, List.length_cons, List.length_nil, List.replicate_succ, List.replicate_zero, Nat.reduceSub]
  refine ⟨_, at1, ?_⟩
  cases b <;> simp [opt] at hb
  · simpa [D.isN, above, optD] using h
  · simp only [D.isN, Bool.not_false, if_true]
    refine ⟨_, at2, ?_⟩
    cases c <;> simp [opt] at hc
    · simpa [D.isN, above, optD] using h
    · rename_i i j
      simp only [D.isN, Bool.not_false, if_true]
      refine ⟨_, at1, _, at2, ?_⟩
      by_cases hij : j < i
      · simpa [above, hij, optD] using h
      · simpa [above, hij, optD] using h
/-- both looks at a change: heads, rows and ends alike -/
theorem fault_core {mi : MA} {tl : ME} (hmi : ∀ ρ S (q : AK) E, q [.int 1, .int 2] S → mi ρ S q E) (htl : ∀ {a b c : D} {k : EK} {S : Store}, opt b = true → opt c = true → k (optD (if above b c = true then some 2 else none)) S → ∀ E, tl [.val (.tup [a, b, c]), .val (.int 2)] S k E)
    (ds : List D) (S : Store) (Q : EK) (E : XKd) (hn : ds.length = 1) (h : c_fault ds S Q E) : (mSeq (mIfS (mOrT (mNotT (mT (mIsi "tuple" (mVar 0)))) (mBinT fNe (mPrim fLen (mCons (mVar 0) mNil)) (mC (.int 3)))) (mRet (mM (mUn fNeg (mC (.int 1))))) mPass)
  (mSeq (mIfS (mNotT (mT (mCall 1 c_whole (mCons (mBin fIx (mVar 0) (mC (.int 0))) mNil)))) (mRet (mM (mC (.int 0)))) mPass)
  (mSeq (mFor mi (bN 1) (mIfS (mAndT (mBinT fNotN (mBin fIx (mVar 0) (mVar 1)) (mC .non)) (mNotT (mT (mCall 1 c_whole (mCons (mBin fIx (mVar 0) (mVar 1)) mNil))))) (mRet (mM (mVar 1))) mPass))
  (mRet (mM tl))))) (startR 2 ds) S (retE Q E) := by
  obtain ⟨x, rfl⟩ := List.length_eq_one_iff.mp hn
  obtain ⟨h1, hQ⟩ := h
  have nr := D.okE_noref h1
  try simp only [mSeq, mSet, mM, mCall, mCons, mNil, mVar, mVarW, mC, mIfS, mIf, mRet, mRetN, mExpr, mPass, mRaise, mUnp, mPar, mPar2F, mSetF, mFrz, mApp, mExt, mPop, mSetIx, mBin, mBinT, mUn, mPrim, mT, mAndT, mOrT, mNotT, mAndV, mOrV, mNotV, mIsi, mLst, mDisp, mTup, mCell, mSl, mNo, mSome, mIt, mRng1, mRng2, mFor, mComp, mYes, mThru, mHeard, mBrk, mCont, mCh, mChT, mCh3, mCat, fAdd, fSub, fMul, fDiv, fMod, fPow, fNeg, fLt, fLe, fGt, fGe, fIsN, fNotN, fEq, fNe, fIn, fNin, fIx, fSl, fLen, fInt, fMax2, fMin2, fAbs, fList, fTuple, svK, svKw, sget, sset, startR, retE, isB, ownK, lstK, intK, seqK, unpT, setK, svOk, bN, bT, sputs, isN_non, isN_bl, isN_int, isN_str, isN_tup, isN_lst, isN_klst, if_true, if_false, Bool.false_eq_true, reduceIte, Bool.not_true, Bool.not_false, decide_true, decide_false, Bool.true_and, Bool.false_and, Bool.and_true, Bool.and_false, Bool.true_or, Bool.false_or, Bool.or_true, Bool.or_false, and_true, true_and, List.length_cons, List.length_nil, List.replicate_succ, List.replicate_zero, Nat.reduceSub]
  refine ⟨fun a e => absurd e (nr a), ?_⟩
  cases hx : x.isA "tuple" with
  | false =>
    try simp only [mSeq, mSet, mM, mCall, mCons, mNil, mVar, mVarW, mC, mIfS, mIf, mRet, mRetN, mExpr, mPass, mRaise, mUnp, mPar, mPar2F, mSetF, mFrz, mApp, mExt, mPop, mSetIx, mBin, mBinT, mUn, mPrim, mT, mAndT, mOrT, mNotT, mAndV, mOrV, mNotV, mIsi, mLst, mDisp, mTup, mCell, mSl, mNo, mSome, mIt, mRng1, mRng2, mFor, mComp, mYes, mThru, mHeard, mBrk, mCont, mCh, mChT, mCh3, mCat, fAdd, fSub, fMul, fDiv, fMod, fPow, fNeg, fLt, fLe, fGt, fGe, fIsN, fNotN, fEq, fNe, fIn, fNin, fIx, fSl, fLen, fInt, fMax2, fMin2, fAbs, fList, fTuple, svK, svKw, sget, sset, startR, retE, isB, ownK, lstK, intK, seqK, unpT, setK, svOk, bN, bT, sputs, isN_non, isN_bl, isN_int, isN_str, isN_tup, isN_lst, isN_klst, if_true, if_false, Bool.false_eq_true, reduceIte, Bool.not_true, Bool.not_false, decide_true, decide_false, Bool.true_and, Bool.false_and, Bool.and_true, Bool.and_false, Bool.true_or, Bool.false_or, Bool.or_true, Bool.or_false, and_true, true_and, List.length_cons, List.length_nil, List.replicate_succ, List.replicate_zero, Nat.reduceSub]
    have : fault x = some (-1) := by
      cases x <;> first | rfl | (simp [D.isA] at hx)
    rw [this] at hQ
    exact hQ
  | true =>
    try simp only [mSeq, mSet, mM, mCall, mCons, mNil, mVar, mVarW, mC, mIfS, mIf, mRet, mRetN, mExpr, mPass, mRaise, mUnp, mPar, mPar2F, mSetF, mFrz, mApp, mExt, mPop, mSetIx, mBin, mBinT, mUn, mPrim, mT, mAndT, mOrT, mNotT, mAndV, mOrV, mNotV, mIsi, mLst, mDisp, mTup, mCell, mSl, mNo, mSome, mIt, mRng1, mRng2, mFor, mComp, mYes, mThru, mHeard, mBrk, mCont, mCh, mChT, mCh3, mCat, fAdd, fSub, fMul, fDiv, fMod, fPow, fNeg, fLt, fLe, fGt, fGe, fIsN, fNotN, fEq, fNe, fIn, fNin, fIx, fSl, fLen, fInt, fMax2, fMin2, fAbs, fList, fTuple, svK, svKw, sget, sset, startR, retE, isB, ownK, lstK, intK, seqK, unpT, setK, svOk, bN, bT, sputs, isN_non, isN_bl, isN_int, isN_str, isN_tup, isN_lst, isN_klst, if_true, if_false, Bool.false_eq_true, reduceIte, Bool.not_true, Bool.not_false, decide_true, decide_false, Bool.true_and, Bool.false_and, Bool.and_true, Bool.and_false, Bool.true_or, Bool.false_or, Bool.or_true, Bool.or_false, and_true, true_and, List.length_cons, List.length_nil, List.replicate_succ, List.replicate_zero, Nat.reduceSub]
    cases x with
    | tup l =>
      simp only [eqD_int]
      refine ⟨⟨by simp [D.okE], by decide⟩, ?_⟩
      by_cases hl : (l.length : Int) = 3
      · simp only [hl, mSeq, mSet, mM, mCall, mCons, mNil, mVar, mVarW, mC, mIfS, mIf, mRet, mRetN, mExpr, mPass, mRaise, mUnp, mPar, mPar2F, mSetF, mFrz, mApp, mExt, mPop, mSetIx, mBin, mBinT, mUn, mPrim, mT, mAndT, mOrT, mNotT, mAndV, mOrV, mNotV, mIsi, mLst, mDisp, mTup, mCell, mSl, mNo, mSome, mIt, mRng1, mRng2, mFor, mComp, mYes, mThru, mHeard, mBrk, mCont, mCh, mChT, mCh3, mCat, fAdd, fSub, fMul, fDiv, fMod, fPow, fNeg, fLt, fLe, fGt, fGe, fIsN, fNotN, fEq, fNe, fIn, fNin, fIx, fSl, fLen, fInt, fMax2, fMin2, fAbs, fList, fTuple, svK, svKw, sget, sset, startR, retE, isB, ownK, lstK, intK, seqK, unpT, setK, svOk, bN, bT, sputs, isN_non, isN_bl, isN_int, isN_str, isN_tup, isN_lst, isN_klst, if_true, if_false, Bool.false_eq_true, reduceIte, Bool.not_true, Bool.not_false, decide_true, decide_false, Bool.true_and, Bool.false_and, Bool.and_true, Bool.and_false, Bool.true_or, Bool.false_or, Bool.or_true, Bool.or_false, and_true, true_and, List.length_cons, List.length_nil, List.replicate_succ, List.replicate_zero, Nat.reduceSub]
        match l, hl with
        | [a, b, c], _ =>
          simp only [D.okE, D.okEs, Bool.and_eq_true] at h1
          obtain ⟨_, ha, hb, hc, _⟩ := h1
          have na := D.okE_noref ha
          have nb := D.okE_noref hb
          have nc := D.okE_noref hc
          refine ⟨a, at0, ?_⟩
          try simp only [c_whole, mSeq, mSet, mM, mCall, mCons, mNil, mVar, mVarW, mC, mIfS, mIf, mRet, mRetN, mExpr, mPass, mRaise, mUnp, mPar, mPar2F, mSetF, mFrz, mApp, mExt, mPop, mSetIx, mBin, mBinT, mUn, mPrim, mT, mAndT, mOrT, mNotT, mAndV, mOrV, mNotV, mIsi, mLst, mDisp, mTup, mCell, mSl, mNo, mSome, mIt, mRng1, mRng2, mFor, mComp, mYes, mThru, mHeard, mBrk, mCont, mCh, mChT, mCh3, mCat, fAdd, fSub, fMul, fDiv, fMod, fPow, fNeg, fLt, fLe, fGt, fGe, fIsN, fNotN, fEq, fNe, fIn, fNin, fIx, fSl, fLen, fInt, fMax2, fMin2, fAbs, fList, fTuple, svK, svKw, sget, sset, startR, retE, isB, ownK, lstK, intK, seqK, unpT, setK, svOk, bN, bT, sputs, isN_non, isN_bl, isN_int, isN_str, isN_tup, isN_lst, isN_klst, if_true, if_false, Bool.false_eq_true, reduceIte, Bool.not_true, Bool.not_false, decide_true, decide_false, Bool.true_and, Bool.false_and, Bool.and_true, Bool.and_false, Bool.true_or, Bool.false_or, Bool.or_true, Bool.or_false, and_true, true_and, List.length_cons, List.length_nil, List.replicate_succ, List.replicate_zero, Nat.reduceSub]
          refine ⟨na, ?_⟩
          rw [fault_tup] at hQ
          cases hwa : a.wh with
          | false =>
            rw [if_pos hwa] at hQ
            exact hQ
          | true =>
            rw [if_neg (by simp [hwa])] at hQ
            try simp only [mSeq, mSet, mM, mCall, mCons, mNil, mVar, mVarW, mC, mIfS, mIf, mRet, mRetN, mExpr, mPass, mRaise, mUnp, mPar, mPar2F, mSetF, mFrz, mApp, mExt, mPop, mSetIx, mBin, mBinT, mUn, mPrim, mT, mAndT, mOrT, mNotT, mAndV, mOrV, mNotV, mIsi, mLst, mDisp, mTup, mCell, mSl, mNo, mSome, mIt, mRng1, mRng2, mFor, mComp, mYes, mThru, mHeard, mBrk, mCont, mCh, mChT, mCh3, mCat, fAdd, fSub, fMul, fDiv, fMod, fPow, fNeg, fLt, fLe, fGt, fGe, fIsN, fNotN, fEq, fNe, fIn, fNin, fIx, fSl, fLen, fInt, fMax2, fMin2, fAbs, fList, fTuple, svK, svKw, sget, sset, startR, retE, isB, ownK, lstK, intK, seqK, unpT, setK, svOk, bN, bT, sputs, isN_non, isN_bl, isN_int, isN_str, isN_tup, isN_lst, isN_klst, if_true, if_false, Bool.false_eq_true, reduceIte, Bool.not_true, Bool.not_false, decide_true, decide_false, Bool.true_and, Bool.false_and, Bool.and_true, Bool.and_false, Bool.true_or, Bool.false_or, Bool.or_true, Bool.or_false, and_true, true_and, List.length_cons, List.length_nil, List.replicate_succ, List.replicate_zero, Nat.reduceSub]
            refine hmi _ _ _ _ ?_
            try simp only [forD, mSeq, mSet, mM, mCall, mCons, mNil, mVar, mVarW, mC, mIfS, mIf, mRet, mRetN, mExpr, mPass, mRaise, mUnp, mPar, mPar2F, mSetF, mFrz, mApp, mExt, mPop, mSetIx, mBin, mBinT, mUn, mPrim, mT, mAndT, mOrT, mNotT, mAndV, mOrV, mNotV, mIsi, mLst, mDisp, mTup, mCell, mSl, mNo, mSome, mIt, mRng1, mRng2, mFor, mComp, mYes, mThru, mHeard, mBrk, mCont, mCh, mChT, mCh3, mCat, fAdd, fSub, fMul, fDiv, fMod, fPow, fNeg, fLt, fLe, fGt, fGe, fIsN, fNotN, fEq, fNe, fIn, fNin, fIx, fSl, fLen, fInt, fMax2, fMin2, fAbs, fList, fTuple, svK, svKw, sget, sset, startR, retE, isB, ownK, lstK, intK, seqK, unpT, setK, svOk, bN, bT, sputs, isN_non, isN_bl, isN_int, isN_str, isN_tup, isN_lst, isN_klst, if_true, if_false, Bool.false_eq_true, reduceIte, Bool.not_true, Bool.not_false, decide_true, decide_false, Bool.true_and, Bool.false_and, Bool.and_true, Bool.and_false, Bool.true_or, Bool.false_or, Bool.or_true, Bool.or_false, and_true, true_and, List.length_cons, List.length_nil, List.replicate_succ, List.replicate_zero, Nat.reduceSub]
            refine ⟨b, at1, ?_⟩
            cases hbn : b.isN with
            | true =>
              have ob : opt b = true := by rw [opt_cases, hbn]; rfl
              rw [if_neg (by simp [ob])] at hQ
              try simp only [mSeq, mSet, mM, mCall, mCons, mNil, mVar, mVarW, mC, mIfS, mIf, mRet, mRetN, mExpr, mPass, mRaise, mUnp, mPar, mPar2F, mSetF, mFrz, mApp, mExt, mPop, mSetIx, mBin, mBinT, mUn, mPrim, mT, mAndT, mOrT, mNotT, mAndV, mOrV, mNotV, mIsi, mLst, mDisp, mTup, mCell, mSl, mNo, mSome, mIt, mRng1, mRng2, mFor, mComp, mYes, mThru, mHeard, mBrk, mCont, mCh, mChT, mCh3, mCat, fAdd, fSub, fMul, fDiv, fMod, fPow, fNeg, fLt, fLe, fGt, fGe, fIsN, fNotN, fEq, fNe, fIn, fNin, fIx, fSl, fLen, fInt, fMax2, fMin2, fAbs, fList, fTuple, svK, svKw, sget, sset, startR, retE, isB, ownK, lstK, intK, seqK, unpT, setK, svOk, bN, bT, sputs, isN_non, isN_bl, isN_int, isN_str, isN_tup, isN_lst, isN_klst, if_true, if_false, Bool.false_eq_true, reduceIte, Bool.not_true, Bool.not_false, decide_true, decide_false, Bool.true_and, Bool.false_and, Bool.and_true, Bool.and_false, Bool.true_or, Bool.false_or, Bool.or_true, Bool.or_false, and_true, true_and, List.length_cons, List.length_nil, List.replicate_succ, List.replicate_zero, Nat.reduceSub]
              refine ⟨c, at2, ?_⟩
              cases hcn : c.isN with
              | true =>
                have oc : opt c = true := by rw [opt_cases, hcn]; rfl
                rw [if_neg (by simp [oc])] at hQ
                try simp only [mSeq, mSet, mM, mCall, mCons, mNil, mVar, mVarW, mC, mIfS, mIf, mRet, mRetN, mExpr, mPass, mRaise, mUnp, mPar, mPar2F, mSetF, mFrz, mApp, mExt, mPop, mSetIx, mBin, mBinT, mUn, mPrim, mT, mAndT, mOrT, mNotT, mAndV, mOrV, mNotV, mIsi, mLst, mDisp, mTup, mCell, mSl, mNo, mSome, mIt, mRng1, mRng2, mFor, mComp, mYes, mThru, mHeard, mBrk, mCont, mCh, mChT, mCh3, mCat, fAdd, fSub, fMul, fDiv, fMod, fPow, fNeg, fLt, fLe, fGt, fGe, fIsN, fNotN, fEq, fNe, fIn, fNin, fIx, fSl, fLen, fInt, fMax2, fMin2, fAbs, fList, fTuple, svK, svKw, sget, sset, startR, retE, isB, ownK, lstK, intK, seqK, unpT, setK, svOk, bN, bT, sputs, isN_non, isN_bl, isN_int, isN_str, isN_tup, isN_lst, isN_klst, if_true, if_false, Bool.false_eq_true, reduceIte, Bool.not_true, Bool.not_false, decide_true, decide_false, Bool.true_and, Bool.false_and, Bool.and_true, Bool.and_false, Bool.true_or, Bool.false_or, Bool.or_true, Bool.or_false, and_true, true_and, List.length_cons, List.length_nil, List.replicate_succ, List.replicate_zero, Nat.reduceSub]
                exact htl ob oc hQ _
              | false =>
                try simp only [mSeq, mSet, mM, mCall, mCons, mNil, mVar, mVarW, mC, mIfS, mIf, mRet, mRetN, mExpr, mPass, mRaise, mUnp, mPar, mPar2F, mSetF, mFrz, mApp, mExt, mPop, mSetIx, mBin, mBinT, mUn, mPrim, mT, mAndT, mOrT, mNotT, mAndV, mOrV, mNotV, mIsi, mLst, mDisp, mTup, mCell, mSl, mNo, mSome, mIt, mRng1, mRng2, mFor, mComp, mYes, mThru, mHeard, mBrk, mCont, mCh, mChT, mCh3, mCat, fAdd, fSub, fMul, fDiv, fMod, fPow, fNeg, fLt, fLe, fGt, fGe, fIsN, fNotN, fEq, fNe, fIn, fNin, fIx, fSl, fLen, fInt, fMax2, fMin2, fAbs, fList, fTuple, svK, svKw, sget, sset, startR, retE, isB, ownK, lstK, intK, seqK, unpT, setK, svOk, bN, bT, sputs, isN_non, isN_bl, isN_int, isN_str, isN_tup, isN_lst, isN_klst, if_true, if_false, Bool.false_eq_true, reduceIte, Bool.not_true, Bool.not_false, decide_true, decide_false, Bool.true_and, Bool.false_and, Bool.and_true, Bool.and_false, Bool.true_or, Bool.false_or, Bool.or_true, Bool.or_false, and_true, true_and, List.length_cons, List.length_nil, List.replicate_succ, List.replicate_zero, Nat.reduceSub]
                refine ⟨c, at2, ?_⟩
                try simp only [c_whole, mSeq, mSet, mM, mCall, mCons, mNil, mVar, mVarW, mC, mIfS, mIf, mRet, mRetN, mExpr, mPass, mRaise, mUnp, mPar, mPar2F, mSetF, mFrz, mApp, mExt, mPop, mSetIx, mBin, mBinT, mUn, mPrim, mT, mAndT, mOrT, mNotT, mAndV, mOrV, mNotV, mIsi, mLst, mDisp, mTup, mCell, mSl, mNo, mSome, mIt, mRng1, mRng2, mFor, mComp, mYes, mThru, mHeard, mBrk, mCont, mCh, mChT, mCh3, mCat, fAdd, fSub, fMul, fDiv, fMod, fPow, fNeg, fLt, fLe, fGt, fGe, fIsN, fNotN, fEq, fNe, fIn, fNin, fIx, fSl, fLen, fInt, fMax2, fMin2, fAbs, fList, fTuple, svK, svKw, sget, sset, startR, retE, isB, ownK, lstK, intK, seqK, unpT, setK, svOk, bN, bT, sputs, isN_non, isN_bl, isN_int, isN_str, isN_tup, isN_lst, isN_klst, if_true, if_false, Bool.false_eq_true, reduceIte, Bool.not_true, Bool.not_false, decide_true, decide_false, Bool.true_and, Bool.false_and, Bool.and_true, Bool.and_false, Bool.true_or, Bool.false_or, Bool.or_true, Bool.or_false, and_true, true_and, List.length_cons, List.length_nil, List.replicate_succ, List.replicate_zero, Nat.reduceSub]
                refine ⟨nc, ?_⟩
                cases hcw : c.wh with
                | false =>
                  have oc : opt c = false := by rw [opt_cases, hcn, hcw]; rfl
                  rw [if_pos oc] at hQ
                  exact hQ
                | true =>
                  have oc : opt c = true := by rw [opt_cases, hcw]; simp
                  rw [if_neg (by simp [oc])] at hQ
                  try simp only [mSeq, mSet, mM, mCall, mCons, mNil, mVar, mVarW, mC, mIfS, mIf, mRet, mRetN, mExpr, mPass, mRaise, mUnp, mPar, mPar2F, mSetF, mFrz, mApp, mExt, mPop, mSetIx, mBin, mBinT, mUn, mPrim, mT, mAndT, mOrT, mNotT, mAndV, mOrV, mNotV, mIsi, mLst, mDisp, mTup, mCell, mSl, mNo, mSome, mIt, mRng1, mRng2, mFor, mComp, mYes, mThru, mHeard, mBrk, mCont, mCh, mChT, mCh3, mCat, fAdd, fSub, fMul, fDiv, fMod, fPow, fNeg, fLt, fLe, fGt, fGe, fIsN, fNotN, fEq, fNe, fIn, fNin, fIx, fSl, fLen, fInt, fMax2, fMin2, fAbs, fList, fTuple, svK, svKw, sget, sset, startR, retE, isB, ownK, lstK, intK, seqK, unpT, setK, svOk, bN, bT, sputs, isN_non, isN_bl, isN_int, isN_str, isN_tup, isN_lst, isN_klst, if_true, if_false, Bool.false_eq_true, reduceIte, Bool.not_true, Bool.not_false, decide_true, decide_false, Bool.true_and, Bool.false_and, Bool.and_true, Bool.and_false, Bool.true_or, Bool.false_or, Bool.or_true, Bool.or_false, and_true, true_and, List.length_cons, List.length_nil, List.replicate_succ, List.replicate_zero, Nat.reduceSub]
                  exact htl ob oc hQ _
            | false =>
              try simp only [mSeq, mSet, mM, mCall, mCons, mNil, mVar, mVarW, mC, mIfS, mIf, mRet, mRetN, mExpr, mPass, mRaise, mUnp, mPar, mPar2F, mSetF, mFrz, mApp, mExt, mPop, mSetIx, mBin, mBinT, mUn, mPrim, mT, mAndT, mOrT, mNotT, mAndV, mOrV, mNotV, mIsi, mLst, mDisp, mTup, mCell, mSl, mNo, mSome, mIt, mRng1, mRng2, mFor, mComp, mYes, mThru, mHeard, mBrk, mCont, mCh, mChT, mCh3, mCat, fAdd, fSub, fMul, fDiv, fMod, fPow, fNeg, fLt, fLe, fGt, fGe, fIsN, fNotN, fEq, fNe, fIn, fNin, fIx, fSl, fLen, fInt, fMax2, fMin2, fAbs, fList, fTuple, svK, svKw, sget, sset, startR, retE, isB, ownK, lstK, intK, seqK, unpT, setK, svOk, bN, bT, sputs, isN_non, isN_bl, isN_int, isN_str, isN_tup, isN_lst, isN_klst, if_true, if_false, Bool.false_eq_true, reduceIte, Bool.not_true, Bool.not_false, decide_true, decide_false, Bool.true_and, Bool.false_and, Bool.and_true, Bool.and_false, Bool.true_or, Bool.false_or, Bool.or_true, Bool.or_false, and_true, true_and, List.length_cons, List.length_nil, List.replicate_succ, List.replicate_zero, Nat.reduceSub]
              refine ⟨b, at1, ?_⟩
              try simp only [c_whole, mSeq, mSet, mM, mCall, mCons, mNil, mVar, mVarW, mC, mIfS, mIf, mRet, mRetN, mExpr, mPass, mRaise, mUnp, mPar, mPar2F, mSetF, mFrz, mApp, mExt, mPop, mSetIx, mBin, mBinT, mUn, mPrim, mT, mAndT, mOrT, mNotT, mAndV, mOrV, mNotV, mIsi, mLst, mDisp, mTup, mCell, mSl, mNo, mSome, mIt, mRng1, mRng2, mFor, mComp, mYes, mThru, mHeard, mBrk, mCont, mCh, mChT, mCh3, mCat, fAdd, fSub, fMul, fDiv, fMod, fPow, fNeg, fLt, fLe, fGt, fGe, fIsN, fNotN, fEq, fNe, fIn, fNin, fIx, fSl, fLen, fInt, fMax2, fMin2, fAbs, fList, fTuple, svK, svKw, sget, sset, startR, retE, isB, ownK, lstK, intK, seqK, unpT, setK, svOk, bN, bT, sputs, isN_non, isN_bl, isN_int, isN_str, isN_tup, isN_lst, isN_klst, if_true, if_false, Bool.false_eq_true, reduceIte, Bool.not_true, Bool.not_false, decide_true, decide_false, Bool.true_and, Bool.false_and, Bool.and_true, Bool.and_false, Bool.true_or, Bool.false_or, Bool.or_true, Bool.or_false, and_true, true_and, List.length_cons, List.length_nil, List.replicate_succ, List.replicate_zero, Nat.reduceSub]
              refine ⟨nb, ?_⟩
              cases hbw : b.wh with
              | false =>
                have ob : opt b = false := by rw [opt_cases, hbn, hbw]; rfl
                rw [if_pos ob] at hQ
                exact hQ
              | true =>
                have ob : opt b = true := by rw [opt_cases, hbw]; simp
                rw [if_neg (by simp [ob])] at hQ
                try simp only [mSeq, mSet, mM, mCall, mCons, mNil, mVar, mVarW, mC, mIfS, mIf, mRet, mRetN, mExpr, mPass, mRaise, mUnp, mPar, mPar2F, mSetF, mFrz, mApp, mExt, mPop, mSetIx, mBin, mBinT, mUn, mPrim, mT, mAndT, mOrT, mNotT, mAndV, mOrV, mNotV, mIsi, mLst, mDisp, mTup, mCell, mSl, mNo, mSome, mIt, mRng1, mRng2, mFor, mComp, mYes, mThru, mHeard, mBrk, mCont, mCh, mChT, mCh3, mCat, fAdd, fSub, fMul, fDiv, fMod, fPow, fNeg, fLt, fLe, fGt, fGe, fIsN, fNotN, fEq, fNe, fIn, fNin, fIx, fSl, fLen, fInt, fMax2, fMin2, fAbs, fList, fTuple, svK, svKw, sget, sset, startR, retE, isB, ownK, lstK, intK, seqK, unpT, setK, svOk, bN, bT, sputs, isN_non, isN_bl, isN_int, isN_str, isN_tup, isN_lst, isN_klst, if_true, if_false, Bool.false_eq_true, reduceIte, Bool.not_true, Bool.not_false, decide_true, decide_false, Bool.true_and, Bool.false_and, Bool.and_true, Bool.and_false, Bool.true_or, Bool.false_or, Bool.or_true, Bool.or_false, and_true, true_and, List.length_cons, List.length_nil, List.replicate_succ, List.replicate_zero, Nat.reduceSub]
                refine ⟨c, at2, ?_⟩
                cases hcn : c.isN with
                | true =>
                  have oc : opt c = true := by rw [opt_cases, hcn]; rfl
                  rw [if_neg (by simp [oc])] at hQ
                  try simp only [mSeq, mSet, mM, mCall, mCons, mNil, mVar, mVarW, mC, mIfS, mIf, mRet, mRetN, mExpr, mPass, mRaise, mUnp, mPar, mPar2F, mSetF, mFrz, mApp, mExt, mPop, mSetIx, mBin, mBinT, mUn, mPrim, mT, mAndT, mOrT, mNotT, mAndV, mOrV, mNotV, mIsi, mLst, mDisp, mTup, mCell, mSl, mNo, mSome, mIt, mRng1, mRng2, mFor, mComp, mYes, mThru, mHeard, mBrk, mCont, mCh, mChT, mCh3, mCat, fAdd, fSub, fMul, fDiv, fMod, fPow, fNeg, fLt, fLe, fGt, fGe, fIsN, fNotN, fEq, fNe, fIn, fNin, fIx, fSl, fLen, fInt, fMax2, fMin2, fAbs, fList, fTuple, svK, svKw, sget, sset, startR, retE, isB, ownK, lstK, intK, seqK, unpT, setK, svOk, bN, bT, sputs, isN_non, isN_bl, isN_int, isN_str, isN_tup, isN_lst, isN_klst, if_true, if_false, Bool.false_eq_true, reduceIte, Bool.not_true, Bool.not_false, decide_true, decide_false, Bool.true_and, Bool.false_and, Bool.and_true, Bool.and_false, Bool.true_or, Bool.false_or, Bool.or_true, Bool.or_false, and_true, true_and, List.length_cons, List.length_nil, List.replicate_succ, List.replicate_zero, Nat.reduceSub]
                  exact htl ob oc hQ _
                | false =>
                  try simp only [mSeq, mSet, mM, mCall, mCons, mNil, mVar, mVarW, mC, mIfS, mIf, mRet, mRetN, mExpr, mPass, mRaise, mUnp, mPar, mPar2F, mSetF, mFrz, mApp, mExt, mPop, mSetIx, mBin, mBinT, mUn, mPrim, mT, mAndT, mOrT, mNotT, mAndV, mOrV, mNotV, mIsi, mLst, mDisp, mTup, mCell, mSl, mNo, mSome, mIt, mRng1, mRng2, mFor, mComp, mYes, mThru, mHeard, mBrk, mCont, mCh, mChT, mCh3, mCat, fAdd, fSub, fMul, fDiv, fMod, fPow, fNeg, fLt, fLe, fGt, fGe, fIsN, fNotN, fEq, fNe, fIn, fNin, fIx, fSl, fLen, fInt, fMax2, fMin2, fAbs, fList, fTuple, svK, svKw, sget, sset, startR, retE, isB, ownK, lstK, intK, seqK, unpT, setK, svOk, bN, bT, sputs, isN_non, isN_bl, isN_int, isN_str, isN_tup, isN_lst, isN_klst, if_true, if_false, Bool.false_eq_true, reduceIte, Bool.not_true, Bool.not_false, decide_true, decide_false, Bool.true_and, Bool.false_and, Bool.and_true, Bool.and_false, Bool.true_or, Bool.false_or, Bool.or_true, Bool.or_false, and_true, true_and, List.length_cons, List.length_nil, List.replicate_succ, List.replicate_zero, Nat.reduceSub]
                  refine ⟨c, at2, ?_⟩
                  try simp only [c_whole, mSeq, mSet, mM, mCall, mCons, mNil, mVar, mVarW, mC, mIfS, mIf, mRet, mRetN, mExpr, mPass, mRaise, mUnp, mPar, mPar2F, mSetF, mFrz, mApp, mExt, mPop, mSetIx, mBin, mBinT, mUn, mPrim, mT, mAndT, mOrT, mNotT, mAndV, mOrV, mNotV, mIsi, mLst, mDisp, mTup, mCell, mSl, mNo, mSome, mIt, mRng1, mRng2, mFor, mComp, mYes, mThru, mHeard, mBrk, mCont, mCh, mChT, mCh3, mCat, fAdd, fSub, fMul, fDiv, fMod, fPow, fNeg, fLt, fLe, fGt, fGe, fIsN, fNotN, fEq, fNe, fIn, fNin, fIx, fSl, fLen, fInt, fMax2, fMin2, fAbs, fList, fTuple, svK, svKw, sget, sset, startR, retE, isB, ownK, lstK, intK, seqK, unpT, setK, svOk, bN, bT, sputs, isN_non, isN_bl, isN_int, isN_str, isN_tup, isN_lst, isN_klst, if_true, if_false, Bool.false_eq_true, reduceIte, Bool.not_true, Bool.not_false, decide_true, decide_false, Bool.true_and, Bool.false_and, Bool.and_true, Bool.and_false, Bool.true_or, Bool.false_or, Bool.or_true, Bool.or_false, and_true, true_and, List.length_cons, List.length_nil, List.replicate_succ, List.replicate_zero, Nat.reduceSub]
                  refine ⟨nc, ?_⟩
                  cases hcw : c.wh with
                  | false =>
                    have oc : opt c = false := by rw [opt_cases, hcn, hcw]; rfl
                    rw [if_pos oc] at hQ
                    exact hQ
                  | true =>
                    have oc : opt c = true := by rw [opt_cases, hcw]; simp
                    rw [if_neg (by simp [oc])] at hQ
                    try simp only [mSeq, mSet, mM, mCall, mCons, mNil, mVar, mVarW, mC, mIfS, mIf, mRet, mRetN, mExpr, mPass, mRaise, mUnp, mPar, mPar2F, mSetF, mFrz, mApp, mExt, mPop, mSetIx, mBin, mBinT, mUn, mPrim, mT, mAndT, mOrT, mNotT, mAndV, mOrV, mNotV, mIsi, mLst, mDisp, mTup, mCell, mSl, mNo, mSome, mIt, mRng1, mRng2, mFor, mComp, mYes, mThru, mHeard, mBrk, mCont, mCh, mChT, mCh3, mCat, fAdd, fSub, fMul, fDiv, fMod, fPow, fNeg, fLt, fLe, fGt, fGe, fIsN, fNotN, fEq, fNe, fIn, fNin, fIx, fSl, fLen, fInt, fMax2, fMin2, fAbs, fList, fTuple, svK, svKw, sget, sset, startR, retE, isB, ownK, lstK, intK, seqK, unpT, setK, svOk, bN, bT, sputs, isN_non, isN_bl, isN_int, isN_str, isN_tup, isN_lst, isN_klst, if_true, if_false, Bool.false_eq_true, reduceIte, Bool.not_true, Bool.not_false, decide_true, decide_false, Bool.true_and, Bool.false_and, Bool.and_true, Bool.and_false, Bool.true_or, Bool.false_or, Bool.or_true, Bool.or_false, and_true, true_and, List.length_cons, List.length_nil, List.replicate_succ, List.replicate_zero, Nat.reduceSub]
                    exact htl ob oc hQ _
      · simp only [hl, mSeq, mSet, mM, mCall, mCons, mNil, mVar, mVarW, mC, mIfS, mIf, mRet, mRetN, mExpr, mPass, mRaise, mUnp, mPar, mPar2F, mSetF, mFrz, mApp, mExt, mPop, mSetIx, mBin, mBinT, mUn, mPrim, mT, mAndT, mOrT, mNotT, mAndV, mOrV, mNotV, mIsi, mLst, mDisp, mTup, mCell, mSl, mNo, mSome, mIt, mRng1, mRng2, mFor, mComp, mYes, mThru, mHeard, mBrk, mCont, mCh, mChT, mCh3, mCat, fAdd, fSub, fMul, fDiv, fMod, fPow, fNeg, fLt, fLe, fGt, fGe, fIsN, fNotN, fEq, fNe, fIn, fNin, fIx, fSl, fLen, fInt, fMax2, fMin2, fAbs, fList, fTuple, svK, svKw, sget, sset, startR, retE, isB, ownK, lstK, intK, seqK, unpT, setK, svOk, bN, bT, sputs, isN_non, isN_bl, isN_int, isN_str, isN_tup, isN_lst, isN_klst, if_true, if_false, Bool.false_eq_true, reduceIte, Bool.not_true, Bool.not_false, decide_true, decide_false, Bool.true_and, Bool.false_and, Bool.and_true, Bool.and_false, Bool.true_or, Bool.false_or, Bool.or_true, Bool.or_false, and_true, true_and, List.length_cons, List.length_nil, List.replicate_succ, List.replicate_zero, Nat.reduceSub]
        have : fault (.tup l) = some (-1) := by
          match l, hl with
          | [], _ => rfl
          | [_], _ => rfl
          | [_, _], _ => rfl
          | [_, _, _], h => exact absurd rfl h
          | _ :: _ :: _ :: _ :: _, _ => rfl
        rw [this] at hQ
        exact hQ
    | _ => simp [D.isA] at hx
theorem h_wrong_change (ds : List D) (S : Store) (Q : EK) (E : XKd) (hn : ds.length = 1) (h : c_fault ds S Q E) : m_wrong_change c_whole (startR 2 ds) S (retE Q E) :=
  fault_core (mi := mIt (mTup (mCons (mC (.int 1)) (mCons (mC (.int 2)) mNil)))) (fun ρ S q E h => by simp only [mSeq, mSet, mM, mCall, mCons, mNil, mVar, mVarW, mC, mIfS, mIf, mRet, mRetN, mExpr, mPass, mRaise, mUnp, mPar, mPar2F, mSetF, mFrz, mApp, mExt, mPop, mSetIx, mBin, mBinT, mUn, mPrim, mT, mAndT, mOrT, mNotT, mAndV, mOrV, mNotV, mIsi, mLst, mDisp, mTup, mCell, mSl, mNo, mSome, mIt, mRng1, mRng2, mFor, mComp, mYes, mThru, mHeard, mBrk, mCont, mCh, mChT, mCh3, mCat, fAdd, fSub, fMul, fDiv, fMod, fPow, fNeg, fLt, fLe, fGt, fGe, fIsN, fNotN, fEq, fNe, fIn, fNin, fIx, fSl, fLen, fInt, fMax2, fMin2, fAbs, fList, fTuple, svK, svKw, sget, sset, startR, retE, isB, ownK, lstK, intK, seqK, unpT, setK, svOk, bN, bT, sputs, isN_non, isN_bl, isN_int, isN_str, isN_tup, isN_lst, isN_klst, if_true, if_false, Bool.false_eq_true, reduceIte, Bool.not_true, Bool.not_false, decide_true, decide_false, Bool.true_and, Bool.false_and, Bool.and_true, Bool.and_false, Bool.true_or, Bool.false_or, Bool.or_true, Bool.or_false, and_true, true_and, List.length_cons, List.length_nil, List.replicate_succ, List.replicate_zero, Nat.reduceSub]; exact ⟨by decide, h⟩) (fun ob oc h E => wc_tail ob oc h E) ds S Q E hn h
theorem h_change_fault (ds : List D) (S : Store) (Q : EK) (E : XKd) (hn : ds.length = 1) (h : c_fault ds S Q E) : m_change_fault c_whole (startR 2 ds) S (retE Q E) :=
  fault_core (mi := mIt (mLst (mDisp (mCons (mC (.int 1)) (mCons (mC (.int 2)) mNil))))) (fun ρ S q E h => by simp only [mSeq, mSet, mM, mCall, mCons, mNil, mVar, mVarW, mC, mIfS, mIf, mRet, mRetN, mExpr, mPass, mRaise, mUnp, mPar, mPar2F, mSetF, mFrz, mApp, mExt, mPop, mSetIx, mBin, mBinT, mUn, mPrim, mT, mAndT, mOrT, mNotT, mAndV, mOrV, mNotV, mIsi, mLst, mDisp, mTup, mCell, mSl, mNo, mSome, mIt, mRng1, mRng2, mFor, mComp, mYes, mThru, mHeard, mBrk, mCont, mCh, mChT, mCh3, mCat, fAdd, fSub, fMul, fDiv, fMod, fPow, fNeg, fLt, fLe, fGt, fGe, fIsN, fNotN, fEq, fNe, fIn, fNin, fIx, fSl, fLen, fInt, fMax2, fMin2, fAbs, fList, fTuple, svK, svKw, sget, sset, startR, retE, isB, ownK, lstK, intK, seqK, unpT, setK, svOk, bN, bT, sputs, isN_non, isN_bl, isN_int, isN_str, isN_tup, isN_lst, isN_klst, if_true, if_false, Bool.false_eq_true, reduceIte, Bool.not_true, Bool.not_false, decide_true, decide_false, Bool.true_and, Bool.false_and, Bool.and_true, Bool.and_false, Bool.true_or, Bool.false_or, Bool.or_true, Bool.or_false, and_true, true_and, List.length_cons, List.length_nil, List.replicate_succ, List.replicate_zero, Nat.reduceSub]; exact ⟨by decide, h⟩) (fun ob oc h E => cf_tail ob oc h E) ds S Q E hn h

/-! ### what comes of a change -/
def m_number (c_whole : Con) : MS := (mIfS (mNotT (mT (mCall 1 c_whole (mCons (mVar 0) mNil)))) (mRaise "BadNumber" (mVar 0)) mPass)
def c_number : Con := fun ds S Q E => match ds with
  | [x] => (∀ a, x ≠ .ref a) ∧ if x.wh = true then Q .non S else E "BadNumber" x S
  | _ => False
theorem h_number (ds : List D) (S : Store) (Q : EK) (E : XKd) (hn : ds.length = 1) (h : c_number ds S Q E) : m_number c_whole (startR 1 ds) S (retE Q E) := by
  obtain ⟨x, rfl⟩ := List.length_eq_one_iff.mp hn
  obtain ⟨h1, h⟩ := h
  try simp only [m_number, c_whole, mRaise, mSeq, mSet, mM, mCall, mCons, mNil, mVar, mVarW, mC, mIfS, mIf, mRet, mRetN, mExpr, mPass, mRaise, mUnp, mPar, mPar2F, mSetF, mFrz, mApp, mExt, mPop, mSetIx, mBin, mBinT, mUn, mPrim, mT, mAndT, mOrT, mNotT, mAndV, mOrV, mNotV, mIsi, mLst, mDisp, mTup, mCell, mSl, mNo, mSome, mIt, mRng1, mRng2, mFor, mComp, mYes, mThru, mHeard, mBrk, mCont, mCh, mChT, mCh3, mCat, fAdd, fSub, fMul, fDiv, fMod, fPow, fNeg, fLt, fLe, fGt, fGe, fIsN, fNotN, fEq, fNe, fIn, fNin, fIx, fSl, fLen, fInt, fMax2, fMin2, fAbs, fList, fTuple, svK, svKw, sget, sset, startR, retE, isB, ownK, lstK, intK, seqK, unpT, setK, svOk, bN, bT, sputs, isN_non, isN_bl, isN_int, isN_str, isN_tup, isN_lst, isN_klst, if_true, if_false, Bool.false_eq_true, reduceIte, Bool.not_true, Bool.not_false, decide_true, decide_false, Bool.true_and, Bool.false_and, Bool.and_true, Bool.and_false, Bool.true_or, Bool.false_or, Bool.or_true, Bool.or_false, and_true, true_and, List.length_cons, List.length_nil, List.replicate_succ, List.replicate_zero, Nat.reduceSub]
  refine ⟨h1, ?_⟩
  cases hw : x.wh with
  | true => rw [hw] at h; exact h
  | false => rw [hw] at h; exact h
/-- x + shift, but the ceil above it, the floor below it -/
def afterI (s : Int) (f c : D) (x : Int) : Int := match f with
  | .int fl => if x + s < fl then fl else (match c with
    | .int cl => if cl < x + s then cl else x + s
    | _ => x + s)
  | _ => (match c with
    | .int cl => if cl < x + s then cl else x + s
    | _ => x + s)
def m_after_of : MS := (mSeq (mUnp [3, 4, 5] (mM (mVar 0)))
  (mSeq (mSet 2 (mM (mBin fAdd (mVar 1) (mVar 3))))
  (mSeq (mIfS (mAndT (mBinT fNotN (mVar 4) (mC .non)) (mBinT fLt (mVar 2) (mVar 4))) (mRet (mM (mVar 4))) mPass)
  (mRet (mM (mIf (mAndT (mBinT fNotN (mVar 5) (mC .non)) (mBinT fGt (mVar 2) (mVar 5))) (mVar 5) (mVar 2)))))))
def c_after_of : Con := fun ds S Q _ => match ds with
  | [.tup [.int s, f, c], .int x] => (opt f = true ∧ opt c = true) ∧ Q (.int (afterI s f c x)) S
  | _ => False
theorem h_after_of (ds : List D) (S : Store) (Q : EK) (E : XKd) (hn : ds.length = 2) (h : c_after_of ds S Q E) : m_after_of (startR 6 ds) S (retE Q E) := by
  unfold c_after_of at h
  split at h
  · rename_i s f c x
    obtain ⟨⟨hf, hc⟩, hQ⟩ := h
    try simp only [m_after_of, mSeq, mSet, mM, mCall, mCons, mNil, mVar, mVarW, mC, mIfS, mIf, mRet, mRetN, mExpr, mPass, mRaise, mUnp, mPar, mPar2F, mSetF, mFrz, mApp, mExt, mPop, mSetIx, mBin, mBinT, mUn, mPrim, mT, mAndT, mOrT, mNotT, mAndV, mOrV, mNotV, mIsi, mLst, mDisp, mTup, mCell, mSl, mNo, mSome, mIt, mRng1, mRng2, mFor, mComp, mYes, mThru, mHeard, mBrk, mCont, mCh, mChT, mCh3, mCat, fAdd, fSub, fMul, fDiv, fMod, fPow, fNeg, fLt, fLe, fGt, fGe, fIsN, fNotN, fEq, fNe, fIn, fNin, fIx, fSl, fLen, fInt, fMax2, fMin2, fAbs, fList, fTuple, svK, svKw, sget, sset, startR, retE, isB, ownK, lstK, intK, seqK, unpT, setK, svOk, bN, bT, sputs, isN_non, isN_bl, isN_int, isN_str, isN_tup, isN_lst, isN_klst, if_true, if_false, Bool.false_eq_true, reduceIte, Bool.not_true, Bool.not_false, decide_true, decide_false, Bool.true_and, Bool.false_and, Bool.and_true, Bool.and_false, Bool.true_or, Bool.false_or, Bool.or_true, Bool.or_false, and_true, true_and, List.length_cons, List.length_nil, List.replicate_succ, List.replicate_zero, Nat.reduceSub]
    cases f <;> simp [opt] at hf <;> cases c <;> simp [opt] at hc <;> simp only [afterI] at hQ
    · exact hQ
    · rename_i cl
      by_cases q : cl < x + s
      · simp only [q, mSeq, mSet, mM, mCall, mCons, mNil, mVar, mVarW, mC, mIfS, mIf, mRet, mRetN, mExpr, mPass, mRaise, mUnp, mPar, mPar2F, mSetF, mFrz, mApp, mExt, mPop, mSetIx, mBin, mBinT, mUn, mPrim, mT, mAndT, mOrT, mNotT, mAndV, mOrV, mNotV, mIsi, mLst, mDisp, mTup, mCell, mSl, mNo, mSome, mIt, mRng1, mRng2, mFor, mComp, mYes, mThru, mHeard, mBrk, mCont, mCh, mChT, mCh3, mCat, fAdd, fSub, fMul, fDiv, fMod, fPow, fNeg, fLt, fLe, fGt, fGe, fIsN, fNotN, fEq, fNe, fIn, fNin, fIx, fSl, fLen, fInt, fMax2, fMin2, fAbs, fList, fTuple, svK, svKw, sget, sset, startR, retE, isB, ownK, lstK, intK, seqK, unpT, setK, svOk, bN, bT, sputs, isN_non, isN_bl, isN_int, isN_str, isN_tup, isN_lst, isN_klst, if_true, if_false, Bool.false_eq_true, reduceIte, Bool.not_true, Bool.not_false, decide_true, decide_false, Bool.true_and, Bool.false_and, Bool.and_true, Bool.and_false, Bool.true_or, Bool.false_or, Bool.or_true, Bool.or_false, and_true, true_and, List.length_cons, List.length_nil, List.replicate_succ, List.replicate_zero, Nat.reduceSub] at hQ ⊢; exact hQ
      · simp only [q, mSeq, mSet, mM, mCall, mCons, mNil, mVar, mVarW, mC, mIfS, mIf, mRet, mRetN, mExpr, mPass, mRaise, mUnp, mPar, mPar2F, mSetF, mFrz, mApp, mExt, mPop, mSetIx, mBin, mBinT, mUn, mPrim, mT, mAndT, mOrT, mNotT, mAndV, mOrV, mNotV, mIsi, mLst, mDisp, mTup, mCell, mSl, mNo, mSome, mIt, mRng1, mRng2, mFor, mComp, mYes, mThru, mHeard, mBrk, mCont, mCh, mChT, mCh3, mCat, fAdd, fSub, fMul, fDiv, fMod, fPow, fNeg, fLt, fLe, fGt, fGe, fIsN, fNotN, fEq, fNe, fIn, fNin, fIx, fSl, fLen, fInt, fMax2, fMin2, fAbs, fList, fTuple, svK, svKw, sget, sset, startR, retE, isB, ownK, lstK, intK, seqK, unpT, setK, svOk, bN, bT, sputs, isN_non, isN_bl, isN_int, isN_str, isN_tup, isN_lst, isN_klst, if_true, if_false, Bool.false_eq_true, reduceIte, Bool.not_true, Bool.not_false, decide_true, decide_false, Bool.true_and, Bool.false_and, Bool.and_true, Bool.and_false, Bool.true_or, Bool.false_or, Bool.or_true, Bool.or_false, and_true, true_and, List.length_cons, List.length_nil, List.replicate_succ, List.replicate_zero, Nat.reduceSub] at hQ ⊢; exact hQ
    · rename_i fl
      by_cases q : x + s < fl
      · simp only [q, mSeq, mSet, mM, mCall, mCons, mNil, mVar, mVarW, mC, mIfS, mIf, mRet, mRetN, mExpr, mPass, mRaise, mUnp, mPar, mPar2F, mSetF, mFrz, mApp, mExt, mPop, mSetIx, mBin, mBinT, mUn, mPrim, mT, mAndT, mOrT, mNotT, mAndV, mOrV, mNotV, mIsi, mLst, mDisp, mTup, mCell, mSl, mNo, mSome, mIt, mRng1, mRng2, mFor, mComp, mYes, mThru, mHeard, mBrk, mCont, mCh, mChT, mCh3, mCat, fAdd, fSub, fMul, fDiv, fMod, fPow, fNeg, fLt, fLe, fGt, fGe, fIsN, fNotN, fEq, fNe, fIn, fNin, fIx, fSl, fLen, fInt, fMax2, fMin2, fAbs, fList, fTuple, svK, svKw, sget, sset, startR, retE, isB, ownK, lstK, intK, seqK, unpT, setK, svOk, bN, bT, sputs, isN_non, isN_bl, isN_int, isN_str, isN_tup, isN_lst, isN_klst, if_true, if_false, Bool.false_eq_true, reduceIte, Bool.not_true, Bool.not_false, decide_true, decide_false, Bool.true_and, Bool.false_and, Bool.and_true, Bool.and_false, Bool.true_or, Bool.false_or, Bool.or_true, Bool.or_false, and_true, true_and, List.length_cons, List.length_nil, List.replicate_succ, List.replicate_zero, Nat.reduceSub] at hQ ⊢; exact hQ
      · simp only [q, mSeq, mSet, mM, mCall, mCons, mNil, mVar, mVarW, mC, mIfS, mIf, mRet, mRetN, mExpr, mPass, mRaise, mUnp, mPar, mPar2F, mSetF, mFrz, mApp, mExt, mPop, mSetIx, mBin, mBinT, mUn, mPrim, mT, mAndT, mOrT, mNotT, mAndV, mOrV, mNotV, mIsi, mLst, mDisp, mTup, mCell, mSl, mNo, mSome, mIt, mRng1, mRng2, mFor, mComp, mYes, mThru, mHeard, mBrk, mCont, mCh, mChT, mCh3, mCat, fAdd, fSub, fMul, fDiv, fMod, fPow, fNeg, fLt, fLe, fGt, fGe, fIsN, fNotN, fEq, fNe, fIn, fNin, fIx, fSl, fLen, fInt, fMax2, fMin2, fAbs, fList, fTuple, svK, svKw, sget, sset, startR, retE, isB, ownK, lstK, intK, seqK, unpT, setK, svOk, bN, bT, sputs, isN_non, isN_bl, isN_int, isN_str, isN_tup, isN_lst, isN_klst, if_true, if_false, Bool.false_eq_true, reduceIte, Bool.not_true, Bool.not_false, decide_true, decide_false, Bool.true_and, Bool.false_and, Bool.and_true, Bool.and_false, Bool.true_or, Bool.false_or, Bool.or_true, Bool.or_false, and_true, true_and, List.length_cons, List.length_nil, List.replicate_succ, List.replicate_zero, Nat.reduceSub] at hQ ⊢; exact hQ
    · rename_i fl cl
      by_cases q : x + s < fl
      · simp only [q, mSeq, mSet, mM, mCall, mCons, mNil, mVar, mVarW, mC, mIfS, mIf, mRet, mRetN, mExpr, mPass, mRaise, mUnp, mPar, mPar2F, mSetF, mFrz, mApp, mExt, mPop, mSetIx, mBin, mBinT, mUn, mPrim, mT, mAndT, mOrT, mNotT, mAndV, mOrV, mNotV, mIsi, mLst, mDisp, mTup, mCell, mSl, mNo, mSome, mIt, mRng1, mRng2, mFor, mComp, mYes, mThru, mHeard, mBrk, mCont, mCh, mChT, mCh3, mCat, fAdd, fSub, fMul, fDiv, fMod, fPow, fNeg, fLt, fLe, fGt, fGe, fIsN, fNotN, fEq, fNe, fIn, fNin, fIx, fSl, fLen, fInt, fMax2, fMin2, fAbs, fList, fTuple, svK, svKw, sget, sset, startR, retE, isB, ownK, lstK, intK, seqK, unpT, setK, svOk, bN, bT, sputs, isN_non, isN_bl, isN_int, isN_str, isN_tup, isN_lst, isN_klst, if_true, if_false, Bool.false_eq_true, reduceIte, Bool.not_true, Bool.not_false, decide_true, decide_false, Bool.true_and, Bool.false_and, Bool.and_true, Bool.and_false, Bool.true_or, Bool.false_or, Bool.or_true, Bool.or_false, and_true, true_and, List.length_cons, List.length_nil, List.replicate_succ, List.replicate_zero, Nat.reduceSub] at hQ ⊢; exact hQ
      · simp only [q, mSeq, mSet, mM, mCall, mCons, mNil, mVar, mVarW, mC, mIfS, mIf, mRet, mRetN, mExpr, mPass, mRaise, mUnp, mPar, mPar2F, mSetF, mFrz, mApp, mExt, mPop, mSetIx, mBin, mBinT, mUn, mPrim, mT, mAndT, mOrT, mNotT, mAndV, mOrV, mNotV, mIsi, mLst, mDisp, mTup, mCell, mSl, mNo, mSome, mIt, mRng1, mRng2, mFor, mComp, mYes, mThru, mHeard, mBrk, mCont, mCh, mChT, mCh3, mCat, fAdd, fSub, fMul, fDiv, fMod, fPow, fNeg, fLt, fLe, fGt, fGe, fIsN, fNotN, fEq, fNe, fIn, fNin, fIx, fSl, fLen, fInt, fMax2, fMin2, fAbs, fList, fTuple, svK, svKw, sget, sset, startR, retE, isB, ownK, lstK, intK, seqK, unpT, setK, svOk, bN, bT, sputs, isN_non, isN_bl, isN_int, isN_str, isN_tup, isN_lst, isN_klst, if_true, if_false, Bool.false_eq_true, reduceIte, Bool.not_true, Bool.not_false, decide_true, decide_false, Bool.true_and, Bool.false_and, Bool.and_true, Bool.and_false, Bool.true_or, Bool.false_or, Bool.or_true, Bool.or_false, and_true, true_and, List.length_cons, List.length_nil, List.replicate_succ, List.replicate_zero, Nat.reduceSub] at hQ ⊢
        by_cases q : cl < x + s
        · simp only [q, mSeq, mSet, mM, mCall, mCons, mNil, mVar, mVarW, mC, mIfS, mIf, mRet, mRetN, mExpr, mPass, mRaise, mUnp, mPar, mPar2F, mSetF, mFrz, mApp, mExt, mPop, mSetIx, mBin, mBinT, mUn, mPrim, mT, mAndT, mOrT, mNotT, mAndV, mOrV, mNotV, mIsi, mLst, mDisp, mTup, mCell, mSl, mNo, mSome, mIt, mRng1, mRng2, mFor, mComp, mYes, mThru, mHeard, mBrk, mCont, mCh, mChT, mCh3, mCat, fAdd, fSub, fMul, fDiv, fMod, fPow, fNeg, fLt, fLe, fGt, fGe, fIsN, fNotN, fEq, fNe, fIn, fNin, fIx, fSl, fLen, fInt, fMax2, fMin2, fAbs, fList, fTuple, svK, svKw, sget, sset, startR, retE, isB, ownK, lstK, intK, seqK, unpT, setK, svOk, bN, bT, sputs, isN_non, isN_bl, isN_int, isN_str, isN_tup, isN_lst, isN_klst, if_true, if_false, Bool.false_eq_true, reduceIte, Bool.not_true, Bool.not_false, decide_true, decide_false, Bool.true_and, Bool.false_and, Bool.and_true, Bool.and_false, Bool.true_or, Bool.false_or, Bool.or_true, Bool.or_false, and_true, true_and, List.length_cons, List.length_nil, List.replicate_succ, List.replicate_zero, Nat.reduceSub] at hQ ⊢; exact hQ
        · simp only [q, mSeq, mSet, mM, mCall, mCons, mNil, mVar, mVarW, mC, mIfS, mIf, mRet, mRetN, mExpr, mPass, mRaise, mUnp, mPar, mPar2F, mSetF, mFrz, mApp, mExt, mPop, mSetIx, mBin, mBinT, mUn, mPrim, mT, mAndT, mOrT, mNotT, mAndV, mOrV, mNotV, mIsi, mLst, mDisp, mTup, mCell, mSl, mNo, mSome, mIt, mRng1, mRng2, mFor, mComp, mYes, mThru, mHeard, mBrk, mCont, mCh, mChT, mCh3, mCat, fAdd, fSub, fMul, fDiv, fMod, fPow, fNeg, fLt, fLe, fGt, fGe, fIsN, fNotN, fEq, fNe, fIn, fNin, fIx, fSl, fLen, fInt, fMax2, fMin2, fAbs, fList, fTuple, svK, svKw, sget, sset, startR, retE, isB, ownK, lstK, intK, seqK, unpT, setK, svOk, bN, bT, sputs, isN_non, isN_bl, isN_int, isN_str, isN_tup, isN_lst, isN_klst, if_true, if_false, Bool.false_eq_true, reduceIte, Bool.not_true, Bool.not_false, decide_true, decide_false, Bool.true_and, Bool.false_and, Bool.and_true, Bool.and_false, Bool.true_or, Bool.false_or, Bool.or_true, Bool.or_false, and_true, true_and, List.length_cons, List.length_nil, List.replicate_succ, List.replicate_zero, Nat.reduceSub] at hQ ⊢; exact hQ
  · exact h.elim
def negO : D → D
  | .int i => .int (-i)
  | _ => .non
def turnD : D → D
  | .tup [.int s, f, c] => .tup [.int (-s), negO c, negO f]
  | _ => .non
def m_turned_of : MS := (mSeq (mUnp [1, 2, 3] (mM (mVar 0)))
  (mRet (mM (mTup (mCons (mUn fNeg (mVar 1)) (mCons (mIf (mBinT fIsN (mVar 3) (mC .non)) (mC .non) (mUn fNeg (mVar 3))) (mCons (mIf (mBinT fIsN (mVar 2) (mC .non)) (mC .non) (mUn fNeg (mVar 2))) mNil)))))))
def c_turned_of : Con := fun ds S Q _ => match ds with
  | [d] => fault d = none ∧ Q (turnD d) S
  | _ => False
theorem h_turned_of (ds : List D) (S : Store) (Q : EK) (E : XKd) (hn : ds.length = 1) (h : c_turned_of ds S Q E) : m_turned_of (startR 4 ds) S (retE Q E) := by
  obtain ⟨x, rfl⟩ := List.length_eq_one_iff.mp hn
  obtain ⟨h1, hQ⟩ := h
  obtain ⟨s, f, c, rfl, hf, hc, _⟩ := fault_none h1
  try simp only [m_turned_of, mSeq, mSet, mM, mCall, mCons, mNil, mVar, mVarW, mC, mIfS, mIf, mRet, mRetN, mExpr, mPass, mRaise, mUnp, mPar, mPar2F, mSetF, mFrz, mApp, mExt, mPop, mSetIx, mBin, mBinT, mUn, mPrim, mT, mAndT, mOrT, mNotT, mAndV, mOrV, mNotV, mIsi, mLst, mDisp, mTup, mCell, mSl, mNo, mSome, mIt, mRng1, mRng2, mFor, mComp, mYes, mThru, mHeard, mBrk, mCont, mCh, mChT, mCh3, mCat, fAdd, fSub, fMul, fDiv, fMod, fPow, fNeg, fLt, fLe, fGt, fGe, fIsN, fNotN, fEq, fNe, fIn, fNin, fIx, fSl, fLen, fInt, fMax2, fMin2, fAbs, fList, fTuple, svK, svKw, sget, sset, startR, retE, isB, ownK, lstK, intK, seqK, unpT, setK, svOk, bN, bT, sputs, isN_non, isN_bl, isN_int, isN_str, isN_tup, isN_lst, isN_klst, if_true, if_false, Bool.false_eq_true, reduceIte, Bool.not_true, Bool.not_false, decide_true, decide_false, Bool.true_and, Bool.false_and, Bool.and_true, Bool.and_false, Bool.true_or, Bool.false_or, Bool.or_true, Bool.or_false, and_true, true_and, List.length_cons, List.length_nil, List.replicate_succ, List.replicate_zero, Nat.reduceSub]
  cases f <;> simp [opt] at hf <;> cases c <;> simp [opt] at hc <;> simp only [turnD, negO] at hQ <;> simp only [mSeq, mSet, mM, mCall, mCons, mNil, mVar, mVarW, mC, mIfS, mIf, mRet, mRetN, mExpr, mPass, mRaise, mUnp, mPar, mPar2F, mSetF, mFrz, mApp, mExt, mPop, mSetIx, mBin, mBinT, mUn, mPrim, mT, mAndT, mOrT, mNotT, mAndV, mOrV, mNotV, mIsi, mLst, mDisp, mTup, mCell, mSl, mNo, mSome, mIt, mRng1, mRng2, mFor, mComp, mYes, mThru, mHeard, mBrk, mCont, mCh, mChT, mCh3, mCat, fAdd, fSub, fMul, fDiv, fMod, fPow, fNeg, fLt, fLe, fGt, fGe, fIsN, fNotN, fEq, fNe, fIn, fNin, fIx, fSl, fLen, fInt, fMax2, fMin2, fAbs, fList, fTuple, svK, svKw, sget, sset, startR, retE, isB, ownK, lstK, intK, seqK, unpT, setK, svOk, bN, bT, sputs, isN_non, isN_bl, isN_int, isN_str, isN_tup, isN_lst, isN_klst, if_true, if_false, Bool.false_eq_true, reduceIte, Bool.not_true, Bool.not_false, decide_true, decide_false, Bool.true_and, Bool.false_and, Bool.and_true, Bool.and_false, Bool.true_or, Bool.false_or, Bool.or_true, Bool.or_false, and_true, true_and, List.length_cons, List.length_nil, List.replicate_succ, List.replicate_zero, Nat.reduceSub] <;> exact ⟨by decide, hQ⟩
def m_made_change (c_wrong_change : Con) : MS := (mSeq (mSet 1 (mM (mCall 1 c_wrong_change (mCons (mVar 0) mNil))))
  (mSeq (mIfS (mBinT fNotN (mVar 1) (mC .non)) (mRaise "BadChange" (mVar 1)) mPass)
  (mSeq (mUnp [2, 3, 4] (mM (mVar 0)))
  (mRet (mM (mTup (mCons (mVar 2) (mCons (mVar 3) (mCons (mVar 4) mNil)))))))))
def c_made_change : Con := fun ds S Q E => match ds with
  | [x] => x.okE 40 = true ∧ match fault x with
    | none => Q x S
    | some i => E "BadChange" (.int i) S
  | _ => False
theorem h_made_change (ds : List D) (S : Store) (Q : EK) (E : XKd) (hn : ds.length = 1) (h : c_made_change ds S Q E) : m_made_change c_fault (startR 5 ds) S (retE Q E) := by
  obtain ⟨x, rfl⟩ := List.length_eq_one_iff.mp hn
  obtain ⟨h1, h⟩ := h
  try simp only [m_made_change, c_fault, mRaise, mSeq, mSet, mM, mCall, mCons, mNil, mVar, mVarW, mC, mIfS, mIf, mRet, mRetN, mExpr, mPass, mRaise, mUnp, mPar, mPar2F, mSetF, mFrz, mApp, mExt, mPop, mSetIx, mBin, mBinT, mUn, mPrim, mT, mAndT, mOrT, mNotT, mAndV, mOrV, mNotV, mIsi, mLst, mDisp, mTup, mCell, mSl, mNo, mSome, mIt, mRng1, mRng2, mFor, mComp, mYes, mThru, mHeard, mBrk, mCont, mCh, mChT, mCh3, mCat, fAdd, fSub, fMul, fDiv, fMod, fPow, fNeg, fLt, fLe, fGt, fGe, fIsN, fNotN, fEq, fNe, fIn, fNin, fIx, fSl, fLen, fInt, fMax2, fMin2, fAbs, fList, fTuple, svK, svKw, sget, sset, startR, retE, isB, ownK, lstK, intK, seqK, unpT, setK, svOk, bN, bT, sputs, isN_non, isN_bl, isN_int, isN_str, isN_tup, isN_lst, isN_klst, if_true, if_false, Bool.false_eq_true, reduceIte, Bool.not_true, Bool.not_false, decide_true, decide_false, Bool.true_and, Bool.false_and, Bool.and_true, Bool.and_false, Bool.true_or, Bool.false_or, Bool.or_true, Bool.or_false, and_true, true_and, List.length_cons, List.length_nil, List.replicate_succ, List.replicate_zero, Nat.reduceSub]
  refine ⟨h1, ?_⟩
  cases e : fault x with
  | none =>
    rw [e] at h
    obtain ⟨s, f, c, rfl, _⟩ := fault_none e
    try simp only [optD, mSeq, mSet, mM, mCall, mCons, mNil, mVar, mVarW, mC, mIfS, mIf, mRet, mRetN, mExpr, mPass, mRaise, mUnp, mPar, mPar2F, mSetF, mFrz, mApp, mExt, mPop, mSetIx, mBin, mBinT, mUn, mPrim, mT, mAndT, mOrT, mNotT, mAndV, mOrV, mNotV, mIsi, mLst, mDisp, mTup, mCell, mSl, mNo, mSome, mIt, mRng1, mRng2, mFor, mComp, mYes, mThru, mHeard, mBrk, mCont, mCh, mChT, mCh3, mCat, fAdd, fSub, fMul, fDiv, fMod, fPow, fNeg, fLt, fLe, fGt, fGe, fIsN, fNotN, fEq, fNe, fIn, fNin, fIx, fSl, fLen, fInt, fMax2, fMin2, fAbs, fList, fTuple, svK, svKw, sget, sset, startR, retE, isB, ownK, lstK, intK, seqK, unpT, setK, svOk, bN, bT, sputs, isN_non, isN_bl, isN_int, isN_str, isN_tup, isN_lst, isN_klst, if_true, if_false, Bool.false_eq_true, reduceIte, Bool.not_true, Bool.not_false, decide_true, decide_false, Bool.true_and, Bool.false_and, Bool.and_true, Bool.and_false, Bool.true_or, Bool.false_or, Bool.or_true, Bool.or_false, and_true, true_and, List.length_cons, List.length_nil, List.replicate_succ, List.replicate_zero, Nat.reduceSub]
    exact ⟨by decide, h⟩
  | some i =>
    rw [e] at h
    exact h
def m_is_change (c_wrong_change : Con) : MS := (mRet (mM (mBin fIsN (mCall 1 c_wrong_change (mCons (mVar 0) mNil)) (mC .non))))
def c_is_change : Con := fun ds S Q _ => match ds with
  | [x] => x.okE 40 = true ∧ Q (.bl (fault x).isNone) S
  | _ => False
theorem optD_isN (o : Option Int) : (optD o).isN = o.isNone := by cases o <;> rfl
theorem h_is_change (ds : List D) (S : Store) (Q : EK) (E : XKd) (hn : ds.length = 1) (h : c_is_change ds S Q E) : m_is_change c_fault (startR 1 ds) S (retE Q E) := by
  obtain ⟨x, rfl⟩ := List.length_eq_one_iff.mp hn
  obtain ⟨h1, h⟩ := h
  try simp only [m_is_change, c_fault, optD_isN, mSeq, mSet, mM, mCall, mCons, mNil, mVar, mVarW, mC, mIfS, mIf, mRet, mRetN, mExpr, mPass, mRaise, mUnp, mPar, mPar2F, mSetF, mFrz, mApp, mExt, mPop, mSetIx, mBin, mBinT, mUn, mPrim, mT, mAndT, mOrT, mNotT, mAndV, mOrV, mNotV, mIsi, mLst, mDisp, mTup, mCell, mSl, mNo, mSome, mIt, mRng1, mRng2, mFor, mComp, mYes, mThru, mHeard, mBrk, mCont, mCh, mChT, mCh3, mCat, fAdd, fSub, fMul, fDiv, fMod, fPow, fNeg, fLt, fLe, fGt, fGe, fIsN, fNotN, fEq, fNe, fIn, fNin, fIx, fSl, fLen, fInt, fMax2, fMin2, fAbs, fList, fTuple, svK, svKw, sget, sset, startR, retE, isB, ownK, lstK, intK, seqK, unpT, setK, svOk, bN, bT, sputs, isN_non, isN_bl, isN_int, isN_str, isN_tup, isN_lst, isN_klst, if_true, if_false, Bool.false_eq_true, reduceIte, Bool.not_true, Bool.not_false, decide_true, decide_false, Bool.true_and, Bool.false_and, Bool.and_true, Bool.and_false, Bool.true_or, Bool.false_or, Bool.or_true, Bool.or_false, and_true, true_and, List.length_cons, List.length_nil, List.replicate_succ, List.replicate_zero, Nat.reduceSub]
  exact ⟨h1, h⟩
/-- a start's number behind a change -/
def afterD : D → D → D
  | .tup [.int s, f, c], .int x => .int (afterI s f c x)
  | _, _ => .non
def m_after (c_made_change : Con) (c_number : Con) (c_after_of : Con) : MS := (mSeq (mSet 0 (mM (mCall 1 c_made_change (mCons (mVar 0) mNil))))
  (mSeq (mExpr (mM (mCall 1 c_number (mCons (mVar 1) mNil))))
  (mRet (mM (mCall 2 c_after_of (mCons (mVar 0) (mCons (mVar 1) mNil)))))))
def c_after : Con := fun ds S Q E => match ds with
  | [x, y] => (x.okE 40 = true ∧ ∀ a, y ≠ .ref a) ∧ match fault x with
    | none => if y.wh = true then Q (afterD x y) S else E "BadNumber" y S
    | some i => E "BadChange" (.int i) S
  | _ => False
theorem h_after (ds : List D) (S : Store) (Q : EK) (E : XKd) (hn : ds.length = 2) (h : c_after ds S Q E) : m_after c_made_change c_number c_after_of (startR 2 ds) S (retE Q E) := by
  unfold c_after at h
  split at h
  · rename_i x y
    obtain ⟨⟨h1, h2⟩, h⟩ := h
    try simp only [m_after, c_made_change, c_number, mSeq, mSet, mM, mCall, mCons, mNil, mVar, mVarW, mC, mIfS, mIf, mRet, mRetN, mExpr, mPass, mRaise, mUnp, mPar, mPar2F, mSetF, mFrz, mApp, mExt, mPop, mSetIx, mBin, mBinT, mUn, mPrim, mT, mAndT, mOrT, mNotT, mAndV, mOrV, mNotV, mIsi, mLst, mDisp, mTup, mCell, mSl, mNo, mSome, mIt, mRng1, mRng2, mFor, mComp, mYes, mThru, mHeard, mBrk, mCont, mCh, mChT, mCh3, mCat, fAdd, fSub, fMul, fDiv, fMod, fPow, fNeg, fLt, fLe, fGt, fGe, fIsN, fNotN, fEq, fNe, fIn, fNin, fIx, fSl, fLen, fInt, fMax2, fMin2, fAbs, fList, fTuple, svK, svKw, sget, sset, startR, retE, isB, ownK, lstK, intK, seqK, unpT, setK, svOk, bN, bT, sputs, isN_non, isN_bl, isN_int, isN_str, isN_tup, isN_lst, isN_klst, if_true, if_false, Bool.false_eq_true, reduceIte, Bool.not_true, Bool.not_false, decide_true, decide_false, Bool.true_and, Bool.false_and, Bool.and_true, Bool.and_false, Bool.true_or, Bool.false_or, Bool.or_true, Bool.or_false, and_true, true_and, List.length_cons, List.length_nil, List.replicate_succ, List.replicate_zero, Nat.reduceSub]
    refine ⟨h1, ?_⟩
    cases e : fault x with
    | none =>
      rw [e] at h
      try simp only [mSeq, mSet, mM, mCall, mCons, mNil, mVar, mVarW, mC, mIfS, mIf, mRet, mRetN, mExpr, mPass, mRaise, mUnp, mPar, mPar2F, mSetF, mFrz, mApp, mExt, mPop, mSetIx, mBin, mBinT, mUn, mPrim, mT, mAndT, mOrT, mNotT, mAndV, mOrV, mNotV, mIsi, mLst, mDisp, mTup, mCell, mSl, mNo, mSome, mIt, mRng1, mRng2, mFor, mComp, mYes, mThru, mHeard, mBrk, mCont, mCh, mChT, mCh3, mCat, fAdd, fSub, fMul, fDiv, fMod, fPow, fNeg, fLt, fLe, fGt, fGe, fIsN, fNotN, fEq, fNe, fIn, fNin, fIx, fSl, fLen, fInt, fMax2, fMin2, fAbs, fList, fTuple, svK, svKw, sget, sset, startR, retE, isB, ownK, lstK, intK, seqK, unpT, setK, svOk, bN, bT, sputs, isN_non, isN_bl, isN_int, isN_str, isN_tup, isN_lst, isN_klst, if_true, if_false, Bool.false_eq_true, reduceIte, Bool.not_true, Bool.not_false, decide_true, decide_false, Bool.true_and, Bool.false_and, Bool.and_true, Bool.and_false, Bool.true_or, Bool.false_or, Bool.or_true, Bool.or_false, and_true, true_and, List.length_cons, List.length_nil, List.replicate_succ, List.replicate_zero, Nat.reduceSub]
      refine ⟨h2, ?_⟩
      cases hw : y.wh with
      | true =>
        rw [hw] at h
        obtain ⟨s, f, c, rfl, hf, hc, _⟩ := fault_none e
        cases y <;> simp [D.wh] at hw
        exact ⟨⟨hf, hc⟩, h⟩
      | false =>
        rw [hw] at h
        exact h
    | some i =>
      rw [e] at h
      exact h
  · exact h.elim
def m_turned (c_turned_of : Con) (c_made_change : Con) : MS := (mRet (mM (mCall 1 c_turned_of (mCons (mCall 1 c_made_change (mCons (mVar 0) mNil)) mNil))))
def c_turned : Con := fun ds S Q E => match ds with
  | [x] => x.okE 40 = true ∧ match fault x with
    | none => Q (turnD x) S
    | some i => E "BadChange" (.int i) S
  | _ => False
theorem h_turned (ds : List D) (S : Store) (Q : EK) (E : XKd) (hn : ds.length = 1) (h : c_turned ds S Q E) : m_turned c_turned_of c_made_change (startR 1 ds) S (retE Q E) := by
  obtain ⟨x, rfl⟩ := List.length_eq_one_iff.mp hn
  obtain ⟨h1, h⟩ := h
  try simp only [m_turned, c_made_change, c_turned_of, mSeq, mSet, mM, mCall, mCons, mNil, mVar, mVarW, mC, mIfS, mIf, mRet, mRetN, mExpr, mPass, mRaise, mUnp, mPar, mPar2F, mSetF, mFrz, mApp, mExt, mPop, mSetIx, mBin, mBinT, mUn, mPrim, mT, mAndT, mOrT, mNotT, mAndV, mOrV, mNotV, mIsi, mLst, mDisp, mTup, mCell, mSl, mNo, mSome, mIt, mRng1, mRng2, mFor, mComp, mYes, mThru, mHeard, mBrk, mCont, mCh, mChT, mCh3, mCat, fAdd, fSub, fMul, fDiv, fMod, fPow, fNeg, fLt, fLe, fGt, fGe, fIsN, fNotN, fEq, fNe, fIn, fNin, fIx, fSl, fLen, fInt, fMax2, fMin2, fAbs, fList, fTuple, svK, svKw, sget, sset, startR, retE, isB, ownK, lstK, intK, seqK, unpT, setK, svOk, bN, bT, sputs, isN_non, isN_bl, isN_int, isN_str, isN_tup, isN_lst, isN_klst, if_true, if_false, Bool.false_eq_true, reduceIte, Bool.not_true, Bool.not_false, decide_true, decide_false, Bool.true_and, Bool.false_and, Bool.and_true, Bool.and_false, Bool.true_or, Bool.false_or, Bool.or_true, Bool.or_false, and_true, true_and, List.length_cons, List.length_nil, List.replicate_succ, List.replicate_zero, Nat.reduceSub]
  refine ⟨h1, ?_⟩
  cases e : fault x with
  | none => rw [e] at h; exact ⟨by first | exact e | rfl, h⟩
  | some i => rw [e] at h; exact h
end TL

set_option Elab.async false
set_option linter.all false
set_option maxRecDepth 100000
set_option maxHeartbeats 4000000
/-! T24: drawn changes; more of comprehensions. -/
namespace TL
open PySem PySem.Spec PyProof.Rows L2

def m_aw_change (c_law_take : Con) : MS := (mSeq (mPar 2 3 (mCons (mBin fSub (mCall 2 c_law_take (mCons (mVar 0) (mCons (mC (.int 9)) mNil))) (mC (.int 4))) (mCons (mBin fSub (mCall 2 c_law_take (mCons (mVar 0) (mCons (mC (.int 13)) mNil))) (mC (.int 6))) mNil)))
  (mSeq (mSet 1 (mM (mCall 2 c_law_take (mCons (mVar 0) (mCons (mC (.int 6)) mNil)))))
  (mSeq (mIfS (mBinT fEq (mVar 1) (mC (.int 0))) (mRet (mM (mTup (mCons (mVar 2) (mCons (mC .non) (mCons (mC .non) mNil)))))) mPass)
  (mSeq (mIfS (mBinT fLt (mVar 1) (mC (.int 3))) (mRet (mM (mIf (mBinT fEq (mVar 1) (mC (.int 1))) (mTup (mCons (mVar 2) (mCons (mVar 3) (mCons (mC .non) mNil)))) (mTup (mCons (mVar 2) (mCons (mC .non) (mCons (mVar 3) mNil))))))) mPass)
  (mRet (mM (mTup (mCons (mVar 2) (mCons (mVar 3) (mCons (mBin fAdd (mVar 3) (mCall 2 c_law_take (mCons (mVar 0) (mCons (mBin fSub (mC (.int 7)) (mVar 3)) mNil)))) mNil))))))))))
def m_aw_great (c_law_one : Con) : MS := (mSeq (mSet 1 (mM (mLst (mDisp (mCons (mC (.int 0)) (mCons (mC (.int 1)) (mCons (mUn fNeg (mC (.int 1))) (mCons (mBin fPow (mC (.int 10)) (mC (.int 9))) (mCons (mUn fNeg (mBin fPow (mC (.int 10)) (mC (.int 9)))) (mCons (mBin fSub (mBin fPow (mC (.int 10)) (mC (.int 9))) (mC (.int 1))) mNil))))))))))
  (mSeq (mPar 2 3 (mCons (mCall 2 c_law_one (mCons (mVar 0) (mCons (mBin fAdd (mVar 1) (mLst (mDisp (mCons (mC .non) mNil)))) mNil))) (mCons (mCall 2 c_law_one (mCons (mVar 0) (mCons (mBin fAdd (mVar 1) (mLst (mDisp (mCons (mC .non) mNil)))) mNil))) mNil)))
  (mSeq (mIfS (mAndT (mBinT fNotN (mVar 2) (mC .non)) (mAndT (mBinT fNotN (mVar 3) (mC .non)) (mBinT fGt (mVar 2) (mVar 3)))) (mPar 2 3 (mCons (mVar 3) (mCons (mVar 2) mNil))) mPass)
  (mRet (mM (mTup (mCons (mCall 2 c_law_one (mCons (mVar 0) (mCons (mVar 1) mNil))) (mCons (mVar 2) (mCons (mVar 3) mNil)))))))))
/-- a drawn change -/
def c_change : Con := fun ds S Q _ => match ds with
  | [.ref a] => JS a S ∧ ∀ d S', fault d = none → JS a S' → Q d S'
  | _ => False
theorem h_aw_change (ds : List D) (S : Store) (Q : EK) (E : XKd) (hn : ds.length = 1) (h : c_change ds S Q E) : m_aw_change c_take (startR 4 ds) S (retE Q E) := by
  unfold c_change at h
  split at h
  · rename_i a
    obtain ⟨hJ, hQ⟩ := h
    try simp only [m_aw_change, c_take, mSeq, mSet, mM, mCall, mCons, mNil, mVar, mVarW, mC, mIfS, mIf, mRet, mRetN, mExpr, mPass, mRaise, mUnp, mPar, mPar2F, mSetF, mFrz, mApp, mExt, mPop, mSetIx, mBin, mBinT, mUn, mPrim, mT, mAndT, mOrT, mNotT, mAndV, mOrV, mNotV, mIsi, mLst, mDisp, mTup, mCell, mSl, mNo, mSome, mIt, mRng1, mRng2, mFor, mComp, mYes, mThru, mHeard, mBrk, mCont, mCh, mChT, mCh3, mCat, fAdd, fSub, fMul, fDiv, fMod, fPow, fNeg, fLt, fLe, fGt, fGe, fIsN, fNotN, fEq, fNe, fIn, fNin, fIx, fSl, fLen, fInt, fMax2, fMin2, fAbs, fList, fTuple, svK, svKw, sget, sset, startR, retE, isB, ownK, lstK, intK, seqK, unpT, setK, svOk, bN, bT, sputs, isN_non, isN_bl, isN_int, isN_str, isN_tup, isN_lst, isN_klst, if_true, if_false, Bool.false_eq_true, reduceIte, Bool.not_true, Bool.not_false, decide_true, decide_false, Bool.true_and, Bool.false_and, Bool.and_true, Bool.and_false, Bool.true_or, Bool.false_or, Bool.or_true, Bool.or_false, and_true, true_and, List.length_cons, List.length_nil, List.replicate_succ, List.replicate_zero, Nat.reduceSub]
    refine ⟨hJ, ⟨by decide, by decide⟩, fun r S1 r0 r1 J1 => ?_⟩
    refine ⟨J1, ⟨by decide, by decide⟩, fun p S2 p0 p1 J2 => ?_⟩
    refine ⟨J2, ⟨by decide, by decide⟩, fun o S3 o0 o1 J3 => ?_⟩
    simp only [eqD_int]
    refine ⟨⟨by simp [D.okE], by decide⟩, ?_⟩
    by_cases e0 : o = 0
    · simp only [e0, mSeq, mSet, mM, mCall, mCons, mNil, mVar, mVarW, mC, mIfS, mIf, mRet, mRetN, mExpr, mPass, mRaise, mUnp, mPar, mPar2F, mSetF, mFrz, mApp, mExt, mPop, mSetIx, mBin, mBinT, mUn, mPrim, mT, mAndT, mOrT, mNotT, mAndV, mOrV, mNotV, mIsi, mLst, mDisp, mTup, mCell, mSl, mNo, mSome, mIt, mRng1, mRng2, mFor, mComp, mYes, mThru, mHeard, mBrk, mCont, mCh, mChT, mCh3, mCat, fAdd, fSub, fMul, fDiv, fMod, fPow, fNeg, fLt, fLe, fGt, fGe, fIsN, fNotN, fEq, fNe, fIn, fNin, fIx, fSl, fLen, fInt, fMax2, fMin2, fAbs, fList, fTuple, svK, svKw, sget, sset, startR, retE, isB, ownK, lstK, intK, seqK, unpT, setK, svOk, bN, bT, sputs, isN_non, isN_bl, isN_int, isN_str, isN_tup, isN_lst, isN_klst, if_true, if_false, Bool.false_eq_true, reduceIte, Bool.not_true, Bool.not_false, decide_true, decide_false, Bool.true_and, Bool.false_and, Bool.and_true, Bool.and_false, Bool.true_or, Bool.false_or, Bool.or_true, Bool.or_false, and_true, true_and, List.length_cons, List.length_nil, List.replicate_succ, List.replicate_zero, Nat.reduceSub]
      exact ⟨by decide, hQ _ _ (by simp [fault_tup, D.wh, opt, above]) J3⟩
    · simp only [e0, mSeq, mSet, mM, mCall, mCons, mNil, mVar, mVarW, mC, mIfS, mIf, mRet, mRetN, mExpr, mPass, mRaise, mUnp, mPar, mPar2F, mSetF, mFrz, mApp, mExt, mPop, mSetIx, mBin, mBinT, mUn, mPrim, mT, mAndT, mOrT, mNotT, mAndV, mOrV, mNotV, mIsi, mLst, mDisp, mTup, mCell, mSl, mNo, mSome, mIt, mRng1, mRng2, mFor, mComp, mYes, mThru, mHeard, mBrk, mCont, mCh, mChT, mCh3, mCat, fAdd, fSub, fMul, fDiv, fMod, fPow, fNeg, fLt, fLe, fGt, fGe, fIsN, fNotN, fEq, fNe, fIn, fNin, fIx, fSl, fLen, fInt, fMax2, fMin2, fAbs, fList, fTuple, svK, svKw, sget, sset, startR, retE, isB, ownK, lstK, intK, seqK, unpT, setK, svOk, bN, bT, sputs, isN_non, isN_bl, isN_int, isN_str, isN_tup, isN_lst, isN_klst, if_true, if_false, Bool.false_eq_true, reduceIte, Bool.not_true, Bool.not_false, decide_true, decide_false, Bool.true_and, Bool.false_and, Bool.and_true, Bool.and_false, Bool.true_or, Bool.false_or, Bool.or_true, Bool.or_false, and_true, true_and, List.length_cons, List.length_nil, List.replicate_succ, List.replicate_zero, Nat.reduceSub]
      by_cases e3 : o < 3
      · simp only [e3, mSeq, mSet, mM, mCall, mCons, mNil, mVar, mVarW, mC, mIfS, mIf, mRet, mRetN, mExpr, mPass, mRaise, mUnp, mPar, mPar2F, mSetF, mFrz, mApp, mExt, mPop, mSetIx, mBin, mBinT, mUn, mPrim, mT, mAndT, mOrT, mNotT, mAndV, mOrV, mNotV, mIsi, mLst, mDisp, mTup, mCell, mSl, mNo, mSome, mIt, mRng1, mRng2, mFor, mComp, mYes, mThru, mHeard, mBrk, mCont, mCh, mChT, mCh3, mCat, fAdd, fSub, fMul, fDiv, fMod, fPow, fNeg, fLt, fLe, fGt, fGe, fIsN, fNotN, fEq, fNe, fIn, fNin, fIx, fSl, fLen, fInt, fMax2, fMin2, fAbs, fList, fTuple, svK, svKw, sget, sset, startR, retE, isB, ownK, lstK, intK, seqK, unpT, setK, svOk, bN, bT, sputs, isN_non, isN_bl, isN_int, isN_str, isN_tup, isN_lst, isN_klst, if_true, if_false, Bool.false_eq_true, reduceIte, Bool.not_true, Bool.not_false, decide_true, decide_false, Bool.true_and, Bool.false_and, Bool.and_true, Bool.and_false, Bool.true_or, Bool.false_or, Bool.or_true, Bool.or_false, and_true, true_and, List.length_cons, List.length_nil, List.replicate_succ, List.replicate_zero, Nat.reduceSub]
        refine ⟨⟨by simp [D.okE], by decide⟩, ?_⟩
        by_cases e1 : o = 1
        · simp only [e1, mSeq, mSet, mM, mCall, mCons, mNil, mVar, mVarW, mC, mIfS, mIf, mRet, mRetN, mExpr, mPass, mRaise, mUnp, mPar, mPar2F, mSetF, mFrz, mApp, mExt, mPop, mSetIx, mBin, mBinT, mUn, mPrim, mT, mAndT, mOrT, mNotT, mAndV, mOrV, mNotV, mIsi, mLst, mDisp, mTup, mCell, mSl, mNo, mSome, mIt, mRng1, mRng2, mFor, mComp, mYes, mThru, mHeard, mBrk, mCont, mCh, mChT, mCh3, mCat, fAdd, fSub, fMul, fDiv, fMod, fPow, fNeg, fLt, fLe, fGt, fGe, fIsN, fNotN, fEq, fNe, fIn, fNin, fIx, fSl, fLen, fInt, fMax2, fMin2, fAbs, fList, fTuple, svK, svKw, sget, sset, startR, retE, isB, ownK, lstK, intK, seqK, unpT, setK, svOk, bN, bT, sputs, isN_non, isN_bl, isN_int, isN_str, isN_tup, isN_lst, isN_klst, if_true, if_false, Bool.false_eq_true, reduceIte, Bool.not_true, Bool.not_false, decide_true, decide_false, Bool.true_and, Bool.false_and, Bool.and_true, Bool.and_false, Bool.true_or, Bool.false_or, Bool.or_true, Bool.or_false, and_true, true_and, List.length_cons, List.length_nil, List.replicate_succ, List.replicate_zero, Nat.reduceSub]
          exact ⟨by decide, hQ _ _ (by simp [fault_tup, D.wh, opt, above]) J3⟩
        · simp only [e1, mSeq, mSet, mM, mCall, mCons, mNil, mVar, mVarW, mC, mIfS, mIf, mRet, mRetN, mExpr, mPass, mRaise, mUnp, mPar, mPar2F, mSetF, mFrz, mApp, mExt, mPop, mSetIx, mBin, mBinT, mUn, mPrim, mT, mAndT, mOrT, mNotT, mAndV, mOrV, mNotV, mIsi, mLst, mDisp, mTup, mCell, mSl, mNo, mSome, mIt, mRng1, mRng2, mFor, mComp, mYes, mThru, mHeard, mBrk, mCont, mCh, mChT, mCh3, mCat, fAdd, fSub, fMul, fDiv, fMod, fPow, fNeg, fLt, fLe, fGt, fGe, fIsN, fNotN, fEq, fNe, fIn, fNin, fIx, fSl, fLen, fInt, fMax2, fMin2, fAbs, fList, fTuple, svK, svKw, sget, sset, startR, retE, isB, ownK, lstK, intK, seqK, unpT, setK, svOk, bN, bT, sputs, isN_non, isN_bl, isN_int, isN_str, isN_tup, isN_lst, isN_klst, if_true, if_false, Bool.false_eq_true, reduceIte, Bool.not_true, Bool.not_false, decide_true, decide_false, Bool.true_and, Bool.false_and, Bool.and_true, Bool.and_false, Bool.true_or, Bool.false_or, Bool.or_true, Bool.or_false, and_true, true_and, List.length_cons, List.length_nil, List.replicate_succ, List.replicate_zero, Nat.reduceSub]
          exact ⟨by decide, hQ _ _ (by simp [fault_tup, D.wh, opt, above]) J3⟩
      · simp only [e3, mSeq, mSet, mM, mCall, mCons, mNil, mVar, mVarW, mC, mIfS, mIf, mRet, mRetN, mExpr, mPass, mRaise, mUnp, mPar, mPar2F, mSetF, mFrz, mApp, mExt, mPop, mSetIx, mBin, mBinT, mUn, mPrim, mT, mAndT, mOrT, mNotT, mAndV, mOrV, mNotV, mIsi, mLst, mDisp, mTup, mCell, mSl, mNo, mSome, mIt, mRng1, mRng2, mFor, mComp, mYes, mThru, mHeard, mBrk, mCont, mCh, mChT, mCh3, mCat, fAdd, fSub, fMul, fDiv, fMod, fPow, fNeg, fLt, fLe, fGt, fGe, fIsN, fNotN, fEq, fNe, fIn, fNin, fIx, fSl, fLen, fInt, fMax2, fMin2, fAbs, fList, fTuple, svK, svKw, sget, sset, startR, retE, isB, ownK, lstK, intK, seqK, unpT, setK, svOk, bN, bT, sputs, isN_non, isN_bl, isN_int, isN_str, isN_tup, isN_lst, isN_klst, if_true, if_false, Bool.false_eq_true, reduceIte, Bool.not_true, Bool.not_false, decide_true, decide_false, Bool.true_and, Bool.false_and, Bool.and_true, Bool.and_false, Bool.true_or, Bool.false_or, Bool.or_true, Bool.or_false, and_true, true_and, List.length_cons, List.length_nil, List.replicate_succ, List.replicate_zero, Nat.reduceSub]
        refine ⟨J3, ⟨by omega, by omega⟩, fun q S4 q0 q1 J4 => ?_⟩
        exact ⟨by decide, hQ _ _ (by simp [fault_tup, D.wh, opt, above]; omega) J4⟩
  · exact h.elim
theorem cp {j : Int} (h : 0 ≤ j) (h2 : j ≤ 1000000) : CPow 10 j := ⟨h, h2, by decide⟩
theorem h_aw_great (ds : List D) (S : Store) (Q : EK) (E : XKd) (hn : ds.length = 1) (h : c_change ds S Q E) : m_aw_great c_one (startR 4 ds) S (retE Q E) := by
  unfold c_change at h
  split at h
  · rename_i a
    obtain ⟨hJ, hQ⟩ := h
    try simp only [m_aw_great, c_one, mSeq, mSet, mM, mCall, mCons, mNil, mVar, mVarW, mC, mIfS, mIf, mRet, mRetN, mExpr, mPass, mRaise, mUnp, mPar, mPar2F, mSetF, mFrz, mApp, mExt, mPop, mSetIx, mBin, mBinT, mUn, mPrim, mT, mAndT, mOrT, mNotT, mAndV, mOrV, mNotV, mIsi, mLst, mDisp, mTup, mCell, mSl, mNo, mSome, mIt, mRng1, mRng2, mFor, mComp, mYes, mThru, mHeard, mBrk, mCont, mCh, mChT, mCh3, mCat, fAdd, fSub, fMul, fDiv, fMod, fPow, fNeg, fLt, fLe, fGt, fGe, fIsN, fNotN, fEq, fNe, fIn, fNin, fIx, fSl, fLen, fInt, fMax2, fMin2, fAbs, fList, fTuple, svK, svKw, sget, sset, startR, retE, isB, ownK, lstK, intK, seqK, unpT, setK, svOk, bN, bT, sputs, isN_non, isN_bl, isN_int, isN_str, isN_tup, isN_lst, isN_klst, if_true, if_false, Bool.false_eq_true, reduceIte, Bool.not_true, Bool.not_false, decide_true, decide_false, Bool.true_and, Bool.false_and, Bool.and_true, Bool.and_false, Bool.true_or, Bool.false_or, Bool.or_true, Bool.or_false, and_true, true_and, List.length_cons, List.length_nil, List.replicate_succ, List.replicate_zero, Nat.reduceSub]
    refine ⟨cp (by decide) (by decide), cp (by decide) (by decide), cp (by decide) (by decide), by decide, by decide, by decide, ?_⟩
    refine ⟨hJ, ⟨by decide, by decide⟩, fun f hf S1 J1 => ?_⟩
    refine ⟨by decide, by decide, J1, ⟨by decide, by decide⟩, fun c hc S2 J2 => ?_⟩
    have of : opt f = true := by
      simp at hf
      rcases hf with rfl | rfl | rfl | rfl | rfl | rfl | rfl <;> rfl
    have oc : opt c = true := by
      simp at hc
      rcases hc with rfl | rfl | rfl | rfl | rfl | rfl | rfl <;> rfl
    have fin : ∀ (f c : D), opt f = true → opt c = true → above f c = false → ∀ s ∈ ([D.int 0, D.int 1, D.int (-1), D.int (10 ^ (9 : Int).toNat), D.int (-10 ^ (9 : Int).toNat), D.int (10 ^ (9 : Int).toNat - 1)] : List D), ∀ S', JS a S' → Q (.tup [s, f, c]) S' := fun f c of oc ab s hs S' J => by
      refine hQ _ _ ?_ J
      have : s.wh = true := by
        simp at hs
        rcases hs with rfl | rfl | rfl | rfl | rfl | rfl <;> rfl
      simp [fault_tup, this, of, oc, ab]
    cases f <;> simp [opt] at of <;> cases c <;> simp [opt] at oc
    · simp only [mSeq, mSet, mM, mCall, mCons, mNil, mVar, mVarW, mC, mIfS, mIf, mRet, mRetN, mExpr, mPass, mRaise, mUnp, mPar, mPar2F, mSetF, mFrz, mApp, mExt, mPop, mSetIx, mBin, mBinT, mUn, mPrim, mT, mAndT, mOrT, mNotT, mAndV, mOrV, mNotV, mIsi, mLst, mDisp, mTup, mCell, mSl, mNo, mSome, mIt, mRng1, mRng2, mFor, mComp, mYes, mThru, mHeard, mBrk, mCont, mCh, mChT, mCh3, mCat, fAdd, fSub, fMul, fDiv, fMod, fPow, fNeg, fLt, fLe, fGt, fGe, fIsN, fNotN, fEq, fNe, fIn, fNin, fIx, fSl, fLen, fInt, fMax2, fMin2, fAbs, fList, fTuple, svK, svKw, sget, sset, startR, retE, isB, ownK, lstK, intK, seqK, unpT, setK, svOk, bN, bT, sputs, isN_non, isN_bl, isN_int, isN_str, isN_tup, isN_lst, isN_klst, if_true, if_false, Bool.false_eq_true, reduceIte, Bool.not_true, Bool.not_false, decide_true, decide_false, Bool.true_and, Bool.false_and, Bool.and_true, Bool.and_false, Bool.true_or, Bool.false_or, Bool.or_true, Bool.or_false, and_true, true_and, List.length_cons, List.length_nil, List.replicate_succ, List.replicate_zero, Nat.reduceSub]
      exact ⟨J2, ⟨by decide, by decide⟩, fun s hs S3 J3 => ⟨by decide, fin _ _ rfl rfl rfl s hs S3 J3⟩⟩
    · simp only [mSeq, mSet, mM, mCall, mCons, mNil, mVar, mVarW, mC, mIfS, mIf, mRet, mRetN, mExpr, mPass, mRaise, mUnp, mPar, mPar2F, mSetF, mFrz, mApp, mExt, mPop, mSetIx, mBin, mBinT, mUn, mPrim, mT, mAndT, mOrT, mNotT, mAndV, mOrV, mNotV, mIsi, mLst, mDisp, mTup, mCell, mSl, mNo, mSome, mIt, mRng1, mRng2, mFor, mComp, mYes, mThru, mHeard, mBrk, mCont, mCh, mChT, mCh3, mCat, fAdd, fSub, fMul, fDiv, fMod, fPow, fNeg, fLt, fLe, fGt, fGe, fIsN, fNotN, fEq, fNe, fIn, fNin, fIx, fSl, fLen, fInt, fMax2, fMin2, fAbs, fList, fTuple, svK, svKw, sget, sset, startR, retE, isB, ownK, lstK, intK, seqK, unpT, setK, svOk, bN, bT, sputs, isN_non, isN_bl, isN_int, isN_str, isN_tup, isN_lst, isN_klst, if_true, if_false, Bool.false_eq_true, reduceIte, Bool.not_true, Bool.not_false, decide_true, decide_false, Bool.true_and, Bool.false_and, Bool.and_true, Bool.and_false, Bool.true_or, Bool.false_or, Bool.or_true, Bool.or_false, and_true, true_and, List.length_cons, List.length_nil, List.replicate_succ, List.replicate_zero, Nat.reduceSub]
      exact ⟨J2, ⟨by decide, by decide⟩, fun s hs S3 J3 => ⟨by decide, fin _ _ rfl rfl rfl s hs S3 J3⟩⟩
    · simp only [mSeq, mSet, mM, mCall, mCons, mNil, mVar, mVarW, mC, mIfS, mIf, mRet, mRetN, mExpr, mPass, mRaise, mUnp, mPar, mPar2F, mSetF, mFrz, mApp, mExt, mPop, mSetIx, mBin, mBinT, mUn, mPrim, mT, mAndT, mOrT, mNotT, mAndV, mOrV, mNotV, mIsi, mLst, mDisp, mTup, mCell, mSl, mNo, mSome, mIt, mRng1, mRng2, mFor, mComp, mYes, mThru, mHeard, mBrk, mCont, mCh, mChT, mCh3, mCat, fAdd, fSub, fMul, fDiv, fMod, fPow, fNeg, fLt, fLe, fGt, fGe, fIsN, fNotN, fEq, fNe, fIn, fNin, fIx, fSl, fLen, fInt, fMax2, fMin2, fAbs, fList, fTuple, svK, svKw, sget, sset, startR, retE, isB, ownK, lstK, intK, seqK, unpT, setK, svOk, bN, bT, sputs, isN_non, isN_bl, isN_int, isN_str, isN_tup, isN_lst, isN_klst, if_true, if_false, Bool.false_eq_true, reduceIte, Bool.not_true, Bool.not_false, decide_true, decide_false, Bool.true_and, Bool.false_and, Bool.and_true, Bool.and_false, Bool.true_or, Bool.false_or, Bool.or_true, Bool.or_false, and_true, true_and, List.length_cons, List.length_nil, List.replicate_succ, List.replicate_zero, Nat.reduceSub]
      exact ⟨J2, ⟨by decide, by decide⟩, fun s hs S3 J3 => ⟨by decide, fin _ _ rfl rfl rfl s hs S3 J3⟩⟩
    · rename_i i j
      try simp only [mSeq, mSet, mM, mCall, mCons, mNil, mVar, mVarW, mC, mIfS, mIf, mRet, mRetN, mExpr, mPass, mRaise, mUnp, mPar, mPar2F, mSetF, mFrz, mApp, mExt, mPop, mSetIx, mBin, mBinT, mUn, mPrim, mT, mAndT, mOrT, mNotT, mAndV, mOrV, mNotV, mIsi, mLst, mDisp, mTup, mCell, mSl, mNo, mSome, mIt, mRng1, mRng2, mFor, mComp, mYes, mThru, mHeard, mBrk, mCont, mCh, mChT, mCh3, mCat, fAdd, fSub, fMul, fDiv, fMod, fPow, fNeg, fLt, fLe, fGt, fGe, fIsN, fNotN, fEq, fNe, fIn, fNin, fIx, fSl, fLen, fInt, fMax2, fMin2, fAbs, fList, fTuple, svK, svKw, sget, sset, startR, retE, isB, ownK, lstK, intK, seqK, unpT, setK, svOk, bN, bT, sputs, isN_non, isN_bl, isN_int, isN_str, isN_tup, isN_lst, isN_klst, if_true, if_false, Bool.false_eq_true, reduceIte, Bool.not_true, Bool.not_false, decide_true, decide_false, Bool.true_and, Bool.false_and, Bool.and_true, Bool.and_false, Bool.true_or, Bool.false_or, Bool.or_true, Bool.or_false, and_true, true_and, List.length_cons, List.length_nil, List.replicate_succ, List.replicate_zero, Nat.reduceSub]
      by_cases hij : j < i
      · simp only [hij, mSeq, mSet, mM, mCall, mCons, mNil, mVar, mVarW, mC, mIfS, mIf, mRet, mRetN, mExpr, mPass, mRaise, mUnp, mPar, mPar2F, mSetF, mFrz, mApp, mExt, mPop, mSetIx, mBin, mBinT, mUn, mPrim, mT, mAndT, mOrT, mNotT, mAndV, mOrV, mNotV, mIsi, mLst, mDisp, mTup, mCell, mSl, mNo, mSome, mIt, mRng1, mRng2, mFor, mComp, mYes, mThru, mHeard, mBrk, mCont, mCh, mChT, mCh3, mCat, fAdd, fSub, fMul, fDiv, fMod, fPow, fNeg, fLt, fLe, fGt, fGe, fIsN, fNotN, fEq, fNe, fIn, fNin, fIx, fSl, fLen, fInt, fMax2, fMin2, fAbs, fList, fTuple, svK, svKw, sget, sset, startR, retE, isB, ownK, lstK, intK, seqK, unpT, setK, svOk, bN, bT, sputs, isN_non, isN_bl, isN_int, isN_str, isN_tup, isN_lst, isN_klst, if_true, if_false, Bool.false_eq_true, reduceIte, Bool.not_true, Bool.not_false, decide_true, decide_false, Bool.true_and, Bool.false_and, Bool.and_true, Bool.and_false, Bool.true_or, Bool.false_or, Bool.or_true, Bool.or_false, and_true, true_and, List.length_cons, List.length_nil, List.replicate_succ, List.replicate_zero, Nat.reduceSub]
        exact ⟨J2, ⟨by decide, by decide⟩, fun s hs S3 J3 => ⟨by decide, fin _ _ rfl rfl (by simp [above]; omega) s hs S3 J3⟩⟩
      · simp only [hij, mSeq, mSet, mM, mCall, mCons, mNil, mVar, mVarW, mC, mIfS, mIf, mRet, mRetN, mExpr, mPass, mRaise, mUnp, mPar, mPar2F, mSetF, mFrz, mApp, mExt, mPop, mSetIx, mBin, mBinT, mUn, mPrim, mT, mAndT, mOrT, mNotT, mAndV, mOrV, mNotV, mIsi, mLst, mDisp, mTup, mCell, mSl, mNo, mSome, mIt, mRng1, mRng2, mFor, mComp, mYes, mThru, mHeard, mBrk, mCont, mCh, mChT, mCh3, mCat, fAdd, fSub, fMul, fDiv, fMod, fPow, fNeg, fLt, fLe, fGt, fGe, fIsN, fNotN, fEq, fNe, fIn, fNin, fIx, fSl, fLen, fInt, fMax2, fMin2, fAbs, fList, fTuple, svK, svKw, sget, sset, startR, retE, isB, ownK, lstK, intK, seqK, unpT, setK, svOk, bN, bT, sputs, isN_non, isN_bl, isN_int, isN_str, isN_tup, isN_lst, isN_klst, if_true, if_false, Bool.false_eq_true, reduceIte, Bool.not_true, Bool.not_false, decide_true, decide_false, Bool.true_and, Bool.false_and, Bool.and_true, Bool.and_false, Bool.true_or, Bool.false_or, Bool.or_true, Bool.or_false, and_true, true_and, List.length_cons, List.length_nil, List.replicate_succ, List.replicate_zero, Nat.reduceSub]
        exact ⟨J2, ⟨by decide, by decide⟩, fun s hs S3 J3 => ⟨by decide, fin _ _ rfl rfl (by simp [above]; omega) s hs S3 J3⟩⟩
  · exact h.elim
theorem turn_ok {d : D} (h : fault d = none) : fault (turnD d) = none ∧ turnD (turnD d) = d := by
  obtain ⟨s, f, c, rfl, hf, hc, ab⟩ := fault_none h
  cases f <;> simp [opt] at hf <;> cases c <;> simp [opt] at hc <;> simp [turnD, negO, fault_tup, D.wh, opt, above] at ab ⊢
  omega
theorem fault_ok {d : D} (h : fault d = none) : (∀ n, d.okE (n + 1) = true) ∧ d.sz = 4 := by
  obtain ⟨s, f, c, rfl, hf, hc, _⟩ := fault_none h
  cases f <;> simp [opt] at hf <;> cases c <;> simp [opt] at hc <;> simp [D.okE, D.okEs, D.sz, D.szs]
theorem lc_ints {i : Nat} {me : ME} {ρ : Ro} {S : Store} (f : Int → Int) : ∀ (ns : List Int) {Q : AK}, (∀ n ∈ ns, ∀ q : EK, q (.int (f n)) S → me (sset ρ i (.val (.int n))) S q noX) → Q (ns.map fun n => .int (f n)) S → lcD (bN i) mYes me (ns.map .int) ρ S Q noX
  | [], Q, _, h => h
  | d :: ds, Q, st, h => by
    simp only [lcD, bN, mYes, if_true, List.map_cons]
    refine st d List.mem_cons_self _ ?_
    exact lc_ints f ds (fun d' h' => st d' (List.mem_cons_of_mem _ h')) h
/-- a round of the law: True -/
def c_jar : Con := fun ds S Q _ => match ds with
  | [.ref a] => JS a S ∧ ∀ S', JS a S' → Q (.bl true) S'
  | _ => False

theorem lc_none {i : Nat} {mt : MT} {me : ME} {ρ : Ro} {S : Store} : ∀ (ds : List D) {Q : AK}, (∀ d ∈ ds, ∀ q : TK, q false S → mt (sset ρ i (.val d)) S q noX) → Q [] S → lcD (bN i) mt me ds ρ S Q noX
  | [], Q, _, h => h
  | d :: ds, Q, st, h => by
    simp only [lcD, bN]
    refine st d List.mem_cons_self _ ?_
    rw [if_neg (by simp)]
    exact lc_none ds (fun d' h' => st d' (List.mem_cons_of_mem _ h')) h
def m_aw_after : MS := (mSeq (mUnp [2, 3, 4] (mM (mVar 0)))
  (mSeq (mSet 1 (mM (mBin fAdd (mVar 1) (mVar 2))))
  (mSeq (mSet 1 (mM (mIf (mOrT (mBinT fIsN (mVar 4) (mC .non)) (mBinT fLt (mVar 1) (mVar 4))) (mVar 1) (mVar 4))))
  (mRet (mM (mIf (mOrT (mBinT fIsN (mVar 3) (mC .non)) (mBinT fGt (mVar 1) (mVar 3))) (mVar 1) (mVar 3)))))))
def c_aw_after : Con := fun ds S Q _ => match ds with
  | [d, .int x] => fault d = none ∧ Q (afterD d (.int x)) S
  | _ => False
theorem h_aw_after (ds : List D) (S : Store) (Q : EK) (E : XKd) (hn : ds.length = 2) (h : c_aw_after ds S Q E) : m_aw_after (startR 5 ds) S (retE Q E) := by
  unfold c_aw_after at h
  split at h
  · rename_i d x
    obtain ⟨hd, hQ⟩ := h
    obtain ⟨s, f, c, rfl, of, oc, ab⟩ := fault_none hd
    try simp only [m_aw_after, mSeq, mSet, mM, mCall, mCons, mNil, mVar, mVarW, mC, mIfS, mIf, mRet, mRetN, mExpr, mPass, mRaise, mUnp, mPar, mPar2F, mSetF, mFrz, mApp, mExt, mPop, mSetIx, mBin, mBinT, mUn, mPrim, mT, mAndT, mOrT, mNotT, mAndV, mOrV, mNotV, mIsi, mLst, mDisp, mTup, mCell, mSl, mNo, mSome, mIt, mRng1, mRng2, mFor, mComp, mYes, mThru, mHeard, mBrk, mCont, mCh, mChT, mCh3, mCat, fAdd, fSub, fMul, fDiv, fMod, fPow, fNeg, fLt, fLe, fGt, fGe, fIsN, fNotN, fEq, fNe, fIn, fNin, fIx, fSl, fLen, fInt, fMax2, fMin2, fAbs, fList, fTuple, svK, svKw, sget, sset, startR, retE, isB, ownK, lstK, intK, seqK, unpT, setK, svOk, bN, bT, sputs, isN_non, isN_bl, isN_int, isN_str, isN_tup, isN_lst, isN_klst, if_true, if_false, Bool.false_eq_true, reduceIte, Bool.not_true, Bool.not_false, decide_true, decide_false, Bool.true_and, Bool.false_and, Bool.and_true, Bool.and_false, Bool.true_or, Bool.false_or, Bool.or_true, Bool.or_false, and_true, true_and, List.length_cons, List.length_nil, List.replicate_succ, List.replicate_zero, Nat.reduceSub]
    cases f <;> simp [opt] at of <;> cases c <;> simp [opt] at oc <;> simp only [afterD, afterI] at hQ <;> simp only [mSeq, mSet, mM, mCall, mCons, mNil, mVar, mVarW, mC, mIfS, mIf, mRet, mRetN, mExpr, mPass, mRaise, mUnp, mPar, mPar2F, mSetF, mFrz, mApp, mExt, mPop, mSetIx, mBin, mBinT, mUn, mPrim, mT, mAndT, mOrT, mNotT, mAndV, mOrV, mNotV, mIsi, mLst, mDisp, mTup, mCell, mSl, mNo, mSome, mIt, mRng1, mRng2, mFor, mComp, mYes, mThru, mHeard, mBrk, mCont, mCh, mChT, mCh3, mCat, fAdd, fSub, fMul, fDiv, fMod, fPow, fNeg, fLt, fLe, fGt, fGe, fIsN, fNotN, fEq, fNe, fIn, fNin, fIx, fSl, fLen, fInt, fMax2, fMin2, fAbs, fList, fTuple, svK, svKw, sget, sset, startR, retE, isB, ownK, lstK, intK, seqK, unpT, setK, svOk, bN, bT, sputs, isN_non, isN_bl, isN_int, isN_str, isN_tup, isN_lst, isN_klst, if_true, if_false, Bool.false_eq_true, reduceIte, Bool.not_true, Bool.not_false, decide_true, decide_false, Bool.true_and, Bool.false_and, Bool.and_true, Bool.and_false, Bool.true_or, Bool.false_or, Bool.or_true, Bool.or_false, and_true, true_and, List.length_cons, List.length_nil, List.replicate_succ, List.replicate_zero, Nat.reduceSub]
    · exact hQ
    · rename_i cl
      by_cases q : x + s < cl
      · rw [if_neg (by omega)] at hQ
        try simp only [q, mSeq, mSet, mM, mCall, mCons, mNil, mVar, mVarW, mC, mIfS, mIf, mRet, mRetN, mExpr, mPass, mRaise, mUnp, mPar, mPar2F, mSetF, mFrz, mApp, mExt, mPop, mSetIx, mBin, mBinT, mUn, mPrim, mT, mAndT, mOrT, mNotT, mAndV, mOrV, mNotV, mIsi, mLst, mDisp, mTup, mCell, mSl, mNo, mSome, mIt, mRng1, mRng2, mFor, mComp, mYes, mThru, mHeard, mBrk, mCont, mCh, mChT, mCh3, mCat, fAdd, fSub, fMul, fDiv, fMod, fPow, fNeg, fLt, fLe, fGt, fGe, fIsN, fNotN, fEq, fNe, fIn, fNin, fIx, fSl, fLen, fInt, fMax2, fMin2, fAbs, fList, fTuple, svK, svKw, sget, sset, startR, retE, isB, ownK, lstK, intK, seqK, unpT, setK, svOk, bN, bT, sputs, isN_non, isN_bl, isN_int, isN_str, isN_tup, isN_lst, isN_klst, if_true, if_false, Bool.false_eq_true, reduceIte, Bool.not_true, Bool.not_false, decide_true, decide_false, Bool.true_and, Bool.false_and, Bool.and_true, Bool.and_false, Bool.true_or, Bool.false_or, Bool.or_true, Bool.or_false, and_true, true_and, List.length_cons, List.length_nil, List.replicate_succ, List.replicate_zero, Nat.reduceSub]
        exact hQ
      · simp only [q, mSeq, mSet, mM, mCall, mCons, mNil, mVar, mVarW, mC, mIfS, mIf, mRet, mRetN, mExpr, mPass, mRaise, mUnp, mPar, mPar2F, mSetF, mFrz, mApp, mExt, mPop, mSetIx, mBin, mBinT, mUn, mPrim, mT, mAndT, mOrT, mNotT, mAndV, mOrV, mNotV, mIsi, mLst, mDisp, mTup, mCell, mSl, mNo, mSome, mIt, mRng1, mRng2, mFor, mComp, mYes, mThru, mHeard, mBrk, mCont, mCh, mChT, mCh3, mCat, fAdd, fSub, fMul, fDiv, fMod, fPow, fNeg, fLt, fLe, fGt, fGe, fIsN, fNotN, fEq, fNe, fIn, fNin, fIx, fSl, fLen, fInt, fMax2, fMin2, fAbs, fList, fTuple, svK, svKw, sget, sset, startR, retE, isB, ownK, lstK, intK, seqK, unpT, setK, svOk, bN, bT, sputs, isN_non, isN_bl, isN_int, isN_str, isN_tup, isN_lst, isN_klst, if_true, if_false, Bool.false_eq_true, reduceIte, Bool.not_true, Bool.not_false, decide_true, decide_false, Bool.true_and, Bool.false_and, Bool.and_true, Bool.and_false, Bool.true_or, Bool.false_or, Bool.or_true, Bool.or_false, and_true, true_and, List.length_cons, List.length_nil, List.replicate_succ, List.replicate_zero, Nat.reduceSub]
        by_cases q2 : cl < x + s
        · rw [if_pos q2] at hQ
          exact hQ
        · rw [if_neg q2, show x + s = cl by omega] at hQ
          exact hQ
    · rename_i fl
      by_cases q : fl < x + s
      · rw [if_neg (by omega)] at hQ
        try simp only [q, mSeq, mSet, mM, mCall, mCons, mNil, mVar, mVarW, mC, mIfS, mIf, mRet, mRetN, mExpr, mPass, mRaise, mUnp, mPar, mPar2F, mSetF, mFrz, mApp, mExt, mPop, mSetIx, mBin, mBinT, mUn, mPrim, mT, mAndT, mOrT, mNotT, mAndV, mOrV, mNotV, mIsi, mLst, mDisp, mTup, mCell, mSl, mNo, mSome, mIt, mRng1, mRng2, mFor, mComp, mYes, mThru, mHeard, mBrk, mCont, mCh, mChT, mCh3, mCat, fAdd, fSub, fMul, fDiv, fMod, fPow, fNeg, fLt, fLe, fGt, fGe, fIsN, fNotN, fEq, fNe, fIn, fNin, fIx, fSl, fLen, fInt, fMax2, fMin2, fAbs, fList, fTuple, svK, svKw, sget, sset, startR, retE, isB, ownK, lstK, intK, seqK, unpT, setK, svOk, bN, bT, sputs, isN_non, isN_bl, isN_int, isN_str, isN_tup, isN_lst, isN_klst, if_true, if_false, Bool.false_eq_true, reduceIte, Bool.not_true, Bool.not_false, decide_true, decide_false, Bool.true_and, Bool.false_and, Bool.and_true, Bool.and_false, Bool.true_or, Bool.false_or, Bool.or_true, Bool.or_false, and_true, true_and, List.length_cons, List.length_nil, List.replicate_succ, List.replicate_zero, Nat.reduceSub]
        exact hQ
      · simp only [q, mSeq, mSet, mM, mCall, mCons, mNil, mVar, mVarW, mC, mIfS, mIf, mRet, mRetN, mExpr, mPass, mRaise, mUnp, mPar, mPar2F, mSetF, mFrz, mApp, mExt, mPop, mSetIx, mBin, mBinT, mUn, mPrim, mT, mAndT, mOrT, mNotT, mAndV, mOrV, mNotV, mIsi, mLst, mDisp, mTup, mCell, mSl, mNo, mSome, mIt, mRng1, mRng2, mFor, mComp, mYes, mThru, mHeard, mBrk, mCont, mCh, mChT, mCh3, mCat, fAdd, fSub, fMul, fDiv, fMod, fPow, fNeg, fLt, fLe, fGt, fGe, fIsN, fNotN, fEq, fNe, fIn, fNin, fIx, fSl, fLen, fInt, fMax2, fMin2, fAbs, fList, fTuple, svK, svKw, sget, sset, startR, retE, isB, ownK, lstK, intK, seqK, unpT, setK, svOk, bN, bT, sputs, isN_non, isN_bl, isN_int, isN_str, isN_tup, isN_lst, isN_klst, if_true, if_false, Bool.false_eq_true, reduceIte, Bool.not_true, Bool.not_false, decide_true, decide_false, Bool.true_and, Bool.false_and, Bool.and_true, Bool.and_false, Bool.true_or, Bool.false_or, Bool.or_true, Bool.or_false, and_true, true_and, List.length_cons, List.length_nil, List.replicate_succ, List.replicate_zero, Nat.reduceSub]
        by_cases q2 : x + s < fl
        · rw [if_pos q2] at hQ
          exact hQ
        · rw [if_neg q2, show x + s = fl by omega] at hQ
          exact hQ
    · rename_i fl cl
      simp [above] at ab
      by_cases q : x + s < cl
      · simp only [q, mSeq, mSet, mM, mCall, mCons, mNil, mVar, mVarW, mC, mIfS, mIf, mRet, mRetN, mExpr, mPass, mRaise, mUnp, mPar, mPar2F, mSetF, mFrz, mApp, mExt, mPop, mSetIx, mBin, mBinT, mUn, mPrim, mT, mAndT, mOrT, mNotT, mAndV, mOrV, mNotV, mIsi, mLst, mDisp, mTup, mCell, mSl, mNo, mSome, mIt, mRng1, mRng2, mFor, mComp, mYes, mThru, mHeard, mBrk, mCont, mCh, mChT, mCh3, mCat, fAdd, fSub, fMul, fDiv, fMod, fPow, fNeg, fLt, fLe, fGt, fGe, fIsN, fNotN, fEq, fNe, fIn, fNin, fIx, fSl, fLen, fInt, fMax2, fMin2, fAbs, fList, fTuple, svK, svKw, sget, sset, startR, retE, isB, ownK, lstK, intK, seqK, unpT, setK, svOk, bN, bT, sputs, isN_non, isN_bl, isN_int, isN_str, isN_tup, isN_lst, isN_klst, if_true, if_false, Bool.false_eq_true, reduceIte, Bool.not_true, Bool.not_false, decide_true, decide_false, Bool.true_and, Bool.false_and, Bool.and_true, Bool.and_false, Bool.true_or, Bool.false_or, Bool.or_true, Bool.or_false, and_true, true_and, List.length_cons, List.length_nil, List.replicate_succ, List.replicate_zero, Nat.reduceSub]
        by_cases q2 : fl < x + s
        · rw [if_neg (by omega), if_neg (by omega)] at hQ
          try simp only [q2, mSeq, mSet, mM, mCall, mCons, mNil, mVar, mVarW, mC, mIfS, mIf, mRet, mRetN, mExpr, mPass, mRaise, mUnp, mPar, mPar2F, mSetF, mFrz, mApp, mExt, mPop, mSetIx, mBin, mBinT, mUn, mPrim, mT, mAndT, mOrT, mNotT, mAndV, mOrV, mNotV, mIsi, mLst, mDisp, mTup, mCell, mSl, mNo, mSome, mIt, mRng1, mRng2, mFor, mComp, mYes, mThru, mHeard, mBrk, mCont, mCh, mChT, mCh3, mCat, fAdd, fSub, fMul, fDiv, fMod, fPow, fNeg, fLt, fLe, fGt, fGe, fIsN, fNotN, fEq, fNe, fIn, fNin, fIx, fSl, fLen, fInt, fMax2, fMin2, fAbs, fList, fTuple, svK, svKw, sget, sset, startR, retE, isB, ownK, lstK, intK, seqK, unpT, setK, svOk, bN, bT, sputs, isN_non, isN_bl, isN_int, isN_str, isN_tup, isN_lst, isN_klst, if_true, if_false, Bool.false_eq_true, reduceIte, Bool.not_true, Bool.not_false, decide_true, decide_false, Bool.true_and, Bool.false_and, Bool.and_true, Bool.and_false, Bool.true_or, Bool.false_or, Bool.or_true, Bool.or_false, and_true, true_and, List.length_cons, List.length_nil, List.replicate_succ, List.replicate_zero, Nat.reduceSub]
          exact hQ
        · simp only [q2, mSeq, mSet, mM, mCall, mCons, mNil, mVar, mVarW, mC, mIfS, mIf, mRet, mRetN, mExpr, mPass, mRaise, mUnp, mPar, mPar2F, mSetF, mFrz, mApp, mExt, mPop, mSetIx, mBin, mBinT, mUn, mPrim, mT, mAndT, mOrT, mNotT, mAndV, mOrV, mNotV, mIsi, mLst, mDisp, mTup, mCell, mSl, mNo, mSome, mIt, mRng1, mRng2, mFor, mComp, mYes, mThru, mHeard, mBrk, mCont, mCh, mChT, mCh3, mCat, fAdd, fSub, fMul, fDiv, fMod, fPow, fNeg, fLt, fLe, fGt, fGe, fIsN, fNotN, fEq, fNe, fIn, fNin, fIx, fSl, fLen, fInt, fMax2, fMin2, fAbs, fList, fTuple, svK, svKw, sget, sset, startR, retE, isB, ownK, lstK, intK, seqK, unpT, setK, svOk, bN, bT, sputs, isN_non, isN_bl, isN_int, isN_str, isN_tup, isN_lst, isN_klst, if_true, if_false, Bool.false_eq_true, reduceIte, Bool.not_true, Bool.not_false, decide_true, decide_false, Bool.true_and, Bool.false_and, Bool.and_true, Bool.and_false, Bool.true_or, Bool.false_or, Bool.or_true, Bool.or_false, and_true, true_and, List.length_cons, List.length_nil, List.replicate_succ, List.replicate_zero, Nat.reduceSub]
          by_cases q3 : x + s < fl
          · rw [if_pos q3] at hQ
            exact hQ
          · rw [if_neg q3, if_neg (by omega), show x + s = fl by omega] at hQ
            exact hQ
      · simp only [q, mSeq, mSet, mM, mCall, mCons, mNil, mVar, mVarW, mC, mIfS, mIf, mRet, mRetN, mExpr, mPass, mRaise, mUnp, mPar, mPar2F, mSetF, mFrz, mApp, mExt, mPop, mSetIx, mBin, mBinT, mUn, mPrim, mT, mAndT, mOrT, mNotT, mAndV, mOrV, mNotV, mIsi, mLst, mDisp, mTup, mCell, mSl, mNo, mSome, mIt, mRng1, mRng2, mFor, mComp, mYes, mThru, mHeard, mBrk, mCont, mCh, mChT, mCh3, mCat, fAdd, fSub, fMul, fDiv, fMod, fPow, fNeg, fLt, fLe, fGt, fGe, fIsN, fNotN, fEq, fNe, fIn, fNin, fIx, fSl, fLen, fInt, fMax2, fMin2, fAbs, fList, fTuple, svK, svKw, sget, sset, startR, retE, isB, ownK, lstK, intK, seqK, unpT, setK, svOk, bN, bT, sputs, isN_non, isN_bl, isN_int, isN_str, isN_tup, isN_lst, isN_klst, if_true, if_false, Bool.false_eq_true, reduceIte, Bool.not_true, Bool.not_false, decide_true, decide_false, Bool.true_and, Bool.false_and, Bool.and_true, Bool.and_false, Bool.true_or, Bool.false_or, Bool.or_true, Bool.or_false, and_true, true_and, List.length_cons, List.length_nil, List.replicate_succ, List.replicate_zero, Nat.reduceSub]
        by_cases q2 : fl < cl
        · simp only [q2, mSeq, mSet, mM, mCall, mCons, mNil, mVar, mVarW, mC, mIfS, mIf, mRet, mRetN, mExpr, mPass, mRaise, mUnp, mPar, mPar2F, mSetF, mFrz, mApp, mExt, mPop, mSetIx, mBin, mBinT, mUn, mPrim, mT, mAndT, mOrT, mNotT, mAndV, mOrV, mNotV, mIsi, mLst, mDisp, mTup, mCell, mSl, mNo, mSome, mIt, mRng1, mRng2, mFor, mComp, mYes, mThru, mHeard, mBrk, mCont, mCh, mChT, mCh3, mCat, fAdd, fSub, fMul, fDiv, fMod, fPow, fNeg, fLt, fLe, fGt, fGe, fIsN, fNotN, fEq, fNe, fIn, fNin, fIx, fSl, fLen, fInt, fMax2, fMin2, fAbs, fList, fTuple, svK, svKw, sget, sset, startR, retE, isB, ownK, lstK, intK, seqK, unpT, setK, svOk, bN, bT, sputs, isN_non, isN_bl, isN_int, isN_str, isN_tup, isN_lst, isN_klst, if_true, if_false, Bool.false_eq_true, reduceIte, Bool.not_true, Bool.not_false, decide_true, decide_false, Bool.true_and, Bool.false_and, Bool.and_true, Bool.and_false, Bool.true_or, Bool.false_or, Bool.or_true, Bool.or_false, and_true, true_and, List.length_cons, List.length_nil, List.replicate_succ, List.replicate_zero, Nat.reduceSub]
          rw [if_neg (by omega)] at hQ
          by_cases q3 : cl < x + s
          · rw [if_pos q3] at hQ
            exact hQ
          · rw [if_neg q3, show x + s = cl by omega] at hQ
            exact hQ
        · simp only [q2, mSeq, mSet, mM, mCall, mCons, mNil, mVar, mVarW, mC, mIfS, mIf, mRet, mRetN, mExpr, mPass, mRaise, mUnp, mPar, mPar2F, mSetF, mFrz, mApp, mExt, mPop, mSetIx, mBin, mBinT, mUn, mPrim, mT, mAndT, mOrT, mNotT, mAndV, mOrV, mNotV, mIsi, mLst, mDisp, mTup, mCell, mSl, mNo, mSome, mIt, mRng1, mRng2, mFor, mComp, mYes, mThru, mHeard, mBrk, mCont, mCh, mChT, mCh3, mCat, fAdd, fSub, fMul, fDiv, fMod, fPow, fNeg, fLt, fLe, fGt, fGe, fIsN, fNotN, fEq, fNe, fIn, fNin, fIx, fSl, fLen, fInt, fMax2, fMin2, fAbs, fList, fTuple, svK, svKw, sget, sset, startR, retE, isB, ownK, lstK, intK, seqK, unpT, setK, svOk, bN, bT, sputs, isN_non, isN_bl, isN_int, isN_str, isN_tup, isN_lst, isN_klst, if_true, if_false, Bool.false_eq_true, reduceIte, Bool.not_true, Bool.not_false, decide_true, decide_false, Bool.true_and, Bool.false_and, Bool.and_true, Bool.and_false, Bool.true_or, Bool.false_or, Bool.or_true, Bool.or_false, and_true, true_and, List.length_cons, List.length_nil, List.replicate_succ, List.replicate_zero, Nat.reduceSub]
          rw [if_neg (by omega)] at hQ
          have e : fl = cl := by omega
          subst e
          by_cases q3 : fl < x + s
          · rw [if_pos q3] at hQ
            exact hQ
          · rw [if_neg q3, show x + s = fl by omega] at hQ
            exact hQ
  · exact h.elim
end TL

set_option Elab.async false
set_option linter.all false
set_option maxRecDepth 100000
set_option maxHeartbeats 4000000
/-! T26: joined changes; the starts at which two changes may part. -/
namespace TL
open PySem PySem.Spec PyProof.Rows L2

def D.num : D → Int
  | .int i => i
  | _ => 0
/-- the number behind -/
def aft : D → Int → Int
  | .tup [.int s, f, c], x => afterI s f c x
  | _, _ => 0
theorem afterD_aft {d : D} {x : Int} (h : fault d = none) : afterD d (.int x) = .int (aft d x) := by
  obtain ⟨s, f, c, rfl, _⟩ := fault_none h
  rfl
theorem above_le {i j : Int} (h : above (.int i) (.int j) = false) : i ≤ j := by
  simp [above] at h; exact h
/-! ### two joined -/
def leadD (two : D) : D → D → D
  | .int i, _ => .int (aft two i)
  | _, z => z
def joinD : D → D → D
  | .tup [.int s, f, c], .tup [.int t, g, e] => .tup [.int (s + t), leadD (.tup [.int t, g, e]) f g, leadD (.tup [.int t, g, e]) c e]
  | _, _ => .non
theorem aft_nn {s x : Int} : aft (.tup [.int s, .non, .non]) x = x + s := rfl
theorem aft_ni {s c x : Int} : aft (.tup [.int s, .non, .int c]) x = min c (x + s) := by
  show (if c < x + s then c else x + s) = _
  split <;> omega
theorem aft_in {s f x : Int} : aft (.tup [.int s, .int f, .non]) x = max f (x + s) := by
  show (if x + s < f then f else x + s) = _
  split <;> omega
theorem aft_ii {s f c x : Int} (h : f ≤ c) : aft (.tup [.int s, .int f, .int c]) x = max f (min c (x + s)) := by
  show (if x + s < f then f else if c < x + s then c else x + s) = _
  split
  · omega
  · split <;> omega
theorem fault_nn {s : Int} : fault (.tup [.int s, .non, .non]) = none := rfl
theorem fault_ni {s c : Int} : fault (.tup [.int s, .non, .int c]) = none := rfl
theorem fault_in {s f : Int} : fault (.tup [.int s, .int f, .non]) = none := rfl
theorem fault_ii {s f c : Int} (h : f ≤ c) : fault (.tup [.int s, .int f, .int c]) = none := by
  rw [fault_tup]
  have : decide (c < f) = false := decide_eq_false (by omega)
  simp [D.wh, opt, above]
  exact h
/-- a change's sorts -/
theorem fault_sorts {d : D} (h : fault d = none) : (∃ s, d = .tup [.int s, .non, .non]) ∨ (∃ s c, d = .tup [.int s, .non, .int c]) ∨ (∃ s f, d = .tup [.int s, .int f, .non]) ∨ ∃ s f c, f ≤ c ∧ d = .tup [.int s, .int f, .int c] := by
  obtain ⟨s, f, c, rfl, of, oc, ab⟩ := fault_none h
  cases f <;> simp [opt] at of <;> cases c <;> simp [opt] at oc
  · exact .inl ⟨_, rfl⟩
  · exact .inr (.inl ⟨_, _, rfl⟩)
  · exact .inr (.inr (.inl ⟨_, _, rfl⟩))
  · exact .inr (.inr (.inr ⟨_, _, _, above_le ab, rfl⟩))
theorem join_ok {a b : D} (ha : fault a = none) (hb : fault b = none) : fault (joinD a b) = none := by
  rcases fault_sorts ha with ⟨s, rfl⟩ | ⟨s, c, rfl⟩ | ⟨s, f, rfl⟩ | ⟨s, f, c, fc, rfl⟩ <;> rcases fault_sorts hb with ⟨t, rfl⟩ | ⟨t, e, rfl⟩ | ⟨t, g, rfl⟩ | ⟨t, g, e, ge, rfl⟩ <;>
    simp (disch := omega) only [joinD, leadD, aft_nn, aft_ni, aft_in, aft_ii, fault_nn, fault_ni, fault_in, fault_ii]
theorem join_law {a b : D} (ha : fault a = none) (hb : fault b = none) (x : Int) : aft (joinD a b) x = aft b (aft a x) := by
  rcases fault_sorts ha with ⟨s, rfl⟩ | ⟨s, c, rfl⟩ | ⟨s, f, rfl⟩ | ⟨s, f, c, fc, rfl⟩ <;> rcases fault_sorts hb with ⟨t, rfl⟩ | ⟨t, e, rfl⟩ | ⟨t, g, rfl⟩ | ⟨t, g, e, ge, rfl⟩ <;>
    simp (disch := omega) only [joinD, leadD, aft_nn, aft_ni, aft_in, aft_ii] <;> omega
def m_joined_of (c_after_of : Con) : MS := (mSeq (mSet 2 (mM (mIf (mBinT fIsN (mBin fIx (mVar 0) (mC (.int 1))) (mC .non)) (mBin fIx (mVar 1) (mC (.int 1))) (mCall 2 c_after_of (mCons (mVar 1) (mCons (mBin fIx (mVar 0) (mC (.int 1))) mNil))))))
  (mSeq (mSet 3 (mM (mIf (mBinT fIsN (mBin fIx (mVar 0) (mC (.int 2))) (mC .non)) (mBin fIx (mVar 1) (mC (.int 2))) (mCall 2 c_after_of (mCons (mVar 1) (mCons (mBin fIx (mVar 0) (mC (.int 2))) mNil))))))
  (mRet (mM (mTup (mCons (mBin fAdd (mBin fIx (mVar 0) (mC (.int 0))) (mBin fIx (mVar 1) (mC (.int 0)))) (mCons (mVar 2) (mCons (mVar 3) mNil))))))))

def c_joined_of : Con := fun ds S Q _ => match ds with
  | [a, b] => (fault a = none ∧ fault b = none) ∧ Q (joinD a b) S
  | _ => False
/-- what an after asks: after_of's contract, by changes -/
def c_aft : Con := fun ds S Q _ => match ds with
  | [d, .int x] => fault d = none ∧ Q (.int (aft d x)) S
  | _ => False
theorem h_aft (ds : List D) (S : Store) (Q : EK) (E : XKd) (hn : ds.length = 2) (h : c_aft ds S Q E) : m_after_of (startR 6 ds) S (retE Q E) := by
  unfold c_aft at h
  split at h
  · rename_i d x
    obtain ⟨hd, hQ⟩ := h
    obtain ⟨s, f, c, rfl, of, oc, ab⟩ := fault_none hd
    exact h_after_of _ S Q E hn ⟨⟨of, oc⟩, hQ⟩
  · exact h.elim
theorem h_law_aft (ds : List D) (S : Store) (Q : EK) (E : XKd) (hn : ds.length = 2) (h : c_aft ds S Q E) : m_aw_after (startR 5 ds) S (retE Q E) := by
  unfold c_aft at h
  split at h
  · rename_i d x
    obtain ⟨hd, hQ⟩ := h
    exact h_aw_after _ S Q E hn ⟨hd, by rw [afterD_aft hd]; exact hQ⟩
  · exact h.elim
theorem h_joined_of (ds : List D) (S : Store) (Q : EK) (E : XKd) (hn : ds.length = 2) (h : c_joined_of ds S Q E) : m_joined_of c_aft (startR 4 ds) S (retE Q E) := by
  unfold c_joined_of at h
  split at h
  · rename_i a b
    obtain ⟨⟨ha, hb⟩, hQ⟩ := h
    obtain ⟨s, f, c, rfl, of, oc, ab⟩ := fault_none ha
    obtain ⟨t, g, e, rfl, og, oe, cd⟩ := fault_none hb
    try simp only [m_joined_of, c_aft, mSeq, mSet, mM, mCall, mCons, mNil, mVar, mVarW, mC, mIfS, mIf, mRet, mRetN, mExpr, mPass, mRaise, mUnp, mPar, mPar2F, mSetF, mFrz, mApp, mExt, mPop, mSetIx, mBin, mBinT, mUn, mPrim, mT, mAndT, mOrT, mNotT, mAndV, mOrV, mNotV, mIsi, mLst, mDisp, mTup, mCell, mSl, mNo, mSome, mIt, mRng1, mRng2, mFor, mComp, mYes, mThru, mHeard, mBrk, mCont, mCh, mChT, mCh3, mCat, fAdd, fSub, fMul, fDiv, fMod, fPow, fNeg, fLt, fLe, fGt, fGe, fIsN, fNotN, fEq, fNe, fIn, fNin, fIx, fSl, fLen, fInt, fMax2, fMin2, fAbs, fList, fTuple, svK, svKw, sget, sset, startR, retE, isB, ownK, lstK, intK, seqK, unpT, setK, svOk, bN, bT, sputs, isN_non, isN_bl, isN_int, isN_str, isN_tup, isN_lst, isN_klst, if_true, if_false, Bool.false_eq_true, reduceIte, Bool.not_true, Bool.not_false, decide_true, decide_false, Bool.true_and, Bool.false_and, Bool.and_true, Bool.and_false, Bool.true_or, Bool.false_or, Bool.or_true, Bool.or_false, and_true, true_and, List.length_cons, List.length_nil, List.replicate_succ, List.replicate_zero, Nat.reduceSub]
    refine ⟨_, at1, ?_⟩
    cases f <;> simp [opt] at of
    · simp only [mSeq, mSet, mM, mCall, mCons, mNil, mVar, mVarW, mC, mIfS, mIf, mRet, mRetN, mExpr, mPass, mRaise, mUnp, mPar, mPar2F, mSetF, mFrz, mApp, mExt, mPop, mSetIx, mBin, mBinT, mUn, mPrim, mT, mAndT, mOrT, mNotT, mAndV, mOrV, mNotV, mIsi, mLst, mDisp, mTup, mCell, mSl, mNo, mSome, mIt, mRng1, mRng2, mFor, mComp, mYes, mThru, mHeard, mBrk, mCont, mCh, mChT, mCh3, mCat, fAdd, fSub, fMul, fDiv, fMod, fPow, fNeg, fLt, fLe, fGt, fGe, fIsN, fNotN, fEq, fNe, fIn, fNin, fIx, fSl, fLen, fInt, fMax2, fMin2, fAbs, fList, fTuple, svK, svKw, sget, sset, startR, retE, isB, ownK, lstK, intK, seqK, unpT, setK, svOk, bN, bT, sputs, isN_non, isN_bl, isN_int, isN_str, isN_tup, isN_lst, isN_klst, if_true, if_false, Bool.false_eq_true, reduceIte, Bool.not_true, Bool.not_false, decide_true, decide_false, Bool.true_and, Bool.false_and, Bool.and_true, Bool.and_false, Bool.true_or, Bool.false_or, Bool.or_true, Bool.or_false, and_true, true_and, List.length_cons, List.length_nil, List.replicate_succ, List.replicate_zero, Nat.reduceSub]
      refine ⟨_, at1, _, at2, ?_⟩
      cases c <;> simp [opt] at oc
      · simp only [mSeq, mSet, mM, mCall, mCons, mNil, mVar, mVarW, mC, mIfS, mIf, mRet, mRetN, mExpr, mPass, mRaise, mUnp, mPar, mPar2F, mSetF, mFrz, mApp, mExt, mPop, mSetIx, mBin, mBinT, mUn, mPrim, mT, mAndT, mOrT, mNotT, mAndV, mOrV, mNotV, mIsi, mLst, mDisp, mTup, mCell, mSl, mNo, mSome, mIt, mRng1, mRng2, mFor, mComp, mYes, mThru, mHeard, mBrk, mCont, mCh, mChT, mCh3, mCat, fAdd, fSub, fMul, fDiv, fMod, fPow, fNeg, fLt, fLe, fGt, fGe, fIsN, fNotN, fEq, fNe, fIn, fNin, fIx, fSl, fLen, fInt, fMax2, fMin2, fAbs, fList, fTuple, svK, svKw, sget, sset, startR, retE, isB, ownK, lstK, intK, seqK, unpT, setK, svOk, bN, bT, sputs, isN_non, isN_bl, isN_int, isN_str, isN_tup, isN_lst, isN_klst, if_true, if_false, Bool.false_eq_true, reduceIte, Bool.not_true, Bool.not_false, decide_true, decide_false, Bool.true_and, Bool.false_and, Bool.and_true, Bool.and_false, Bool.true_or, Bool.false_or, Bool.or_true, Bool.or_false, and_true, true_and, List.length_cons, List.length_nil, List.replicate_succ, List.replicate_zero, Nat.reduceSub]
        exact ⟨_, at2, _, at0, _, at0, by decide, hQ⟩
      · simp only [mSeq, mSet, mM, mCall, mCons, mNil, mVar, mVarW, mC, mIfS, mIf, mRet, mRetN, mExpr, mPass, mRaise, mUnp, mPar, mPar2F, mSetF, mFrz, mApp, mExt, mPop, mSetIx, mBin, mBinT, mUn, mPrim, mT, mAndT, mOrT, mNotT, mAndV, mOrV, mNotV, mIsi, mLst, mDisp, mTup, mCell, mSl, mNo, mSome, mIt, mRng1, mRng2, mFor, mComp, mYes, mThru, mHeard, mBrk, mCont, mCh, mChT, mCh3, mCat, fAdd, fSub, fMul, fDiv, fMod, fPow, fNeg, fLt, fLe, fGt, fGe, fIsN, fNotN, fEq, fNe, fIn, fNin, fIx, fSl, fLen, fInt, fMax2, fMin2, fAbs, fList, fTuple, svK, svKw, sget, sset, startR, retE, isB, ownK, lstK, intK, seqK, unpT, setK, svOk, bN, bT, sputs, isN_non, isN_bl, isN_int, isN_str, isN_tup, isN_lst, isN_klst, if_true, if_false, Bool.false_eq_true, reduceIte, Bool.not_true, Bool.not_false, decide_true, decide_false, Bool.true_and, Bool.false_and, Bool.and_true, Bool.and_false, Bool.true_or, Bool.false_or, Bool.or_true, Bool.or_false, and_true, true_and, List.length_cons, List.length_nil, List.replicate_succ, List.replicate_zero, Nat.reduceSub]
        exact ⟨_, at2, hb, _, at0, _, at0, by decide, hQ⟩
    · simp only [mSeq, mSet, mM, mCall, mCons, mNil, mVar, mVarW, mC, mIfS, mIf, mRet, mRetN, mExpr, mPass, mRaise, mUnp, mPar, mPar2F, mSetF, mFrz, mApp, mExt, mPop, mSetIx, mBin, mBinT, mUn, mPrim, mT, mAndT, mOrT, mNotT, mAndV, mOrV, mNotV, mIsi, mLst, mDisp, mTup, mCell, mSl, mNo, mSome, mIt, mRng1, mRng2, mFor, mComp, mYes, mThru, mHeard, mBrk, mCont, mCh, mChT, mCh3, mCat, fAdd, fSub, fMul, fDiv, fMod, fPow, fNeg, fLt, fLe, fGt, fGe, fIsN, fNotN, fEq, fNe, fIn, fNin, fIx, fSl, fLen, fInt, fMax2, fMin2, fAbs, fList, fTuple, svK, svKw, sget, sset, startR, retE, isB, ownK, lstK, intK, seqK, unpT, setK, svOk, bN, bT, sputs, isN_non, isN_bl, isN_int, isN_str, isN_tup, isN_lst, isN_klst, if_true, if_false, Bool.false_eq_true, reduceIte, Bool.not_true, Bool.not_false, decide_true, decide_false, Bool.true_and, Bool.false_and, Bool.and_true, Bool.and_false, Bool.true_or, Bool.false_or, Bool.or_true, Bool.or_false, and_true, true_and, List.length_cons, List.length_nil, List.replicate_succ, List.replicate_zero, Nat.reduceSub]
      refine ⟨_, at1, hb, _, at2, ?_⟩
      cases c <;> simp [opt] at oc
      · simp only [mSeq, mSet, mM, mCall, mCons, mNil, mVar, mVarW, mC, mIfS, mIf, mRet, mRetN, mExpr, mPass, mRaise, mUnp, mPar, mPar2F, mSetF, mFrz, mApp, mExt, mPop, mSetIx, mBin, mBinT, mUn, mPrim, mT, mAndT, mOrT, mNotT, mAndV, mOrV, mNotV, mIsi, mLst, mDisp, mTup, mCell, mSl, mNo, mSome, mIt, mRng1, mRng2, mFor, mComp, mYes, mThru, mHeard, mBrk, mCont, mCh, mChT, mCh3, mCat, fAdd, fSub, fMul, fDiv, fMod, fPow, fNeg, fLt, fLe, fGt, fGe, fIsN, fNotN, fEq, fNe, fIn, fNin, fIx, fSl, fLen, fInt, fMax2, fMin2, fAbs, fList, fTuple, svK, svKw, sget, sset, startR, retE, isB, ownK, lstK, intK, seqK, unpT, setK, svOk, bN, bT, sputs, isN_non, isN_bl, isN_int, isN_str, isN_tup, isN_lst, isN_klst, if_true, if_false, Bool.false_eq_true, reduceIte, Bool.not_true, Bool.not_false, decide_true, decide_false, Bool.true_and, Bool.false_and, Bool.and_true, Bool.and_false, Bool.true_or, Bool.false_or, Bool.or_true, Bool.or_false, and_true, true_and, List.length_cons, List.length_nil, List.replicate_succ, List.replicate_zero, Nat.reduceSub]
        exact ⟨_, at2, _, at0, _, at0, by decide, hQ⟩
      · simp only [mSeq, mSet, mM, mCall, mCons, mNil, mVar, mVarW, mC, mIfS, mIf, mRet, mRetN, mExpr, mPass, mRaise, mUnp, mPar, mPar2F, mSetF, mFrz, mApp, mExt, mPop, mSetIx, mBin, mBinT, mUn, mPrim, mT, mAndT, mOrT, mNotT, mAndV, mOrV, mNotV, mIsi, mLst, mDisp, mTup, mCell, mSl, mNo, mSome, mIt, mRng1, mRng2, mFor, mComp, mYes, mThru, mHeard, mBrk, mCont, mCh, mChT, mCh3, mCat, fAdd, fSub, fMul, fDiv, fMod, fPow, fNeg, fLt, fLe, fGt, fGe, fIsN, fNotN, fEq, fNe, fIn, fNin, fIx, fSl, fLen, fInt, fMax2, fMin2, fAbs, fList, fTuple, svK, svKw, sget, sset, startR, retE, isB, ownK, lstK, intK, seqK, unpT, setK, svOk, bN, bT, sputs, isN_non, isN_bl, isN_int, isN_str, isN_tup, isN_lst, isN_klst, if_true, if_false, Bool.false_eq_true, reduceIte, Bool.not_true, Bool.not_false, decide_true, decide_false, Bool.true_and, Bool.false_and, Bool.and_true, Bool.and_false, Bool.true_or, Bool.false_or, Bool.or_true, Bool.or_false, and_true, true_and, List.length_cons, List.length_nil, List.replicate_succ, List.replicate_zero, Nat.reduceSub]
        exact ⟨_, at2, hb, _, at0, _, at0, by decide, hQ⟩
  · exact h.elim
/-! ### the starts that are looked at -/
def bendI : D → List Int
  | .tup [.int s, f, c] => (match f with
    | .int i => [i - s]
    | _ => []) ++ (match c with
    | .int i => [i - s]
    | _ => [])
  | _ => []
def farI : D → D → Int → Int → List Int
  | .tup [.int s, f, c], .tup [.int t, g, e], l, u => (match f, g with
    | .int i, .non => [if i - t - 1 < l then i - t - 1 else l]
    | _, _ => []) ++ (match c, e with
    | .non, .int j => [if j - s + 1 > u then j - s + 1 else u]
    | _, _ => [])
  | _, _, _, _ => []
def brk (a b : D) (l u : Int) : List Int := bendI a ++ bendI b ++ [l, u] ++ farI a b l u ++ farI b a l u
def m_bends : MS := (mSeq (mUnp [1, 2, 3] (mM (mVar 0)))
  (mRet (mM (mLst (mComp [4] (mIt (mTup (mCons (mVar 2) (mCons (mVar 3) mNil)))) (bN 4) (mBinT fNotN (mVar 4) (mC .non)) (mBin fSub (mVar 4) (mVar 1)))))))
def m_far_starts : MS := (mSeq (mSetF 4 (mDisp mNil))
  (mSeq (mIfS (mAndT (mBinT fNotN (mBin fIx (mVar 0) (mC (.int 1))) (mC .non)) (mBinT fIsN (mBin fIx (mVar 1) (mC (.int 1))) (mC .non))) (mApp 4 (mPrim fMin2 (mCons (mVar 2) (mCons (mBin fSub (mBin fSub (mBin fIx (mVar 0) (mC (.int 1))) (mBin fIx (mVar 1) (mC (.int 0)))) (mC (.int 1))) mNil)))) mPass)
  (mSeq (mIfS (mAndT (mBinT fIsN (mBin fIx (mVar 0) (mC (.int 2))) (mC .non)) (mBinT fNotN (mBin fIx (mVar 1) (mC (.int 2))) (mC .non))) (mApp 4 (mPrim fMax2 (mCons (mVar 3) (mCons (mBin fAdd (mBin fSub (mBin fIx (mVar 1) (mC (.int 2))) (mBin fIx (mVar 0) (mC (.int 0)))) (mC (.int 1))) mNil)))) mPass)
  (mFrz 4 (mRet (mM (mVar 4)))))))
def m_breaks (c_bends : Con) (c_far_starts : Con) : MS := (mSeq (mSetF 2 (mCat (mCall 1 c_bends (mCons (mVar 0) mNil)) (mCall 1 c_bends (mCons (mVar 1) mNil))))
  (mSeq (mPar 3 4 (mCons (mBin fSub (mPrim fMin1 (mCons (mBin fAdd (mVarW 2) (mLst (mDisp (mCons (mC (.int 0)) mNil)))) mNil)) (mC (.int 1))) (mCons (mBin fAdd (mPrim fMax1 (mCons (mBin fAdd (mVarW 2) (mLst (mDisp (mCons (mC (.int 0)) mNil)))) mNil)) (mC (.int 1))) mNil)))
  (mSeq (mExt 2 (mLst (mDisp (mCons (mVar 3) (mCons (mVar 4) mNil)))))
  (mRet (mM (mBin fAdd (mBin fAdd (mVarW 2) (mCall 4 c_far_starts (mCons (mVar 0) (mCons (mVar 1) (mCons (mVar 3) (mCons (mVar 4) mNil)))))) (mCall 4 c_far_starts (mCons (mVar 1) (mCons (mVar 0) (mCons (mVar 3) (mCons (mVar 4) mNil)))))))))))
def c_bends : Con := fun ds S Q _ => match ds with
  | [a] => fault a = none ∧ Q (.lst ((bendI a).map .int)) S
  | _ => False
theorem h_bends (ds : List D) (S : Store) (Q : EK) (E : XKd) (hn : ds.length = 1) (h : c_bends ds S Q E) : m_bends (startR 5 ds) S (retE Q E) := by
  unfold c_bends at h
  split at h
  · rename_i a
    obtain ⟨ha, hQ⟩ := h
    obtain ⟨s, f, c, rfl, of, oc, ab⟩ := fault_none ha
    try simp only [m_bends, swipe, mSeq, mSet, mM, mCall, mCons, mNil, mVar, mVarW, mC, mIfS, mIf, mRet, mRetN, mExpr, mPass, mRaise, mUnp, mPar, mPar2F, mSetF, mFrz, mApp, mExt, mPop, mSetIx, mBin, mBinT, mUn, mPrim, mT, mAndT, mOrT, mNotT, mAndV, mOrV, mNotV, mIsi, mLst, mDisp, mTup, mCell, mSl, mNo, mSome, mIt, mRng1, mRng2, mFor, mComp, mYes, mThru, mHeard, mBrk, mCont, mCh, mChT, mCh3, mCat, fAdd, fSub, fMul, fDiv, fMod, fPow, fNeg, fLt, fLe, fGt, fGe, fIsN, fNotN, fEq, fNe, fIn, fNin, fIx, fSl, fLen, fInt, fMax2, fMin2, fAbs, fList, fTuple, svK, svKw, sget, sset, startR, retE, isB, ownK, lstK, intK, seqK, unpT, setK, svOk, bN, bT, sputs, isN_non, isN_bl, isN_int, isN_str, isN_tup, isN_lst, isN_klst, if_true, if_false, Bool.false_eq_true, reduceIte, Bool.not_true, Bool.not_false, decide_true, decide_false, Bool.true_and, Bool.false_and, Bool.and_true, Bool.and_false, Bool.true_or, Bool.false_or, Bool.or_true, Bool.or_false, and_true, true_and, List.length_cons, List.length_nil, List.replicate_succ, List.replicate_zero, Nat.reduceSub]
    refine ⟨by decide, by decide, ?_⟩
    cases f <;> simp [opt] at of <;> cases c <;> simp [opt] at oc <;> simp only [lcD, mSeq, mSet, mM, mCall, mCons, mNil, mVar, mVarW, mC, mIfS, mIf, mRet, mRetN, mExpr, mPass, mRaise, mUnp, mPar, mPar2F, mSetF, mFrz, mApp, mExt, mPop, mSetIx, mBin, mBinT, mUn, mPrim, mT, mAndT, mOrT, mNotT, mAndV, mOrV, mNotV, mIsi, mLst, mDisp, mTup, mCell, mSl, mNo, mSome, mIt, mRng1, mRng2, mFor, mComp, mYes, mThru, mHeard, mBrk, mCont, mCh, mChT, mCh3, mCat, fAdd, fSub, fMul, fDiv, fMod, fPow, fNeg, fLt, fLe, fGt, fGe, fIsN, fNotN, fEq, fNe, fIn, fNin, fIx, fSl, fLen, fInt, fMax2, fMin2, fAbs, fList, fTuple, svK, svKw, sget, sset, startR, retE, isB, ownK, lstK, intK, seqK, unpT, setK, svOk, bN, bT, sputs, isN_non, isN_bl, isN_int, isN_str, isN_tup, isN_lst, isN_klst, if_true, if_false, Bool.false_eq_true, reduceIte, Bool.not_true, Bool.not_false, decide_true, decide_false, Bool.true_and, Bool.false_and, Bool.and_true, Bool.and_false, Bool.true_or, Bool.false_or, Bool.or_true, Bool.or_false, and_true, true_and, List.length_cons, List.length_nil, List.replicate_succ, List.replicate_zero, Nat.reduceSub] <;> exact hQ
  · exact h.elim
def c_far : Con := fun ds S Q _ => match ds with
  | [a, b, .int l, .int u] => (fault a = none ∧ fault b = none) ∧ Q (.lst ((farI a b l u).map .int)) S
  | _ => False
theorem h_far (ds : List D) (S : Store) (Q : EK) (E : XKd) (hn : ds.length = 4) (h : c_far ds S Q E) : m_far_starts (startR 5 ds) S (retE Q E) := by
  unfold c_far at h
  split at h
  · rename_i a b l u
    obtain ⟨⟨ha, hb⟩, hQ⟩ := h
    obtain ⟨s, f, c, rfl, of, oc, ab⟩ := fault_none ha
    obtain ⟨t, g, e, rfl, og, oe, cd⟩ := fault_none hb
    try simp only [m_far_starts, mSeq, mSet, mM, mCall, mCons, mNil, mVar, mVarW, mC, mIfS, mIf, mRet, mRetN, mExpr, mPass, mRaise, mUnp, mPar, mPar2F, mSetF, mFrz, mApp, mExt, mPop, mSetIx, mBin, mBinT, mUn, mPrim, mT, mAndT, mOrT, mNotT, mAndV, mOrV, mNotV, mIsi, mLst, mDisp, mTup, mCell, mSl, mNo, mSome, mIt, mRng1, mRng2, mFor, mComp, mYes, mThru, mHeard, mBrk, mCont, mCh, mChT, mCh3, mCat, fAdd, fSub, fMul, fDiv, fMod, fPow, fNeg, fLt, fLe, fGt, fGe, fIsN, fNotN, fEq, fNe, fIn, fNin, fIx, fSl, fLen, fInt, fMax2, fMin2, fAbs, fList, fTuple, svK, svKw, sget, sset, startR, retE, isB, ownK, lstK, intK, seqK, unpT, setK, svOk, bN, bT, sputs, isN_non, isN_bl, isN_int, isN_str, isN_tup, isN_lst, isN_klst, if_true, if_false, Bool.false_eq_true, reduceIte, Bool.not_true, Bool.not_false, decide_true, decide_false, Bool.true_and, Bool.false_and, Bool.and_true, Bool.and_false, Bool.true_or, Bool.false_or, Bool.or_true, Bool.or_false, and_true, true_and, List.length_cons, List.length_nil, List.replicate_succ, List.replicate_zero, Nat.reduceSub]
    refine ⟨by decide, _, at1, ?_⟩
    cases f <;> simp [opt] at of <;> cases g <;> simp [opt] at og <;> cases c <;> simp [opt] at oc <;> cases e <;> simp [opt] at oe <;> simp only [mSeq, mSet, mM, mCall, mCons, mNil, mVar, mVarW, mC, mIfS, mIf, mRet, mRetN, mExpr, mPass, mRaise, mUnp, mPar, mPar2F, mSetF, mFrz, mApp, mExt, mPop, mSetIx, mBin, mBinT, mUn, mPrim, mT, mAndT, mOrT, mNotT, mAndV, mOrV, mNotV, mIsi, mLst, mDisp, mTup, mCell, mSl, mNo, mSome, mIt, mRng1, mRng2, mFor, mComp, mYes, mThru, mHeard, mBrk, mCont, mCh, mChT, mCh3, mCat, fAdd, fSub, fMul, fDiv, fMod, fPow, fNeg, fLt, fLe, fGt, fGe, fIsN, fNotN, fEq, fNe, fIn, fNin, fIx, fSl, fLen, fInt, fMax2, fMin2, fAbs, fList, fTuple, svK, svKw, sget, sset, startR, retE, isB, ownK, lstK, intK, seqK, unpT, setK, svOk, bN, bT, sputs, isN_non, isN_bl, isN_int, isN_str, isN_tup, isN_lst, isN_klst, if_true, if_false, Bool.false_eq_true, reduceIte, Bool.not_true, Bool.not_false, decide_true, decide_false, Bool.true_and, Bool.false_and, Bool.and_true, Bool.and_false, Bool.true_or, Bool.false_or, Bool.or_true, Bool.or_false, and_true, true_and, List.length_cons, List.length_nil, List.replicate_succ, List.replicate_zero, Nat.reduceSub] <;>
      (repeat' first
        | exact hQ
        | refine ⟨_, at1, ?_⟩
        | refine ⟨_, at2, ?_⟩
        | refine ⟨_, at0, ?_⟩
        | refine ⟨by simp [lim], ?_⟩
        | simp only [mSeq, mSet, mM, mCall, mCons, mNil, mVar, mVarW, mC, mIfS, mIf, mRet, mRetN, mExpr, mPass, mRaise, mUnp, mPar, mPar2F, mSetF, mFrz, mApp, mExt, mPop, mSetIx, mBin, mBinT, mUn, mPrim, mT, mAndT, mOrT, mNotT, mAndV, mOrV, mNotV, mIsi, mLst, mDisp, mTup, mCell, mSl, mNo, mSome, mIt, mRng1, mRng2, mFor, mComp, mYes, mThru, mHeard, mBrk, mCont, mCh, mChT, mCh3, mCat, fAdd, fSub, fMul, fDiv, fMod, fPow, fNeg, fLt, fLe, fGt, fGe, fIsN, fNotN, fEq, fNe, fIn, fNin, fIx, fSl, fLen, fInt, fMax2, fMin2, fAbs, fList, fTuple, svK, svKw, sget, sset, startR, retE, isB, ownK, lstK, intK, seqK, unpT, setK, svOk, bN, bT, sputs, isN_non, isN_bl, isN_int, isN_str, isN_tup, isN_lst, isN_klst, if_true, if_false, Bool.false_eq_true, reduceIte, Bool.not_true, Bool.not_false, decide_true, decide_false, Bool.true_and, Bool.false_and, Bool.and_true, Bool.and_false, Bool.true_or, Bool.false_or, Bool.or_true, Bool.or_false, and_true, true_and, List.length_cons, List.length_nil, List.replicate_succ, List.replicate_zero, Nat.reduceSub])
  · exact h.elim
def c_breaks : Con := fun ds S Q _ => match ds with
  | [a, b] => (fault a = none ∧ fault b = none) ∧ ∀ l u, Q (.lst ((brk a b l u).map .int)) S
  | _ => False
theorem bendI_len (a : D) : (bendI a).length ≤ 2 := by
  unfold bendI
  repeat' split
  all_goals simp
theorem farI_len (a b : D) (l u : Int) : (farI a b l u).length ≤ 2 := by
  unfold farI
  repeat' split
  all_goals simp
theorem ints_some (ns : List Int) : intsD (ns.map D.int) = some ns := ints_map ns
theorem min_ex : ∀ (ns : List Int), ns ≠ [] → ∃ m, m ∈ ns ∧ ∀ y ∈ ns, m ≤ y
  | [], h => absurd rfl h
  | [a], _ => ⟨a, by simp, by simp⟩
  | a :: b :: r, _ => by
    obtain ⟨m, h1, h2⟩ := min_ex (b :: r) (by simp)
    by_cases h : a ≤ m
    · exact ⟨a, by simp, fun y hy => by
        rcases List.mem_cons.mp hy with rfl | hy
        · omega
        · have := h2 y hy; omega⟩
    · exact ⟨m, List.mem_cons_of_mem _ h1, fun y hy => by
        rcases List.mem_cons.mp hy with rfl | hy
        · omega
        · exact h2 y hy⟩
theorem h_breaks (ds : List D) (S : Store) (Q : EK) (E : XKd) (hn : ds.length = 2) (h : c_breaks ds S Q E) : m_breaks c_bends c_far (startR 5 ds) S (retE Q E) := by
  unfold c_breaks at h
  split at h
  · rename_i a b
    obtain ⟨⟨ha, hb⟩, hQ⟩ := h
    have la := bendI_len a
    have lb := bendI_len b
    try simp only [m_breaks, c_bends, c_far, mSeq, mSet, mM, mCall, mCons, mNil, mVar, mVarW, mC, mIfS, mIf, mRet, mRetN, mExpr, mPass, mRaise, mUnp, mPar, mPar2F, mSetF, mFrz, mApp, mExt, mPop, mSetIx, mBin, mBinT, mUn, mPrim, mT, mAndT, mOrT, mNotT, mAndV, mOrV, mNotV, mIsi, mLst, mDisp, mTup, mCell, mSl, mNo, mSome, mIt, mRng1, mRng2, mFor, mComp, mYes, mThru, mHeard, mBrk, mCont, mCh, mChT, mCh3, mCat, fAdd, fSub, fMul, fDiv, fMod, fPow, fNeg, fLt, fLe, fGt, fGe, fIsN, fNotN, fEq, fNe, fIn, fNin, fIx, fSl, fLen, fInt, fMax2, fMin2, fAbs, fList, fTuple, svK, svKw, sget, sset, startR, retE, isB, ownK, lstK, intK, seqK, unpT, setK, svOk, bN, bT, sputs, isN_non, isN_bl, isN_int, isN_str, isN_tup, isN_lst, isN_klst, if_true, if_false, Bool.false_eq_true, reduceIte, Bool.not_true, Bool.not_false, decide_true, decide_false, Bool.true_and, Bool.false_and, Bool.and_true, Bool.and_false, Bool.true_or, Bool.false_or, Bool.or_true, Bool.or_false, and_true, true_and, List.length_cons, List.length_nil, List.replicate_succ, List.replicate_zero, Nat.reduceSub]
    refine ⟨ha, hb, by simp [lim]; omega, by decide, by simp [lim]; omega, ?_⟩
    have e1 : (bendI a).map D.int ++ (bendI b).map D.int ++ [.int 0] = (bendI a ++ bendI b ++ [0]).map D.int := by simp
    rw [e1]
    refine ⟨_, ints_some _, by simp, fun m _ _ => ?_⟩
    refine ⟨by decide, by simp [lim]; omega, _, ints_some _, by simp, fun m' _ _ => ?_⟩
    refine ⟨by decide, by simp [lim]; omega, ⟨ha, hb⟩, ?_⟩
    have f1 := farI_len a b (m - 1) (m' + 1)
    have f2 := farI_len b a (m - 1) (m' + 1)
    refine ⟨by simp [lim]; omega, ⟨hb, ha⟩, by simp [lim]; omega, ?_⟩
    have e2 := hQ (m - 1) (m' + 1)
    unfold brk at e2
    simpa using e2
  · exact h.elim

/-! ### alike at these starts: alike -/
theorem mem_brk1 {a b : D} {l u x : Int} (h : x ∈ bendI a) : x ∈ brk a b l u := by simp [brk, h]
theorem mem_brk2 {a b : D} {l u x : Int} (h : x ∈ bendI b) : x ∈ brk a b l u := by simp [brk, h]
theorem mem_brk3 {a b : D} {l u x : Int} (h : x ∈ farI a b l u) : x ∈ brk a b l u := by simp [brk, h]
theorem mem_brk4 {a b : D} {l u x : Int} (h : x ∈ farI b a l u) : x ∈ brk a b l u := by simp [brk, h]
/-- the shift -/
def shI : D → Int
  | .tup [.int s, _, _] => s
  | _ => 0
theorem brk_same {a b : D} {l u : Int} (ha : fault a = none) (hb : fault b = none) (hs : shI a = shI b) (h : ∀ x ∈ brk a b l u, aft a x = aft b x) : a = b := by
  have h1 := fun x hx => h x (mem_brk1 (x := x) hx)
  have h2 := fun x hx => h x (mem_brk2 (x := x) hx)
  have h3 := fun x hx => h x (mem_brk3 (x := x) hx)
  have h4 := fun x hx => h x (mem_brk4 (x := x) hx)
  clear h
  rcases fault_sorts ha with ⟨s, rfl⟩ | ⟨s, c, rfl⟩ | ⟨s, f, rfl⟩ | ⟨s, f, c, fc, rfl⟩ <;> rcases fault_sorts hb with ⟨t, rfl⟩ | ⟨t, e, rfl⟩ | ⟨t, g, rfl⟩ | ⟨t, g, e, ge, rfl⟩ <;>
    simp only [shI] at hs <;> subst hs <;> simp (disch := omega) [bendI, farI, aft_nn, aft_ni, aft_in, aft_ii] at h1 h2 h3 h4 ⊢ <;> (repeat' split at h3) <;> (repeat' split at h4) <;> omega
end TL

set_option Elab.async false
set_option linter.all false
set_option maxRecDepth 100000
set_option maxHeartbeats 4000000
/-! the walk of answersstacked_k04_changes_swapped: printed by gen.py -/
namespace LK04
open PySem PySem.Spec PyProof.Rows L2 TL
abbrev Pr : Program := PySem.Challenge.pw_answersstacked_k04_changes_swapped
def top (i : Nat) : Stmt := Pr.main.body.getD i (.Pass ⟨0, 0, 0, 0⟩)
def inC (st : Stmt) (i : Nat) : Stmt := match st with
  | .ClassDef _ _ _ b _ _ _ _ _ _ _ => b.getD i (.Pass ⟨0, 0, 0, 0⟩)
  | s => s
def errs : List Str := ["BadChange", "Unlike"]
def xs : List Str := ["BadChange", "Unlike", "Refused"]
def hl_law_x04_heard : List (Str × Str × Bool) := [("BadChange", "BadChange", true), ("Unlike", "Unlike", true), ("Refused", "", false)]
def fa : List He.Fa := [.glo "whole", .glo "wrong_change", .glo "after_of", .glo "made_change", .glo "joined_of", .glo "bends", .glo "far_starts", .glo "breaks", .glo "apart_of", .glo "swap_at", .glo "swap_right", .glo "most_apart", .glo "_law_pool", .glo "_law_take", .glo "_law_one", .glo "_law_aw_is_number", .glo "_law_aw_after", .glo "_law_aw_joined", .glo "_law_aw_change", .glo "_law_aw_great", .glo "_law_aq_is_whole", .glo "_law_aq_same", .glo "_law_x04_heard", .glo "_law_x04_draw", .glo "_law_x04_starts", .glo "_law_x04_swap_right", .glo "_law_x04_apart_right", .glo "_law_x04_whole", .glo "law", .glo "BadChange", .glo "Unlike", .glo "Refused", .free "ValueError", .free "isinstance", .free "bool", .free "int", .free "len", .int "TRIPLE" 3, .free "tuple", .free "min", .free "max", .free "abs", .free "range", .free "str", .free "list"]
def cts : List (Str × List D) := []
abbrev st_whole : Stmt := top 4
def dd_whole : He.DefD := ⟨("whole", none), "whole", "whole", defArgs st_whole, defBody st_whole, defScope st_whole, [], []⟩
abbrev st_wrong_change : Stmt := top 7
def dd_wrong_change : He.DefD := ⟨("wrong_change", none), "wrong_change", "wrong_change", defArgs st_wrong_change, defBody st_wrong_change, defScope st_wrong_change, [], []⟩
abbrev st_after_of : Stmt := top 8
def dd_after_of : He.DefD := ⟨("after_of", none), "after_of", "after_of", defArgs st_after_of, defBody st_after_of, defScope st_after_of, [], []⟩
abbrev st_made_change : Stmt := top 9
def dd_made_change : He.DefD := ⟨("made_change", none), "made_change", "made_change", defArgs st_made_change, defBody st_made_change, defScope st_made_change, [], []⟩
abbrev st_joined_of : Stmt := top 11
def dd_joined_of : He.DefD := ⟨("joined_of", none), "joined_of", "joined_of", defArgs st_joined_of, defBody st_joined_of, defScope st_joined_of, [], []⟩
abbrev st_bends : Stmt := top 13
def dd_bends : He.DefD := ⟨("bends", none), "bends", "bends", defArgs st_bends, defBody st_bends, defScope st_bends, [], []⟩
abbrev st_far_starts : Stmt := top 14
def dd_far_starts : He.DefD := ⟨("far_starts", none), "far_starts", "far_starts", defArgs st_far_starts, defBody st_far_starts, defScope st_far_starts, [], []⟩
abbrev st_breaks : Stmt := top 15
def dd_breaks : He.DefD := ⟨("breaks", none), "breaks", "breaks", defArgs st_breaks, defBody st_breaks, defScope st_breaks, [], []⟩
abbrev st_apart_of : Stmt := top 16
def dd_apart_of : He.DefD := ⟨("apart_of", none), "apart_of", "apart_of", defArgs st_apart_of, defBody st_apart_of, defScope st_apart_of, [], []⟩
abbrev st_swap_at : Stmt := top 17
def dd_swap_at : He.DefD := ⟨("swap_at", none), "swap_at", "swap_at", defArgs st_swap_at, defBody st_swap_at, defScope st_swap_at, [], []⟩
abbrev st_swap_right : Stmt := top 18
def dd_swap_right : He.DefD := ⟨("swap_right", none), "swap_right", "swap_right", defArgs st_swap_right, defBody st_swap_right, defScope st_swap_right, [], []⟩
abbrev st_most_apart : Stmt := top 19
def dd_most_apart : He.DefD := ⟨("most_apart", none), "most_apart", "most_apart", defArgs st_most_apart, defBody st_most_apart, defScope st_most_apart, [], []⟩
abbrev st_law_pool : Stmt := top 21
def dd_law_pool : He.DefD := ⟨("_law_pool", none), "_law_pool", "_law_pool", defArgs st_law_pool, defBody st_law_pool, defScope st_law_pool, [], []⟩
abbrev st_law_take : Stmt := top 22
def dd_law_take : He.DefD := ⟨("_law_take", none), "_law_take", "_law_take", defArgs st_law_take, defBody st_law_take, defScope st_law_take, [], []⟩
abbrev st_law_one : Stmt := top 23
def dd_law_one : He.DefD := ⟨("_law_one", none), "_law_one", "_law_one", defArgs st_law_one, defBody st_law_one, defScope st_law_one, [], []⟩
abbrev st_law_aw_is_number : Stmt := top 24
def dd_law_aw_is_number : He.DefD := ⟨("_law_aw_is_number", none), "_law_aw_is_number", "_law_aw_is_number", defArgs st_law_aw_is_number, defBody st_law_aw_is_number, defScope st_law_aw_is_number, [], []⟩
abbrev st_law_aw_after : Stmt := top 25
def dd_law_aw_after : He.DefD := ⟨("_law_aw_after", none), "_law_aw_after", "_law_aw_after", defArgs st_law_aw_after, defBody st_law_aw_after, defScope st_law_aw_after, [], []⟩
abbrev st_law_aw_joined : Stmt := top 26
def dd_law_aw_joined : He.DefD := ⟨("_law_aw_joined", none), "_law_aw_joined", "_law_aw_joined", defArgs st_law_aw_joined, defBody st_law_aw_joined, defScope st_law_aw_joined, [], []⟩
abbrev st_law_aw_change : Stmt := top 27
def dd_law_aw_change : He.DefD := ⟨("_law_aw_change", none), "_law_aw_change", "_law_aw_change", defArgs st_law_aw_change, defBody st_law_aw_change, defScope st_law_aw_change, [], []⟩
abbrev st_law_aw_great : Stmt := top 28
def dd_law_aw_great : He.DefD := ⟨("_law_aw_great", none), "_law_aw_great", "_law_aw_great", defArgs st_law_aw_great, defBody st_law_aw_great, defScope st_law_aw_great, [], []⟩
abbrev st_law_aq_is_whole : Stmt := top 29
def dd_law_aq_is_whole : He.DefD := ⟨("_law_aq_is_whole", none), "_law_aq_is_whole", "_law_aq_is_whole", defArgs st_law_aq_is_whole, defBody st_law_aq_is_whole, defScope st_law_aq_is_whole, [], []⟩
abbrev st_law_aq_same : Stmt := top 30
def dd_law_aq_same : He.DefD := ⟨("_law_aq_same", none), "_law_aq_same", "_law_aq_same", defArgs st_law_aq_same, defBody st_law_aq_same, defScope st_law_aq_same, [], []⟩
abbrev st_law_x04_heard : Stmt := top 31
def dd_law_x04_heard : He.DefD := ⟨("_law_x04_heard", none), "_law_x04_heard", "_law_x04_heard", defArgs st_law_x04_heard, defBody st_law_x04_heard, defScope st_law_x04_heard, [], []⟩
abbrev st_law_x04_draw : Stmt := top 32
def dd_law_x04_draw : He.DefD := ⟨("_law_x04_draw", none), "_law_x04_draw", "_law_x04_draw", defArgs st_law_x04_draw, defBody st_law_x04_draw, defScope st_law_x04_draw, [], []⟩
abbrev st_law_x04_starts : Stmt := top 33
def dd_law_x04_starts : He.DefD := ⟨("_law_x04_starts", none), "_law_x04_starts", "_law_x04_starts", defArgs st_law_x04_starts, defBody st_law_x04_starts, defScope st_law_x04_starts, [], []⟩
abbrev st_law_x04_swap_right : Stmt := top 34
def dd_law_x04_swap_right : He.DefD := ⟨("_law_x04_swap_right", none), "_law_x04_swap_right", "_law_x04_swap_right", defArgs st_law_x04_swap_right, defBody st_law_x04_swap_right, defScope st_law_x04_swap_right, [], []⟩
abbrev st_law_x04_apart_right : Stmt := top 35
def dd_law_x04_apart_right : He.DefD := ⟨("_law_x04_apart_right", none), "_law_x04_apart_right", "_law_x04_apart_right", defArgs st_law_x04_apart_right, defBody st_law_x04_apart_right, defScope st_law_x04_apart_right, [], []⟩
abbrev st_law_x04_whole : Stmt := top 36
def dd_law_x04_whole : He.DefD := ⟨("_law_x04_whole", none), "_law_x04_whole", "_law_x04_whole", defArgs st_law_x04_whole, defBody st_law_x04_whole, defScope st_law_x04_whole, [], []⟩
abbrev st_law : Stmt := top 37
def dd_law : He.DefD := ⟨("law", none), "law", "law", defArgs st_law, defBody st_law, defScope st_law, [], []⟩
abbrev st_init : Stmt := inC (top 1) 0
def dd_init : He.DefD := ⟨("Refused", some "__init__"), "__init__", "Refused.__init__", defArgs st_init, defBody st_init, defScope st_init, [], []⟩
def fn : List He.DefD := [dd_init, dd_whole, dd_wrong_change, dd_after_of, dd_made_change, dd_joined_of, dd_bends, dd_far_starts, dd_breaks, dd_apart_of, dd_swap_at, dd_swap_right, dd_most_apart, dd_law_pool, dd_law_take, dd_law_one, dd_law_aw_is_number, dd_law_aw_after, dd_law_aw_joined, dd_law_aw_change, dd_law_aw_great, dd_law_aq_is_whole, dd_law_aq_same, dd_law_x04_heard, dd_law_x04_draw, dd_law_x04_starts, dd_law_x04_swap_right, dd_law_x04_apart_right, dd_law_x04_whole, dd_law]
def tf : List He.Defn := [("_law_x04_swap_right", none), ("_law_x04_apart_right", none)]
/-- the head of this law -/
abbrev HD (wd : World) (K : KF) (mg : Str → Option Value) (base h : Heap) : Prop := Hd0 fa fn tf "Refused" errs xs cts wd K mg base h
section
variable {wd : World} {K : KF} {mg : Str → Option Value} {base h : Heap}
theorem sc_init : FnScope ["self", "what"] ["self", "what"] (defScope st_init) := ⟨rfl, rfl, rfl, by decide +kernel, rfl, by decide +kernel, by decide +kernel⟩
theorem ip (Hd : HD wd K mg base h) : InitP Pr wd K mg base (He.ma K (He.ga K "Refused") "__init__") := by
  obtain ⟨fd, F⟩ := Hd.fun_ 0 (d := dd_init)
  exact init_ok F (FunD.bindsN F fun _ _ _ _ _ _ us hl => match us, hl with | [_, _], _ => rfl) sc_init fun cdv A outer s H E => pss_cons (ps_expr (pe_veinit rfl (Hd.free 32) Hd.ex1.2.2.2.2.2 (pa_cons (pv 0) (pa_cons (pv 1) pa_nil)))) (pss_one (ps_ost (pv 0) (pv 1)))
/-! whole -/
theorem sc_whole : FnScope ["thing"] ["thing"] (defScope st_whole) := ⟨rfl, rfl, rfl, by decide +kernel, rfl, by decide +kernel, by decide +kernel⟩
def m_whole : MS := (mRet (mM (mAndV (mIsi "int" (mVar 0)) (mNotV (mIsi "bool" (mVar 0))))))
theorem d_whole (Hd : HD wd K mg base h) {f c : Addr} {A : Around} {outer : List Env} {s : Shared} {H : Hp} {Ex : XK} (hr : Room 0 (A.deeper (envOfC "whole" (defScope st_whole) s.heap.objs.size f (.ref c)))) :
    SSs (cxOf (L2.CX Pr wd) Pr wd K mg base ["thing"] "whole" (defScope st_whole) f (.ref c) A outer s H Ex) (tabsT K tf) (fun cls d _ H => Ex cls d H) (defBody st_whole) (m_whole) := by
  have nd := sc_whole.nd
  exact (ss_one (ss_ret (SE.m (s_and (s_isi kit_int (Hd.free 33) (Hd.free 35) (by decide +kernel) (SE.w (s_var 0))) (s_one (s_not (s_isi kit_bool (Hd.free 33) (Hd.free 34) (by decide +kernel) (SE.w (s_var 0)))))))))
theorem ok_whole (Hd : HD wd K mg base h) {con : Con} (hm : ∀ ds S Q E, ds.length = 1 → con ds S Q E → m_whole (startR 1 ds) S (retE Q E)) : FnP Pr wd K mg base (tabsT K tf) "whole" 1 1 con := by
  obtain ⟨fd, F⟩ := Hd.fun_ 1 (d := dd_whole)
  obtain ⟨oc, od, osl, lk⟩ := FunD.lkc F
  exact fn_okC F (Hd.glo 0) (FunD.bindsN (ps := ["thing"]) F fun _ _ _ _ _ _ us hl => match us, hl with | [_], _ => rfl) sc_whole (by decide) (fun c A outer s H Ex ec hr => d_whole Hd hr) hm
/-! wrong_change -/
theorem sc_wrong_change : FnScope ["thing", "place"] ["thing"] (defScope st_wrong_change) := ⟨rfl, rfl, rfl, by decide +kernel, rfl, by decide +kernel, by decide +kernel⟩
def m_wrong_change (c_whole : Con) : MS := (mSeq (mIfS (mOrT (mNotT (mT (mIsi "tuple" (mVar 0)))) (mBinT fNe (mPrim fLen (mCons (mVar 0) mNil)) (mC (.int (3))))) (mRet (mM (mUn fNeg (mC (.int 1))))) mPass)
  (mSeq (mIfS (mNotT (mT (mCall 1 c_whole (mCons (mBin fIx (mVar 0) (mC (.int 0))) mNil)))) (mRet (mM (mC (.int 0)))) mPass)
  (mSeq (mFor (mIt (mTup (mCons (mC (.int 1)) (mCons (mC (.int 2)) mNil)))) (bN 1) (mIfS (mAndT (mBinT fNotN (mBin fIx (mVar 0) (mVar 1)) (mC .non)) (mNotT (mT (mCall 1 c_whole (mCons (mBin fIx (mVar 0) (mVar 1)) mNil))))) (mRet (mM (mVar 1))) mPass))
  (mRet (mM (mIf (mAndT (mBinT fNin (mC .non) (mSl (mVar 0) (mSome (mC (.int 1))) mNo)) (mBinT fGt (mBin fIx (mVar 0) (mC (.int 1))) (mBin fIx (mVar 0) (mC (.int 2))))) (mC (.int 2)) (mC .non)))))))
theorem d_wrong_change (Hd : HD wd K mg base h) {c_whole : Con} (F_whole : FnP Pr wd K mg base (tabsT K tf) "whole" 1 1 c_whole) {f c : Addr} {A : Around} {outer : List Env} {s : Shared} {H : Hp} {Ex : XK} (hr : Room 1 (A.deeper (envOfC "wrong_change" (defScope st_wrong_change) s.heap.objs.size f (.ref c)))) :
    SSs (cxOf (L2.CX Pr wd) Pr wd K mg base ["thing", "place"] "wrong_change" (defScope st_wrong_change) f (.ref c) A outer s H Ex) (tabsT K tf) (fun cls d _ H => Ex cls d H) (defBody st_wrong_change) (m_wrong_change c_whole) := by
  have nd := sc_wrong_change.nd
  exact (ss_cons (ss_if (STw.t (tw_or (t_not (t_val (s_isi kit_tuple (Hd.free 33) (Hd.free 38) (by decide +kernel) (SE.w (s_var 0))))) (tw_or1 (t_ne (hu64 hr) (SE.w (s_len (Hd.free 36) (saw_cons (SE.w (s_var 0)) saw_nil))) (SE.w (s_glob rfl (Hd.gcInt 37))))))) (ss_one (ss_ret (SE.m (s_neg (SE.w s_int))))) ss_nil)
  (ss_cons (ss_if (t_not (t_val (s_call F_whole tk_of (Room.mono hr (by decide)) (sa_cons (s_ix (SE.w (s_var 0)) (SE.w s_int)) sa_nil)))) (ss_one (ss_ret (SE.m s_int))) ss_nil)
  (ss_cons (ss_for po_of rfl (si_seq (s_tup (sa_cons s_int (sa_cons s_int sa_nil)))) (sb_name 1 nd) (ss_one (ss_if (STw.t (tw_and (t_isnot (SE.w (s_ix (SE.w (s_var 0)) (SE.w (s_var 1)))) (SE.w s_non)) (tw_and1 (t_not (t_val (s_call F_whole tk_of (Room.mono hr (by decide)) (sa_cons (s_ix (SE.w (s_var 0)) (SE.w (s_var 1))) sa_nil))))))) (ss_one (ss_ret (SE.m (s_var 1)))) ss_nil)))
  (ss_one (ss_ret (SE.m (s_if (STw.t (tw_and (t_nin (hu65 hr) (SE.w s_non) (SE.w (s_sl (SE.w (s_var 0)) (so_some s_int) so_no))) (tw_and1 (t_gt (SE.w (s_ix (SE.w (s_var 0)) (SE.w s_int))) (SE.w (s_ix (SE.w (s_var 0)) (SE.w s_int))))))) s_int s_non)))))))
theorem ok_wrong_change (Hd : HD wd K mg base h) {c_whole : Con} (F_whole : FnP Pr wd K mg base (tabsT K tf) "whole" 1 1 c_whole) {con : Con} (hm : ∀ ds S Q E, ds.length = 1 → con ds S Q E → m_wrong_change c_whole (startR 2 ds) S (retE Q E)) : FnP Pr wd K mg base (tabsT K tf) "wrong_change" 1 2 con := by
  obtain ⟨fd, F⟩ := Hd.fun_ 2 (d := dd_wrong_change)
  obtain ⟨oc, od, osl, lk⟩ := FunD.lkc F
  exact fn_okC F (Hd.glo 1) (FunD.bindsN (ps := ["thing"]) F fun _ _ _ _ _ _ us hl => match us, hl with | [_], _ => rfl) sc_wrong_change (by decide) (fun c A outer s H Ex ec hr => d_wrong_change Hd F_whole hr) hm
/-! after_of -/
theorem sc_after_of : FnScope ["change", "x", "made", "shift", "floor", "ceil"] ["change", "x"] (defScope st_after_of) := ⟨rfl, rfl, rfl, by decide +kernel, rfl, by decide +kernel, by decide +kernel⟩
def m_after_of : MS := (mSeq (mUnp [3, 4, 5] (mM (mVar 0)))
  (mSeq (mSet 2 (mM (mBin fAdd (mVar 1) (mVar 3))))
  (mSeq (mIfS (mAndT (mBinT fNotN (mVar 4) (mC .non)) (mBinT fLt (mVar 2) (mVar 4))) (mRet (mM (mVar 4))) mPass)
  (mRet (mM (mIf (mAndT (mBinT fNotN (mVar 5) (mC .non)) (mBinT fGt (mVar 2) (mVar 5))) (mVar 5) (mVar 2)))))))
theorem d_after_of (Hd : HD wd K mg base h) {f c : Addr} {A : Around} {outer : List Env} {s : Shared} {H : Hp} {Ex : XK} (hr : Room 0 (A.deeper (envOfC "after_of" (defScope st_after_of) s.heap.objs.size f (.ref c)))) :
    SSs (cxOf (L2.CX Pr wd) Pr wd K mg base ["change", "x", "made", "shift", "floor", "ceil"] "after_of" (defScope st_after_of) f (.ref c) A outer s H Ex) (tabsT K tf) (fun cls d _ H => Ex cls d H) (defBody st_after_of) (m_after_of) := by
  have nd := sc_after_of.nd
  exact (ss_cons (ss_unp rfl (sg_cons 3 (sg_cons 4 (sg_cons 5 sg_nil nd) nd) nd) (SE.m (s_var 0)))
  (ss_cons (ss_set 2 (SE.m (s_add (SE.w (s_var 1)) (SE.w (s_var 3)))) nd)
  (ss_cons (ss_if (STw.t (tw_and (t_isnot (SE.w (s_var 4)) (SE.w s_non)) (tw_and1 (t_lt (SE.w (s_var 2)) (SE.w (s_var 4)))))) (ss_one (ss_ret (SE.m (s_var 4)))) ss_nil)
  (ss_one (ss_ret (SE.m (s_if (STw.t (tw_and (t_isnot (SE.w (s_var 5)) (SE.w s_non)) (tw_and1 (t_gt (SE.w (s_var 2)) (SE.w (s_var 5)))))) (s_var 5) (s_var 2))))))))
theorem ok_after_of (Hd : HD wd K mg base h) {con : Con} (hm : ∀ ds S Q E, ds.length = 2 → con ds S Q E → m_after_of (startR 6 ds) S (retE Q E)) : FnP Pr wd K mg base (tabsT K tf) "after_of" 2 1 con := by
  obtain ⟨fd, F⟩ := Hd.fun_ 3 (d := dd_after_of)
  obtain ⟨oc, od, osl, lk⟩ := FunD.lkc F
  exact fn_okC F (Hd.glo 2) (FunD.bindsN (ps := ["change", "x"]) F fun _ _ _ _ _ _ us hl => match us, hl with | [_, _], _ => rfl) sc_after_of (by decide) (fun c A outer s H Ex ec hr => d_after_of Hd hr) hm
/-! made_change -/
theorem sc_made_change : FnScope ["thing", "fault", "shift", "floor", "ceil"] ["thing"] (defScope st_made_change) := ⟨rfl, rfl, rfl, by decide +kernel, rfl, by decide +kernel, by decide +kernel⟩
def m_made_change (c_wrong_change : Con) : MS := (mSeq (mSet 1 (mM (mCall 1 c_wrong_change (mCons (mVar 0) mNil))))
  (mSeq (mIfS (mBinT fNotN (mVar 1) (mC .non)) (mRaise "BadChange" (mVar 1)) mPass)
  (mSeq (mUnp [2, 3, 4] (mM (mVar 0)))
  (mRet (mM (mTup (mCons (mVar 2) (mCons (mVar 3) (mCons (mVar 4) mNil)))))))))
theorem d_made_change (Hd : HD wd K mg base h) {c_wrong_change : Con} (F_wrong_change : FnP Pr wd K mg base (tabsT K tf) "wrong_change" 1 2 c_wrong_change) {f c : Addr} {A : Around} {outer : List Env} {s : Shared} {H : Hp} {Ex : XK} (hr : Room 2 (A.deeper (envOfC "made_change" (defScope st_made_change) s.heap.objs.size f (.ref c)))) :
    SSs (cxOf (L2.CX Pr wd) Pr wd K mg base ["thing", "fault", "shift", "floor", "ceil"] "made_change" (defScope st_made_change) f (.ref c) A outer s H Ex) (tabsT K tf) (fun cls d _ H => Ex cls d H) (defBody st_made_change) (m_made_change c_wrong_change) := by
  have nd := sc_made_change.nd
  have IP := ip Hd
  exact (ss_cons (ss_set 1 (SE.m (s_call F_wrong_change tk_of (Room.mono hr (by decide)) (sa_cons (s_var 0) sa_nil))) nd)
  (ss_cons (ss_if (t_isnot (SE.w (s_var 1)) (SE.w s_non)) (ss_one (ss_raise rfl tk_of IP (Hd.errC 29 (List.mem_of_getElem? (i := 0) rfl)) (Room.mono hr (by decide)) (s_var 1))) ss_nil)
  (ss_cons (ss_unp rfl (sg_cons 2 (sg_cons 3 (sg_cons 4 sg_nil nd) nd) nd) (SE.m (s_var 0)))
  (ss_one (ss_ret (SE.m (s_tup (sa_cons (s_var 2) (sa_cons (s_var 3) (sa_cons (s_var 4) sa_nil))))))))))
theorem ok_made_change (Hd : HD wd K mg base h) {c_wrong_change : Con} (F_wrong_change : FnP Pr wd K mg base (tabsT K tf) "wrong_change" 1 2 c_wrong_change) {con : Con} (hm : ∀ ds S Q E, ds.length = 1 → con ds S Q E → m_made_change c_wrong_change (startR 5 ds) S (retE Q E)) : FnP Pr wd K mg base (tabsT K tf) "made_change" 1 3 con := by
  obtain ⟨fd, F⟩ := Hd.fun_ 4 (d := dd_made_change)
  obtain ⟨oc, od, osl, lk⟩ := FunD.lkc F
  exact fn_okC F (Hd.glo 3) (FunD.bindsN (ps := ["thing"]) F fun _ _ _ _ _ _ us hl => match us, hl with | [_], _ => rfl) sc_made_change (by decide) (fun c A outer s H Ex ec hr => d_made_change Hd F_wrong_change hr) hm
/-! joined_of -/
theorem sc_joined_of : FnScope ["one", "two", "floor", "ceil"] ["one", "two"] (defScope st_joined_of) := ⟨rfl, rfl, rfl, by decide +kernel, rfl, by decide +kernel, by decide +kernel⟩
def m_joined_of (c_after_of : Con) : MS := (mSeq (mSet 2 (mM (mIf (mBinT fIsN (mBin fIx (mVar 0) (mC (.int 1))) (mC .non)) (mBin fIx (mVar 1) (mC (.int 1))) (mCall 2 c_after_of (mCons (mVar 1) (mCons (mBin fIx (mVar 0) (mC (.int 1))) mNil))))))
  (mSeq (mSet 3 (mM (mIf (mBinT fIsN (mBin fIx (mVar 0) (mC (.int 2))) (mC .non)) (mBin fIx (mVar 1) (mC (.int 2))) (mCall 2 c_after_of (mCons (mVar 1) (mCons (mBin fIx (mVar 0) (mC (.int 2))) mNil))))))
  (mRet (mM (mTup (mCons (mBin fAdd (mBin fIx (mVar 0) (mC (.int 0))) (mBin fIx (mVar 1) (mC (.int 0)))) (mCons (mVar 2) (mCons (mVar 3) mNil))))))))
theorem d_joined_of (Hd : HD wd K mg base h) {c_after_of : Con} (F_after_of : FnP Pr wd K mg base (tabsT K tf) "after_of" 2 1 c_after_of) {f c : Addr} {A : Around} {outer : List Env} {s : Shared} {H : Hp} {Ex : XK} (hr : Room 1 (A.deeper (envOfC "joined_of" (defScope st_joined_of) s.heap.objs.size f (.ref c)))) :
    SSs (cxOf (L2.CX Pr wd) Pr wd K mg base ["one", "two", "floor", "ceil"] "joined_of" (defScope st_joined_of) f (.ref c) A outer s H Ex) (tabsT K tf) (fun cls d _ H => Ex cls d H) (defBody st_joined_of) (m_joined_of c_after_of) := by
  have nd := sc_joined_of.nd
  exact (ss_cons (ss_set 2 (SE.m (s_if (t_is (SE.w (s_ix (SE.w (s_var 0)) (SE.w s_int))) (SE.w s_non)) (s_ix (SE.w (s_var 1)) (SE.w s_int)) (s_call F_after_of tk_of (Room.mono hr (by decide)) (sa_cons (s_var 1) (sa_cons (s_ix (SE.w (s_var 0)) (SE.w s_int)) sa_nil))))) nd)
  (ss_cons (ss_set 3 (SE.m (s_if (t_is (SE.w (s_ix (SE.w (s_var 0)) (SE.w s_int))) (SE.w s_non)) (s_ix (SE.w (s_var 1)) (SE.w s_int)) (s_call F_after_of tk_of (Room.mono hr (by decide)) (sa_cons (s_var 1) (sa_cons (s_ix (SE.w (s_var 0)) (SE.w s_int)) sa_nil))))) nd)
  (ss_one (ss_ret (SE.m (s_tup (sa_cons (s_add (SE.w (s_ix (SE.w (s_var 0)) (SE.w s_int))) (SE.w (s_ix (SE.w (s_var 1)) (SE.w s_int)))) (sa_cons (s_var 2) (sa_cons (s_var 3) sa_nil)))))))))
theorem ok_joined_of (Hd : HD wd K mg base h) {c_after_of : Con} (F_after_of : FnP Pr wd K mg base (tabsT K tf) "after_of" 2 1 c_after_of) {con : Con} (hm : ∀ ds S Q E, ds.length = 2 → con ds S Q E → m_joined_of c_after_of (startR 4 ds) S (retE Q E)) : FnP Pr wd K mg base (tabsT K tf) "joined_of" 2 2 con := by
  obtain ⟨fd, F⟩ := Hd.fun_ 5 (d := dd_joined_of)
  obtain ⟨oc, od, osl, lk⟩ := FunD.lkc F
  exact fn_okC F (Hd.glo 4) (FunD.bindsN (ps := ["one", "two"]) F fun _ _ _ _ _ _ us hl => match us, hl with | [_, _], _ => rfl) sc_joined_of (by decide) (fun c A outer s H Ex ec hr => d_joined_of Hd F_after_of hr) hm
/-! bends -/
theorem sc_bends : FnScope ["change", "shift", "floor", "ceil", "bound"] ["change"] (defScope st_bends) := ⟨rfl, rfl, rfl, by decide +kernel, rfl, by decide +kernel, by decide +kernel⟩
def m_bends : MS := (mSeq (mUnp [1, 2, 3] (mM (mVar 0)))
  (mRet (mM (mLst (mComp [4] (mIt (mTup (mCons (mVar 2) (mCons (mVar 3) mNil)))) (bN 4) (mBinT fNotN (mVar 4) (mC .non)) (mBin fSub (mVar 4) (mVar 1)))))))
theorem d_bends (Hd : HD wd K mg base h) {f c : Addr} {A : Around} {outer : List Env} {s : Shared} {H : Hp} {Ex : XK} (hr : Room 0 (A.deeper (envOfC "bends" (defScope st_bends) s.heap.objs.size f (.ref c)))) :
    SSs (cxOf (L2.CX Pr wd) Pr wd K mg base ["change", "shift", "floor", "ceil", "bound"] "bends" (defScope st_bends) f (.ref c) A outer s H Ex) (tabsT K tf) (fun cls d _ H => Ex cls d H) (defBody st_bends) (m_bends) := by
  have nd := sc_bends.nd
  exact (ss_cons (ss_unp rfl (sg_cons 1 (sg_cons 2 (sg_cons 3 sg_nil nd) nd) nd) (SE.m (s_var 0)))
  (ss_one (ss_ret (SE.m (SEf.s (sf_comp rfl nd (siw_seq (SE.w (s_tup (sa_cons (s_var 2) (sa_cons (s_var 3) sa_nil))))) (blkOk_by (own := [("bound", 4)]) (by kernel_rfl)) (by decide) (fun _ _ _ _ _ => (sb_name 4 nd)) (fun _ _ _ _ _ => (sts_one (t_isnot (SE.w (s_var 4)) (SE.w s_non)))) (fun _ _ _ _ _ => (s_sub (SE.w (s_var 4)) (SE.w (s_var 1))))))))))
theorem ok_bends (Hd : HD wd K mg base h) {con : Con} (hm : ∀ ds S Q E, ds.length = 1 → con ds S Q E → m_bends (startR 5 ds) S (retE Q E)) : FnP Pr wd K mg base (tabsT K tf) "bends" 1 1 con := by
  obtain ⟨fd, F⟩ := Hd.fun_ 6 (d := dd_bends)
  obtain ⟨oc, od, osl, lk⟩ := FunD.lkc F
  exact fn_okC F (Hd.glo 5) (FunD.bindsN (ps := ["change"]) F fun _ _ _ _ _ _ us hl => match us, hl with | [_], _ => rfl) sc_bends (by decide) (fun c A outer s H Ex ec hr => d_bends Hd hr) hm
/-! far_starts -/
theorem sc_far_starts : FnScope ["one", "two", "least", "greatest", "found"] ["one", "two", "least", "greatest"] (defScope st_far_starts) := ⟨rfl, rfl, rfl, by decide +kernel, rfl, by decide +kernel, by decide +kernel⟩
def m_far_starts : MS := (mSeq (mSetF 4 (mDisp mNil))
  (mSeq (mIfS (mAndT (mBinT fNotN (mBin fIx (mVar 0) (mC (.int 1))) (mC .non)) (mBinT fIsN (mBin fIx (mVar 1) (mC (.int 1))) (mC .non))) (mApp 4 (mPrim fMin2 (mCons (mVar 2) (mCons (mBin fSub (mBin fSub (mBin fIx (mVar 0) (mC (.int 1))) (mBin fIx (mVar 1) (mC (.int 0)))) (mC (.int 1))) mNil)))) mPass)
  (mSeq (mIfS (mAndT (mBinT fIsN (mBin fIx (mVar 0) (mC (.int 2))) (mC .non)) (mBinT fNotN (mBin fIx (mVar 1) (mC (.int 2))) (mC .non))) (mApp 4 (mPrim fMax2 (mCons (mVar 3) (mCons (mBin fAdd (mBin fSub (mBin fIx (mVar 1) (mC (.int 2))) (mBin fIx (mVar 0) (mC (.int 0)))) (mC (.int 1))) mNil)))) mPass)
  (mFrz 4 (mRet (mM (mVar 4)))))))
theorem d_far_starts (Hd : HD wd K mg base h) {f c : Addr} {A : Around} {outer : List Env} {s : Shared} {H : Hp} {Ex : XK} (hr : Room 0 (A.deeper (envOfC "far_starts" (defScope st_far_starts) s.heap.objs.size f (.ref c)))) :
    SSs (cxOf (L2.CX Pr wd) Pr wd K mg base ["one", "two", "least", "greatest", "found"] "far_starts" (defScope st_far_starts) f (.ref c) A outer s H Ex) (tabsT K tf) (fun cls d _ H => Ex cls d H) (defBody st_far_starts) (m_far_starts) := by
  have nd := sc_far_starts.nd
  exact (ss_cons (ss_setF 4 (s_list sa_nil) nd)
  (ss_cons (ss_if (STw.t (tw_and (t_isnot (SE.w (s_ix (SE.w (s_var 0)) (SE.w s_int))) (SE.w s_non)) (tw_and1 (t_is (SE.w (s_ix (SE.w (s_var 1)) (SE.w s_int))) (SE.w s_non))))) (ss_one (ss_app 4 (s_min2 rfl (Hd.free 39) (saw_cons (SE.w (s_var 2)) (saw_cons (SE.w (s_sub (SE.w (s_sub (SE.w (s_ix (SE.w (s_var 0)) (SE.w s_int))) (SE.w (s_ix (SE.w (s_var 1)) (SE.w s_int))))) (SE.w s_int))) saw_nil))))) ss_nil)
  (ss_cons (ss_if (STw.t (tw_and (t_is (SE.w (s_ix (SE.w (s_var 0)) (SE.w s_int))) (SE.w s_non)) (tw_and1 (t_isnot (SE.w (s_ix (SE.w (s_var 1)) (SE.w s_int))) (SE.w s_non))))) (ss_one (ss_app 4 (s_max2 rfl (Hd.free 40) (saw_cons (SE.w (s_var 3)) (saw_cons (SE.w (s_add (SE.w (s_sub (SE.w (s_ix (SE.w (s_var 1)) (SE.w s_int))) (SE.w (s_ix (SE.w (s_var 0)) (SE.w s_int))))) (SE.w s_int))) saw_nil))))) ss_nil)
  (ss_frz 4 (ss_one (ss_ret (SE.m (s_var 4))))))))
theorem ok_far_starts (Hd : HD wd K mg base h) {con : Con} (hm : ∀ ds S Q E, ds.length = 4 → con ds S Q E → m_far_starts (startR 5 ds) S (retE Q E)) : FnP Pr wd K mg base (tabsT K tf) "far_starts" 4 1 con := by
  obtain ⟨fd, F⟩ := Hd.fun_ 7 (d := dd_far_starts)
  obtain ⟨oc, od, osl, lk⟩ := FunD.lkc F
  exact fn_okC F (Hd.glo 6) (FunD.bindsN (ps := ["one", "two", "least", "greatest"]) F fun _ _ _ _ _ _ us hl => match us, hl with | [_, _, _, _], _ => rfl) sc_far_starts (by decide) (fun c A outer s H Ex ec hr => d_far_starts Hd hr) hm
/-! breaks -/
theorem sc_breaks : FnScope ["one", "two", "found", "least", "greatest"] ["one", "two"] (defScope st_breaks) := ⟨rfl, rfl, rfl, by decide +kernel, rfl, by decide +kernel, by decide +kernel⟩
def m_breaks (c_bends : Con) (c_far_starts : Con) : MS := (mSeq (mSetF 2 (mCat (mCall 1 c_bends (mCons (mVar 0) mNil)) (mCall 1 c_bends (mCons (mVar 1) mNil))))
  (mSeq (mPar 3 4 (mCons (mBin fSub (mPrim fMin1 (mCons (mBin fAdd (mVarW 2) (mLst (mDisp (mCons (mC (.int 0)) mNil)))) mNil)) (mC (.int 1))) (mCons (mBin fAdd (mPrim fMax1 (mCons (mBin fAdd (mVarW 2) (mLst (mDisp (mCons (mC (.int 0)) mNil)))) mNil)) (mC (.int 1))) mNil)))
  (mSeq (mExt 2 (mLst (mDisp (mCons (mVar 3) (mCons (mVar 4) mNil)))))
  (mRet (mM (mBin fAdd (mBin fAdd (mVarW 2) (mCall 4 c_far_starts (mCons (mVar 0) (mCons (mVar 1) (mCons (mVar 3) (mCons (mVar 4) mNil)))))) (mCall 4 c_far_starts (mCons (mVar 1) (mCons (mVar 0) (mCons (mVar 3) (mCons (mVar 4) mNil)))))))))))
theorem d_breaks (Hd : HD wd K mg base h) {c_bends : Con} (F_bends : FnP Pr wd K mg base (tabsT K tf) "bends" 1 1 c_bends) {c_far_starts : Con} (F_far_starts : FnP Pr wd K mg base (tabsT K tf) "far_starts" 4 1 c_far_starts) {f c : Addr} {A : Around} {outer : List Env} {s : Shared} {H : Hp} {Ex : XK} (hr : Room 1 (A.deeper (envOfC "breaks" (defScope st_breaks) s.heap.objs.size f (.ref c)))) :
    SSs (cxOf (L2.CX Pr wd) Pr wd K mg base ["one", "two", "found", "least", "greatest"] "breaks" (defScope st_breaks) f (.ref c) A outer s H Ex) (tabsT K tf) (fun cls d _ H => Ex cls d H) (defBody st_breaks) (m_breaks c_bends c_far_starts) := by
  have nd := sc_breaks.nd
  exact (ss_cons (ss_setF 2 (s_catF (SE.w (s_call F_bends tk_of (Room.mono hr (by decide)) (sa_cons (s_var 0) sa_nil))) (SE.w (s_call F_bends tk_of (Room.mono hr (by decide)) (sa_cons (s_var 1) sa_nil)))) nd)
  (ss_cons (ss_par 3 4 rfl nd (sa_cons (s_sub (SE.w (s_min1 rfl (Hd.free 39) (saw_cons (SE.w (s_add (s_varW 2) (SE.w (SEf.s (s_list (sa_cons s_int sa_nil)))))) saw_nil))) (SE.w s_int)) (sa_cons (s_add (SE.w (s_max1 rfl (Hd.free 40) (saw_cons (SE.w (s_add (s_varW 2) (SE.w (SEf.s (s_list (sa_cons s_int sa_nil)))))) saw_nil))) (SE.w s_int)) sa_nil)))
  (ss_cons (ss_ext 2 (SE.w (SEf.s (s_list (sa_cons (s_var 3) (sa_cons (s_var 4) sa_nil))))))
  (ss_one (ss_ret (SE.m (s_add (SE.w (s_add (s_varW 2) (SE.w (s_call F_far_starts tk_of (Room.mono hr (by decide)) (sa_cons (s_var 0) (sa_cons (s_var 1) (sa_cons (s_var 3) (sa_cons (s_var 4) sa_nil)))))))) (SE.w (s_call F_far_starts tk_of (Room.mono hr (by decide)) (sa_cons (s_var 1) (sa_cons (s_var 0) (sa_cons (s_var 3) (sa_cons (s_var 4) sa_nil)))))))))))))
theorem ok_breaks (Hd : HD wd K mg base h) {c_bends : Con} (F_bends : FnP Pr wd K mg base (tabsT K tf) "bends" 1 1 c_bends) {c_far_starts : Con} (F_far_starts : FnP Pr wd K mg base (tabsT K tf) "far_starts" 4 1 c_far_starts) {con : Con} (hm : ∀ ds S Q E, ds.length = 2 → con ds S Q E → m_breaks c_bends c_far_starts (startR 5 ds) S (retE Q E)) : FnP Pr wd K mg base (tabsT K tf) "breaks" 2 2 con := by
  obtain ⟨fd, F⟩ := Hd.fun_ 8 (d := dd_breaks)
  obtain ⟨oc, od, osl, lk⟩ := FunD.lkc F
  exact fn_okC F (Hd.glo 7) (FunD.bindsN (ps := ["one", "two"]) F fun _ _ _ _ _ _ us hl => match us, hl with | [_, _], _ => rfl) sc_breaks (by decide) (fun c A outer s H Ex ec hr => d_breaks Hd F_bends F_far_starts hr) hm
/-! apart_of -/
theorem sc_apart_of : FnScope ["one", "two", "x"] ["one", "two"] (defScope st_apart_of) := ⟨rfl, rfl, rfl, by decide +kernel, rfl, by decide +kernel, by decide +kernel⟩
def m_apart_of (c_breaks : Con) (c_after_of : Con) : MS := (mSeq (mIfS (mOrT (mBinT fNe (mBin fIsN (mBin fIx (mVar 0) (mC (.int 1))) (mC .non)) (mBin fIsN (mBin fIx (mVar 1) (mC (.int 1))) (mC .non))) (mBinT fNe (mBin fIsN (mBin fIx (mVar 0) (mC (.int 2))) (mC .non)) (mBin fIsN (mBin fIx (mVar 1) (mC (.int 2))) (mC .non)))) (mRet (mM (mC .non))) mPass)
  (mRet (mM (mPrim fMax1 (mCons (mLst (mComp [2] (mIt (mCall 2 c_breaks (mCons (mVar 0) (mCons (mVar 1) mNil)))) (bN 2) mYes (mPrim fAbs (mCons (mBin fSub (mCall 2 c_after_of (mCons (mVar 0) (mCons (mVar 2) mNil))) (mCall 2 c_after_of (mCons (mVar 1) (mCons (mVar 2) mNil)))) mNil)))) mNil)))))
theorem d_apart_of (Hd : HD wd K mg base h) {c_breaks : Con} (F_breaks : FnP Pr wd K mg base (tabsT K tf) "breaks" 2 2 c_breaks) {c_after_of : Con} (F_after_of : FnP Pr wd K mg base (tabsT K tf) "after_of" 2 1 c_after_of) {f c : Addr} {A : Around} {outer : List Env} {s : Shared} {H : Hp} {Ex : XK} (hr : Room 2 (A.deeper (envOfC "apart_of" (defScope st_apart_of) s.heap.objs.size f (.ref c)))) :
    SSs (cxOf (L2.CX Pr wd) Pr wd K mg base ["one", "two", "x"] "apart_of" (defScope st_apart_of) f (.ref c) A outer s H Ex) (tabsT K tf) (fun cls d _ H => Ex cls d H) (defBody st_apart_of) (m_apart_of c_breaks c_after_of) := by
  have nd := sc_apart_of.nd
  exact (ss_cons (ss_if (STw.t (tw_or (t_ne (hu64 hr) (SE.w (s_is (SE.w (s_ix (SE.w (s_var 0)) (SE.w s_int))) (SE.w s_non))) (SE.w (s_is (SE.w (s_ix (SE.w (s_var 1)) (SE.w s_int))) (SE.w s_non)))) (tw_or1 (t_ne (hu64 hr) (SE.w (s_is (SE.w (s_ix (SE.w (s_var 0)) (SE.w s_int))) (SE.w s_non))) (SE.w (s_is (SE.w (s_ix (SE.w (s_var 1)) (SE.w s_int))) (SE.w s_non))))))) (ss_one (ss_ret (SE.m s_non))) ss_nil)
  (ss_one (ss_ret (SE.m (s_max1 rfl (Hd.free 40) (saw_cons (SE.w (SEf.s (sf_comp rfl nd (siw_seq (SE.w (s_call F_breaks tk_of (Room.mono hr (by decide)) (sa_cons (s_var 0) (sa_cons (s_var 1) sa_nil))))) (blkOk_by (own := [("x", 2)]) (by kernel_rfl)) (by decide) (fun _ _ _ _ _ => (sb_name 2 nd)) (fun _ _ _ _ _ => sts_nil) (fun _ _ _ _ _ => (s_abs (Hd.free 41) (saw_cons (SE.w (s_sub (SE.w (s_call F_after_of LamX.takes0 (Room.mono hr (by decide)) (sa_cons (s_var 0) (sa_cons (s_var 2) sa_nil)))) (SE.w (s_call F_after_of LamX.takes0 (Room.mono hr (by decide)) (sa_cons (s_var 1) (sa_cons (s_var 2) sa_nil)))))) saw_nil)))))) saw_nil))))))
theorem ok_apart_of (Hd : HD wd K mg base h) {c_breaks : Con} (F_breaks : FnP Pr wd K mg base (tabsT K tf) "breaks" 2 2 c_breaks) {c_after_of : Con} (F_after_of : FnP Pr wd K mg base (tabsT K tf) "after_of" 2 1 c_after_of) {con : Con} (hm : ∀ ds S Q E, ds.length = 2 → con ds S Q E → m_apart_of c_breaks c_after_of (startR 3 ds) S (retE Q E)) : FnP Pr wd K mg base (tabsT K tf) "apart_of" 2 3 con := by
  obtain ⟨fd, F⟩ := Hd.fun_ 9 (d := dd_apart_of)
  obtain ⟨oc, od, osl, lk⟩ := FunD.lkc F
  exact fn_okC F (Hd.glo 8) (FunD.bindsN (ps := ["one", "two"]) F fun _ _ _ _ _ _ us hl => match us, hl with | [_, _], _ => rfl) sc_apart_of (by decide) (fun c A outer s H Ex ec hr => d_apart_of Hd F_breaks F_after_of hr) hm
/-! swap_at -/
theorem sc_swap_at : FnScope ["one", "two", "x", "first", "second"] ["one", "two"] (defScope st_swap_at) := ⟨rfl, rfl, rfl, by decide +kernel, rfl, by decide +kernel, by decide +kernel⟩
def m_swap_at (c_made_change : Con) (c_joined_of : Con) (c_breaks : Con) (c_after_of : Con) : MS := (mSeq (mSet 0 (mM (mCall 1 c_made_change (mCons (mVar 0) mNil))))
  (mSeq (mSet 1 (mM (mCall 1 c_made_change (mCons (mVar 1) mNil))))
  (mSeq (mPar 3 4 (mCons (mCall 2 c_joined_of (mCons (mVar 0) (mCons (mVar 1) mNil))) (mCons (mCall 2 c_joined_of (mCons (mVar 1) (mCons (mVar 0) mNil))) mNil)))
  (mSeq (mFor (mIt (mCall 2 c_breaks (mCons (mVar 3) (mCons (mVar 4) mNil)))) (bN 2) (mIfS (mBinT fNe (mCall 2 c_after_of (mCons (mVar 3) (mCons (mVar 2) mNil))) (mCall 2 c_after_of (mCons (mVar 4) (mCons (mVar 2) mNil)))) (mRet (mM (mVar 2))) mPass))
  (mRet (mM (mC .non)))))))
theorem d_swap_at (Hd : HD wd K mg base h) {c_made_change : Con} (F_made_change : FnP Pr wd K mg base (tabsT K tf) "made_change" 1 3 c_made_change) {c_joined_of : Con} (F_joined_of : FnP Pr wd K mg base (tabsT K tf) "joined_of" 2 2 c_joined_of) {c_breaks : Con} (F_breaks : FnP Pr wd K mg base (tabsT K tf) "breaks" 2 2 c_breaks) {c_after_of : Con} (F_after_of : FnP Pr wd K mg base (tabsT K tf) "after_of" 2 1 c_after_of) {f c : Addr} {A : Around} {outer : List Env} {s : Shared} {H : Hp} {Ex : XK} (hr : Room 3 (A.deeper (envOfC "swap_at" (defScope st_swap_at) s.heap.objs.size f (.ref c)))) :
    SSs (cxOf (L2.CX Pr wd) Pr wd K mg base ["one", "two", "x", "first", "second"] "swap_at" (defScope st_swap_at) f (.ref c) A outer s H Ex) (tabsT K tf) (fun cls d _ H => Ex cls d H) (defBody st_swap_at) (m_swap_at c_made_change c_joined_of c_breaks c_after_of) := by
  have nd := sc_swap_at.nd
  exact (ss_cons (ss_set 0 (SE.m (s_call F_made_change tk_of (Room.mono hr (by decide)) (sa_cons (s_var 0) sa_nil))) nd)
  (ss_cons (ss_set 1 (SE.m (s_call F_made_change tk_of (Room.mono hr (by decide)) (sa_cons (s_var 1) sa_nil))) nd)
  (ss_cons (ss_par 3 4 rfl nd (sa_cons (s_call F_joined_of tk_of (Room.mono hr (by decide)) (sa_cons (s_var 0) (sa_cons (s_var 1) sa_nil))) (sa_cons (s_call F_joined_of tk_of (Room.mono hr (by decide)) (sa_cons (s_var 1) (sa_cons (s_var 0) sa_nil))) sa_nil)))
  (ss_cons (ss_for po_of rfl (si_seq (s_call F_breaks tk_of (Room.mono hr (by decide)) (sa_cons (s_var 3) (sa_cons (s_var 4) sa_nil)))) (sb_name 2 nd) (ss_one (ss_if (t_ne (hu64 hr) (SE.w (s_call F_after_of tk_of (Room.mono hr (by decide)) (sa_cons (s_var 3) (sa_cons (s_var 2) sa_nil)))) (SE.w (s_call F_after_of tk_of (Room.mono hr (by decide)) (sa_cons (s_var 4) (sa_cons (s_var 2) sa_nil))))) (ss_one (ss_ret (SE.m (s_var 2)))) ss_nil)))
  (ss_one (ss_ret (SE.m s_non)))))))
theorem ok_swap_at (Hd : HD wd K mg base h) {c_made_change : Con} (F_made_change : FnP Pr wd K mg base (tabsT K tf) "made_change" 1 3 c_made_change) {c_joined_of : Con} (F_joined_of : FnP Pr wd K mg base (tabsT K tf) "joined_of" 2 2 c_joined_of) {c_breaks : Con} (F_breaks : FnP Pr wd K mg base (tabsT K tf) "breaks" 2 2 c_breaks) {c_after_of : Con} (F_after_of : FnP Pr wd K mg base (tabsT K tf) "after_of" 2 1 c_after_of) {con : Con} (hm : ∀ ds S Q E, ds.length = 2 → con ds S Q E → m_swap_at c_made_change c_joined_of c_breaks c_after_of (startR 5 ds) S (retE Q E)) : FnP Pr wd K mg base (tabsT K tf) "swap_at" 2 4 con := by
  obtain ⟨fd, F⟩ := Hd.fun_ 10 (d := dd_swap_at)
  obtain ⟨oc, od, osl, lk⟩ := FunD.lkc F
  exact fn_okC F (Hd.glo 9) (FunD.bindsN (ps := ["one", "two"]) F fun _ _ _ _ _ _ us hl => match us, hl with | [_, _], _ => rfl) sc_swap_at (by decide) (fun c A outer s H Ex ec hr => d_swap_at Hd F_made_change F_joined_of F_breaks F_after_of hr) hm
/-! swap_right -/
theorem sc_swap_right : FnScope ["one", "two", "start"] ["one", "two", "start"] (defScope st_swap_right) := ⟨rfl, rfl, rfl, by decide +kernel, rfl, by decide +kernel, by decide +kernel⟩
def m_swap_right (c_made_change : Con) (c_after_of : Con) (c_joined_of : Con) (c_whole : Con) : MS := (mSeq (mSet 0 (mM (mCall 1 c_made_change (mCons (mVar 0) mNil))))
  (mSeq (mSet 1 (mM (mCall 1 c_made_change (mCons (mVar 1) mNil))))
  (mRet (mM (mAndV (mCall 1 c_whole (mCons (mVar 2) mNil)) (mBin fNe (mCall 2 c_after_of (mCons (mCall 2 c_joined_of (mCons (mVar 0) (mCons (mVar 1) mNil))) (mCons (mVar 2) mNil))) (mCall 2 c_after_of (mCons (mCall 2 c_joined_of (mCons (mVar 1) (mCons (mVar 0) mNil))) (mCons (mVar 2) mNil)))))))))
theorem d_swap_right (Hd : HD wd K mg base h) {c_made_change : Con} (F_made_change : FnP Pr wd K mg base (tabsT K tf) "made_change" 1 3 c_made_change) {c_after_of : Con} (F_after_of : FnP Pr wd K mg base (tabsT K tf) "after_of" 2 1 c_after_of) {c_joined_of : Con} (F_joined_of : FnP Pr wd K mg base (tabsT K tf) "joined_of" 2 2 c_joined_of) {c_whole : Con} (F_whole : FnP Pr wd K mg base (tabsT K tf) "whole" 1 1 c_whole) {f c : Addr} {A : Around} {outer : List Env} {s : Shared} {H : Hp} {Ex : XK} (hr : Room 3 (A.deeper (envOfC "swap_right" (defScope st_swap_right) s.heap.objs.size f (.ref c)))) :
    SSs (cxOf (L2.CX Pr wd) Pr wd K mg base ["one", "two", "start"] "swap_right" (defScope st_swap_right) f (.ref c) A outer s H Ex) (tabsT K tf) (fun cls d _ H => Ex cls d H) (defBody st_swap_right) (m_swap_right c_made_change c_after_of c_joined_of c_whole) := by
  have nd := sc_swap_right.nd
  exact (ss_cons (ss_set 0 (SE.m (s_call F_made_change tk_of (Room.mono hr (by decide)) (sa_cons (s_var 0) sa_nil))) nd)
  (ss_cons (ss_set 1 (SE.m (s_call F_made_change tk_of (Room.mono hr (by decide)) (sa_cons (s_var 1) sa_nil))) nd)
  (ss_one (ss_ret (SE.m (s_and (s_call F_whole tk_of (Room.mono hr (by decide)) (sa_cons (s_var 2) sa_nil)) (s_one (s_ne (hu64 hr) (SE.w (s_call F_after_of tk_of (Room.mono hr (by decide)) (sa_cons (s_call F_joined_of tk_of (Room.mono hr (by decide)) (sa_cons (s_var 0) (sa_cons (s_var 1) sa_nil))) (sa_cons (s_var 2) sa_nil)))) (SE.w (s_call F_after_of tk_of (Room.mono hr (by decide)) (sa_cons (s_call F_joined_of tk_of (Room.mono hr (by decide)) (sa_cons (s_var 1) (sa_cons (s_var 0) sa_nil))) (sa_cons (s_var 2) sa_nil))))))))))))
theorem ok_swap_right (Hd : HD wd K mg base h) {c_made_change : Con} (F_made_change : FnP Pr wd K mg base (tabsT K tf) "made_change" 1 3 c_made_change) {c_after_of : Con} (F_after_of : FnP Pr wd K mg base (tabsT K tf) "after_of" 2 1 c_after_of) {c_joined_of : Con} (F_joined_of : FnP Pr wd K mg base (tabsT K tf) "joined_of" 2 2 c_joined_of) {c_whole : Con} (F_whole : FnP Pr wd K mg base (tabsT K tf) "whole" 1 1 c_whole) {con : Con} (hm : ∀ ds S Q E, ds.length = 3 → con ds S Q E → m_swap_right c_made_change c_after_of c_joined_of c_whole (startR 3 ds) S (retE Q E)) : FnP Pr wd K mg base (tabsT K tf) "swap_right" 3 4 con := by
  obtain ⟨fd, F⟩ := Hd.fun_ 11 (d := dd_swap_right)
  obtain ⟨oc, od, osl, lk⟩ := FunD.lkc F
  exact fn_okC F (Hd.glo 10) (FunD.bindsN (ps := ["one", "two", "start"]) F fun _ _ _ _ _ _ us hl => match us, hl with | [_, _, _], _ => rfl) sc_swap_right (by decide) (fun c A outer s H Ex ec hr => d_swap_right Hd F_made_change F_after_of F_joined_of F_whole hr) hm
/-! most_apart -/
theorem sc_most_apart : FnScope ["one", "two"] ["one", "two"] (defScope st_most_apart) := ⟨rfl, rfl, rfl, by decide +kernel, rfl, by decide +kernel, by decide +kernel⟩
def m_most_apart (c_made_change : Con) (c_apart_of : Con) : MS := (mSeq (mSet 0 (mM (mCall 1 c_made_change (mCons (mVar 0) mNil))))
  (mSeq (mSet 1 (mM (mCall 1 c_made_change (mCons (mVar 1) mNil))))
  (mSeq (mIfS (mBinT fNe (mBin fIx (mVar 0) (mC (.int 0))) (mBin fIx (mVar 1) (mC (.int 0)))) (mRaise "Unlike" (mC (.int 0))) mPass)
  (mRet (mM (mCall 2 c_apart_of (mCons (mVar 0) (mCons (mVar 1) mNil))))))))
theorem d_most_apart (Hd : HD wd K mg base h) {c_made_change : Con} (F_made_change : FnP Pr wd K mg base (tabsT K tf) "made_change" 1 3 c_made_change) {c_apart_of : Con} (F_apart_of : FnP Pr wd K mg base (tabsT K tf) "apart_of" 2 3 c_apart_of) {f c : Addr} {A : Around} {outer : List Env} {s : Shared} {H : Hp} {Ex : XK} (hr : Room 3 (A.deeper (envOfC "most_apart" (defScope st_most_apart) s.heap.objs.size f (.ref c)))) :
    SSs (cxOf (L2.CX Pr wd) Pr wd K mg base ["one", "two"] "most_apart" (defScope st_most_apart) f (.ref c) A outer s H Ex) (tabsT K tf) (fun cls d _ H => Ex cls d H) (defBody st_most_apart) (m_most_apart c_made_change c_apart_of) := by
  have nd := sc_most_apart.nd
  have IP := ip Hd
  exact (ss_cons (ss_set 0 (SE.m (s_call F_made_change tk_of (Room.mono hr (by decide)) (sa_cons (s_var 0) sa_nil))) nd)
  (ss_cons (ss_set 1 (SE.m (s_call F_made_change tk_of (Room.mono hr (by decide)) (sa_cons (s_var 1) sa_nil))) nd)
  (ss_cons (ss_if (t_ne (hu64 hr) (SE.w (s_ix (SE.w (s_var 0)) (SE.w s_int))) (SE.w (s_ix (SE.w (s_var 1)) (SE.w s_int)))) (ss_one (ss_raise rfl tk_of IP (Hd.errC 30 (List.mem_of_getElem? (i := 1) rfl)) (Room.mono hr (by decide)) s_int)) ss_nil)
  (ss_one (ss_ret (SE.m (s_call F_apart_of tk_of (Room.mono hr (by decide)) (sa_cons (s_var 0) (sa_cons (s_var 1) sa_nil)))))))))
theorem ok_most_apart (Hd : HD wd K mg base h) {c_made_change : Con} (F_made_change : FnP Pr wd K mg base (tabsT K tf) "made_change" 1 3 c_made_change) {c_apart_of : Con} (F_apart_of : FnP Pr wd K mg base (tabsT K tf) "apart_of" 2 3 c_apart_of) {con : Con} (hm : ∀ ds S Q E, ds.length = 2 → con ds S Q E → m_most_apart c_made_change c_apart_of (startR 2 ds) S (retE Q E)) : FnP Pr wd K mg base (tabsT K tf) "most_apart" 2 4 con := by
  obtain ⟨fd, F⟩ := Hd.fun_ 12 (d := dd_most_apart)
  obtain ⟨oc, od, osl, lk⟩ := FunD.lkc F
  exact fn_okC F (Hd.glo 11) (FunD.bindsN (ps := ["one", "two"]) F fun _ _ _ _ _ _ us hl => match us, hl with | [_, _], _ => rfl) sc_most_apart (by decide) (fun c A outer s H Ex ec hr => d_most_apart Hd F_made_change F_apart_of hr) hm
/-! _law_pool -/
theorem sc_law_pool : FnScope ["script", "at", "digits", "stirred", "cell"] ["script"] (defScope st_law_pool) := ⟨rfl, rfl, rfl, by decide +kernel, rfl, by decide +kernel, by decide +kernel⟩
def m_law_pool : MS := (mSeq (mUnp [2, 3] (mM (mTup (mCons (mC (.int 0)) (mCons (mC (.int 7)) mNil)))))
  (mSeq (mFor (mRng1 (mPrim fLen (mCons (mVar 0) mNil))) (bN 1) (mSeq (mSet 4 (mM (mPrim fInt (mCons (mPrim fMax2 (mCons (mBin fIx (mVar 0) (mVar 1)) (mCons (mBin fSub (mUn fNeg (mC (.int 1))) (mBin fIx (mVar 0) (mVar 1))) mNil))) mNil))))
  (mSeq (mSet 3 (mM (mBin fMod (mPrim fInt (mCons (mBin fAdd (mBin fAdd (mBin fMul (mVar 3) (mC (.int 48271))) (mBin fMod (mVar 4) (mC (.int 2147483629)))) (mC (.int 11))) mNil)) (mC (.int 2147483647)))))
  (mSet 2 (mM (mIf (mAndT (mBinT fGe (mVar 4) (mBin fPow (mC (.int 10)) (mC (.int 12)))) (mBinT fLt (mVar 2) (mBin fPow (mC (.int 10)) (mC (.int 60))))) (mPrim fInt (mCons (mBin fAdd (mBin fMul (mVar 2) (mBin fPow (mC (.int 10)) (mC (.int 60)))) (mBin fMod (mVar 4) (mBin fPow (mC (.int 10)) (mC (.int 60))))) mNil)) (mVar 2)))))))
  (mRet (mM (mCell (mDisp (mCons (mVar 2) (mCons (mVar 3) (mCons (mC (.int 0)) mNil)))))))))
theorem d_law_pool (Hd : HD wd K mg base h) {f c : Addr} {A : Around} {outer : List Env} {s : Shared} {H : Hp} {Ex : XK} (hr : Room 0 (A.deeper (envOfC "_law_pool" (defScope st_law_pool) s.heap.objs.size f (.ref c)))) :
    SSs (cxOf (L2.CX Pr wd) Pr wd K mg base ["script", "at", "digits", "stirred", "cell"] "_law_pool" (defScope st_law_pool) f (.ref c) A outer s H Ex) (tabsT K tf) (fun cls d _ H => Ex cls d H) (defBody st_law_pool) (m_law_pool) := by
  have nd := sc_law_pool.nd
  exact (ss_cons (ss_unp rfl (sg_cons 2 (sg_cons 3 sg_nil nd) nd) (SE.m (s_tup (sa_cons s_int (sa_cons s_int sa_nil)))))
  (ss_cons (ss_for po_of rfl (si_range1 (Hd.free 42) (s_len (Hd.free 36) (saw_cons (SE.w (s_var 0)) saw_nil))) (sb_name 1 nd) (ss_cons (ss_set 4 (SE.m (s_intc (Hd.free 35) (saw_cons (SE.w (s_max2 rfl (Hd.free 40) (saw_cons (SE.w (s_ix (SE.w (s_var 0)) (SE.w (s_var 1)))) (saw_cons (SE.w (s_sub (SE.w (s_neg (SE.w s_int))) (SE.w (s_ix (SE.w (s_var 0)) (SE.w (s_var 1)))))) saw_nil)))) saw_nil))) nd)
  (ss_cons (ss_set 3 (SE.m (s_mod (SE.w (s_intc (Hd.free 35) (saw_cons (SE.w (s_add (SE.w (s_add (SE.w (s_mul (SE.w (s_var 3)) (SE.w s_int))) (SE.w (s_mod (SE.w (s_var 4)) (SE.w s_int))))) (SE.w s_int))) saw_nil))) (SE.w s_int))) nd)
  (ss_one (ss_set 2 (SE.m (s_if (STw.t (tw_and (t_ge (SE.w (s_var 4)) (SE.w (s_pow (SE.w s_int) (SE.w s_int)))) (tw_and1 (t_lt (SE.w (s_var 2)) (SE.w (s_pow (SE.w s_int) (SE.w s_int))))))) (s_intc (Hd.free 35) (saw_cons (SE.w (s_add (SE.w (s_mul (SE.w (s_var 2)) (SE.w (s_pow (SE.w s_int) (SE.w s_int))))) (SE.w (s_mod (SE.w (s_var 4)) (SE.w (s_pow (SE.w s_int) (SE.w s_int))))))) saw_nil)) (s_var 2))) nd)))))
  (ss_one (ss_ret (SE.m (SEf.cell (s_list (sa_cons (s_var 2) (sa_cons (s_var 3) (sa_cons s_int sa_nil))))))))))
theorem ok_law_pool (Hd : HD wd K mg base h) {con : Con} (hm : ∀ ds S Q E, ds.length = 1 → con ds S Q E → m_law_pool (startR 5 ds) S (retE Q E)) : FnP Pr wd K mg base (tabsT K tf) "_law_pool" 1 1 con := by
  obtain ⟨fd, F⟩ := Hd.fun_ 13 (d := dd_law_pool)
  obtain ⟨oc, od, osl, lk⟩ := FunD.lkc F
  exact fn_okC F (Hd.glo 12) (FunD.bindsN (ps := ["script"]) F fun _ _ _ _ _ _ us hl => match us, hl with | [_], _ => rfl) sc_law_pool (by decide) (fun c A outer s H Ex ec hr => d_law_pool Hd hr) hm
/-! _law_take -/
theorem sc_law_take : FnScope ["jar", "many", "made"] ["jar", "many"] (defScope st_law_take) := ⟨rfl, rfl, rfl, by decide +kernel, rfl, by decide +kernel, by decide +kernel⟩
def m_law_take : MS := (mSeq (mIfS (mBinT fGt (mBin fIx (mVar 0) (mC (.int 0))) (mC (.int 0))) (mSeq (mSet 2 (mM (mBin fMod (mPrim fInt (mCons (mBin fIx (mVar 0) (mC (.int 0))) mNil)) (mVar 1))))
  (mSeq (mSetIx 0 (mC (.int 0)) (mBin fDiv (mBin fIx (mVar 0) (mC (.int 0))) (mVar 1)))
  (mRet (mM (mVar 2))))) mPass)
  (mSeq (mSetIx 0 (mC (.int 2)) (mBin fAdd (mBin fIx (mVar 0) (mC (.int 2))) (mC (.int 1))))
  (mSeq (mSetIx 0 (mC (.int 1)) (mBin fMod (mPrim fInt (mCons (mBin fAdd (mBin fAdd (mBin fMul (mBin fIx (mVar 0) (mC (.int 1))) (mC (.int 39373))) (mBin fMul (mC (.int 7919)) (mBin fIx (mVar 0) (mC (.int 2))))) (mC (.int 7))) mNil)) (mC (.int 2147483647))))
  (mRet (mM (mBin fMod (mPrim fInt (mCons (mBin fDiv (mBin fMod (mPrim fInt (mCons (mBin fMul (mBin fIx (mVar 0) (mC (.int 1))) (mBin fIx (mVar 0) (mC (.int 1)))) mNil)) (mC (.int 2147483629))) (mC (.int 32))) mNil)) (mVar 1)))))))
theorem d_law_take (Hd : HD wd K mg base h) {f c : Addr} {A : Around} {outer : List Env} {s : Shared} {H : Hp} {Ex : XK} (hr : Room 0 (A.deeper (envOfC "_law_take" (defScope st_law_take) s.heap.objs.size f (.ref c)))) :
    SSs (cxOf (L2.CX Pr wd) Pr wd K mg base ["jar", "many", "made"] "_law_take" (defScope st_law_take) f (.ref c) A outer s H Ex) (tabsT K tf) (fun cls d _ H => Ex cls d H) (defBody st_law_take) (m_law_take) := by
  have nd := sc_law_take.nd
  exact (ss_cons (ss_if (t_gt (SE.w (s_ix (SE.w (s_var 0)) (SE.w s_int))) (SE.w s_int)) (ss_cons (ss_set 2 (SE.m (s_mod (SE.w (s_intc (Hd.free 35) (saw_cons (SE.w (s_ix (SE.w (s_var 0)) (SE.w s_int))) saw_nil))) (SE.w (s_var 1)))) nd)
  (ss_cons (ss_setIx 0 (s_div (SE.w (s_ix (SE.w (s_var 0)) (SE.w s_int))) (SE.w (s_var 1))) s_int)
  (ss_one (ss_ret (SE.m (s_var 2)))))) ss_nil)
  (ss_cons (ss_setIx 0 (s_add (SE.w (s_ix (SE.w (s_var 0)) (SE.w s_int))) (SE.w s_int)) s_int)
  (ss_cons (ss_setIx 0 (s_mod (SE.w (s_intc (Hd.free 35) (saw_cons (SE.w (s_add (SE.w (s_add (SE.w (s_mul (SE.w (s_ix (SE.w (s_var 0)) (SE.w s_int))) (SE.w s_int))) (SE.w (s_mul (SE.w s_int) (SE.w (s_ix (SE.w (s_var 0)) (SE.w s_int))))))) (SE.w s_int))) saw_nil))) (SE.w s_int)) s_int)
  (ss_one (ss_ret (SE.m (s_mod (SE.w (s_intc (Hd.free 35) (saw_cons (SE.w (s_div (SE.w (s_mod (SE.w (s_intc (Hd.free 35) (saw_cons (SE.w (s_mul (SE.w (s_ix (SE.w (s_var 0)) (SE.w s_int))) (SE.w (s_ix (SE.w (s_var 0)) (SE.w s_int))))) saw_nil))) (SE.w s_int))) (SE.w s_int))) saw_nil))) (SE.w (s_var 1)))))))))
theorem ok_law_take (Hd : HD wd K mg base h) {con : Con} (hm : ∀ ds S Q E, ds.length = 2 → con ds S Q E → m_law_take (startR 3 ds) S (retE Q E)) : FnP Pr wd K mg base (tabsT K tf) "_law_take" 2 1 con := by
  obtain ⟨fd, F⟩ := Hd.fun_ 14 (d := dd_law_take)
  obtain ⟨oc, od, osl, lk⟩ := FunD.lkc F
  exact fn_okC F (Hd.glo 13) (FunD.bindsN (ps := ["jar", "many"]) F fun _ _ _ _ _ _ us hl => match us, hl with | [_, _], _ => rfl) sc_law_take (by decide) (fun c A outer s H Ex ec hr => d_law_take Hd hr) hm
/-! _law_one -/
theorem sc_law_one : FnScope ["jar", "things"] ["jar", "things"] (defScope st_law_one) := ⟨rfl, rfl, rfl, by decide +kernel, rfl, by decide +kernel, by decide +kernel⟩
def m_law_one (c_law_take : Con) : MS := (mRet (mM (mBin fIx (mVar 1) (mCall 2 c_law_take (mCons (mVar 0) (mCons (mPrim fLen (mCons (mVar 1) mNil)) mNil))))))
theorem d_law_one (Hd : HD wd K mg base h) {c_law_take : Con} (F_law_take : FnP Pr wd K mg base (tabsT K tf) "_law_take" 2 1 c_law_take) {f c : Addr} {A : Around} {outer : List Env} {s : Shared} {H : Hp} {Ex : XK} (hr : Room 1 (A.deeper (envOfC "_law_one" (defScope st_law_one) s.heap.objs.size f (.ref c)))) :
    SSs (cxOf (L2.CX Pr wd) Pr wd K mg base ["jar", "things"] "_law_one" (defScope st_law_one) f (.ref c) A outer s H Ex) (tabsT K tf) (fun cls d _ H => Ex cls d H) (defBody st_law_one) (m_law_one c_law_take) := by
  have nd := sc_law_one.nd
  exact (ss_one (ss_ret (SE.m (s_ix (SE.w (s_var 1)) (SE.w (s_call F_law_take tk_of (Room.mono hr (by decide)) (sa_cons (s_var 0) (sa_cons (s_len (Hd.free 36) (saw_cons (SE.w (s_var 1)) saw_nil)) sa_nil))))))))
theorem ok_law_one (Hd : HD wd K mg base h) {c_law_take : Con} (F_law_take : FnP Pr wd K mg base (tabsT K tf) "_law_take" 2 1 c_law_take) {con : Con} (hm : ∀ ds S Q E, ds.length = 2 → con ds S Q E → m_law_one c_law_take (startR 2 ds) S (retE Q E)) : FnP Pr wd K mg base (tabsT K tf) "_law_one" 2 2 con := by
  obtain ⟨fd, F⟩ := Hd.fun_ 15 (d := dd_law_one)
  obtain ⟨oc, od, osl, lk⟩ := FunD.lkc F
  exact fn_okC F (Hd.glo 14) (FunD.bindsN (ps := ["jar", "things"]) F fun _ _ _ _ _ _ us hl => match us, hl with | [_, _], _ => rfl) sc_law_one (by decide) (fun c A outer s H Ex ec hr => d_law_one Hd F_law_take hr) hm
/-! _law_aw_is_number -/
theorem sc_law_aw_is_number : FnScope ["thing"] ["thing"] (defScope st_law_aw_is_number) := ⟨rfl, rfl, rfl, by decide +kernel, rfl, by decide +kernel, by decide +kernel⟩
def m_law_aw_is_number : MS := (mRet (mM (mAndV (mIsi "int" (mVar 0)) (mNotV (mIsi "bool" (mVar 0))))))
theorem d_law_aw_is_number (Hd : HD wd K mg base h) {f c : Addr} {A : Around} {outer : List Env} {s : Shared} {H : Hp} {Ex : XK} (hr : Room 0 (A.deeper (envOfC "_law_aw_is_number" (defScope st_law_aw_is_number) s.heap.objs.size f (.ref c)))) :
    SSs (cxOf (L2.CX Pr wd) Pr wd K mg base ["thing"] "_law_aw_is_number" (defScope st_law_aw_is_number) f (.ref c) A outer s H Ex) (tabsT K tf) (fun cls d _ H => Ex cls d H) (defBody st_law_aw_is_number) (m_law_aw_is_number) := by
  have nd := sc_law_aw_is_number.nd
  exact (ss_one (ss_ret (SE.m (s_and (s_isi kit_int (Hd.free 33) (Hd.free 35) (by decide +kernel) (SE.w (s_var 0))) (s_one (s_not (s_isi kit_bool (Hd.free 33) (Hd.free 34) (by decide +kernel) (SE.w (s_var 0)))))))))
theorem ok_law_aw_is_number (Hd : HD wd K mg base h) {con : Con} (hm : ∀ ds S Q E, ds.length = 1 → con ds S Q E → m_law_aw_is_number (startR 1 ds) S (retE Q E)) : FnP Pr wd K mg base (tabsT K tf) "_law_aw_is_number" 1 1 con := by
  obtain ⟨fd, F⟩ := Hd.fun_ 16 (d := dd_law_aw_is_number)
  obtain ⟨oc, od, osl, lk⟩ := FunD.lkc F
  exact fn_okC F (Hd.glo 15) (FunD.bindsN (ps := ["thing"]) F fun _ _ _ _ _ _ us hl => match us, hl with | [_], _ => rfl) sc_law_aw_is_number (by decide) (fun c A outer s H Ex ec hr => d_law_aw_is_number Hd hr) hm
/-! _law_aw_after -/
theorem sc_law_aw_after : FnScope ["change_now", "x", "shift", "floor", "ceil"] ["change_now", "x"] (defScope st_law_aw_after) := ⟨rfl, rfl, rfl, by decide +kernel, rfl, by decide +kernel, by decide +kernel⟩
def m_law_aw_after : MS := (mSeq (mUnp [2, 3, 4] (mM (mVar 0)))
  (mSeq (mSet 1 (mM (mBin fAdd (mVar 1) (mVar 2))))
  (mSeq (mSet 1 (mM (mIf (mOrT (mBinT fIsN (mVar 4) (mC .non)) (mBinT fLt (mVar 1) (mVar 4))) (mVar 1) (mVar 4))))
  (mRet (mM (mIf (mOrT (mBinT fIsN (mVar 3) (mC .non)) (mBinT fGt (mVar 1) (mVar 3))) (mVar 1) (mVar 3)))))))
theorem d_law_aw_after (Hd : HD wd K mg base h) {f c : Addr} {A : Around} {outer : List Env} {s : Shared} {H : Hp} {Ex : XK} (hr : Room 0 (A.deeper (envOfC "_law_aw_after" (defScope st_law_aw_after) s.heap.objs.size f (.ref c)))) :
    SSs (cxOf (L2.CX Pr wd) Pr wd K mg base ["change_now", "x", "shift", "floor", "ceil"] "_law_aw_after" (defScope st_law_aw_after) f (.ref c) A outer s H Ex) (tabsT K tf) (fun cls d _ H => Ex cls d H) (defBody st_law_aw_after) (m_law_aw_after) := by
  have nd := sc_law_aw_after.nd
  exact (ss_cons (ss_unp rfl (sg_cons 2 (sg_cons 3 (sg_cons 4 sg_nil nd) nd) nd) (SE.m (s_var 0)))
  (ss_cons (ss_set 1 (SE.m (s_add (SE.w (s_var 1)) (SE.w (s_var 2)))) nd)
  (ss_cons (ss_set 1 (SE.m (s_if (STw.t (tw_or (t_is (SE.w (s_var 4)) (SE.w s_non)) (tw_or1 (t_lt (SE.w (s_var 1)) (SE.w (s_var 4)))))) (s_var 1) (s_var 4))) nd)
  (ss_one (ss_ret (SE.m (s_if (STw.t (tw_or (t_is (SE.w (s_var 3)) (SE.w s_non)) (tw_or1 (t_gt (SE.w (s_var 1)) (SE.w (s_var 3)))))) (s_var 1) (s_var 3))))))))
theorem ok_law_aw_after (Hd : HD wd K mg base h) {con : Con} (hm : ∀ ds S Q E, ds.length = 2 → con ds S Q E → m_law_aw_after (startR 5 ds) S (retE Q E)) : FnP Pr wd K mg base (tabsT K tf) "_law_aw_after" 2 1 con := by
  obtain ⟨fd, F⟩ := Hd.fun_ 17 (d := dd_law_aw_after)
  obtain ⟨oc, od, osl, lk⟩ := FunD.lkc F
  exact fn_okC F (Hd.glo 16) (FunD.bindsN (ps := ["change_now", "x"]) F fun _ _ _ _ _ _ us hl => match us, hl with | [_, _], _ => rfl) sc_law_aw_after (by decide) (fun c A outer s H Ex ec hr => d_law_aw_after Hd hr) hm
/-! _law_aw_joined -/
theorem sc_law_aw_joined : FnScope ["first", "second", "floor", "ceil"] ["first", "second"] (defScope st_law_aw_joined) := ⟨rfl, rfl, rfl, by decide +kernel, rfl, by decide +kernel, by decide +kernel⟩
def m_law_aw_joined (c_law_aw_after : Con) : MS := (mSeq (mSet 2 (mM (mIf (mBinT fIsN (mBin fIx (mVar 0) (mC (.int 1))) (mC .non)) (mBin fIx (mVar 1) (mC (.int 1))) (mCall 2 c_law_aw_after (mCons (mVar 1) (mCons (mBin fIx (mVar 0) (mC (.int 1))) mNil))))))
  (mSeq (mSet 3 (mM (mIf (mBinT fIsN (mBin fIx (mVar 0) (mC (.int 2))) (mC .non)) (mBin fIx (mVar 1) (mC (.int 2))) (mCall 2 c_law_aw_after (mCons (mVar 1) (mCons (mBin fIx (mVar 0) (mC (.int 2))) mNil))))))
  (mRet (mM (mTup (mCons (mBin fAdd (mBin fIx (mVar 0) (mC (.int 0))) (mBin fIx (mVar 1) (mC (.int 0)))) (mCons (mVar 2) (mCons (mVar 3) mNil))))))))
theorem d_law_aw_joined (Hd : HD wd K mg base h) {c_law_aw_after : Con} (F_law_aw_after : FnP Pr wd K mg base (tabsT K tf) "_law_aw_after" 2 1 c_law_aw_after) {f c : Addr} {A : Around} {outer : List Env} {s : Shared} {H : Hp} {Ex : XK} (hr : Room 1 (A.deeper (envOfC "_law_aw_joined" (defScope st_law_aw_joined) s.heap.objs.size f (.ref c)))) :
    SSs (cxOf (L2.CX Pr wd) Pr wd K mg base ["first", "second", "floor", "ceil"] "_law_aw_joined" (defScope st_law_aw_joined) f (.ref c) A outer s H Ex) (tabsT K tf) (fun cls d _ H => Ex cls d H) (defBody st_law_aw_joined) (m_law_aw_joined c_law_aw_after) := by
  have nd := sc_law_aw_joined.nd
  exact (ss_cons (ss_set 2 (SE.m (s_if (t_is (SE.w (s_ix (SE.w (s_var 0)) (SE.w s_int))) (SE.w s_non)) (s_ix (SE.w (s_var 1)) (SE.w s_int)) (s_call F_law_aw_after tk_of (Room.mono hr (by decide)) (sa_cons (s_var 1) (sa_cons (s_ix (SE.w (s_var 0)) (SE.w s_int)) sa_nil))))) nd)
  (ss_cons (ss_set 3 (SE.m (s_if (t_is (SE.w (s_ix (SE.w (s_var 0)) (SE.w s_int))) (SE.w s_non)) (s_ix (SE.w (s_var 1)) (SE.w s_int)) (s_call F_law_aw_after tk_of (Room.mono hr (by decide)) (sa_cons (s_var 1) (sa_cons (s_ix (SE.w (s_var 0)) (SE.w s_int)) sa_nil))))) nd)
  (ss_one (ss_ret (SE.m (s_tup (sa_cons (s_add (SE.w (s_ix (SE.w (s_var 0)) (SE.w s_int))) (SE.w (s_ix (SE.w (s_var 1)) (SE.w s_int)))) (sa_cons (s_var 2) (sa_cons (s_var 3) sa_nil)))))))))
theorem ok_law_aw_joined (Hd : HD wd K mg base h) {c_law_aw_after : Con} (F_law_aw_after : FnP Pr wd K mg base (tabsT K tf) "_law_aw_after" 2 1 c_law_aw_after) {con : Con} (hm : ∀ ds S Q E, ds.length = 2 → con ds S Q E → m_law_aw_joined c_law_aw_after (startR 4 ds) S (retE Q E)) : FnP Pr wd K mg base (tabsT K tf) "_law_aw_joined" 2 2 con := by
  obtain ⟨fd, F⟩ := Hd.fun_ 18 (d := dd_law_aw_joined)
  obtain ⟨oc, od, osl, lk⟩ := FunD.lkc F
  exact fn_okC F (Hd.glo 17) (FunD.bindsN (ps := ["first", "second"]) F fun _ _ _ _ _ _ us hl => match us, hl with | [_, _], _ => rfl) sc_law_aw_joined (by decide) (fun c A outer s H Ex ec hr => d_law_aw_joined Hd F_law_aw_after hr) hm
/-! _law_aw_change -/
theorem sc_law_aw_change : FnScope ["jar", "sort_now", "shift", "low_now"] ["jar"] (defScope st_law_aw_change) := ⟨rfl, rfl, rfl, by decide +kernel, rfl, by decide +kernel, by decide +kernel⟩
def m_law_aw_change (c_law_take : Con) : MS := (mSeq (mPar 2 3 (mCons (mBin fSub (mCall 2 c_law_take (mCons (mVar 0) (mCons (mC (.int 9)) mNil))) (mC (.int 4))) (mCons (mBin fSub (mCall 2 c_law_take (mCons (mVar 0) (mCons (mC (.int 13)) mNil))) (mC (.int 6))) mNil)))
  (mSeq (mSet 1 (mM (mCall 2 c_law_take (mCons (mVar 0) (mCons (mC (.int 6)) mNil)))))
  (mSeq (mIfS (mBinT fEq (mVar 1) (mC (.int 0))) (mRet (mM (mTup (mCons (mVar 2) (mCons (mC .non) (mCons (mC .non) mNil)))))) mPass)
  (mSeq (mIfS (mBinT fLt (mVar 1) (mC (.int 3))) (mRet (mM (mIf (mBinT fEq (mVar 1) (mC (.int 1))) (mTup (mCons (mVar 2) (mCons (mVar 3) (mCons (mC .non) mNil)))) (mTup (mCons (mVar 2) (mCons (mC .non) (mCons (mVar 3) mNil))))))) mPass)
  (mRet (mM (mTup (mCons (mVar 2) (mCons (mVar 3) (mCons (mBin fAdd (mVar 3) (mCall 2 c_law_take (mCons (mVar 0) (mCons (mBin fSub (mC (.int 7)) (mVar 3)) mNil)))) mNil))))))))))
theorem d_law_aw_change (Hd : HD wd K mg base h) {c_law_take : Con} (F_law_take : FnP Pr wd K mg base (tabsT K tf) "_law_take" 2 1 c_law_take) {f c : Addr} {A : Around} {outer : List Env} {s : Shared} {H : Hp} {Ex : XK} (hr : Room 1 (A.deeper (envOfC "_law_aw_change" (defScope st_law_aw_change) s.heap.objs.size f (.ref c)))) :
    SSs (cxOf (L2.CX Pr wd) Pr wd K mg base ["jar", "sort_now", "shift", "low_now"] "_law_aw_change" (defScope st_law_aw_change) f (.ref c) A outer s H Ex) (tabsT K tf) (fun cls d _ H => Ex cls d H) (defBody st_law_aw_change) (m_law_aw_change c_law_take) := by
  have nd := sc_law_aw_change.nd
  exact (ss_cons (ss_par 2 3 rfl nd (sa_cons (s_sub (SE.w (s_call F_law_take tk_of (Room.mono hr (by decide)) (sa_cons (s_var 0) (sa_cons s_int sa_nil)))) (SE.w s_int)) (sa_cons (s_sub (SE.w (s_call F_law_take tk_of (Room.mono hr (by decide)) (sa_cons (s_var 0) (sa_cons s_int sa_nil)))) (SE.w s_int)) sa_nil)))
  (ss_cons (ss_set 1 (SE.m (s_call F_law_take tk_of (Room.mono hr (by decide)) (sa_cons (s_var 0) (sa_cons s_int sa_nil)))) nd)
  (ss_cons (ss_if (t_eq (hu64 hr) (SE.w (s_var 1)) (SE.w s_int)) (ss_one (ss_ret (SE.m (s_tup (sa_cons (s_var 2) (sa_cons s_non (sa_cons s_non sa_nil))))))) ss_nil)
  (ss_cons (ss_if (t_lt (SE.w (s_var 1)) (SE.w s_int)) (ss_one (ss_ret (SE.m (s_if (t_eq (hu64 hr) (SE.w (s_var 1)) (SE.w s_int)) (s_tup (sa_cons (s_var 2) (sa_cons (s_var 3) (sa_cons s_non sa_nil)))) (s_tup (sa_cons (s_var 2) (sa_cons s_non (sa_cons (s_var 3) sa_nil)))))))) ss_nil)
  (ss_one (ss_ret (SE.m (s_tup (sa_cons (s_var 2) (sa_cons (s_var 3) (sa_cons (s_add (SE.w (s_var 3)) (SE.w (s_call F_law_take tk_of (Room.mono hr (by decide)) (sa_cons (s_var 0) (sa_cons (s_sub (SE.w s_int) (SE.w (s_var 3))) sa_nil))))) sa_nil)))))))))))
theorem ok_law_aw_change (Hd : HD wd K mg base h) {c_law_take : Con} (F_law_take : FnP Pr wd K mg base (tabsT K tf) "_law_take" 2 1 c_law_take) {con : Con} (hm : ∀ ds S Q E, ds.length = 1 → con ds S Q E → m_law_aw_change c_law_take (startR 4 ds) S (retE Q E)) : FnP Pr wd K mg base (tabsT K tf) "_law_aw_change" 1 2 con := by
  obtain ⟨fd, F⟩ := Hd.fun_ 19 (d := dd_law_aw_change)
  obtain ⟨oc, od, osl, lk⟩ := FunD.lkc F
  exact fn_okC F (Hd.glo 18) (FunD.bindsN (ps := ["jar"]) F fun _ _ _ _ _ _ us hl => match us, hl with | [_], _ => rfl) sc_law_aw_change (by decide) (fun c A outer s H Ex ec hr => d_law_aw_change Hd F_law_take hr) hm
/-! _law_aw_great -/
theorem sc_law_aw_great : FnScope ["jar", "some", "floor", "ceil"] ["jar"] (defScope st_law_aw_great) := ⟨rfl, rfl, rfl, by decide +kernel, rfl, by decide +kernel, by decide +kernel⟩
def m_law_aw_great (c_law_one : Con) : MS := (mSeq (mSet 1 (mM (mLst (mDisp (mCons (mC (.int 0)) (mCons (mC (.int 1)) (mCons (mUn fNeg (mC (.int 1))) (mCons (mBin fPow (mC (.int 10)) (mC (.int 9))) (mCons (mUn fNeg (mBin fPow (mC (.int 10)) (mC (.int 9)))) (mCons (mBin fSub (mBin fPow (mC (.int 10)) (mC (.int 9))) (mC (.int 1))) mNil))))))))))
  (mSeq (mPar 2 3 (mCons (mCall 2 c_law_one (mCons (mVar 0) (mCons (mBin fAdd (mVar 1) (mLst (mDisp (mCons (mC .non) mNil)))) mNil))) (mCons (mCall 2 c_law_one (mCons (mVar 0) (mCons (mBin fAdd (mVar 1) (mLst (mDisp (mCons (mC .non) mNil)))) mNil))) mNil)))
  (mSeq (mIfS (mAndT (mBinT fNotN (mVar 2) (mC .non)) (mAndT (mBinT fNotN (mVar 3) (mC .non)) (mBinT fGt (mVar 2) (mVar 3)))) (mPar 2 3 (mCons (mVar 3) (mCons (mVar 2) mNil))) mPass)
  (mRet (mM (mTup (mCons (mCall 2 c_law_one (mCons (mVar 0) (mCons (mVar 1) mNil))) (mCons (mVar 2) (mCons (mVar 3) mNil)))))))))
theorem d_law_aw_great (Hd : HD wd K mg base h) {c_law_one : Con} (F_law_one : FnP Pr wd K mg base (tabsT K tf) "_law_one" 2 2 c_law_one) {f c : Addr} {A : Around} {outer : List Env} {s : Shared} {H : Hp} {Ex : XK} (hr : Room 2 (A.deeper (envOfC "_law_aw_great" (defScope st_law_aw_great) s.heap.objs.size f (.ref c)))) :
    SSs (cxOf (L2.CX Pr wd) Pr wd K mg base ["jar", "some", "floor", "ceil"] "_law_aw_great" (defScope st_law_aw_great) f (.ref c) A outer s H Ex) (tabsT K tf) (fun cls d _ H => Ex cls d H) (defBody st_law_aw_great) (m_law_aw_great c_law_one) := by
  have nd := sc_law_aw_great.nd
  exact (ss_cons (ss_set 1 (SE.m (SEf.s (s_list (sa_cons s_int (sa_cons s_int (sa_cons (s_neg (SE.w s_int)) (sa_cons (s_pow (SE.w s_int) (SE.w s_int)) (sa_cons (s_neg (SE.w (s_pow (SE.w s_int) (SE.w s_int)))) (sa_cons (s_sub (SE.w (s_pow (SE.w s_int) (SE.w s_int))) (SE.w s_int)) sa_nil))))))))) nd)
  (ss_cons (ss_par 2 3 rfl nd (sa_cons (s_call F_law_one tk_of (Room.mono hr (by decide)) (sa_cons (s_var 0) (sa_cons (s_add (SE.w (s_var 1)) (SE.w (SEf.s (s_list (sa_cons s_non sa_nil))))) sa_nil))) (sa_cons (s_call F_law_one tk_of (Room.mono hr (by decide)) (sa_cons (s_var 0) (sa_cons (s_add (SE.w (s_var 1)) (SE.w (SEf.s (s_list (sa_cons s_non sa_nil))))) sa_nil))) sa_nil)))
  (ss_cons (ss_if (STw.t (tw_and (t_isnot (SE.w (s_var 2)) (SE.w s_non)) (tw_and (t_isnot (SE.w (s_var 3)) (SE.w s_non)) (tw_and1 (t_gt (SE.w (s_var 2)) (SE.w (s_var 3))))))) (ss_one (ss_par 2 3 rfl nd (sa_cons (s_var 3) (sa_cons (s_var 2) sa_nil)))) ss_nil)
  (ss_one (ss_ret (SE.m (s_tup (sa_cons (s_call F_law_one tk_of (Room.mono hr (by decide)) (sa_cons (s_var 0) (sa_cons (s_var 1) sa_nil))) (sa_cons (s_var 2) (sa_cons (s_var 3) sa_nil))))))))))
theorem ok_law_aw_great (Hd : HD wd K mg base h) {c_law_one : Con} (F_law_one : FnP Pr wd K mg base (tabsT K tf) "_law_one" 2 2 c_law_one) {con : Con} (hm : ∀ ds S Q E, ds.length = 1 → con ds S Q E → m_law_aw_great c_law_one (startR 4 ds) S (retE Q E)) : FnP Pr wd K mg base (tabsT K tf) "_law_aw_great" 1 3 con := by
  obtain ⟨fd, F⟩ := Hd.fun_ 20 (d := dd_law_aw_great)
  obtain ⟨oc, od, osl, lk⟩ := FunD.lkc F
  exact fn_okC F (Hd.glo 19) (FunD.bindsN (ps := ["jar"]) F fun _ _ _ _ _ _ us hl => match us, hl with | [_], _ => rfl) sc_law_aw_great (by decide) (fun c A outer s H Ex ec hr => d_law_aw_great Hd F_law_one hr) hm
/-! _law_aq_is_whole -/
theorem sc_law_aq_is_whole : FnScope ["thing"] ["thing"] (defScope st_law_aq_is_whole) := ⟨rfl, rfl, rfl, by decide +kernel, rfl, by decide +kernel, by decide +kernel⟩
def m_law_aq_is_whole : MS := (mRet (mM (mAndV (mIsi "int" (mVar 0)) (mNotV (mIsi "bool" (mVar 0))))))
theorem d_law_aq_is_whole (Hd : HD wd K mg base h) {f c : Addr} {A : Around} {outer : List Env} {s : Shared} {H : Hp} {Ex : XK} (hr : Room 0 (A.deeper (envOfC "_law_aq_is_whole" (defScope st_law_aq_is_whole) s.heap.objs.size f (.ref c)))) :
    SSs (cxOf (L2.CX Pr wd) Pr wd K mg base ["thing"] "_law_aq_is_whole" (defScope st_law_aq_is_whole) f (.ref c) A outer s H Ex) (tabsT K tf) (fun cls d _ H => Ex cls d H) (defBody st_law_aq_is_whole) (m_law_aq_is_whole) := by
  have nd := sc_law_aq_is_whole.nd
  exact (ss_one (ss_ret (SE.m (s_and (s_isi kit_int (Hd.free 33) (Hd.free 35) (by decide +kernel) (SE.w (s_var 0))) (s_one (s_not (s_isi kit_bool (Hd.free 33) (Hd.free 34) (by decide +kernel) (SE.w (s_var 0)))))))))
theorem ok_law_aq_is_whole (Hd : HD wd K mg base h) {con : Con} (hm : ∀ ds S Q E, ds.length = 1 → con ds S Q E → m_law_aq_is_whole (startR 1 ds) S (retE Q E)) : FnP Pr wd K mg base (tabsT K tf) "_law_aq_is_whole" 1 1 con := by
  obtain ⟨fd, F⟩ := Hd.fun_ 21 (d := dd_law_aq_is_whole)
  obtain ⟨oc, od, osl, lk⟩ := FunD.lkc F
  exact fn_okC F (Hd.glo 20) (FunD.bindsN (ps := ["thing"]) F fun _ _ _ _ _ _ us hl => match us, hl with | [_], _ => rfl) sc_law_aq_is_whole (by decide) (fun c A outer s H Ex ec hr => d_law_aq_is_whole Hd hr) hm
/-! _law_aq_same -/
theorem sc_law_aq_same : FnScope ["heard_now", "owed", "todo", "first_now", "awaited", "is_so", "at"] ["heard_now", "owed"] (defScope st_law_aq_same) := ⟨rfl, rfl, rfl, by decide +kernel, rfl, by decide +kernel, by decide +kernel⟩
def m_law_aq_same (c_law_aq_is_whole : Con) : MS := (mSeq (mSetF 2 (mDisp (mCons (mTup (mCons (mVar 0) (mCons (mVar 1) mNil))) mNil)))
  (mSeq (mWhile (mBinT fNe (mVarW 2) (mLst (mDisp mNil))) (mSeq (mUnp [3, 4] (mPop 2))
  (mSeq (mIfS (mBinT fIsN (mVar 4) (mC .non)) (mSet 5 (mM (mBin fIsN (mVar 3) (mC .non)))) (mIfS (mT (mIsi "bool" (mVar 4))) (mSet 5 (mM (mAndV (mIsi "bool" (mVar 3)) (mBin fEq (mVar 3) (mVar 4))))) (mIfS (mT (mIsi "int" (mVar 4))) (mSet 5 (mM (mAndV (mCall 1 c_law_aq_is_whole (mCons (mVar 3) mNil)) (mBin fEq (mVar 3) (mVar 4))))) (mIfS (mT (mIsi "str" (mVar 4))) (mSet 5 (mM (mAndV (mIsi "str" (mVar 3)) (mBin fEq (mVar 3) (mVar 4))))) (mSeq (mSet 5 (mM (mIf (mT (mIsi "tuple" (mVar 4))) (mIsi "tuple" (mVar 3)) (mIsi "list" (mVar 3)))))
  (mSeq (mSet 5 (mM (mAndV (mVar 5) (mBin fEq (mPrim fLen (mCons (mVar 3) mNil)) (mPrim fLen (mCons (mVar 4) mNil))))))
  (mExt 2 (mIf (mT (mVar 5)) (mLst (mComp [6] (mRng1 (mPrim fLen (mCons (mVar 4) mNil))) (bN 6) mYes (mTup (mCons (mBin fIx (mVar 3) (mVar 6)) (mCons (mBin fIx (mVar 4) (mVar 6)) mNil))))) (mLst (mDisp mNil))))))))))
  (mIfS (mNotT (mT (mVar 5))) (mRet (mM (mC (.bl false)))) mPass))))
  (mRet (mM (mC (.bl true))))))
theorem d_law_aq_same (Hd : HD wd K mg base h) {c_law_aq_is_whole : Con} (F_law_aq_is_whole : FnP Pr wd K mg base (tabsT K tf) "_law_aq_is_whole" 1 1 c_law_aq_is_whole) {f c : Addr} {A : Around} {outer : List Env} {s : Shared} {H : Hp} {Ex : XK} (hr : Room 1 (A.deeper (envOfC "_law_aq_same" (defScope st_law_aq_same) s.heap.objs.size f (.ref c)))) :
    SSs (cxOf (L2.CX Pr wd) Pr wd K mg base ["heard_now", "owed", "todo", "first_now", "awaited", "is_so", "at"] "_law_aq_same" (defScope st_law_aq_same) f (.ref c) A outer s H Ex) (tabsT K tf) (fun cls d _ H => Ex cls d H) (defBody st_law_aq_same) (m_law_aq_same c_law_aq_is_whole) := by
  have nd := sc_law_aq_same.nd
  exact (ss_cons (ss_setF 2 (s_list (sa_cons (s_tup (sa_cons (s_var 0) (sa_cons (s_var 1) sa_nil))) sa_nil)) nd)
  (ss_cons (ss_while po_of (t_ne (hu64 hr) (s_varW 2) (SE.w (SEf.s (s_list sa_nil)))) (ss_cons (ss_unp rfl (sg_cons 3 (sg_cons 4 sg_nil nd) nd) (sm_pop 2))
  (ss_cons (ss_if (t_is (SE.w (s_var 4)) (SE.w s_non)) (ss_one (ss_set 5 (SE.m (s_is (SE.w (s_var 3)) (SE.w s_non))) nd)) (ss_one (ss_if (t_val (s_isi kit_bool (Hd.free 33) (Hd.free 34) (by decide +kernel) (SE.w (s_var 4)))) (ss_one (ss_set 5 (SE.m (s_and (s_isi kit_bool (Hd.free 33) (Hd.free 34) (by decide +kernel) (SE.w (s_var 3))) (s_one (s_eq (hu64 hr) (SE.w (s_var 3)) (SE.w (s_var 4)))))) nd)) (ss_one (ss_if (t_val (s_isi kit_int (Hd.free 33) (Hd.free 35) (by decide +kernel) (SE.w (s_var 4)))) (ss_one (ss_set 5 (SE.m (s_and (s_call F_law_aq_is_whole tk_of (Room.mono hr (by decide)) (sa_cons (s_var 3) sa_nil)) (s_one (s_eq (hu64 hr) (SE.w (s_var 3)) (SE.w (s_var 4)))))) nd)) (ss_one (ss_if (t_val (s_isi kit_str (Hd.free 33) (Hd.free 43) (by decide +kernel) (SE.w (s_var 4)))) (ss_one (ss_set 5 (SE.m (s_and (s_isi kit_str (Hd.free 33) (Hd.free 43) (by decide +kernel) (SE.w (s_var 3))) (s_one (s_eq (hu64 hr) (SE.w (s_var 3)) (SE.w (s_var 4)))))) nd)) (ss_cons (ss_set 5 (SE.m (s_if (t_val (s_isi kit_tuple (Hd.free 33) (Hd.free 38) (by decide +kernel) (SE.w (s_var 4)))) (s_isi kit_tuple (Hd.free 33) (Hd.free 38) (by decide +kernel) (SE.w (s_var 3))) (s_isi kit_list (Hd.free 33) (Hd.free 44) (by decide +kernel) (SE.w (s_var 3))))) nd)
  (ss_cons (ss_set 5 (SE.m (s_and (s_var 5) (s_one (s_eq (hu64 hr) (SE.w (s_len (Hd.free 36) (saw_cons (SE.w (s_var 3)) saw_nil))) (SE.w (s_len (Hd.free 36) (saw_cons (SE.w (s_var 4)) saw_nil))))))) nd)
  (ss_one (ss_ext 2 (SE.w (s_if (t_val (s_var 5)) (SEf.s (sf_comp rfl nd (SI.w (si_range1 (Hd.free 42) (s_len (Hd.free 36) (saw_cons (SE.w (s_var 4)) saw_nil)))) (blkOk_by (own := [("at", 6)]) (by kernel_rfl)) (by decide) (fun _ _ _ _ _ => (sb_name 6 nd)) (fun _ _ _ _ _ => sts_nil) (fun _ _ _ _ _ => (s_tup (sa_cons (s_ix (SE.w (s_var 3)) (SE.w (s_var 6))) (sa_cons (s_ix (SE.w (s_var 4)) (SE.w (s_var 6))) sa_nil)))))) (SEf.s (s_list sa_nil)))))))))))))))
  (ss_one (ss_if (t_not (t_val (s_var 5))) (ss_one (ss_ret (SE.m s_bl))) ss_nil)))))
  (ss_one (ss_ret (SE.m s_bl)))))
theorem ok_law_aq_same (Hd : HD wd K mg base h) {c_law_aq_is_whole : Con} (F_law_aq_is_whole : FnP Pr wd K mg base (tabsT K tf) "_law_aq_is_whole" 1 1 c_law_aq_is_whole) {con : Con} (hm : ∀ ds S Q E, ds.length = 2 → con ds S Q E → m_law_aq_same c_law_aq_is_whole (startR 7 ds) S (retE Q E)) : FnP Pr wd K mg base (tabsT K tf) "_law_aq_same" 2 2 con := by
  obtain ⟨fd, F⟩ := Hd.fun_ 22 (d := dd_law_aq_same)
  obtain ⟨oc, od, osl, lk⟩ := FunD.lkc F
  exact fn_okC F (Hd.glo 21) (FunD.bindsN (ps := ["heard_now", "owed"]) F fun _ _ _ _ _ _ us hl => match us, hl with | [_, _], _ => rfl) sc_law_aq_same (by decide) (fun c A outer s H Ex ec hr => d_law_aq_same Hd F_law_aq_is_whole hr) hm
/-! _law_x04_heard -/
theorem sc_law_x04_heard : FnScope ["deed", "ear"] ["deed"] (defScope st_law_x04_heard) := ⟨rfl, rfl, rfl, by decide +kernel, rfl, by decide +kernel, by decide +kernel⟩
theorem gl_all (Hd : HD wd K mg base h) : ∀ x ∈ errs ++ xs, mg x = some (.ref (He.ga K x)) := by
  intro x hx
  have hx : x ∈ ("BadChange" :: "Unlike" :: "BadChange" :: "Unlike" :: "Refused" :: [] : List Str) := hx
  simp only [List.mem_cons, List.not_mem_nil, or_false] at hx
  rcases hx with rfl | rfl | rfl | rfl | rfl
  · exact Hd.glo 29
  · exact Hd.glo 30
  · exact Hd.glo 29
  · exact Hd.glo 30
  · exact Hd.glo 31
theorem ok_law_x04_heard (Hd : HD wd K mg base h) : HeardP Pr wd K mg base "_law_x04_heard" errs hl_law_x04_heard := by
  obtain ⟨fd, F⟩ := Hd.fun_ 23 (d := dd_law_x04_heard)
  refine heard_ok (hds := [⟨"BadChange", He.ga K "BadChange", "BadChange", true⟩, ⟨"Unlike", He.ga K "Unlike", "Unlike", true⟩, ⟨"Refused", He.ga K "Refused", "", false⟩]) F (Hd.glo 22) (FunD.bindsN F fun _ _ _ _ _ _ us hl => match us, hl with | [_], _ => rfl) sc_law_x04_heard (Or.inl rfl) (Hd.errS (gl_all Hd)) ?_ (fun X cd s H eK eM => (cl_named (by rw [eK]; exact Hd.ex1.2.1 _ (List.mem_of_getElem? (i := 0) rfl)) (by rw [eK]; exact (Hd.ex1.1 _ (List.mem_of_getElem? (i := 0) rfl)).2.2) (by rw [eM]; exact Hd.glo 29) (cl_named (by rw [eK]; exact Hd.ex1.2.1 _ (List.mem_of_getElem? (i := 1) rfl)) (by rw [eK]; exact (Hd.ex1.1 _ (List.mem_of_getElem? (i := 1) rfl)).2.2) (by rw [eM]; exact Hd.glo 30) (cl_bare (by rw [eM]; exact Hd.glo 31) .nil))))
  intro y hy
  simp only [List.mem_cons, List.not_mem_nil, or_false] at hy
  rcases hy with rfl | rfl | rfl
  · exact ⟨List.mem_of_getElem? (i := 0) rfl, Hd.glo 29⟩
  · exact ⟨List.mem_of_getElem? (i := 1) rfl, Hd.glo 30⟩
  · exact ⟨List.mem_of_getElem? (i := 2) rfl, Hd.glo 31⟩
/-! _law_x04_draw -/
theorem sc_law_x04_draw : FnScope ["jar", "sort_now", "x"] ["jar"] (defScope st_law_x04_draw) := ⟨rfl, rfl, rfl, by decide +kernel, rfl, by decide +kernel, by decide +kernel⟩
def m_law_x04_draw (c_law_take : Con) (c_law_aw_great : Con) (c_law_aw_change : Con) : MS := (mSeq (mPar 1 2 (mCons (mCall 2 c_law_take (mCons (mVar 0) (mCons (mC (.int 5)) mNil))) (mCons (mBin fSub (mCall 2 c_law_take (mCons (mVar 0) (mCons (mC (.int 5)) mNil))) (mC (.int 2))) mNil)))
  (mSeq (mIfS (mBinT fEq (mVar 1) (mC (.int 0))) (mRet (mM (mCall 1 c_law_aw_great (mCons (mVar 0) mNil)))) mPass)
  (mRet (mM (mIf (mBinT fEq (mVar 1) (mC (.int 1))) (mTup (mCons (mBin fSub (mCall 2 c_law_take (mCons (mVar 0) (mCons (mC (.int 9)) mNil))) (mC (.int 4))) (mCons (mVar 2) (mCons (mVar 2) mNil)))) (mCall 1 c_law_aw_change (mCons (mVar 0) mNil)))))))
theorem d_law_x04_draw (Hd : HD wd K mg base h) {c_law_take : Con} (F_law_take : FnP Pr wd K mg base (tabsT K tf) "_law_take" 2 1 c_law_take) {c_law_aw_great : Con} (F_law_aw_great : FnP Pr wd K mg base (tabsT K tf) "_law_aw_great" 1 3 c_law_aw_great) {c_law_aw_change : Con} (F_law_aw_change : FnP Pr wd K mg base (tabsT K tf) "_law_aw_change" 1 2 c_law_aw_change) {f c : Addr} {A : Around} {outer : List Env} {s : Shared} {H : Hp} {Ex : XK} (hr : Room 3 (A.deeper (envOfC "_law_x04_draw" (defScope st_law_x04_draw) s.heap.objs.size f (.ref c)))) :
    SSs (cxOf (L2.CX Pr wd) Pr wd K mg base ["jar", "sort_now", "x"] "_law_x04_draw" (defScope st_law_x04_draw) f (.ref c) A outer s H Ex) (tabsT K tf) (fun cls d _ H => Ex cls d H) (defBody st_law_x04_draw) (m_law_x04_draw c_law_take c_law_aw_great c_law_aw_change) := by
  have nd := sc_law_x04_draw.nd
  exact (ss_cons (ss_par 1 2 rfl nd (sa_cons (s_call F_law_take tk_of (Room.mono hr (by decide)) (sa_cons (s_var 0) (sa_cons s_int sa_nil))) (sa_cons (s_sub (SE.w (s_call F_law_take tk_of (Room.mono hr (by decide)) (sa_cons (s_var 0) (sa_cons s_int sa_nil)))) (SE.w s_int)) sa_nil)))
  (ss_cons (ss_if (t_eq (hu64 hr) (SE.w (s_var 1)) (SE.w s_int)) (ss_one (ss_ret (SE.m (s_call F_law_aw_great tk_of (Room.mono hr (by decide)) (sa_cons (s_var 0) sa_nil))))) ss_nil)
  (ss_one (ss_ret (SE.m (s_if (t_eq (hu64 hr) (SE.w (s_var 1)) (SE.w s_int)) (s_tup (sa_cons (s_sub (SE.w (s_call F_law_take tk_of (Room.mono hr (by decide)) (sa_cons (s_var 0) (sa_cons s_int sa_nil)))) (SE.w s_int)) (sa_cons (s_var 2) (sa_cons (s_var 2) sa_nil)))) (s_call F_law_aw_change tk_of (Room.mono hr (by decide)) (sa_cons (s_var 0) sa_nil))))))))
theorem ok_law_x04_draw (Hd : HD wd K mg base h) {c_law_take : Con} (F_law_take : FnP Pr wd K mg base (tabsT K tf) "_law_take" 2 1 c_law_take) {c_law_aw_great : Con} (F_law_aw_great : FnP Pr wd K mg base (tabsT K tf) "_law_aw_great" 1 3 c_law_aw_great) {c_law_aw_change : Con} (F_law_aw_change : FnP Pr wd K mg base (tabsT K tf) "_law_aw_change" 1 2 c_law_aw_change) {con : Con} (hm : ∀ ds S Q E, ds.length = 1 → con ds S Q E → m_law_x04_draw c_law_take c_law_aw_great c_law_aw_change (startR 3 ds) S (retE Q E)) : FnP Pr wd K mg base (tabsT K tf) "_law_x04_draw" 1 4 con := by
  obtain ⟨fd, F⟩ := Hd.fun_ 24 (d := dd_law_x04_draw)
  obtain ⟨oc, od, osl, lk⟩ := FunD.lkc F
  exact fn_okC F (Hd.glo 23) (FunD.bindsN (ps := ["jar"]) F fun _ _ _ _ _ _ us hl => match us, hl with | [_], _ => rfl) sc_law_x04_draw (by decide) (fun c A outer s H Ex ec hr => d_law_x04_draw Hd F_law_take F_law_aw_great F_law_aw_change hr) hm
/-! _law_x04_starts -/
theorem sc_law_x04_starts : FnScope ["rows", "made", "change_now", "x", "by"] ["rows"] (defScope st_law_x04_starts) := ⟨rfl, rfl, rfl, by decide +kernel, rfl, by decide +kernel, by decide +kernel⟩
def m_law_x04_starts : MS := (mSeq (mSetF 1 (mDisp (mCons (mC (.int 0)) (mCons (mUn fNeg (mBin fPow (mC (.int 10)) (mC (.int 15)))) (mCons (mBin fPow (mC (.int 10)) (mC (.int 15))) mNil)))))
  (mSeq (mFor (mIt (mVar 0)) (bN 2) (mFor (mIt (mLst (mComp [3] (mIt (mSl (mVar 2) (mSome (mC (.int 1))) mNo)) (bN 3) (mBinT fNotN (mVar 3) (mC .non)) (mVar 3)))) (bN 3) (mExt 1 (mLst (mComp [4] (mIt (mLst (mDisp (mCons (mUn fNeg (mC (.int 1))) (mCons (mC (.int 0)) (mCons (mC (.int 1)) mNil)))))) (bN 4) mYes (mBin fAdd (mBin fSub (mVar 3) (mBin fIx (mVar 2) (mC (.int 0)))) (mVar 4)))))))
  (mFrz 1 (mRet (mM (mVar 1))))))
theorem d_law_x04_starts (Hd : HD wd K mg base h) {f c : Addr} {A : Around} {outer : List Env} {s : Shared} {H : Hp} {Ex : XK} (hr : Room 0 (A.deeper (envOfC "_law_x04_starts" (defScope st_law_x04_starts) s.heap.objs.size f (.ref c)))) :
    SSs (cxOf (L2.CX Pr wd) Pr wd K mg base ["rows", "made", "change_now", "x", "by"] "_law_x04_starts" (defScope st_law_x04_starts) f (.ref c) A outer s H Ex) (tabsT K tf) (fun cls d _ H => Ex cls d H) (defBody st_law_x04_starts) (m_law_x04_starts) := by
  have nd := sc_law_x04_starts.nd
  exact (ss_cons (ss_setF 1 (s_list (sa_cons s_int (sa_cons (s_neg (SE.w (s_pow (SE.w s_int) (SE.w s_int)))) (sa_cons (s_pow (SE.w s_int) (SE.w s_int)) sa_nil)))) nd)
  (ss_cons (ss_for po_of rfl (si_seq (s_var 0)) (sb_name 2 nd) (ss_one (ss_for po_of rfl (si_seq (SEf.s (sf_comp rfl nd (siw_seq (SE.w (s_sl (SE.w (s_var 2)) (so_some s_int) so_no))) (blkOk_by (own := [("x", 3)]) (by kernel_rfl)) (by decide) (fun _ _ _ _ _ => (sb_name 3 nd)) (fun _ _ _ _ _ => (sts_one (t_isnot (SE.w (s_var 3)) (SE.w s_non)))) (fun _ _ _ _ _ => (s_var 3))))) (sb_name 3 nd) (ss_one (ss_ext 1 (SE.w (SEf.s (sf_comp rfl nd (siw_seq (SE.w (SEf.s (s_list (sa_cons (s_neg (SE.w s_int)) (sa_cons s_int (sa_cons s_int sa_nil))))))) (blkOk_by (own := [("by", 4)]) (by kernel_rfl)) (by decide) (fun _ _ _ _ _ => (sb_name 4 nd)) (fun _ _ _ _ _ => sts_nil) (fun _ _ _ _ _ => (s_add (SE.w (s_sub (SE.w (s_var 3)) (SE.w (s_ix (SE.w (s_var 2)) (SE.w s_int))))) (SE.w (s_var 4))))))))))))
  (ss_frz 1 (ss_one (ss_ret (SE.m (s_var 1)))))))
theorem ok_law_x04_starts (Hd : HD wd K mg base h) {con : Con} (hm : ∀ ds S Q E, ds.length = 1 → con ds S Q E → m_law_x04_starts (startR 5 ds) S (retE Q E)) : FnP Pr wd K mg base (tabsT K tf) "_law_x04_starts" 1 1 con := by
  obtain ⟨fd, F⟩ := Hd.fun_ 25 (d := dd_law_x04_starts)
  obtain ⟨oc, od, osl, lk⟩ := FunD.lkc F
  exact fn_okC F (Hd.glo 24) (FunD.bindsN (ps := ["rows"]) F fun _ _ _ _ _ _ us hl => match us, hl with | [_], _ => rfl) sc_law_x04_starts (by decide) (fun c A outer s H Ex ec hr => d_law_x04_starts Hd hr) hm
/-! _law_x04_swap_right -/
theorem sc_law_x04_swap_right : FnScope ["jar", "first", "second", "some", "unlike_now", "odd", "found", "here", "there", "word", "start_now", "x"] ["jar", "first", "second"] (defScope st_law_x04_swap_right) := ⟨rfl, rfl, rfl, by decide +kernel, rfl, by decide +kernel, by decide +kernel⟩
def m_law_x04_swap_right_11 (c_law_aw_joined : Con) (c_law_x04_starts : Con) (c_law_aw_after : Con) (c_swap_at : Con) (c_law_aw_is_number : Con) (c_law_one : Con) (c_swap_right : Con) (c_law_aq_same : Con) : MS := (mFrz 6 (mFrz 4 (mRet (mM (mCall 2 c_law_aq_same (mCons (mVar 6) (mCons (mLst (mDisp (mCons (mTup (mCons (mC (.str "told")) (mCons (mVar 4) mNil))) (mCons (mTup (mCons (mC (.str "told")) (mCons (mVar 4) mNil))) (mCons (mTup (mCons (mC (.str "told")) (mCons (mC (.bl false)) mNil))) mNil))))) mNil)))))))
def m_law_x04_swap_right_10 (c_law_aw_joined : Con) (c_law_x04_starts : Con) (c_law_aw_after : Con) (c_swap_at : Con) (c_law_aw_is_number : Con) (c_law_one : Con) (c_swap_right : Con) (c_law_aq_same : Con) : MS := (mSeq (mApp 6 (mHeard errs hl_law_x04_heard (mCall 3 c_swap_right (mCons (mVar 1) (mCons (mVar 2) (mCons (mVar 5) mNil))))))
  (m_law_x04_swap_right_11 c_law_aw_joined c_law_x04_starts c_law_aw_after c_swap_at c_law_aw_is_number c_law_one c_swap_right c_law_aq_same))
def m_law_x04_swap_right_9 (c_law_aw_joined : Con) (c_law_x04_starts : Con) (c_law_aw_after : Con) (c_swap_at : Con) (c_law_aw_is_number : Con) (c_law_one : Con) (c_swap_right : Con) (c_law_aq_same : Con) : MS := (mSeq (mApp 6 (mHeard errs hl_law_x04_heard (mLst (mComp [11] (mIt (mVar 3)) (bN 11) mYes (mCall 3 c_swap_right (mCons (mVar 2) (mCons (mVar 1) (mCons (mVar 11) mNil))))))))
  (m_law_x04_swap_right_10 c_law_aw_joined c_law_x04_starts c_law_aw_after c_swap_at c_law_aw_is_number c_law_one c_swap_right c_law_aq_same))
def m_law_x04_swap_right_8 (c_law_aw_joined : Con) (c_law_x04_starts : Con) (c_law_aw_after : Con) (c_swap_at : Con) (c_law_aw_is_number : Con) (c_law_one : Con) (c_swap_right : Con) (c_law_aq_same : Con) : MS := (mSeq (mSetF 6 (mDisp (mCons (mHeard errs hl_law_x04_heard (mLst (mComp [11] (mIt (mVar 3)) (bN 11) mYes (mCall 3 c_swap_right (mCons (mVar 1) (mCons (mVar 2) (mCons (mVar 11) mNil))))))) mNil)))
  (m_law_x04_swap_right_9 c_law_aw_joined c_law_x04_starts c_law_aw_after c_swap_at c_law_aw_is_number c_law_one c_swap_right c_law_aq_same))
def m_law_x04_swap_right_7 (c_law_aw_joined : Con) (c_law_x04_starts : Con) (c_law_aw_after : Con) (c_swap_at : Con) (c_law_aw_is_number : Con) (c_law_one : Con) (c_swap_right : Con) (c_law_aq_same : Con) : MS := (mSeq (mSet 5 (mM (mCall 2 c_law_one (mCons (mVar 0) (mCons (mLst (mDisp (mCons (mC .non) (mCons (mC (.bl true)) (mCons (mC (.str "0")) (mCons (mTup (mCons (mC (.int 0)) mNil)) mNil)))))) mNil)))))
  (m_law_x04_swap_right_8 c_law_aw_joined c_law_x04_starts c_law_aw_after c_swap_at c_law_aw_is_number c_law_one c_swap_right c_law_aq_same))
def m_law_x04_swap_right_6 (c_law_aw_joined : Con) (c_law_x04_starts : Con) (c_law_aw_after : Con) (c_swap_at : Con) (c_law_aw_is_number : Con) (c_law_one : Con) (c_swap_right : Con) (c_law_aq_same : Con) : MS := (mSeq (mIfS (mBinT fNotN (mVar 10) (mC .non)) (mIfS (mOrT (mNotT (mT (mCall 1 c_law_aw_is_number (mCons (mVar 10) mNil)))) (mBinT fEq (mCall 2 c_law_aw_after (mCons (mVar 7) (mCons (mVar 10) mNil))) (mCall 2 c_law_aw_after (mCons (mVar 8) (mCons (mVar 10) mNil))))) (mRet (mM (mC (.bl false)))) mPass) mPass)
  (m_law_x04_swap_right_7 c_law_aw_joined c_law_x04_starts c_law_aw_after c_swap_at c_law_aw_is_number c_law_one c_swap_right c_law_aq_same))
def m_law_x04_swap_right_5 (c_law_aw_joined : Con) (c_law_x04_starts : Con) (c_law_aw_after : Con) (c_swap_at : Con) (c_law_aw_is_number : Con) (c_law_one : Con) (c_swap_right : Con) (c_law_aq_same : Con) : MS := (mSeq (mIfS (mOrT (mBinT fNe (mVar 9) (mC (.str "told"))) (mBinT fEq (mBin fIsN (mVar 10) (mC .non)) (mBin fIn (mC (.bl true)) (mVarW 4)))) (mRet (mM (mC (.bl false)))) mPass)
  (m_law_x04_swap_right_6 c_law_aw_joined c_law_x04_starts c_law_aw_after c_swap_at c_law_aw_is_number c_law_one c_swap_right c_law_aq_same))
def m_law_x04_swap_right_4 (c_law_aw_joined : Con) (c_law_x04_starts : Con) (c_law_aw_after : Con) (c_swap_at : Con) (c_law_aw_is_number : Con) (c_law_one : Con) (c_swap_right : Con) (c_law_aq_same : Con) : MS := (mSeq (mUnp [9, 10] (mM (mHeard errs hl_law_x04_heard (mCall 2 c_swap_at (mCons (mVar 1) (mCons (mVar 2) mNil))))))
  (m_law_x04_swap_right_5 c_law_aw_joined c_law_x04_starts c_law_aw_after c_swap_at c_law_aw_is_number c_law_one c_swap_right c_law_aq_same))
def m_law_x04_swap_right_3 (c_law_aw_joined : Con) (c_law_x04_starts : Con) (c_law_aw_after : Con) (c_swap_at : Con) (c_law_aw_is_number : Con) (c_law_one : Con) (c_swap_right : Con) (c_law_aq_same : Con) : MS := (mSeq (mIfS (mBinT fNe (mLst (mComp [11] (mIt (mVar 3)) (bN 11) (mBinT fNe (mCall 2 c_law_aw_after (mCons (mVar 7) (mCons (mVar 11) mNil))) (mCall 2 c_law_aw_after (mCons (mVar 2) (mCons (mCall 2 c_law_aw_after (mCons (mVar 1) (mCons (mVar 11) mNil))) mNil)))) (mVar 11))) (mLst (mDisp mNil))) (mRet (mM (mC (.bl false)))) mPass)
  (m_law_x04_swap_right_4 c_law_aw_joined c_law_x04_starts c_law_aw_after c_swap_at c_law_aw_is_number c_law_one c_swap_right c_law_aq_same))
def m_law_x04_swap_right_2 (c_law_aw_joined : Con) (c_law_x04_starts : Con) (c_law_aw_after : Con) (c_swap_at : Con) (c_law_aw_is_number : Con) (c_law_one : Con) (c_swap_right : Con) (c_law_aq_same : Con) : MS := (mSeq (mSetF 4 (mComp [11] (mIt (mVar 3)) (bN 11) mYes (mBin fNe (mCall 2 c_law_aw_after (mCons (mVar 7) (mCons (mVar 11) mNil))) (mCall 2 c_law_aw_after (mCons (mVar 8) (mCons (mVar 11) mNil))))))
  (m_law_x04_swap_right_3 c_law_aw_joined c_law_x04_starts c_law_aw_after c_swap_at c_law_aw_is_number c_law_one c_swap_right c_law_aq_same))
def m_law_x04_swap_right_1 (c_law_aw_joined : Con) (c_law_x04_starts : Con) (c_law_aw_after : Con) (c_swap_at : Con) (c_law_aw_is_number : Con) (c_law_one : Con) (c_swap_right : Con) (c_law_aq_same : Con) : MS := (mSeq (mSet 3 (mM (mCall 1 c_law_x04_starts (mCons (mLst (mDisp (mCons (mVar 7) (mCons (mVar 8) mNil)))) mNil))))
  (m_law_x04_swap_right_2 c_law_aw_joined c_law_x04_starts c_law_aw_after c_swap_at c_law_aw_is_number c_law_one c_swap_right c_law_aq_same))
def m_law_x04_swap_right (c_law_aw_joined : Con) (c_law_x04_starts : Con) (c_law_aw_after : Con) (c_swap_at : Con) (c_law_aw_is_number : Con) (c_law_one : Con) (c_swap_right : Con) (c_law_aq_same : Con) : MS := (mSeq (mUnp [7, 8] (mM (mTup (mCons (mCall 2 c_law_aw_joined (mCons (mVar 1) (mCons (mVar 2) mNil))) (mCons (mCall 2 c_law_aw_joined (mCons (mVar 2) (mCons (mVar 1) mNil))) mNil)))))
  (m_law_x04_swap_right_1 c_law_aw_joined c_law_x04_starts c_law_aw_after c_swap_at c_law_aw_is_number c_law_one c_swap_right c_law_aq_same))
theorem d_law_x04_swap_right (Hd : HD wd K mg base h) {c_law_aw_joined : Con} (F_law_aw_joined : FnP Pr wd K mg base (tabsT K tf) "_law_aw_joined" 2 2 c_law_aw_joined) {c_law_x04_starts : Con} (F_law_x04_starts : FnP Pr wd K mg base (tabsT K tf) "_law_x04_starts" 1 1 c_law_x04_starts) {c_law_aw_after : Con} (F_law_aw_after : FnP Pr wd K mg base (tabsT K tf) "_law_aw_after" 2 1 c_law_aw_after) {c_swap_at : Con} (F_swap_at : FnP Pr wd K mg base (tabsT K tf) "swap_at" 2 4 c_swap_at) {c_law_aw_is_number : Con} (F_law_aw_is_number : FnP Pr wd K mg base (tabsT K tf) "_law_aw_is_number" 1 1 c_law_aw_is_number) {c_law_one : Con} (F_law_one : FnP Pr wd K mg base (tabsT K tf) "_law_one" 2 2 c_law_one) {c_swap_right : Con} (F_swap_right : FnP Pr wd K mg base (tabsT K tf) "swap_right" 3 4 c_swap_right) {c_law_aq_same : Con} (F_law_aq_same : FnP Pr wd K mg base (tabsT K tf) "_law_aq_same" 2 2 c_law_aq_same) (F_law_x04_heard : HeardP Pr wd K mg base "_law_x04_heard" errs hl_law_x04_heard) {f c : Addr} {A : Around} {outer : List Env} {s : Shared} {H : Hp} {Ex : XK} {oc : Value} {od : Option Addr} {osl : Array (Option Value)} {fd : FuncData} (lk : K.lookup (He.fAd K ("_law_x04_swap_right", none)) = some ⟨oc, od, .func fd, osl⟩) (ec : fd.code = .ref c) (hr : Room 6 (A.deeper (envOfC "_law_x04_swap_right" (defScope st_law_x04_swap_right) s.heap.objs.size f (.ref c)))) :
    SSs (cxOf (L2.CX Pr wd) Pr wd K mg base ["jar", "first", "second", "some", "unlike_now", "odd", "found", "here", "there", "word", "start_now", "x"] "_law_x04_swap_right" (defScope st_law_x04_swap_right) f (.ref c) A outer s H Ex) (tabsT K tf) (fun cls d _ H => Ex cls d H) (defBody st_law_x04_swap_right) (m_law_x04_swap_right c_law_aw_joined c_law_x04_starts c_law_aw_after c_swap_at c_law_aw_is_number c_law_one c_swap_right c_law_aq_same) := by
  have nd := sc_law_x04_swap_right.nd
  exact (ss_cons (ss_unp rfl (sg_cons 7 (sg_cons 8 sg_nil nd) nd) (SE.m (s_tup (sa_cons (s_call F_law_aw_joined tk_of (Room.mono hr (by decide)) (sa_cons (s_var 1) (sa_cons (s_var 2) sa_nil))) (sa_cons (s_call F_law_aw_joined tk_of (Room.mono hr (by decide)) (sa_cons (s_var 2) (sa_cons (s_var 1) sa_nil))) sa_nil)))))
  (ss_cons (ss_set 3 (SE.m (s_call F_law_x04_starts tk_of (Room.mono hr (by decide)) (sa_cons (SEf.s (s_list (sa_cons (s_var 7) (sa_cons (s_var 8) sa_nil)))) sa_nil))) nd)
  (ss_cons (ss_setC 4 rfl nd (siw_seq (SE.w (s_var 3))) (blkOk_by (own := [("x", 11)]) (by kernel_rfl)) (by decide) (fun _ _ _ _ _ => (sb_name 11 nd)) (fun _ _ _ _ _ => sts_nil) (fun _ _ _ _ _ => (s_ne (hu64 hr) (SE.w (s_call F_law_aw_after LamX.takes0 (Room.mono hr (by decide)) (sa_cons (s_var 7) (sa_cons (s_var 11) sa_nil)))) (SE.w (s_call F_law_aw_after LamX.takes0 (Room.mono hr (by decide)) (sa_cons (s_var 8) (sa_cons (s_var 11) sa_nil)))))) rfl)
  (ss_cons (ss_if (t_ne (hu64 hr) (SE.w (SEf.s (sf_comp rfl nd (siw_seq (SE.w (s_var 3))) (blkOk_by (own := [("x", 11)]) (by kernel_rfl)) (by decide) (fun _ _ _ _ _ => (sb_name 11 nd)) (fun _ _ _ _ _ => (sts_one (t_ne (hu64 hr) (SE.w (s_call F_law_aw_after LamX.takes0 (Room.mono hr (by decide)) (sa_cons (s_var 7) (sa_cons (s_var 11) sa_nil)))) (SE.w (s_call F_law_aw_after LamX.takes0 (Room.mono hr (by decide)) (sa_cons (s_var 2) (sa_cons (s_call F_law_aw_after LamX.takes0 (Room.mono hr (by decide)) (sa_cons (s_var 1) (sa_cons (s_var 11) sa_nil))) sa_nil))))))) (fun _ _ _ _ _ => (s_var 11))))) (SE.w (SEf.s (s_list sa_nil)))) (ss_one (ss_ret (SE.m s_bl))) ss_nil)
  (ss_cons (ss_unp rfl (sg_cons 9 (sg_cons 10 sg_nil nd) nd) (SE.m (s_heard F_law_x04_heard (Hd.lamM (List.mem_of_getElem? (i := 0) rfl) rfl rfl rfl lk ec rfl rfl) (Room.mono hr (by decide)) (k := 4) (fun _ _ _ _ _ _ _ hr1 => (s_call F_swap_at (takes_of rfl rfl rfl rfl) (Room.mono hr1 (by decide)) (sa_cons (s_var 1) (sa_cons (s_var 2) sa_nil)))) rfl (LamX.lamS_by (by kernel_rfl)))))
  (ss_cons (ss_if (STw.t (tw_or (t_ne (hu64 hr) (SE.w (s_var 9)) (SE.w s_str)) (tw_or1 (t_eq (hu64 hr) (SE.w (s_is (SE.w (s_var 10)) (SE.w s_non))) (SE.w (s_in (hu65 hr) (SE.w s_bl) (s_varW 4))))))) (ss_one (ss_ret (SE.m s_bl))) ss_nil)
  (ss_cons (ss_if (t_isnot (SE.w (s_var 10)) (SE.w s_non)) (ss_one (ss_if (STw.t (tw_or (t_not (t_val (s_call F_law_aw_is_number tk_of (Room.mono hr (by decide)) (sa_cons (s_var 10) sa_nil)))) (tw_or1 (t_eq (hu64 hr) (SE.w (s_call F_law_aw_after tk_of (Room.mono hr (by decide)) (sa_cons (s_var 7) (sa_cons (s_var 10) sa_nil)))) (SE.w (s_call F_law_aw_after tk_of (Room.mono hr (by decide)) (sa_cons (s_var 8) (sa_cons (s_var 10) sa_nil)))))))) (ss_one (ss_ret (SE.m s_bl))) ss_nil)) ss_nil)
  (ss_cons (ss_set 5 (SE.m (s_call F_law_one tk_of (Room.mono hr (by decide)) (sa_cons (s_var 0) (sa_cons (SEf.s (s_list (sa_cons s_non (sa_cons s_bl (sa_cons s_str (sa_cons (s_tup (sa_cons s_int sa_nil)) sa_nil)))))) sa_nil)))) nd)
  (ss_cons (ss_setF 6 (s_list (sa_cons (s_heard F_law_x04_heard (Hd.lamM (List.mem_of_getElem? (i := 0) rfl) rfl rfl rfl lk ec rfl rfl) (Room.mono hr (by decide)) (k := 4) (fun _ _ _ _ _ _ _ hr1 => (SEf.s (sf_comp rfl nd (siw_seq (SE.w (s_var 3))) (blkOk_by (own := [("x", 11)]) (by kernel_rfl)) (by decide) (fun _ _ _ _ _ => (sb_name 11 nd)) (fun _ _ _ _ _ => sts_nil) (fun _ _ _ _ _ => (s_call F_swap_right LamX.takes0 (Room.mono hr1 (by decide)) (sa_cons (s_var 1) (sa_cons (s_var 2) (sa_cons (s_var 11) sa_nil)))))))) rfl (LamX.lamS_by (by kernel_rfl))) sa_nil)) nd)
  (ss_cons (ss_app 6 (s_heard F_law_x04_heard (Hd.lamM (List.mem_of_getElem? (i := 0) rfl) rfl rfl rfl lk ec rfl rfl) (Room.mono hr (by decide)) (k := 4) (fun _ _ _ _ _ _ _ hr1 => (SEf.s (sf_comp rfl nd (siw_seq (SE.w (s_var 3))) (blkOk_by (own := [("x", 11)]) (by kernel_rfl)) (by decide) (fun _ _ _ _ _ => (sb_name 11 nd)) (fun _ _ _ _ _ => sts_nil) (fun _ _ _ _ _ => (s_call F_swap_right LamX.takes0 (Room.mono hr1 (by decide)) (sa_cons (s_var 2) (sa_cons (s_var 1) (sa_cons (s_var 11) sa_nil)))))))) rfl (LamX.lamS_by (by kernel_rfl))))
  (ss_cons (ss_app 6 (s_heard F_law_x04_heard (Hd.lamM (List.mem_of_getElem? (i := 0) rfl) rfl rfl rfl lk ec rfl rfl) (Room.mono hr (by decide)) (k := 4) (fun _ _ _ _ _ _ _ hr1 => (s_call F_swap_right (takes_of rfl rfl rfl rfl) (Room.mono hr1 (by decide)) (sa_cons (s_var 1) (sa_cons (s_var 2) (sa_cons (s_var 5) sa_nil))))) rfl (LamX.lamS_by (by kernel_rfl))))
  (ss_frz 6 (ss_frz 4 (ss_one (ss_ret (SE.m (s_call F_law_aq_same tk_of (Room.mono hr (by decide)) (sa_cons (s_var 6) (sa_cons (SEf.s (s_list (sa_cons (s_tup (sa_cons s_str (sa_cons (s_var 4) sa_nil))) (sa_cons (s_tup (sa_cons s_str (sa_cons (s_var 4) sa_nil))) (sa_cons (s_tup (sa_cons s_str (sa_cons s_bl sa_nil))) sa_nil))))) sa_nil)))))))))))))))))))
theorem ok_law_x04_swap_right (Hd : HD wd K mg base h) {c_law_aw_joined : Con} (F_law_aw_joined : FnP Pr wd K mg base (tabsT K tf) "_law_aw_joined" 2 2 c_law_aw_joined) {c_law_x04_starts : Con} (F_law_x04_starts : FnP Pr wd K mg base (tabsT K tf) "_law_x04_starts" 1 1 c_law_x04_starts) {c_law_aw_after : Con} (F_law_aw_after : FnP Pr wd K mg base (tabsT K tf) "_law_aw_after" 2 1 c_law_aw_after) {c_swap_at : Con} (F_swap_at : FnP Pr wd K mg base (tabsT K tf) "swap_at" 2 4 c_swap_at) {c_law_aw_is_number : Con} (F_law_aw_is_number : FnP Pr wd K mg base (tabsT K tf) "_law_aw_is_number" 1 1 c_law_aw_is_number) {c_law_one : Con} (F_law_one : FnP Pr wd K mg base (tabsT K tf) "_law_one" 2 2 c_law_one) {c_swap_right : Con} (F_swap_right : FnP Pr wd K mg base (tabsT K tf) "swap_right" 3 4 c_swap_right) {c_law_aq_same : Con} (F_law_aq_same : FnP Pr wd K mg base (tabsT K tf) "_law_aq_same" 2 2 c_law_aq_same) (F_law_x04_heard : HeardP Pr wd K mg base "_law_x04_heard" errs hl_law_x04_heard) {con : Con} (hm : ∀ ds S Q E, ds.length = 3 → con ds S Q E → m_law_x04_swap_right c_law_aw_joined c_law_x04_starts c_law_aw_after c_swap_at c_law_aw_is_number c_law_one c_swap_right c_law_aq_same (startR 12 ds) S (retE Q E)) : FnP Pr wd K mg base (tabsT K tf) "_law_x04_swap_right" 3 7 con := by
  obtain ⟨fd, F⟩ := Hd.fun_ 26 (d := dd_law_x04_swap_right)
  obtain ⟨oc, od, osl, lk⟩ := FunD.lkc F
  exact fn_okC F (Hd.glo 25) (FunD.bindsN (ps := ["jar", "first", "second"]) F fun _ _ _ _ _ _ us hl => match us, hl with | [_, _, _], _ => rfl) sc_law_x04_swap_right (by decide) (fun c A outer s H Ex ec hr => d_law_x04_swap_right Hd F_law_aw_joined F_law_x04_starts F_law_aw_after F_swap_at F_law_aw_is_number F_law_one F_swap_right F_law_aq_same F_law_x04_heard lk ec hr) hm
/-! _law_x04_apart_right -/
theorem sc_law_x04_apart_right : FnScope ["jar", "first", "second", "other", "some", "owed", "found", "bad", "at", "x"] ["jar", "first", "second"] (defScope st_law_x04_apart_right) := ⟨rfl, rfl, rfl, by decide +kernel, rfl, by decide +kernel, by decide +kernel⟩
def m_law_x04_apart_right_12 (c_law_x04_starts : Con) (c_law_aw_after : Con) (c_most_apart : Con) (c_law_one : Con) (c_swap_at : Con) (c_swap_right : Con) (c_law_aq_same : Con) : MS := (mFrz 6 (mRet (mM (mCall 2 c_law_aq_same (mCons (mVar 6) (mCons (mBin fAdd (mLst (mDisp (mCons (mTup (mCons (mC (.str "told")) (mCons (mVar 5) mNil))) (mCons (mTup (mCons (mC (.str "told")) (mCons (mVar 5) mNil))) (mCons (mTup (mCons (mC (.str "Unlike")) (mCons (mC (.int 0)) mNil))) mNil))))) (mBin fMul (mLst (mDisp (mCons (mTup (mCons (mC (.str "BadChange")) (mCons (mVar 8) mNil))) mNil))) (mC (.int 4)))) mNil))))))
def m_law_x04_apart_right_11 (c_law_x04_starts : Con) (c_law_aw_after : Con) (c_most_apart : Con) (c_law_one : Con) (c_swap_at : Con) (c_swap_right : Con) (c_law_aq_same : Con) : MS := (mSeq (mApp 6 (mHeard errs hl_law_x04_heard (mCall 3 c_swap_right (mCons (mVar 7) (mCons (mC .non) (mCons (mC .non) mNil))))))
  (m_law_x04_apart_right_12 c_law_x04_starts c_law_aw_after c_most_apart c_law_one c_swap_at c_swap_right c_law_aq_same))
def m_law_x04_apart_right_10 (c_law_x04_starts : Con) (c_law_aw_after : Con) (c_most_apart : Con) (c_law_one : Con) (c_swap_at : Con) (c_swap_right : Con) (c_law_aq_same : Con) : MS := (mSeq (mApp 6 (mHeard errs hl_law_x04_heard (mCall 2 c_swap_at (mCons (mVar 1) (mCons (mVar 7) mNil)))))
  (m_law_x04_apart_right_11 c_law_x04_starts c_law_aw_after c_most_apart c_law_one c_swap_at c_swap_right c_law_aq_same))
def m_law_x04_apart_right_9 (c_law_x04_starts : Con) (c_law_aw_after : Con) (c_most_apart : Con) (c_law_one : Con) (c_swap_at : Con) (c_swap_right : Con) (c_law_aq_same : Con) : MS := (mSeq (mApp 6 (mHeard errs hl_law_x04_heard (mCall 2 c_most_apart (mCons (mVar 1) (mCons (mVar 7) mNil)))))
  (m_law_x04_apart_right_10 c_law_x04_starts c_law_aw_after c_most_apart c_law_one c_swap_at c_swap_right c_law_aq_same))
def m_law_x04_apart_right_8 (c_law_x04_starts : Con) (c_law_aw_after : Con) (c_most_apart : Con) (c_law_one : Con) (c_swap_at : Con) (c_swap_right : Con) (c_law_aq_same : Con) : MS := (mSeq (mApp 6 (mHeard errs hl_law_x04_heard (mCall 2 c_most_apart (mCons (mVar 7) (mCons (mC .non) mNil)))))
  (m_law_x04_apart_right_9 c_law_x04_starts c_law_aw_after c_most_apart c_law_one c_swap_at c_swap_right c_law_aq_same))
def m_law_x04_apart_right_7 (c_law_x04_starts : Con) (c_law_aw_after : Con) (c_most_apart : Con) (c_law_one : Con) (c_swap_at : Con) (c_swap_right : Con) (c_law_aq_same : Con) : MS := (mSeq (mUnp [7, 8] (mM (mCall 2 c_law_one (mCons (mVar 0) (mCons (mLst (mDisp (mCons (mTup (mCons (mC .non) (mCons (mUn fNeg (mC (.int 1))) mNil))) (mCons (mTup (mCons (mTup (mCons (mC (.int 0)) (mCons (mC (.int 2)) (mCons (mC (.int 1)) mNil)))) (mCons (mC (.int 2)) mNil))) (mCons (mTup (mCons (mTup (mCons (mC .non) (mCons (mC (.int 0)) (mCons (mC (.int 0)) mNil)))) (mCons (mC (.int 0)) mNil))) (mCons (mTup (mCons (mTup (mCons (mC (.int 0)) (mCons (mC (.bl true)) (mCons (mC .non) mNil)))) (mCons (mC (.int 1)) mNil))) mNil)))))) mNil)))))
  (m_law_x04_apart_right_8 c_law_x04_starts c_law_aw_after c_most_apart c_law_one c_swap_at c_swap_right c_law_aq_same))
def m_law_x04_apart_right_6 (c_law_x04_starts : Con) (c_law_aw_after : Con) (c_most_apart : Con) (c_law_one : Con) (c_swap_at : Con) (c_swap_right : Con) (c_law_aq_same : Con) : MS := (mSeq (mApp 6 (mHeard errs hl_law_x04_heard (mCall 2 c_most_apart (mCons (mVar 1) (mCons (mBin fAdd (mTup (mCons (mBin fAdd (mBin fIx (mVar 1) (mC (.int 0))) (mC (.int 1))) mNil)) (mSl (mVar 2) (mSome (mC (.int 1))) mNo)) mNil)))))
  (m_law_x04_apart_right_7 c_law_x04_starts c_law_aw_after c_most_apart c_law_one c_swap_at c_swap_right c_law_aq_same))
def m_law_x04_apart_right_5 (c_law_x04_starts : Con) (c_law_aw_after : Con) (c_most_apart : Con) (c_law_one : Con) (c_swap_at : Con) (c_swap_right : Con) (c_law_aq_same : Con) : MS := (mSeq (mApp 6 (mHeard errs hl_law_x04_heard (mCall 2 c_most_apart (mCons (mVar 3) (mCons (mVar 1) mNil)))))
  (m_law_x04_apart_right_6 c_law_x04_starts c_law_aw_after c_most_apart c_law_one c_swap_at c_swap_right c_law_aq_same))
def m_law_x04_apart_right_4 (c_law_x04_starts : Con) (c_law_aw_after : Con) (c_most_apart : Con) (c_law_one : Con) (c_swap_at : Con) (c_swap_right : Con) (c_law_aq_same : Con) : MS := (mSeq (mSetF 6 (mDisp (mCons (mHeard errs hl_law_x04_heard (mCall 2 c_most_apart (mCons (mVar 1) (mCons (mVar 3) mNil)))) mNil)))
  (m_law_x04_apart_right_5 c_law_x04_starts c_law_aw_after c_most_apart c_law_one c_swap_at c_swap_right c_law_aq_same))
def m_law_x04_apart_right_3 (c_law_x04_starts : Con) (c_law_aw_after : Con) (c_most_apart : Con) (c_law_one : Con) (c_swap_at : Con) (c_swap_right : Con) (c_law_aq_same : Con) : MS := (mSeq (mIfS (mOrT (mBinT fNe (mBin fIsN (mBin fIx (mVar 1) (mC (.int 1))) (mC .non)) (mBin fIsN (mBin fIx (mVar 3) (mC (.int 1))) (mC .non))) (mBinT fNe (mBin fIsN (mBin fIx (mVar 1) (mC (.int 2))) (mC .non)) (mBin fIsN (mBin fIx (mVar 3) (mC (.int 2))) (mC .non)))) (mSet 5 (mM (mC .non))) mPass)
  (m_law_x04_apart_right_4 c_law_x04_starts c_law_aw_after c_most_apart c_law_one c_swap_at c_swap_right c_law_aq_same))
def m_law_x04_apart_right_2 (c_law_x04_starts : Con) (c_law_aw_after : Con) (c_most_apart : Con) (c_law_one : Con) (c_swap_at : Con) (c_swap_right : Con) (c_law_aq_same : Con) : MS := (mSeq (mSet 5 (mM (mPrim fMax1 (mCons (mLst (mComp [9] (mIt (mVar 4)) (bN 9) mYes (mPrim fAbs (mCons (mBin fSub (mCall 2 c_law_aw_after (mCons (mVar 1) (mCons (mVar 9) mNil))) (mCall 2 c_law_aw_after (mCons (mVar 3) (mCons (mVar 9) mNil)))) mNil)))) mNil))))
  (m_law_x04_apart_right_3 c_law_x04_starts c_law_aw_after c_most_apart c_law_one c_swap_at c_swap_right c_law_aq_same))
def m_law_x04_apart_right_1 (c_law_x04_starts : Con) (c_law_aw_after : Con) (c_most_apart : Con) (c_law_one : Con) (c_swap_at : Con) (c_swap_right : Con) (c_law_aq_same : Con) : MS := (mSeq (mSet 4 (mM (mCall 1 c_law_x04_starts (mCons (mLst (mDisp (mCons (mVar 1) (mCons (mVar 3) mNil)))) mNil))))
  (m_law_x04_apart_right_2 c_law_x04_starts c_law_aw_after c_most_apart c_law_one c_swap_at c_swap_right c_law_aq_same))
def m_law_x04_apart_right (c_law_x04_starts : Con) (c_law_aw_after : Con) (c_most_apart : Con) (c_law_one : Con) (c_swap_at : Con) (c_swap_right : Con) (c_law_aq_same : Con) : MS := (mSeq (mSet 3 (mM (mBin fAdd (mTup (mCons (mBin fIx (mVar 1) (mC (.int 0))) mNil)) (mSl (mVar 2) (mSome (mC (.int 1))) mNo))))
  (m_law_x04_apart_right_1 c_law_x04_starts c_law_aw_after c_most_apart c_law_one c_swap_at c_swap_right c_law_aq_same))
theorem d_law_x04_apart_right (Hd : HD wd K mg base h) {c_law_x04_starts : Con} (F_law_x04_starts : FnP Pr wd K mg base (tabsT K tf) "_law_x04_starts" 1 1 c_law_x04_starts) {c_law_aw_after : Con} (F_law_aw_after : FnP Pr wd K mg base (tabsT K tf) "_law_aw_after" 2 1 c_law_aw_after) {c_most_apart : Con} (F_most_apart : FnP Pr wd K mg base (tabsT K tf) "most_apart" 2 4 c_most_apart) {c_law_one : Con} (F_law_one : FnP Pr wd K mg base (tabsT K tf) "_law_one" 2 2 c_law_one) {c_swap_at : Con} (F_swap_at : FnP Pr wd K mg base (tabsT K tf) "swap_at" 2 4 c_swap_at) {c_swap_right : Con} (F_swap_right : FnP Pr wd K mg base (tabsT K tf) "swap_right" 3 4 c_swap_right) {c_law_aq_same : Con} (F_law_aq_same : FnP Pr wd K mg base (tabsT K tf) "_law_aq_same" 2 2 c_law_aq_same) (F_law_x04_heard : HeardP Pr wd K mg base "_law_x04_heard" errs hl_law_x04_heard) {f c : Addr} {A : Around} {outer : List Env} {s : Shared} {H : Hp} {Ex : XK} {oc : Value} {od : Option Addr} {osl : Array (Option Value)} {fd : FuncData} (lk : K.lookup (He.fAd K ("_law_x04_apart_right", none)) = some ⟨oc, od, .func fd, osl⟩) (ec : fd.code = .ref c) (hr : Room 6 (A.deeper (envOfC "_law_x04_apart_right" (defScope st_law_x04_apart_right) s.heap.objs.size f (.ref c)))) :
    SSs (cxOf (L2.CX Pr wd) Pr wd K mg base ["jar", "first", "second", "other", "some", "owed", "found", "bad", "at", "x"] "_law_x04_apart_right" (defScope st_law_x04_apart_right) f (.ref c) A outer s H Ex) (tabsT K tf) (fun cls d _ H => Ex cls d H) (defBody st_law_x04_apart_right) (m_law_x04_apart_right c_law_x04_starts c_law_aw_after c_most_apart c_law_one c_swap_at c_swap_right c_law_aq_same) := by
  have nd := sc_law_x04_apart_right.nd
  exact (ss_cons (ss_set 3 (SE.m (s_add (SE.w (s_tup (sa_cons (s_ix (SE.w (s_var 1)) (SE.w s_int)) sa_nil))) (SE.w (s_sl (SE.w (s_var 2)) (so_some s_int) so_no)))) nd)
  (ss_cons (ss_set 4 (SE.m (s_call F_law_x04_starts tk_of (Room.mono hr (by decide)) (sa_cons (SEf.s (s_list (sa_cons (s_var 1) (sa_cons (s_var 3) sa_nil)))) sa_nil))) nd)
  (ss_cons (ss_set 5 (SE.m (s_max1 rfl (Hd.free 40) (saw_cons (SE.w (SEf.s (sf_comp rfl nd (siw_seq (SE.w (s_var 4))) (blkOk_by (own := [("x", 9)]) (by kernel_rfl)) (by decide) (fun _ _ _ _ _ => (sb_name 9 nd)) (fun _ _ _ _ _ => sts_nil) (fun _ _ _ _ _ => (s_abs (Hd.free 41) (saw_cons (SE.w (s_sub (SE.w (s_call F_law_aw_after LamX.takes0 (Room.mono hr (by decide)) (sa_cons (s_var 1) (sa_cons (s_var 9) sa_nil)))) (SE.w (s_call F_law_aw_after LamX.takes0 (Room.mono hr (by decide)) (sa_cons (s_var 3) (sa_cons (s_var 9) sa_nil)))))) saw_nil)))))) saw_nil))) nd)
  (ss_cons (ss_if (STw.t (tw_or (t_ne (hu64 hr) (SE.w (s_is (SE.w (s_ix (SE.w (s_var 1)) (SE.w s_int))) (SE.w s_non))) (SE.w (s_is (SE.w (s_ix (SE.w (s_var 3)) (SE.w s_int))) (SE.w s_non)))) (tw_or1 (t_ne (hu64 hr) (SE.w (s_is (SE.w (s_ix (SE.w (s_var 1)) (SE.w s_int))) (SE.w s_non))) (SE.w (s_is (SE.w (s_ix (SE.w (s_var 3)) (SE.w s_int))) (SE.w s_non))))))) (ss_one (ss_set 5 (SE.m s_non) nd)) ss_nil)
  (ss_cons (ss_setF 6 (s_list (sa_cons (s_heard F_law_x04_heard (Hd.lamM (List.mem_of_getElem? (i := 1) rfl) rfl rfl rfl lk ec rfl rfl) (Room.mono hr (by decide)) (k := 4) (fun _ _ _ _ _ _ _ hr1 => (s_call F_most_apart (takes_of rfl rfl rfl rfl) (Room.mono hr1 (by decide)) (sa_cons (s_var 1) (sa_cons (s_var 3) sa_nil)))) rfl (LamX.lamS_by (by kernel_rfl))) sa_nil)) nd)
  (ss_cons (ss_app 6 (s_heard F_law_x04_heard (Hd.lamM (List.mem_of_getElem? (i := 1) rfl) rfl rfl rfl lk ec rfl rfl) (Room.mono hr (by decide)) (k := 4) (fun _ _ _ _ _ _ _ hr1 => (s_call F_most_apart (takes_of rfl rfl rfl rfl) (Room.mono hr1 (by decide)) (sa_cons (s_var 3) (sa_cons (s_var 1) sa_nil)))) rfl (LamX.lamS_by (by kernel_rfl))))
  (ss_cons (ss_app 6 (s_heard F_law_x04_heard (Hd.lamM (List.mem_of_getElem? (i := 1) rfl) rfl rfl rfl lk ec rfl rfl) (Room.mono hr (by decide)) (k := 4) (fun _ _ _ _ _ _ _ hr1 => (s_call F_most_apart (takes_of rfl rfl rfl rfl) (Room.mono hr1 (by decide)) (sa_cons (s_var 1) (sa_cons (s_add (SE.w (s_tup (sa_cons (s_add (SE.w (s_ix (SE.w (s_var 1)) (SE.w s_int))) (SE.w s_int)) sa_nil))) (SE.w (s_sl (SE.w (s_var 2)) (so_some s_int) so_no))) sa_nil)))) rfl (LamX.lamS_by (by kernel_rfl))))
  (ss_cons (ss_unp rfl (sg_cons 7 (sg_cons 8 sg_nil nd) nd) (SE.m (s_call F_law_one tk_of (Room.mono hr (by decide)) (sa_cons (s_var 0) (sa_cons (SEf.s (s_list (sa_cons (s_tup (sa_cons s_non (sa_cons (s_neg (SE.w s_int)) sa_nil))) (sa_cons (s_tup (sa_cons (s_tup (sa_cons s_int (sa_cons s_int (sa_cons s_int sa_nil)))) (sa_cons s_int sa_nil))) (sa_cons (s_tup (sa_cons (s_tup (sa_cons s_non (sa_cons s_int (sa_cons s_int sa_nil)))) (sa_cons s_int sa_nil))) (sa_cons (s_tup (sa_cons (s_tup (sa_cons s_int (sa_cons s_bl (sa_cons s_non sa_nil)))) (sa_cons s_int sa_nil))) sa_nil)))))) sa_nil)))))
  (ss_cons (ss_app 6 (s_heard F_law_x04_heard (Hd.lamM (List.mem_of_getElem? (i := 1) rfl) rfl rfl rfl lk ec rfl rfl) (Room.mono hr (by decide)) (k := 4) (fun _ _ _ _ _ _ _ hr1 => (s_call F_most_apart (takes_of rfl rfl rfl rfl) (Room.mono hr1 (by decide)) (sa_cons (s_var 7) (sa_cons s_non sa_nil)))) rfl (LamX.lamS_by (by kernel_rfl))))
  (ss_cons (ss_app 6 (s_heard F_law_x04_heard (Hd.lamM (List.mem_of_getElem? (i := 1) rfl) rfl rfl rfl lk ec rfl rfl) (Room.mono hr (by decide)) (k := 4) (fun _ _ _ _ _ _ _ hr1 => (s_call F_most_apart (takes_of rfl rfl rfl rfl) (Room.mono hr1 (by decide)) (sa_cons (s_var 1) (sa_cons (s_var 7) sa_nil)))) rfl (LamX.lamS_by (by kernel_rfl))))
  (ss_cons (ss_app 6 (s_heard F_law_x04_heard (Hd.lamM (List.mem_of_getElem? (i := 1) rfl) rfl rfl rfl lk ec rfl rfl) (Room.mono hr (by decide)) (k := 4) (fun _ _ _ _ _ _ _ hr1 => (s_call F_swap_at (takes_of rfl rfl rfl rfl) (Room.mono hr1 (by decide)) (sa_cons (s_var 1) (sa_cons (s_var 7) sa_nil)))) rfl (LamX.lamS_by (by kernel_rfl))))
  (ss_cons (ss_app 6 (s_heard F_law_x04_heard (Hd.lamM (List.mem_of_getElem? (i := 1) rfl) rfl rfl rfl lk ec rfl rfl) (Room.mono hr (by decide)) (k := 4) (fun _ _ _ _ _ _ _ hr1 => (s_call F_swap_right (takes_of rfl rfl rfl rfl) (Room.mono hr1 (by decide)) (sa_cons (s_var 7) (sa_cons s_non (sa_cons s_non sa_nil))))) rfl (LamX.lamS_by (by kernel_rfl))))
  (ss_frz 6 (ss_one (ss_ret (SE.m (s_call F_law_aq_same tk_of (Room.mono hr (by decide)) (sa_cons (s_var 6) (sa_cons (s_add (SE.w (SEf.s (s_list (sa_cons (s_tup (sa_cons s_str (sa_cons (s_var 5) sa_nil))) (sa_cons (s_tup (sa_cons s_str (sa_cons (s_var 5) sa_nil))) (sa_cons (s_tup (sa_cons s_str (sa_cons s_int sa_nil))) sa_nil)))))) (SE.w (s_mul (SE.w (SEf.s (s_list (sa_cons (s_tup (sa_cons s_str (sa_cons (s_var 8) sa_nil))) sa_nil)))) (SE.w s_int)))) sa_nil)))))))))))))))))))
theorem ok_law_x04_apart_right (Hd : HD wd K mg base h) {c_law_x04_starts : Con} (F_law_x04_starts : FnP Pr wd K mg base (tabsT K tf) "_law_x04_starts" 1 1 c_law_x04_starts) {c_law_aw_after : Con} (F_law_aw_after : FnP Pr wd K mg base (tabsT K tf) "_law_aw_after" 2 1 c_law_aw_after) {c_most_apart : Con} (F_most_apart : FnP Pr wd K mg base (tabsT K tf) "most_apart" 2 4 c_most_apart) {c_law_one : Con} (F_law_one : FnP Pr wd K mg base (tabsT K tf) "_law_one" 2 2 c_law_one) {c_swap_at : Con} (F_swap_at : FnP Pr wd K mg base (tabsT K tf) "swap_at" 2 4 c_swap_at) {c_swap_right : Con} (F_swap_right : FnP Pr wd K mg base (tabsT K tf) "swap_right" 3 4 c_swap_right) {c_law_aq_same : Con} (F_law_aq_same : FnP Pr wd K mg base (tabsT K tf) "_law_aq_same" 2 2 c_law_aq_same) (F_law_x04_heard : HeardP Pr wd K mg base "_law_x04_heard" errs hl_law_x04_heard) {con : Con} (hm : ∀ ds S Q E, ds.length = 3 → con ds S Q E → m_law_x04_apart_right c_law_x04_starts c_law_aw_after c_most_apart c_law_one c_swap_at c_swap_right c_law_aq_same (startR 10 ds) S (retE Q E)) : FnP Pr wd K mg base (tabsT K tf) "_law_x04_apart_right" 3 7 con := by
  obtain ⟨fd, F⟩ := Hd.fun_ 27 (d := dd_law_x04_apart_right)
  obtain ⟨oc, od, osl, lk⟩ := FunD.lkc F
  exact fn_okC F (Hd.glo 26) (FunD.bindsN (ps := ["jar", "first", "second"]) F fun _ _ _ _ _ _ us hl => match us, hl with | [_, _, _], _ => rfl) sc_law_x04_apart_right (by decide) (fun c A outer s H Ex ec hr => d_law_x04_apart_right Hd F_law_x04_starts F_law_aw_after F_most_apart F_law_one F_swap_at F_swap_right F_law_aq_same F_law_x04_heard lk ec hr) hm
/-! _law_x04_whole -/
theorem sc_law_x04_whole : FnScope ["jar", "go", "found", "up", "down", "first", "second"] ["jar"] (defScope st_law_x04_whole) := ⟨rfl, rfl, rfl, by decide +kernel, rfl, by decide +kernel, by decide +kernel⟩
def m_law_x04_whole_5 (c_law_x04_draw : Con) (c_law_x04_apart_right : Con) (c_law_x04_swap_right : Con) (c_swap_at : Con) (c_swap_right : Con) (c_most_apart : Con) (c_law_aq_same : Con) : MS := (mFrz 2 (mRet (mM (mCall 2 c_law_aq_same (mCons (mVar 2) (mCons (mLst (mDisp (mCons (mC (.bl true)) (mCons (mC (.bl false)) (mCons (mC .non) (mCons (mC .non) (mCons (mC (.int 3)) (mCons (mC (.int 4)) (mCons (mC .non) (mCons (mBin fMul (mC (.int 2)) (mBin fPow (mC (.int 10)) (mC (.int 15)))) mNil)))))))))) mNil))))))
def m_law_x04_whole_4 (c_law_x04_draw : Con) (c_law_x04_apart_right : Con) (c_law_x04_swap_right : Con) (c_swap_at : Con) (c_swap_right : Con) (c_most_apart : Con) (c_law_aq_same : Con) : MS := (mSeq (mApp 2 (mCall 2 c_most_apart (mCons (mTup (mCons (mC (.int 1)) (mCons (mUn fNeg (mBin fPow (mC (.int 10)) (mC (.int 15)))) (mCons (mC .non) mNil)))) (mCons (mTup (mCons (mC (.int 1)) (mCons (mBin fPow (mC (.int 10)) (mC (.int 15))) (mCons (mC .non) mNil)))) mNil))))
  (m_law_x04_whole_5 c_law_x04_draw c_law_x04_apart_right c_law_x04_swap_right c_swap_at c_swap_right c_most_apart c_law_aq_same))
def m_law_x04_whole_3 (c_law_x04_draw : Con) (c_law_x04_apart_right : Con) (c_law_x04_swap_right : Con) (c_swap_at : Con) (c_swap_right : Con) (c_most_apart : Con) (c_law_aq_same : Con) : MS := (mSeq (mExt 2 (mLst (mDisp (mCons (mCall 2 c_most_apart (mCons (mTup (mCons (mC (.int 0)) (mCons (mC .non) (mCons (mC (.int 5)) mNil)))) (mCons (mTup (mCons (mC (.int 0)) (mCons (mC .non) (mCons (mC (.int 2)) mNil)))) mNil))) (mCons (mCall 2 c_most_apart (mCons (mTup (mCons (mC (.int 0)) (mCons (mC (.int 5)) (mCons (mC (.int 5)) mNil)))) (mCons (mTup (mCons (mC (.int 0)) (mCons (mC (.int 1)) (mCons (mC (.int 8)) mNil)))) mNil))) (mCons (mCall 2 c_most_apart (mCons (mTup (mCons (mC (.int 0)) (mCons (mC (.int 0)) (mCons (mC .non) mNil)))) (mCons (mTup (mCons (mC (.int 0)) (mCons (mC .non) (mCons (mC .non) mNil)))) mNil))) mNil))))))
  (m_law_x04_whole_4 c_law_x04_draw c_law_x04_apart_right c_law_x04_swap_right c_swap_at c_swap_right c_most_apart c_law_aq_same))
def m_law_x04_whole_2 (c_law_x04_draw : Con) (c_law_x04_apart_right : Con) (c_law_x04_swap_right : Con) (c_swap_at : Con) (c_swap_right : Con) (c_most_apart : Con) (c_law_aq_same : Con) : MS := (mSeq (mSetF 2 (mDisp (mCons (mCall 3 c_swap_right (mCons (mVar 3) (mCons (mVar 4) (mCons (mC (.int 3)) mNil)))) (mCons (mCall 3 c_swap_right (mCons (mVar 3) (mCons (mVar 4) (mCons (mC (.int 2)) mNil)))) (mCons (mCall 2 c_swap_at (mCons (mTup (mCons (mC (.int 0)) (mCons (mC (.int 5)) (mCons (mC (.int 5)) mNil)))) (mCons (mTup (mCons (mC (.int 7)) (mCons (mC (.int 5)) (mCons (mC (.int 5)) mNil)))) mNil))) (mCons (mCall 2 c_swap_at (mCons (mTup (mCons (mC (.int 3)) (mCons (mC .non) (mCons (mC (.int 10)) mNil)))) (mCons (mTup (mCons (mC (.int 0)) (mCons (mC .non) (mCons (mC .non) mNil)))) mNil))) mNil))))))
  (m_law_x04_whole_3 c_law_x04_draw c_law_x04_apart_right c_law_x04_swap_right c_swap_at c_swap_right c_most_apart c_law_aq_same))
def m_law_x04_whole_1 (c_law_x04_draw : Con) (c_law_x04_apart_right : Con) (c_law_x04_swap_right : Con) (c_swap_at : Con) (c_swap_right : Con) (c_most_apart : Con) (c_law_aq_same : Con) : MS := (mSeq (mUnp [3, 4] (mM (mTup (mCons (mTup (mCons (mC (.int 3)) (mCons (mC .non) (mCons (mC (.int 5)) mNil)))) (mCons (mTup (mCons (mUn fNeg (mC (.int 3))) (mCons (mC .non) (mCons (mC .non) mNil)))) mNil)))))
  (m_law_x04_whole_2 c_law_x04_draw c_law_x04_apart_right c_law_x04_swap_right c_swap_at c_swap_right c_most_apart c_law_aq_same))
def m_law_x04_whole (c_law_x04_draw : Con) (c_law_x04_apart_right : Con) (c_law_x04_swap_right : Con) (c_swap_at : Con) (c_swap_right : Con) (c_most_apart : Con) (c_law_aq_same : Con) : MS := (mSeq (mFor (mRng1 (mC (.int 50))) (bN 1) (mSeq (mPar 5 6 (mCons (mCall 1 c_law_x04_draw (mCons (mVar 0) mNil)) (mCons (mCall 1 c_law_x04_draw (mCons (mVar 0) mNil)) mNil)))
  (mIfS (mOrT (mNotT (mT (mCall 3 c_law_x04_swap_right (mCons (mVar 0) (mCons (mVar 5) (mCons (mVar 6) mNil)))))) (mNotT (mT (mCall 3 c_law_x04_apart_right (mCons (mVar 0) (mCons (mVar 5) (mCons (mVar 6) mNil))))))) (mRet (mM (mC (.bl false)))) mPass)))
  (m_law_x04_whole_1 c_law_x04_draw c_law_x04_apart_right c_law_x04_swap_right c_swap_at c_swap_right c_most_apart c_law_aq_same))
theorem d_law_x04_whole (Hd : HD wd K mg base h) {c_law_x04_draw : Con} (F_law_x04_draw : FnP Pr wd K mg base (tabsT K tf) "_law_x04_draw" 1 4 c_law_x04_draw) {c_law_x04_apart_right : Con} (F_law_x04_apart_right : FnP Pr wd K mg base (tabsT K tf) "_law_x04_apart_right" 3 7 c_law_x04_apart_right) {c_law_x04_swap_right : Con} (F_law_x04_swap_right : FnP Pr wd K mg base (tabsT K tf) "_law_x04_swap_right" 3 7 c_law_x04_swap_right) {c_swap_at : Con} (F_swap_at : FnP Pr wd K mg base (tabsT K tf) "swap_at" 2 4 c_swap_at) {c_swap_right : Con} (F_swap_right : FnP Pr wd K mg base (tabsT K tf) "swap_right" 3 4 c_swap_right) {c_most_apart : Con} (F_most_apart : FnP Pr wd K mg base (tabsT K tf) "most_apart" 2 4 c_most_apart) {c_law_aq_same : Con} (F_law_aq_same : FnP Pr wd K mg base (tabsT K tf) "_law_aq_same" 2 2 c_law_aq_same) {f c : Addr} {A : Around} {outer : List Env} {s : Shared} {H : Hp} {Ex : XK} (hr : Room 7 (A.deeper (envOfC "_law_x04_whole" (defScope st_law_x04_whole) s.heap.objs.size f (.ref c)))) :
    SSs (cxOf (L2.CX Pr wd) Pr wd K mg base ["jar", "go", "found", "up", "down", "first", "second"] "_law_x04_whole" (defScope st_law_x04_whole) f (.ref c) A outer s H Ex) (tabsT K tf) (fun cls d _ H => Ex cls d H) (defBody st_law_x04_whole) (m_law_x04_whole c_law_x04_draw c_law_x04_apart_right c_law_x04_swap_right c_swap_at c_swap_right c_most_apart c_law_aq_same) := by
  have nd := sc_law_x04_whole.nd
  exact (ss_cons (ss_for po_of rfl (si_range1 (Hd.free 42) s_int) (sb_name 1 nd) (ss_cons (ss_par 5 6 rfl nd (sa_cons (s_call F_law_x04_draw tk_of (Room.mono hr (by decide)) (sa_cons (s_var 0) sa_nil)) (sa_cons (s_call F_law_x04_draw tk_of (Room.mono hr (by decide)) (sa_cons (s_var 0) sa_nil)) sa_nil)))
  (ss_one (ss_if (STw.t (tw_or (t_not (t_val (s_call F_law_x04_swap_right tk_of (Room.mono hr (by decide)) (sa_cons (s_var 0) (sa_cons (s_var 5) (sa_cons (s_var 6) sa_nil)))))) (tw_or1 (t_not (t_val (s_call F_law_x04_apart_right tk_of (Room.mono hr (by decide)) (sa_cons (s_var 0) (sa_cons (s_var 5) (sa_cons (s_var 6) sa_nil))))))))) (ss_one (ss_ret (SE.m s_bl))) ss_nil))))
  (ss_cons (ss_unp rfl (sg_cons 3 (sg_cons 4 sg_nil nd) nd) (SE.m (s_tup (sa_cons (s_tup (sa_cons s_int (sa_cons s_non (sa_cons s_int sa_nil)))) (sa_cons (s_tup (sa_cons (s_neg (SE.w s_int)) (sa_cons s_non (sa_cons s_non sa_nil)))) sa_nil)))))
  (ss_cons (ss_setF 2 (s_list (sa_cons (s_call F_swap_right tk_of (Room.mono hr (by decide)) (sa_cons (s_var 3) (sa_cons (s_var 4) (sa_cons s_int sa_nil)))) (sa_cons (s_call F_swap_right tk_of (Room.mono hr (by decide)) (sa_cons (s_var 3) (sa_cons (s_var 4) (sa_cons s_int sa_nil)))) (sa_cons (s_call F_swap_at tk_of (Room.mono hr (by decide)) (sa_cons (s_tup (sa_cons s_int (sa_cons s_int (sa_cons s_int sa_nil)))) (sa_cons (s_tup (sa_cons s_int (sa_cons s_int (sa_cons s_int sa_nil)))) sa_nil))) (sa_cons (s_call F_swap_at tk_of (Room.mono hr (by decide)) (sa_cons (s_tup (sa_cons s_int (sa_cons s_non (sa_cons s_int sa_nil)))) (sa_cons (s_tup (sa_cons s_int (sa_cons s_non (sa_cons s_non sa_nil)))) sa_nil))) sa_nil))))) nd)
  (ss_cons (ss_ext 2 (SE.w (SEf.s (s_list (sa_cons (s_call F_most_apart tk_of (Room.mono hr (by decide)) (sa_cons (s_tup (sa_cons s_int (sa_cons s_non (sa_cons s_int sa_nil)))) (sa_cons (s_tup (sa_cons s_int (sa_cons s_non (sa_cons s_int sa_nil)))) sa_nil))) (sa_cons (s_call F_most_apart tk_of (Room.mono hr (by decide)) (sa_cons (s_tup (sa_cons s_int (sa_cons s_int (sa_cons s_int sa_nil)))) (sa_cons (s_tup (sa_cons s_int (sa_cons s_int (sa_cons s_int sa_nil)))) sa_nil))) (sa_cons (s_call F_most_apart tk_of (Room.mono hr (by decide)) (sa_cons (s_tup (sa_cons s_int (sa_cons s_int (sa_cons s_non sa_nil)))) (sa_cons (s_tup (sa_cons s_int (sa_cons s_non (sa_cons s_non sa_nil)))) sa_nil))) sa_nil)))))))
  (ss_cons (ss_app 2 (s_call F_most_apart tk_of (Room.mono hr (by decide)) (sa_cons (s_tup (sa_cons s_int (sa_cons (s_neg (SE.w (s_pow (SE.w s_int) (SE.w s_int)))) (sa_cons s_non sa_nil)))) (sa_cons (s_tup (sa_cons s_int (sa_cons (s_pow (SE.w s_int) (SE.w s_int)) (sa_cons s_non sa_nil)))) sa_nil))))
  (ss_frz 2 (ss_one (ss_ret (SE.m (s_call F_law_aq_same tk_of (Room.mono hr (by decide)) (sa_cons (s_var 2) (sa_cons (SEf.s (s_list (sa_cons s_bl (sa_cons s_bl (sa_cons s_non (sa_cons s_non (sa_cons s_int (sa_cons s_int (sa_cons s_non (sa_cons (s_mul (SE.w s_int) (SE.w (s_pow (SE.w s_int) (SE.w s_int)))) sa_nil)))))))))) sa_nil))))))))))))
theorem ok_law_x04_whole (Hd : HD wd K mg base h) {c_law_x04_draw : Con} (F_law_x04_draw : FnP Pr wd K mg base (tabsT K tf) "_law_x04_draw" 1 4 c_law_x04_draw) {c_law_x04_apart_right : Con} (F_law_x04_apart_right : FnP Pr wd K mg base (tabsT K tf) "_law_x04_apart_right" 3 7 c_law_x04_apart_right) {c_law_x04_swap_right : Con} (F_law_x04_swap_right : FnP Pr wd K mg base (tabsT K tf) "_law_x04_swap_right" 3 7 c_law_x04_swap_right) {c_swap_at : Con} (F_swap_at : FnP Pr wd K mg base (tabsT K tf) "swap_at" 2 4 c_swap_at) {c_swap_right : Con} (F_swap_right : FnP Pr wd K mg base (tabsT K tf) "swap_right" 3 4 c_swap_right) {c_most_apart : Con} (F_most_apart : FnP Pr wd K mg base (tabsT K tf) "most_apart" 2 4 c_most_apart) {c_law_aq_same : Con} (F_law_aq_same : FnP Pr wd K mg base (tabsT K tf) "_law_aq_same" 2 2 c_law_aq_same) {con : Con} (hm : ∀ ds S Q E, ds.length = 1 → con ds S Q E → m_law_x04_whole c_law_x04_draw c_law_x04_apart_right c_law_x04_swap_right c_swap_at c_swap_right c_most_apart c_law_aq_same (startR 7 ds) S (retE Q E)) : FnP Pr wd K mg base (tabsT K tf) "_law_x04_whole" 1 8 con := by
  obtain ⟨fd, F⟩ := Hd.fun_ 28 (d := dd_law_x04_whole)
  obtain ⟨oc, od, osl, lk⟩ := FunD.lkc F
  exact fn_okC F (Hd.glo 27) (FunD.bindsN (ps := ["jar"]) F fun _ _ _ _ _ _ us hl => match us, hl with | [_], _ => rfl) sc_law_x04_whole (by decide) (fun c A outer s H Ex ec hr => d_law_x04_whole Hd F_law_x04_draw F_law_x04_apart_right F_law_x04_swap_right F_swap_at F_swap_right F_most_apart F_law_aq_same hr) hm
/-! law -/
theorem sc_law : FnScope ["script"] ["script"] (defScope st_law) := ⟨rfl, rfl, rfl, by decide +kernel, rfl, by decide +kernel, by decide +kernel⟩
def m_law (c_law_x04_whole : Con) (c_law_pool : Con) : MS := (mThru (mRet (mM (mCall 1 c_law_x04_whole (mCons (mCall 1 c_law_pool (mCons (mVar 0) mNil)) mNil)))))
theorem d_law (Hd : HD wd K mg base h) {c_law_x04_whole : Con} (F_law_x04_whole : FnP Pr wd K mg base (tabsT K tf) "_law_x04_whole" 1 8 c_law_x04_whole) {c_law_pool : Con} (F_law_pool : FnP Pr wd K mg base (tabsT K tf) "_law_pool" 1 1 c_law_pool) {f c : Addr} {A : Around} {outer : List Env} {s : Shared} {H : Hp} {Ex : XK} (hr : Room 8 (A.deeper (envOfC "law" (defScope st_law) s.heap.objs.size f (.ref c)))) :
    SSs (cxOf (L2.CX Pr wd) Pr wd K mg base ["script"] "law" (defScope st_law) f (.ref c) A outer s H Ex) (tabsT K tf) (fun cls d _ H => Ex cls d H) (defBody st_law) (m_law c_law_x04_whole c_law_pool) := by
  have nd := sc_law.nd
  exact (ss_one (ss_thru (ss_one (ss_ret (SE.m (s_call F_law_x04_whole LamX.takes0 (Room.mono hr (by decide)) (sa_cons (s_call F_law_pool LamX.takes0 (Room.mono hr (by decide)) (sa_cons (s_var 0) sa_nil)) sa_nil)))))))
end
end LK04

set_option Elab.async false
set_option linter.all false
set_option maxRecDepth 100000
set_option maxHeartbeats 0
/-! the head of answersstacked_k04_changes_swapped: printed by gen.py -/
namespace LK04
open PySem PySem.Spec PyProof.Rows L2 TL
def loose0 : List Str := ["Refused", "BadChange", "Unlike", "whole", "TRIPLE", "wrong_change", "after_of", "made_change", "joined_of", "bends", "far_starts", "breaks", "apart_of", "swap_at", "swap_right", "most_apart", "_law_pool", "_law_take", "_law_one", "_law_aw_is_number", "_law_aw_after", "_law_aw_joined", "_law_aw_change", "_law_aw_great", "_law_aq_is_whole", "_law_aq_same", "_law_x04_heard", "_law_x04_draw", "_law_x04_starts", "_law_x04_swap_right", "_law_x04_apart_right", "_law_x04_whole"]
def loose : List Str := loose0
abbrev Rl : PySem.W.OpenLaw := PySem.Challenge.rw_answersstacked_k04_changes_swapped
abbrev R : PySem.W.OpenRow := PySem.W.OpenLaw.row Rl
abbrev ex : KF → Bool := exB "Refused" errs xs tf cts
abbrev hk : PySem.W.Hook := He.hookX 6 fa fn [] tf ex
def ob (s : PySem.W.SharedT) : He.AlX := He.obsX 6 fa fn [] tf ex (HandSHeadRun.getT s)
theorem ob_eq (s : PySem.W.SharedT) : ob s = hk.obs s.abs := He.obsX_eq (HandSHeadRun.getT_eq s)
theorem run (w : World) : HandSHeadRun.RunEq R (PySem.W.view R.prog [37]) hk ob 4000 loose w := by
  intro os
  kernel_rfl
theorem cx_no {P : Program} {w : World} {outer : List Env} {H : Hp} {s : Shared} {e : Value} {s' : Shared} (z : L2.CX P w outer H s (fun _ _ _ => False) e s') : False := by
  obtain ⟨_, _, _, _, _, _, _, _, _, _, _, _, z⟩ := z
  exact z
open PySem PySem.W PySem.Calls PyProof.Rows in
theorem holds {c_law_x04_whole c_law_pool : Con} (F_law_x04_whole : ∀ {wd : World} {K : KF} {mg : Str → Option Value} {base h : Heap}, HD wd K mg base h → FnP Pr wd K mg base (tabsT K tf) "_law_x04_whole" 1 8 c_law_x04_whole) (F_law_pool : ∀ {wd : World} {K : KF} {mg : Str → Option Value} {base h : Heap}, HD wd K mg base h → FnP Pr wd K mg base (tabsT K tf) "_law_pool" 1 1 c_law_pool)
    (hm : ∀ ds S Q E, ds.length = 1 → lawCon ds S Q E → m_law c_law_x04_whole c_law_pool (startR 1 ds) S (retE Q E)) : Rl.Holds := by
  w_on; o_law
  refine HandSHeadRun.head_any (r := R) (q := view R.prog [37]) (H := hk) (ob := ob) (M := 4000) (loose := loose) (d := HandSHeadRun.topDef R.prog 37) (kwd := []) ob_eq
    (by kernel_rfl) (fun s => by kernel_rfl) run (by kernel_rfl) (by kernel_rfl) (by kernel_rfl) (by rfl) (by first | assumption | decide +kernel) (by decide +kernel) ⟨rfl, rfl, rfl, rfl, rfl, by decide +kernel⟩ ?hw ?hc
  case hw => w_witness2
  case hc =>
    refine LamX.walk_ofTsE (l := Rl) (n := 63) (k := 9) (x := "script") (CX := fun w => L2.CX Rl.prog w) rfl (by decide) (by kernel_rfl) ⟨rfl, by decide, by decide⟩ ?F (fun w H s e s' z => cx_no z)
    intro w mg fa h Y G hmg0
    obtain ⟨K, KX, c⟩ := Y
    have hmg : mg ("law" : PySem.Str) = some (.ref fa) := by
      have e : (HandSHeadRun.topDef R.prog 37).name = ("law" : PySem.Str) := by kernel_rfl
      rw [← e]
      exact hmg0
    have e := hmg.symm.trans (He.glo_ok KX G (c.t.d.fact 28 (f := .glo "law") rfl))
    cases e
    exact ⟨K, KX, law_atS 29 (d := dd_law) rfl rfl rfl c KX G (fun _ _ _ _ _ _ us hl => match us, hl with | [_], _ => rfl) fun fd base Hd F => fn_okF (N := ["script"]) (ps := ["script"]) (k := 8) F sc_law (by decide) (fun c A outer s H Ex ec hr => d_law Hd (F_law_x04_whole Hd) (F_law_pool Hd) hr) hm⟩
end LK04

set_option Elab.async false
set_option linter.all false
set_option maxRecDepth 100000
set_option maxHeartbeats 4000000
namespace LK04
open PySem PySem.Spec PyProof.Rows L2 TL

/-! ### the program's -/
theorem ne_ab {a b : Int} (h : a ≠ b) : (!decide (a = b)) = true := by simp [h]
theorem ne_no {a b : Int} (h : a = b) : (!decide (a = b)) = false := by simp [h]
/-- swap_at: where the two orders part -/
def c_swap_at : Con := fun ds S Q E => match ds with
  | [a, b] => a.okE 40 = true ∧ match fault a with
    | some i => E "BadChange" (.int i) S
    | none => b.okE 40 = true ∧ match fault b with
      | some i => E "BadChange" (.int i) S
      | none => (joinD a b = joinD b a → Q .non S) ∧ ∀ x, aft (joinD a b) x ≠ aft (joinD b a) x → Q (.int x) S
  | _ => False
theorem join_sh {a b : D} (ha : fault a = none) (hb : fault b = none) : shI (joinD a b) = shI a + shI b := by
  obtain ⟨s, f, c, rfl, _⟩ := fault_none ha
  obtain ⟨t, g, e, rfl, _⟩ := fault_none hb
  rfl
theorem h_swap_at (ds : List D) (S : Store) (Q : EK) (E : XKd) (hn : ds.length = 2) (h : c_swap_at ds S Q E) : m_swap_at c_made_change c_joined_of c_breaks c_aft (startR 5 ds) S (retE Q E) := by
  unfold c_swap_at at h
  split at h
  · rename_i a b
    obtain ⟨oka, h⟩ := h
    try simp only [m_swap_at, c_made_change, mSeq, mSet, mM, mCall, mCons, mNil, mVar, mVarW, mC, mIfS, mIf, mRet, mRetN, mExpr, mPass, mRaise, mUnp, mPar, mPar2F, mSetF, mFrz, mApp, mExt, mPop, mSetIx, mBin, mBinT, mUn, mPrim, mT, mAndT, mOrT, mNotT, mAndV, mOrV, mNotV, mIsi, mLst, mDisp, mTup, mCell, mSl, mNo, mSome, mIt, mRng1, mRng2, mFor, mComp, mYes, mThru, mHeard, mBrk, mCont, mCh, mChT, mCh3, mCat, fAdd, fSub, fMul, fDiv, fMod, fPow, fNeg, fLt, fLe, fGt, fGe, fIsN, fNotN, fEq, fNe, fIn, fNin, fIx, fSl, fLen, fInt, fMax2, fMin2, fAbs, fList, fTuple, svK, svKw, sget, sset, startR, retE, isB, ownK, lstK, intK, seqK, unpT, setK, svOk, bN, bT, sputs, isN_non, isN_bl, isN_int, isN_str, isN_tup, isN_lst, isN_klst, if_true, if_false, Bool.false_eq_true, reduceIte, Bool.not_true, Bool.not_false, decide_true, decide_false, Bool.true_and, Bool.false_and, Bool.and_true, Bool.and_false, Bool.true_or, Bool.false_or, Bool.or_true, Bool.or_false, and_true, true_and, List.length_cons, List.length_nil, List.replicate_succ, List.replicate_zero, Nat.reduceSub]
    refine ⟨oka, ?_⟩
    cases ea : fault a with
    | some i => rw [ea] at h; exact h
    | none =>
      rw [ea] at h
      obtain ⟨okb, h⟩ := h
      try simp only [mSeq, mSet, mM, mCall, mCons, mNil, mVar, mVarW, mC, mIfS, mIf, mRet, mRetN, mExpr, mPass, mRaise, mUnp, mPar, mPar2F, mSetF, mFrz, mApp, mExt, mPop, mSetIx, mBin, mBinT, mUn, mPrim, mT, mAndT, mOrT, mNotT, mAndV, mOrV, mNotV, mIsi, mLst, mDisp, mTup, mCell, mSl, mNo, mSome, mIt, mRng1, mRng2, mFor, mComp, mYes, mThru, mHeard, mBrk, mCont, mCh, mChT, mCh3, mCat, fAdd, fSub, fMul, fDiv, fMod, fPow, fNeg, fLt, fLe, fGt, fGe, fIsN, fNotN, fEq, fNe, fIn, fNin, fIx, fSl, fLen, fInt, fMax2, fMin2, fAbs, fList, fTuple, svK, svKw, sget, sset, startR, retE, isB, ownK, lstK, intK, seqK, unpT, setK, svOk, bN, bT, sputs, isN_non, isN_bl, isN_int, isN_str, isN_tup, isN_lst, isN_klst, if_true, if_false, Bool.false_eq_true, reduceIte, Bool.not_true, Bool.not_false, decide_true, decide_false, Bool.true_and, Bool.false_and, Bool.and_true, Bool.and_false, Bool.true_or, Bool.false_or, Bool.or_true, Bool.or_false, and_true, true_and, List.length_cons, List.length_nil, List.replicate_succ, List.replicate_zero, Nat.reduceSub]
      refine ⟨okb, ?_⟩
      cases eb : fault b with
      | some i => rw [eb] at h; exact h
      | none =>
        rw [eb] at h
        obtain ⟨h1, h2⟩ := h
        have j1 := join_ok ea eb
        have j2 := join_ok eb ea
        try simp only [c_joined_of, c_breaks, mSeq, mSet, mM, mCall, mCons, mNil, mVar, mVarW, mC, mIfS, mIf, mRet, mRetN, mExpr, mPass, mRaise, mUnp, mPar, mPar2F, mSetF, mFrz, mApp, mExt, mPop, mSetIx, mBin, mBinT, mUn, mPrim, mT, mAndT, mOrT, mNotT, mAndV, mOrV, mNotV, mIsi, mLst, mDisp, mTup, mCell, mSl, mNo, mSome, mIt, mRng1, mRng2, mFor, mComp, mYes, mThru, mHeard, mBrk, mCont, mCh, mChT, mCh3, mCat, fAdd, fSub, fMul, fDiv, fMod, fPow, fNeg, fLt, fLe, fGt, fGe, fIsN, fNotN, fEq, fNe, fIn, fNin, fIx, fSl, fLen, fInt, fMax2, fMin2, fAbs, fList, fTuple, svK, svKw, sget, sset, startR, retE, isB, ownK, lstK, intK, seqK, unpT, setK, svOk, bN, bT, sputs, isN_non, isN_bl, isN_int, isN_str, isN_tup, isN_lst, isN_klst, if_true, if_false, Bool.false_eq_true, reduceIte, Bool.not_true, Bool.not_false, decide_true, decide_false, Bool.true_and, Bool.false_and, Bool.and_true, Bool.and_false, Bool.true_or, Bool.false_or, Bool.or_true, Bool.or_false, and_true, true_and, List.length_cons, List.length_nil, List.replicate_succ, List.replicate_zero, Nat.reduceSub]
        refine ⟨⟨ea, eb⟩, ⟨eb, ea⟩, ⟨j1, j2⟩, fun l u => ?_⟩
        generalize hL : brk (joinD a b) (joinD b a) l u = L
        have hs : (∀ x ∈ L, aft (joinD a b) x = aft (joinD b a) x) → joinD a b = joinD b a := fun h => by
          refine brk_same j1 j2 (by rw [join_sh ea eb, join_sh eb ea]; omega) (l := l) (u := u) ?_
          rw [hL]
          exact h
        -- the loop
        refine forD_ix (fun i ρ S1 => S1 = S ∧ (∀ j x, j < i → L[j]? = some x → aft (joinD a b) x = aft (joinD b a) x) ∧ ∃ (s2 : SV), ρ = [.val a, .val b, s2, .val (joinD a b), .val (joinD b a)]) _ 0 (fun i e he ρ S1 hI G' nx ct bk rt ex => ?_) _ _ ⟨rfl, fun j x hj => by omega, _, rfl⟩ (fun ρ S1 hI => ?_)
        · obtain ⟨rfl, hall, s2, rfl⟩ := hI
          obtain ⟨x, hx, rfl⟩ : ∃ x, L[i]? = some x ∧ e = .int x := by
            rw [List.getElem?_map] at he
            cases q : L[i]? with
            | none => rw [q] at he; cases he
            | some x => rw [q] at he; exact ⟨x, rfl, (Option.some.inj he).symm⟩
          try simp only [c_aft, eqD_int, mSeq, mSet, mM, mCall, mCons, mNil, mVar, mVarW, mC, mIfS, mIf, mRet, mRetN, mExpr, mPass, mRaise, mUnp, mPar, mPar2F, mSetF, mFrz, mApp, mExt, mPop, mSetIx, mBin, mBinT, mUn, mPrim, mT, mAndT, mOrT, mNotT, mAndV, mOrV, mNotV, mIsi, mLst, mDisp, mTup, mCell, mSl, mNo, mSome, mIt, mRng1, mRng2, mFor, mComp, mYes, mThru, mHeard, mBrk, mCont, mCh, mChT, mCh3, mCat, fAdd, fSub, fMul, fDiv, fMod, fPow, fNeg, fLt, fLe, fGt, fGe, fIsN, fNotN, fEq, fNe, fIn, fNin, fIx, fSl, fLen, fInt, fMax2, fMin2, fAbs, fList, fTuple, svK, svKw, sget, sset, startR, retE, isB, ownK, lstK, intK, seqK, unpT, setK, svOk, bN, bT, sputs, isN_non, isN_bl, isN_int, isN_str, isN_tup, isN_lst, isN_klst, if_true, if_false, Bool.false_eq_true, reduceIte, Bool.not_true, Bool.not_false, decide_true, decide_false, Bool.true_and, Bool.false_and, Bool.and_true, Bool.and_false, Bool.true_or, Bool.false_or, Bool.or_true, Bool.or_false, and_true, true_and, List.length_cons, List.length_nil, List.replicate_succ, List.replicate_zero, Nat.reduceSub]
          refine ⟨j1, j2, ⟨by simp [D.okE], by simp [D.okE]⟩, ?_⟩
          by_cases q : aft (joinD a b) x = aft (joinD b a) x
          · rw [ne_no q]
            try simp only [mSeq, mSet, mM, mCall, mCons, mNil, mVar, mVarW, mC, mIfS, mIf, mRet, mRetN, mExpr, mPass, mRaise, mUnp, mPar, mPar2F, mSetF, mFrz, mApp, mExt, mPop, mSetIx, mBin, mBinT, mUn, mPrim, mT, mAndT, mOrT, mNotT, mAndV, mOrV, mNotV, mIsi, mLst, mDisp, mTup, mCell, mSl, mNo, mSome, mIt, mRng1, mRng2, mFor, mComp, mYes, mThru, mHeard, mBrk, mCont, mCh, mChT, mCh3, mCat, fAdd, fSub, fMul, fDiv, fMod, fPow, fNeg, fLt, fLe, fGt, fGe, fIsN, fNotN, fEq, fNe, fIn, fNin, fIx, fSl, fLen, fInt, fMax2, fMin2, fAbs, fList, fTuple, svK, svKw, sget, sset, startR, retE, isB, ownK, lstK, intK, seqK, unpT, setK, svOk, bN, bT, sputs, isN_non, isN_bl, isN_int, isN_str, isN_tup, isN_lst, isN_klst, if_true, if_false, Bool.false_eq_true, reduceIte, Bool.not_true, Bool.not_false, decide_true, decide_false, Bool.true_and, Bool.false_and, Bool.and_true, Bool.and_false, Bool.true_or, Bool.false_or, Bool.or_true, Bool.or_false, and_true, true_and, List.length_cons, List.length_nil, List.replicate_succ, List.replicate_zero, Nat.reduceSub]
            refine nx _ _ ⟨rfl, fun j y hj ey => ?_, _, rfl⟩
            by_cases hji : j = i
            · subst hji
              rw [hx] at ey
              cases ey
              exact q
            · exact hall j y (by omega) ey
          · rw [ne_ab q]
            try simp only [mSeq, mSet, mM, mCall, mCons, mNil, mVar, mVarW, mC, mIfS, mIf, mRet, mRetN, mExpr, mPass, mRaise, mUnp, mPar, mPar2F, mSetF, mFrz, mApp, mExt, mPop, mSetIx, mBin, mBinT, mUn, mPrim, mT, mAndT, mOrT, mNotT, mAndV, mOrV, mNotV, mIsi, mLst, mDisp, mTup, mCell, mSl, mNo, mSome, mIt, mRng1, mRng2, mFor, mComp, mYes, mThru, mHeard, mBrk, mCont, mCh, mChT, mCh3, mCat, fAdd, fSub, fMul, fDiv, fMod, fPow, fNeg, fLt, fLe, fGt, fGe, fIsN, fNotN, fEq, fNe, fIn, fNin, fIx, fSl, fLen, fInt, fMax2, fMin2, fAbs, fList, fTuple, svK, svKw, sget, sset, startR, retE, isB, ownK, lstK, intK, seqK, unpT, setK, svOk, bN, bT, sputs, isN_non, isN_bl, isN_int, isN_str, isN_tup, isN_lst, isN_klst, if_true, if_false, Bool.false_eq_true, reduceIte, Bool.not_true, Bool.not_false, decide_true, decide_false, Bool.true_and, Bool.false_and, Bool.and_true, Bool.and_false, Bool.true_or, Bool.false_or, Bool.or_true, Bool.or_false, and_true, true_and, List.length_cons, List.length_nil, List.replicate_succ, List.replicate_zero, Nat.reduceSub]
            rw [rt]
            exact h2 x q
        · obtain ⟨rfl, hall, s2, rfl⟩ := hI
          try simp only [mSeq, mSet, mM, mCall, mCons, mNil, mVar, mVarW, mC, mIfS, mIf, mRet, mRetN, mExpr, mPass, mRaise, mUnp, mPar, mPar2F, mSetF, mFrz, mApp, mExt, mPop, mSetIx, mBin, mBinT, mUn, mPrim, mT, mAndT, mOrT, mNotT, mAndV, mOrV, mNotV, mIsi, mLst, mDisp, mTup, mCell, mSl, mNo, mSome, mIt, mRng1, mRng2, mFor, mComp, mYes, mThru, mHeard, mBrk, mCont, mCh, mChT, mCh3, mCat, fAdd, fSub, fMul, fDiv, fMod, fPow, fNeg, fLt, fLe, fGt, fGe, fIsN, fNotN, fEq, fNe, fIn, fNin, fIx, fSl, fLen, fInt, fMax2, fMin2, fAbs, fList, fTuple, svK, svKw, sget, sset, startR, retE, isB, ownK, lstK, intK, seqK, unpT, setK, svOk, bN, bT, sputs, isN_non, isN_bl, isN_int, isN_str, isN_tup, isN_lst, isN_klst, if_true, if_false, Bool.false_eq_true, reduceIte, Bool.not_true, Bool.not_false, decide_true, decide_false, Bool.true_and, Bool.false_and, Bool.and_true, Bool.and_false, Bool.true_or, Bool.false_or, Bool.or_true, Bool.or_false, and_true, true_and, List.length_cons, List.length_nil, List.replicate_succ, List.replicate_zero, Nat.reduceSub]
          refine h1 (hs fun x hx => ?_)
          obtain ⟨j, hj, ej⟩ := List.mem_iff_getElem.mp hx
          exact hall j x (by simpa using hj) (by rw [List.getElem?_eq_getElem hj, ej])
  · exact h.elim
/-- swap_right: whether the two orders part there -/
def c_swap_right : Con := fun ds S Q E => match ds with
  | [a, b, x] => a.okE 40 = true ∧ match fault a with
    | some i => E "BadChange" (.int i) S
    | none => b.okE 40 = true ∧ match fault b with
      | some i => E "BadChange" (.int i) S
      | none => (∀ r, x ≠ .ref r) ∧ if x.wh = true then Q (.bl (!decide (aft (joinD a b) x.num = aft (joinD b a) x.num))) S else Q (.bl false) S
  | _ => False
theorem h_swap_right (ds : List D) (S : Store) (Q : EK) (E : XKd) (hn : ds.length = 3) (h : c_swap_right ds S Q E) : m_swap_right c_made_change c_aft c_joined_of c_whole (startR 3 ds) S (retE Q E) := by
  unfold c_swap_right at h
  split at h
  · rename_i a b x
    obtain ⟨oka, h⟩ := h
    try simp only [m_swap_right, c_made_change, mSeq, mSet, mM, mCall, mCons, mNil, mVar, mVarW, mC, mIfS, mIf, mRet, mRetN, mExpr, mPass, mRaise, mUnp, mPar, mPar2F, mSetF, mFrz, mApp, mExt, mPop, mSetIx, mBin, mBinT, mUn, mPrim, mT, mAndT, mOrT, mNotT, mAndV, mOrV, mNotV, mIsi, mLst, mDisp, mTup, mCell, mSl, mNo, mSome, mIt, mRng1, mRng2, mFor, mComp, mYes, mThru, mHeard, mBrk, mCont, mCh, mChT, mCh3, mCat, fAdd, fSub, fMul, fDiv, fMod, fPow, fNeg, fLt, fLe, fGt, fGe, fIsN, fNotN, fEq, fNe, fIn, fNin, fIx, fSl, fLen, fInt, fMax2, fMin2, fAbs, fList, fTuple, svK, svKw, sget, sset, startR, retE, isB, ownK, lstK, intK, seqK, unpT, setK, svOk, bN, bT, sputs, isN_non, isN_bl, isN_int, isN_str, isN_tup, isN_lst, isN_klst, if_true, if_false, Bool.false_eq_true, reduceIte, Bool.not_true, Bool.not_false, decide_true, decide_false, Bool.true_and, Bool.false_and, Bool.and_true, Bool.and_false, Bool.true_or, Bool.false_or, Bool.or_true, Bool.or_false, and_true, true_and, List.length_cons, List.length_nil, List.replicate_succ, List.replicate_zero, Nat.reduceSub]
    refine ⟨oka, ?_⟩
    cases ea : fault a with
    | some i => rw [ea] at h; exact h
    | none =>
      rw [ea] at h
      obtain ⟨okb, h⟩ := h
      try simp only [mSeq, mSet, mM, mCall, mCons, mNil, mVar, mVarW, mC, mIfS, mIf, mRet, mRetN, mExpr, mPass, mRaise, mUnp, mPar, mPar2F, mSetF, mFrz, mApp, mExt, mPop, mSetIx, mBin, mBinT, mUn, mPrim, mT, mAndT, mOrT, mNotT, mAndV, mOrV, mNotV, mIsi, mLst, mDisp, mTup, mCell, mSl, mNo, mSome, mIt, mRng1, mRng2, mFor, mComp, mYes, mThru, mHeard, mBrk, mCont, mCh, mChT, mCh3, mCat, fAdd, fSub, fMul, fDiv, fMod, fPow, fNeg, fLt, fLe, fGt, fGe, fIsN, fNotN, fEq, fNe, fIn, fNin, fIx, fSl, fLen, fInt, fMax2, fMin2, fAbs, fList, fTuple, svK, svKw, sget, sset, startR, retE, isB, ownK, lstK, intK, seqK, unpT, setK, svOk, bN, bT, sputs, isN_non, isN_bl, isN_int, isN_str, isN_tup, isN_lst, isN_klst, if_true, if_false, Bool.false_eq_true, reduceIte, Bool.not_true, Bool.not_false, decide_true, decide_false, Bool.true_and, Bool.false_and, Bool.and_true, Bool.and_false, Bool.true_or, Bool.false_or, Bool.or_true, Bool.or_false, and_true, true_and, List.length_cons, List.length_nil, List.replicate_succ, List.replicate_zero, Nat.reduceSub]
      refine ⟨okb, ?_⟩
      cases eb : fault b with
      | some i => rw [eb] at h; exact h
      | none =>
        rw [eb] at h
        obtain ⟨nr, h⟩ := h
        have j1 := join_ok ea eb
        have j2 := join_ok eb ea
        try simp only [c_joined_of, c_aft, c_whole, mSeq, mSet, mM, mCall, mCons, mNil, mVar, mVarW, mC, mIfS, mIf, mRet, mRetN, mExpr, mPass, mRaise, mUnp, mPar, mPar2F, mSetF, mFrz, mApp, mExt, mPop, mSetIx, mBin, mBinT, mUn, mPrim, mT, mAndT, mOrT, mNotT, mAndV, mOrV, mNotV, mIsi, mLst, mDisp, mTup, mCell, mSl, mNo, mSome, mIt, mRng1, mRng2, mFor, mComp, mYes, mThru, mHeard, mBrk, mCont, mCh, mChT, mCh3, mCat, fAdd, fSub, fMul, fDiv, fMod, fPow, fNeg, fLt, fLe, fGt, fGe, fIsN, fNotN, fEq, fNe, fIn, fNin, fIx, fSl, fLen, fInt, fMax2, fMin2, fAbs, fList, fTuple, svK, svKw, sget, sset, startR, retE, isB, ownK, lstK, intK, seqK, unpT, setK, svOk, bN, bT, sputs, isN_non, isN_bl, isN_int, isN_str, isN_tup, isN_lst, isN_klst, if_true, if_false, Bool.false_eq_true, reduceIte, Bool.not_true, Bool.not_false, decide_true, decide_false, Bool.true_and, Bool.false_and, Bool.and_true, Bool.and_false, Bool.true_or, Bool.false_or, Bool.or_true, Bool.or_false, and_true, true_and, List.length_cons, List.length_nil, List.replicate_succ, List.replicate_zero, Nat.reduceSub]
        refine ⟨nr, ?_⟩
        cases hw : x.wh with
        | false => rw [hw] at h; exact h
        | true =>
          rw [hw] at h
          cases x <;> simp [D.wh] at hw
          try simp only [eqD_int, mSeq, mSet, mM, mCall, mCons, mNil, mVar, mVarW, mC, mIfS, mIf, mRet, mRetN, mExpr, mPass, mRaise, mUnp, mPar, mPar2F, mSetF, mFrz, mApp, mExt, mPop, mSetIx, mBin, mBinT, mUn, mPrim, mT, mAndT, mOrT, mNotT, mAndV, mOrV, mNotV, mIsi, mLst, mDisp, mTup, mCell, mSl, mNo, mSome, mIt, mRng1, mRng2, mFor, mComp, mYes, mThru, mHeard, mBrk, mCont, mCh, mChT, mCh3, mCat, fAdd, fSub, fMul, fDiv, fMod, fPow, fNeg, fLt, fLe, fGt, fGe, fIsN, fNotN, fEq, fNe, fIn, fNin, fIx, fSl, fLen, fInt, fMax2, fMin2, fAbs, fList, fTuple, svK, svKw, sget, sset, startR, retE, isB, ownK, lstK, intK, seqK, unpT, setK, svOk, bN, bT, sputs, isN_non, isN_bl, isN_int, isN_str, isN_tup, isN_lst, isN_klst, if_true, if_false, Bool.false_eq_true, reduceIte, Bool.not_true, Bool.not_false, decide_true, decide_false, Bool.true_and, Bool.false_and, Bool.and_true, Bool.and_false, Bool.true_or, Bool.false_or, Bool.or_true, Bool.or_false, and_true, true_and, List.length_cons, List.length_nil, List.replicate_succ, List.replicate_zero, Nat.reduceSub]
          exact ⟨⟨ea, eb⟩, j1, ⟨eb, ea⟩, j2, ⟨by simp [D.okE], by simp [D.okE]⟩, h⟩
  · exact h.elim
/-! ### how far apart -/
def unl (b c : D) : Bool := b.isN != c.isN
def gap1 : D → D → Int
  | .int i, .int j => if i - j < 0 then -(i - j) else i - j
  | _, _ => 0
def gapI : D → D → Int
  | .tup [_, f, c], .tup [_, g, e] => if gap1 f g < gap1 c e then gap1 c e else gap1 f g
  | _, _ => 0
def unlike : D → D → Bool
  | .tup [_, f, c], .tup [_, g, e] => unl f g || unl c e
  | _, _ => false
def gapD (a b : D) : D := if unlike a b = true then .non else .int (gapI a b)
abbrev absI (i : Int) : Int := if i < 0 then -i else i
theorem gap_le {a b : D} (ha : fault a = none) (hb : fault b = none) (hs : shI a = shI b) (hu : unlike a b = false) (x : Int) : absI (aft a x - aft b x) ≤ gapI a b := by
  rcases fault_sorts ha with ⟨s, rfl⟩ | ⟨s, c, rfl⟩ | ⟨s, f, rfl⟩ | ⟨s, f, c, fc, rfl⟩ <;> rcases fault_sorts hb with ⟨t, rfl⟩ | ⟨t, e, rfl⟩ | ⟨t, g, rfl⟩ | ⟨t, g, e, ge, rfl⟩ <;>
    simp only [unlike, unl, D.isN, bne_self_eq_false, Bool.or_self, Bool.false_or, Bool.or_false] at hu <;> first | (exact absurd hu (by decide)) | skip
  all_goals
    simp only [shI] at hs
    subst hs
    simp (disch := omega) only [aft_nn, aft_ni, aft_in, aft_ii, gapI, gap1, absI]
    (repeat' split) <;> omega
/-- a row of starts at which the gap is reached -/
def Reach (a b : D) (L : List Int) : Prop := ∃ x ∈ L, absI (aft a x - aft b x) = gapI a b
theorem reach_of {a b : D} {L : List Int} (ha : fault a = none) (hb : fault b = none) (hs : shI a = shI b) (hu : unlike a b = false) (h0 : L ≠ []) (h1 : ∀ x ∈ bendI a, x ∈ L) (h2 : ∀ x ∈ bendI b, x ∈ L) : Reach a b L := by
  obtain ⟨y, hy⟩ := List.exists_mem_of_ne_nil L h0
  unfold Reach
  rcases fault_sorts ha with ⟨s, rfl⟩ | ⟨s, c, rfl⟩ | ⟨s, f, rfl⟩ | ⟨s, f, c, fc, rfl⟩ <;> rcases fault_sorts hb with ⟨t, rfl⟩ | ⟨t, e, rfl⟩ | ⟨t, g, rfl⟩ | ⟨t, g, e, ge, rfl⟩ <;>
    simp only [unlike, unl, D.isN, bne_self_eq_false, Bool.or_self, Bool.false_or, Bool.or_false] at hu <;> first | (exact absurd hu (by decide)) | skip
  · refine ⟨y, hy, ?_⟩
    simp only [shI] at hs
    subst hs
    simp only [aft_nn, gapI, gap1, absI]
    (repeat' split) <;> omega
  · simp only [shI] at hs
    subst hs
    simp [bendI] at h1 h2
    by_cases q : c ≤ e
    · refine ⟨_, h2, ?_⟩
      simp only [aft_ni, gapI, gap1, absI]
      (repeat' split) <;> omega
    · refine ⟨_, h1, ?_⟩
      simp only [aft_ni, gapI, gap1, absI]
      (repeat' split) <;> omega
  · simp only [shI] at hs
    subst hs
    simp [bendI] at h1 h2
    by_cases q : f ≤ g
    · refine ⟨_, h1, ?_⟩
      simp only [aft_in, gapI, gap1, absI]
      (repeat' split) <;> omega
    · refine ⟨_, h2, ?_⟩
      simp only [aft_in, gapI, gap1, absI]
      (repeat' split) <;> omega
  · simp only [shI] at hs
    subst hs
    simp [bendI] at h1 h2
    obtain ⟨h1a, h1b⟩ := h1
    obtain ⟨h2a, h2b⟩ := h2
    by_cases q : gap1 (.int f) (.int g) < gap1 (.int c) (.int e)
    · by_cases q : c ≤ e
      · refine ⟨_, h2b, ?_⟩
        simp (disch := omega) only [aft_ii, gapI, gap1, absI] at *
        (repeat' split) <;> (repeat' split at *) <;> omega
      · refine ⟨_, h1b, ?_⟩
        simp (disch := omega) only [aft_ii, gapI, gap1, absI] at *
        (repeat' split) <;> (repeat' split at *) <;> omega
    · by_cases q : f ≤ g
      · refine ⟨_, h1a, ?_⟩
        simp (disch := omega) only [aft_ii, gapI, gap1, absI] at *
        (repeat' split) <;> (repeat' split at *) <;> omega
      · refine ⟨_, h2a, ?_⟩
        simp (disch := omega) only [aft_ii, gapI, gap1, absI] at *
        (repeat' split) <;> (repeat' split at *) <;> omega
/-- the greatest of such a row is the gap -/
theorem reach_max {a b : D} {L : List Int} {m : Int} (ha : fault a = none) (hb : fault b = none) (hs : shI a = shI b) (hu : unlike a b = false) (hr : Reach a b L) (h1 : m ∈ L.map fun x => absI (aft a x - aft b x)) (h2 : ∀ y ∈ L.map (fun x => absI (aft a x - aft b x)), y ≤ m) : m = gapI a b := by
  obtain ⟨x, hx, e⟩ := hr
  obtain ⟨z, hz, rfl⟩ := List.mem_map.mp h1
  have g1 := gap_le ha hb hs hu z
  have g2 := h2 _ (List.mem_map.mpr ⟨x, hx, rfl⟩)
  have g2 : absI (aft a x - aft b x) ≤ absI (aft a z - aft b z) := g2
  omega
theorem ne_bool (a b : Bool) : (!(a == b)) = (a != b) := rfl
def c_apart_of : Con := fun ds S Q _ => match ds with
  | [a, b] => (fault a = none ∧ fault b = none ∧ shI a = shI b) ∧ Q (gapD a b) S
  | _ => False
theorem brk_ne (a b : D) (l u : Int) : brk a b l u ≠ [] := by simp [brk]
theorem brk_reach {a b : D} {l u : Int} (ha : fault a = none) (hb : fault b = none) (hs : shI a = shI b) (hu : unlike a b = false) : Reach a b (brk a b l u) :=
  reach_of ha hb hs hu (brk_ne a b l u) (fun x hx => mem_brk1 hx) (fun x hx => mem_brk2 hx)
/-- the two tests of bounds that only one has -/
theorem unl_core {a b : D} {i j : Nat} {k : TK} {S : Store} {E : XKd} {ρ : Ro} {ma mb : ME} (ha : fault a = none) (hb : fault b = none) (hma : ∀ (q : EK) E, q a S → ma ρ S q E) (hmb : ∀ (q : EK) E, q b S → mb ρ S q E) (h : k (unlike a b) S) :
    (mOrT (mBinT fNe (mBin fIsN (mBin fIx ma (mC (.int 1))) (mC .non)) (mBin fIsN (mBin fIx mb (mC (.int 1))) (mC .non))) (mBinT fNe (mBin fIsN (mBin fIx ma (mC (.int 2))) (mC .non)) (mBin fIsN (mBin fIx mb (mC (.int 2))) (mC .non)))) ρ S k E := by
  obtain ⟨s, f, c, rfl, of, oc, ab⟩ := fault_none ha
  obtain ⟨t, g, e, rfl, og, oe, cd⟩ := fault_none hb
  try simp only [mSeq, mSet, mM, mCall, mCons, mNil, mVar, mVarW, mC, mIfS, mIf, mRet, mRetN, mExpr, mPass, mRaise, mUnp, mPar, mPar2F, mSetF, mFrz, mApp, mExt, mPop, mSetIx, mBin, mBinT, mUn, mPrim, mT, mAndT, mOrT, mNotT, mAndV, mOrV, mNotV, mIsi, mLst, mDisp, mTup, mCell, mSl, mNo, mSome, mIt, mRng1, mRng2, mFor, mComp, mYes, mThru, mHeard, mBrk, mCont, mCh, mChT, mCh3, mCat, fAdd, fSub, fMul, fDiv, fMod, fPow, fNeg, fLt, fLe, fGt, fGe, fIsN, fNotN, fEq, fNe, fIn, fNin, fIx, fSl, fLen, fInt, fMax2, fMin2, fAbs, fList, fTuple, svK, svKw, sget, sset, startR, retE, isB, ownK, lstK, intK, seqK, unpT, setK, svOk, bN, bT, sputs, isN_non, isN_bl, isN_int, isN_str, isN_tup, isN_lst, isN_klst, if_true, if_false, Bool.false_eq_true, reduceIte, Bool.not_true, Bool.not_false, decide_true, decide_false, Bool.true_and, Bool.false_and, Bool.and_true, Bool.and_false, Bool.true_or, Bool.false_or, Bool.or_true, Bool.or_false, and_true, true_and, List.length_cons, List.length_nil, List.replicate_succ, List.replicate_zero, Nat.reduceSub]
  refine hma _ _ ?_
  try simp only [mSeq, mSet, mM, mCall, mCons, mNil, mVar, mVarW, mC, mIfS, mIf, mRet, mRetN, mExpr, mPass, mRaise, mUnp, mPar, mPar2F, mSetF, mFrz, mApp, mExt, mPop, mSetIx, mBin, mBinT, mUn, mPrim, mT, mAndT, mOrT, mNotT, mAndV, mOrV, mNotV, mIsi, mLst, mDisp, mTup, mCell, mSl, mNo, mSome, mIt, mRng1, mRng2, mFor, mComp, mYes, mThru, mHeard, mBrk, mCont, mCh, mChT, mCh3, mCat, fAdd, fSub, fMul, fDiv, fMod, fPow, fNeg, fLt, fLe, fGt, fGe, fIsN, fNotN, fEq, fNe, fIn, fNin, fIx, fSl, fLen, fInt, fMax2, fMin2, fAbs, fList, fTuple, svK, svKw, sget, sset, startR, retE, isB, ownK, lstK, intK, seqK, unpT, setK, svOk, bN, bT, sputs, isN_non, isN_bl, isN_int, isN_str, isN_tup, isN_lst, isN_klst, if_true, if_false, Bool.false_eq_true, reduceIte, Bool.not_true, Bool.not_false, decide_true, decide_false, Bool.true_and, Bool.false_and, Bool.and_true, Bool.and_false, Bool.true_or, Bool.false_or, Bool.or_true, Bool.or_false, and_true, true_and, List.length_cons, List.length_nil, List.replicate_succ, List.replicate_zero, Nat.reduceSub]
  refine ⟨_, at1, hmb _ _ ?_⟩
  try simp only [mSeq, mSet, mM, mCall, mCons, mNil, mVar, mVarW, mC, mIfS, mIf, mRet, mRetN, mExpr, mPass, mRaise, mUnp, mPar, mPar2F, mSetF, mFrz, mApp, mExt, mPop, mSetIx, mBin, mBinT, mUn, mPrim, mT, mAndT, mOrT, mNotT, mAndV, mOrV, mNotV, mIsi, mLst, mDisp, mTup, mCell, mSl, mNo, mSome, mIt, mRng1, mRng2, mFor, mComp, mYes, mThru, mHeard, mBrk, mCont, mCh, mChT, mCh3, mCat, fAdd, fSub, fMul, fDiv, fMod, fPow, fNeg, fLt, fLe, fGt, fGe, fIsN, fNotN, fEq, fNe, fIn, fNin, fIx, fSl, fLen, fInt, fMax2, fMin2, fAbs, fList, fTuple, svK, svKw, sget, sset, startR, retE, isB, ownK, lstK, intK, seqK, unpT, setK, svOk, bN, bT, sputs, isN_non, isN_bl, isN_int, isN_str, isN_tup, isN_lst, isN_klst, if_true, if_false, Bool.false_eq_true, reduceIte, Bool.not_true, Bool.not_false, decide_true, decide_false, Bool.true_and, Bool.false_and, Bool.and_true, Bool.and_false, Bool.true_or, Bool.false_or, Bool.or_true, Bool.or_false, and_true, true_and, List.length_cons, List.length_nil, List.replicate_succ, List.replicate_zero, Nat.reduceSub]
  refine ⟨_, at1, ⟨by simp [D.okE], by simp [D.okE]⟩, ?_⟩
  rw [eqD_bl, ne_bool]
  have e1 : unlike (.tup [.int s, f, c]) (.tup [.int t, g, e]) = ((f.isN != g.isN) || (c.isN != e.isN)) := rfl
  rw [e1] at h
  cases q : (f.isN != g.isN) with
  | true =>
    rw [q] at h
    try simp only [mSeq, mSet, mM, mCall, mCons, mNil, mVar, mVarW, mC, mIfS, mIf, mRet, mRetN, mExpr, mPass, mRaise, mUnp, mPar, mPar2F, mSetF, mFrz, mApp, mExt, mPop, mSetIx, mBin, mBinT, mUn, mPrim, mT, mAndT, mOrT, mNotT, mAndV, mOrV, mNotV, mIsi, mLst, mDisp, mTup, mCell, mSl, mNo, mSome, mIt, mRng1, mRng2, mFor, mComp, mYes, mThru, mHeard, mBrk, mCont, mCh, mChT, mCh3, mCat, fAdd, fSub, fMul, fDiv, fMod, fPow, fNeg, fLt, fLe, fGt, fGe, fIsN, fNotN, fEq, fNe, fIn, fNin, fIx, fSl, fLen, fInt, fMax2, fMin2, fAbs, fList, fTuple, svK, svKw, sget, sset, startR, retE, isB, ownK, lstK, intK, seqK, unpT, setK, svOk, bN, bT, sputs, isN_non, isN_bl, isN_int, isN_str, isN_tup, isN_lst, isN_klst, if_true, if_false, Bool.false_eq_true, reduceIte, Bool.not_true, Bool.not_false, decide_true, decide_false, Bool.true_and, Bool.false_and, Bool.and_true, Bool.and_false, Bool.true_or, Bool.false_or, Bool.or_true, Bool.or_false, and_true, true_and, List.length_cons, List.length_nil, List.replicate_succ, List.replicate_zero, Nat.reduceSub]
    exact h
  | false =>
    rw [q] at h
    try simp only [mSeq, mSet, mM, mCall, mCons, mNil, mVar, mVarW, mC, mIfS, mIf, mRet, mRetN, mExpr, mPass, mRaise, mUnp, mPar, mPar2F, mSetF, mFrz, mApp, mExt, mPop, mSetIx, mBin, mBinT, mUn, mPrim, mT, mAndT, mOrT, mNotT, mAndV, mOrV, mNotV, mIsi, mLst, mDisp, mTup, mCell, mSl, mNo, mSome, mIt, mRng1, mRng2, mFor, mComp, mYes, mThru, mHeard, mBrk, mCont, mCh, mChT, mCh3, mCat, fAdd, fSub, fMul, fDiv, fMod, fPow, fNeg, fLt, fLe, fGt, fGe, fIsN, fNotN, fEq, fNe, fIn, fNin, fIx, fSl, fLen, fInt, fMax2, fMin2, fAbs, fList, fTuple, svK, svKw, sget, sset, startR, retE, isB, ownK, lstK, intK, seqK, unpT, setK, svOk, bN, bT, sputs, isN_non, isN_bl, isN_int, isN_str, isN_tup, isN_lst, isN_klst, if_true, if_false, Bool.false_eq_true, reduceIte, Bool.not_true, Bool.not_false, decide_true, decide_false, Bool.true_and, Bool.false_and, Bool.and_true, Bool.and_false, Bool.true_or, Bool.false_or, Bool.or_true, Bool.or_false, and_true, true_and, List.length_cons, List.length_nil, List.replicate_succ, List.replicate_zero, Nat.reduceSub]
    refine hma _ _ ?_
    try simp only [mSeq, mSet, mM, mCall, mCons, mNil, mVar, mVarW, mC, mIfS, mIf, mRet, mRetN, mExpr, mPass, mRaise, mUnp, mPar, mPar2F, mSetF, mFrz, mApp, mExt, mPop, mSetIx, mBin, mBinT, mUn, mPrim, mT, mAndT, mOrT, mNotT, mAndV, mOrV, mNotV, mIsi, mLst, mDisp, mTup, mCell, mSl, mNo, mSome, mIt, mRng1, mRng2, mFor, mComp, mYes, mThru, mHeard, mBrk, mCont, mCh, mChT, mCh3, mCat, fAdd, fSub, fMul, fDiv, fMod, fPow, fNeg, fLt, fLe, fGt, fGe, fIsN, fNotN, fEq, fNe, fIn, fNin, fIx, fSl, fLen, fInt, fMax2, fMin2, fAbs, fList, fTuple, svK, svKw, sget, sset, startR, retE, isB, ownK, lstK, intK, seqK, unpT, setK, svOk, bN, bT, sputs, isN_non, isN_bl, isN_int, isN_str, isN_tup, isN_lst, isN_klst, if_true, if_false, Bool.false_eq_true, reduceIte, Bool.not_true, Bool.not_false, decide_true, decide_false, Bool.true_and, Bool.false_and, Bool.and_true, Bool.and_false, Bool.true_or, Bool.false_or, Bool.or_true, Bool.or_false, and_true, true_and, List.length_cons, List.length_nil, List.replicate_succ, List.replicate_zero, Nat.reduceSub]
    refine ⟨_, at2, hmb _ _ ?_⟩
    try simp only [mSeq, mSet, mM, mCall, mCons, mNil, mVar, mVarW, mC, mIfS, mIf, mRet, mRetN, mExpr, mPass, mRaise, mUnp, mPar, mPar2F, mSetF, mFrz, mApp, mExt, mPop, mSetIx, mBin, mBinT, mUn, mPrim, mT, mAndT, mOrT, mNotT, mAndV, mOrV, mNotV, mIsi, mLst, mDisp, mTup, mCell, mSl, mNo, mSome, mIt, mRng1, mRng2, mFor, mComp, mYes, mThru, mHeard, mBrk, mCont, mCh, mChT, mCh3, mCat, fAdd, fSub, fMul, fDiv, fMod, fPow, fNeg, fLt, fLe, fGt, fGe, fIsN, fNotN, fEq, fNe, fIn, fNin, fIx, fSl, fLen, fInt, fMax2, fMin2, fAbs, fList, fTuple, svK, svKw, sget, sset, startR, retE, isB, ownK, lstK, intK, seqK, unpT, setK, svOk, bN, bT, sputs, isN_non, isN_bl, isN_int, isN_str, isN_tup, isN_lst, isN_klst, if_true, if_false, Bool.false_eq_true, reduceIte, Bool.not_true, Bool.not_false, decide_true, decide_false, Bool.true_and, Bool.false_and, Bool.and_true, Bool.and_false, Bool.true_or, Bool.false_or, Bool.or_true, Bool.or_false, and_true, true_and, List.length_cons, List.length_nil, List.replicate_succ, List.replicate_zero, Nat.reduceSub]
    refine ⟨_, at2, ⟨by simp [D.okE], by simp [D.okE]⟩, ?_⟩
    rw [eqD_bl, ne_bool]
    exact h
theorem h_apart_of (ds : List D) (S : Store) (Q : EK) (E : XKd) (hn : ds.length = 2) (h : c_apart_of ds S Q E) : m_apart_of c_breaks c_aft (startR 3 ds) S (retE Q E) := by
  unfold c_apart_of at h
  split at h
  · rename_i a b
    obtain ⟨⟨ha, hb, hs⟩, hQ⟩ := h
    unfold m_apart_of
    generalize hm : mPrim fMax1 = mx
    unfold mSeq mIfS
    refine unl_core (i := 0) (j := 0) ha hb (fun q E h => by simp only [mSeq, mSet, mM, mCall, mCons, mNil, mVar, mVarW, mC, mIfS, mIf, mRet, mRetN, mExpr, mPass, mRaise, mUnp, mPar, mPar2F, mSetF, mFrz, mApp, mExt, mPop, mSetIx, mBin, mBinT, mUn, mPrim, mT, mAndT, mOrT, mNotT, mAndV, mOrV, mNotV, mIsi, mLst, mDisp, mTup, mCell, mSl, mNo, mSome, mIt, mRng1, mRng2, mFor, mComp, mYes, mThru, mHeard, mBrk, mCont, mCh, mChT, mCh3, mCat, fAdd, fSub, fMul, fDiv, fMod, fPow, fNeg, fLt, fLe, fGt, fGe, fIsN, fNotN, fEq, fNe, fIn, fNin, fIx, fSl, fLen, fInt, fMax2, fMin2, fAbs, fList, fTuple, svK, svKw, sget, sset, startR, retE, isB, ownK, lstK, intK, seqK, unpT, setK, svOk, bN, bT, sputs, isN_non, isN_bl, isN_int, isN_str, isN_tup, isN_lst, isN_klst, if_true, if_false, Bool.false_eq_true, reduceIte, Bool.not_true, Bool.not_false, decide_true, decide_false, Bool.true_and, Bool.false_and, Bool.and_true, Bool.and_false, Bool.true_or, Bool.false_or, Bool.or_true, Bool.or_false, and_true, true_and, List.length_cons, List.length_nil, List.replicate_succ, List.replicate_zero, Nat.reduceSub]; exact h) (fun q E h => by simp only [mSeq, mSet, mM, mCall, mCons, mNil, mVar, mVarW, mC, mIfS, mIf, mRet, mRetN, mExpr, mPass, mRaise, mUnp, mPar, mPar2F, mSetF, mFrz, mApp, mExt, mPop, mSetIx, mBin, mBinT, mUn, mPrim, mT, mAndT, mOrT, mNotT, mAndV, mOrV, mNotV, mIsi, mLst, mDisp, mTup, mCell, mSl, mNo, mSome, mIt, mRng1, mRng2, mFor, mComp, mYes, mThru, mHeard, mBrk, mCont, mCh, mChT, mCh3, mCat, fAdd, fSub, fMul, fDiv, fMod, fPow, fNeg, fLt, fLe, fGt, fGe, fIsN, fNotN, fEq, fNe, fIn, fNin, fIx, fSl, fLen, fInt, fMax2, fMin2, fAbs, fList, fTuple, svK, svKw, sget, sset, startR, retE, isB, ownK, lstK, intK, seqK, unpT, setK, svOk, bN, bT, sputs, isN_non, isN_bl, isN_int, isN_str, isN_tup, isN_lst, isN_klst, if_true, if_false, Bool.false_eq_true, reduceIte, Bool.not_true, Bool.not_false, decide_true, decide_false, Bool.true_and, Bool.false_and, Bool.and_true, Bool.and_false, Bool.true_or, Bool.false_or, Bool.or_true, Bool.or_false, and_true, true_and, List.length_cons, List.length_nil, List.replicate_succ, List.replicate_zero, Nat.reduceSub]; exact h) ?_
    unfold gapD at hQ
    cases hu : unlike a b with
    | true =>
      rw [hu] at hQ
      exact hQ
    | false =>
      rw [hu] at hQ
      subst hm
      try simp only [c_breaks, swipe, mSeq, mSet, mM, mCall, mCons, mNil, mVar, mVarW, mC, mIfS, mIf, mRet, mRetN, mExpr, mPass, mRaise, mUnp, mPar, mPar2F, mSetF, mFrz, mApp, mExt, mPop, mSetIx, mBin, mBinT, mUn, mPrim, mT, mAndT, mOrT, mNotT, mAndV, mOrV, mNotV, mIsi, mLst, mDisp, mTup, mCell, mSl, mNo, mSome, mIt, mRng1, mRng2, mFor, mComp, mYes, mThru, mHeard, mBrk, mCont, mCh, mChT, mCh3, mCat, fAdd, fSub, fMul, fDiv, fMod, fPow, fNeg, fLt, fLe, fGt, fGe, fIsN, fNotN, fEq, fNe, fIn, fNin, fIx, fSl, fLen, fInt, fMax2, fMin2, fAbs, fList, fTuple, svK, svKw, sget, sset, startR, retE, isB, ownK, lstK, intK, seqK, unpT, setK, svOk, bN, bT, sputs, isN_non, isN_bl, isN_int, isN_str, isN_tup, isN_lst, isN_klst, if_true, if_false, Bool.false_eq_true, reduceIte, Bool.not_true, Bool.not_false, decide_true, decide_false, Bool.true_and, Bool.false_and, Bool.and_true, Bool.and_false, Bool.true_or, Bool.false_or, Bool.or_true, Bool.or_false, and_true, true_and, List.length_cons, List.length_nil, List.replicate_succ, List.replicate_zero, Nat.reduceSub]
      refine ⟨⟨ha, hb⟩, fun l u => ?_⟩
      have br := brk_reach (l := l) (u := u) ha hb hs hu
      have bne := brk_ne a b l u
      have bl : (brk a b l u).length ≤ 100 := by
        have := bendI_len a
        have := bendI_len b
        have := farI_len a b l u
        have := farI_len b a l u
        simp [brk]
        omega
      generalize hL : brk a b l u = L at br bne bl
      refine ⟨by simp [lim]; omega, ?_⟩
      refine lc_ints (fun x => absI (aft a x - aft b x)) L (fun x _ q hq => ?_) ?_
      · simp only [c_aft, mSeq, mSet, mM, mCall, mCons, mNil, mVar, mVarW, mC, mIfS, mIf, mRet, mRetN, mExpr, mPass, mRaise, mUnp, mPar, mPar2F, mSetF, mFrz, mApp, mExt, mPop, mSetIx, mBin, mBinT, mUn, mPrim, mT, mAndT, mOrT, mNotT, mAndV, mOrV, mNotV, mIsi, mLst, mDisp, mTup, mCell, mSl, mNo, mSome, mIt, mRng1, mRng2, mFor, mComp, mYes, mThru, mHeard, mBrk, mCont, mCh, mChT, mCh3, mCat, fAdd, fSub, fMul, fDiv, fMod, fPow, fNeg, fLt, fLe, fGt, fGe, fIsN, fNotN, fEq, fNe, fIn, fNin, fIx, fSl, fLen, fInt, fMax2, fMin2, fAbs, fList, fTuple, svK, svKw, sget, sset, startR, retE, isB, ownK, lstK, intK, seqK, unpT, setK, svOk, bN, bT, sputs, isN_non, isN_bl, isN_int, isN_str, isN_tup, isN_lst, isN_klst, if_true, if_false, Bool.false_eq_true, reduceIte, Bool.not_true, Bool.not_false, decide_true, decide_false, Bool.true_and, Bool.false_and, Bool.and_true, Bool.and_false, Bool.true_or, Bool.false_or, Bool.or_true, Bool.or_false, and_true, true_and, List.length_cons, List.length_nil, List.replicate_succ, List.replicate_zero, Nat.reduceSub]
        exact ⟨ha, hb, hq⟩
      have e1 : (L.map fun x => D.int (absI (aft a x - aft b x))) = (L.map fun x => absI (aft a x - aft b x)).map D.int := by simp
      rw [e1]
      refine ⟨_, ints_some _, by simpa using bne, fun m h1 h2 => ?_⟩
      rw [reach_max ha hb hs hu br h1 h2]
      exact hQ
  · exact h.elim
/-- most_apart -/
def c_most : Con := fun ds S Q E => match ds with
  | [a, b] => a.okE 40 = true ∧ match fault a with
    | some i => E "BadChange" (.int i) S
    | none => b.okE 40 = true ∧ match fault b with
      | some i => E "BadChange" (.int i) S
      | none => if shI a = shI b then Q (gapD a b) S else E "Unlike" (.int 0) S
  | _ => False
theorem h_most (ds : List D) (S : Store) (Q : EK) (E : XKd) (hn : ds.length = 2) (h : c_most ds S Q E) : m_most_apart c_made_change c_apart_of (startR 2 ds) S (retE Q E) := by
  unfold c_most at h
  split at h
  · rename_i a b
    obtain ⟨oka, h⟩ := h
    try simp only [m_most_apart, c_made_change, mSeq, mSet, mM, mCall, mCons, mNil, mVar, mVarW, mC, mIfS, mIf, mRet, mRetN, mExpr, mPass, mRaise, mUnp, mPar, mPar2F, mSetF, mFrz, mApp, mExt, mPop, mSetIx, mBin, mBinT, mUn, mPrim, mT, mAndT, mOrT, mNotT, mAndV, mOrV, mNotV, mIsi, mLst, mDisp, mTup, mCell, mSl, mNo, mSome, mIt, mRng1, mRng2, mFor, mComp, mYes, mThru, mHeard, mBrk, mCont, mCh, mChT, mCh3, mCat, fAdd, fSub, fMul, fDiv, fMod, fPow, fNeg, fLt, fLe, fGt, fGe, fIsN, fNotN, fEq, fNe, fIn, fNin, fIx, fSl, fLen, fInt, fMax2, fMin2, fAbs, fList, fTuple, svK, svKw, sget, sset, startR, retE, isB, ownK, lstK, intK, seqK, unpT, setK, svOk, bN, bT, sputs, isN_non, isN_bl, isN_int, isN_str, isN_tup, isN_lst, isN_klst, if_true, if_false, Bool.false_eq_true, reduceIte, Bool.not_true, Bool.not_false, decide_true, decide_false, Bool.true_and, Bool.false_and, Bool.and_true, Bool.and_false, Bool.true_or, Bool.false_or, Bool.or_true, Bool.or_false, and_true, true_and, List.length_cons, List.length_nil, List.replicate_succ, List.replicate_zero, Nat.reduceSub]
    refine ⟨oka, ?_⟩
    cases ea : fault a with
    | some i => rw [ea] at h; exact h
    | none =>
      rw [ea] at h
      obtain ⟨okb, h⟩ := h
      try simp only [mSeq, mSet, mM, mCall, mCons, mNil, mVar, mVarW, mC, mIfS, mIf, mRet, mRetN, mExpr, mPass, mRaise, mUnp, mPar, mPar2F, mSetF, mFrz, mApp, mExt, mPop, mSetIx, mBin, mBinT, mUn, mPrim, mT, mAndT, mOrT, mNotT, mAndV, mOrV, mNotV, mIsi, mLst, mDisp, mTup, mCell, mSl, mNo, mSome, mIt, mRng1, mRng2, mFor, mComp, mYes, mThru, mHeard, mBrk, mCont, mCh, mChT, mCh3, mCat, fAdd, fSub, fMul, fDiv, fMod, fPow, fNeg, fLt, fLe, fGt, fGe, fIsN, fNotN, fEq, fNe, fIn, fNin, fIx, fSl, fLen, fInt, fMax2, fMin2, fAbs, fList, fTuple, svK, svKw, sget, sset, startR, retE, isB, ownK, lstK, intK, seqK, unpT, setK, svOk, bN, bT, sputs, isN_non, isN_bl, isN_int, isN_str, isN_tup, isN_lst, isN_klst, if_true, if_false, Bool.false_eq_true, reduceIte, Bool.not_true, Bool.not_false, decide_true, decide_false, Bool.true_and, Bool.false_and, Bool.and_true, Bool.and_false, Bool.true_or, Bool.false_or, Bool.or_true, Bool.or_false, and_true, true_and, List.length_cons, List.length_nil, List.replicate_succ, List.replicate_zero, Nat.reduceSub]
      refine ⟨okb, ?_⟩
      cases eb : fault b with
      | some i => rw [eb] at h; exact h
      | none =>
        rw [eb] at h
        obtain ⟨s, f, c, rfl, _⟩ := fault_none ea
        obtain ⟨t, g, e, rfl, _⟩ := fault_none eb
        try simp only [c_apart_of, eqD_int, mRaise, mSeq, mSet, mM, mCall, mCons, mNil, mVar, mVarW, mC, mIfS, mIf, mRet, mRetN, mExpr, mPass, mRaise, mUnp, mPar, mPar2F, mSetF, mFrz, mApp, mExt, mPop, mSetIx, mBin, mBinT, mUn, mPrim, mT, mAndT, mOrT, mNotT, mAndV, mOrV, mNotV, mIsi, mLst, mDisp, mTup, mCell, mSl, mNo, mSome, mIt, mRng1, mRng2, mFor, mComp, mYes, mThru, mHeard, mBrk, mCont, mCh, mChT, mCh3, mCat, fAdd, fSub, fMul, fDiv, fMod, fPow, fNeg, fLt, fLe, fGt, fGe, fIsN, fNotN, fEq, fNe, fIn, fNin, fIx, fSl, fLen, fInt, fMax2, fMin2, fAbs, fList, fTuple, svK, svKw, sget, sset, startR, retE, isB, ownK, lstK, intK, seqK, unpT, setK, svOk, bN, bT, sputs, isN_non, isN_bl, isN_int, isN_str, isN_tup, isN_lst, isN_klst, if_true, if_false, Bool.false_eq_true, reduceIte, Bool.not_true, Bool.not_false, decide_true, decide_false, Bool.true_and, Bool.false_and, Bool.and_true, Bool.and_false, Bool.true_or, Bool.false_or, Bool.or_true, Bool.or_false, and_true, true_and, List.length_cons, List.length_nil, List.replicate_succ, List.replicate_zero, Nat.reduceSub]
        refine ⟨_, at0, _, at0, ?_⟩
        try simp only [eqD_int, mSeq, mSet, mM, mCall, mCons, mNil, mVar, mVarW, mC, mIfS, mIf, mRet, mRetN, mExpr, mPass, mRaise, mUnp, mPar, mPar2F, mSetF, mFrz, mApp, mExt, mPop, mSetIx, mBin, mBinT, mUn, mPrim, mT, mAndT, mOrT, mNotT, mAndV, mOrV, mNotV, mIsi, mLst, mDisp, mTup, mCell, mSl, mNo, mSome, mIt, mRng1, mRng2, mFor, mComp, mYes, mThru, mHeard, mBrk, mCont, mCh, mChT, mCh3, mCat, fAdd, fSub, fMul, fDiv, fMod, fPow, fNeg, fLt, fLe, fGt, fGe, fIsN, fNotN, fEq, fNe, fIn, fNin, fIx, fSl, fLen, fInt, fMax2, fMin2, fAbs, fList, fTuple, svK, svKw, sget, sset, startR, retE, isB, ownK, lstK, intK, seqK, unpT, setK, svOk, bN, bT, sputs, isN_non, isN_bl, isN_int, isN_str, isN_tup, isN_lst, isN_klst, if_true, if_false, Bool.false_eq_true, reduceIte, Bool.not_true, Bool.not_false, decide_true, decide_false, Bool.true_and, Bool.false_and, Bool.and_true, Bool.and_false, Bool.true_or, Bool.false_or, Bool.or_true, Bool.or_false, and_true, true_and, List.length_cons, List.length_nil, List.replicate_succ, List.replicate_zero, Nat.reduceSub]
        refine ⟨⟨by simp [D.okE], by simp [D.okE]⟩, ?_⟩
        by_cases q : s = t
        · rw [ne_no q]
          try simp only [mSeq, mSet, mM, mCall, mCons, mNil, mVar, mVarW, mC, mIfS, mIf, mRet, mRetN, mExpr, mPass, mRaise, mUnp, mPar, mPar2F, mSetF, mFrz, mApp, mExt, mPop, mSetIx, mBin, mBinT, mUn, mPrim, mT, mAndT, mOrT, mNotT, mAndV, mOrV, mNotV, mIsi, mLst, mDisp, mTup, mCell, mSl, mNo, mSome, mIt, mRng1, mRng2, mFor, mComp, mYes, mThru, mHeard, mBrk, mCont, mCh, mChT, mCh3, mCat, fAdd, fSub, fMul, fDiv, fMod, fPow, fNeg, fLt, fLe, fGt, fGe, fIsN, fNotN, fEq, fNe, fIn, fNin, fIx, fSl, fLen, fInt, fMax2, fMin2, fAbs, fList, fTuple, svK, svKw, sget, sset, startR, retE, isB, ownK, lstK, intK, seqK, unpT, setK, svOk, bN, bT, sputs, isN_non, isN_bl, isN_int, isN_str, isN_tup, isN_lst, isN_klst, if_true, if_false, Bool.false_eq_true, reduceIte, Bool.not_true, Bool.not_false, decide_true, decide_false, Bool.true_and, Bool.false_and, Bool.and_true, Bool.and_false, Bool.true_or, Bool.false_or, Bool.or_true, Bool.or_false, and_true, true_and, List.length_cons, List.length_nil, List.replicate_succ, List.replicate_zero, Nat.reduceSub]
          rw [if_pos (show shI (.tup [.int s, f, c]) = shI (.tup [.int t, g, e]) from q)] at h
          exact ⟨⟨ea, eb, q⟩, h⟩
        · rw [ne_ab q]
          rw [if_neg (show ¬ shI (.tup [.int s, f, c]) = shI (.tup [.int t, g, e]) from q)] at h
          exact h
  · exact h.elim
/-! ### the law's own -/
theorem h_draw (ds : List D) (S : Store) (Q : EK) (E : XKd) (hn : ds.length = 1) (h : c_change ds S Q E) : m_law_x04_draw c_take c_change c_change (startR 3 ds) S (retE Q E) := by
  unfold c_change at h
  split at h
  · rename_i a
    obtain ⟨hJ, hQ⟩ := h
    try simp only [m_law_x04_draw, c_take, c_change, mSeq, mSet, mM, mCall, mCons, mNil, mVar, mVarW, mC, mIfS, mIf, mRet, mRetN, mExpr, mPass, mRaise, mUnp, mPar, mPar2F, mSetF, mFrz, mApp, mExt, mPop, mSetIx, mBin, mBinT, mUn, mPrim, mT, mAndT, mOrT, mNotT, mAndV, mOrV, mNotV, mIsi, mLst, mDisp, mTup, mCell, mSl, mNo, mSome, mIt, mRng1, mRng2, mFor, mComp, mYes, mThru, mHeard, mBrk, mCont, mCh, mChT, mCh3, mCat, fAdd, fSub, fMul, fDiv, fMod, fPow, fNeg, fLt, fLe, fGt, fGe, fIsN, fNotN, fEq, fNe, fIn, fNin, fIx, fSl, fLen, fInt, fMax2, fMin2, fAbs, fList, fTuple, svK, svKw, sget, sset, startR, retE, isB, ownK, lstK, intK, seqK, unpT, setK, svOk, bN, bT, sputs, isN_non, isN_bl, isN_int, isN_str, isN_tup, isN_lst, isN_klst, if_true, if_false, Bool.false_eq_true, reduceIte, Bool.not_true, Bool.not_false, decide_true, decide_false, Bool.true_and, Bool.false_and, Bool.and_true, Bool.and_false, Bool.true_or, Bool.false_or, Bool.or_true, Bool.or_false, and_true, true_and, List.length_cons, List.length_nil, List.replicate_succ, List.replicate_zero, Nat.reduceSub]
    refine ⟨hJ, ⟨by decide, by decide⟩, fun r S1 r0 r1 J1 => ?_⟩
    refine ⟨J1, ⟨by decide, by decide⟩, fun p S2 p0 p1 J2 => ?_⟩
    simp only [eqD_int]
    refine ⟨⟨by simp [D.okE], by decide⟩, ?_⟩
    by_cases e0 : r = 0
    · simp only [e0, mSeq, mSet, mM, mCall, mCons, mNil, mVar, mVarW, mC, mIfS, mIf, mRet, mRetN, mExpr, mPass, mRaise, mUnp, mPar, mPar2F, mSetF, mFrz, mApp, mExt, mPop, mSetIx, mBin, mBinT, mUn, mPrim, mT, mAndT, mOrT, mNotT, mAndV, mOrV, mNotV, mIsi, mLst, mDisp, mTup, mCell, mSl, mNo, mSome, mIt, mRng1, mRng2, mFor, mComp, mYes, mThru, mHeard, mBrk, mCont, mCh, mChT, mCh3, mCat, fAdd, fSub, fMul, fDiv, fMod, fPow, fNeg, fLt, fLe, fGt, fGe, fIsN, fNotN, fEq, fNe, fIn, fNin, fIx, fSl, fLen, fInt, fMax2, fMin2, fAbs, fList, fTuple, svK, svKw, sget, sset, startR, retE, isB, ownK, lstK, intK, seqK, unpT, setK, svOk, bN, bT, sputs, isN_non, isN_bl, isN_int, isN_str, isN_tup, isN_lst, isN_klst, if_true, if_false, Bool.false_eq_true, reduceIte, Bool.not_true, Bool.not_false, decide_true, decide_false, Bool.true_and, Bool.false_and, Bool.and_true, Bool.and_false, Bool.true_or, Bool.false_or, Bool.or_true, Bool.or_false, and_true, true_and, List.length_cons, List.length_nil, List.replicate_succ, List.replicate_zero, Nat.reduceSub]
      exact ⟨J2, fun d S3 hd J3 => hQ d S3 hd J3⟩
    · simp only [e0, mSeq, mSet, mM, mCall, mCons, mNil, mVar, mVarW, mC, mIfS, mIf, mRet, mRetN, mExpr, mPass, mRaise, mUnp, mPar, mPar2F, mSetF, mFrz, mApp, mExt, mPop, mSetIx, mBin, mBinT, mUn, mPrim, mT, mAndT, mOrT, mNotT, mAndV, mOrV, mNotV, mIsi, mLst, mDisp, mTup, mCell, mSl, mNo, mSome, mIt, mRng1, mRng2, mFor, mComp, mYes, mThru, mHeard, mBrk, mCont, mCh, mChT, mCh3, mCat, fAdd, fSub, fMul, fDiv, fMod, fPow, fNeg, fLt, fLe, fGt, fGe, fIsN, fNotN, fEq, fNe, fIn, fNin, fIx, fSl, fLen, fInt, fMax2, fMin2, fAbs, fList, fTuple, svK, svKw, sget, sset, startR, retE, isB, ownK, lstK, intK, seqK, unpT, setK, svOk, bN, bT, sputs, isN_non, isN_bl, isN_int, isN_str, isN_tup, isN_lst, isN_klst, if_true, if_false, Bool.false_eq_true, reduceIte, Bool.not_true, Bool.not_false, decide_true, decide_false, Bool.true_and, Bool.false_and, Bool.and_true, Bool.and_false, Bool.true_or, Bool.false_or, Bool.or_true, Bool.or_false, and_true, true_and, List.length_cons, List.length_nil, List.replicate_succ, List.replicate_zero, Nat.reduceSub]
      refine ⟨⟨by simp [D.okE], by decide⟩, ?_⟩
      by_cases e1 : r = 1
      · simp only [e1, mSeq, mSet, mM, mCall, mCons, mNil, mVar, mVarW, mC, mIfS, mIf, mRet, mRetN, mExpr, mPass, mRaise, mUnp, mPar, mPar2F, mSetF, mFrz, mApp, mExt, mPop, mSetIx, mBin, mBinT, mUn, mPrim, mT, mAndT, mOrT, mNotT, mAndV, mOrV, mNotV, mIsi, mLst, mDisp, mTup, mCell, mSl, mNo, mSome, mIt, mRng1, mRng2, mFor, mComp, mYes, mThru, mHeard, mBrk, mCont, mCh, mChT, mCh3, mCat, fAdd, fSub, fMul, fDiv, fMod, fPow, fNeg, fLt, fLe, fGt, fGe, fIsN, fNotN, fEq, fNe, fIn, fNin, fIx, fSl, fLen, fInt, fMax2, fMin2, fAbs, fList, fTuple, svK, svKw, sget, sset, startR, retE, isB, ownK, lstK, intK, seqK, unpT, setK, svOk, bN, bT, sputs, isN_non, isN_bl, isN_int, isN_str, isN_tup, isN_lst, isN_klst, if_true, if_false, Bool.false_eq_true, reduceIte, Bool.not_true, Bool.not_false, decide_true, decide_false, Bool.true_and, Bool.false_and, Bool.and_true, Bool.and_false, Bool.true_or, Bool.false_or, Bool.or_true, Bool.or_false, and_true, true_and, List.length_cons, List.length_nil, List.replicate_succ, List.replicate_zero, Nat.reduceSub]
        refine ⟨J2, ⟨by decide, by decide⟩, fun o S3 o0 o1 J3 => ?_⟩
        exact ⟨by decide, hQ _ _ (by simp [fault_tup, D.wh, opt, above]) J3⟩
      · simp only [e1, mSeq, mSet, mM, mCall, mCons, mNil, mVar, mVarW, mC, mIfS, mIf, mRet, mRetN, mExpr, mPass, mRaise, mUnp, mPar, mPar2F, mSetF, mFrz, mApp, mExt, mPop, mSetIx, mBin, mBinT, mUn, mPrim, mT, mAndT, mOrT, mNotT, mAndV, mOrV, mNotV, mIsi, mLst, mDisp, mTup, mCell, mSl, mNo, mSome, mIt, mRng1, mRng2, mFor, mComp, mYes, mThru, mHeard, mBrk, mCont, mCh, mChT, mCh3, mCat, fAdd, fSub, fMul, fDiv, fMod, fPow, fNeg, fLt, fLe, fGt, fGe, fIsN, fNotN, fEq, fNe, fIn, fNin, fIx, fSl, fLen, fInt, fMax2, fMin2, fAbs, fList, fTuple, svK, svKw, sget, sset, startR, retE, isB, ownK, lstK, intK, seqK, unpT, setK, svOk, bN, bT, sputs, isN_non, isN_bl, isN_int, isN_str, isN_tup, isN_lst, isN_klst, if_true, if_false, Bool.false_eq_true, reduceIte, Bool.not_true, Bool.not_false, decide_true, decide_false, Bool.true_and, Bool.false_and, Bool.and_true, Bool.and_false, Bool.true_or, Bool.false_or, Bool.or_true, Bool.or_false, and_true, true_and, List.length_cons, List.length_nil, List.replicate_succ, List.replicate_zero, Nat.reduceSub]
        exact ⟨J2, fun d S3 hd J3 => hQ d S3 hd J3⟩
  · exact h.elim
def stB : D → Int → List Int
  | .int b, s => [b - s + -1, b - s + 0, b - s + 1]
  | _, _ => []
def stI : D → List Int
  | .tup [.int s, f, c] => stB f s ++ stB c s
  | _ => []
def someI (a b : D) : List Int := [0, -10 ^ (15 : Int).toNat, 10 ^ (15 : Int).toNat] ++ stI a ++ stI b
def c_starts : Con := fun ds S Q _ => match ds with
  | [.lst [a, b]] => (fault a = none ∧ fault b = none) ∧ Q (.lst ((someI a b).map .int)) S
  | _ => False
def stBody : MS := (mExt 1 (mLst (mComp [4] (mIt (mLst (mDisp (mCons (mUn fNeg (mC (.int 1))) (mCons (mC (.int 0)) (mCons (mC (.int 1)) mNil)))))) (bN 4) mYes (mBin fAdd (mBin fSub (mVar 3) (mBin fIx (mVar 2) (mC (.int 0)))) (mVar 4)))))
abbrev stIt : MA := mIt (mLst (mComp [3] (mIt (mSl (mVar 2) (mSome (mC (.int 1))) mNo)) (bN 3) (mBinT fNotN (mVar 3) (mC .non)) (mVar 3)))
theorem st_add {p z : SV} {L : List Int} {s i : Int} {f c : D} {S : Store} {G : EndsD} (hl : L.length ≤ 110) (nx : ∀ z, G.nx [p, .own ((L ++ stB (.int i) s).map .int), .val (.tup [.int s, f, c]), .val (.int i), z] S) :
    stBody [p, .own (L.map .int), .val (.tup [.int s, f, c]), .val (.int i), z] S G := by
  try simp only [stBody, mSeq, mSet, mM, mCall, mCons, mNil, mVar, mVarW, mC, mIfS, mIf, mRet, mRetN, mExpr, mPass, mRaise, mUnp, mPar, mPar2F, mSetF, mFrz, mApp, mExt, mPop, mSetIx, mBin, mBinT, mUn, mPrim, mT, mAndT, mOrT, mNotT, mAndV, mOrV, mNotV, mIsi, mLst, mDisp, mTup, mCell, mSl, mNo, mSome, mIt, mRng1, mRng2, mFor, mComp, mYes, mThru, mHeard, mBrk, mCont, mCh, mChT, mCh3, mCat, fAdd, fSub, fMul, fDiv, fMod, fPow, fNeg, fLt, fLe, fGt, fGe, fIsN, fNotN, fEq, fNe, fIn, fNin, fIx, fSl, fLen, fInt, fMax2, fMin2, fAbs, fList, fTuple, svK, svKw, sget, sset, startR, retE, isB, ownK, lstK, intK, seqK, unpT, setK, svOk, bN, bT, sputs, isN_non, isN_bl, isN_int, isN_str, isN_tup, isN_lst, isN_klst, if_true, if_false, Bool.false_eq_true, reduceIte, Bool.not_true, Bool.not_false, decide_true, decide_false, Bool.true_and, Bool.false_and, Bool.and_true, Bool.and_false, Bool.true_or, Bool.false_or, Bool.or_true, Bool.or_false, and_true, true_and, List.length_cons, List.length_nil, List.replicate_succ, List.replicate_zero, Nat.reduceSub]
  refine ⟨by decide, by decide, ?_⟩
  refine lc_ints (fun n => i - s + n) [-1, 0, 1] (fun n hn q hq => ?_) ?_
  · simp only [swipe, mSeq, mSet, mM, mCall, mCons, mNil, mVar, mVarW, mC, mIfS, mIf, mRet, mRetN, mExpr, mPass, mRaise, mUnp, mPar, mPar2F, mSetF, mFrz, mApp, mExt, mPop, mSetIx, mBin, mBinT, mUn, mPrim, mT, mAndT, mOrT, mNotT, mAndV, mOrV, mNotV, mIsi, mLst, mDisp, mTup, mCell, mSl, mNo, mSome, mIt, mRng1, mRng2, mFor, mComp, mYes, mThru, mHeard, mBrk, mCont, mCh, mChT, mCh3, mCat, fAdd, fSub, fMul, fDiv, fMod, fPow, fNeg, fLt, fLe, fGt, fGe, fIsN, fNotN, fEq, fNe, fIn, fNin, fIx, fSl, fLen, fInt, fMax2, fMin2, fAbs, fList, fTuple, svK, svKw, sget, sset, startR, retE, isB, ownK, lstK, intK, seqK, unpT, setK, svOk, bN, bT, sputs, isN_non, isN_bl, isN_int, isN_str, isN_tup, isN_lst, isN_klst, if_true, if_false, Bool.false_eq_true, reduceIte, Bool.not_true, Bool.not_false, decide_true, decide_false, Bool.true_and, Bool.false_and, Bool.and_true, Bool.and_false, Bool.true_or, Bool.false_or, Bool.or_true, Bool.or_false, and_true, true_and, List.length_cons, List.length_nil, List.replicate_succ, List.replicate_zero, Nat.reduceSub]
    exact ⟨_, at0, hq⟩
  · simp only [List.map_cons, List.map_nil, mSeq, mSet, mM, mCall, mCons, mNil, mVar, mVarW, mC, mIfS, mIf, mRet, mRetN, mExpr, mPass, mRaise, mUnp, mPar, mPar2F, mSetF, mFrz, mApp, mExt, mPop, mSetIx, mBin, mBinT, mUn, mPrim, mT, mAndT, mOrT, mNotT, mAndV, mOrV, mNotV, mIsi, mLst, mDisp, mTup, mCell, mSl, mNo, mSome, mIt, mRng1, mRng2, mFor, mComp, mYes, mThru, mHeard, mBrk, mCont, mCh, mChT, mCh3, mCat, fAdd, fSub, fMul, fDiv, fMod, fPow, fNeg, fLt, fLe, fGt, fGe, fIsN, fNotN, fEq, fNe, fIn, fNin, fIx, fSl, fLen, fInt, fMax2, fMin2, fAbs, fList, fTuple, svK, svKw, sget, sset, startR, retE, isB, ownK, lstK, intK, seqK, unpT, setK, svOk, bN, bT, sputs, isN_non, isN_bl, isN_int, isN_str, isN_tup, isN_lst, isN_klst, if_true, if_false, Bool.false_eq_true, reduceIte, Bool.not_true, Bool.not_false, decide_true, decide_false, Bool.true_and, Bool.false_and, Bool.and_true, Bool.and_false, Bool.true_or, Bool.false_or, Bool.or_true, Bool.or_false, and_true, true_and, List.length_cons, List.length_nil, List.replicate_succ, List.replicate_zero, Nat.reduceSub]
    refine ⟨by simp [lim]; omega, ?_⟩
    have h := nx z
    simpa [stB] using h
theorem forD_cons {b : BD} {mb : MS} {d : D} {ds : List D} {ρ : Ro} {S : Store} {G : EndsD} : forD b mb (d :: ds) ρ S G = b d ρ fun ρ' => mb ρ' S { G with nx := fun ρ2 S2 => forD b mb ds ρ2 S2 G, ct := fun ρ2 S2 => forD b mb ds ρ2 S2 G, bk := G.nx } := rfl
theorem forD_nil {b : BD} {mb : MS} {ρ : Ro} {S : Store} {G : EndsD} : forD b mb [] ρ S G = G.nx ρ S := rfl
theorem st_one {mb : MS} {p x y : SV} {d : D} {L : List Int} {S : Store} {G : EndsD} (hadd : ∀ {L : List Int} {s i : Int} {f c : D} {z : SV} {G : EndsD}, L.length ≤ 110 → (∀ z, G.nx [p, .own ((L ++ stB (.int i) s).map .int), .val (.tup [.int s, f, c]), .val (.int i), z] S) → mb [p, .own (L.map .int), .val (.tup [.int s, f, c]), .val (.int i), z] S G)
    (hd : fault d = none) (hl : L.length ≤ 100) (nx : ∀ y z, G.nx [p, .own ((L ++ stI d).map .int), .val d, y, z] S) :
    mFor stIt (bN 3) mb [p, .own (L.map .int), .val d, x, y] S G := by
  obtain ⟨s, f, c, rfl, of, oc, _⟩ := fault_none hd
  have e1 : cutA [D.int s, f, c] (some 1) none = [f, c] := by simp [cutA, HT.sIx]
  have key : forD (bN 3) mb ((if f.isN = true then [] else [f]) ++ (if c.isN = true then [] else [c])) [p, .own (L.map .int), .val (.tup [.int s, f, c]), x, y] S G := by
    cases f <;> simp [opt] at of <;> cases c <;> simp [opt] at oc
    · have h := nx x y
      show G.nx _ S
      simpa [stI, stB] using h
    · rename_i j _
      refine hadd (by omega) fun z => ?_
      have h := nx (.val (.int j)) z
      show G.nx _ S
      simpa [stI, stB] using h
    · rename_i i _
      refine hadd (by omega) fun z => ?_
      have h := nx (.val (.int i)) z
      show G.nx _ S
      simpa [stI, stB] using h
    · rename_i i j _
      refine hadd (by omega) fun z => ?_
      refine hadd (L := L ++ stB (.int i) s) (by simp [stB]; omega) fun z' => ?_
      have h := nx (.val (.int j)) z'
      show G.nx _ S
      simpa [stI, stB] using h
  simp only [stIt, mSeq, mSet, mM, mCall, mCons, mNil, mVar, mVarW, mC, mIfS, mIf, mRet, mRetN, mExpr, mPass, mRaise, mUnp, mPar, mPar2F, mSetF, mFrz, mApp, mExt, mPop, mSetIx, mBin, mBinT, mUn, mPrim, mT, mAndT, mOrT, mNotT, mAndV, mOrV, mNotV, mIsi, mLst, mDisp, mTup, mCell, mSl, mNo, mSome, mIt, mRng1, mRng2, mFor, mComp, mYes, mThru, mHeard, mBrk, mCont, mCh, mChT, mCh3, mCat, fAdd, fSub, fMul, fDiv, fMod, fPow, fNeg, fLt, fLe, fGt, fGe, fIsN, fNotN, fEq, fNe, fIn, fNin, fIx, fSl, fLen, fInt, fMax2, fMin2, fAbs, fList, fTuple, svK, svKw, sget, sset, startR, retE, isB, ownK, lstK, intK, seqK, unpT, setK, svOk, bN, bT, sputs, isN_non, isN_bl, isN_int, isN_str, isN_tup, isN_lst, isN_klst, if_true, if_false, Bool.false_eq_true, reduceIte, Bool.not_true, Bool.not_false, decide_true, decide_false, Bool.true_and, Bool.false_and, Bool.and_true, Bool.and_false, Bool.true_or, Bool.false_or, Bool.or_true, Bool.or_false, and_true, true_and, List.length_cons, List.length_nil, List.replicate_succ, List.replicate_zero, Nat.reduceSub, e1]
  refine ⟨by decide, ?_⟩
  generalize forD (bN 3) mb = fd at key
  cases f <;> simp [opt] at of <;> cases c <;> simp [opt] at oc <;> simp only [lcD, swipe, bN, mSeq, mSet, mM, mCall, mCons, mNil, mVar, mVarW, mC, mIfS, mIf, mRet, mRetN, mExpr, mPass, mRaise, mUnp, mPar, mPar2F, mSetF, mFrz, mApp, mExt, mPop, mSetIx, mBin, mBinT, mUn, mPrim, mT, mAndT, mOrT, mNotT, mAndV, mOrV, mNotV, mIsi, mLst, mDisp, mTup, mCell, mSl, mNo, mSome, mIt, mRng1, mRng2, mFor, mComp, mYes, mThru, mHeard, mBrk, mCont, mCh, mChT, mCh3, mCat, fAdd, fSub, fMul, fDiv, fMod, fPow, fNeg, fLt, fLe, fGt, fGe, fIsN, fNotN, fEq, fNe, fIn, fNin, fIx, fSl, fLen, fInt, fMax2, fMin2, fAbs, fList, fTuple, svK, svKw, sget, sset, startR, retE, isB, ownK, lstK, intK, seqK, unpT, setK, svOk, bN, bT, sputs, isN_non, isN_bl, isN_int, isN_str, isN_tup, isN_lst, isN_klst, if_true, if_false, Bool.false_eq_true, reduceIte, Bool.not_true, Bool.not_false, decide_true, decide_false, Bool.true_and, Bool.false_and, Bool.and_true, Bool.and_false, Bool.true_or, Bool.false_or, Bool.or_true, Bool.or_false, and_true, true_and, List.length_cons, List.length_nil, List.replicate_succ, List.replicate_zero, Nat.reduceSub] <;> exact key
theorem stI_len {a : D} (ha : fault a = none) : (stI a).length ≤ 6 := by
  obtain ⟨s, f, c, rfl, of, oc, _⟩ := fault_none ha
  cases f <;> simp [opt] at of <;> cases c <;> simp [opt] at oc <;> simp [stI, stB]
theorem h_starts (ds : List D) (S : Store) (Q : EK) (E : XKd) (hn : ds.length = 1) (h : c_starts ds S Q E) : m_law_x04_starts (startR 5 ds) S (retE Q E) := by
  unfold c_starts at h
  split at h
  · rename_i a b
    obtain ⟨⟨ha, hb⟩, hQ⟩ := h
    have l1 := stI_len ha
    have e : m_law_x04_starts = (mSeq (mSetF 1 (mDisp (mCons (mC (.int 0)) (mCons (mUn fNeg (mBin fPow (mC (.int 10)) (mC (.int 15)))) (mCons (mBin fPow (mC (.int 10)) (mC (.int 15))) mNil)))))
  (mSeq (mFor (mIt (mVar 0)) (bN 2) (mFor stIt (bN 3) stBody))
  (mFrz 1 (mRet (mM (mVar 1)))))) := rfl
    rw [e]
    have on := @st_one stBody (.val (.lst [a, b])) -- a change's starts
    have on := fun x y d L S G => @on x y d L S G (fun {L s i f c z G} hl nx => st_add hl nx)
    generalize mFor stIt (bN 3) stBody = mb at on ⊢
    try simp only [mSeq, mSet, mM, mCall, mCons, mNil, mVar, mVarW, mC, mIfS, mIf, mRet, mRetN, mExpr, mPass, mRaise, mUnp, mPar, mPar2F, mSetF, mFrz, mApp, mExt, mPop, mSetIx, mBin, mBinT, mUn, mPrim, mT, mAndT, mOrT, mNotT, mAndV, mOrV, mNotV, mIsi, mLst, mDisp, mTup, mCell, mSl, mNo, mSome, mIt, mRng1, mRng2, mFor, mComp, mYes, mThru, mHeard, mBrk, mCont, mCh, mChT, mCh3, mCat, fAdd, fSub, fMul, fDiv, fMod, fPow, fNeg, fLt, fLe, fGt, fGe, fIsN, fNotN, fEq, fNe, fIn, fNin, fIx, fSl, fLen, fInt, fMax2, fMin2, fAbs, fList, fTuple, svK, svKw, sget, sset, startR, retE, isB, ownK, lstK, intK, seqK, unpT, setK, svOk, bN, bT, sputs, isN_non, isN_bl, isN_int, isN_str, isN_tup, isN_lst, isN_klst, if_true, if_false, Bool.false_eq_true, reduceIte, Bool.not_true, Bool.not_false, decide_true, decide_false, Bool.true_and, Bool.false_and, Bool.and_true, Bool.and_false, Bool.true_or, Bool.false_or, Bool.or_true, Bool.or_false, and_true, true_and, List.length_cons, List.length_nil, List.replicate_succ, List.replicate_zero, Nat.reduceSub]
    refine ⟨cp (by decide) (by decide), cp (by decide) (by decide), by decide, ?_⟩
    refine on _ _ a [0, -10 ^ (15 : Int).toNat, 10 ^ (15 : Int).toNat] S _ ha (by simp) fun y z => ?_
    refine on _ _ b ([0, -10 ^ (15 : Int).toNat, 10 ^ (15 : Int).toNat] ++ stI a) S _ hb (by simp; omega) fun y z => ?_
    exact hQ
  · exact h.elim
end LK04

set_option Elab.async false
set_option linter.all false
set_option maxRecDepth 100000
set_option maxHeartbeats 4000000
namespace LK04
open PySem PySem.Spec PyProof.Rows L2 TL

theorem mem_st {d : D} {x : Int} (h : x ∈ bendI d) : x - 1 ∈ stI d ∧ x ∈ stI d ∧ x + 1 ∈ stI d := by
  unfold bendI at h
  split at h
  · rename_i s f c
    rcases List.mem_append.mp h with h | h
    · split at h
      · simp at h
        subst h
        simp [stI, stB]
        omega
      · cases h
    · split at h
      · simp at h
        subst h
        simp [stI, stB]
        omega
      · cases h
  · cases h
theorem some1 {a b : D} {x : Int} (h : x ∈ stI a) : x ∈ someI a b := by simp [someI, h]
theorem some2 {a b : D} {x : Int} (h : x ∈ stI b) : x ∈ someI a b := by simp [someI, h]
theorem some_len {a b : D} (ha : fault a = none) (hb : fault b = none) : (someI a b).length ≤ 15 := by
  have := stI_len ha
  have := stI_len hb
  simp [someI]
  omega
theorem some_same {a b : D} (ha : fault a = none) (hb : fault b = none) (hs : shI a = shI b) (h : ∀ x ∈ someI a b, aft a x = aft b x) : a = b := by
  have h1 := fun x hx => h _ (some1 (mem_st (x := x) hx).1)
  have h2 := fun x hx => h _ (some1 (mem_st (x := x) hx).2.2)
  have h3 := fun x hx => h _ (some2 (mem_st (x := x) hx).1)
  have h4 := fun x hx => h _ (some2 (mem_st (x := x) hx).2.2)
  clear h
  rcases fault_sorts ha with ⟨s, rfl⟩ | ⟨s, c, rfl⟩ | ⟨s, f, rfl⟩ | ⟨s, f, c, fc, rfl⟩ <;> rcases fault_sorts hb with ⟨t, rfl⟩ | ⟨t, e, rfl⟩ | ⟨t, g, rfl⟩ | ⟨t, g, e, ge, rfl⟩ <;>
    simp only [shI] at hs <;> subst hs <;> simp (disch := omega) [bendI, aft_nn, aft_ni, aft_in, aft_ii] at h1 h2 h3 h4 ⊢ <;> omega
theorem some_reach {a b : D} (ha : fault a = none) (hb : fault b = none) (hs : shI a = shI b) (hu : unlike a b = false) : Reach a b (someI a b) :=
  reach_of ha hb hs hu (by simp [someI]) (fun x hx => some1 (mem_st hx).2.1) (fun x hx => some2 (mem_st hx).2.1)
theorem to_chg : heardTo hl_law_x04_heard "BadChange" = some (("BadChange" : Str), ("BadChange" : Str), true) := by decide +kernel
theorem to_unl : heardTo hl_law_x04_heard "Unlike" = some (("Unlike" : Str), ("Unlike" : Str), true) := by decide +kernel
theorem in_chg : (("BadChange" : Str) ∈ errs) = True := by simp [errs]
theorem in_unl : (("Unlike" : Str) ∈ errs) = True := by simp [errs]
def c_sw : Con := fun ds S Q _ => match ds with
  | [.ref r, a, b] => (JS r S ∧ fault a = none ∧ fault b = none) ∧ ∀ S', JS r S' → Q (.bl true) S'
  | _ => False
/-- whether a and b part at x -/
abbrev part (a b : D) (x : Int) : Bool := !decide (aft a x = aft b x)
theorem part_symm (a b : D) (x : Int) : part b a x = part a b x := by
  unfold part
  by_cases h : aft a x = aft b x
  · simp [h]
  · have : ¬ aft b x = aft a x := fun e => h e.symm
    simp [h, this]
theorem bls_ok {f : Int → Bool} {L : List Int} : (D.lst (L.map fun x => .bl (f x))).okE 60 = true := by
  refine D.okE_mono _ (show 1 ≤ 60 by decide) (D.okE_lst (n := 0) fun d hd => ?_)
  obtain ⟨x, _, rfl⟩ := List.mem_map.mp hd
  rfl
theorem in_bls {f : Int → Bool} {L : List Int} : inD (.bl true) (L.map fun x => .bl (f x)) = L.any f := by
  unfold inD
  rw [List.any_map]
  congr 1
  funext x
  show eqD (.bl (f x)) (.bl true) = f x
  rw [eqD_bl]
  cases f x <;> rfl
theorem szs_bls {f : Int → Bool} : ∀ L : List Int, D.szs (L.map fun x => D.bl (f x)) = L.length
  | [] => rfl
  | x :: L => by simp only [List.map_cons, D.szs, D.sz, szs_bls L, List.length_cons]; omega
theorem h_sw (ds : List D) (S : Store) (Q : EK) (E : XKd) (hn : ds.length = 3) (h : c_sw ds S Q E) : m_law_x04_swap_right c_joined_of c_starts c_aft c_swap_at c_whole c_one c_swap_right c_same (startR 12 ds) S (retE Q E) := by
  unfold c_sw at h
  split at h
  · rename_i r a b
    obtain ⟨⟨hJ, ha, hb⟩, hQ⟩ := h
    have fa := fault_ok ha
    have fb := fault_ok hb
    have j1 := join_ok ha hb
    have j2 := join_ok hb ha
    try simp only [m_law_x04_swap_right, c_joined_of, mSeq, mSet, mM, mCall, mCons, mNil, mVar, mVarW, mC, mIfS, mIf, mRet, mRetN, mExpr, mPass, mRaise, mUnp, mPar, mPar2F, mSetF, mFrz, mApp, mExt, mPop, mSetIx, mBin, mBinT, mUn, mPrim, mT, mAndT, mOrT, mNotT, mAndV, mOrV, mNotV, mIsi, mLst, mDisp, mTup, mCell, mSl, mNo, mSome, mIt, mRng1, mRng2, mFor, mComp, mYes, mThru, mHeard, mBrk, mCont, mCh, mChT, mCh3, mCat, fAdd, fSub, fMul, fDiv, fMod, fPow, fNeg, fLt, fLe, fGt, fGe, fIsN, fNotN, fEq, fNe, fIn, fNin, fIx, fSl, fLen, fInt, fMax2, fMin2, fAbs, fList, fTuple, svK, svKw, sget, sset, startR, retE, isB, ownK, lstK, intK, seqK, unpT, setK, svOk, bN, bT, sputs, isN_non, isN_bl, isN_int, isN_str, isN_tup, isN_lst, isN_klst, if_true, if_false, Bool.false_eq_true, reduceIte, Bool.not_true, Bool.not_false, decide_true, decide_false, Bool.true_and, Bool.false_and, Bool.and_true, Bool.and_false, Bool.true_or, Bool.false_or, Bool.or_true, Bool.or_false, and_true, true_and, List.length_cons, List.length_nil, List.replicate_succ, List.replicate_zero, Nat.reduceSub]
    refine ⟨⟨ha, hb⟩, ⟨hb, ha⟩, by decide, ?_⟩
    try simp only [m_law_x04_swap_right_1, c_starts, mSeq, mSet, mM, mCall, mCons, mNil, mVar, mVarW, mC, mIfS, mIf, mRet, mRetN, mExpr, mPass, mRaise, mUnp, mPar, mPar2F, mSetF, mFrz, mApp, mExt, mPop, mSetIx, mBin, mBinT, mUn, mPrim, mT, mAndT, mOrT, mNotT, mAndV, mOrV, mNotV, mIsi, mLst, mDisp, mTup, mCell, mSl, mNo, mSome, mIt, mRng1, mRng2, mFor, mComp, mYes, mThru, mHeard, mBrk, mCont, mCh, mChT, mCh3, mCat, fAdd, fSub, fMul, fDiv, fMod, fPow, fNeg, fLt, fLe, fGt, fGe, fIsN, fNotN, fEq, fNe, fIn, fNin, fIx, fSl, fLen, fInt, fMax2, fMin2, fAbs, fList, fTuple, svK, svKw, sget, sset, startR, retE, isB, ownK, lstK, intK, seqK, unpT, setK, svOk, bN, bT, sputs, isN_non, isN_bl, isN_int, isN_str, isN_tup, isN_lst, isN_klst, if_true, if_false, Bool.false_eq_true, reduceIte, Bool.not_true, Bool.not_false, decide_true, decide_false, Bool.true_and, Bool.false_and, Bool.and_true, Bool.and_false, Bool.true_or, Bool.false_or, Bool.or_true, Bool.or_false, and_true, true_and, List.length_cons, List.length_nil, List.replicate_succ, List.replicate_zero, Nat.reduceSub]
    refine ⟨by decide, ⟨j1, j2⟩, ?_⟩
    have sl := some_len j1 j2
    have ssm := some_same j1 j2 (by rw [join_sh ha hb, join_sh hb ha]; omega)
    have jl := fun x => join_law ha hb x
    generalize hJ1 : joinD a b = A at *
    generalize hJ2 : joinD b a = B at *
    generalize hM : someI A B = M at *
    try simp only [m_law_x04_swap_right_2, swipe, mSeq, mSet, mM, mCall, mCons, mNil, mVar, mVarW, mC, mIfS, mIf, mRet, mRetN, mExpr, mPass, mRaise, mUnp, mPar, mPar2F, mSetF, mFrz, mApp, mExt, mPop, mSetIx, mBin, mBinT, mUn, mPrim, mT, mAndT, mOrT, mNotT, mAndV, mOrV, mNotV, mIsi, mLst, mDisp, mTup, mCell, mSl, mNo, mSome, mIt, mRng1, mRng2, mFor, mComp, mYes, mThru, mHeard, mBrk, mCont, mCh, mChT, mCh3, mCat, fAdd, fSub, fMul, fDiv, fMod, fPow, fNeg, fLt, fLe, fGt, fGe, fIsN, fNotN, fEq, fNe, fIn, fNin, fIx, fSl, fLen, fInt, fMax2, fMin2, fAbs, fList, fTuple, svK, svKw, sget, sset, startR, retE, isB, ownK, lstK, intK, seqK, unpT, setK, svOk, bN, bT, sputs, isN_non, isN_bl, isN_int, isN_str, isN_tup, isN_lst, isN_klst, if_true, if_false, Bool.false_eq_true, reduceIte, Bool.not_true, Bool.not_false, decide_true, decide_false, Bool.true_and, Bool.false_and, Bool.and_true, Bool.and_false, Bool.true_or, Bool.false_or, Bool.or_true, Bool.or_false, and_true, true_and, List.length_cons, List.length_nil, List.replicate_succ, List.replicate_zero, Nat.reduceSub]
    refine ⟨by simp [lim]; omega, ?_⟩
    refine lc_pure (fun d => match d with
      | .int x => .bl (part A B x)
      | _ => .non) _ (fun d hd q hq => ?_) ?_
    · obtain ⟨x, _, rfl⟩ := List.mem_map.mp hd
      try simp only [c_aft, eqD_int, mSeq, mSet, mM, mCall, mCons, mNil, mVar, mVarW, mC, mIfS, mIf, mRet, mRetN, mExpr, mPass, mRaise, mUnp, mPar, mPar2F, mSetF, mFrz, mApp, mExt, mPop, mSetIx, mBin, mBinT, mUn, mPrim, mT, mAndT, mOrT, mNotT, mAndV, mOrV, mNotV, mIsi, mLst, mDisp, mTup, mCell, mSl, mNo, mSome, mIt, mRng1, mRng2, mFor, mComp, mYes, mThru, mHeard, mBrk, mCont, mCh, mChT, mCh3, mCat, fAdd, fSub, fMul, fDiv, fMod, fPow, fNeg, fLt, fLe, fGt, fGe, fIsN, fNotN, fEq, fNe, fIn, fNin, fIx, fSl, fLen, fInt, fMax2, fMin2, fAbs, fList, fTuple, svK, svKw, sget, sset, startR, retE, isB, ownK, lstK, intK, seqK, unpT, setK, svOk, bN, bT, sputs, isN_non, isN_bl, isN_int, isN_str, isN_tup, isN_lst, isN_klst, if_true, if_false, Bool.false_eq_true, reduceIte, Bool.not_true, Bool.not_false, decide_true, decide_false, Bool.true_and, Bool.false_and, Bool.and_true, Bool.and_false, Bool.true_or, Bool.false_or, Bool.or_true, Bool.or_false, and_true, true_and, List.length_cons, List.length_nil, List.replicate_succ, List.replicate_zero, Nat.reduceSub]
      exact ⟨j1, j2, ⟨by simp [D.okE], by simp [D.okE]⟩, hq⟩
    have e1 : (M.map D.int).map (fun d => match d with
      | .int x => D.bl (part A B x)
      | _ => .non) = M.map fun x => .bl (part A B x) := by simp
    rw [e1]
    try simp only [m_law_x04_swap_right_3, swipe, mSeq, mSet, mM, mCall, mCons, mNil, mVar, mVarW, mC, mIfS, mIf, mRet, mRetN, mExpr, mPass, mRaise, mUnp, mPar, mPar2F, mSetF, mFrz, mApp, mExt, mPop, mSetIx, mBin, mBinT, mUn, mPrim, mT, mAndT, mOrT, mNotT, mAndV, mOrV, mNotV, mIsi, mLst, mDisp, mTup, mCell, mSl, mNo, mSome, mIt, mRng1, mRng2, mFor, mComp, mYes, mThru, mHeard, mBrk, mCont, mCh, mChT, mCh3, mCat, fAdd, fSub, fMul, fDiv, fMod, fPow, fNeg, fLt, fLe, fGt, fGe, fIsN, fNotN, fEq, fNe, fIn, fNin, fIx, fSl, fLen, fInt, fMax2, fMin2, fAbs, fList, fTuple, svK, svKw, sget, sset, startR, retE, isB, ownK, lstK, intK, seqK, unpT, setK, svOk, bN, bT, sputs, isN_non, isN_bl, isN_int, isN_str, isN_tup, isN_lst, isN_klst, if_true, if_false, Bool.false_eq_true, reduceIte, Bool.not_true, Bool.not_false, decide_true, decide_false, Bool.true_and, Bool.false_and, Bool.and_true, Bool.and_false, Bool.true_or, Bool.false_or, Bool.or_true, Bool.or_false, and_true, true_and, List.length_cons, List.length_nil, List.replicate_succ, List.replicate_zero, Nat.reduceSub]
    refine ⟨by simp [lim]; omega, ?_⟩
    refine lc_none _ (fun d hd q hq => ?_) ?_
    · obtain ⟨x, _, rfl⟩ := List.mem_map.mp hd
      try simp only [c_aft, eqD_int, jl, mSeq, mSet, mM, mCall, mCons, mNil, mVar, mVarW, mC, mIfS, mIf, mRet, mRetN, mExpr, mPass, mRaise, mUnp, mPar, mPar2F, mSetF, mFrz, mApp, mExt, mPop, mSetIx, mBin, mBinT, mUn, mPrim, mT, mAndT, mOrT, mNotT, mAndV, mOrV, mNotV, mIsi, mLst, mDisp, mTup, mCell, mSl, mNo, mSome, mIt, mRng1, mRng2, mFor, mComp, mYes, mThru, mHeard, mBrk, mCont, mCh, mChT, mCh3, mCat, fAdd, fSub, fMul, fDiv, fMod, fPow, fNeg, fLt, fLe, fGt, fGe, fIsN, fNotN, fEq, fNe, fIn, fNin, fIx, fSl, fLen, fInt, fMax2, fMin2, fAbs, fList, fTuple, svK, svKw, sget, sset, startR, retE, isB, ownK, lstK, intK, seqK, unpT, setK, svOk, bN, bT, sputs, isN_non, isN_bl, isN_int, isN_str, isN_tup, isN_lst, isN_klst, if_true, if_false, Bool.false_eq_true, reduceIte, Bool.not_true, Bool.not_false, decide_true, decide_false, Bool.true_and, Bool.false_and, Bool.and_true, Bool.and_false, Bool.true_or, Bool.false_or, Bool.or_true, Bool.or_false, and_true, true_and, List.length_cons, List.length_nil, List.replicate_succ, List.replicate_zero, Nat.reduceSub]
      refine ⟨j1, ha, hb, ⟨by simp [D.okE], by simp [D.okE]⟩, ?_⟩
      simpa using hq
    try simp only [eqD_nil, mSeq, mSet, mM, mCall, mCons, mNil, mVar, mVarW, mC, mIfS, mIf, mRet, mRetN, mExpr, mPass, mRaise, mUnp, mPar, mPar2F, mSetF, mFrz, mApp, mExt, mPop, mSetIx, mBin, mBinT, mUn, mPrim, mT, mAndT, mOrT, mNotT, mAndV, mOrV, mNotV, mIsi, mLst, mDisp, mTup, mCell, mSl, mNo, mSome, mIt, mRng1, mRng2, mFor, mComp, mYes, mThru, mHeard, mBrk, mCont, mCh, mChT, mCh3, mCat, fAdd, fSub, fMul, fDiv, fMod, fPow, fNeg, fLt, fLe, fGt, fGe, fIsN, fNotN, fEq, fNe, fIn, fNin, fIx, fSl, fLen, fInt, fMax2, fMin2, fAbs, fList, fTuple, svK, svKw, sget, sset, startR, retE, isB, ownK, lstK, intK, seqK, unpT, setK, svOk, bN, bT, sputs, isN_non, isN_bl, isN_int, isN_str, isN_tup, isN_lst, isN_klst, if_true, if_false, Bool.false_eq_true, reduceIte, Bool.not_true, Bool.not_false, decide_true, decide_false, Bool.true_and, Bool.false_and, Bool.and_true, Bool.and_false, Bool.true_or, Bool.false_or, Bool.or_true, Bool.or_false, and_true, true_and, List.length_cons, List.length_nil, List.replicate_succ, List.replicate_zero, Nat.reduceSub]
    refine ⟨by decide, ⟨by decide, by decide⟩, ?_⟩
    try simp only [m_law_x04_swap_right_4, c_swap_at, mHeard, ha, hb, hJ1, hJ2, mSeq, mSet, mM, mCall, mCons, mNil, mVar, mVarW, mC, mIfS, mIf, mRet, mRetN, mExpr, mPass, mRaise, mUnp, mPar, mPar2F, mSetF, mFrz, mApp, mExt, mPop, mSetIx, mBin, mBinT, mUn, mPrim, mT, mAndT, mOrT, mNotT, mAndV, mOrV, mNotV, mIsi, mLst, mDisp, mTup, mCell, mSl, mNo, mSome, mIt, mRng1, mRng2, mFor, mComp, mYes, mThru, mHeard, mBrk, mCont, mCh, mChT, mCh3, mCat, fAdd, fSub, fMul, fDiv, fMod, fPow, fNeg, fLt, fLe, fGt, fGe, fIsN, fNotN, fEq, fNe, fIn, fNin, fIx, fSl, fLen, fInt, fMax2, fMin2, fAbs, fList, fTuple, svK, svKw, sget, sset, startR, retE, isB, ownK, lstK, intK, seqK, unpT, setK, svOk, bN, bT, sputs, isN_non, isN_bl, isN_int, isN_str, isN_tup, isN_lst, isN_klst, if_true, if_false, Bool.false_eq_true, reduceIte, Bool.not_true, Bool.not_false, decide_true, decide_false, Bool.true_and, Bool.false_and, Bool.and_true, Bool.and_false, Bool.true_or, Bool.false_or, Bool.or_true, Bool.or_false, and_true, true_and, List.length_cons, List.length_nil, List.replicate_succ, List.replicate_zero, Nat.reduceSub]
    -- behind swap_at
    have rest : ∀ (w : D) (h5 : w = .non → M.any (part A B) = false) (h6 : ∀ x, w = .int x → M.any (part A B) = true ∧ part A B x = true) (h7 : w = .non ∨ ∃ x, w = .int x),
        m_law_x04_swap_right_5 c_joined_of c_starts c_aft c_swap_at c_whole c_one c_swap_right c_same [.val (.ref r), .val a, .val b, .val (.lst (M.map .int)), .own (M.map fun x => .bl (part A B x)), .un, .un, .val A, .val B, .val (.str toldS), .val w, .un] S { nx := fun x S => Q D.non S, rt := Q, ex := fun c d x S => E c d S } := fun w h5 h6 h7 => by
      try simp only [m_law_x04_swap_right_5, eqD_str, toldS, str_beq, in_bls, eqD_bl, mSeq, mSet, mM, mCall, mCons, mNil, mVar, mVarW, mC, mIfS, mIf, mRet, mRetN, mExpr, mPass, mRaise, mUnp, mPar, mPar2F, mSetF, mFrz, mApp, mExt, mPop, mSetIx, mBin, mBinT, mUn, mPrim, mT, mAndT, mOrT, mNotT, mAndV, mOrV, mNotV, mIsi, mLst, mDisp, mTup, mCell, mSl, mNo, mSome, mIt, mRng1, mRng2, mFor, mComp, mYes, mThru, mHeard, mBrk, mCont, mCh, mChT, mCh3, mCat, fAdd, fSub, fMul, fDiv, fMod, fPow, fNeg, fLt, fLe, fGt, fGe, fIsN, fNotN, fEq, fNe, fIn, fNin, fIx, fSl, fLen, fInt, fMax2, fMin2, fAbs, fList, fTuple, svK, svKw, sget, sset, startR, retE, isB, ownK, lstK, intK, seqK, unpT, setK, svOk, bN, bT, sputs, isN_non, isN_bl, isN_int, isN_str, isN_tup, isN_lst, isN_klst, if_true, if_false, Bool.false_eq_true, reduceIte, Bool.not_true, Bool.not_false, decide_true, decide_false, Bool.true_and, Bool.false_and, Bool.and_true, Bool.and_false, Bool.true_or, Bool.false_or, Bool.or_true, Bool.or_false, and_true, true_and, List.length_cons, List.length_nil, List.replicate_succ, List.replicate_zero, Nat.reduceSub]
      refine ⟨⟨by decide +kernel, by decide +kernel⟩, ⟨by decide, bls_ok⟩, ⟨by simp [D.okE], by simp [D.okE]⟩, ?_⟩
      have tail : m_law_x04_swap_right_7 c_joined_of c_starts c_aft c_swap_at c_whole c_one c_swap_right c_same [.val (.ref r), .val a, .val b, .val (.lst (M.map .int)), .own (M.map fun x => .bl (part A B x)), .un, .un, .val A, .val B, .val (.str "told"), .val w, .un] S { nx := fun x S => Q D.non S, rt := Q, ex := fun c d x S => E c d S } := by
        try simp only [m_law_x04_swap_right_7, c_one, mSeq, mSet, mM, mCall, mCons, mNil, mVar, mVarW, mC, mIfS, mIf, mRet, mRetN, mExpr, mPass, mRaise, mUnp, mPar, mPar2F, mSetF, mFrz, mApp, mExt, mPop, mSetIx, mBin, mBinT, mUn, mPrim, mT, mAndT, mOrT, mNotT, mAndV, mOrV, mNotV, mIsi, mLst, mDisp, mTup, mCell, mSl, mNo, mSome, mIt, mRng1, mRng2, mFor, mComp, mYes, mThru, mHeard, mBrk, mCont, mCh, mChT, mCh3, mCat, fAdd, fSub, fMul, fDiv, fMod, fPow, fNeg, fLt, fLe, fGt, fGe, fIsN, fNotN, fEq, fNe, fIn, fNin, fIx, fSl, fLen, fInt, fMax2, fMin2, fAbs, fList, fTuple, svK, svKw, sget, sset, startR, retE, isB, ownK, lstK, intK, seqK, unpT, setK, svOk, bN, bT, sputs, isN_non, isN_bl, isN_int, isN_str, isN_tup, isN_lst, isN_klst, if_true, if_false, Bool.false_eq_true, reduceIte, Bool.not_true, Bool.not_false, decide_true, decide_false, Bool.true_and, Bool.false_and, Bool.and_true, Bool.and_false, Bool.true_or, Bool.false_or, Bool.or_true, Bool.or_false, and_true, true_and, List.length_cons, List.length_nil, List.replicate_succ, List.replicate_zero, Nat.reduceSub]
        refine ⟨by decide, by decide, hJ, ⟨by decide, by decide⟩, fun o ho S4 J4 => ?_⟩
        have ow : o.wh = false ∧ ∀ a, o ≠ .ref a := by
          simp at ho
          rcases ho with rfl | rfl | rfl | rfl <;> exact ⟨rfl, nofun⟩
        obtain ⟨o1, o4⟩ := ow
        try simp only [m_law_x04_swap_right_8, mHeard, swipe, mSeq, mSet, mM, mCall, mCons, mNil, mVar, mVarW, mC, mIfS, mIf, mRet, mRetN, mExpr, mPass, mRaise, mUnp, mPar, mPar2F, mSetF, mFrz, mApp, mExt, mPop, mSetIx, mBin, mBinT, mUn, mPrim, mT, mAndT, mOrT, mNotT, mAndV, mOrV, mNotV, mIsi, mLst, mDisp, mTup, mCell, mSl, mNo, mSome, mIt, mRng1, mRng2, mFor, mComp, mYes, mThru, mHeard, mBrk, mCont, mCh, mChT, mCh3, mCat, fAdd, fSub, fMul, fDiv, fMod, fPow, fNeg, fLt, fLe, fGt, fGe, fIsN, fNotN, fEq, fNe, fIn, fNin, fIx, fSl, fLen, fInt, fMax2, fMin2, fAbs, fList, fTuple, svK, svKw, sget, sset, startR, retE, isB, ownK, lstK, intK, seqK, unpT, setK, svOk, bN, bT, sputs, isN_non, isN_bl, isN_int, isN_str, isN_tup, isN_lst, isN_klst, if_true, if_false, Bool.false_eq_true, reduceIte, Bool.not_true, Bool.not_false, decide_true, decide_false, Bool.true_and, Bool.false_and, Bool.and_true, Bool.and_false, Bool.true_or, Bool.false_or, Bool.or_true, Bool.or_false, and_true, true_and, List.length_cons, List.length_nil, List.replicate_succ, List.replicate_zero, Nat.reduceSub]
        refine ⟨by simp [lim]; omega, ?_⟩
        refine lc_pure (fun d => match d with
          | .int x => .bl (part A B x)
          | _ => .non) _ (fun d hd q hq => ?_) ?_
        · obtain ⟨x, _, rfl⟩ := List.mem_map.mp hd
          try simp only [c_swap_right, ha, hb, D.wh, D.num, hJ1, hJ2, mSeq, mSet, mM, mCall, mCons, mNil, mVar, mVarW, mC, mIfS, mIf, mRet, mRetN, mExpr, mPass, mRaise, mUnp, mPar, mPar2F, mSetF, mFrz, mApp, mExt, mPop, mSetIx, mBin, mBinT, mUn, mPrim, mT, mAndT, mOrT, mNotT, mAndV, mOrV, mNotV, mIsi, mLst, mDisp, mTup, mCell, mSl, mNo, mSome, mIt, mRng1, mRng2, mFor, mComp, mYes, mThru, mHeard, mBrk, mCont, mCh, mChT, mCh3, mCat, fAdd, fSub, fMul, fDiv, fMod, fPow, fNeg, fLt, fLe, fGt, fGe, fIsN, fNotN, fEq, fNe, fIn, fNin, fIx, fSl, fLen, fInt, fMax2, fMin2, fAbs, fList, fTuple, svK, svKw, sget, sset, startR, retE, isB, ownK, lstK, intK, seqK, unpT, setK, svOk, bN, bT, sputs, isN_non, isN_bl, isN_int, isN_str, isN_tup, isN_lst, isN_klst, if_true, if_false, Bool.false_eq_true, reduceIte, Bool.not_true, Bool.not_false, decide_true, decide_false, Bool.true_and, Bool.false_and, Bool.and_true, Bool.and_false, Bool.true_or, Bool.false_or, Bool.or_true, Bool.or_false, and_true, true_and, List.length_cons, List.length_nil, List.replicate_succ, List.replicate_zero, Nat.reduceSub]
          exact ⟨fa.1 39, fb.1 39, nofun, hq⟩
        rw [e1]
        refine ⟨by decide, ?_⟩
        try simp only [m_law_x04_swap_right_9, mHeard, swipe, mSeq, mSet, mM, mCall, mCons, mNil, mVar, mVarW, mC, mIfS, mIf, mRet, mRetN, mExpr, mPass, mRaise, mUnp, mPar, mPar2F, mSetF, mFrz, mApp, mExt, mPop, mSetIx, mBin, mBinT, mUn, mPrim, mT, mAndT, mOrT, mNotT, mAndV, mOrV, mNotV, mIsi, mLst, mDisp, mTup, mCell, mSl, mNo, mSome, mIt, mRng1, mRng2, mFor, mComp, mYes, mThru, mHeard, mBrk, mCont, mCh, mChT, mCh3, mCat, fAdd, fSub, fMul, fDiv, fMod, fPow, fNeg, fLt, fLe, fGt, fGe, fIsN, fNotN, fEq, fNe, fIn, fNin, fIx, fSl, fLen, fInt, fMax2, fMin2, fAbs, fList, fTuple, svK, svKw, sget, sset, startR, retE, isB, ownK, lstK, intK, seqK, unpT, setK, svOk, bN, bT, sputs, isN_non, isN_bl, isN_int, isN_str, isN_tup, isN_lst, isN_klst, if_true, if_false, Bool.false_eq_true, reduceIte, Bool.not_true, Bool.not_false, decide_true, decide_false, Bool.true_and, Bool.false_and, Bool.and_true, Bool.and_false, Bool.true_or, Bool.false_or, Bool.or_true, Bool.or_false, and_true, true_and, List.length_cons, List.length_nil, List.replicate_succ, List.replicate_zero, Nat.reduceSub]
        refine ⟨by simp [lim]; omega, ?_⟩
        refine lc_pure (fun d => match d with
          | .int x => .bl (part A B x)
          | _ => .non) _ (fun d hd q hq => ?_) ?_
        · obtain ⟨x, _, rfl⟩ := List.mem_map.mp hd
          try simp only [c_swap_right, ha, hb, D.wh, D.num, hJ1, hJ2, mSeq, mSet, mM, mCall, mCons, mNil, mVar, mVarW, mC, mIfS, mIf, mRet, mRetN, mExpr, mPass, mRaise, mUnp, mPar, mPar2F, mSetF, mFrz, mApp, mExt, mPop, mSetIx, mBin, mBinT, mUn, mPrim, mT, mAndT, mOrT, mNotT, mAndV, mOrV, mNotV, mIsi, mLst, mDisp, mTup, mCell, mSl, mNo, mSome, mIt, mRng1, mRng2, mFor, mComp, mYes, mThru, mHeard, mBrk, mCont, mCh, mChT, mCh3, mCat, fAdd, fSub, fMul, fDiv, fMod, fPow, fNeg, fLt, fLe, fGt, fGe, fIsN, fNotN, fEq, fNe, fIn, fNin, fIx, fSl, fLen, fInt, fMax2, fMin2, fAbs, fList, fTuple, svK, svKw, sget, sset, startR, retE, isB, ownK, lstK, intK, seqK, unpT, setK, svOk, bN, bT, sputs, isN_non, isN_bl, isN_int, isN_str, isN_tup, isN_lst, isN_klst, if_true, if_false, Bool.false_eq_true, reduceIte, Bool.not_true, Bool.not_false, decide_true, decide_false, Bool.true_and, Bool.false_and, Bool.and_true, Bool.and_false, Bool.true_or, Bool.false_or, Bool.or_true, Bool.or_false, and_true, true_and, List.length_cons, List.length_nil, List.replicate_succ, List.replicate_zero, Nat.reduceSub]
          refine ⟨fb.1 39, fa.1 39, nofun, ?_⟩
          have := part_symm A B x
          unfold part at this hq
          rw [this]
          exact hq
        rw [e1]
        refine ⟨by simp [lim], ?_⟩
        try simp only [m_law_x04_swap_right_10, c_swap_right, mHeard, ha, hb, o1, mSeq, mSet, mM, mCall, mCons, mNil, mVar, mVarW, mC, mIfS, mIf, mRet, mRetN, mExpr, mPass, mRaise, mUnp, mPar, mPar2F, mSetF, mFrz, mApp, mExt, mPop, mSetIx, mBin, mBinT, mUn, mPrim, mT, mAndT, mOrT, mNotT, mAndV, mOrV, mNotV, mIsi, mLst, mDisp, mTup, mCell, mSl, mNo, mSome, mIt, mRng1, mRng2, mFor, mComp, mYes, mThru, mHeard, mBrk, mCont, mCh, mChT, mCh3, mCat, fAdd, fSub, fMul, fDiv, fMod, fPow, fNeg, fLt, fLe, fGt, fGe, fIsN, fNotN, fEq, fNe, fIn, fNin, fIx, fSl, fLen, fInt, fMax2, fMin2, fAbs, fList, fTuple, svK, svKw, sget, sset, startR, retE, isB, ownK, lstK, intK, seqK, unpT, setK, svOk, bN, bT, sputs, isN_non, isN_bl, isN_int, isN_str, isN_tup, isN_lst, isN_klst, if_true, if_false, Bool.false_eq_true, reduceIte, Bool.not_true, Bool.not_false, decide_true, decide_false, Bool.true_and, Bool.false_and, Bool.and_true, Bool.and_false, Bool.true_or, Bool.false_or, Bool.or_true, Bool.or_false, and_true, true_and, List.length_cons, List.length_nil, List.replicate_succ, List.replicate_zero, Nat.reduceSub]
        refine ⟨fa.1 39, fb.1 39, o4, by simp [lim], ?_⟩
        try simp only [m_law_x04_swap_right_11, c_same, mSeq, mSet, mM, mCall, mCons, mNil, mVar, mVarW, mC, mIfS, mIf, mRet, mRetN, mExpr, mPass, mRaise, mUnp, mPar, mPar2F, mSetF, mFrz, mApp, mExt, mPop, mSetIx, mBin, mBinT, mUn, mPrim, mT, mAndT, mOrT, mNotT, mAndV, mOrV, mNotV, mIsi, mLst, mDisp, mTup, mCell, mSl, mNo, mSome, mIt, mRng1, mRng2, mFor, mComp, mYes, mThru, mHeard, mBrk, mCont, mCh, mChT, mCh3, mCat, fAdd, fSub, fMul, fDiv, fMod, fPow, fNeg, fLt, fLe, fGt, fGe, fIsN, fNotN, fEq, fNe, fIn, fNin, fIx, fSl, fLen, fInt, fMax2, fMin2, fAbs, fList, fTuple, svK, svKw, sget, sset, startR, retE, isB, ownK, lstK, intK, seqK, unpT, setK, svOk, bN, bT, sputs, isN_non, isN_bl, isN_int, isN_str, isN_tup, isN_lst, isN_klst, if_true, if_false, Bool.false_eq_true, reduceIte, Bool.not_true, Bool.not_false, decide_true, decide_false, Bool.true_and, Bool.false_and, Bool.and_true, Bool.and_false, Bool.true_or, Bool.false_or, Bool.or_true, Bool.or_false, and_true, true_and, List.length_cons, List.length_nil, List.replicate_succ, List.replicate_zero, Nat.reduceSub]
        refine ⟨by decide, by simp [lim], by decide, by decide, ⟨rfl, ?_, ?_⟩, hQ _ J4⟩
        · have t1 : (D.str toldS).okE 40 = true := by decide +kernel
          have t2 : (D.lst (M.map fun x => D.bl (part A B x))).okE 40 = true := D.okE_mono _ (show 1 ≤ 40 by decide) (D.okE_lst (n := 0) fun d hd => by
            obtain ⟨x, _, rfl⟩ := List.mem_map.mp hd
            rfl)
          refine D.okE_mono _ (show 42 ≤ 50 by decide) (D.okE_lst fun d hd => ?_)
          simp at hd
          rcases hd with rfl | rfl <;> refine D.okE_tup fun y hy => ?_ <;> simp only [List.mem_cons, List.not_mem_nil, or_false] at hy <;> rcases hy with rfl | rfl <;> first | exact t1 | exact t2 | rfl
        · have z := szs_bls (f := part A B) M
          simp only [D.sz, D.szs, z, lim, List.append_eq, List.cons_append, List.nil_append]
          omega
      rcases h7 with rfl | ⟨x, rfl⟩
      · rw [h5 rfl]
        try simp only [m_law_x04_swap_right_6, mSeq, mSet, mM, mCall, mCons, mNil, mVar, mVarW, mC, mIfS, mIf, mRet, mRetN, mExpr, mPass, mRaise, mUnp, mPar, mPar2F, mSetF, mFrz, mApp, mExt, mPop, mSetIx, mBin, mBinT, mUn, mPrim, mT, mAndT, mOrT, mNotT, mAndV, mOrV, mNotV, mIsi, mLst, mDisp, mTup, mCell, mSl, mNo, mSome, mIt, mRng1, mRng2, mFor, mComp, mYes, mThru, mHeard, mBrk, mCont, mCh, mChT, mCh3, mCat, fAdd, fSub, fMul, fDiv, fMod, fPow, fNeg, fLt, fLe, fGt, fGe, fIsN, fNotN, fEq, fNe, fIn, fNin, fIx, fSl, fLen, fInt, fMax2, fMin2, fAbs, fList, fTuple, svK, svKw, sget, sset, startR, retE, isB, ownK, lstK, intK, seqK, unpT, setK, svOk, bN, bT, sputs, isN_non, isN_bl, isN_int, isN_str, isN_tup, isN_lst, isN_klst, if_true, if_false, Bool.false_eq_true, reduceIte, Bool.not_true, Bool.not_false, decide_true, decide_false, Bool.true_and, Bool.false_and, Bool.and_true, Bool.and_false, Bool.true_or, Bool.false_or, Bool.or_true, Bool.or_false, and_true, true_and, List.length_cons, List.length_nil, List.replicate_succ, List.replicate_zero, Nat.reduceSub]
        exact tail
      · obtain ⟨q1, q2⟩ := h6 x rfl
        rw [q1]
        have q3 : decide (aft A x = aft B x) = false := by
          cases q : decide (aft A x = aft B x) with
          | false => rfl
          | true => unfold part at q2; rw [q] at q2; cases q2
        try simp only [m_law_x04_swap_right_6, c_whole, D.wh, c_aft, eqD_int, q3, beq_self_eq_true, mSeq, mSet, mM, mCall, mCons, mNil, mVar, mVarW, mC, mIfS, mIf, mRet, mRetN, mExpr, mPass, mRaise, mUnp, mPar, mPar2F, mSetF, mFrz, mApp, mExt, mPop, mSetIx, mBin, mBinT, mUn, mPrim, mT, mAndT, mOrT, mNotT, mAndV, mOrV, mNotV, mIsi, mLst, mDisp, mTup, mCell, mSl, mNo, mSome, mIt, mRng1, mRng2, mFor, mComp, mYes, mThru, mHeard, mBrk, mCont, mCh, mChT, mCh3, mCat, fAdd, fSub, fMul, fDiv, fMod, fPow, fNeg, fLt, fLe, fGt, fGe, fIsN, fNotN, fEq, fNe, fIn, fNin, fIx, fSl, fLen, fInt, fMax2, fMin2, fAbs, fList, fTuple, svK, svKw, sget, sset, startR, retE, isB, ownK, lstK, intK, seqK, unpT, setK, svOk, bN, bT, sputs, isN_non, isN_bl, isN_int, isN_str, isN_tup, isN_lst, isN_klst, if_true, if_false, Bool.false_eq_true, reduceIte, Bool.not_true, Bool.not_false, decide_true, decide_false, Bool.true_and, Bool.false_and, Bool.and_true, Bool.and_false, Bool.true_or, Bool.false_or, Bool.or_true, Bool.or_false, and_true, true_and, List.length_cons, List.length_nil, List.replicate_succ, List.replicate_zero, Nat.reduceSub]
        exact ⟨nofun, j1, j2, ⟨by simp [D.okE], by simp [D.okE]⟩, tail⟩
    refine ⟨fa.1 39, fb.1 39, fun e => ?_, fun x hx => ?_⟩
    · refine rest .non (fun _ => ?_) (fun x z => by cases z) (.inl rfl)
      rw [e]
      simp [part]
    · refine rest (.int x) (fun z => by cases z) (fun y z => ?_) (.inr ⟨x, rfl⟩)
      cases z
      refine ⟨?_, by simp [part, hx]⟩
      cases q : M.any (part A B) with
      | true => rfl
      | false =>
        refine absurd (ssm fun y hy => ?_) (fun e => hx (by rw [e]))
        have := List.any_eq_false.mp q y hy
        simpa [part] using this
  · exact h.elim
end LK04

set_option Elab.async false
set_option linter.all false
set_option maxRecDepth 100000
set_option maxHeartbeats 4000000
namespace LK04
open PySem PySem.Spec PyProof.Rows L2 TL

theorem gap1_symm (a b : D) : gap1 a b = gap1 b a := by
  cases a <;> cases b <;> simp only [gap1]
  (repeat' split) <;> omega
theorem gap_symm {a b : D} (ha : fault a = none) (hb : fault b = none) : gapD b a = gapD a b := by
  obtain ⟨s, f, c, rfl, _⟩ := fault_none ha
  obtain ⟨t, g, e, rfl, _⟩ := fault_none hb
  unfold gapD
  have e1 : unlike (.tup [.int t, g, e]) (.tup [.int s, f, c]) = unlike (.tup [.int s, f, c]) (.tup [.int t, g, e]) := by
    show (unl g f || unl e c) = (unl f g || unl c e)
    unfold unl
    cases g.isN <;> cases f.isN <;> cases e.isN <;> cases c.isN <;> rfl
  have e2 : gapI (.tup [.int t, g, e]) (.tup [.int s, f, c]) = gapI (.tup [.int s, f, c]) (.tup [.int t, g, e]) := by
    show (if gap1 g f < gap1 e c then gap1 e c else gap1 g f) = (if gap1 f g < gap1 c e then gap1 c e else gap1 f g)
    rw [gap1_symm g f, gap1_symm e c]
  rw [e1, e2]
theorem gap_ok (a b : D) : (gapD a b).okE 30 = true ∧ (gapD a b).sz = 1 := by
  unfold gapD
  split <;> simp [D.okE, D.sz]
theorem h_apart (ds : List D) (S : Store) (Q : EK) (E : XKd) (hn : ds.length = 3) (h : c_sw ds S Q E) : m_law_x04_apart_right c_starts c_aft c_most c_one c_swap_at c_swap_right c_same (startR 10 ds) S (retE Q E) := by
  unfold c_sw at h
  split at h
  · rename_i r a b
    obtain ⟨⟨hJ, ha, hb⟩, hQ⟩ := h
    have fa := fault_ok ha
    obtain ⟨s, f, c, rfl, of, oc, ab⟩ := fault_none ha
    obtain ⟨t, g, e, rfl, og, oe, cd⟩ := fault_none hb
    have e1 : cutA [D.int t, g, e] (some 1) none = [g, e] := by simp [cutA, HT.sIx]
    have ho : ∀ u, fault (.tup [.int u, g, e]) = none := fun u => by simp [fault_tup, D.wh, og, oe, cd]
    simp only [m_law_x04_apart_right, mSeq, mSet, mM, mCall, mCons, mNil, mVar, mVarW, mC, mIfS, mIf, mRet, mRetN, mExpr, mPass, mRaise, mUnp, mPar, mPar2F, mSetF, mFrz, mApp, mExt, mPop, mSetIx, mBin, mBinT, mUn, mPrim, mT, mAndT, mOrT, mNotT, mAndV, mOrV, mNotV, mIsi, mLst, mDisp, mTup, mCell, mSl, mNo, mSome, mIt, mRng1, mRng2, mFor, mComp, mYes, mThru, mHeard, mBrk, mCont, mCh, mChT, mCh3, mCat, fAdd, fSub, fMul, fDiv, fMod, fPow, fNeg, fLt, fLe, fGt, fGe, fIsN, fNotN, fEq, fNe, fIn, fNin, fIx, fSl, fLen, fInt, fMax2, fMin2, fAbs, fList, fTuple, svK, svKw, sget, sset, startR, retE, isB, ownK, lstK, intK, seqK, unpT, setK, svOk, bN, bT, sputs, isN_non, isN_bl, isN_int, isN_str, isN_tup, isN_lst, isN_klst, if_true, if_false, Bool.false_eq_true, reduceIte, Bool.not_true, Bool.not_false, decide_true, decide_false, Bool.true_and, Bool.false_and, Bool.and_true, Bool.and_false, Bool.true_or, Bool.false_or, Bool.or_true, Bool.or_false, and_true, true_and, List.length_cons, List.length_nil, List.replicate_succ, List.replicate_zero, Nat.reduceSub, e1]
    refine ⟨_, at0, by decide, by decide, ?_⟩
    have ho1 := ho s
    have fo := fault_ok ho1
    have hs : shI (.tup [.int s, f, c]) = shI (.tup [.int s, g, e]) := rfl
    have sl := some_len ha ho1
    try simp only [m_law_x04_apart_right_1, c_starts, mSeq, mSet, mM, mCall, mCons, mNil, mVar, mVarW, mC, mIfS, mIf, mRet, mRetN, mExpr, mPass, mRaise, mUnp, mPar, mPar2F, mSetF, mFrz, mApp, mExt, mPop, mSetIx, mBin, mBinT, mUn, mPrim, mT, mAndT, mOrT, mNotT, mAndV, mOrV, mNotV, mIsi, mLst, mDisp, mTup, mCell, mSl, mNo, mSome, mIt, mRng1, mRng2, mFor, mComp, mYes, mThru, mHeard, mBrk, mCont, mCh, mChT, mCh3, mCat, fAdd, fSub, fMul, fDiv, fMod, fPow, fNeg, fLt, fLe, fGt, fGe, fIsN, fNotN, fEq, fNe, fIn, fNin, fIx, fSl, fLen, fInt, fMax2, fMin2, fAbs, fList, fTuple, svK, svKw, sget, sset, startR, retE, isB, ownK, lstK, intK, seqK, unpT, setK, svOk, bN, bT, sputs, isN_non, isN_bl, isN_int, isN_str, isN_tup, isN_lst, isN_klst, if_true, if_false, Bool.false_eq_true, reduceIte, Bool.not_true, Bool.not_false, decide_true, decide_false, Bool.true_and, Bool.false_and, Bool.and_true, Bool.and_false, Bool.true_or, Bool.false_or, Bool.or_true, Bool.or_false, and_true, true_and, List.length_cons, List.length_nil, List.replicate_succ, List.replicate_zero, Nat.reduceSub]
    refine ⟨by decide, ⟨ha, ho1⟩, ?_⟩
    have rc := fun hu => some_reach ha ho1 hs hu
    have sne : someI (.tup [.int s, f, c]) (.tup [.int s, g, e]) ≠ [] := by simp [someI]
    have gs := gap_symm ha ho1
    have gk := gap_ok (.tup [.int s, f, c]) (.tup [.int s, g, e])
    have ha40 := fa.1 39
    have ho40 := fo.1 39
    generalize hA : D.tup [.int s, f, c] = A at *
    have e4 : D.tup ([.int s] ++ [g, e]) = D.tup [.int s, g, e] := rfl
    rw [e4]
    generalize hB : D.tup [.int s, g, e] = B at *
    generalize hM : someI A B = M at *
    try simp only [m_law_x04_apart_right_2, swipe, mSeq, mSet, mM, mCall, mCons, mNil, mVar, mVarW, mC, mIfS, mIf, mRet, mRetN, mExpr, mPass, mRaise, mUnp, mPar, mPar2F, mSetF, mFrz, mApp, mExt, mPop, mSetIx, mBin, mBinT, mUn, mPrim, mT, mAndT, mOrT, mNotT, mAndV, mOrV, mNotV, mIsi, mLst, mDisp, mTup, mCell, mSl, mNo, mSome, mIt, mRng1, mRng2, mFor, mComp, mYes, mThru, mHeard, mBrk, mCont, mCh, mChT, mCh3, mCat, fAdd, fSub, fMul, fDiv, fMod, fPow, fNeg, fLt, fLe, fGt, fGe, fIsN, fNotN, fEq, fNe, fIn, fNin, fIx, fSl, fLen, fInt, fMax2, fMin2, fAbs, fList, fTuple, svK, svKw, sget, sset, startR, retE, isB, ownK, lstK, intK, seqK, unpT, setK, svOk, bN, bT, sputs, isN_non, isN_bl, isN_int, isN_str, isN_tup, isN_lst, isN_klst, if_true, if_false, Bool.false_eq_true, reduceIte, Bool.not_true, Bool.not_false, decide_true, decide_false, Bool.true_and, Bool.false_and, Bool.and_true, Bool.and_false, Bool.true_or, Bool.false_or, Bool.or_true, Bool.or_false, and_true, true_and, List.length_cons, List.length_nil, List.replicate_succ, List.replicate_zero, Nat.reduceSub]
    refine ⟨by simp [lim]; omega, ?_⟩
    refine lc_ints (fun x => absI (aft A x - aft B x)) M (fun x _ q hq => ?_) ?_
    · simp only [c_aft, mSeq, mSet, mM, mCall, mCons, mNil, mVar, mVarW, mC, mIfS, mIf, mRet, mRetN, mExpr, mPass, mRaise, mUnp, mPar, mPar2F, mSetF, mFrz, mApp, mExt, mPop, mSetIx, mBin, mBinT, mUn, mPrim, mT, mAndT, mOrT, mNotT, mAndV, mOrV, mNotV, mIsi, mLst, mDisp, mTup, mCell, mSl, mNo, mSome, mIt, mRng1, mRng2, mFor, mComp, mYes, mThru, mHeard, mBrk, mCont, mCh, mChT, mCh3, mCat, fAdd, fSub, fMul, fDiv, fMod, fPow, fNeg, fLt, fLe, fGt, fGe, fIsN, fNotN, fEq, fNe, fIn, fNin, fIx, fSl, fLen, fInt, fMax2, fMin2, fAbs, fList, fTuple, svK, svKw, sget, sset, startR, retE, isB, ownK, lstK, intK, seqK, unpT, setK, svOk, bN, bT, sputs, isN_non, isN_bl, isN_int, isN_str, isN_tup, isN_lst, isN_klst, if_true, if_false, Bool.false_eq_true, reduceIte, Bool.not_true, Bool.not_false, decide_true, decide_false, Bool.true_and, Bool.false_and, Bool.and_true, Bool.and_false, Bool.true_or, Bool.false_or, Bool.or_true, Bool.or_false, and_true, true_and, List.length_cons, List.length_nil, List.replicate_succ, List.replicate_zero, Nat.reduceSub]
      exact ⟨ha, ho1, hq⟩
    have e2 : (M.map fun x => D.int (absI (aft A x - aft B x))) = (M.map fun x => absI (aft A x - aft B x)).map D.int := by simp
    rw [e2]
    refine ⟨_, ints_some _, by simpa using sne, fun m h1 h2 => ?_⟩
    have tail : m_law_x04_apart_right_4 c_starts c_aft c_most c_one c_swap_at c_swap_right c_same [.val (.ref r), .val A, .val (.tup [.int t, g, e]), .val B, .val (.lst (M.map .int)), .val (gapD A B), .un, .un, .un, .un] S { nx := fun x S => Q D.non S, rt := Q, ex := fun c d x S => E c d S } := by
      try simp only [m_law_x04_apart_right_4, c_most, mHeard, ha, ho1, hs, mSeq, mSet, mM, mCall, mCons, mNil, mVar, mVarW, mC, mIfS, mIf, mRet, mRetN, mExpr, mPass, mRaise, mUnp, mPar, mPar2F, mSetF, mFrz, mApp, mExt, mPop, mSetIx, mBin, mBinT, mUn, mPrim, mT, mAndT, mOrT, mNotT, mAndV, mOrV, mNotV, mIsi, mLst, mDisp, mTup, mCell, mSl, mNo, mSome, mIt, mRng1, mRng2, mFor, mComp, mYes, mThru, mHeard, mBrk, mCont, mCh, mChT, mCh3, mCat, fAdd, fSub, fMul, fDiv, fMod, fPow, fNeg, fLt, fLe, fGt, fGe, fIsN, fNotN, fEq, fNe, fIn, fNin, fIx, fSl, fLen, fInt, fMax2, fMin2, fAbs, fList, fTuple, svK, svKw, sget, sset, startR, retE, isB, ownK, lstK, intK, seqK, unpT, setK, svOk, bN, bT, sputs, isN_non, isN_bl, isN_int, isN_str, isN_tup, isN_lst, isN_klst, if_true, if_false, Bool.false_eq_true, reduceIte, Bool.not_true, Bool.not_false, decide_true, decide_false, Bool.true_and, Bool.false_and, Bool.and_true, Bool.and_false, Bool.true_or, Bool.false_or, Bool.or_true, Bool.or_false, and_true, true_and, List.length_cons, List.length_nil, List.replicate_succ, List.replicate_zero, Nat.reduceSub]
      refine ⟨ha40, ho40, by decide, ?_⟩
      try simp only [m_law_x04_apart_right_5, c_most, mHeard, ha, ho1, hs, gs, mSeq, mSet, mM, mCall, mCons, mNil, mVar, mVarW, mC, mIfS, mIf, mRet, mRetN, mExpr, mPass, mRaise, mUnp, mPar, mPar2F, mSetF, mFrz, mApp, mExt, mPop, mSetIx, mBin, mBinT, mUn, mPrim, mT, mAndT, mOrT, mNotT, mAndV, mOrV, mNotV, mIsi, mLst, mDisp, mTup, mCell, mSl, mNo, mSome, mIt, mRng1, mRng2, mFor, mComp, mYes, mThru, mHeard, mBrk, mCont, mCh, mChT, mCh3, mCat, fAdd, fSub, fMul, fDiv, fMod, fPow, fNeg, fLt, fLe, fGt, fGe, fIsN, fNotN, fEq, fNe, fIn, fNin, fIx, fSl, fLen, fInt, fMax2, fMin2, fAbs, fList, fTuple, svK, svKw, sget, sset, startR, retE, isB, ownK, lstK, intK, seqK, unpT, setK, svOk, bN, bT, sputs, isN_non, isN_bl, isN_int, isN_str, isN_tup, isN_lst, isN_klst, if_true, if_false, Bool.false_eq_true, reduceIte, Bool.not_true, Bool.not_false, decide_true, decide_false, Bool.true_and, Bool.false_and, Bool.and_true, Bool.and_false, Bool.true_or, Bool.false_or, Bool.or_true, Bool.or_false, and_true, true_and, List.length_cons, List.length_nil, List.replicate_succ, List.replicate_zero, Nat.reduceSub]
      refine ⟨ho40, ha40, by simp [lim], ?_⟩
      try simp only [m_law_x04_apart_right_6, c_most, mHeard, mSeq, mSet, mM, mCall, mCons, mNil, mVar, mVarW, mC, mIfS, mIf, mRet, mRetN, mExpr, mPass, mRaise, mUnp, mPar, mPar2F, mSetF, mFrz, mApp, mExt, mPop, mSetIx, mBin, mBinT, mUn, mPrim, mT, mAndT, mOrT, mNotT, mAndV, mOrV, mNotV, mIsi, mLst, mDisp, mTup, mCell, mSl, mNo, mSome, mIt, mRng1, mRng2, mFor, mComp, mYes, mThru, mHeard, mBrk, mCont, mCh, mChT, mCh3, mCat, fAdd, fSub, fMul, fDiv, fMod, fPow, fNeg, fLt, fLe, fGt, fGe, fIsN, fNotN, fEq, fNe, fIn, fNin, fIx, fSl, fLen, fInt, fMax2, fMin2, fAbs, fList, fTuple, svK, svKw, sget, sset, startR, retE, isB, ownK, lstK, intK, seqK, unpT, setK, svOk, bN, bT, sputs, isN_non, isN_bl, isN_int, isN_str, isN_tup, isN_lst, isN_klst, if_true, if_false, Bool.false_eq_true, reduceIte, Bool.not_true, Bool.not_false, decide_true, decide_false, Bool.true_and, Bool.false_and, Bool.and_true, Bool.and_false, Bool.true_or, Bool.false_or, Bool.or_true, Bool.or_false, and_true, true_and, List.length_cons, List.length_nil, List.replicate_succ, List.replicate_zero, Nat.reduceSub]
      subst hA
      simp only [mSeq, mSet, mM, mCall, mCons, mNil, mVar, mVarW, mC, mIfS, mIf, mRet, mRetN, mExpr, mPass, mRaise, mUnp, mPar, mPar2F, mSetF, mFrz, mApp, mExt, mPop, mSetIx, mBin, mBinT, mUn, mPrim, mT, mAndT, mOrT, mNotT, mAndV, mOrV, mNotV, mIsi, mLst, mDisp, mTup, mCell, mSl, mNo, mSome, mIt, mRng1, mRng2, mFor, mComp, mYes, mThru, mHeard, mBrk, mCont, mCh, mChT, mCh3, mCat, fAdd, fSub, fMul, fDiv, fMod, fPow, fNeg, fLt, fLe, fGt, fGe, fIsN, fNotN, fEq, fNe, fIn, fNin, fIx, fSl, fLen, fInt, fMax2, fMin2, fAbs, fList, fTuple, svK, svKw, sget, sset, startR, retE, isB, ownK, lstK, intK, seqK, unpT, setK, svOk, bN, bT, sputs, isN_non, isN_bl, isN_int, isN_str, isN_tup, isN_lst, isN_klst, if_true, if_false, Bool.false_eq_true, reduceIte, Bool.not_true, Bool.not_false, decide_true, decide_false, Bool.true_and, Bool.false_and, Bool.and_true, Bool.and_false, Bool.true_or, Bool.false_or, Bool.or_true, Bool.or_false, and_true, true_and, List.length_cons, List.length_nil, List.replicate_succ, List.replicate_zero, Nat.reduceSub, e1]
      refine ⟨_, at0, ?_⟩
      try simp only [mSeq, mSet, mM, mCall, mCons, mNil, mVar, mVarW, mC, mIfS, mIf, mRet, mRetN, mExpr, mPass, mRaise, mUnp, mPar, mPar2F, mSetF, mFrz, mApp, mExt, mPop, mSetIx, mBin, mBinT, mUn, mPrim, mT, mAndT, mOrT, mNotT, mAndV, mOrV, mNotV, mIsi, mLst, mDisp, mTup, mCell, mSl, mNo, mSome, mIt, mRng1, mRng2, mFor, mComp, mYes, mThru, mHeard, mBrk, mCont, mCh, mChT, mCh3, mCat, fAdd, fSub, fMul, fDiv, fMod, fPow, fNeg, fLt, fLe, fGt, fGe, fIsN, fNotN, fEq, fNe, fIn, fNin, fIx, fSl, fLen, fInt, fMax2, fMin2, fAbs, fList, fTuple, svK, svKw, sget, sset, startR, retE, isB, ownK, lstK, intK, seqK, unpT, setK, svOk, bN, bT, sputs, isN_non, isN_bl, isN_int, isN_str, isN_tup, isN_lst, isN_klst, if_true, if_false, Bool.false_eq_true, reduceIte, Bool.not_true, Bool.not_false, decide_true, decide_false, Bool.true_and, Bool.false_and, Bool.and_true, Bool.and_false, Bool.true_or, Bool.false_or, Bool.or_true, Bool.or_false, and_true, true_and, List.length_cons, List.length_nil, List.replicate_succ, List.replicate_zero, Nat.reduceSub]
      have h3 := ho (s + 1)
      have e3 : ([D.int (s + 1)] ++ [g, e] : List D) = [D.int (s + 1), g, e] := rfl
      have ne : ¬ shI (.tup [.int s, f, c]) = shI (.tup [.int (s + 1), g, e]) := by
        show ¬ s = s + 1
        omega
      refine ⟨by decide, by decide, ?_⟩
      try simp only [e3, ha, h3, in_unl, mSeq, mSet, mM, mCall, mCons, mNil, mVar, mVarW, mC, mIfS, mIf, mRet, mRetN, mExpr, mPass, mRaise, mUnp, mPar, mPar2F, mSetF, mFrz, mApp, mExt, mPop, mSetIx, mBin, mBinT, mUn, mPrim, mT, mAndT, mOrT, mNotT, mAndV, mOrV, mNotV, mIsi, mLst, mDisp, mTup, mCell, mSl, mNo, mSome, mIt, mRng1, mRng2, mFor, mComp, mYes, mThru, mHeard, mBrk, mCont, mCh, mChT, mCh3, mCat, fAdd, fSub, fMul, fDiv, fMod, fPow, fNeg, fLt, fLe, fGt, fGe, fIsN, fNotN, fEq, fNe, fIn, fNin, fIx, fSl, fLen, fInt, fMax2, fMin2, fAbs, fList, fTuple, svK, svKw, sget, sset, startR, retE, isB, ownK, lstK, intK, seqK, unpT, setK, svOk, bN, bT, sputs, isN_non, isN_bl, isN_int, isN_str, isN_tup, isN_lst, isN_klst, if_true, if_false, Bool.false_eq_true, reduceIte, Bool.not_true, Bool.not_false, decide_true, decide_false, Bool.true_and, Bool.false_and, Bool.and_true, Bool.and_false, Bool.true_or, Bool.false_or, Bool.or_true, Bool.or_false, and_true, true_and, List.length_cons, List.length_nil, List.replicate_succ, List.replicate_zero, Nat.reduceSub]
      refine ⟨ha40, (fault_ok h3).1 39, ?_⟩
      rw [if_neg ne]
      refine heardL_of to_unl ⟨by simp [lim], ?_⟩
      try simp only [m_law_x04_apart_right_7, c_one, mSeq, mSet, mM, mCall, mCons, mNil, mVar, mVarW, mC, mIfS, mIf, mRet, mRetN, mExpr, mPass, mRaise, mUnp, mPar, mPar2F, mSetF, mFrz, mApp, mExt, mPop, mSetIx, mBin, mBinT, mUn, mPrim, mT, mAndT, mOrT, mNotT, mAndV, mOrV, mNotV, mIsi, mLst, mDisp, mTup, mCell, mSl, mNo, mSome, mIt, mRng1, mRng2, mFor, mComp, mYes, mThru, mHeard, mBrk, mCont, mCh, mChT, mCh3, mCat, fAdd, fSub, fMul, fDiv, fMod, fPow, fNeg, fLt, fLe, fGt, fGe, fIsN, fNotN, fEq, fNe, fIn, fNin, fIx, fSl, fLen, fInt, fMax2, fMin2, fAbs, fList, fTuple, svK, svKw, sget, sset, startR, retE, isB, ownK, lstK, intK, seqK, unpT, setK, svOk, bN, bT, sputs, isN_non, isN_bl, isN_int, isN_str, isN_tup, isN_lst, isN_klst, if_true, if_false, Bool.false_eq_true, reduceIte, Bool.not_true, Bool.not_false, decide_true, decide_false, Bool.true_and, Bool.false_and, Bool.and_true, Bool.and_false, Bool.true_or, Bool.false_or, Bool.or_true, Bool.or_false, and_true, true_and, List.length_cons, List.length_nil, List.replicate_succ, List.replicate_zero, Nat.reduceSub]
      refine ⟨by decide, by decide, by decide, by decide, by decide, by decide, by decide, by decide, hJ, ⟨by decide, by decide⟩, fun p hp S1 J1 => ?_⟩
      have hp2 : ∃ b i, p = .tup [b, .int i] ∧ fault b = some i ∧ b.okE 40 = true := by
        simp only [List.mem_cons, List.not_mem_nil, or_false] at hp
        rcases hp with rfl | rfl | rfl | rfl
        · exact ⟨_, _, rfl, by decide, by decide⟩
        · exact ⟨_, _, rfl, by decide, by decide⟩
        · exact ⟨_, _, rfl, by decide, by decide⟩
        · exact ⟨_, _, rfl, by decide, by decide⟩
      obtain ⟨b, i, rfl, fb, b40⟩ := hp2
      try simp only [m_law_x04_apart_right_8, c_most, mHeard, fb, in_chg, mSeq, mSet, mM, mCall, mCons, mNil, mVar, mVarW, mC, mIfS, mIf, mRet, mRetN, mExpr, mPass, mRaise, mUnp, mPar, mPar2F, mSetF, mFrz, mApp, mExt, mPop, mSetIx, mBin, mBinT, mUn, mPrim, mT, mAndT, mOrT, mNotT, mAndV, mOrV, mNotV, mIsi, mLst, mDisp, mTup, mCell, mSl, mNo, mSome, mIt, mRng1, mRng2, mFor, mComp, mYes, mThru, mHeard, mBrk, mCont, mCh, mChT, mCh3, mCat, fAdd, fSub, fMul, fDiv, fMod, fPow, fNeg, fLt, fLe, fGt, fGe, fIsN, fNotN, fEq, fNe, fIn, fNin, fIx, fSl, fLen, fInt, fMax2, fMin2, fAbs, fList, fTuple, svK, svKw, sget, sset, startR, retE, isB, ownK, lstK, intK, seqK, unpT, setK, svOk, bN, bT, sputs, isN_non, isN_bl, isN_int, isN_str, isN_tup, isN_lst, isN_klst, if_true, if_false, Bool.false_eq_true, reduceIte, Bool.not_true, Bool.not_false, decide_true, decide_false, Bool.true_and, Bool.false_and, Bool.and_true, Bool.and_false, Bool.true_or, Bool.false_or, Bool.or_true, Bool.or_false, and_true, true_and, List.length_cons, List.length_nil, List.replicate_succ, List.replicate_zero, Nat.reduceSub]
      refine ⟨b40, heardL_of to_chg ⟨by simp [lim], ?_⟩⟩
      try simp only [m_law_x04_apart_right_9, c_most, mHeard, ha, fb, in_chg, mSeq, mSet, mM, mCall, mCons, mNil, mVar, mVarW, mC, mIfS, mIf, mRet, mRetN, mExpr, mPass, mRaise, mUnp, mPar, mPar2F, mSetF, mFrz, mApp, mExt, mPop, mSetIx, mBin, mBinT, mUn, mPrim, mT, mAndT, mOrT, mNotT, mAndV, mOrV, mNotV, mIsi, mLst, mDisp, mTup, mCell, mSl, mNo, mSome, mIt, mRng1, mRng2, mFor, mComp, mYes, mThru, mHeard, mBrk, mCont, mCh, mChT, mCh3, mCat, fAdd, fSub, fMul, fDiv, fMod, fPow, fNeg, fLt, fLe, fGt, fGe, fIsN, fNotN, fEq, fNe, fIn, fNin, fIx, fSl, fLen, fInt, fMax2, fMin2, fAbs, fList, fTuple, svK, svKw, sget, sset, startR, retE, isB, ownK, lstK, intK, seqK, unpT, setK, svOk, bN, bT, sputs, isN_non, isN_bl, isN_int, isN_str, isN_tup, isN_lst, isN_klst, if_true, if_false, Bool.false_eq_true, reduceIte, Bool.not_true, Bool.not_false, decide_true, decide_false, Bool.true_and, Bool.false_and, Bool.and_true, Bool.and_false, Bool.true_or, Bool.false_or, Bool.or_true, Bool.or_false, and_true, true_and, List.length_cons, List.length_nil, List.replicate_succ, List.replicate_zero, Nat.reduceSub]
      refine ⟨ha40, b40, heardL_of to_chg ⟨by simp [lim], ?_⟩⟩
      try simp only [m_law_x04_apart_right_10, c_swap_at, mHeard, ha, fb, in_chg, mSeq, mSet, mM, mCall, mCons, mNil, mVar, mVarW, mC, mIfS, mIf, mRet, mRetN, mExpr, mPass, mRaise, mUnp, mPar, mPar2F, mSetF, mFrz, mApp, mExt, mPop, mSetIx, mBin, mBinT, mUn, mPrim, mT, mAndT, mOrT, mNotT, mAndV, mOrV, mNotV, mIsi, mLst, mDisp, mTup, mCell, mSl, mNo, mSome, mIt, mRng1, mRng2, mFor, mComp, mYes, mThru, mHeard, mBrk, mCont, mCh, mChT, mCh3, mCat, fAdd, fSub, fMul, fDiv, fMod, fPow, fNeg, fLt, fLe, fGt, fGe, fIsN, fNotN, fEq, fNe, fIn, fNin, fIx, fSl, fLen, fInt, fMax2, fMin2, fAbs, fList, fTuple, svK, svKw, sget, sset, startR, retE, isB, ownK, lstK, intK, seqK, unpT, setK, svOk, bN, bT, sputs, isN_non, isN_bl, isN_int, isN_str, isN_tup, isN_lst, isN_klst, if_true, if_false, Bool.false_eq_true, reduceIte, Bool.not_true, Bool.not_false, decide_true, decide_false, Bool.true_and, Bool.false_and, Bool.and_true, Bool.and_false, Bool.true_or, Bool.false_or, Bool.or_true, Bool.or_false, and_true, true_and, List.length_cons, List.length_nil, List.replicate_succ, List.replicate_zero, Nat.reduceSub]
      refine ⟨ha40, b40, heardL_of to_chg ⟨by simp [lim], ?_⟩⟩
      try simp only [m_law_x04_apart_right_11, c_swap_right, mHeard, fb, in_chg, mSeq, mSet, mM, mCall, mCons, mNil, mVar, mVarW, mC, mIfS, mIf, mRet, mRetN, mExpr, mPass, mRaise, mUnp, mPar, mPar2F, mSetF, mFrz, mApp, mExt, mPop, mSetIx, mBin, mBinT, mUn, mPrim, mT, mAndT, mOrT, mNotT, mAndV, mOrV, mNotV, mIsi, mLst, mDisp, mTup, mCell, mSl, mNo, mSome, mIt, mRng1, mRng2, mFor, mComp, mYes, mThru, mHeard, mBrk, mCont, mCh, mChT, mCh3, mCat, fAdd, fSub, fMul, fDiv, fMod, fPow, fNeg, fLt, fLe, fGt, fGe, fIsN, fNotN, fEq, fNe, fIn, fNin, fIx, fSl, fLen, fInt, fMax2, fMin2, fAbs, fList, fTuple, svK, svKw, sget, sset, startR, retE, isB, ownK, lstK, intK, seqK, unpT, setK, svOk, bN, bT, sputs, isN_non, isN_bl, isN_int, isN_str, isN_tup, isN_lst, isN_klst, if_true, if_false, Bool.false_eq_true, reduceIte, Bool.not_true, Bool.not_false, decide_true, decide_false, Bool.true_and, Bool.false_and, Bool.and_true, Bool.and_false, Bool.true_or, Bool.false_or, Bool.or_true, Bool.or_false, and_true, true_and, List.length_cons, List.length_nil, List.replicate_succ, List.replicate_zero, Nat.reduceSub]
      refine ⟨b40, heardL_of to_chg ⟨by simp [lim], ?_⟩⟩
      try simp only [m_law_x04_apart_right_12, c_same, mSeq, mSet, mM, mCall, mCons, mNil, mVar, mVarW, mC, mIfS, mIf, mRet, mRetN, mExpr, mPass, mRaise, mUnp, mPar, mPar2F, mSetF, mFrz, mApp, mExt, mPop, mSetIx, mBin, mBinT, mUn, mPrim, mT, mAndT, mOrT, mNotT, mAndV, mOrV, mNotV, mIsi, mLst, mDisp, mTup, mCell, mSl, mNo, mSome, mIt, mRng1, mRng2, mFor, mComp, mYes, mThru, mHeard, mBrk, mCont, mCh, mChT, mCh3, mCat, fAdd, fSub, fMul, fDiv, fMod, fPow, fNeg, fLt, fLe, fGt, fGe, fIsN, fNotN, fEq, fNe, fIn, fNin, fIx, fSl, fLen, fInt, fMax2, fMin2, fAbs, fList, fTuple, svK, svKw, sget, sset, startR, retE, isB, ownK, lstK, intK, seqK, unpT, setK, svOk, bN, bT, sputs, isN_non, isN_bl, isN_int, isN_str, isN_tup, isN_lst, isN_klst, if_true, if_false, Bool.false_eq_true, reduceIte, Bool.not_true, Bool.not_false, decide_true, decide_false, Bool.true_and, Bool.false_and, Bool.and_true, Bool.and_false, Bool.true_or, Bool.false_or, Bool.or_true, Bool.or_false, and_true, true_and, List.length_cons, List.length_nil, List.replicate_succ, List.replicate_zero, Nat.reduceSub]
      refine ⟨by simp [lim], by decide, by decide, by decide, by simp [lim], by decide, ⟨by decide, by decide, by simp [lim]⟩, by simp [lim], ⟨rfl, ?_, ?_⟩, hQ _ J1⟩
      · have t1 : (D.str "told").okE 30 = true := by decide +kernel
        have t2 : (D.str "BadChange").okE 30 = true := by decide +kernel
        have t3 : (D.str "Unlike").okE 30 = true := by decide +kernel
        refine D.okE_mono _ (show 32 ≤ 50 by decide) (D.okE_lst fun d hd => ?_)
        simp [toldS] at hd
        rcases hd with rfl | rfl | rfl <;> refine D.okE_tup fun y hy => ?_ <;> simp only [List.mem_cons, List.not_mem_nil, or_false] at hy <;> rcases hy with rfl | rfl <;> first | exact t1 | exact t2 | exact t3 | exact gk.1 | rfl
      · have z := gk.2
        simp only [D.sz, D.szs, z, lim, List.append_eq, List.cons_append, List.nil_append]
        omega
    unfold m_law_x04_apart_right_3 mSeq mIfS
    refine unl_core (i := 0) (j := 0) ha ho1 (fun q E h => by simp only [mSeq, mSet, mM, mCall, mCons, mNil, mVar, mVarW, mC, mIfS, mIf, mRet, mRetN, mExpr, mPass, mRaise, mUnp, mPar, mPar2F, mSetF, mFrz, mApp, mExt, mPop, mSetIx, mBin, mBinT, mUn, mPrim, mT, mAndT, mOrT, mNotT, mAndV, mOrV, mNotV, mIsi, mLst, mDisp, mTup, mCell, mSl, mNo, mSome, mIt, mRng1, mRng2, mFor, mComp, mYes, mThru, mHeard, mBrk, mCont, mCh, mChT, mCh3, mCat, fAdd, fSub, fMul, fDiv, fMod, fPow, fNeg, fLt, fLe, fGt, fGe, fIsN, fNotN, fEq, fNe, fIn, fNin, fIx, fSl, fLen, fInt, fMax2, fMin2, fAbs, fList, fTuple, svK, svKw, sget, sset, startR, retE, isB, ownK, lstK, intK, seqK, unpT, setK, svOk, bN, bT, sputs, isN_non, isN_bl, isN_int, isN_str, isN_tup, isN_lst, isN_klst, if_true, if_false, Bool.false_eq_true, reduceIte, Bool.not_true, Bool.not_false, decide_true, decide_false, Bool.true_and, Bool.false_and, Bool.and_true, Bool.and_false, Bool.true_or, Bool.false_or, Bool.or_true, Bool.or_false, and_true, true_and, List.length_cons, List.length_nil, List.replicate_succ, List.replicate_zero, Nat.reduceSub]; exact h) (fun q E h => by simp only [mSeq, mSet, mM, mCall, mCons, mNil, mVar, mVarW, mC, mIfS, mIf, mRet, mRetN, mExpr, mPass, mRaise, mUnp, mPar, mPar2F, mSetF, mFrz, mApp, mExt, mPop, mSetIx, mBin, mBinT, mUn, mPrim, mT, mAndT, mOrT, mNotT, mAndV, mOrV, mNotV, mIsi, mLst, mDisp, mTup, mCell, mSl, mNo, mSome, mIt, mRng1, mRng2, mFor, mComp, mYes, mThru, mHeard, mBrk, mCont, mCh, mChT, mCh3, mCat, fAdd, fSub, fMul, fDiv, fMod, fPow, fNeg, fLt, fLe, fGt, fGe, fIsN, fNotN, fEq, fNe, fIn, fNin, fIx, fSl, fLen, fInt, fMax2, fMin2, fAbs, fList, fTuple, svK, svKw, sget, sset, startR, retE, isB, ownK, lstK, intK, seqK, unpT, setK, svOk, bN, bT, sputs, isN_non, isN_bl, isN_int, isN_str, isN_tup, isN_lst, isN_klst, if_true, if_false, Bool.false_eq_true, reduceIte, Bool.not_true, Bool.not_false, decide_true, decide_false, Bool.true_and, Bool.false_and, Bool.and_true, Bool.and_false, Bool.true_or, Bool.false_or, Bool.or_true, Bool.or_false, and_true, true_and, List.length_cons, List.length_nil, List.replicate_succ, List.replicate_zero, Nat.reduceSub]; exact h) ?_
    unfold gapD at tail
    cases hu : unlike A B with
    | true =>
      rw [hu] at tail
      exact tail
    | false =>
      rw [hu] at tail
      rw [reach_max ha ho1 hs hu (rc hu) h1 h2]
      exact tail
  · exact h.elim
theorem most_hit {a b : D} {S : Store} {Q : EK} {E : XKd} (ha : fault a = none) (hb : fault b = none) (hs : shI a = shI b) (q : Q (gapD a b) S) : c_most [a, b] S Q E := by
  refine ⟨(fault_ok ha).1 39, ?_⟩
  rw [ha]
  refine ⟨(fault_ok hb).1 39, ?_⟩
  rw [hb]
  show (if shI a = shI b then _ else _)
  rw [if_pos hs]
  exact q
theorem swr_hit {a b : D} {x : Int} {S : Store} {Q : EK} {E : XKd} (ha : fault a = none) (hb : fault b = none) (q : Q (.bl (!decide (aft (joinD a b) x = aft (joinD b a) x))) S) : c_swap_right [a, b, .int x] S Q E := by
  refine ⟨(fault_ok ha).1 39, ?_⟩
  rw [ha]
  refine ⟨(fault_ok hb).1 39, ?_⟩
  rw [hb]
  exact ⟨nofun, q⟩
theorem swa_hit {a b : D} {S : Store} {Q : EK} {E : XKd} (ha : fault a = none) (hb : fault b = none) (e : ∀ x, aft (joinD a b) x = aft (joinD b a) x) (q : Q .non S) : c_swap_at [a, b] S Q E := by
  refine ⟨(fault_ok ha).1 39, ?_⟩
  rw [ha]
  refine ⟨(fault_ok hb).1 39, ?_⟩
  rw [hb]
  exact ⟨fun _ => q, fun x h => absurd (e x) h⟩
theorem h_whole4 (ds : List D) (S : Store) (Q : EK) (E : XKd) (hn : ds.length = 1) (h : c_jar ds S Q E) : m_law_x04_whole c_change c_sw c_sw c_swap_at c_swap_right c_most c_same (startR 7 ds) S (retE Q E) := by
  unfold c_jar at h
  split at h
  · rename_i a
    obtain ⟨hJ, hQ⟩ := h
    try simp only [m_law_x04_whole, mSeq, mSet, mM, mCall, mCons, mNil, mVar, mVarW, mC, mIfS, mIf, mRet, mRetN, mExpr, mPass, mRaise, mUnp, mPar, mPar2F, mSetF, mFrz, mApp, mExt, mPop, mSetIx, mBin, mBinT, mUn, mPrim, mT, mAndT, mOrT, mNotT, mAndV, mOrV, mNotV, mIsi, mLst, mDisp, mTup, mCell, mSl, mNo, mSome, mIt, mRng1, mRng2, mFor, mComp, mYes, mThru, mHeard, mBrk, mCont, mCh, mChT, mCh3, mCat, fAdd, fSub, fMul, fDiv, fMod, fPow, fNeg, fLt, fLe, fGt, fGe, fIsN, fNotN, fEq, fNe, fIn, fNin, fIx, fSl, fLen, fInt, fMax2, fMin2, fAbs, fList, fTuple, svK, svKw, sget, sset, startR, retE, isB, ownK, lstK, intK, seqK, unpT, setK, svOk, bN, bT, sputs, isN_non, isN_bl, isN_int, isN_str, isN_tup, isN_lst, isN_klst, if_true, if_false, Bool.false_eq_true, reduceIte, Bool.not_true, Bool.not_false, decide_true, decide_false, Bool.true_and, Bool.false_and, Bool.and_true, Bool.and_false, Bool.true_or, Bool.false_or, Bool.or_true, Bool.or_false, and_true, true_and, List.length_cons, List.length_nil, List.replicate_succ, List.replicate_zero, Nat.reduceSub]
    refine ⟨by decide, ?_⟩
    refine forD_ix (fun i ρ S1 => JS a S1 ∧ ∃ (s1 s5 s6 : SV), ρ = [.val (.ref a), s1, .un, .un, .un, s5, s6]) _ 0 (fun i e he ρ S1 hI G' nx ct bk rt ex => ?_) _ _ ⟨hJ, _, _, _, rfl⟩ (fun ρ S1 hI => ?_)
    · obtain ⟨J, s1, s5, s6, rfl⟩ := hI
      try simp only [c_change, c_sw, mSeq, mSet, mM, mCall, mCons, mNil, mVar, mVarW, mC, mIfS, mIf, mRet, mRetN, mExpr, mPass, mRaise, mUnp, mPar, mPar2F, mSetF, mFrz, mApp, mExt, mPop, mSetIx, mBin, mBinT, mUn, mPrim, mT, mAndT, mOrT, mNotT, mAndV, mOrV, mNotV, mIsi, mLst, mDisp, mTup, mCell, mSl, mNo, mSome, mIt, mRng1, mRng2, mFor, mComp, mYes, mThru, mHeard, mBrk, mCont, mCh, mChT, mCh3, mCat, fAdd, fSub, fMul, fDiv, fMod, fPow, fNeg, fLt, fLe, fGt, fGe, fIsN, fNotN, fEq, fNe, fIn, fNin, fIx, fSl, fLen, fInt, fMax2, fMin2, fAbs, fList, fTuple, svK, svKw, sget, sset, startR, retE, isB, ownK, lstK, intK, seqK, unpT, setK, svOk, bN, bT, sputs, isN_non, isN_bl, isN_int, isN_str, isN_tup, isN_lst, isN_klst, if_true, if_false, Bool.false_eq_true, reduceIte, Bool.not_true, Bool.not_false, decide_true, decide_false, Bool.true_and, Bool.false_and, Bool.and_true, Bool.and_false, Bool.true_or, Bool.false_or, Bool.or_true, Bool.or_false, and_true, true_and, List.length_cons, List.length_nil, List.replicate_succ, List.replicate_zero, Nat.reduceSub]
      refine ⟨J, fun d S2 hd J2 => ⟨J2, fun d' S3 hd' J3 => ?_⟩⟩
      try simp only [c_sw, mSeq, mSet, mM, mCall, mCons, mNil, mVar, mVarW, mC, mIfS, mIf, mRet, mRetN, mExpr, mPass, mRaise, mUnp, mPar, mPar2F, mSetF, mFrz, mApp, mExt, mPop, mSetIx, mBin, mBinT, mUn, mPrim, mT, mAndT, mOrT, mNotT, mAndV, mOrV, mNotV, mIsi, mLst, mDisp, mTup, mCell, mSl, mNo, mSome, mIt, mRng1, mRng2, mFor, mComp, mYes, mThru, mHeard, mBrk, mCont, mCh, mChT, mCh3, mCat, fAdd, fSub, fMul, fDiv, fMod, fPow, fNeg, fLt, fLe, fGt, fGe, fIsN, fNotN, fEq, fNe, fIn, fNin, fIx, fSl, fLen, fInt, fMax2, fMin2, fAbs, fList, fTuple, svK, svKw, sget, sset, startR, retE, isB, ownK, lstK, intK, seqK, unpT, setK, svOk, bN, bT, sputs, isN_non, isN_bl, isN_int, isN_str, isN_tup, isN_lst, isN_klst, if_true, if_false, Bool.false_eq_true, reduceIte, Bool.not_true, Bool.not_false, decide_true, decide_false, Bool.true_and, Bool.false_and, Bool.and_true, Bool.and_false, Bool.true_or, Bool.false_or, Bool.or_true, Bool.or_false, and_true, true_and, List.length_cons, List.length_nil, List.replicate_succ, List.replicate_zero, Nat.reduceSub]
      exact ⟨⟨J3, hd, hd'⟩, fun S4 J4 => ⟨⟨J4, hd, hd'⟩, fun S5 J5 => nx _ _ ⟨J5, _, _, _, rfl⟩⟩⟩
    · obtain ⟨J, s1, s5, s6, rfl⟩ := hI
      try simp only [m_law_x04_whole_1, mSeq, mSet, mM, mCall, mCons, mNil, mVar, mVarW, mC, mIfS, mIf, mRet, mRetN, mExpr, mPass, mRaise, mUnp, mPar, mPar2F, mSetF, mFrz, mApp, mExt, mPop, mSetIx, mBin, mBinT, mUn, mPrim, mT, mAndT, mOrT, mNotT, mAndV, mOrV, mNotV, mIsi, mLst, mDisp, mTup, mCell, mSl, mNo, mSome, mIt, mRng1, mRng2, mFor, mComp, mYes, mThru, mHeard, mBrk, mCont, mCh, mChT, mCh3, mCat, fAdd, fSub, fMul, fDiv, fMod, fPow, fNeg, fLt, fLe, fGt, fGe, fIsN, fNotN, fEq, fNe, fIn, fNin, fIx, fSl, fLen, fInt, fMax2, fMin2, fAbs, fList, fTuple, svK, svKw, sget, sset, startR, retE, isB, ownK, lstK, intK, seqK, unpT, setK, svOk, bN, bT, sputs, isN_non, isN_bl, isN_int, isN_str, isN_tup, isN_lst, isN_klst, if_true, if_false, Bool.false_eq_true, reduceIte, Bool.not_true, Bool.not_false, decide_true, decide_false, Bool.true_and, Bool.false_and, Bool.and_true, Bool.and_false, Bool.true_or, Bool.false_or, Bool.or_true, Bool.or_false, and_true, true_and, List.length_cons, List.length_nil, List.replicate_succ, List.replicate_zero, Nat.reduceSub]
      refine ⟨by decide, by decide, by decide, ?_⟩
      try simp only [m_law_x04_whole_2, mSeq, mSet, mM, mCall, mCons, mNil, mVar, mVarW, mC, mIfS, mIf, mRet, mRetN, mExpr, mPass, mRaise, mUnp, mPar, mPar2F, mSetF, mFrz, mApp, mExt, mPop, mSetIx, mBin, mBinT, mUn, mPrim, mT, mAndT, mOrT, mNotT, mAndV, mOrV, mNotV, mIsi, mLst, mDisp, mTup, mCell, mSl, mNo, mSome, mIt, mRng1, mRng2, mFor, mComp, mYes, mThru, mHeard, mBrk, mCont, mCh, mChT, mCh3, mCat, fAdd, fSub, fMul, fDiv, fMod, fPow, fNeg, fLt, fLe, fGt, fGe, fIsN, fNotN, fEq, fNe, fIn, fNin, fIx, fSl, fLen, fInt, fMax2, fMin2, fAbs, fList, fTuple, svK, svKw, sget, sset, startR, retE, isB, ownK, lstK, intK, seqK, unpT, setK, svOk, bN, bT, sputs, isN_non, isN_bl, isN_int, isN_str, isN_tup, isN_lst, isN_klst, if_true, if_false, Bool.false_eq_true, reduceIte, Bool.not_true, Bool.not_false, decide_true, decide_false, Bool.true_and, Bool.false_and, Bool.and_true, Bool.and_false, Bool.true_or, Bool.false_or, Bool.or_true, Bool.or_false, and_true, true_and, List.length_cons, List.length_nil, List.replicate_succ, List.replicate_zero, Nat.reduceSub]
      refine swr_hit (by decide) (by decide) (swr_hit (by decide) (by decide) ⟨by decide, by decide, swa_hit (by decide) (by decide) (fun x => ?_) ⟨by decide, by decide, swa_hit (by decide) (by decide) (fun x => ?_) ⟨by decide, ?_⟩⟩⟩)
      · rw [join_law (by decide) (by decide), join_law (by decide) (by decide)]
        simp (disch := decide) only [aft_ii]
        omega
      · rw [join_law (by decide) (by decide), join_law (by decide) (by decide)]
        simp only [aft_ni, aft_nn]
        omega
      try simp only [m_law_x04_whole_3, mSeq, mSet, mM, mCall, mCons, mNil, mVar, mVarW, mC, mIfS, mIf, mRet, mRetN, mExpr, mPass, mRaise, mUnp, mPar, mPar2F, mSetF, mFrz, mApp, mExt, mPop, mSetIx, mBin, mBinT, mUn, mPrim, mT, mAndT, mOrT, mNotT, mAndV, mOrV, mNotV, mIsi, mLst, mDisp, mTup, mCell, mSl, mNo, mSome, mIt, mRng1, mRng2, mFor, mComp, mYes, mThru, mHeard, mBrk, mCont, mCh, mChT, mCh3, mCat, fAdd, fSub, fMul, fDiv, fMod, fPow, fNeg, fLt, fLe, fGt, fGe, fIsN, fNotN, fEq, fNe, fIn, fNin, fIx, fSl, fLen, fInt, fMax2, fMin2, fAbs, fList, fTuple, svK, svKw, sget, sset, startR, retE, isB, ownK, lstK, intK, seqK, unpT, setK, svOk, bN, bT, sputs, isN_non, isN_bl, isN_int, isN_str, isN_tup, isN_lst, isN_klst, if_true, if_false, Bool.false_eq_true, reduceIte, Bool.not_true, Bool.not_false, decide_true, decide_false, Bool.true_and, Bool.false_and, Bool.and_true, Bool.and_false, Bool.true_or, Bool.false_or, Bool.or_true, Bool.or_false, and_true, true_and, List.length_cons, List.length_nil, List.replicate_succ, List.replicate_zero, Nat.reduceSub]
      refine ⟨by decide, by decide, most_hit (by decide) (by decide) rfl ⟨by decide, by decide, most_hit (by decide) (by decide) rfl ⟨by decide, by decide, most_hit (by decide) (by decide) rfl ⟨by decide, by decide, ?_⟩⟩⟩⟩
      try simp only [m_law_x04_whole_4, mSeq, mSet, mM, mCall, mCons, mNil, mVar, mVarW, mC, mIfS, mIf, mRet, mRetN, mExpr, mPass, mRaise, mUnp, mPar, mPar2F, mSetF, mFrz, mApp, mExt, mPop, mSetIx, mBin, mBinT, mUn, mPrim, mT, mAndT, mOrT, mNotT, mAndV, mOrV, mNotV, mIsi, mLst, mDisp, mTup, mCell, mSl, mNo, mSome, mIt, mRng1, mRng2, mFor, mComp, mYes, mThru, mHeard, mBrk, mCont, mCh, mChT, mCh3, mCat, fAdd, fSub, fMul, fDiv, fMod, fPow, fNeg, fLt, fLe, fGt, fGe, fIsN, fNotN, fEq, fNe, fIn, fNin, fIx, fSl, fLen, fInt, fMax2, fMin2, fAbs, fList, fTuple, svK, svKw, sget, sset, startR, retE, isB, ownK, lstK, intK, seqK, unpT, setK, svOk, bN, bT, sputs, isN_non, isN_bl, isN_int, isN_str, isN_tup, isN_lst, isN_klst, if_true, if_false, Bool.false_eq_true, reduceIte, Bool.not_true, Bool.not_false, decide_true, decide_false, Bool.true_and, Bool.false_and, Bool.and_true, Bool.and_false, Bool.true_or, Bool.false_or, Bool.or_true, Bool.or_false, and_true, true_and, List.length_cons, List.length_nil, List.replicate_succ, List.replicate_zero, Nat.reduceSub]
      refine ⟨cp (by decide) (by decide), by decide, cp (by decide) (by decide), by decide, most_hit (by decide) (by decide) rfl ⟨by decide, ?_⟩⟩
      try simp only [m_law_x04_whole_5, c_same, mSeq, mSet, mM, mCall, mCons, mNil, mVar, mVarW, mC, mIfS, mIf, mRet, mRetN, mExpr, mPass, mRaise, mUnp, mPar, mPar2F, mSetF, mFrz, mApp, mExt, mPop, mSetIx, mBin, mBinT, mUn, mPrim, mT, mAndT, mOrT, mNotT, mAndV, mOrV, mNotV, mIsi, mLst, mDisp, mTup, mCell, mSl, mNo, mSome, mIt, mRng1, mRng2, mFor, mComp, mYes, mThru, mHeard, mBrk, mCont, mCh, mChT, mCh3, mCat, fAdd, fSub, fMul, fDiv, fMod, fPow, fNeg, fLt, fLe, fGt, fGe, fIsN, fNotN, fEq, fNe, fIn, fNin, fIx, fSl, fLen, fInt, fMax2, fMin2, fAbs, fList, fTuple, svK, svKw, sget, sset, startR, retE, isB, ownK, lstK, intK, seqK, unpT, setK, svOk, bN, bT, sputs, isN_non, isN_bl, isN_int, isN_str, isN_tup, isN_lst, isN_klst, if_true, if_false, Bool.false_eq_true, reduceIte, Bool.not_true, Bool.not_false, decide_true, decide_false, Bool.true_and, Bool.false_and, Bool.and_true, Bool.and_false, Bool.true_or, Bool.false_or, Bool.or_true, Bool.or_false, and_true, true_and, List.length_cons, List.length_nil, List.replicate_succ, List.replicate_zero, Nat.reduceSub]
      refine ⟨cp (by decide) (by decide), .inl (.inl ⟨by decide, by decide⟩), by decide, ⟨?_, by decide +kernel, by decide +kernel⟩, hQ _ J⟩
      rfl
  · exact h.elim
theorem h_law (ds : List D) (S : Store) (Q : EK) (E : XKd) (hn : ds.length = 1) (h : lawCon ds S Q E) : m_law c_jar c_pool (startR 1 ds) S (retE Q E) := by
  obtain ⟨ns, rfl, hl, _, hQ⟩ := h
  try simp only [m_law, c_jar, c_pool, mSeq, mSet, mM, mCall, mCons, mNil, mVar, mVarW, mC, mIfS, mIf, mRet, mRetN, mExpr, mPass, mRaise, mUnp, mPar, mPar2F, mSetF, mFrz, mApp, mExt, mPop, mSetIx, mBin, mBinT, mUn, mPrim, mT, mAndT, mOrT, mNotT, mAndV, mOrV, mNotV, mIsi, mLst, mDisp, mTup, mCell, mSl, mNo, mSome, mIt, mRng1, mRng2, mFor, mComp, mYes, mThru, mHeard, mBrk, mCont, mCh, mChT, mCh3, mCat, fAdd, fSub, fMul, fDiv, fMod, fPow, fNeg, fLt, fLe, fGt, fGe, fIsN, fNotN, fEq, fNe, fIn, fNin, fIx, fSl, fLen, fInt, fMax2, fMin2, fAbs, fList, fTuple, svK, svKw, sget, sset, startR, retE, isB, ownK, lstK, intK, seqK, unpT, setK, svOk, bN, bT, sputs, isN_non, isN_bl, isN_int, isN_str, isN_tup, isN_lst, isN_klst, if_true, if_false, Bool.false_eq_true, reduceIte, Bool.not_true, Bool.not_false, decide_true, decide_false, Bool.true_and, Bool.false_and, Bool.and_true, Bool.and_false, Bool.true_or, Bool.false_or, Bool.or_true, Bool.or_false, and_true, true_and, List.length_cons, List.length_nil, List.replicate_succ, List.replicate_zero, Nat.reduceSub]
  exact ⟨⟨ns, rfl, hl⟩, fun a S' J _ => ⟨J, fun S2 _ => hQ S2⟩⟩
end LK04

set_option Elab.async false
set_option linter.all false
set_option maxRecDepth 100000
set_option maxHeartbeats 0
/-! the join of answersstacked_k04_changes_swapped: printed by gen.py -/
namespace LK04
open PySem PySem.Spec PyProof.Rows L2 TL
section
variable {wd : World} {K : KF} {mg : Str → Option Value} {base h : Heap}
theorem F_whole (Hd : HD wd K mg base h) : FnP Pr wd K mg base (tabsT K tf) "whole" 1 1 c_whole := ok_whole Hd h_whole
theorem F_wrong_change (Hd : HD wd K mg base h) : FnP Pr wd K mg base (tabsT K tf) "wrong_change" 1 2 c_fault := ok_wrong_change Hd (F_whole Hd) h_wrong_change
theorem F_after_of (Hd : HD wd K mg base h) : FnP Pr wd K mg base (tabsT K tf) "after_of" 2 1 c_aft := ok_after_of Hd h_aft
theorem F_made_change (Hd : HD wd K mg base h) : FnP Pr wd K mg base (tabsT K tf) "made_change" 1 3 c_made_change := ok_made_change Hd (F_wrong_change Hd) h_made_change
theorem F_joined_of (Hd : HD wd K mg base h) : FnP Pr wd K mg base (tabsT K tf) "joined_of" 2 2 c_joined_of := ok_joined_of Hd (F_after_of Hd) h_joined_of
theorem F_bends (Hd : HD wd K mg base h) : FnP Pr wd K mg base (tabsT K tf) "bends" 1 1 c_bends := ok_bends Hd h_bends
theorem F_far_starts (Hd : HD wd K mg base h) : FnP Pr wd K mg base (tabsT K tf) "far_starts" 4 1 c_far := ok_far_starts Hd h_far
theorem F_breaks (Hd : HD wd K mg base h) : FnP Pr wd K mg base (tabsT K tf) "breaks" 2 2 c_breaks := ok_breaks Hd (F_bends Hd) (F_far_starts Hd) h_breaks
theorem F_apart_of (Hd : HD wd K mg base h) : FnP Pr wd K mg base (tabsT K tf) "apart_of" 2 3 c_apart_of := ok_apart_of Hd (F_breaks Hd) (F_after_of Hd) h_apart_of
theorem F_swap_at (Hd : HD wd K mg base h) : FnP Pr wd K mg base (tabsT K tf) "swap_at" 2 4 c_swap_at := ok_swap_at Hd (F_made_change Hd) (F_joined_of Hd) (F_breaks Hd) (F_after_of Hd) h_swap_at
theorem F_swap_right (Hd : HD wd K mg base h) : FnP Pr wd K mg base (tabsT K tf) "swap_right" 3 4 c_swap_right := ok_swap_right Hd (F_made_change Hd) (F_after_of Hd) (F_joined_of Hd) (F_whole Hd) h_swap_right
theorem F_most_apart (Hd : HD wd K mg base h) : FnP Pr wd K mg base (tabsT K tf) "most_apart" 2 4 c_most := ok_most_apart Hd (F_made_change Hd) (F_apart_of Hd) h_most
theorem F_law_pool (Hd : HD wd K mg base h) : FnP Pr wd K mg base (tabsT K tf) "_law_pool" 1 1 c_pool := ok_law_pool Hd h_pool
theorem F_law_take (Hd : HD wd K mg base h) : FnP Pr wd K mg base (tabsT K tf) "_law_take" 2 1 c_take := ok_law_take Hd h_take
theorem F_law_one (Hd : HD wd K mg base h) : FnP Pr wd K mg base (tabsT K tf) "_law_one" 2 2 c_one := ok_law_one Hd (F_law_take Hd) h_one
theorem F_law_aw_is_number (Hd : HD wd K mg base h) : FnP Pr wd K mg base (tabsT K tf) "_law_aw_is_number" 1 1 c_whole := ok_law_aw_is_number Hd h_whole
theorem F_law_aw_after (Hd : HD wd K mg base h) : FnP Pr wd K mg base (tabsT K tf) "_law_aw_after" 2 1 c_aft := ok_law_aw_after Hd h_law_aft
theorem F_law_aw_joined (Hd : HD wd K mg base h) : FnP Pr wd K mg base (tabsT K tf) "_law_aw_joined" 2 2 c_joined_of := ok_law_aw_joined Hd (F_law_aw_after Hd) h_joined_of
theorem F_law_aw_change (Hd : HD wd K mg base h) : FnP Pr wd K mg base (tabsT K tf) "_law_aw_change" 1 2 c_change := ok_law_aw_change Hd (F_law_take Hd) h_aw_change
theorem F_law_aw_great (Hd : HD wd K mg base h) : FnP Pr wd K mg base (tabsT K tf) "_law_aw_great" 1 3 c_change := ok_law_aw_great Hd (F_law_one Hd) h_aw_great
theorem F_law_aq_is_whole (Hd : HD wd K mg base h) : FnP Pr wd K mg base (tabsT K tf) "_law_aq_is_whole" 1 1 c_whole := ok_law_aq_is_whole Hd h_whole
theorem F_law_aq_same (Hd : HD wd K mg base h) : FnP Pr wd K mg base (tabsT K tf) "_law_aq_same" 2 2 c_same := ok_law_aq_same Hd (F_law_aq_is_whole Hd) h_same
theorem F_law_x04_draw (Hd : HD wd K mg base h) : FnP Pr wd K mg base (tabsT K tf) "_law_x04_draw" 1 4 c_change := ok_law_x04_draw Hd (F_law_take Hd) (F_law_aw_great Hd) (F_law_aw_change Hd) h_draw
theorem F_law_x04_starts (Hd : HD wd K mg base h) : FnP Pr wd K mg base (tabsT K tf) "_law_x04_starts" 1 1 c_starts := ok_law_x04_starts Hd h_starts
theorem F_law_x04_swap_right (Hd : HD wd K mg base h) : FnP Pr wd K mg base (tabsT K tf) "_law_x04_swap_right" 3 7 c_sw := ok_law_x04_swap_right Hd (F_law_aw_joined Hd) (F_law_x04_starts Hd) (F_law_aw_after Hd) (F_swap_at Hd) (F_law_aw_is_number Hd) (F_law_one Hd) (F_swap_right Hd) (F_law_aq_same Hd) (ok_law_x04_heard Hd) h_sw
theorem F_law_x04_apart_right (Hd : HD wd K mg base h) : FnP Pr wd K mg base (tabsT K tf) "_law_x04_apart_right" 3 7 c_sw := ok_law_x04_apart_right Hd (F_law_x04_starts Hd) (F_law_aw_after Hd) (F_most_apart Hd) (F_law_one Hd) (F_swap_at Hd) (F_swap_right Hd) (F_law_aq_same Hd) (ok_law_x04_heard Hd) h_apart
theorem F_law_x04_whole (Hd : HD wd K mg base h) : FnP Pr wd K mg base (tabsT K tf) "_law_x04_whole" 1 8 c_jar := ok_law_x04_whole Hd (F_law_x04_draw Hd) (F_law_x04_apart_right Hd) (F_law_x04_swap_right Hd) (F_swap_at Hd) (F_swap_right Hd) (F_most_apart Hd) (F_law_aq_same Hd) h_whole4
end
end LK04
theorem PySem.Challenge.cw_answersstacked_k04_changes_swapped_holds : PySem.Challenge.rw_answersstacked_k04_changes_swapped.Holds := by
  exact LK04.holds (fun Hd => LK04.F_law_x04_whole Hd) (fun Hd => LK04.F_law_pool Hd) LK04.h_law

